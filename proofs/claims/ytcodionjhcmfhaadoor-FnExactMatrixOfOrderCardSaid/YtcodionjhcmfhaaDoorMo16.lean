-- Written by hook.py, a program of this session (wip/), which runs the kit's print.py with its own parts; Lean checks it.
import Derived.Test.YtcodionjhcmfhaaDoorMo0
import Derived.Test.YtcodionjhcmfhaaDoorMo15
import Derived.Test.YtcodionjhcmfhaaDoorMoXSq
namespace Go.Proofs.YtcodionjhcmfhaaDoor.Mo
open Go.RowKit Go.Proofs.YtcodionjhcmfhaaDoorW.PrintWords Go.Proofs.YtcodionjhcmfhaaDoorW.PrintLast Go.Proofs.YtcodionjhcmfhaaDoorW.PrintMore Go.Proofs.YtcodionjhcmfhaaDoor.Sq
attribute [local go_sem] max2_int min2_int max_two min_two max_three min_three max_four min_four   -- for this text's walks alone
set_option linter.unusedVariables false
set_option linter.unusedSimpArgs false

def laws_markOrder.f (k : Nat) (a0_0 : Int) (l0_1 : List Int) (a1 : Int) : Option (Int × List Int) := (laws_markIntS.f k l0_1 a1).bind fun bt355 => (some (bt355.1, bt355.2))
set_option maxHeartbeats 8000000 in
set_option maxRecDepth 100000 in
theorem laws_markOrder.calls (k : Nat) (a0_0 : Int) (P0_1_ : Nat → Prop) (u9000_ : Value) (l0_1 : List Int) (a1 : Int) (r1 : Int) (r2 : List Int) (w0 w : World) (hB : Below w0.heap.size w0 w) (ho0_1 : Kd.R (Kd.int .i64) 3 w w0.heap.size P0_1_ u9000_ l0_1) (h : laws_markOrder.f k a0_0 l0_1 a1 = some (r1, r2)) :
  Calls Tryd.prog 13 #[.agg #[.int .i64 a0_0, u9000_], .int .i64 a1] w fun e w' => e = .returned (.int .i64 r1) ∧ Kd.R (Kd.int .i64) 3 w' w0.heap.size (fun k_ => (P0_1_ k_ ∨ w.heap.size ≤ k_)) u9000_ r2 ∧ Below w0.heap.size w0 w' ∧ Kept w w' (fun k_ => P0_1_ k_) := by
 have hu31 := Tryd.underlying31
 have HO0_1 := aM (show Kd.R (Kd.int .i64) 3 w w0.heap.size (fun k_ => (P0_1_ k_ ∨ w.heap.size ≤ k_)) u9000_ l0_1 from Kd.R_mono ho0_1 (fun k_ hk => (.inl hk)))
 have HK := aM (Kept.refl w (fun k_ => P0_1_ k_))
 have HW0 := aM hB.size
 have HB := aM hB
 clear hB
 have H : ((laws_markIntS.f k l0_1 a1).bind fun bt355 => (some (bt355.1, bt355.2))) = some (r1, r2) := h
 clear h
 replace H := bS H
 obtain ⟨⟨t355, t356⟩, A3, H⟩ := H
 try dsimp only at H
 simp only [Option.some.injEq, Prod.mk.injEq] at H
 obtain ⟨rfl, rfl⟩ := H
 obtain ⟨Ao4, co4, eo4⟩ := Kd.R_slice HO0_1.out
 subst eo4
 go_enter Tryd.func13, Tryd.ntmps13
 go_wp2_with (first | ((with_reducible refine gate_dst (N := 2) rfl ?_); refine bE 2 31 #[.int .i64 a0_0, .slice Ao4 l0_1.length co4] ?_; intro gb354 hg w5 hbox hb; have _ := aM (Kd.R_below (rQ HO0_1) hb); have _ := aM (Kept.below (S := (fun k_ => P0_1_ k_)) (by repeat (first | (with_reducible first | exact HK.out | apply Kept.alloc | apply Kept.drewN | apply Kept.drew) | exact HK.out)) hb); have _ := aM (below_step bq hb); have _ := aM (hbox); have _ := aM ((by rw [hg]; exact (by first | exact HK.out.1 | exact (show Kept w _ (fun k_ => P0_1_ k_) from by repeat (first | (with_reducible first | exact HK.out | apply Kept.alloc | apply Kept.drewN | apply Kept.drew) | exact HK.out)).1) : w.heap.size ≤ gb354)); have _ := aM ((by rw [hg]; exact (below_size bq) : w0.heap.size ≤ gb354)); clear HO0_1 HK HB; rename_i HO0_1 HK HB BK354 GW354 GE354; clear hb hbox hg; have hcz6_0 := zc20 BK354; have hcz6_1 := zc21 BK354; have hfz6_0 := blk_frozen BK354.out 0; have hfz6_1 := blk_frozen BK354.out 1) | ((with_reducible refine gate_callee (f := 19) rfl ?_); refine gL (some 8) Tryd.func19 #[.slice Ao4 l0_1.length co4, .int .i64 a1] ?_; (with_reducible refine (laws_markIntS.calls k (fun k_ => some k_ = (.slice Ao4 l0_1.length co4 : Value).ownBlock) (.slice Ao4 l0_1.length co4) l0_1 a1 t355 t356 w0 _ ?side1 ?side2 A3.out).mono ?_); (case side1 => exact bq); (case side2 => exact Kd.R_tight rfl HO0_1.out); rintro e w7 ⟨rfl, hy0, hb, hkp⟩; refine ⟨_, rfl, ?_⟩; have _ := aM (Kd.R_reok rfl hy0 (fun k_ e_ => HO0_1.out.1 k_ e_)); have _ := aM (blk_kept (qQ BK354) hkp (fun hs_ => (fun e_ => (Kd.R_ne HO0_1.out BK354.out (by decide)) e_) hs_)); have _ := aM (Kept.then_ (S := (fun k_ => P0_1_ k_)) (by repeat (first | (with_reducible first | exact HK.out | apply Kept.alloc | apply Kept.drewN | apply Kept.drew | refine Kept.setCell ?_ (.inr GW354.out) _) | exact HK.out)) hkp (fun k_ hs_ => (fun e_ => (HO0_1.out.1 k_ e_.symm)) hs_)); have _ := aM (hb); clear HO0_1 BK354 HK HB; rename_i HO0_1 BK354 HK HB; (try clear hb); (try clear hkp); (try clear hy0)))
 go_ret
 exact ⟨eE, rQ HO0_1, by exact bq, by repeat (first | (with_reducible first | exact HK.out | apply Kept.alloc | apply Kept.drewN | apply Kept.drew | refine Kept.setCell ?_ (.inr GW354.out) _) | exact HK.out)⟩

def laws_markIntSS.l0 : Nat → List (List Int) → Int → Int → Option (Int × List (List Int))
  | 0, _, _, _ => none
  | k + 1, x0, x1, x5 => if x5 < (x0.length : Int) then (if 0 ≤ x5 then ((laws_markIntS.f k (rd_L2 x0 x5) x1).bind fun bt => (laws_markIntSS.l0 k (x0.set (x5 : Int).toNat bt.2) bt.1 (wrap64 (x5 + 1)))) else none) else some (x1, x0)
def laws_markIntSS.f (k : Nat) (l0 : List (List Int)) (a1 : Int) : Option (Int × List (List Int)) := laws_markIntSS.l0 k l0 a1 0
set_option maxHeartbeats 4000000 in
set_option maxRecDepth 100000 in
theorem laws_markIntSS.writes (k : Nat) (ok : Nat → Prop) (u : Value) (l0 : List (List Int)) (a1 r1 : Int) (r2 : List (List Int)) (w0 w : World) (hB : Below w0.heap.size w0 w) (hs0 : Kd.S (Kd.slice 3 (Kd.int .i64)) 22 w w0.heap.size ok u l0) (h : laws_markIntSS.f k l0 a1 = some (r1, r2)) :
    Calls Tryd.prog 43 #[u, .int .i64 a1] w fun e w' => e = .returned (.int .i64 r1) ∧ Kd.S (Kd.slice 3 (Kd.int .i64)) 22 w' w0.heap.size ok u r2 ∧ Below w0.heap.size w0 w' ∧ Kept w w' ok := by
 obtain ⟨A0, c0, rfl⟩ := Kd.S_slice hs0
 have HS := aM hs0
 have HB := aM hB
 have H := aM (show laws_markIntSS.l0 k l0 a1 0 = some (r1, r2) from h)
 clear hs0 hB h
 go_enter Tryd.func43, Tryd.ntmps43
 go_wp2
 go_loopg [1, 5] k (fun kq v1 v5 w' => ∃ (xs : List (List Int)) (x1 x5 : Int), v1 = .int .i64 x1 ∧ v5 = .int .i64 x5 ∧ Aside0 (xs.length = l0.length) ∧ Aside0 (laws_markIntSS.l0 kq xs x1 x5 = some (r1, r2)) ∧ Aside0 (Kd.S (Kd.slice 3 (Kd.int .i64)) 22 w' w0.heap.size ok (.slice A0 l0.length c0) xs) ∧ Aside0 (Below w0.heap.size w0 w') ∧ Aside0 (Kept w w' ok))
 case atStart => exact ⟨l0, a1, 0, rfl, rfl, ⟨rfl⟩, H, HS, HB, ⟨Kept.refl _ _⟩⟩
 case round => (
 clear H HS HB
 obtain ⟨xs, x1, x5, rfl, rfl, HL, HA, HS, HB, HK⟩ := hrel
 cases gk with
 | zero => exact absurd HA.out (by simp [laws_markIntSS.l0])
 | succ k1 => {
 have H := HA.out
 clear HA
 simp only [laws_markIntSS.l0] at H
 rw [HL.out] at H
 by_cases c1 : x5 < (l0.length : Int)
 · {
 rw [if_pos c1] at H
 by_cases c2 : 0 ≤ x5
 · {
 rw [if_pos c2] at H
 obtain ⟨bt, hb, H⟩ := Option.bind_eq_some_iff.mp H
 obtain ⟨q1, q2⟩ := bt
 have HQ := aM hb
 have HN := aM H
 clear hb H
 have hl := HL.out
 obtain ⟨go1, co1, eo1, gb1, gl1, cl1, HG1⟩ := Kd.S_form HS.out (by omega)
 clear hl
 injection eo1 with ea en ec
 subst ea
 subst ec
 clear en gb1 gl1 HG1
 obtain ⟨oki, ce, hcl, hM, hcc, hfr, hoki, hH⟩ := Kd.S_elem HS.out [] x5 c2 (by omega)
 obtain ⟨ve, rfl, hR⟩ := hM
 have hx := hcc 0 ve rfl
 simp only [show (Kd.slice 3 (Kd.int .i64)).sz = 1 from rfl, Nat.mul_one, Nat.add_zero] at hx
 have HR := aM (show (Kd.int .i64).R 3 wr w0.heap.size oki ve (rd_L2 xs x5) from hR)
 have HH := aM hH
 have HO := aM hoki
 clear hcl hcc hfr hoki hH hR
 have c1b : decide (x5 < (l0.length : Int)) = true := decide_eq_true c1
 have c2b : decide (0 ≤ x5) = true := decide_eq_true c2
 go_wp2_with (first | (go_at_call 19; refine (laws_markIntS.calls k1 oki ve (rd_L2 xs x5) x1 q1 q2 w0 _ HB.out HR.out HQ.out).mono ?_; rintro e w2 ⟨rfl, hR2, hB2, hK2⟩; have HR2 := aM hR2; have HB2 := aM hB2; have HK2 := aM hK2; clear hR2 hB2 hK2))
 go_roundg k1
 case measure => omega
 case rel => (
 refine ⟨xs.set x5.toNat q2, q1, wrap64 (x5 + 1), by first | rfl | simp, by first | rfl | simp, ⟨by rw [List.length_set]; exact HL.out⟩, HN, ⟨?_⟩, HB2, ⟨HK.out.then_ HK2.out (fun k_ hk_ => .inl (HO.out k_ hk_).1)⟩⟩
 exact Kd.H_back (Kd.H_kept HH.out HK2.out (fun _ _ hn => hn)) (Kd.M_row (Kd.R_reok rfl HR2.out (fun k_ hk_ => HR.out.1 k_ hk_))) (fun _ hk_ => hk_))}
 · {
 rw [if_neg c2] at H
 exact absurd H (by simp)}}
 · {
 rw [if_neg c1] at H
 have c1b : decide (x5 < (l0.length : Int)) = false := decide_eq_false c1
 obtain ⟨rfl, rfl⟩ := Prod.mk.inj (Option.some.inj H)
 clear H c1
 go_wp2
 go_ret
 exact ⟨rfl, HS.out, HB.out, HK.out⟩}})
def laws_markMatrix.f (k : Nat) (l0 : List (List Int)) (a1 : Int) : Option (Int × List (List Int)) := laws_markIntSS.f k l0 a1
set_option maxHeartbeats 4000000 in
set_option maxRecDepth 100000 in
theorem laws_markMatrix.writes (k : Nat) (ok : Nat → Prop) (u : Value) (l0 : List (List Int)) (a1 r1 : Int) (r2 : List (List Int)) (w0 w : World) (hB : Below w0.heap.size w0 w) (hs0 : Kd.S (Kd.slice 3 (Kd.int .i64)) 22 w w0.heap.size ok u l0) (h : laws_markMatrix.f k l0 a1 = some (r1, r2)) :
    Calls Tryd.prog 14 #[.agg #[u], .int .i64 a1] w fun e w' => e = .returned (.int .i64 r1) ∧ Kd.S (Kd.slice 3 (Kd.int .i64)) 22 w' w0.heap.size ok u r2 ∧ Below w0.heap.size w0 w' ∧ Kept w w' ok := by
 have HS := aM hs0
 have HB := aM hB
 have H := aM (show laws_markIntSS.f k l0 a1 = some (r1, r2) from h)
 have HZ := aM hB.size
 obtain ⟨A0, c0, rfl⟩ := Kd.S_slice hs0
 clear hs0 hB h
 have hu28 := Tryd.underlying28
 go_enter Tryd.func14, Tryd.ntmps14
 go_wp2_with (first | (go_at_call 43; refine (laws_markIntSS.writes k ok (.slice A0 l0.length c0) l0 a1 r1 r2 w0 _ ?s1 ?s2 H.out).mono ?_; (case s1 => exact HB.out.alloc HZ.out _); (case s2 => exact Kd.S_alloc HS.out _); rintro e w2 ⟨rfl, hS2, hB2, hK2⟩; have HS2 := aM hS2; have HB2 := aM hB2; have HK2 := aM hK2; clear hS2 hB2 hK2))
 go_ret
 exact ⟨rfl, HS2.out, HB2.out, ((Kept.refl w ok).alloc _).then_ HK2.out (fun _ hk_ => .inl hk_)⟩
def laws_heldIntS.l0 : Nat → List Int → Int → Int → Option (Int)
 | 0, _, _, _ => none
 | k + 1, x0, x1, x5 => if x5 < (x0.length : Int) then (if 0 ≤ x5 then (if (rd x0 x5) = x1 then (laws_heldIntS.l0 k x0 (wrap64 (x1 + 1)) (wrap64 (x5 + 1))) else (some (-1))) else (none)) else (some x1)
def laws_heldIntS.f (k : Nat) (l0 : List Int) (a1 : Int) : Option (Int) := laws_heldIntS.l0 k l0 a1 0
set_option maxHeartbeats 8000000 in
set_option maxRecDepth 100000 in
theorem laws_heldIntS.calls (k : Nat) (A0 : Option Addr) (c0 : Nat) (l0 : List Int) (a1 : Int) (r : Int) (w : World) (hr0 : Kd.C (Kd.int .i64) w A0 l0.length l0) (hc0 : l0.length ≤ c0) (h : laws_heldIntS.f k l0 a1 = some r) :
  Calls Tryd.prog 20 #[.slice A0 l0.length c0, .int .i64 a1] w fun e w' => e = .returned (.int .i64 r) ∧ Drawn0 w w' := by
 have HR0 := aM hr0
 have HC0 := aM hc0
 clear hr0 hc0
 have H : (laws_heldIntS.l0 k l0 a1 0) = some r := h
 clear h
 have H' := aM H
 clear H
 go_enter Tryd.func20, Tryd.ntmps20
 go_wp2
 go_loopg [1, 5] k (fun kq v1 v5 w' => ∃ (x1_1 : Int) (x5_1 : Int), v1 = .int .i64 x1_1 ∧ v5 = .int .i64 x5_1 ∧ Aside0 (laws_heldIntS.l0 kq l0 x1_1 x5_1 = some r) ∧ Aside0 (kq ≤ k) ∧ Drawn0 w w')
 case atStart => exact ⟨(a1), (0), eR, eR, H', ⟨Nat.le_refl _⟩, by repeat (first | exact Drawn0.refl _ | apply Drawn0.step)⟩
 case round =>
  clear H'
  try clear c2
  try clear p2
  obtain ⟨x1_1, x5_1, rfl, rfl, HA, HK1, ⟨m1, rfl⟩⟩ := hrel
  cases gk with
  | zero => exact absurd HA.out (by simp [laws_heldIntS.l0])
  | succ k1 =>
   have H := HA.out
   clear HA
   simp only [laws_heldIntS.l0] at H
   by_cases c3 : x5_1 < (l0.length : Int)
   ·rw [if_pos c3] at H
    have c3b0 := decide_eq_true c3
    clear c3
    replace H := iD H
    obtain ⟨c4b0, H⟩ := H
    by_cases c5 : (rd l0 x5_1) = x1_1
    ·rw [if_pos c5] at H
     have c5b0 : ((rd l0 x5_1) == x1_1) = true := beq_iff_eq.mpr c5
     have c5b1 : ((rd l0 x5_1) != x1_1) = false := bne_eq_false_iff_eq.mpr c5
     clear c5
     have H' := aM H
     clear H
     have p357 : 0 ≤ (x5_1 : Int) := odt
     have q357 : x5_1 < (l0.length : Int) := odt
     obtain ⟨ad357, e357, hx357_0⟩ := Kd.at_int HR0.out x5_1 p357 q357
     cases e357
     replace p357 := eq_true p357
     replace q357 := eq_true q357
     go_wp2
     go_roundg k1
     case measure => have := HK1.out; omega
     case rel => exact ⟨(wrap64 (x1_1 + 1)), (wrap64 (x5_1 + 1)), eR, eR, H', ⟨by have := HK1.out; omega⟩, by repeat (first | exact Drawn0.refl _ | apply Drawn0.step)⟩
    ·rw [if_neg c5] at H
     have c5b0 : ((rd l0 x5_1) == x1_1) = false := beq_eq_false_iff_ne.mpr c5
     have c5b1 : ((rd l0 x5_1) != x1_1) = true := bne_iff_ne.mpr c5
     obtain rfl := Option.some.inj H
     have p357 : 0 ≤ (x5_1 : Int) := odt
     have q357 : x5_1 < (l0.length : Int) := odt
     obtain ⟨ad357, e357, hx357_0⟩ := Kd.at_int HR0.out x5_1 p357 q357
     cases e357
     replace p357 := eq_true p357
     replace q357 := eq_true q357
     go_wp2
     go_ret
     exact ⟨by first | rfl | (simp; done) | (simp [*]; done), by repeat (first | exact Drawn0.refl _ | apply Drawn0.step)⟩
   ·rw [if_neg c3] at H
    have c3b0 := decide_eq_false c3
    clear c3
    obtain rfl := Option.some.inj H
    go_wp2
    go_ret
    exact ⟨by first | rfl | (simp; done) | (simp [*]; done), by repeat (first | exact Drawn0.refl _ | apply Drawn0.step)⟩

def laws_heldIntSS.l0 : Nat → List (List Int) → Int → Int → Option (Int)
 | 0, _, _, _ => none
 | k + 1, x0, x1, x5 => if x5 < (x0.length : Int) then (if 0 ≤ x5 then ((laws_heldIntS.f k (rd_L2 x0 x5) x1).bind fun t359 => (if t359 < 0 then (some (-1)) else (laws_heldIntSS.l0 k x0 t359 (wrap64 (x5 + 1))))) else (none)) else (some x1)
def laws_heldIntSS.f (k : Nat) (l0 : List (List Int)) (a1 : Int) : Option (Int) := laws_heldIntSS.l0 k l0 a1 0
set_option maxHeartbeats 8000000 in
set_option maxRecDepth 100000 in
theorem laws_heldIntSS.calls (k : Nat) (A0 : Option Addr) (c0 : Nat) (l0 : List (List Int)) (a1 : Int) (r : Int) (w : World) (hr0 : Kd.C (Kd.slice 3 (Kd.int .i64)) w A0 l0.length l0) (hc0 : l0.length ≤ c0) (h : laws_heldIntSS.f k l0 a1 = some r) :
  Calls Tryd.prog 44 #[.slice A0 l0.length c0, .int .i64 a1] w fun e w' => e = .returned (.int .i64 r) ∧ Drawn0 w w' := by
 have HR0 := aM hr0
 have HC0 := aM hc0
 clear hr0 hc0
 have H : (laws_heldIntSS.l0 k l0 a1 0) = some r := h
 clear h
 have H' := aM H
 clear H
 go_enter Tryd.func44, Tryd.ntmps44
 go_wp2
 go_loopg [1, 5] k (fun kq v1 v5 w' => ∃ (x1_1 : Int) (x5_1 : Int), v1 = .int .i64 x1_1 ∧ v5 = .int .i64 x5_1 ∧ Aside0 (laws_heldIntSS.l0 kq l0 x1_1 x5_1 = some r) ∧ Aside0 (kq ≤ k) ∧ Drawn0 w w')
 case atStart => exact ⟨(a1), (0), eR, eR, H', ⟨Nat.le_refl _⟩, by repeat (first | exact Drawn0.refl _ | apply Drawn0.step)⟩
 case round =>
  clear H'
  try clear p2
  obtain ⟨x1_1, x5_1, rfl, rfl, HA, HK1, ⟨m1, rfl⟩⟩ := hrel
  cases gk with
  | zero => exact absurd HA.out (by simp [laws_heldIntSS.l0])
  | succ k1 =>
   have H := HA.out
   clear HA
   simp only [laws_heldIntSS.l0] at H
   by_cases c3 : x5_1 < (l0.length : Int)
   ·rw [if_pos c3] at H
    have c3b0 := decide_eq_true c3
    clear c3
    replace H := iD H
    obtain ⟨c4b0, H⟩ := H
    replace H := bS H
    obtain ⟨t359, A5, H⟩ := H
    try dsimp only at H
    by_cases c6 : t359 < 0
    ·rw [if_pos c6] at H
     have c6b0 := decide_eq_true c6
     clear c6
     obtain rfl := Option.some.inj H
     have p358 : 0 ≤ (x5_1 : Int) := odt
     have q358 : x5_1 < (l0.length : Int) := odt
     obtain ⟨ad358, A358_0, c358_0, e358, hx358_0, hl358_0, hi358_0⟩ := at_L2 HR0.out x5_1 p358 q358
     cases e358
     have HR358_0 := aM hi358_0
     have HC358_0 := aM hl358_0
     clear hi358_0 hl358_0
     replace p358 := eq_true p358
     replace q358 := eq_true q358
     go_wp2_with (first | ((with_reducible refine gate_callee (f := 20) rfl ?_); refine gL (some 17) Tryd.func20 #[.slice A358_0 (rd_L2 l0 x5_1).length c358_0, .int .i64 x1_1] ?_; (with_reducible refine (laws_heldIntS.calls k1 _ _ (rd_L2 l0 x5_1) x1_1 t359 _ (cQ HR358_0.out) HC358_0.out A5.out).mono ?_); rintro e w' ⟨rfl, ⟨nd, rfl⟩⟩; refine ⟨_, rfl, ?_⟩))
     go_ret
     exact ⟨by first | rfl | (simp; done) | (simp [*]; done), by repeat (first | exact Drawn0.refl _ | apply Drawn0.step)⟩
    ·rw [if_neg c6] at H
     have c6b0 := decide_eq_false c6
     clear c6
     have H' := aM H
     clear H
     have p358 : 0 ≤ (x5_1 : Int) := odt
     have q358 : x5_1 < (l0.length : Int) := odt
     obtain ⟨ad358, A358_0, c358_0, e358, hx358_0, hl358_0, hi358_0⟩ := at_L2 HR0.out x5_1 p358 q358
     cases e358
     have HR358_0 := aM hi358_0
     have HC358_0 := aM hl358_0
     clear hi358_0 hl358_0
     replace p358 := eq_true p358
     replace q358 := eq_true q358
     go_wp2_with (first | ((with_reducible refine gate_callee (f := 20) rfl ?_); refine gL (some 17) Tryd.func20 #[.slice A358_0 (rd_L2 l0 x5_1).length c358_0, .int .i64 x1_1] ?_; (with_reducible refine (laws_heldIntS.calls k1 _ _ (rd_L2 l0 x5_1) x1_1 t359 _ (cQ HR358_0.out) HC358_0.out A5.out).mono ?_); rintro e w' ⟨rfl, ⟨nd, rfl⟩⟩; refine ⟨_, rfl, ?_⟩))
     go_roundg k1
     case measure => have := HK1.out; omega
     case rel => exact ⟨(t359), (wrap64 (x5_1 + 1)), eR, eR, H', ⟨by have := HK1.out; omega⟩, by repeat (first | exact Drawn0.refl _ | apply Drawn0.step)⟩
   ·rw [if_neg c3] at H
    have c3b0 := decide_eq_false c3
    clear c3
    obtain rfl := Option.some.inj H
    go_wp2
    go_ret
    exact ⟨by first | rfl | (simp; done) | (simp [*]; done), by repeat (first | exact Drawn0.refl _ | apply Drawn0.step)⟩

def laws_heldMatrix.f (k : Nat) (l0_0 : List (List Int)) (a1 : Int) : Option (Int) := (laws_heldIntSS.f k l0_0 a1).bind fun t361 => (if t361 < 0 then (some (-1)) else (some t361))
set_option maxHeartbeats 8000000 in
set_option maxRecDepth 100000 in
theorem laws_heldMatrix.calls (k : Nat) (A0_0 : Option Addr) (c0_0 : Nat) (l0_0 : List (List Int)) (a1 : Int) (r : Int) (w : World) (hr0_0 : Kd.C (Kd.slice 3 (Kd.int .i64)) w A0_0 l0_0.length l0_0) (hc0_0 : l0_0.length ≤ c0_0) (h : laws_heldMatrix.f k l0_0 a1 = some r) :
  Calls Tryd.prog 15 #[.agg #[.slice A0_0 l0_0.length c0_0], .int .i64 a1] w fun e w' => e = .returned (.int .i64 r) ∧ Below w.heap.size w w' := by
 have hu28 := Tryd.underlying28
 have HR0_0 := aM hr0_0
 have HC0_0 := aM hc0_0
 clear hr0_0 hc0_0
 have HB := aM (Below.refl w.heap.size w)
 have H : ((laws_heldIntSS.f k l0_0 a1).bind fun t361 => (if t361 < 0 then (some (-1)) else (some t361))) = some r := h
 clear h
 replace H := bS H
 obtain ⟨t361, A3, H⟩ := H
 try dsimp only at H
 by_cases c4 : t361 < 0
 ·rw [if_pos c4] at H
  have c4b0 := decide_eq_true c4
  clear c4
  obtain rfl := Option.some.inj H
  go_enter Tryd.func15, Tryd.ntmps15
  go_wp2_with (first | ((with_reducible refine gate_dst (N := 2) rfl ?_); refine bE 2 28 #[.slice A0_0 l0_0.length c0_0] ?_; intro gb360 hg w5 hbox hb; have _ := aM (below_step bq hb); have _ := aM (hbox); have _ := aM ((gS hg)); have _ := aM ((gS hg)); clear HB; rename_i HB BK360 GW360 GE360; clear hb hbox hg; have hcz6_0 := zc10 BK360; have hfz6_0 := blk_frozen BK360.out 0) | ((with_reducible refine gate_callee (f := 44) rfl ?_); refine gL (some 8) Tryd.func44 #[.slice A0_0 l0_0.length c0_0, .int .i64 a1] ?_; (with_reducible refine (laws_heldIntSS.calls k _ _ l0_0 a1 t361 _ (cQ (Kd.C_below HR0_0.out HB.out)) HC0_0.out A3.out).mono ?_); rintro e w' ⟨rfl, ⟨nd, rfl⟩⟩; refine ⟨_, rfl, ?_⟩))
  go_ret
  exact ⟨eE, bq⟩
 ·rw [if_neg c4] at H
  have c4b0 := decide_eq_false c4
  clear c4
  obtain rfl := Option.some.inj H
  go_enter Tryd.func15, Tryd.ntmps15
  go_wp2_with (first | ((with_reducible refine gate_dst (N := 2) rfl ?_); refine bE 2 28 #[.slice A0_0 l0_0.length c0_0] ?_; intro gb360 hg w7 hbox hb; have _ := aM (below_step bq hb); have _ := aM (hbox); have _ := aM ((gS hg)); have _ := aM ((gS hg)); clear HB; rename_i HB BK360 GW360 GE360; clear hb hbox hg; have hcz8_0 := zc10 BK360; have hfz8_0 := blk_frozen BK360.out 0) | ((with_reducible refine gate_callee (f := 44) rfl ?_); refine gL (some 8) Tryd.func44 #[.slice A0_0 l0_0.length c0_0, .int .i64 a1] ?_; (with_reducible refine (laws_heldIntSS.calls k _ _ l0_0 a1 t361 _ (cQ (Kd.C_below HR0_0.out HB.out)) HC0_0.out A3.out).mono ?_); rintro e w' ⟨rfl, ⟨nd, rfl⟩⟩; refine ⟨_, rfl, ?_⟩))
  go_ret
  exact ⟨eE, bq⟩

-- NOT PRINTED: function 3 (laws_FnExactMatrixOfOrder)

end Go.Proofs.YtcodionjhcmfhaaDoor.Mo
