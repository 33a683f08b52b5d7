-- Written by hook.py (wip/), over the kit's print.py.
import Derived.Test.YtcodionjhcmfhaaGreatDoorOa2
import Derived.Test.YtcodionjhcmfhaaGreatDoorOa21
import Derived.Test.YtcodionjhcmfhaaGreatDoorOa29
import Derived.Test.YtcodionjhcmfhaaGreatDoorOa30
import Derived.Test.YtcodionjhcmfhaaGreatDoorOaXSq
import Derived.Test.YtcodionjhcmfhaaGreatDoorOa4
import Derived.Test.YtcodionjhcmfhaaGreatDoorOa8
import Derived.Test.YtcodionjhcmfhaaGreatDoorOa19
import Derived.Test.YtcodionjhcmfhaaGreatDoorOa26
namespace Go.Proofs.YtcodionjhcmfhaaGreatDoor.Oa
open Go.RowKit Go.Proofs.YtcodionjhcmfhaaGreatDoorW.PrintWords Go.Proofs.YtcodionjhcmfhaaGreatDoorW.PrintLast Go.Proofs.YtcodionjhcmfhaaGreatDoorW.PrintMore Go.Proofs.YtcodionjhcmfhaaGreatDoor.Sq
attribute [local go_sem] max2_int min2_int max_two min_two max_three min_three max_four min_four
set_option linter.unusedVariables false
set_option linter.unusedSimpArgs false
set_option maxHeartbeats 8000000
set_option maxRecDepth 100000
def Y44.l0 : Nat → List (S70) → List Int → Int → Int → Option ((List (S70)))
 | 0, _, _, _, _ => none
 | k + 1, x3, x7, x8, x9 => if x9 < x8 then (if 0 ≤ x9 then (if x9 < (x7.length : Int) then ((Y3.f k x3 (rd x7 x9)).bind fun t584 => (Y44.l0 k t584 x7 x8 (wrap64 (x9 + 1)))) else (none)) else (none)) else (some x3)
def Y44.f (k : Nat) (l0 : List Int) : Option ((List (S70))) := Y44.l0 k (([] : List (S70))) l0 (l0.length : Int) 0
theorem Y44.calls (k : Nat) (A0 : Option Addr) (c0 : Nat) (l0 : List Int) (r : List (S70)) (w : World) (hr0 : Kd.C (Kd.int .i64) w A0 l0.length l0) (hc0 : l0.length ≤ c0) (h : Y44.f k l0 = some r) :
  Calls Tryz.prog 50 #[.slice A0 l0.length c0] w fun e w' => ∃ v0_ : Value, e = .returned (v0_) ∧ Kd.R k70 70 w' w.heap.size (fun _ => True) v0_ r ∧ Below w.heap.size w w' := by
 have HR0 := aM hr0
 have HC0 := aM hc0
 clear hr0 hc0
 have HB := aM (Below.refl w.heap.size w)
 have H : (Y44.l0 k (([] : List (S70))) l0 (l0.length : Int) 0) = some r := h
 clear h
 obtain ⟨y580, hy580⟩ := nE ((([] : List (S70))) : List (S70))
 try rw [← hy580] at H
 try with_reducible replace H := (Option.bind_some _ _).symm.trans H
 try dsimp only at H
 have Ny580 := aM hy580
 clear hy580
 have H' := aM H
 clear H
 go_enter Tryz.func50, Tryz.ntmps50
 go_wp2_with (first | ((with_reducible refine gate_dst (N := 6) rfl ?_); refine Kd.R_lit k70 _ 70 ?hg (N := 6) ?hd (xs := ([] : List (S70))) (inner := []) (ok := fun _ => True) (okp := fun _ => True) ?hr ?hp (fun _ hk => hk) trivial (Below.refl _ _) (Nat.le_refl _) (by simp) ?_; (case hd => rfl); (case hg => rfl); (case hr => first | (go_simp; done) | (go_simp; rfl)); (case hp => exact (Reps.none _ _)); intro v581 w2 ho3 hb hg_ hnew_; clear hg_ hnew_; (first | rw [← Ny580.out] at ho3 | (simp only [Int.reduceToNat] at ho3; rw [← Ny580.out] at ho3)); have _ := aM (Kd.R_lower ho3 (below_size bq)); have _ := bB hb; clear HB; rename_i HO582 HB; clear hb ho3))
 go_loopg [3, 9] k (fun kq v3 v9 w' => ∃ (x3_1 : List (S70)) (x9_1 : Int), v9 = .int .i64 x9_1 ∧ Aside0 (Y44.l0 kq x3_1 l0 (l0.length : Int) x9_1 = some r) ∧ Aside0 (kq ≤ k) ∧ Aside0 (Kd.R k70 70 w' w.heap.size (fun _ => True) v3 x3_1) ∧ Aside0 (Below w.heap.size w w'))
 case atStart => exact ⟨(y580), (0), eR, H', ⟨Nat.le_refl _⟩, ⟨rQ HO582⟩, ⟨bq⟩⟩
 case round =>
  clear H'
  obtain ⟨x3_1, x9_1, rfl, HA, HK1, HO_3, HB⟩ := hrel
  cases gk with
  | zero => exact absurd HA.out (by simp [Y44.l0])
  | succ k1 =>
   have H := HA.out
   clear HA
   simp only [Y44.l0] at H
   by_cases c4 : x9_1 < (l0.length : Int)
   ·rw [if_pos c4] at H
    have c4b0 := decide_eq_true c4
    clear c4
    replace H := iD2 H
    obtain ⟨c5b0, c6b0, H⟩ := H
    replace H := bS H
    obtain ⟨t584, A7, H⟩ := H
    try dsimp only at H
    have H' := aM H
    clear H
    have p583 : 0 ≤ (x9_1 : Int) := odt
    have q583 : x9_1 < (l0.length : Int) := odt
    obtain ⟨ad583, e583, hx583_0⟩ := Kd.at_int HR0.out x9_1 p583 q583
    cases e583
    replace hx583_0 := (HB.out.cell (World.block_lt_of_cell? w _ hx583_0)).trans hx583_0
    replace p583 := eq_true p583
    replace q583 := eq_true q583
    obtain ⟨Ao8, co8, eo8⟩ := Kd.R_slice HO_3.out
    subst eo8
    go_wp2_with (first | ((with_reducible refine gate_callee (f := 91) rfl ?_); refine gL (some 15) Tryz.func91 #[.slice Ao8 x3_1.length co8, .int .i64 (rd l0 x9_1)] ?_; (with_reducible refine (Y3.calls k1 _ _ x3_1 (rd l0 x9_1) t584 _ (cQ ((Kd.R_reads' HO_3.out).2.2)) ((Kd.R_reads' HO_3.out).2.1) A7.out).mono ?_); rintro e w9 ⟨v585, rfl, ho0, hb⟩; refine ⟨_, rfl, ?_⟩; have _ := aM (Kd.R_elder' (rQ HO_3) (Kd.R_base ho0) hb); have _ := aM (Kd.R_lower (Kd.R_new' ho0 (Kd.R_lt (rQ HO_3))) (below_size bq)); have _ := bB hb; clear HO_3 HB; rename_i HO_3 HO586 HB; (try clear hb); (try clear ho0)))
    go_roundg k1
    case measure => have := HK1.out; omega
    case rel => exact ⟨(t584), (wrap64 (x9_1 + 1)), eR, H', ⟨by have := HK1.out; omega⟩, ⟨by (with_reducible repeat first|apply rA|apply rN|apply rD); exact Kd.R_mono HO586.out (fun _ hk => trivial)⟩, ⟨bq⟩⟩
   ·rw [if_neg c4] at H
    have c4b0 := decide_eq_false c4
    clear c4
    obtain rfl := Option.some.inj H
    go_wp2
    go_ret
    exact ⟨_, eE, rQ HO_3, bq⟩
def Y68.f (k : Nat) (l0 : List Int) : Option (Int × List Int × Bool) := (Y66.f k l0).bind fun t588 => (if t588 = true then ((Y44.f k l0).bind fun t589 => ((Y4.f t589).bind fun bt592 => (some (bt592.1, bt592.2, true)))) else (some (0, ([] : List Int), false)))
theorem Y68.calls (k : Nat) (A0 : Option Addr) (c0 : Nat) (l0 : List Int) (r1 : Int) (r2 : List Int) (r3 : Bool) (w : World) (hr0 : Kd.C (Kd.int .i64) w A0 l0.length l0) (hc0 : l0.length ≤ c0) (h : Y68.f k l0 = some (r1, r2, r3)) :
  Calls Tryz.prog 21 #[.slice A0 l0.length c0] w fun e w' => ∃ v1_ : Value, e = .returned (.tuple #[.agg #[.int .i64 r1, v1_], .bool r3]) ∧ Kd.R (Kd.int .i64) 3 w' w.heap.size (fun _ => True) v1_ r2 ∧ Below w.heap.size w w' := by
 have hu26 := Tryz.underlying26
 have HR0 := aM hr0
 have HC0 := aM hc0
 clear hr0 hc0
 have HB := aM (Below.refl w.heap.size w)
 unfold Y68.f at h
 have H := h
 clear h
 replace H := bS H
 obtain ⟨t588, A2, H⟩ := H
 try dsimp only at H
 by_cases c3 : t588 = true
 ·subst c3
  have H1 : ((Y44.f k l0).bind fun t589 => ((Y4.f t589).bind fun bt592 => (some (bt592.1, bt592.2, true)))) = some (r1, r2, r3) := by rw [if_pos rfl] at H; exact H
  clear H
  have H := H1
  clear H1
  replace H := bS H
  obtain ⟨t589, A4, H⟩ := H
  try dsimp only at H
  replace H := bS H
  obtain ⟨⟨t592, t593⟩, A5, H⟩ := H
  try dsimp only at H
  simp only [Option.some.injEq, Prod.mk.injEq] at H
  obtain ⟨rfl, rfl, rfl⟩ := H
  go_enter Tryz.func21, Tryz.ntmps21
  go_wp2_with (first | ((with_reducible refine gate_dst (N := 2) rfl ?_); refine bF 2 26 #[.int .i64 0, .slice none 0 0] bq ?_; intro gb587 w6 hg hb _ _ _ _; clear HB; rename_i HB BK587 GW587 GE587; clear hb hg) | ((with_reducible refine gate_callee (f := 49) rfl ?_); refine gL (some 5) Tryz.func49 #[.slice A0 l0.length c0] ?_; (with_reducible refine (Y66.calls k _ _ l0 true _ (cQ (Kd.C_below HR0.out HB.out)) HC0.out A2.out).mono ?_); rintro e w' ⟨rfl, ⟨nd, rfl⟩⟩; refine ⟨_, rfl, ?_⟩; (try (rw [drewN_self w6]; generalize hq_ : World.drewN w6 _ = w6; have _ : Aside0 (w6.heap[gb587]? = some (.cells #[.int .i64 0, .slice none 0 0] 26 (0, 0))) := ⟨by rw [← hq_]; exact (qQ BK587)⟩; have _ : Aside0 (Below w.heap.size w w6) := ⟨by rw [← hq_]; exact bq⟩; clear BK587 HB hq_; rename_i BK587 HB))) | ((with_reducible refine gate_callee (f := 50) rfl ?_); refine gL (some 9) Tryz.func50 #[.slice A0 l0.length c0] ?_; (with_reducible refine (Y44.calls k _ _ l0 t589 _ (cQ (Kd.C_below HR0.out HB.out)) HC0.out A4.out).mono ?_); rintro e w7 ⟨v590, rfl, ho0, hb⟩; refine ⟨_, rfl, ?_⟩; have _ := aM (Kd.R_lower ho0 (below_size bq)); have _ := bK BK587 hb; have _ := bB hb; clear BK587 HB; rename_i HO591 BK587 HB; (try clear hb); (try clear ho0); obtain ⟨Ao8, co8, eo8⟩ := Kd.R_slice HO591.out; subst eo8) | ((with_reducible refine gate_callee (f := 45) rfl ?_); refine gL (some 10) Tryz.func45 #[.slice Ao8 t589.length co8] ?_; (with_reducible refine (Y4.calls _ _ t589 t592 t593 _ (cQ ((Kd.R_reads' HO591.out).2.2)) ((Kd.R_reads' HO591.out).2.1) A5.out).mono ?_); rintro e w9 ⟨v594, rfl, ho0, hb⟩; refine ⟨_, rfl, ?_⟩; have _ := aM (Kd.R_below (rQ HO591) hb); have _ := aM (Kd.R_lower ho0 (below_size bq)); have _ := bK BK587 hb; have _ := bB hb; clear HO591 BK587 HB; rename_i HO591 HO595 BK587 HB; (try clear hb); (try clear ho0); have hcz10_0 := zc20 BK587; have hcz10_1 := zc21 BK587; have hfz10_0 := blk_frozen BK587.out 0; have hfz10_1 := blk_frozen BK587.out 1; obtain ⟨Ao11, co11, eo11⟩ := Kd.R_slice HO595.out; subst eo11))
  refine bodyPost_ret (results_ct rfl _ _ gb587 26 #[.int .i64 t592, .slice Ao11 t593.length co11] (0, 0) _ rfl (by (with_reducible repeat first|apply qN|apply qD|apply qA); refine blk_put (cs := #[.int .i64 t592, .slice none 0 0]) ?_ 1 _ rfl; (with_reducible repeat first|apply qN|apply qD|apply qA); refine blk_put (cs := #[.int .i64 0, .slice none 0 0]) ?_ 0 _ rfl; (with_reducible repeat first|apply qN|apply qD|apply qA); exact BK587.out) Tryz.underlying26 rfl (by kernel_rfl)) rfl ?_
  exact ⟨_, eE, by (with_reducible repeat first|apply rA|apply rN|apply rD); exact Kd.R_mono (Kd.R_far (p := ⟨gb587, 1, none⟩) (Kd.R_far (p := ⟨gb587, 0, none⟩) (Kd.R_types HO595.out BK587.out (by decide)) (fun _ hk => hk.2) (.int .i64 t592)) (fun _ hk => hk.2) (.slice Ao11 t593.length co11)) (fun _ hk => trivial), bq⟩
 ·replace c3 := Bool.eq_false_iff.mpr c3
  subst c3
  have H1 : (some (0, ([] : List Int), false)) = some (r1, r2, r3) := by rw [if_neg (show ¬ (false = true) by decide)] at H; exact H
  clear H
  have H := H1
  clear H1
  simp only [Option.some.injEq, Prod.mk.injEq] at H
  obtain ⟨rfl, rfl, rfl⟩ := H
  go_enter Tryz.func21, Tryz.ntmps21
  go_wp2_with (first | ((with_reducible refine gate_dst (N := 2) rfl ?_); refine bF 2 26 #[.int .i64 0, .slice none 0 0] bq ?_; intro gb587 w12 hg hb _ _ _ _; clear HB; rename_i HB BK587 GW587 GE587; clear hb hg) | ((with_reducible refine gate_callee (f := 49) rfl ?_); refine gL (some 5) Tryz.func49 #[.slice A0 l0.length c0] ?_; (with_reducible refine (Y66.calls k _ _ l0 false _ (cQ (Kd.C_below HR0.out HB.out)) HC0.out A2.out).mono ?_); rintro e w' ⟨rfl, ⟨nd, rfl⟩⟩; refine ⟨_, rfl, ?_⟩; (try (rw [drewN_self w12]; generalize hq_ : World.drewN w12 _ = w12; have _ : Aside0 (w12.heap[gb587]? = some (.cells #[.int .i64 0, .slice none 0 0] 26 (0, 0))) := ⟨by rw [← hq_]; exact (qQ BK587)⟩; have _ : Aside0 (Below w.heap.size w w12) := ⟨by rw [← hq_]; exact bq⟩; clear BK587 HB hq_; rename_i BK587 HB)); have hcz13_0 := zc20 BK587; have hcz13_1 := zc21 BK587; have hfz13_0 := blk_frozen BK587.out 0; have hfz13_1 := blk_frozen BK587.out 1))
  refine bodyPost_ret (results_ct rfl _ _ gb587 26 #[.int .i64 0, .slice none 0 0] (0, 0) _ rfl (by (with_reducible repeat first|apply qN|apply qD|apply qA); refine blk_put (cs := #[.int .i64 0, .slice none 0 0]) ?_ 1 _ rfl; (with_reducible repeat first|apply qN|apply qD|apply qA); refine blk_put (cs := #[.int .i64 0, .slice none 0 0]) ?_ 0 _ rfl; (with_reducible repeat first|apply qN|apply qD|apply qA); exact BK587.out) Tryz.underlying26 rfl (by kernel_rfl)) rfl ?_
  exact ⟨_, eE, by first | exact Kd.R_nil _ _ _ _ _ | exact Kd.N_nil _ _ _ _ _ | exact Kd.V_nil _ _ _ _ _ | exact Kd.Q_nil _ _ _ _ _ | exact Kd.S_nil _ _ _ _ _, bq⟩
def Y37.v (l0 : List ByteArray) (a1 : ByteArray) : List UInt8 := Go.Lib.join (l0.map (·.data.toList)) a1.data.toList
def Y37.f (l0 : List ByteArray) (a1 : ByteArray) : Option ByteArray := if l0.length ≤ 140737488355328 ∧ (Y37.v l0 a1).length ≤ 140737488355328 then some ⟨(Y37.v l0 a1).toArray⟩ else none
theorem Y37.calls (A0 : Option Addr) (c0 : Nat) (l0 : List ByteArray) (a1 : ByteArray) (r : ByteArray) (w : World) (hr0 : Kd.string.C w A0 l0.length l0) (hc0 : l0.length ≤ c0) (h : Y37.f l0 a1 = some r) :
    Calls Tryz.prog 93 #[.slice A0 l0.length c0, .string a1] w fun e w' => e = .returned (.string r) ∧ Below w.heap.size w w' := by
 unfold Y37.f at h
 by_cases c : l0.length ≤ 140737488355328 ∧ (Y37.v l0 a1).length ≤ 140737488355328
 · {
 rw [if_pos c] at h
 obtain rfl := Option.some.inj h
 cases l0 with
 | nil => {
 refine (Go.Proofs.YtcodionjhcmfhaaGreatDoor.XShelf.strings_Join_none A0 c0 a1 w).mono ?_
 rintro e w' ⟨rfl, rfl⟩
 exact ⟨rfl, Below.refl _ _⟩}
 | cons x xs => {
 obtain ⟨ad, _, e, _⟩ := Kd.C_get hr0 ByteArray.empty 0 (by omega) (by simp only [List.length_cons]; omega)
 subst e
 have hcell : ∀ i : Nat, i < (x :: xs).length → w.cell? (ad.add i) = some (.string ((x :: xs).getD i ByteArray.empty)) := by {
 intro i hi
 obtain ⟨ad2, c2, e2, _, hK, hc2⟩ := Kd.C_get hr0 ByteArray.empty (i : Int) (by omega) (by omega)
 obtain rfl : ad = ad2 := Option.some.inj e2
 rw [Int.toNat_natCast] at hK hc2
 have hk : c2 = [.string ((x :: xs).getD i ByteArray.empty)] := hK
 have hq := hc2 0 _ (by rw [hk]; rfl)
 rwa [show Kd.string.sz = 1 from rfl, Nat.mul_one, Nat.add_zero] at hq}
 have h0 := hcell 0 (by simp)
 have hsp : ad.spot = none := by {
 have h1 : w.cell? ad = some (.string ((x :: xs).getD 0 ByteArray.empty)) := h0
 unfold World.cell? at h1
 split at h1
 · {
 cases hs : ad.spot with
 | none => rfl
 | some _ => rw [hs] at h1; simp at h1}
 · simp at h1}
 obtain ⟨bk, o, sp⟩ := ad
 simp only at hsp
 subst hsp
 have hb := World.block_lt_of_cell? w _ h0
 refine (Go.Proofs.YtcodionjhcmfhaaGreatDoor.XShelf.strings_Join bk o c0 (x :: xs) a1 w ?_ hb c.1 hc0 c.2)
 intro j y hj
 have hjl : j < (x :: xs).length := (List.getElem?_eq_some_iff.1 hj).1
 have h2 := hcell j hjl
 rw [List.getD_eq_getElem?_getD, hj] at h2
 have e3 : (Addr.mk bk o none).add j = ⟨bk, o + j, none⟩ := by {
 unfold Addr.add
 by_cases cj : j = 0
 · subst cj; rfl
 · rw [if_neg cj]}
 rw [e3] at h2
 exact h2}}
 · {
 rw [if_neg c] at h
 exact absurd h (by simp)}
def Y69.f (a0 : Int) : Option ByteArray := if 0 ≤ a0 ∧ a0 < 100 then some ⟨(Go.Lib.decDigits a0.toNat).toArray⟩ else none
theorem Y69.calls (a0 : Int) (r : ByteArray) (w : World) (h : Y69.f a0 = some r) :
    Calls Tryz.prog 121 #[.int .i64 a0] w fun e w' => e = .returned (.string r) ∧ Drawn0 w w' := by
 unfold Y69.f at h
 by_cases c : 0 ≤ a0 ∧ a0 < 100
 · {
 rw [if_pos c] at h
 obtain rfl := Option.some.inj h
 obtain ⟨n, rfl⟩ : ∃ n : Nat, a0 = (n : Int) := ⟨a0.toNat, by omega⟩
 refine (Go.Proofs.YtcodionjhcmfhaaGreatDoor.XShelf.strconv_Itoa_small n (by omega) w).mono ?_
 rintro e w' ⟨rfl, rfl⟩
 exact ⟨by rw [Int.toNat_natCast], Drawn0.refl _⟩}
 · {
 rw [if_neg c] at h
 exact absurd h (by simp)}
def Y48.l0 : Nat → List ByteArray → List Int → Int → Int → Option (ByteArray)
 | 0, _, _, _, _ => none
 | k + 1, x3, x7, x8, x9 => if x9 < x8 then (if 0 ≤ x9 then (if x9 < (x7.length : Int) then ((Y69.f (rd x7 x9)).bind fun t600 => (if x3.length < 8796093022208 then (Y48.l0 k (x3 ++ [t600]) x7 x8 (wrap64 (x9 + 1))) else (none))) else (none)) else (none)) else ((Y37.f x3 (⟨#[44]⟩ : ByteArray)).bind fun t604 => (some t604))
def Y48.f (k : Nat) (l0 : List Int) : Option (ByteArray) := Y48.l0 k (([] : List ByteArray)) l0 (l0.length : Int) 0
theorem Y48.calls (k : Nat) (A0 : Option Addr) (c0 : Nat) (l0 : List Int) (r : ByteArray) (w : World) (hr0 : Kd.C (Kd.int .i64) w A0 l0.length l0) (hc0 : l0.length ≤ c0) (h : Y48.f k l0 = some r) :
  Calls Tryz.prog 92 #[.slice A0 l0.length c0] w fun e w' => e = .returned (.string r) ∧ Below w.heap.size w w' := by
 have HR0 := aM hr0
 have HC0 := aM hc0
 clear hr0 hc0
 have HB := aM (Below.refl w.heap.size w)
 unfold Y48.f at h
 have H := h
 clear h
 obtain ⟨y596, hy596⟩ := nE ((([] : List ByteArray)) : List ByteArray)
 try rw [← hy596] at H
 try with_reducible replace H := (Option.bind_some _ _).symm.trans H
 try dsimp only at H
 have Ny596 := aM hy596
 clear hy596
 have H' := aM H
 clear H
 go_enter Tryz.func92, Tryz.ntmps92
 go_wp2_with (first | ((with_reducible refine gate_dst (N := 6) rfl ?_); refine Kd.R_lit Kd.string _ 9 ?hg (N := 6) ?hd (xs := ([] : List ByteArray)) (inner := []) (ok := fun _ => True) (okp := fun _ => True) ?hr ?hp (fun _ hk => hk) trivial (Below.refl _ _) (Nat.le_refl _) (by simp) ?_; (case hd => rfl); (case hg => rfl); (case hr => first | (go_simp; done) | (go_simp; rfl)); (case hp => exact (Reps.none _ _)); intro v597 w2 ho3 hb hg_ hnew_; clear hg_ hnew_; (first | rw [← Ny596.out] at ho3 | (simp only [Int.reduceToNat] at ho3; rw [← Ny596.out] at ho3)); have _ := aM (Kd.R_lower ho3 (below_size bq)); have _ := bB hb; clear HB; rename_i HO598 HB; clear hb ho3))
 go_loopg [3, 9] k (fun kq v3 v9 w' => ∃ (x3_1 : List ByteArray) (x9_1 : Int), v9 = .int .i64 x9_1 ∧ Aside0 (Y48.l0 kq x3_1 l0 (l0.length : Int) x9_1 = some r) ∧ Aside0 (kq ≤ k) ∧ Aside0 (Kd.R Kd.string 9 w' w.heap.size (fun _ => True) v3 x3_1) ∧ Aside0 (Below w.heap.size w w'))
 case atStart => exact ⟨(y596), (0), eR, H', ⟨Nat.le_refl _⟩, ⟨rQ HO598⟩, ⟨bq⟩⟩
 case round =>
  clear H'
  obtain ⟨x3_1, x9_1, rfl, HA, HK1, HO_3, HB⟩ := hrel
  cases gk with
  | zero => exact absurd HA.out (by simp [Y48.l0])
  | succ k1 =>
   have H := HA.out
   clear HA
   simp only [Y48.l0] at H
   by_cases c4 : x9_1 < (l0.length : Int)
   ·rw [if_pos c4] at H
    have c4b0 := decide_eq_true c4
    clear c4
    replace H := iD2 H
    obtain ⟨c5b0, c6b0, H⟩ := H
    replace H := bS H
    obtain ⟨t600, A7, H⟩ := H
    try dsimp only at H
    replace H := iS H
    obtain ⟨c8, H⟩ := H
    have LMc8 := aM c8
    clear c8
    obtain ⟨y601, hy601⟩ := nE ((x3_1 ++ [t600]) : List ByteArray)
    try rw [← hy601] at H
    try with_reducible replace H := (Option.bind_some _ _).symm.trans H
    try dsimp only at H
    have Ny601 := aM hy601
    clear hy601
    have H' := aM H
    clear H
    have p599 : 0 ≤ (x9_1 : Int) := odt
    have q599 : x9_1 < (l0.length : Int) := odt
    obtain ⟨ad599, e599, hx599_0⟩ := Kd.at_int HR0.out x9_1 p599 q599
    cases e599
    replace hx599_0 := (HB.out.cell (World.block_lt_of_cell? w _ hx599_0)).trans hx599_0
    replace p599 := eq_true p599
    replace q599 := eq_true q599
    go_wp2_with (first | ((with_reducible refine gate_callee (f := 121) rfl ?_); refine gL (some 15) Tryz.func121 #[.int .i64 (rd l0 x9_1)] ?_; (with_reducible refine (Y69.calls (rd l0 x9_1) t600 _ A7.out).mono ?_); rintro e w' ⟨rfl, ⟨nd, rfl⟩⟩; refine ⟨_, rfl, ?_⟩) | ((with_reducible refine gate_builtin (b := .append) (xs := #[.tmp 13, .tmp 16]) rfl ?_); at_builtin; refine Kd.R_append Kd.string (w0 := w) w.heap.size rfl (.tmp 13) (.tmp 16) 82 9 (.string ⟨#[]⟩) 16 rfl Tryz.underlying82 info9 rfl (by decide) (by omega) u3 x3_1 t600 [.string t600] (fun _ => True) (fun _ => False) rfl rfl ?aP (fun _ hk => hk.elim) ?aF ?aO ?aB ?aS ?aL ?_; (case aP => exact rfl); (case aB => exact bq); (case aF => exact (fun _ _ => trivial)); (case aO => exact (rQ HO_3)); (case aS => exact (below_size bq)); (case aL => have := LMc8.out; omega); intro v602 w9 ho hb hg hat; rw [← Ny601.out] at ho; have _ := aM (hb); have _ := aM (ho); clear HB HO_3; rename_i HB HO603; clear ho hb hg hat))
    go_roundg k1
    case measure => have := HK1.out; omega
    case rel => exact ⟨(y601), (wrap64 (x9_1 + 1)), eR, H', ⟨by have := HK1.out; omega⟩, ⟨rQ HO603⟩, ⟨bq⟩⟩
   ·rw [if_neg c4] at H
    have c4b0 := decide_eq_false c4
    clear c4
    replace H := bS H
    obtain ⟨t604, A10, H⟩ := H
    try dsimp only at H
    obtain rfl := Option.some.inj H
    obtain ⟨Ao11, co11, eo11⟩ := Kd.R_slice HO_3.out
    subst eo11
    go_wp2_with (first | ((with_reducible refine gate_callee (f := 93) rfl ?_); refine gL (some 20) Tryz.func93 #[.slice Ao11 x3_1.length co11, .string (⟨#[44]⟩ : ByteArray)] ?_; (with_reducible refine (Y37.calls _ _ x3_1 (⟨#[44]⟩ : ByteArray) t604 _ (cQ ((Kd.R_reads' HO_3.out).2.2)) ((Kd.R_reads' HO_3.out).2.1) A10.out).mono ?_); rintro e w12 ⟨rfl, hb⟩; refine ⟨_, rfl, ?_⟩; have _ := aM (Kd.R_below (rQ HO_3) hb); have _ := bB hb; clear HO_3 HB; rename_i HO_3 HB; (try clear hb)))
    go_ret
    exact ⟨eE, bq⟩
def Y38.l0 : Nat → List ByteArray → List (List Int) → Int → Int → Option (ByteArray)
 | 0, _, _, _, _ => none
 | k + 1, x3, x8, x9, x10 => if x10 < x9 then (if 0 ≤ x10 then (if x10 < (x8.length : Int) then ((Y48.f k (rd_L3 x8 x10)).bind fun t610 => (if x3.length < 8796093022208 then (Y38.l0 k (x3 ++ [t610]) x8 x9 (wrap64 (x10 + 1))) else (none))) else (none)) else (none)) else ((Y37.f x3 (⟨#[47]⟩ : ByteArray)).bind fun t614 => (some t614))
def Y38.f (k : Nat) (l0_0 : List (List Int)) : Option (ByteArray) := Y38.l0 k (([] : List ByteArray)) l0_0 (l0_0.length : Int) 0
theorem Y38.calls (k : Nat) (A0_0 : Option Addr) (c0_0 : Nat) (l0_0 : List (List Int)) (r : ByteArray) (w : World) (hr0_0 : Kd.C (Kd.slice 3 (Kd.int .i64)) w A0_0 l0_0.length l0_0) (hc0_0 : l0_0.length ≤ c0_0) (h : Y38.f k l0_0 = some r) :
  Calls Tryz.prog 51 #[.agg #[.slice A0_0 l0_0.length c0_0]] w fun e w' => e = .returned (.string r) ∧ Below w.heap.size w w' := by
 have hu30 := Tryz.underlying30
 have HR0_0 := aM hr0_0
 have HC0_0 := aM hc0_0
 clear hr0_0 hc0_0
 have HB := aM (Below.refl w.heap.size w)
 unfold Y38.f at h
 have H := h
 clear h
 obtain ⟨y606, hy606⟩ := nE ((([] : List ByteArray)) : List ByteArray)
 try rw [← hy606] at H
 try with_reducible replace H := (Option.bind_some _ _).symm.trans H
 try dsimp only at H
 have Ny606 := aM hy606
 clear hy606
 have H' := aM H
 clear H
 go_enter Tryz.func51, Tryz.ntmps51
 go_wp2_with (first | ((with_reducible refine gate_dst (N := 1) rfl ?_); refine bF 1 30 #[.slice A0_0 l0_0.length c0_0] bq ?_; intro gb605 w2 hg hb _ _ _ _; clear HB; rename_i HB BK605 GW605 GE605; clear hb hg) | ((with_reducible refine gate_dst (N := 6) rfl ?_); refine Kd.R_lit Kd.string _ 9 ?hg (N := 6) ?hd (xs := ([] : List ByteArray)) (inner := []) (ok := fun _ => True) (okp := fun _ => True) ?hr ?hp (fun _ hk => hk) trivial (Below.refl _ _) (Nat.le_refl _) (by simp) ?_; (case hd => rfl); (case hg => rfl); (case hr => first | (go_simp; done) | (go_simp; rfl)); (case hp => exact (Reps.none _ _)); intro v607 w3 ho4 hb hg_ hnew_; clear hg_ hnew_; (first | rw [← Ny606.out] at ho4 | (simp only [Int.reduceToNat] at ho4; rw [← Ny606.out] at ho4)); have _ := aM (Kd.R_lower ho4 (below_size bq)); have _ := bK BK605 hb; have _ := bB hb; clear BK605 HB; rename_i HO608 BK605 HB; clear hb ho4; have hcz5_0 := zc10 BK605; have hfz5_0 := blk_frozen BK605.out 0))
 go_loopg [3, 10] k (fun kq v3 v10 w' => ∃ (x3_1 : List ByteArray) (x10_1 : Int), v10 = .int .i64 x10_1 ∧ Aside0 (Y38.l0 kq x3_1 l0_0 (l0_0.length : Int) x10_1 = some r) ∧ Aside0 (kq ≤ k) ∧ Aside0 (Kd.R Kd.string 9 w' w.heap.size (fun _ => True) v3 x3_1) ∧ Aside0 (w'.heap[gb605]? = some (.cells #[(.slice A0_0 l0_0.length c0_0)] 30 (0, 0))) ∧ Aside0 (Below w.heap.size w w'))
 case atStart => exact ⟨(y606), (0), eR, H', ⟨Nat.le_refl _⟩, ⟨rQ HO608⟩, ⟨qQ BK605⟩, ⟨bq⟩⟩
 case round =>
  clear H'
  try clear hcz5_0
  try clear hfz5_0
  obtain ⟨x3_1, x10_1, rfl, HA, HK1, HO_3, BK605, HB⟩ := hrel
  cases gk with
  | zero => exact absurd HA.out (by simp [Y38.l0])
  | succ k1 =>
   have H := HA.out
   clear HA
   simp only [Y38.l0] at H
   by_cases c6 : x10_1 < (l0_0.length : Int)
   ·rw [if_pos c6] at H
    have c6b0 := decide_eq_true c6
    clear c6
    replace H := iD2 H
    obtain ⟨c7b0, c8b0, H⟩ := H
    replace H := bS H
    obtain ⟨t610, A9, H⟩ := H
    try dsimp only at H
    replace H := iS H
    obtain ⟨c10, H⟩ := H
    have LMc10 := aM c10
    clear c10
    obtain ⟨y611, hy611⟩ := nE ((x3_1 ++ [t610]) : List ByteArray)
    try rw [← hy611] at H
    try with_reducible replace H := (Option.bind_some _ _).symm.trans H
    try dsimp only at H
    have Ny611 := aM hy611
    clear hy611
    have H' := aM H
    clear H
    have p609 : 0 ≤ (x10_1 : Int) := odt
    have q609 : x10_1 < (l0_0.length : Int) := odt
    obtain ⟨ad609, A609_0, c609_0, e609, hx609_0, hl609_0, hi609_0⟩ := at_L3 HR0_0.out x10_1 p609 q609
    cases e609
    replace hx609_0 := (HB.out.cell (World.block_lt_of_cell? w _ hx609_0)).trans hx609_0
    have HR609_0 := aM hi609_0
    have HC609_0 := aM hl609_0
    clear hi609_0 hl609_0
    replace p609 := eq_true p609
    replace q609 := eq_true q609
    go_wp2_with (first | ((with_reducible refine gate_callee (f := 92) rfl ?_); refine gL (some 16) Tryz.func92 #[.slice A609_0 (rd_L3 l0_0 x10_1).length c609_0] ?_; (with_reducible refine (Y48.calls k1 _ _ (rd_L3 l0_0 x10_1) t610 _ (cQ (Kd.C_below HR609_0.out HB.out)) HC609_0.out A9.out).mono ?_); rintro e w11 ⟨rfl, hb⟩; refine ⟨_, rfl, ?_⟩; have _ := aM (Kd.R_below (rQ HO_3) hb); have _ := bK BK605 hb; have _ := bB hb; clear HO_3 BK605 HB; rename_i HO_3 BK605 HB; (try clear hb)) | ((with_reducible refine gate_builtin (b := .append) (xs := #[.tmp 14, .tmp 17]) rfl ?_); at_builtin; refine Kd.R_append Kd.string (w0 := w) w.heap.size rfl (.tmp 14) (.tmp 17) 82 9 (.string ⟨#[]⟩) 16 rfl Tryz.underlying82 info9 rfl (by decide) (by omega) u3 x3_1 t610 [.string t610] (fun _ => True) (fun _ => False) rfl rfl ?aP (fun _ hk => hk.elim) ?aF ?aO ?aB ?aS ?aL ?_; (case aP => exact rfl); (case aB => exact bq); (case aF => exact (fun _ _ => trivial)); (case aO => exact (rQ HO_3)); (case aS => exact (below_size bq)); (case aL => have := LMc10.out; omega); intro v612 w12 ho hb hg hat; rw [← Ny611.out] at ho; have _ := aM (blk_grown (g := gb605) (o := .cells #[.slice (some ad609) l0_0.length c0_0] 30 (0, 0)) (qQ BK605) hg (Kd.R_ne HO_3.out BK605.out (by decide))); have _ := aM (hb); have _ := aM (ho); clear BK605 HB HO_3; rename_i BK605 HB HO613; clear ho hb hg hat))
    go_roundg k1
    case measure => have := HK1.out; omega
    case rel => exact ⟨(y611), (wrap64 (x10_1 + 1)), eR, H', ⟨by have := HK1.out; omega⟩, ⟨rQ HO613⟩, ⟨qQ BK605⟩, ⟨bq⟩⟩
   ·rw [if_neg c6] at H
    have c6b0 := decide_eq_false c6
    clear c6
    replace H := bS H
    obtain ⟨t614, A13, H⟩ := H
    try dsimp only at H
    obtain rfl := Option.some.inj H
    obtain ⟨Ao14, co14, eo14⟩ := Kd.R_slice HO_3.out
    subst eo14
    go_wp2_with (first | ((with_reducible refine gate_callee (f := 93) rfl ?_); refine gL (some 21) Tryz.func93 #[.slice Ao14 x3_1.length co14, .string (⟨#[47]⟩ : ByteArray)] ?_; (with_reducible refine (Y37.calls _ _ x3_1 (⟨#[47]⟩ : ByteArray) t614 _ (cQ ((Kd.R_reads' HO_3.out).2.2)) ((Kd.R_reads' HO_3.out).2.1) A13.out).mono ?_); rintro e w15 ⟨rfl, hb⟩; refine ⟨_, rfl, ?_⟩; have _ := aM (Kd.R_below (rQ HO_3) hb); have _ := bK BK605 hb; have _ := bB hb; clear HO_3 BK605 HB; rename_i HO_3 BK605 HB; (try clear hb)))
    go_ret
    exact ⟨eE, bq⟩
def Y18.j0 : Nat → Bool → Int → List Int → Int → List Int → Option (Bool × Bool)
 | 0, _, _, _, _, _ => none
 | k + 1, x13, x616000, x616001, x617000, x617001 => if x13 = true then (some (false, false)) else ((Y14.f k x616000 x616001).bind fun t619 => ((Y38.f k t619).bind fun t622 => ((Y14.f k x617000 x617001).bind fun t623 => ((Y38.f k t623).bind fun t626 => (some ((t622.toList == t626.toList), true))))))
def Y18.f (k : Nat) (a0_0 : Int) (l0_1 : List Int) (a1_0 : Int) (l1_1 : List Int) : Option (Bool × Bool) := (Y41.f k a0_0 l0_1).bind fun t617 => (if t617 = true then ((Y41.f k a1_0 l1_1).bind fun t618 => (Y18.j0 k (!t618) a0_0 l0_1 a1_0 l1_1)) else (Y18.j0 k true a0_0 l0_1 a1_0 l1_1))
def Y18.T3 : Bool × List (List Nat × List Nat) := (true, [([], []), ([0], [0]), ([1, 1], [1]), ([], []), ([3, 2], [3]), ([4, 4], [4]), ([2, 5], [2, 5]), ([6, 5, 0, 1, 2, 3, 4, 5, 6], [6]), ([7, 0, 1, 2, 3, 4, 5, 6, 7], [])])
def Y18.B3 : List Nat := [0, 1, 3, 0, 15, 31, 63, 127, 255]
theorem Y18.tab3 : rtab .any (opsOf Tryz.f22 3) = Y18.T3 := by kernel_rfl
theorem Y18.bits3 : waitsOk Y18.T3.2 Y18.B3 = true := by kernel_rfl
set_option maxHeartbeats 8000000 in
set_option maxRecDepth 100000 in
theorem Y18.calls (k : Nat) (a0_0 : Int) (A0_1 : Option Addr) (c0_1 : Nat) (l0_1 : List Int) (a1_0 : Int) (A1_1 : Option Addr) (c1_1 : Nat) (l1_1 : List Int) (r1 : Bool) (r2 : Bool) (w : World) (hV : TabZ w) (hr0_1 : Kd.C (Kd.int .i64) w A0_1 l0_1.length l0_1) (hc0_1 : l0_1.length ≤ c0_1) (hr1_1 : Kd.C (Kd.int .i64) w A1_1 l1_1.length l1_1) (hc1_1 : l1_1.length ≤ c1_1) (h : Y18.f k a0_0 l0_1 a1_0 l1_1 = some (r1, r2)) :
  Calls Tryz.prog 22 #[.agg #[.int .i64 a0_0, .slice A0_1 l0_1.length c0_1], .agg #[.int .i64 a1_0, .slice A1_1 l1_1.length c1_1]] w fun e w' => e = .returned (.tuple #[.bool r1, .bool r2]) ∧ Below w.heap.size w w' := by
 have hu26 := Tryz.underlying26
 have HR0_1 := aM hr0_1
 have HC0_1 := aM hc0_1
 clear hr0_1 hc0_1
 have HR1_1 := aM hr1_1
 have HC1_1 := aM hc1_1
 clear hr1_1 hc1_1
 have HB := aM (Below.refl w.heap.size w)
 have HVV := aM hV
 clear hV
 unfold Y18.f at h
 have H := h
 clear h
 have HC3 := aM H
 clear H
 go_enter Tryz.func22, Tryz.ntmps22
 go_upto_region 1 with (first | ((with_reducible refine gate_dst (N := 2) rfl ?_); refine bF 2 26 #[.int .i64 a0_0, .slice A0_1 l0_1.length c0_1] bq ?_; intro gb615 w4 hg hb _ _ _ _; clear HB; rename_i HB BK615 GW615 GE615; clear hb hg) | ((with_reducible refine gate_dst (N := 3) rfl ?_); refine bE 3 26 #[.int .i64 a1_0, .slice A1_1 l1_1.length c1_1] ?_; intro gb616 hg w5 hbox hb; have _ := bK BK615 hb; have _ := bB hb; have _ := aM (hbox); have _ := aM ((gS hg)); have _ := aM ((gS hg)); have _ := aM (nL hg BK615); have _ := aM (nG hg BK615); clear BK615 HB; rename_i BK615 HB BK616 GW616 GE616 NB615_616 NB616_615; clear hb hbox hg))
 (try simp only [Act.put, List.setIfInBounds_toArray, List.set_cons_zero, List.set_cons_succ])
 go_cut [13] (fun v13 wc => ∃ (kq : Nat) (x13_2 : Bool), v13 = .bool x13_2 ∧ Aside0 (Y18.j0 kq x13_2 a0_0 l0_1 a1_0 l1_1 = some (r1, r2)) ∧ Aside0 (kq ≤ k) ∧ Aside0 (wc.heap[gb615]? = some (.cells #[.int .i64 a0_0, (.slice A0_1 l0_1.length c0_1)] 26 (0, 0))) ∧ Aside0 (wc.heap[gb616]? = some (.cells #[.int .i64 a1_0, (.slice A1_1 l1_1.length c1_1)] 26 (0, 0))) ∧ Aside0 (Below w.heap.size w wc))
 case first =>
  have H := HC3.out
  clear HC3
  replace H := bS H
  obtain ⟨t617, A6, H⟩ := H
  try dsimp only at H
  by_cases c7 : t617 = true
  ·subst c7
   have H1 : ((Y41.f k a1_0 l1_1).bind fun t618 => (Y18.j0 k (!t618) a0_0 l0_1 a1_0 l1_1)) = some (r1, r2) := by rw [if_pos rfl] at H; exact H
   clear H
   have H := H1
   clear H1
   replace H := bS H
   obtain ⟨t618, A8, H⟩ := H
   try dsimp only at H
   have H' := aM H
   clear H
   have hnb9 := NB615_616.out
   have hnc9 := NB616_615.out
   have hcz10_0 := zc20 BK615
   have hcz10_1 := zc21 BK615
   have hfz10_0 := blk_frozen BK615.out 0
   have hfz10_1 := blk_frozen BK615.out 1
   go_wp2_with (first | ((with_reducible refine gate_callee (f := 33) rfl ?_); refine gL (some 7) Tryz.func33 #[.agg #[.int .i64 a0_0, .slice A0_1 l0_1.length c0_1]] ?_; (with_reducible refine (Y41.calls k a0_0 _ _ l0_1 true _ (HVV.out.below (by repeat (first | (with_reducible first | exact HB.out | apply bA | apply bN | apply bD) | exact HB.out | (refine Below.setCell ?_ ?_ _; rotate_left; first | exact GW615.out | exact GW616.out)))) (cQ (Kd.C_below HR0_1.out HB.out)) HC0_1.out A6.out).mono ?_); rintro e w11 ⟨rfl, hb⟩; refine ⟨_, rfl, ?_⟩; have _ := bK BK615 hb; have _ := bK BK616 hb; have _ := bB hb; clear BK615 BK616 HB; rename_i BK615 BK616 HB; (try clear hb); have hcz12_0 := zc20 BK616; have hcz12_1 := zc21 BK616; have hfz12_0 := blk_frozen BK616.out 0; have hfz12_1 := blk_frozen BK616.out 1) | (go_at_call 33; (with_reducible refine (Y41.calls k a1_0 _ _ l1_1 t618 _ (HVV.out.below (by repeat (first | (with_reducible first | exact HB.out | apply bA | apply bN | apply bD) | exact HB.out | (refine Below.setCell ?_ ?_ _; rotate_left; first | exact GW615.out | exact GW616.out)))) (cQ (Kd.C_below HR1_1.out HB.out)) HC1_1.out A8.out).mono ?_); rintro e w13 ⟨rfl, hb⟩; have _ := bK BK615 hb; have _ := bK BK616 hb; have _ := bB hb; clear BK615 BK616 HB; rename_i BK615 BK616 HB; (try clear hb)))
   go_meet
   case rel => exact ⟨_, (!t618), eR, H', ⟨by first | omega | exact Nat.le_refl _⟩, ⟨qQ BK615⟩, ⟨qQ BK616⟩, ⟨bq⟩⟩
  ·replace c7 := Bool.eq_false_iff.mpr c7
   subst c7
   have H1 : (Y18.j0 k true a0_0 l0_1 a1_0 l1_1) = some (r1, r2) := by rw [if_neg (show ¬ (false = true) by decide)] at H; exact H
   clear H
   have H := H1
   clear H1
   have H' := aM H
   clear H
   have hnb14 := NB615_616.out
   have hnc14 := NB616_615.out
   have hcz15_0 := zc20 BK615
   have hcz15_1 := zc21 BK615
   have hfz15_0 := blk_frozen BK615.out 0
   have hfz15_1 := blk_frozen BK615.out 1
   go_wp2_with (first | ((with_reducible refine gate_callee (f := 33) rfl ?_); refine gL (some 7) Tryz.func33 #[.agg #[.int .i64 a0_0, .slice A0_1 l0_1.length c0_1]] ?_; (with_reducible refine (Y41.calls k a0_0 _ _ l0_1 false _ (HVV.out.below (by repeat (first | (with_reducible first | exact HB.out | apply bA | apply bN | apply bD) | exact HB.out | (refine Below.setCell ?_ ?_ _; rotate_left; first | exact GW615.out | exact GW616.out)))) (cQ (Kd.C_below HR0_1.out HB.out)) HC0_1.out A6.out).mono ?_); rintro e w16 ⟨rfl, hb⟩; refine ⟨_, rfl, ?_⟩; have _ := bK BK615 hb; have _ := bK BK616 hb; have _ := bB hb; clear BK615 BK616 HB; rename_i BK615 BK616 HB; (try clear hb)))
   go_meet
   case rel => exact ⟨_, (true), eR, H', ⟨by first | omega | exact Nat.le_refl _⟩, ⟨qQ BK615⟩, ⟨qQ BK616⟩, ⟨bq⟩⟩
 case rest =>
  clear HC3
  try clear c7
  try clear hcz10_0
  try clear hcz10_1
  try clear hcz12_0
  try clear hcz12_1
  try clear hcz15_0
  try clear hcz15_1
  try clear hfz10_0
  try clear hfz10_1
  try clear hfz12_0
  try clear hfz12_1
  try clear hfz15_0
  try clear hfz15_1
  obtain ⟨kq, x13_2, rfl, HA, HJ2, BK615, BK616, HB⟩ := hcut
  cases kq with
  | zero => exact absurd HA.out (by simp [Y18.j0])
  | succ kj2 =>
   have H := HA.out
   clear HA
   simp only [Y18.j0] at H
   by_cases c17 : x13_2 = true
   ·subst c17
    have H1 : (some (false, false)) = some (r1, r2) := by rw [if_pos rfl] at H; exact H
    clear H
    have H := H1
    clear H1
    simp only [Option.some.injEq, Prod.mk.injEq] at H
    obtain ⟨rfl, rfl⟩ := H
    go_wp2
    go_ret2
    exact ⟨eE, bq⟩
   ·replace c17 := Bool.eq_false_iff.mpr c17
    subst c17
    have H1 : ((Y14.f kj2 a0_0 l0_1).bind fun t619 => ((Y38.f kj2 t619).bind fun t622 => ((Y14.f kj2 a1_0 l1_1).bind fun t623 => ((Y38.f kj2 t623).bind fun t626 => (some ((t622.toList == t626.toList), true)))))) = some (r1, r2) := by rw [if_neg (show ¬ (false = true) by decide)] at H; exact H
    clear H
    have H := H1
    clear H1
    replace H := bS H
    obtain ⟨t619, A18, H⟩ := H
    try dsimp only at H
    replace H := bS H
    obtain ⟨t622, A19, H⟩ := H
    try dsimp only at H
    replace H := bS H
    obtain ⟨t623, A20, H⟩ := H
    try dsimp only at H
    replace H := bS H
    obtain ⟨t626, A21, H⟩ := H
    try dsimp only at H
    simp only [Option.some.injEq, Prod.mk.injEq] at H
    obtain ⟨rfl, rfl⟩ := H
    try go_wp2
    have n0_ := aM (blk_drew BK615.out)
    have n1_ := aM (blk_drew BK616.out)
    have n2_ := aM (below_drew1 HB.out)
    clear BK615
    clear BK616
    clear HB
    have BK615 := n0_
    have BK616 := n1_
    have HB := n2_
    clear n0_ n1_ n2_
    refine start_ (n := 9) (S := fun w' => w'.cell? ⟨gb615, 0, none⟩ = some (.int .i64 a0_0) ∧ w'.cell? ⟨gb615, 1, none⟩ = some (.slice A0_1 l0_1.length c0_1) ∧ w'.cell? ⟨gb616, 0, none⟩ = some (.int .i64 a1_0) ∧ w'.cell? ⟨gb616, 1, none⟩ = some (.slice A1_1 l1_1.length c1_1)) (ds := []) #[false, false, false, false, false, false, false, false, false] (by kernel_rfl) rfl rfl ⟨(blk_cell BK615.out 0).trans rfl, (blk_cell BK615.out 1).trans rfl, (blk_cell BK616.out 0).trans rfl, (blk_cell BK616.out 1).trans rfl⟩ (fun hHeld => ?_); refine with_tabW Y18.tab3 Y18.bits3 (fun HT_ HW_ => ?_)
    generalize wc.drew = w22 at BK615 BK616 HB hHeld ⊢
    refine tA 0 14 hHeld (h := ?_)
    refine tA 3 17 hHeld (h := ?_)
    refine one_ (i := 1) (N := some 15) #[true, true, false, true, false, false, false, false, false] rfl rfl (one_of HT_.out (by kernel_rfl)) (by decide) (fun K hK => ?_)
    refine goes_ Tryz.func34 (by kernel_rfl) rfl #[.agg #[.int .i64 a0_0, .slice A0_1 l0_1.length c0_1]] (by rfl) rfl rfl (by (try simp only [List.map_toArray, List.map_cons, List.map_nil]); first | done | rfl | (simp only [List.length_drop, List.length_take]; rfl)) ?_
    with_reducible refine (Y14.calls kj2 a0_0 _ _ l0_1 t619 _ ?side1 ?side2 A18.out).mono ?_
    (case side1 => exact cQ (Kd.C_below HR0_1.out HB.out))
    (case side2 => exact HC0_1.out)
    rintro e w23 ⟨v620, rfl, ho0, hb⟩
    refine ⟨_, rfl, ?_⟩
    have n0_ := aM (Kd.S_lower ho0 (below_size bq))
    have n1_ := aM (blk_below (qQ BK615) hb)
    have n2_ := aM (blk_below (qQ BK616) hb)
    have n3_ := aM (below_step bq hb)
    clear BK615
    clear BK616
    clear HB
    have HO621 := n0_
    have BK615 := n1_
    have BK616 := n2_
    have HB := n3_
    clear n0_ n1_ n2_ n3_
    (try clear hb)
    (try clear hb2)
    (try clear hk)
    (try clear hi)
    (try clear ho0)
    obtain ⟨Ao24, co24, eo24⟩ := Kd.S_slice HO621.out
    (first | subst eo24 | (injection eo24 with f1_ f2_ f3_; have f4_ := f1_.symm; have f5_ := f3_.symm; clear f1_ f2_ f3_; subst f4_; subst f5_))
    refine hK.out _ _ ⟨(blk_cell BK615.out 0).trans rfl, (blk_cell BK615.out 1).trans rfl, (blk_cell BK616.out 0).trans rfl, (blk_cell BK616.out 1).trans rfl⟩ (fun hHeld => ?_)
    clear hK K
    refine nA 15 (h := ?_)
    refine one_ (i := 2) (N := some 16) #[true, true, true, true, false, false, false, false, false] rfl rfl (one_of HT_.out (by kernel_rfl)) (by decide) (fun K hK => ?_)
    refine goes_ Tryz.func51 (by kernel_rfl) rfl #[.agg #[.slice Ao24 t619.length co24]] (by rfl) rfl rfl (by (try simp only [List.map_toArray, List.map_cons, List.map_nil]); first | done | rfl | (simp only [List.length_drop, List.length_take]; rfl)) ?_
    with_reducible refine (Y38.calls kj2 _ _ t619 t622 _ ?side1 ?side2 A19.out).mono ?_
    (case side1 => repeat (first | exact (Kd.S_reads' HO621.out).2.2 | (with_reducible refine Kd.C_alloc ?_ _) | (with_reducible refine Kd.C_drewN ?_ _) | (with_reducible refine Kd.C_drew ?_)))
    (case side2 => exact (Kd.S_reads' HO621.out).2.1)
    rintro e w25 ⟨rfl, hb⟩
    refine ⟨_, rfl, ?_⟩
    have n0_ := aM (Kd.S_below (sQ HO621) hb)
    have n1_ := aM (blk_below (qQ BK615) hb)
    have n2_ := aM (blk_below (qQ BK616) hb)
    have n3_ := aM (below_step bq hb)
    clear HO621
    clear BK615
    clear BK616
    clear HB
    have HO621 := n0_
    have BK615 := n1_
    have BK616 := n2_
    have HB := n3_
    clear n0_ n1_ n2_ n3_
    (try clear hb)
    (try clear hb2)
    (try clear hk)
    (try clear hi)
    refine hK.out _ _ ⟨(blk_cell BK615.out 0).trans rfl, (blk_cell BK615.out 1).trans rfl, (blk_cell BK616.out 0).trans rfl, (blk_cell BK616.out 1).trans rfl⟩ (fun hHeld => ?_)
    clear hK K
    refine nA 16 (h := ?_)
    refine one_ (i := 4) (N := some 18) #[true, true, true, true, true, false, false, false, false] rfl rfl (one_of HT_.out (by kernel_rfl)) (by decide) (fun K hK => ?_)
    refine goes_ Tryz.func34 (by kernel_rfl) rfl #[.agg #[.int .i64 a1_0, .slice A1_1 l1_1.length c1_1]] (by rfl) rfl rfl (by (try simp only [List.map_toArray, List.map_cons, List.map_nil]); first | done | rfl | (simp only [List.length_drop, List.length_take]; rfl)) ?_
    with_reducible refine (Y14.calls kj2 a1_0 _ _ l1_1 t623 _ ?side1 ?side2 A20.out).mono ?_
    (case side1 => exact cQ (Kd.C_below HR1_1.out HB.out))
    (case side2 => exact HC1_1.out)
    rintro e w26 ⟨v624, rfl, ho0, hb⟩
    refine ⟨_, rfl, ?_⟩
    have n0_ := aM (Kd.S_elder' (sQ HO621) (Kd.S_base ho0) hb)
    have n1_ := aM (Kd.S_lower (Kd.S_new' ho0 (Kd.S_lt (sQ HO621))) (below_size bq))
    have n2_ := aM (blk_below (qQ BK615) hb)
    have n3_ := aM (blk_below (qQ BK616) hb)
    have n4_ := aM (below_step bq hb)
    clear HO621
    clear BK615
    clear BK616
    clear HB
    have HO621 := n0_
    have HO625 := n1_
    have BK615 := n2_
    have BK616 := n3_
    have HB := n4_
    clear n0_ n1_ n2_ n3_ n4_
    (try clear hb)
    (try clear hb2)
    (try clear hk)
    (try clear hi)
    (try clear ho0)
    obtain ⟨Ao27, co27, eo27⟩ := Kd.S_slice HO625.out
    (first | subst eo27 | (injection eo27 with f1_ f2_ f3_; have f4_ := f1_.symm; have f5_ := f3_.symm; clear f1_ f2_ f3_; subst f4_; subst f5_))
    refine hK.out _ _ ⟨(blk_cell BK615.out 0).trans rfl, (blk_cell BK615.out 1).trans rfl, (blk_cell BK616.out 0).trans rfl, (blk_cell BK616.out 1).trans rfl⟩ (fun hHeld => ?_)
    clear hK K
    refine nA 18 (h := ?_)
    refine one_ (i := 5) (N := some 19) #[true, true, true, true, true, true, false, false, false] rfl rfl (one_of HT_.out (by kernel_rfl)) (by decide) (fun K hK => ?_)
    refine goes_ Tryz.func51 (by kernel_rfl) rfl #[.agg #[.slice Ao27 t623.length co27]] (by rfl) rfl rfl (by (try simp only [List.map_toArray, List.map_cons, List.map_nil]); first | done | rfl | (simp only [List.length_drop, List.length_take]; rfl)) ?_
    with_reducible refine (Y38.calls kj2 _ _ t623 t626 _ ?side1 ?side2 A21.out).mono ?_
    (case side1 => repeat (first | exact (Kd.S_reads' HO625.out).2.2 | (with_reducible refine Kd.C_alloc ?_ _) | (with_reducible refine Kd.C_drewN ?_ _) | (with_reducible refine Kd.C_drew ?_)))
    (case side2 => exact (Kd.S_reads' HO625.out).2.1)
    rintro e w28 ⟨rfl, hb⟩
    refine ⟨_, rfl, ?_⟩
    have n0_ := aM (Kd.S_below (sQ HO621) hb)
    have n1_ := aM (Kd.S_below (sQ HO625) hb)
    have n2_ := aM (blk_below (qQ BK615) hb)
    have n3_ := aM (blk_below (qQ BK616) hb)
    have n4_ := aM (below_step bq hb)
    clear HO621
    clear HO625
    clear BK615
    clear BK616
    clear HB
    have HO621 := n0_
    have HO625 := n1_
    have BK615 := n2_
    have BK616 := n3_
    have HB := n4_
    clear n0_ n1_ n2_ n3_ n4_
    (try clear hb)
    (try clear hb2)
    (try clear hk)
    (try clear hi)
    refine hK.out _ _ ⟨(blk_cell BK615.out 0).trans rfl, (blk_cell BK615.out 1).trans rfl, (blk_cell BK616.out 0).trans rfl, (blk_cell BK616.out 1).trans rfl⟩ (fun hHeld => ?_)
    clear hK K
    refine nA 19 (h := ?_)
    refine pA 6 20 (h := ?_)
    refine pA 7 4 (h := ?_)
    refine pA 8 5 (h := ?_)
    refine done_ (done_of HT_.out (by kernel_rfl)) ?_
    try go_wp2
    go_ret2
    exact ⟨eE, bq⟩
def laws_FnOrdersAreMatrices.Good (k : Nat) (l0 l1 : List Int) : Prop :=
  laws_big.f l0 l1 = some true ∨ (laws_big.f l0 l1 = some false ∧ ∃ (m : List (List Int)) (z : Int) (o o2 : List Int) (ok : Bool),
    Y78.f k l0 = some m ∧ Y9.f k m = some (z, o, ok) ∧ Y8.f k m = some (z, o2, ok) ∧ laws_pSameOrder.f k z o z o2 = some true ∧
    (ok = true → ∃ (bk : List (List Int)) (ls ot : List Int) (zb : Int) (bu : List Int), Y70.f k z o = some (bk, true) ∧ Y64.f k m = some (ls, true) ∧ Y65.f k z o = some (ot, true) ∧ Y68.f k ls = some (zb, bu, true) ∧
      Y18.f k zb bu z o = some (true, true) ∧ laws_pSameMatrix.f k bk m = some true ∧ laws_pSame.f k ot ls = some true))
open Go.Proofs.YtcodionjhcmfhaaGreatDoor.Live in
set_option maxHeartbeats 8000000 in
set_option maxRecDepth 100000 in
theorem laws_FnOrdersAreMatrices.calls (k : Nat) (A0 : Option Addr) (c0 : Nat) (l0 : List Int) (A1 : Option Addr) (c1 : Nat) (l1 : List Int) (w : World) (hV : TabZ w) (hr0 : Kd.C (Kd.int .u8) w A0 l0.length l0) (hc0 : l0.length ≤ c0) (hr1 : Kd.C (Kd.int .u8) w A1 l1.length l1) (hc1 : l1.length ≤ c1) (h : laws_FnOrdersAreMatrices.Good k l0 l1) :
    Calls Tryz.prog 4 #[.slice A0 l0.length c0, .slice A1 l1.length c1] w fun e w' => e = .returned (.bool true) ∧ Below w.heap.size w w' := by
 have HC0 := aM hr0
 have HC1 := aM hr1
 have HL0 := aM hc0
 have HL1 := aM hc1
 clear hr0 hr1 hc0 hc1
 have HV := aM hV
 clear hV
 rcases h with hb | ⟨hb, m, z, o, o2, ok, e1, e2, e3, e4, e5⟩
 · {
 have HB := aM hb
 clear hb
 go_enter Tryz.func4, Tryz.ntmps4
 go_wp2_with (fail)
 refine (laws_big.calls A0 c0 l0 A1 c1 l1 true _ HC0.out HL0.out HC1.out HL1.out HB.out).mono ?_
 rintro e w1 ⟨rfl, ⟨q, rfl⟩⟩
 go_wp2_with (fail)
 go_ret
 exact ⟨rfl, pw_below_drewN (Below.refl _ _) _⟩}
 have HB := aM hb
 have E1 := aM e1
 have E2 := aM e2
 have E3 := aM e3
 have E4 := aM e4
 have E5 := aM e5
 clear hb e1 e2 e3 e4 e5
 go_enter Tryz.func4, Tryz.ntmps4
 go_wp2_with (fail)
 refine (laws_big.calls A0 c0 l0 A1 c1 l1 false _ (HC0.out) (HL0.out) (HC1.out) (HL1.out) HB.out).mono ?_
 rintro e w1 ⟨rfl, hd_⟩
 have H1 := aM ((Live.start w).drawn hd_)
 clear hd_
 go_wp2_with (fail)
 refine (Y78.calls k A0 c0 l0 m _ (Kd.C_below HC0.out H1.out.below) (HL0.out) E1.out).mono ?_
 rintro e w2 ⟨u0, rfl, hs0, hb⟩
 have H2 := aM (Live.add (o := lent (Kd.slice 3 (Kd.int .i64)) 24 u0 m) H1.out hb hs0)
 clear hs0 hb
 obtain ⟨A_m, c_m, rfl, _, _⟩ := H2.out.formq 0 rfl
 clear H1
 have H3 := aM (H2.out.new #[.slice A_m m.length c_m] 30)
 clear H2
 have k_m := cellV H3.out 1 rfl 0 rfl
 go_wp2_with (fail)
 refine (Y9.calls k A_m c_m m z o ok _ ((H3.out.nowq 0 rfl).2.2) ((H3.out.nowq 0 rfl).2.1) E2.out).mono ?_
 rintro e w3 ⟨u0, rfl, hs0, hb⟩
 clear k_m
 have H4 := aM (Live.add (o := row (Kd.int .i64) 3 u0 o) H3.out hb hs0)
 clear hs0 hb
 obtain ⟨A_o, c_o, rfl, _, _⟩ := H4.out.form 2 rfl
 clear H3
 have H5 := aM (H4.out.new #[.int .i64 z, .slice A_o o.length c_o] 26)
 clear H4
 have k_m := cellV H5.out 1 rfl 0 rfl
 go_wp2_with (fail)
 have bb : (ok != ok) = false := by simp
 refine (Y8.calls k A_m c_m m z o2 ok _ ((H5.out.nowq 0 rfl).2.2) ((H5.out.nowq 0 rfl).2.1) E3.out).mono ?_
 rintro e w4 ⟨u0, rfl, hs0, hb⟩
 clear k_m
 have H6 := aM (Live.add (o := row (Kd.int .i64) 3 u0 o2) H5.out hb hs0)
 clear hs0 hb
 obtain ⟨A_o2, c_o2, rfl, _, _⟩ := H6.out.form 4 rfl
 clear H5
 have H7 := aM (H6.out.new #[.int .i64 z, .slice A_o2 o2.length c_o2] 26)
 clear H6
 have k_o := cellV H7.out 3 rfl 0 rfl
 have k_o_1 := cellV H7.out 3 rfl 1 rfl
 have k_o2 := cellV H7.out 5 rfl 0 rfl
 have k_o2_1 := cellV H7.out 5 rfl 1 rfl
 go_wp2_with (fail)
 refine (laws_pSameOrder.calls k z A_o c_o o z A_o2 c_o2 o2 true _ ((H7.out.now 2 rfl).2.2) ((H7.out.now 2 rfl).2.1) ((H7.out.now 4 rfl).2.2) ((H7.out.now 4 rfl).2.1) E4.out).mono ?_
 rintro e w5 ⟨rfl, hb⟩
 clear k_o k_o_1 k_o2 k_o2_1
 have H8 := aM (H7.out.step hb)
 clear hb
 clear H7
 cases ok with
 | false => {
 go_wp2_with (fail)
 go_ret
 exact ⟨rfl, H8.out.below⟩}
 | true => {
 obtain ⟨bk, ls, ot, zb, bu, g1, g2, g3, g4, g5, g6, g7⟩ := E5.out rfl
 have G1 := aM g1
 have G2 := aM g2
 have G3 := aM g3
 have G4 := aM g4
 have G5 := aM g5
 have G6 := aM g6
 have G7 := aM g7
 clear g1 g2 g3 g4 g5 g6 g7
 have k_o := cellV H8.out 3 rfl 0 rfl
 have k_o_1 := cellV H8.out 3 rfl 1 rfl
 go_wp2_with (fail)
 clear bb
 refine (Y70.calls k z A_o c_o o bk true _ (HV.out.below H8.out.below) ((H8.out.now 2 rfl).2.2) ((H8.out.now 2 rfl).2.1) G1.out).mono ?_
 rintro e w6 ⟨u0, rfl, hs0, hb⟩
 clear k_o k_o_1
 have H9 := aM (Live.add (o := rows (Kd.slice 3 (Kd.int .i64)) 24 u0 bk) H8.out hb hs0)
 clear hs0 hb
 obtain ⟨A_bk, c_bk, rfl, _, _⟩ := H9.out.forms 6 rfl
 clear H8
 have H10 := aM (H9.out.new #[.slice A_bk bk.length c_bk] 30)
 clear H9
 have k_m := cellV H10.out 1 rfl 0 rfl
 go_wp2_with (fail)
 refine (Y64.calls k A_m c_m m ls true _ ((H10.out.nowq 0 rfl).2.2) ((H10.out.nowq 0 rfl).2.1) G2.out).mono ?_
 rintro e w7 ⟨u0, rfl, hs0, hb⟩
 clear k_m
 have H11 := aM (Live.add (o := row (Kd.int .i64) 3 u0 ls) H10.out hb hs0)
 clear hs0 hb
 obtain ⟨A_ls, c_ls, rfl, _, _⟩ := H11.out.form 8 rfl
 clear H10
 have k_o := cellV H11.out 3 rfl 0 rfl
 have k_o_1 := cellV H11.out 3 rfl 1 rfl
 go_wp2_with (fail)
 refine (Y65.calls k z A_o c_o o ot true _ (HV.out.below H11.out.below) ((H11.out.now 2 rfl).2.2) ((H11.out.now 2 rfl).2.1) G3.out).mono ?_
 rintro e w8 ⟨u0, rfl, hs0, hb⟩
 clear k_o k_o_1
 have H12 := aM (Live.add (o := row (Kd.int .i64) 3 u0 ot) H11.out hb hs0)
 clear hs0 hb
 obtain ⟨A_ot, c_ot, rfl, _, _⟩ := H12.out.form 9 rfl
 clear H11
 go_wp2_with (fail)
 refine (Y68.calls k A_ls c_ls ls zb bu true _ ((H12.out.now 8 rfl).2.2) ((H12.out.now 8 rfl).2.1) G4.out).mono ?_
 rintro e w9 ⟨u0, rfl, hs0, hb⟩
 have H13 := aM (Live.add (o := row (Kd.int .i64) 3 u0 bu) H12.out hb hs0)
 clear hs0 hb
 obtain ⟨A_bu, c_bu, rfl, _, _⟩ := H13.out.form 10 rfl
 clear H12
 have H14 := aM (H13.out.new #[.int .i64 zb, .slice A_bu bu.length c_bu] 26)
 clear H13
 have k_bu := cellV H14.out 11 rfl 0 rfl
 have k_bu_1 := cellV H14.out 11 rfl 1 rfl
 have k_o := cellV H14.out 3 rfl 0 rfl
 have k_o_1 := cellV H14.out 3 rfl 1 rfl
 go_wp2_with (fail)
 refine (Y18.calls k zb A_bu c_bu bu z A_o c_o o true true _ (HV.out.below H14.out.below) ((H14.out.now 10 rfl).2.2) ((H14.out.now 10 rfl).2.1) ((H14.out.now 2 rfl).2.2) ((H14.out.now 2 rfl).2.1) G5.out).mono ?_
 rintro e w10 ⟨rfl, hb⟩
 clear k_bu k_bu_1 k_o k_o_1
 have H15 := aM (H14.out.step hb)
 clear hb
 clear H14
 have k_bk := cellV H15.out 7 rfl 0 rfl
 have k_m := cellV H15.out 1 rfl 0 rfl
 go_wp2_with (fail)
 refine (laws_pSameMatrix.calls k A_bk c_bk bk A_m c_m m true _ ((H15.out.nows 6 rfl).2.2) ((H15.out.nows 6 rfl).2.1) ((H15.out.nowq 0 rfl).2.2) ((H15.out.nowq 0 rfl).2.1) G6.out).mono ?_
 rintro e w11 ⟨rfl, hb⟩
 clear k_bk k_m
 have H16 := aM (H15.out.step hb)
 clear hb
 clear H15
 go_wp2_with (fail)
 refine (laws_pSame.calls k A_ot c_ot ot A_ls c_ls ls true _ ((H16.out.now 9 rfl).2.2) ((H16.out.now 9 rfl).2.1) ((H16.out.now 8 rfl).2.2) ((H16.out.now 8 rfl).2.1) G7.out).mono ?_
 rintro e w12 ⟨rfl, hd_⟩
 have H17 := aM (H16.out.drawn hd_)
 clear hd_
 clear H16
 go_wp2_with (fail)
 go_ret
 exact ⟨rfl, H17.out.below⟩}
def laws_FnOrdersAreMatrices.Pure : Prop := ∀ (l0 : List Int) (l1 : List Int), l0.length ≤ maxLen → l0.length * 1 ≤ 140737488351232 → (∀ x ∈ l0, (Lit.int .u8 x).wf = true) → l1.length ≤ maxLen → l1.length * 1 ≤ 140737488351232 → (∀ x ∈ l1, (Lit.int .u8 x).wf = true) → ∃ k, laws_FnOrdersAreMatrices.Good k l0 l1
theorem laws_FnOrdersAreMatrices.walk (P : laws_FnOrdersAreMatrices.Pure) (a0 : Option Addr) (len0 cap0 : Nat) (z0 : List Int) (a1 : Option Addr) (len1 cap1 : Nat) (z1 : List Int) (w : World) (hV : TabZ w) (w0 : (a0 = none ∧ len0 = 0 ∧ cap0 = 0 ∧ z0 = []) ∨ ∃ x, a0 = some x ∧ len0 ≤ cap0 ∧ cap0 ≤ maxLen ∧ z0.length = cap0 ∧ (∀ i, i < z0.length → w.cell? (x.add i) = some (.int .u8 (z0.getD i 0))) ∧ ∀ n ∈ z0, (Lit.int .u8 n).wf = true) (y0 : len0 * 1 ≤ 140737488351232) (w1 : (a1 = none ∧ len1 = 0 ∧ cap1 = 0 ∧ z1 = []) ∨ ∃ x, a1 = some x ∧ len1 ≤ cap1 ∧ cap1 ≤ maxLen ∧ z1.length = cap1 ∧ (∀ i, i < z1.length → w.cell? (x.add i) = some (.int .u8 (z1.getD i 0))) ∧ ∀ n ∈ z1, (Lit.int .u8 n).wf = true) (y1 : len1 * 1 ≤ 140737488351232) :
  Calls Tryz.prog 4 #[.slice a0 len0 cap0, .slice a1 len1 cap1] w fun e w' => e = .returned (.bool true) ∧ Below w.heap.size w w' := by
 obtain ⟨l0, rfl, hr0, hm0, hw0, hc0⟩ := ReadsInt.ofRowC w0
 obtain ⟨l1, rfl, hr1, hm1, hw1, hc1⟩ := ReadsInt.ofRowC w1
 obtain ⟨k, h⟩ := P l0 l1 hm0 y0 hw0 hm1 y1 hw1
 refine (laws_FnOrdersAreMatrices.calls k _ _ l0 _ _ l1 w hV (Kd.C_of_reads (d := (0 : Int)) (h1 := fun _ => rfl) hr0) hc0 (Kd.C_of_reads (d := (0 : Int)) (h1 := fun _ => rfl) hr1) hc1 h).mono ?_
 rintro e w' ⟨rfl, hd⟩
 exact ⟨rfl, hd⟩
end Go.Proofs.YtcodionjhcmfhaaGreatDoor.Oa
