-- Written by hook.py, a program of this session (wip/), which runs the kit's print.py with its own parts; Lean checks it.
import Derived.Test.YtacdlipojhoilaaYx0
import Derived.Test.YtacdlipojhoilaaYx14
import Derived.Test.YtacdlipojhoilaaYx18
import Derived.Test.YtacdlipojhoilaaYx19
import Derived.Test.YtacdlipojhoilaaYxXSq
namespace Go.Proofs.Ytacdlipojhoilaa.Yx
open Go.RowKit Go.Proofs.YtacdlipojhoilaaW.PrintWords Go.Proofs.YtacdlipojhoilaaW.PrintLast Go.Proofs.YtacdlipojhoilaaW.PrintMore Go.Proofs.Ytacdlipojhoilaa.Sq
attribute [local go_sem] max2_int min2_int max_two min_two max_three min_three max_four min_four   -- for this text's walks alone
set_option linter.unusedVariables false
set_option linter.unusedSimpArgs false

def spec_ListAscents.l0 : Nat → List (List Int) → List Int → Bool → Option (List (List Int) × Bool)
  | 0, _, _, _ => none
  | k + 1, out, x, ok => if ok = true then (if out.length < 1000000 then (spec_asNext.f k x).bind fun t => spec_ListAscents.l0 k (out ++ [x]) t.1 t.2 else none) else some (out, true)
def spec_ListAscents.f (k : Nat) (a0 : Int) : Option (List (List Int) × Bool) := if 0 ≤ a0 ∧ a0 ≤ 7 then (spec_asNext.f k (List.replicate a0.toNat 0)).bind fun t => spec_ListAscents.l0 k [List.replicate a0.toNat 0] t.1 t.2 else some ([], false)
theorem spec_ListAscents.mono_l : ∀ k x y z, LeO (spec_ListAscents.l0 k x y z) (spec_ListAscents.l0 (k + 1) x y z)
  | 0 => fun _ _ _ r h => by simp [spec_ListAscents.l0] at h
  | k + 1 => by
    have ih0 := spec_ListAscents.mono_l k
    intro x y z
    unfold spec_ListAscents.l0
    repeat' first | with_reducible first | exact ih0 _ _ _ | exact spec_asNext.mono _ _ | exact LeO.refl _ | exact LeO.none _ | refine LeO.ite ?_ ?_ | refine LeO.bind ?_ (fun _ => ?_)
theorem spec_ListAscents.mono : ∀ a0 k, LeO (spec_ListAscents.f k a0) (spec_ListAscents.f (k + 1) a0) := by
 intro a0 k
 have ih0 := spec_ListAscents.mono_l k
 unfold spec_ListAscents.f
 repeat' first | with_reducible first | exact ih0 _ _ _ | exact spec_asNext.mono _ _ | exact LeO.refl _ | exact LeO.none _ | refine LeO.ite ?_ ?_ | refine LeO.bind ?_ (fun _ => ?_)
set_option maxHeartbeats 8000000 in
set_option maxRecDepth 100000 in
open Go.Proofs.Ytacdlipojhoilaa.Live in
theorem spec_ListAscents.calls (k : Nat) (a0 : Int) (r1 : List (List Int)) (r2 : Bool) (w : World) (h : spec_ListAscents.f k a0 = some (r1, r2)) :
    Calls Try.prog 155 #[.int .i64 a0] w fun e w' => ∃ v0_ : Value, e = .returned (.tuple #[v0_, .bool r2]) ∧ Kd.S (Kd.slice 3 (Kd.int .i64)) 24 w' w.heap.size (fun _ => True) v0_ r1 ∧ Below w.heap.size w w' := by
 by_cases hc : 0 ≤ a0 ∧ a0 ≤ 7
 · {
 unfold spec_ListAscents.f at h
 rw [if_pos hc] at h
 obtain ⟨n, rfl⟩ : ∃ n : Nat, a0 = (n : Int) := ⟨a0.toNat, by omega⟩
 rw [Int.toNat_natCast] at h
 obtain ⟨⟨t1, t2⟩, h1, h2⟩ := Option.bind_eq_some_iff.mp h
 clear h
 have E1 := aM h1; have E2 := aM (show spec_ListAscents.l0 k [List.replicate n 0] t1 t2 = some (r1, r2) from h2)
 have e1 : spec_l1In.f (n : Int) 0 7 = some true := by unfold spec_l1In.f; simp; omega
 have EI := aM e1
 have c3 : decide (0 ≤ (n : Int)) = true := decide_eq_true (by omega)
 have c4 : decide (n ≤ 35184372088832) = true := decide_eq_true (by omega)
 have HN := aM (show n ≤ 7 by omega)
 obtain ⟨fst, hf⟩ : ∃ z : List Int, z = List.replicate n 0 := ⟨_, rfl⟩
 have HF := aM hf
 rw [← hf] at E1 E2
 clear h1 h2 hc e1 hf
 go_enter Try.func155, Try.ntmps155
 go_wp2_with (fail)
 refine (spec_l1In.calls (n : Int) 0 7 true _ EI.out).mono ?_
 rintro e w1 ⟨rfl, ⟨q1, rfl⟩⟩
 have H1 := aM ((Live.start w).drewN q1)
 go_wp2_with (first | ((with_reducible refine gate_dst (N := 12) rfl ?_); refine Kd.R_make (Kd.int .i64) _ 3 rfl (N := 12) rfl 24 _ _ rfl (n : Int) rfl rfl Try.underlying24 (.int .i64 0) 8 (by kernel_rfl) rfl (by decide) (by omega) 0 (ok := fun _ => True) (okp := fun _ => True) rfl (fun _ hk => hk) trivial (by omega) (by have := HN.out; omega) (Below.refl _ _) (Nat.le_refl _) ?_; intro v12 w2 ho2 hb hg_ hnew_; clear hg_ hnew_; rw [Int.toNat_natCast, ← HF.out] at ho2; have H2 := aM (Live.add (o := row (Kd.int .i64) 3 v12 fst) H1.out hb ho2); clear hb ho2 H1; obtain ⟨A, c, rfl, _, hC⟩ := H2.out.form 0 rfl; have HC := aM hC; clear hC; obtain ⟨ok_, ho_, hok_, _, hback_⟩ := H2.out.lend 0 rfl) | ((with_reducible refine gate_dst (N := 14) rfl ?_); refine Kd.R_lit (Kd.tag (fun _ => 0) (Kd.slice 3 (Kd.int .i64))) w.heap.size 24 ?hg (N := 14) ?hd (xs := [(fst, 0)]) (inner := [.slice A fst.length c]) (ok := fun k_ => ok_ k_ ∨ w2.heap.size ≤ k_) (okp := ok_) ?hr ?hp (fun _ hk => .inl hk) (.inr (Nat.le_refl _)) H2.out.below H2.out.below.size (by simp) ?_; (case hd => rfl); (case hg => rfl); (case hr => first | (go_simp; done) | (go_simp; rfl)); (case hp => exact (Reps.one (show Kd.M (Kd.tag (fun _ => 0) (Kd.slice 3 (Kd.int .i64))) _ _ _ (fst, 0) [.slice A fst.length c] from ⟨_, rfl, Kd.R_mono ho_ (fun _ hk => ⟨hk, rfl⟩)⟩) (Reps.none _ _))); intro v14 w3 ho3 hb hg_ hnew_; clear hnew_; have HC3 := aM (Kd.C_below HC.out ⟨hg_.os, hg_.tape, hg_.output, hg_.size, fun k_ hk_ => hg_.block k_ hk_ (by simp)⟩); have H3 := aM (hback_ w3 (rows (Kd.slice 3 (Kd.int .i64)) 24 v14 [fst]) hb (Kept.of_grown hg_ (Kept.refl _ _) (fun k_ hk_ => by simp at hk_)) ⟨fun _ => 0, ho3⟩); clear ho3 hb hg_ hback_ ho_ hok_ HC) | fail)
 refine (spec_asNext.calls k A c fst t1 t2 _ HC3.out (by assumption) E1.out).mono ?_
 rintro e w4 ⟨v15, rfl, hs_, hb_⟩
 have H4 := aM (show Live w w4 [rows (Kd.slice 3 (Kd.int .i64)) 24 v14 [fst], row (Kd.int .i64) 3 v15 t1] from H3.out.add (o := row (Kd.int .i64) 3 v15 t1) hb_ hs_)
 clear hs_ hb_ H3 H2 HC3
 go_wp2_with (fail)
 go_loopg [5, 6, 7] k (fun kq v5 v6 v7 w' => ∃ (out : List (List Int)) (x : List Int) (ok : Bool), v7 = .bool ok ∧ Aside0 (spec_ListAscents.l0 kq out x ok = some (r1, r2) ∧ kq ≤ k) ∧ Aside0 (Live w w' [rows (Kd.slice 3 (Kd.int .i64)) 24 v5 out, row (Kd.int .i64) 3 v6 x]))
 case atStart => exact ⟨[fst], t1, t2, rfl, ⟨E2.out, Nat.le_refl _⟩, H4⟩
 case round => (
 clear H4 E2 E1
 obtain ⟨out, x, ok, rfl, HE, H⟩ := hrel
 rename World => wq
 cases gk with
 | zero => exact absurd HE.out.1 (by simp [spec_ListAscents.l0])
 | succ k1 => {
 have he := HE.out.1
 simp only [spec_ListAscents.l0] at he
 cases ok with
 | false => {
 rw [if_neg (by simp)] at he
 obtain ⟨rfl, rfl⟩ := Prod.mk.inj (Option.some.inj he)
 go_wp2_with (fail)
 go_ret2
 exact ⟨_, rfl, H.out.get 0 rfl, H.out.below⟩}
 | true => {
 rw [if_pos rfl] at he
 by_cases hl : out.length < 1000000
 · {
 rw [if_pos hl] at he
 obtain ⟨⟨y, oy⟩, h1, h2⟩ := Option.bind_eq_some_iff.mp he
 have E1 := aM h1; have E2 := aM (show spec_ListAscents.l0 k1 (out ++ [x]) y oy = some (r1, r2) from h2); have HL := aM hl
 clear h1 h2 hl he
 obtain ⟨Ax, cx, rfl, hcx, _⟩ := H.out.form 1 rfl
 obtain ⟨ok_, okl_, ho_, hp_, hd_, hbd_, hback_⟩ := H.out.lend2 0 1 rfl rfl (by decide)
 go_wp2_with (first | ((with_reducible refine gate_builtin (b := .append) (xs := #[.tmp 21, .tmp 23]) rfl ?_); at_builtin; refine Kd.S_append (Kd.slice 3 (Kd.int .i64)) (w0 := w) w.heap.size rfl (.tmp 21) (.tmp 23) 34 24 (.slice none 0 0) 24 rfl Try.underlying34 (by kernel_rfl) rfl (by decide) (by omega) _ out x [.slice Ax x.length cx] (fun k_ => ok_ k_ ∨ okl_ k_ ∨ wq.heap.size ≤ k_) okl_ rfl rfl ⟨_, rfl, hp_⟩ (fun k_ hk_ => ⟨.inr (.inl hk_), fun he_ => hd_ k_ hk_ ((Kd.S_R ho_).1 k_ he_.symm)⟩) (fun k_ hk_ => .inr (.inr hk_)) (Kd.S_mono ho_ (fun k_ hk_ => ⟨.inl hk_, fun h2_ => hd_ k_ h2_ hk_⟩)) H.out.below H.out.below.size (by have := HL.out; omega) ?_; intro v6 w6 hs_ hb_ hg_ hat_; have HC6 := aM (Kd.R_reads' (Kd.R_step hp_ (fun k_ hk_ hlt_ => hg_.block k_ hlt_ (fun e_ => hd_ k_ hk_ ((Kd.S_R ho_).1 k_ e_.symm))))).2.2; have H6 := aM (hback_ w6 (rows (Kd.slice 3 (Kd.int .i64)) 24 v6 (out ++ [x])) hb_ (Kept.of_grown hg_ (Kept.refl wq _) (fun k_ hk_ => .inl (.inl ((Kd.S_R ho_).1 k_ hk_)))) hs_); clear hs_ hb_ hg_ hat_ hback_ hbd_ hd_ hp_ ho_) | fail)
 refine (spec_asNext.calls k1 Ax cx x y oy _ HC6.out hcx E1.out).mono ?_
 rintro e w7 ⟨v8, rfl, hs_, hb_⟩
 have H7 := aM (show Live w w7 [rows (Kd.slice 3 (Kd.int .i64)) 24 v6 (out ++ [x]), row (Kd.int .i64) 3 v8 y] from (H6.out.add (o := row (Kd.int .i64) 3 v8 y) hb_ hs_).drop 1)
 clear hs_ hb_ H6 H HC6
 go_wp2_with (fail)
 go_roundg k1
 case measure => omega
 case rel => exact ⟨out ++ [x], y, oy, rfl, ⟨E2.out, by have := HE.out.2; omega⟩, H7⟩}
 · rw [if_neg hl] at he; exact absurd he (by simp)}})}
 · {
 unfold spec_ListAscents.f at h
 rw [if_neg hc] at h
 obtain ⟨rfl, rfl⟩ := Prod.mk.inj (Option.some.inj h)
 clear h
 have EI := aM (show spec_l1In.f a0 0 7 = some false by
  unfold spec_l1In.f
  by_cases c : a0 ≥ 0
  · rw [if_pos c]; simp; omega
  · rw [if_neg c])
 clear hc
 go_enter Try.func155, Try.ntmps155
 go_wp2_with (fail)
 refine (spec_l1In.calls a0 0 7 false _ EI.out).mono ?_
 rintro e w1 ⟨rfl, ⟨q1, rfl⟩⟩
 go_wp2_with (fail)
 go_ret2
 exact ⟨_, rfl, Kd.S_nil _ _ _ _ _, pw_below_drewN (Below.refl _ _) _⟩}
def spec_ListMatrices.l0 : Nat → List (S36) → List (List Int) → Int → Int → Option ((List (S36)) × Bool)
 | 0, _, _, _, _ => none
 | k + 1, x6, x16, x17, x18 => if x18 < x17 then (if 0 ≤ x18 then (if x18 < (x16.length : Int) then ((spec_maOf.f k (rd_L2 x16 x18)).bind fun t399 => (if x6.length < 5864062014805 then (spec_ListMatrices.l0 k (x6 ++ [(⟨t399⟩ : S36)]) x16 x17 (wrap64 (x18 + 1))) else (none))) else (none)) else (none)) else (some (x6, true))
def spec_ListMatrices.f (k : Nat) (a0 : Int) : Option ((List (S36)) × Bool) := (spec_ListAscents.f k a0).bind fun bt394 => (if bt394.2 = true then (spec_ListMatrices.l0 k ([] : List (S36)) bt394.1 (bt394.1.length : Int) 0) else (some (([] : List (S36)), false)))
theorem spec_ListMatrices.mono_l : ∀ k, (∀ y0 y1 y2 y3, LeO (spec_ListMatrices.l0 k y0 y1 y2 y3) (spec_ListMatrices.l0 (k + 1) y0 y1 y2 y3))
 | 0 => fun _ _ _ _ r h => by simp [spec_ListMatrices.l0] at h
 | k + 1 => by
  have ih0 := spec_ListMatrices.mono_l k
  ·intro y0 y1 y2 y3
   unfold spec_ListMatrices.l0
   repeat' first | with_reducible first | exact ih0 _ _ _ _ | exact spec_ListAscents.mono _ _ | exact spec_maOf.mono _ _ | exact LeO.refl _ | exact LeO.none _ | refine LeO.ite ?_ ?_ | refine LeO.bind ?_ (fun _ => ?_)
theorem spec_ListMatrices.mono : ∀ a0 k, LeO (spec_ListMatrices.f k a0) (spec_ListMatrices.f (k + 1) a0) := by
 intro a0 k
 have ih0 := spec_ListMatrices.mono_l k
 unfold spec_ListMatrices.f
 repeat' first | with_reducible first | exact ih0 _ _ _ _ | exact spec_ListAscents.mono _ _ | exact spec_maOf.mono _ _ | exact LeO.refl _ | exact LeO.none _ | refine LeO.ite ?_ ?_ | refine LeO.bind ?_ (fun _ => ?_)
set_option maxHeartbeats 8000000 in
set_option maxRecDepth 100000 in
theorem spec_ListMatrices.calls (k : Nat) (a0 : Int) (r1 : List (S36)) (r2 : Bool) (w : World) (h : spec_ListMatrices.f k a0 = some (r1, r2)) :
  Calls Try.prog 119 #[.int .i64 a0] w fun e w' => ∃ v0_ : Value, e = .returned (.tuple #[v0_, .bool r2]) ∧ Kd.R k36 36 w' w.heap.size (fun _ => True) v0_ r1 ∧ Below w.heap.size w w' := by
 have HB := aM (Below.refl w.heap.size w)
 have H : ((spec_ListAscents.f k a0).bind fun bt394 => (if bt394.2 = true then (spec_ListMatrices.l0 k ([] : List (S36)) bt394.1 (bt394.1.length : Int) 0) else (some (([] : List (S36)), false)))) = some (r1, r2) := h
 clear h
 replace H := Option.bind_eq_some_iff.mp H
 obtain ⟨⟨t394, t395⟩, A20, H⟩ := H
 replace H : (if t395 = true then (spec_ListMatrices.l0 k ([] : List (S36)) t394 (t394.length : Int) 0) else (some (([] : List (S36)), false))) = some (r1, r2) := H
 have A2 := aM A20
 clear A20
 by_cases c3 : t395 = true
 ·subst c3
  have H1 : (spec_ListMatrices.l0 k ([] : List (S36)) t394 (t394.length : Int) 0) = some (r1, r2) := by rw [if_pos rfl] at H; exact H
  clear H
  have H := H1
  clear H1
  have H' := aM H
  clear H
  go_enter Try.func119, Try.ntmps119
  go_wp2_with (first | ((with_reducible refine gate_callee (f := 155) rfl ?_); refine gL (some 11) Try.func155 #[.int .i64 a0] ?_; (with_reducible refine (spec_ListAscents.calls k a0 t394 true _ A2.out).mono ?_); rintro e w4 ⟨v396, rfl, ho0, hb⟩; refine ⟨_, rfl, ?_⟩; have _ := aM (Kd.S_lower ho0 (below_size bq)); have _ := aM (below_step bq hb); clear HB; rename_i HO397 HB; (try clear hb); (try clear hb2); (try clear hk); (try clear hi); (try clear ho0); obtain ⟨Ao5, co5, eo5⟩ := Kd.S_slice HO397.out; subst eo5))
  go_loopg [6, 18] k (fun kq v6 v18 w' => ∃ (x6_1 : List (S36)) (x18_1 : Int), v18 = .int .i64 x18_1 ∧ Aside0 (spec_ListMatrices.l0 kq x6_1 t394 (t394.length : Int) x18_1 = some (r1, r2)) ∧ Aside0 (kq ≤ k) ∧ Aside0 (Kd.R k36 36 w' w.heap.size (fun k_ => some k_ ≠ ((.slice Ao5 t394.length co5) : Value).ownBlock) v6 x6_1) ∧ Aside0 (Kd.S (Kd.slice 3 (Kd.int .i64)) 24 w' w.heap.size (fun _ => True) (.slice Ao5 t394.length co5) t394) ∧ Aside0 (Below w.heap.size w w'))
  case atStart => exact ⟨(([] : List (S36))), (0), (by first | rfl | (simp; done) | (simp [*]; done)), H', ⟨Nat.le_refl _⟩, ⟨by first | exact Kd.R_nil _ _ _ _ _ | exact Kd.N_nil _ _ _ _ _ | exact Kd.V_nil _ _ _ _ _ | exact Kd.Q_nil _ _ _ _ _ | exact Kd.S_nil _ _ _ _ _⟩, ⟨by (with_reducible repeat first|apply sA|apply sN|apply sD); exact HO397.out⟩, ⟨by exact bq⟩⟩
  case round =>
   clear H'
   try clear c1
   try clear p2
   try clear c3
   obtain ⟨x6_1, x18_1, rfl, HA, HK1, HO_6, HO_16, HB⟩ := hrel
   cases gk with
   | zero => exact absurd HA.out (by simp [spec_ListMatrices.l0])
   | succ k1 =>
    have H := HA.out
    clear HA
    simp only [spec_ListMatrices.l0] at H
    by_cases c6 : x18_1 < (t394.length : Int)
    ·rw [if_pos c6] at H
     have c6b0 : decide (x18_1 < (t394.length : Int)) = true := decide_eq_true c6
     clear c6
     by_cases c7 : 0 ≤ x18_1
     ·rw [if_pos c7] at H
      have c7b0 : decide (0 ≤ x18_1) = true := decide_eq_true c7
      clear c7
      by_cases c8 : x18_1 < (t394.length : Int)
      ·rw [if_pos c8] at H
       have c8b0 : decide (x18_1 < (t394.length : Int)) = true := decide_eq_true c8
       clear c8
       replace H := Option.bind_eq_some_iff.mp H
       obtain ⟨t399, A90, H⟩ := H
       replace H : (if x6_1.length < 5864062014805 then (spec_ListMatrices.l0 k1 (x6_1 ++ [(⟨t399⟩ : S36)]) t394 (t394.length : Int) (wrap64 (x18_1 + 1))) else (none)) = some (r1, r2) := H
       have A9 := aM A90
       clear A90
       by_cases c10 : x6_1.length < 5864062014805
       ·rw [if_pos c10] at H
        have LMc10 := aM c10
        clear c10
        obtain ⟨y402, hy402⟩ : ∃ y_ : List (S36), y_ = (x6_1 ++ [(⟨t399⟩ : S36)]) := ⟨_, rfl⟩
        replace H : (spec_ListMatrices.l0 k1 y402 t394 (t394.length : Int) (wrap64 (x18_1 + 1))) = some (r1, r2) := by first | (rw [hy402]; with_reducible exact H) | (have H2_ := (Option.bind_some _ _).symm.trans H; rw [hy402]; with_reducible exact H2_) | (have H2_ := (Option.bind_some _ _).symm.trans H; with_reducible exact H2_) | with_reducible exact H | (rw [hy402]; exact H) | exact H
        have Ny402 := aM hy402
        clear hy402
        have H' := aM H
        clear H
        have p398 : 0 ≤ (x18_1 : Int) := odt
        have q398 : x18_1 < (t394.length : Int) := odt
        obtain ⟨ad398, A398_0, c398_0, e398, hx398_0, hl398_0, hi398_0⟩ := at_L2 (Kd.S_reads' HO_16.out).2.2 x18_1 p398 q398
        cases e398
        obtain ⟨ce398, hce398, hMe398, hcc398⟩ := Kd.S_get HO_16.out [] x18_1 p398 (by first | exact q398 | exact odt | (have e_ := (Kd.S_reads' HO_16.out).1; omega))
        obtain ⟨ve398_0, rfl, ge398_0⟩ := hMe398
        have hv398_0 := hcc398 0 _ rfl
        rw [Nat.add_zero, show ((Kd.slice 3 (Kd.int .i64))).sz = 1 from rfl, Nat.mul_one] at hv398_0
        replace hv398_0 := Option.some.inj (hv398_0.symm.trans hx398_0)
        rw [hv398_0] at ge398_0
        have HL398_0 := aM (show Kd.R (Kd.int .i64) 3 _ _ _ _ (rd_L2 t394 x18_1) from ge398_0)
        clear hv398_0 ge398_0
        clear hcc398 hce398
        have HR398_0 := aM hi398_0
        have HC398_0 := aM hl398_0
        clear hi398_0 hl398_0
        replace p398 := eq_true p398
        replace q398 := eq_true q398
        go_wp2_with (first | ((with_reducible refine gate_callee (f := 95) rfl ?_); refine gL (some 24) Try.func95 #[.slice A398_0 (rd_L2 t394 x18_1).length c398_0] ?_; (with_reducible refine (spec_maOf.calls k1 _ _ (rd_L2 t394 x18_1) t399 _ (cQ HR398_0.out) HC398_0.out A9.out).mono ?_); rintro e w11 ⟨v400, rfl, ho0, hb⟩; refine ⟨_, rfl, ?_⟩; have _ := aM (Kd.R_elder' (rQ HO_6) (Kd.S_base ho0) hb); have _ := aM (Kd.S_elder' (sQ HO_16) (Kd.S_base ho0) hb); have _ := aM (Kd.R_below (rQ HL398_0) hb); have _ := aM (Kd.S_lower (Kd.S_new' (Kd.S_new' ho0 (Kd.S_lt (sQ HO_16))) (Kd.R_lt (rQ HL398_0))) (below_size bq)); have _ := aM (Kd.C_below (cQ HR398_0.out) hb); have _ := aM (below_step bq hb); clear HO_6 HO_16 HL398_0 HR398_0 HB; rename_i HO_6 HO_16 HL398_0 HO401 HR398_0 HB; (try clear hb); (try clear hb2); (try clear hk); (try clear hi); (try clear ho0); obtain ⟨Ao13, co13, eo13⟩ := Kd.S_slice HO401.out; subst eo13) | ((with_reducible refine gate_builtin (b := .append) (xs := #[.tmp 22, .tmp 25]) rfl ?_); at_builtin; refine Kd.R_append k36 (w0 := w) w.heap.size rfl (.tmp 22) (.tmp 25) 66 36 (.agg #[(.slice none 0 0)]) 24 rfl Try.underlying66 info36 rfl (by decide) (by omega) u6 x6_1 (⟨t399⟩ : S36) [.slice Ao13 t399.length co13] (fun k_ => some k_ ≠ (.slice (some ad398) t394.length co5 : Value).ownBlock) (fun k_ => ((fun k_ => some k_ ≠ (.slice (some ad398) t394.length co5 : Value).ownBlock)) k_ ∧ some k_ ≠ (u6 : Value).ownBlock) rfl rfl ?aP (fun _ hk => hk) ?aF ?aO ?aB ?aS ?aL ?_; (case aP => exact k36_mkM _ _ _ (⟨t399⟩ : S36) (Kd.R_mono (Kd.R_apart' ((Kd.S_R HO401.out)) (Kd.R_typed HO_6.out) (by decide)) (fun k_ hk => ⟨hk.1.1.2, hk.2⟩))); (case aB => exact bq); (case aF => exact (fun k_ hk => Kd.fresh' (Kd.S_lt (sQ HO_16)) k_ hk)); (case aO => exact (by (with_reducible repeat first|apply rA|apply rN|apply rD); exact Kd.R_mono HO_6.out (fun _ hk => hk.1))); (case aS => exact (below_size bq)); (case aL => have := LMc10.out; omega); intro v403 w12 ho hb hg hat; rw [← Ny402.out] at ho; have _ := aM (Kd.S_over' (sQ HO_16) (Kd.R_typed (rQ HO_6)) (by decide) hg); have _ := aM (Kd.R_over' (rQ HL398_0) (Kd.R_typed (rQ HO_6)) (by decide) hg); have _ := aM (hb); have _ := aM (ho); clear HO_16 HL398_0 HB HO_6 HO401; rename_i HO_16 HL398_0 HB HO404; clear ho hb hg hat))
        go_roundg k1
        case measure => have := HK1.out; omega
        case rel => exact ⟨(y402), (wrap64 (x18_1 + 1)), (by first | rfl | (simp; done) | (simp [*]; done)), H', ⟨by have := HK1.out; omega⟩, ⟨by (with_reducible repeat first|apply rA|apply rN|apply rD); exact HO404.out⟩, ⟨by (with_reducible repeat first|apply sA|apply sN|apply sD); exact Kd.S_mono HO_16.out (fun _ hk => trivial)⟩, ⟨by exact bq⟩⟩
       ·rw [if_neg c10] at H
        exact absurd H (by simp)
      ·rw [if_neg c8] at H
       exact absurd H (by simp)
     ·rw [if_neg c7] at H
      exact absurd H (by simp)
    ·rw [if_neg c6] at H
     have c6b0 : decide (x18_1 < (t394.length : Int)) = false := decide_eq_false c6
     clear c6
     simp only [Option.some.injEq, Prod.mk.injEq] at H
     obtain ⟨rfl, rfl⟩ := H
     go_wp2
     go_ret2
     exact ⟨_, by first | rfl | (simp [errW_none, errW_some] <;> rfl) | (simp [*, errW_none, errW_some] <;> rfl), by (with_reducible repeat first|apply rA|apply rN|apply rD); exact Kd.R_mono HO_6.out (fun _ hk => trivial), by exact bq⟩
 ·replace c3 := Bool.eq_false_iff.mpr c3
  subst c3
  have H1 : (some (([] : List (S36)), false)) = some (r1, r2) := by rw [if_neg (show ¬ (false = true) by decide)] at H; exact H
  clear H
  have H := H1
  clear H1
  simp only [Option.some.injEq, Prod.mk.injEq] at H
  obtain ⟨rfl, rfl⟩ := H
  go_enter Try.func119, Try.ntmps119
  go_wp2_with (first | ((with_reducible refine gate_callee (f := 155) rfl ?_); refine gL (some 11) Try.func155 #[.int .i64 a0] ?_; (with_reducible refine (spec_ListAscents.calls k a0 t394 false _ A2.out).mono ?_); rintro e w14 ⟨v396, rfl, ho0, hb⟩; refine ⟨_, rfl, ?_⟩; have _ := aM (Kd.S_lower ho0 (below_size bq)); have _ := aM (below_step bq hb); clear HB; rename_i HO397 HB; (try clear hb); (try clear hb2); (try clear hk); (try clear hi); (try clear ho0)))
  go_ret2
  exact ⟨_, by first | rfl | (simp [errW_none, errW_some] <;> rfl) | (simp [*, errW_none, errW_some] <;> rfl), by first | exact Kd.R_nil _ _ _ _ _ | exact Kd.N_nil _ _ _ _ _ | exact Kd.V_nil _ _ _ _ _ | exact Kd.Q_nil _ _ _ _ _ | exact Kd.S_nil _ _ _ _ _, by exact bq⟩

def spec_ListTidy.l0 : Nat → List (List Int) → List (S36) → Int → Int → Option ((List (List Int)) × Bool)
 | 0, _, _, _, _ => none
 | k + 1, x6, x16, x17, x18 => if x18 < x17 then (if 0 ≤ x18 then (if x18 < (x16.length : Int) then ((spec_stOf.f k ((rd_T36 x16 x18).f0)).bind fun t411 => (if x6.length < 5864062014805 then (spec_ListTidy.l0 k (x6 ++ [t411]) x16 x17 (wrap64 (x18 + 1))) else (none))) else (none)) else (none)) else (some (x6, true))
def spec_ListTidy.f (k : Nat) (a0 : Int) : Option ((List (List Int)) × Bool) := (spec_ListMatrices.f k a0).bind fun bt405 => (if bt405.2 = true then (spec_ListTidy.l0 k ([] : List (List Int)) bt405.1 (bt405.1.length : Int) 0) else (some (([] : List (List Int)), false)))
theorem spec_ListTidy.mono_l : ∀ k, (∀ y0 y1 y2 y3, LeO (spec_ListTidy.l0 k y0 y1 y2 y3) (spec_ListTidy.l0 (k + 1) y0 y1 y2 y3))
 | 0 => fun _ _ _ _ r h => by simp [spec_ListTidy.l0] at h
 | k + 1 => by
  have ih0 := spec_ListTidy.mono_l k
  ·intro y0 y1 y2 y3
   unfold spec_ListTidy.l0
   repeat' first | with_reducible first | exact ih0 _ _ _ _ | exact spec_ListMatrices.mono _ _ | exact spec_stOf.mono _ _ | exact LeO.refl _ | exact LeO.none _ | refine LeO.ite ?_ ?_ | refine LeO.bind ?_ (fun _ => ?_)
theorem spec_ListTidy.mono : ∀ a0 k, LeO (spec_ListTidy.f k a0) (spec_ListTidy.f (k + 1) a0) := by
 intro a0 k
 have ih0 := spec_ListTidy.mono_l k
 unfold spec_ListTidy.f
 repeat' first | with_reducible first | exact ih0 _ _ _ _ | exact spec_ListMatrices.mono _ _ | exact spec_stOf.mono _ _ | exact LeO.refl _ | exact LeO.none _ | refine LeO.ite ?_ ?_ | refine LeO.bind ?_ (fun _ => ?_)
set_option maxHeartbeats 8000000 in
set_option maxRecDepth 100000 in
theorem spec_ListTidy.calls (k : Nat) (a0 : Int) (r1 : List (List Int)) (r2 : Bool) (w : World) (h : spec_ListTidy.f k a0 = some (r1, r2)) :
  Calls Try.prog 62 #[.int .i64 a0] w fun e w' => ∃ v0_ : Value, e = .returned (.tuple #[v0_, .bool r2]) ∧ Kd.S (Kd.slice 3 (Kd.int .i64)) 24 w' w.heap.size (fun _ => True) v0_ r1 ∧ Below w.heap.size w w' := by
 have hu36 := Try.underlying36
 have HB := aM (Below.refl w.heap.size w)
 have H : ((spec_ListMatrices.f k a0).bind fun bt405 => (if bt405.2 = true then (spec_ListTidy.l0 k ([] : List (List Int)) bt405.1 (bt405.1.length : Int) 0) else (some (([] : List (List Int)), false)))) = some (r1, r2) := h
 clear h
 replace H := Option.bind_eq_some_iff.mp H
 obtain ⟨⟨t405, t406⟩, A20, H⟩ := H
 replace H : (if t406 = true then (spec_ListTidy.l0 k ([] : List (List Int)) t405 (t405.length : Int) 0) else (some (([] : List (List Int)), false))) = some (r1, r2) := H
 have A2 := aM A20
 clear A20
 by_cases c3 : t406 = true
 ·subst c3
  have H1 : (spec_ListTidy.l0 k ([] : List (List Int)) t405 (t405.length : Int) 0) = some (r1, r2) := by rw [if_pos rfl] at H; exact H
  clear H
  have H := H1
  clear H1
  have H' := aM H
  clear H
  go_enter Try.func62, Try.ntmps62
  go_wp2_with (first | ((with_reducible refine gate_callee (f := 119) rfl ?_); refine gL (some 11) Try.func119 #[.int .i64 a0] ?_; (with_reducible refine (spec_ListMatrices.calls k a0 t405 true _ A2.out).mono ?_); rintro e w4 ⟨v407, rfl, ho0, hb⟩; refine ⟨_, rfl, ?_⟩; have _ := aM (Kd.R_lower ho0 (below_size bq)); have _ := aM (below_step bq hb); clear HB; rename_i HO408 HB; (try clear hb); (try clear hb2); (try clear hk); (try clear hi); (try clear ho0); obtain ⟨Ao5, co5, eo5⟩ := Kd.R_slice HO408.out; subst eo5))
  go_loopg [6, 18] k (fun kq v6 v18 w' => ∃ (x6_1 : List (List Int)) (x18_1 : Int), v18 = .int .i64 x18_1 ∧ Aside0 (spec_ListTidy.l0 kq x6_1 t405 (t405.length : Int) x18_1 = some (r1, r2)) ∧ Aside0 (kq ≤ k) ∧ Aside0 (Kd.S (Kd.slice 3 (Kd.int .i64)) 24 w' w.heap.size (fun _ => True) v6 x6_1) ∧ Aside0 (Kd.R k36 36 w' w.heap.size (fun k_ => some k_ ≠ (v6 : Value).ownBlock) (.slice Ao5 t405.length co5) t405) ∧ Aside0 (Below w.heap.size w w'))
  case atStart => exact ⟨(([] : List (List Int))), (0), (by first | rfl | (simp; done) | (simp [*]; done)), H', ⟨Nat.le_refl _⟩, ⟨by first | exact Kd.S_nil _ _ _ _ _ | exact Kd.N_nil _ _ _ _ _ | exact Kd.V_nil _ _ _ _ _ | exact Kd.Q_nil _ _ _ _ _ | exact Kd.R_nil _ _ _ _ _⟩, ⟨by (with_reducible repeat first|apply rA|apply rN|apply rD); exact Kd.R_mono HO408.out (fun _ hk => (by simp [Value.ownBlock]))⟩, ⟨by exact bq⟩⟩
  case round =>
   clear H'
   try clear c1
   try clear p2
   try clear c3
   obtain ⟨x6_1, x18_1, rfl, HA, HK1, HO_6, HO_16, HB⟩ := hrel
   cases gk with
   | zero => exact absurd HA.out (by simp [spec_ListTidy.l0])
   | succ k1 =>
    have H := HA.out
    clear HA
    simp only [spec_ListTidy.l0] at H
    by_cases c6 : x18_1 < (t405.length : Int)
    ·rw [if_pos c6] at H
     have c6b0 : decide (x18_1 < (t405.length : Int)) = true := decide_eq_true c6
     clear c6
     by_cases c7 : 0 ≤ x18_1
     ·rw [if_pos c7] at H
      have c7b0 : decide (0 ≤ x18_1) = true := decide_eq_true c7
      clear c7
      by_cases c8 : x18_1 < (t405.length : Int)
      ·rw [if_pos c8] at H
       have c8b0 : decide (x18_1 < (t405.length : Int)) = true := decide_eq_true c8
       clear c8
       replace H := Option.bind_eq_some_iff.mp H
       obtain ⟨t411, A90, H⟩ := H
       replace H : (if x6_1.length < 5864062014805 then (spec_ListTidy.l0 k1 (x6_1 ++ [t411]) t405 (t405.length : Int) (wrap64 (x18_1 + 1))) else (none)) = some (r1, r2) := H
       have A9 := aM A90
       clear A90
       by_cases c10 : x6_1.length < 5864062014805
       ·rw [if_pos c10] at H
        have LMc10 := aM c10
        clear c10
        obtain ⟨y414, hy414⟩ : ∃ y_ : List (List Int), y_ = (x6_1 ++ [t411]) := ⟨_, rfl⟩
        replace H : (spec_ListTidy.l0 k1 y414 t405 (t405.length : Int) (wrap64 (x18_1 + 1))) = some (r1, r2) := by first | (rw [hy414]; with_reducible exact H) | (have H2_ := (Option.bind_some _ _).symm.trans H; rw [hy414]; with_reducible exact H2_) | (have H2_ := (Option.bind_some _ _).symm.trans H; with_reducible exact H2_) | with_reducible exact H | (rw [hy414]; exact H) | exact H
        have Ny414 := aM hy414
        clear hy414
        have H' := aM H
        clear H
        have p409 : 0 ≤ (x18_1 : Int) := odt
        have q409 : x18_1 < (t405.length : Int) := odt
        obtain ⟨ad409, A409_0, c409_0, e409, hx409_0, hl409_0, hi409_0⟩ := at_T36 (Kd.R_reads' HO_16.out).2.2 x18_1 p409 q409
        cases e409
        obtain ⟨ce409, hce409, hMe409, hcc409⟩ := Kd.R_get HO_16.out z36 x18_1 p409 (by first | exact q409 | exact odt | (have e_ := (Kd.R_reads' HO_16.out).1; omega))
        obtain ⟨ve409_0, rfl, ge409_0⟩ := k36_openM hMe409
        have hv409_0 := hcc409 0 _ rfl
        rw [Nat.add_zero, show (k36).sz = 1 from rfl, Nat.mul_one] at hv409_0
        replace hv409_0 := Option.some.inj (hv409_0.symm.trans hx409_0)
        rw [hv409_0] at ge409_0
        have HL409_0 := aM (show Kd.R (Kd.slice 3 (Kd.int .i64)) 24 _ _ _ _ ((rd_T36 t405 x18_1).f0) from ge409_0)
        clear hv409_0 ge409_0
        clear hcc409 hce409
        have HR409_0 := aM hi409_0
        have HC409_0 := aM hl409_0
        clear hi409_0 hl409_0
        replace p409 := eq_true p409
        replace q409 := eq_true q409
        go_wp2_with (first | ((with_reducible refine gate_dst (N := 8) rfl ?_); refine bE 8 36 #[.slice none 0 0] ?_; intro gb410 hg w11 hbox hb; have _ := aM (Kd.S_below (sQ HO_6) hb); have _ := aM (Kd.R_below (Kd.R_elderB (rQ HO_16) gb410 (Nat.le_of_eq hg.symm)) hb); have _ := aM (Kd.R_below (rQ HL409_0) hb); have _ := aM (Kd.C_below (cQ HR409_0.out) hb); have _ := aM (below_step bq hb); have _ := aM (hbox); have _ := aM ((gS hg)); have _ := aM ((gS hg)); clear HO_6 HO_16 HL409_0 HR409_0 HB; rename_i HO_6 HO_16 HL409_0 HR409_0 HB BK410 GW410 GE410; clear hb hbox hg; have hcz12_0 : w11.cell? ⟨gb410, 0, none⟩ = some (.slice none 0 0) := (blk_cell BK410.out 0).trans rfl; have hfz12_0 := blk_frozen BK410.out 0) | ((with_reducible refine gate_callee (f := 81) rfl ?_); refine gL (some 24) Try.func81 #[.agg #[.slice A409_0 ((rd_T36 t405 x18_1).f0).length c409_0]] ?_; (with_reducible refine (spec_stOf.calls k1 _ _ ((rd_T36 t405 x18_1).f0) t411 _ ?side1 ?side2 A9.out).mono ?_); (case side1 => repeat (first | exact ((Kd.R_reads' (by (with_reducible repeat first|apply rA|apply rN|apply rD); exact (Kd.R_mono (Kd.R_far (p := ⟨gb410, 0, none⟩) (Kd.R_types HL409_0.out BK410.out (by decide)) (fun _ hk => hk.2) (.slice A409_0 ((rd_T36 t405 x18_1).f0).length c409_0)) (fun _ h_ => h_.1)))).2.2) | (with_reducible refine Kd.C_alloc ?_ _) | (with_reducible refine Kd.C_drewN ?_ _) | (with_reducible refine Kd.C_drew ?_))); (case side2 => exact HC409_0.out); rintro e w13 ⟨v412, rfl, ho0, hb⟩; refine ⟨_, rfl, ?_⟩; have _ := aM (Kd.S_elder' (by (with_reducible repeat first|apply sA|apply sN|apply sD); exact (Kd.S_mono (Kd.S_far (p := ⟨gb410, 0, none⟩) (Kd.S_types HO_6.out BK410.out (by decide)) (fun _ hk => hk.2) (.slice A409_0 ((rd_T36 t405 x18_1).f0).length c409_0)) (fun _ h_ => h_.1))) (Kd.R_base ho0) hb); have _ := aM (Kd.R_elder' (by (with_reducible repeat first|apply rA|apply rN|apply rD); exact (Kd.R_mono (Kd.R_far (p := ⟨gb410, 0, none⟩) (Kd.R_mono HO_16.out (fun k_ hk => (⟨hk, hk.2⟩ : _ ∧ k_ ≠ gb410))) (fun _ hk => hk.2) (.slice A409_0 ((rd_T36 t405 x18_1).f0).length c409_0)) (fun _ h_ => h_.1))) (Kd.R_base ho0) hb); have _ := aM (Kd.R_elder' (by (with_reducible repeat first|apply rA|apply rN|apply rD); exact (Kd.R_mono (Kd.R_far (p := ⟨gb410, 0, none⟩) (Kd.R_types HL409_0.out BK410.out (by decide)) (fun _ hk => hk.2) (.slice A409_0 ((rd_T36 t405 x18_1).f0).length c409_0)) (fun _ h_ => h_.1))) (Kd.R_base ho0) hb); have _ := aM (Kd.R_lower ho0 (below_size bq)); have _ := aM (Kd.C_below ((Kd.R_reads' (by (with_reducible repeat first|apply rA|apply rN|apply rD); exact (Kd.R_mono (Kd.R_far (p := ⟨gb410, 0, none⟩) (Kd.R_types HL409_0.out BK410.out (by decide)) (fun _ hk => hk.2) (.slice A409_0 ((rd_T36 t405 x18_1).f0).length c409_0)) (fun _ h_ => h_.1)))).2.2) hb); have _ := aM (blk_below (g := gb410) (o := .cells #[.slice A409_0 ((rd_T36 t405 x18_1).f0).length c409_0] 36 (0, 0)) (by (with_reducible repeat first|apply qN|apply qD|apply qA); refine blk_put (cs := #[.slice none 0 0]) ?_ 0 _ rfl; (with_reducible repeat first|apply qN|apply qD|apply qA); exact BK410.out) hb); have _ := aM (below_step bq hb); clear HO_6 HO_16 HL409_0 HR409_0 BK410 HB; rename_i HO_6 HO_16 HL409_0 HO413 HR409_0 BK410 HB; (try clear hb); (try clear hb2); (try clear hk); (try clear hi); (try clear ho0); obtain ⟨Ao15, co15, eo15⟩ := Kd.R_slice HO413.out; subst eo15) | ((with_reducible refine gate_builtin (b := .append) (xs := #[.tmp 22, .tmp 25]) rfl ?_); at_builtin; refine Kd.S_append (Kd.slice 3 (Kd.int .i64)) (w0 := w) w.heap.size rfl (.tmp 22) (.tmp 25) 34 24 (.slice none 0 0) 24 rfl Try.underlying34 info24 rfl (by decide) (by omega) u6 x6_1 t411 [.slice Ao15 t411.length co15] (fun _ => True) (fun k_ => some k_ = (.slice Ao15 t411.length co15 : Value).ownBlock) rfl rfl ?aP (fun k_ hk_ => ((Kd.R_mono (ok' := fun k_ => ((fun _ => True)) k_ ∧ some k_ ≠ (u6 : Value).ownBlock) (Kd.R_apart' (HO413.out) (Kd.S_typed HO_6.out) (by decide)) (fun k_ hk => ⟨trivial, hk.2⟩))).1 k_ hk_.symm) ?aF ?aO ?aB ?aS ?aL ?_; (case aP => exact Kd.M_row (Kd.R_mono (Kd.R_tight rfl (Kd.R_mono (ok' := fun k_ => ((fun _ => True)) k_ ∧ some k_ ≠ (u6 : Value).ownBlock) (Kd.R_apart' (HO413.out) (Kd.S_typed HO_6.out) (by decide)) (fun k_ hk => ⟨trivial, hk.2⟩))) (fun _ h_ => h_))); (case aB => exact bq); (case aF => exact (fun _ _ => trivial)); (case aO => exact (by (with_reducible repeat first|apply sA|apply sN|apply sD); exact Kd.S_mono HO_6.out (fun k_ hk => ⟨trivial, fun e_ => hk.2 e_⟩))); (case aS => exact (below_size bq)); (case aL => have := LMc10.out; omega); intro v415 w14 ho hb hg hat; rw [← Ny414.out] at ho; have _ := aM (Kd.R_after (ok := (fun k_ => some k_ ≠ (.slice Ao15 t411.length co15 : Value).ownBlock ∧ k_ ≠ gb410)) (by (with_reducible repeat first|apply rA|apply rN|apply rD); exact Kd.R_mono HO_16.out (fun _ hk => ⟨⟨hk.2, hk.1.2⟩, hk.1.1⟩)) hg hat); have _ := aM (Kd.R_after (ok := (fun k_ => some k_ ≠ (.slice (some ad409) t405.length co5 : Value).ownBlock ∧ some k_ ≠ (.slice Ao15 t411.length co15 : Value).ownBlock)) (by (with_reducible repeat first|apply rA|apply rN|apply rD); exact Kd.R_mono HL409_0.out (fun _ hk => ⟨⟨hk.1.2, hk.2⟩, hk.1.1⟩)) hg hat); have _ := aM (blk_grown (g := gb410) (o := .cells #[.slice A409_0 ((rd_T36 t405 x18_1).f0).length c409_0] 36 (0, 0)) (qQ BK410) hg (Kd.S_ne HO_6.out BK410.out (by decide))); have _ := aM (hb); have _ := aM (ho); clear HO_16 HL409_0 BK410 HB HO_6 HO413; rename_i HO_16 HL409_0 BK410 HB HO416; clear ho hb hg hat))
        go_roundg k1
        case measure => have := HK1.out; omega
        case rel => exact ⟨(y414), (wrap64 (x18_1 + 1)), (by first | rfl | (simp; done) | (simp [*]; done)), H', ⟨by have := HK1.out; omega⟩, ⟨by (with_reducible repeat first|apply sA|apply sN|apply sD); exact HO416.out⟩, ⟨by (with_reducible repeat first|apply rA|apply rN|apply rD); exact Kd.R_mono HO_16.out (fun _ hk => hk.2)⟩, ⟨by exact bq⟩⟩
       ·rw [if_neg c10] at H
        exact absurd H (by simp)
      ·rw [if_neg c8] at H
       exact absurd H (by simp)
     ·rw [if_neg c7] at H
      exact absurd H (by simp)
    ·rw [if_neg c6] at H
     have c6b0 : decide (x18_1 < (t405.length : Int)) = false := decide_eq_false c6
     clear c6
     simp only [Option.some.injEq, Prod.mk.injEq] at H
     obtain ⟨rfl, rfl⟩ := H
     go_wp2
     go_ret2
     exact ⟨_, by first | rfl | (simp [errW_none, errW_some] <;> rfl) | (simp [*, errW_none, errW_some] <;> rfl), by (with_reducible repeat first|apply sA|apply sN|apply sD); exact HO_6.out, by exact bq⟩
 ·replace c3 := Bool.eq_false_iff.mpr c3
  subst c3
  have H1 : (some (([] : List (List Int)), false)) = some (r1, r2) := by rw [if_neg (show ¬ (false = true) by decide)] at H; exact H
  clear H
  have H := H1
  clear H1
  simp only [Option.some.injEq, Prod.mk.injEq] at H
  obtain ⟨rfl, rfl⟩ := H
  go_enter Try.func62, Try.ntmps62
  go_wp2_with (first | ((with_reducible refine gate_callee (f := 119) rfl ?_); refine gL (some 11) Try.func119 #[.int .i64 a0] ?_; (with_reducible refine (spec_ListMatrices.calls k a0 t405 false _ A2.out).mono ?_); rintro e w16 ⟨v407, rfl, ho0, hb⟩; refine ⟨_, rfl, ?_⟩; have _ := aM (Kd.R_lower ho0 (below_size bq)); have _ := aM (below_step bq hb); clear HB; rename_i HO408 HB; (try clear hb); (try clear hb2); (try clear hk); (try clear hi); (try clear ho0)))
  go_ret2
  exact ⟨_, by first | rfl | (simp [errW_none, errW_some] <;> rfl) | (simp [*, errW_none, errW_some] <;> rfl), by first | exact Kd.S_nil _ _ _ _ _ | exact Kd.N_nil _ _ _ _ _ | exact Kd.V_nil _ _ _ _ _ | exact Kd.Q_nil _ _ _ _ _ | exact Kd.R_nil _ _ _ _ _, by exact bq⟩

end Go.Proofs.Ytacdlipojhoilaa.Yx
