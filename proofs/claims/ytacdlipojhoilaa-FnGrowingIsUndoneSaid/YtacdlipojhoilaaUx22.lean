-- Written by hook.py, a program of this session (wip/), which runs the kit's print.py with its own parts; Lean checks it.
import Derived.Test.YtacdlipojhoilaaUx0
import Derived.Test.YtacdlipojhoilaaUx1
import Derived.Test.YtacdlipojhoilaaUx4
import Derived.Test.YtacdlipojhoilaaUx5
import Derived.Test.YtacdlipojhoilaaUx13
import Derived.Test.YtacdlipojhoilaaUx15
import Derived.Test.YtacdlipojhoilaaUx17
import Derived.Test.YtacdlipojhoilaaUx18
import Derived.Test.YtacdlipojhoilaaUx19
import Derived.Test.YtacdlipojhoilaaUx21
import Derived.Test.YtacdlipojhoilaaUxXSq
namespace Go.Proofs.Ytacdlipojhoilaa.Ux
open Go.RowKit Go.Proofs.YtacdlipojhoilaaW.PrintWords Go.Proofs.YtacdlipojhoilaaW.PrintLast Go.Proofs.YtacdlipojhoilaaW.PrintMore Go.Proofs.Ytacdlipojhoilaa.Sq
attribute [local go_sem] max2_int min2_int max_two min_two max_three min_three max_four min_four   -- for this text's walks alone
set_option linter.unusedVariables false
set_option linter.unusedSimpArgs false

def spec_ShrinkMatrix.f (k : Nat) (l0_0 : List (List Int)) : Option ((List (List Int)) × Int × Bool) := (spec_maGood.f k l0_0).bind fun t457 => (if t457 = true then (if (l0_0.length : Int) = 0 then (some (([] : List (List Int)), 0, false)) else ((spec_maShrink.f k l0_0).bind fun bt458 => (some (bt458.1, bt458.2, true)))) else (some (([] : List (List Int)), 0, false)))
theorem spec_ShrinkMatrix.mono : ∀ a0 k, LeO (spec_ShrinkMatrix.f k a0) (spec_ShrinkMatrix.f (k + 1) a0) := by
 intro a0 k
 unfold spec_ShrinkMatrix.f
 repeat' first | with_reducible first | exact spec_maGood.mono _ _ | exact spec_maShrink.mono _ _ | exact LeO.refl _ | exact LeO.none _ | refine LeO.ite ?_ ?_ | refine LeO.bind ?_ (fun _ => ?_)
set_option maxHeartbeats 8000000 in
set_option maxRecDepth 100000 in
theorem spec_ShrinkMatrix.calls (k : Nat) (A0_0 : Option Addr) (c0_0 : Nat) (l0_0 : List (List Int)) (r1 : List (List Int)) (r2 : Int) (r3 : Bool) (w : World) (hr0_0 : Kd.C (Kd.slice 3 (Kd.int .i64)) w A0_0 l0_0.length l0_0) (hc0_0 : l0_0.length ≤ c0_0) (h : spec_ShrinkMatrix.f k l0_0 = some (r1, r2, r3)) :
  Calls Try.prog 51 #[.agg #[.slice A0_0 l0_0.length c0_0]] w fun e w' => ∃ v0_ : Value, e = .returned (.tuple #[.agg #[v0_], .int .i64 r2, .bool r3]) ∧ Kd.S (Kd.slice 3 (Kd.int .i64)) 24 w' w.heap.size (fun _ => True) v0_ r1 ∧ Below w.heap.size w w' := by
 have hu36 := Try.underlying36
 have HR0_0 := aM hr0_0
 have HC0_0 := aM hc0_0
 clear hr0_0 hc0_0
 have HB := aM (Below.refl w.heap.size w)
 have H : ((spec_maGood.f k l0_0).bind fun t457 => (if t457 = true then (if (l0_0.length : Int) = 0 then (some (([] : List (List Int)), 0, false)) else ((spec_maShrink.f k l0_0).bind fun bt458 => (some (bt458.1, bt458.2, true)))) else (some (([] : List (List Int)), 0, false)))) = some (r1, r2, r3) := h
 clear h
 replace H := Option.bind_eq_some_iff.mp H
 obtain ⟨t457, A20, H⟩ := H
 replace H : (if t457 = true then (if (l0_0.length : Int) = 0 then (some (([] : List (List Int)), 0, false)) else ((spec_maShrink.f k l0_0).bind fun bt458 => (some (bt458.1, bt458.2, true)))) else (some (([] : List (List Int)), 0, false))) = some (r1, r2, r3) := H
 have A2 := aM A20
 clear A20
 by_cases c3 : t457 = true
 ·subst c3
  have H1 : (if (l0_0.length : Int) = 0 then (some (([] : List (List Int)), 0, false)) else ((spec_maShrink.f k l0_0).bind fun bt458 => (some (bt458.1, bt458.2, true)))) = some (r1, r2, r3) := by rw [if_pos rfl] at H; exact H
  clear H
  have H := H1
  clear H1
  by_cases c4 : (l0_0.length : Int) = 0
  ·rw [if_pos c4] at H
   have c4b0 : ((l0_0.length : Int) == 0) = true := beq_iff_eq.mpr c4
   have c4b1 : ((l0_0.length : Int) != 0) = false := bne_eq_false_iff_eq.mpr c4
   clear c4
   simp only [Option.some.injEq, Prod.mk.injEq] at H
   obtain ⟨rfl, rfl, rfl⟩ := H
   go_enter Try.func51, Try.ntmps51
   go_wp2_with (first | ((with_reducible refine gate_dst (N := 1) rfl ?_); (try (refine gate_guard (by rfl) ?_; dsimp only)); refine bE 1 36 #[.slice A0_0 l0_0.length c0_0] ?_; intro gb455 hg w5 hbox hb; have _ := aM (below_step bq hb); have _ := aM (hbox); have _ := aM ((gS hg)); have _ := aM ((gS hg)); clear HB; rename_i HB BK455 GW455 GE455; clear hb hbox hg) | ((with_reducible refine gate_dst (N := 2) rfl ?_); (try (refine gate_guard (by rfl) ?_; dsimp only)); refine bE 2 36 #[.slice none 0 0] ?_; intro gb456 hg w6 hbox hb; have _ := aM (blk_below (g := gb455) (o := .cells #[.slice A0_0 l0_0.length c0_0] 36 (0, 0)) (qQ BK455) hb); have _ := aM (below_step bq hb); have _ := aM (hbox); have _ := aM ((gS hg)); have _ := aM ((gS hg)); have _ := aM ((by rw [hg]; exact Nat.ne_of_lt (blk_lt (g := gb455) (o := .cells #[.slice A0_0 l0_0.length c0_0] 36 (0, 0)) (qQ BK455)) : gb455 ≠ gb456)); have _ := aM ((by rw [hg]; exact Nat.ne_of_gt (blk_lt (g := gb455) (o := .cells #[.slice A0_0 l0_0.length c0_0] 36 (0, 0)) (qQ BK455)) : gb456 ≠ gb455)); clear BK455 HB; rename_i BK455 HB BK456 GW456 GE456 NB455_456 NB456_455; clear hb hbox hg; have hnb7 := NB455_456.out; have hnc7 := NB456_455.out; have hcz8_0 : w6.cell? ⟨gb455, 0, none⟩ = some (.slice A0_0 l0_0.length c0_0) := (blk_cell BK455.out 0).trans rfl; have hfz8_0 := blk_frozen BK455.out 0) | ((with_reducible refine gate_callee (f := 99) rfl ?_); refine gL (some 8) Try.func99 #[.agg #[.slice A0_0 l0_0.length c0_0]] ?_; (with_reducible refine (spec_maGood.calls k _ _ l0_0 true _ (cQ (Kd.C_below HR0_0.out HB.out)) HC0_0.out A2.out).mono ?_); rintro e w9 ⟨rfl, hb⟩; refine ⟨_, rfl, ?_⟩; have _ := aM (blk_below (g := gb455) (o := .cells #[.slice A0_0 l0_0.length c0_0] 36 (0, 0)) (qQ BK455) hb); have _ := aM (blk_below (g := gb456) (o := .cells #[.slice none 0 0] 36 (0, 0)) (qQ BK456) hb); have _ := aM (below_step bq hb); clear BK455 BK456 HB; rename_i BK455 BK456 HB; (try clear hb); (try clear hb2); (try clear hk); (try clear hi); have hcz10_0 : w9.cell? ⟨gb455, 0, none⟩ = some (.slice A0_0 l0_0.length c0_0) := (blk_cell BK455.out 0).trans rfl; have hfz10_0 := blk_frozen BK455.out 0; have hcz11_0 : w9.cell? ⟨gb456, 0, none⟩ = some (.slice none 0 0) := (blk_cell BK456.out 0).trans rfl; have hfz11_0 := blk_frozen BK456.out 0))
   refine bodyPost_ret (results_ctt rfl _ _ gb456 36 #[.slice none 0 0] (0, 0) _ rfl (by (with_reducible repeat first|apply qN|apply qD|apply qA); refine blk_put (cs := #[.slice none 0 0]) ?_ 0 _ rfl; (with_reducible repeat first|apply qN|apply qD|apply qA); exact BK456.out) Try.underlying36 rfl (by kernel_rfl)) rfl ?_
   exact ⟨_, by first | rfl | (simp [errW_none, errW_some] <;> rfl) | (simp [*, errW_none, errW_some] <;> rfl), by first | exact Kd.S_nil _ _ _ _ _ | exact Kd.N_nil _ _ _ _ _ | exact Kd.V_nil _ _ _ _ _ | exact Kd.Q_nil _ _ _ _ _ | exact Kd.R_nil _ _ _ _ _, by exact bq⟩
  ·rw [if_neg c4] at H
   have c4b0 : ((l0_0.length : Int) == 0) = false := beq_eq_false_iff_ne.mpr c4
   have c4b1 : ((l0_0.length : Int) != 0) = true := bne_iff_ne.mpr c4
   have c4b2 : ¬ (l0_0 = []) := fun h_ => c4 (by rw [h_]; rfl)
   replace H := Option.bind_eq_some_iff.mp H
   obtain ⟨⟨t458, t461⟩, A120, H⟩ := H
   replace H : (some (t458, t461, true)) = some (r1, r2, r3) := H
   have A12 := aM A120
   clear A120
   simp only [Option.some.injEq, Prod.mk.injEq] at H
   obtain ⟨rfl, rfl, rfl⟩ := H
   go_enter Try.func51, Try.ntmps51
   go_wp2_with (first | ((with_reducible refine gate_dst (N := 1) rfl ?_); (try (refine gate_guard (by rfl) ?_; dsimp only)); refine bE 1 36 #[.slice A0_0 l0_0.length c0_0] ?_; intro gb455 hg w13 hbox hb; have _ := aM (below_step bq hb); have _ := aM (hbox); have _ := aM ((gS hg)); have _ := aM ((gS hg)); clear HB; rename_i HB BK455 GW455 GE455; clear hb hbox hg) | ((with_reducible refine gate_dst (N := 2) rfl ?_); (try (refine gate_guard (by rfl) ?_; dsimp only)); refine bE 2 36 #[.slice none 0 0] ?_; intro gb456 hg w14 hbox hb; have _ := aM (blk_below (g := gb455) (o := .cells #[.slice A0_0 l0_0.length c0_0] 36 (0, 0)) (qQ BK455) hb); have _ := aM (below_step bq hb); have _ := aM (hbox); have _ := aM ((gS hg)); have _ := aM ((gS hg)); have _ := aM ((by rw [hg]; exact Nat.ne_of_lt (blk_lt (g := gb455) (o := .cells #[.slice A0_0 l0_0.length c0_0] 36 (0, 0)) (qQ BK455)) : gb455 ≠ gb456)); have _ := aM ((by rw [hg]; exact Nat.ne_of_gt (blk_lt (g := gb455) (o := .cells #[.slice A0_0 l0_0.length c0_0] 36 (0, 0)) (qQ BK455)) : gb456 ≠ gb455)); clear BK455 HB; rename_i BK455 HB BK456 GW456 GE456 NB455_456 NB456_455; clear hb hbox hg; have hnb15 := NB455_456.out; have hnc15 := NB456_455.out; have hcz16_0 : w14.cell? ⟨gb455, 0, none⟩ = some (.slice A0_0 l0_0.length c0_0) := (blk_cell BK455.out 0).trans rfl; have hfz16_0 := blk_frozen BK455.out 0) | ((with_reducible refine gate_callee (f := 99) rfl ?_); refine gL (some 8) Try.func99 #[.agg #[.slice A0_0 l0_0.length c0_0]] ?_; (with_reducible refine (spec_maGood.calls k _ _ l0_0 true _ (cQ (Kd.C_below HR0_0.out HB.out)) HC0_0.out A2.out).mono ?_); rintro e w17 ⟨rfl, hb⟩; refine ⟨_, rfl, ?_⟩; have _ := aM (blk_below (g := gb455) (o := .cells #[.slice A0_0 l0_0.length c0_0] 36 (0, 0)) (qQ BK455) hb); have _ := aM (blk_below (g := gb456) (o := .cells #[.slice none 0 0] 36 (0, 0)) (qQ BK456) hb); have _ := aM (below_step bq hb); clear BK455 BK456 HB; rename_i BK455 BK456 HB; (try clear hb); (try clear hb2); (try clear hk); (try clear hi); have hcz18_0 : w17.cell? ⟨gb455, 0, none⟩ = some (.slice A0_0 l0_0.length c0_0) := (blk_cell BK455.out 0).trans rfl; have hfz18_0 := blk_frozen BK455.out 0) | ((with_reducible refine gate_callee (f := 109) rfl ?_); refine gL (some 19) Try.func109 #[.agg #[.slice A0_0 l0_0.length c0_0]] ?_; (with_reducible refine (spec_maShrink.calls k _ _ l0_0 t458 t461 _ (cQ (Kd.C_below HR0_0.out HB.out)) HC0_0.out A12.out).mono ?_); rintro e w19 ⟨v459, rfl, ho0, hb⟩; refine ⟨_, rfl, ?_⟩; have _ := aM (Kd.S_lower ho0 (below_size bq)); have _ := aM (blk_below (g := gb455) (o := .cells #[.slice A0_0 l0_0.length c0_0] 36 (0, 0)) (qQ BK455) hb); have _ := aM (blk_below (g := gb456) (o := .cells #[.slice none 0 0] 36 (0, 0)) (qQ BK456) hb); have _ := aM (below_step bq hb); clear BK455 BK456 HB; rename_i HO460 BK455 BK456 HB; (try clear hb); (try clear hb2); (try clear hk); (try clear hi); (try clear ho0)) | ((with_reducible refine gate_dst (N := 5) rfl ?_); (try (refine gate_guard (by rfl) ?_; dsimp only)); refine bE 5 36 #[.slice none 0 0] ?_; intro gb462 hg w20 hbox hb; have _ := aM (Kd.S_below (sQ HO460) hb); have _ := aM (blk_below (g := gb455) (o := .cells #[.slice A0_0 l0_0.length c0_0] 36 (0, 0)) (qQ BK455) hb); have _ := aM (blk_below (g := gb456) (o := .cells #[.slice none 0 0] 36 (0, 0)) (qQ BK456) hb); have _ := aM (below_step bq hb); have _ := aM (hbox); have _ := aM ((gS hg)); have _ := aM ((gS hg)); have _ := aM ((by rw [hg]; exact Nat.ne_of_lt (blk_lt (g := gb455) (o := .cells #[.slice A0_0 l0_0.length c0_0] 36 (0, 0)) (qQ BK455)) : gb455 ≠ gb462)); have _ := aM ((by rw [hg]; exact Nat.ne_of_gt (blk_lt (g := gb455) (o := .cells #[.slice A0_0 l0_0.length c0_0] 36 (0, 0)) (qQ BK455)) : gb462 ≠ gb455)); have _ := aM ((by rw [hg]; exact Nat.ne_of_lt (blk_lt (g := gb456) (o := .cells #[.slice none 0 0] 36 (0, 0)) (qQ BK456)) : gb456 ≠ gb462)); have _ := aM ((by rw [hg]; exact Nat.ne_of_gt (blk_lt (g := gb456) (o := .cells #[.slice none 0 0] 36 (0, 0)) (qQ BK456)) : gb462 ≠ gb456)); clear HO460 BK455 BK456 HB; rename_i HO460 BK455 BK456 HB BK462 GW462 GE462 NB455_462 NB462_455 NB456_462 NB462_456; clear hb hbox hg; obtain ⟨Ao21, co21, eo21⟩ := Kd.S_slice HO460.out; subst eo21; have hnb22 := NB462_455.out; have hnc22 := NB455_462.out; have hnb23 := NB462_456.out; have hnc23 := NB456_462.out; have hcz24_0 : w20.cell? ⟨gb462, 0, none⟩ = some (.slice none 0 0) := (blk_cell BK462.out 0).trans rfl; have hfz24_0 := blk_frozen BK462.out 0; have hcz25_0 : w20.cell? ⟨gb456, 0, none⟩ = some (.slice none 0 0) := (blk_cell BK456.out 0).trans rfl; have hfz25_0 := blk_frozen BK456.out 0))
   refine bodyPost_ret (results_ctt rfl _ _ gb456 36 #[.slice Ao21 t458.length co21] (0, 0) _ rfl (by (with_reducible repeat first|apply qN|apply qD|apply qA); refine blk_put (cs := #[.slice none 0 0]) ?_ 0 _ rfl; (with_reducible repeat first|apply qN|apply qD|apply qA); refine blk_far ?_ NB456_462.out _; (with_reducible repeat first|apply qN|apply qD|apply qA); exact BK456.out) Try.underlying36 rfl (by kernel_rfl)) rfl ?_
   exact ⟨_, by first | rfl | (simp [errW_none, errW_some] <;> rfl) | (simp [*, errW_none, errW_some] <;> rfl), by (with_reducible repeat first|apply sA|apply sN|apply sD); exact Kd.S_mono (Kd.S_far (p := ⟨gb456, 0, none⟩) (Kd.S_far (p := ⟨gb462, 0, none⟩) (Kd.S_types (Kd.S_types HO460.out BK462.out (by decide)) BK456.out (by decide)) (fun _ hk => hk.1.2) (.slice Ao21 t458.length co21)) (fun _ hk => hk.2) (.slice Ao21 t458.length co21)) (fun _ hk => trivial), by exact bq⟩
 ·replace c3 := Bool.eq_false_iff.mpr c3
  subst c3
  have H1 : (some (([] : List (List Int)), 0, false)) = some (r1, r2, r3) := by rw [if_neg (show ¬ (false = true) by decide)] at H; exact H
  clear H
  have H := H1
  clear H1
  simp only [Option.some.injEq, Prod.mk.injEq] at H
  obtain ⟨rfl, rfl, rfl⟩ := H
  go_enter Try.func51, Try.ntmps51
  go_wp2_with (first | ((with_reducible refine gate_dst (N := 1) rfl ?_); (try (refine gate_guard (by rfl) ?_; dsimp only)); refine bE 1 36 #[.slice A0_0 l0_0.length c0_0] ?_; intro gb455 hg w26 hbox hb; have _ := aM (below_step bq hb); have _ := aM (hbox); have _ := aM ((gS hg)); have _ := aM ((gS hg)); clear HB; rename_i HB BK455 GW455 GE455; clear hb hbox hg) | ((with_reducible refine gate_dst (N := 2) rfl ?_); (try (refine gate_guard (by rfl) ?_; dsimp only)); refine bE 2 36 #[.slice none 0 0] ?_; intro gb456 hg w27 hbox hb; have _ := aM (blk_below (g := gb455) (o := .cells #[.slice A0_0 l0_0.length c0_0] 36 (0, 0)) (qQ BK455) hb); have _ := aM (below_step bq hb); have _ := aM (hbox); have _ := aM ((gS hg)); have _ := aM ((gS hg)); have _ := aM ((by rw [hg]; exact Nat.ne_of_lt (blk_lt (g := gb455) (o := .cells #[.slice A0_0 l0_0.length c0_0] 36 (0, 0)) (qQ BK455)) : gb455 ≠ gb456)); have _ := aM ((by rw [hg]; exact Nat.ne_of_gt (blk_lt (g := gb455) (o := .cells #[.slice A0_0 l0_0.length c0_0] 36 (0, 0)) (qQ BK455)) : gb456 ≠ gb455)); clear BK455 HB; rename_i BK455 HB BK456 GW456 GE456 NB455_456 NB456_455; clear hb hbox hg; have hnb28 := NB455_456.out; have hnc28 := NB456_455.out; have hcz29_0 : w27.cell? ⟨gb455, 0, none⟩ = some (.slice A0_0 l0_0.length c0_0) := (blk_cell BK455.out 0).trans rfl; have hfz29_0 := blk_frozen BK455.out 0) | ((with_reducible refine gate_callee (f := 99) rfl ?_); refine gL (some 8) Try.func99 #[.agg #[.slice A0_0 l0_0.length c0_0]] ?_; (with_reducible refine (spec_maGood.calls k _ _ l0_0 false _ (cQ (Kd.C_below HR0_0.out HB.out)) HC0_0.out A2.out).mono ?_); rintro e w30 ⟨rfl, hb⟩; refine ⟨_, rfl, ?_⟩; have _ := aM (blk_below (g := gb455) (o := .cells #[.slice A0_0 l0_0.length c0_0] 36 (0, 0)) (qQ BK455) hb); have _ := aM (blk_below (g := gb456) (o := .cells #[.slice none 0 0] 36 (0, 0)) (qQ BK456) hb); have _ := aM (below_step bq hb); clear BK455 BK456 HB; rename_i BK455 BK456 HB; (try clear hb); (try clear hb2); (try clear hk); (try clear hi); have hcz31_0 : w30.cell? ⟨gb456, 0, none⟩ = some (.slice none 0 0) := (blk_cell BK456.out 0).trans rfl; have hfz31_0 := blk_frozen BK456.out 0))
  refine bodyPost_ret (results_ctt rfl _ _ gb456 36 #[.slice none 0 0] (0, 0) _ rfl (by (with_reducible repeat first|apply qN|apply qD|apply qA); refine blk_put (cs := #[.slice none 0 0]) ?_ 0 _ rfl; (with_reducible repeat first|apply qN|apply qD|apply qA); exact BK456.out) Try.underlying36 rfl (by kernel_rfl)) rfl ?_
  exact ⟨_, by first | rfl | (simp [errW_none, errW_some] <;> rfl) | (simp [*, errW_none, errW_some] <;> rfl), by first | exact Kd.S_nil _ _ _ _ _ | exact Kd.N_nil _ _ _ _ _ | exact Kd.V_nil _ _ _ _ _ | exact Kd.Q_nil _ _ _ _ _ | exact Kd.R_nil _ _ _ _ _, by exact bq⟩

def laws_FnGrowingIsUndone.Good (k : Nat) (l0 l1 : List Int) : Prop :=
  laws_big.f l0 l1 = some true ∨ (laws_big.f l0 l1 = some false ∧ ∃ (m : List (List Int)) (x : Int) (o o2 : List (List Int)) (ok : Bool) (s ls ls2 : List (List Int)) (y : Int) (told : Bool),
    spec_DrawGrowMatrix.f k l0 = some (m, x) ∧ impl_GrowMatrix.f k m x = some (o, ok) ∧ spec_GrowMatrix.f k m x = some (o2, ok) ∧ laws_pSameMatrix.f k o o2 = some true ∧
    spec_DrawShrinkMatrix.f k l1 = some s ∧ impl_ShrinkMatrix.f k s = some (ls, y, told) ∧ spec_ShrinkMatrix.f k s = some (ls2, y, told) ∧ laws_pSameMatrix.f k ls ls2 = some true ∧
    (told = true → ∃ ag, impl_GrowMatrix.f k ls y = some (ag, true) ∧ laws_pSameMatrix.f k ag s = some true) ∧
    (ok = true → ∃ (bk : List (List Int)) (bf n : Int) (four : Bool), impl_ShrinkMatrix.f k o = some (bk, x, true) ∧ impl_TopOfMatrix.f k o = some (x, true) ∧ impl_TopOfMatrix.f k m = some (bf, four) ∧ impl_SumOfMatrix.f k m = some (n, true) ∧
      impl_SumOfMatrix.f k o = some (wrap64 (n + 1), true) ∧ laws_pSameMatrix.f k bk m = some true ∧ impl_IsMatrix.f k o = some true ∧ m.length ≤ 100000 ∧ o.length ≤ 100000 ∧
      (if four = true then (x ≤ bf ∧ o.length = m.length ∨ bf < x ∧ o.length = m.length + 1) else m.length = 0 ∧ o.length = 1)))
open Go.Proofs.Ytacdlipojhoilaa.Live in
set_option maxHeartbeats 8000000 in
set_option maxRecDepth 100000 in
theorem laws_FnGrowingIsUndone.calls (k : Nat) (A0 : Option Addr) (c0 : Nat) (l0 : List Int) (A1 : Option Addr) (c1 : Nat) (l1 : List Int) (w : World) (hr0 : Kd.C (Kd.int .u8) w A0 l0.length l0) (hc0 : l0.length ≤ c0) (hr1 : Kd.C (Kd.int .u8) w A1 l1.length l1) (hc1 : l1.length ≤ c1) (h : laws_FnGrowingIsUndone.Good k l0 l1) :
    Calls Try.prog 8 #[.slice A0 l0.length c0, .slice A1 l1.length c1] w fun e w' => e = .returned (.bool true) ∧ Below w.heap.size w w' := by
 have HC0 := aM hr0
 have HC1 := aM hr1
 have HL0 := aM hc0
 have HL1 := aM hc1
 clear hr0 hr1 hc0 hc1
 rcases h with hb | ⟨hb, m, x, o, o2, ok, s, ls, ls2, y, told, e1, e2, e3, e4, e5, e6, e7, e8, e9, e10⟩
 · {
 have HB := aM hb
 clear hb
 go_enter Try.func8, Try.ntmps8
 go_wp2_with (fail)
 refine (laws_big.calls A0 c0 l0 A1 c1 l1 true _ HC0.out HL0.out HC1.out HL1.out HB.out).mono ?_
 rintro e w1 ⟨rfl, ⟨q, rfl⟩⟩
 go_wp2_with (fail)
 go_ret
 exact ⟨rfl, pw_below_drewN (Below.refl _ _) _⟩}
 have HB := aM hb
 have E1 := aM e1
 have E2 := aM e2
 have E3 := aM e3
 have E4 := aM e4
 have E5 := aM e5
 have E6 := aM e6
 have E7 := aM e7
 have E8 := aM e8
 have E9 := aM e9
 have E10 := aM e10
 clear hb e1 e2 e3 e4 e5 e6 e7 e8 e9 e10
 go_enter Try.func8, Try.ntmps8
 go_wp2_with (fail)
 refine (laws_big.calls A0 c0 l0 A1 c1 l1 false _ (HC0.out) (HL0.out) (HC1.out) (HL1.out) HB.out).mono ?_
 rintro e w1 ⟨rfl, ⟨q_, rfl⟩⟩
 have H1 := aM ((Live.start w).drewN q_)
 go_wp2_with (fail)
 refine (spec_DrawGrowMatrix.calls k A0 c0 l0 m x _ (Kd.C_below HC0.out H1.out.below) (HL0.out) E1.out).mono ?_
 rintro e w2 ⟨u0, rfl, hs0, hb⟩
 have H2 := aM (Live.add (o := lent (Kd.slice 3 (Kd.int .i64)) 24 u0 m) H1.out hb hs0)
 clear hs0 hb
 obtain ⟨A_m, c_m, rfl, _, _⟩ := H2.out.formq 0 rfl
 clear H1
 have H3 := aM (H2.out.new #[.slice A_m m.length c_m] 36)
 clear H2
 have k_m := cellV H3.out 1 rfl 0 rfl
 go_wp2_with (fail)
 refine (impl_GrowMatrix.calls k A_m c_m m x o ok _ ((H3.out.nowq 0 rfl).2.2) ((H3.out.nowq 0 rfl).2.1) E2.out).mono ?_
 rintro e w3 ⟨u0, rfl, hs0, hb⟩
 clear k_m
 have H4 := aM (Live.add (o := rows (Kd.slice 3 (Kd.int .i64)) 24 u0 o) H3.out hb hs0)
 clear hs0 hb
 obtain ⟨A_o, c_o, rfl, _, _⟩ := H4.out.forms 2 rfl
 clear H3
 have H5 := aM (H4.out.new #[.slice A_o o.length c_o] 36)
 clear H4
 have k_m := cellV H5.out 1 rfl 0 rfl
 go_wp2_with (fail)
 have bb : (ok != ok) = false := by simp
 refine (spec_GrowMatrix.calls k A_m c_m m x o2 ok _ ((H5.out.nowq 0 rfl).2.2) ((H5.out.nowq 0 rfl).2.1) E3.out).mono ?_
 rintro e w4 ⟨u0, rfl, hs0, hb⟩
 clear k_m
 have H6 := aM (Live.add (o := rows (Kd.slice 3 (Kd.int .i64)) 24 u0 o2) H5.out hb hs0)
 clear hs0 hb
 obtain ⟨A_o2, c_o2, rfl, _, _⟩ := H6.out.forms 4 rfl
 clear H5
 have H7 := aM (H6.out.new #[.slice A_o2 o2.length c_o2] 36)
 clear H6
 have k_o := cellV H7.out 3 rfl 0 rfl
 have k_o2 := cellV H7.out 5 rfl 0 rfl
 go_wp2_with (fail)
 refine (laws_pSameMatrix.calls k A_o c_o o A_o2 c_o2 o2 true _ ((H7.out.nows 2 rfl).2.2) ((H7.out.nows 2 rfl).2.1) ((H7.out.nows 4 rfl).2.2) ((H7.out.nows 4 rfl).2.1) E4.out).mono ?_
 rintro e w5 ⟨rfl, hb⟩
 clear k_o k_o2
 have H8 := aM (H7.out.step hb)
 clear hb
 clear H7
 go_wp2_with (fail)
 clear bb
 refine (spec_DrawShrinkMatrix.calls k A1 c1 l1 s _ (Kd.C_below HC1.out H8.out.below) (HL1.out) E5.out).mono ?_
 rintro e w6 ⟨u0, rfl, hs0, hb⟩
 have H9 := aM (Live.add (o := lent (Kd.slice 3 (Kd.int .i64)) 24 u0 s) H8.out hb hs0)
 clear hs0 hb
 obtain ⟨A_s, c_s, rfl, _, _⟩ := H9.out.formq 6 rfl
 clear H8
 have H10 := aM (H9.out.new #[.slice A_s s.length c_s] 36)
 clear H9
 have k_s := cellV H10.out 7 rfl 0 rfl
 go_wp2_with (fail)
 refine (impl_ShrinkMatrix.calls k A_s c_s s ls y told _ ((H10.out.nowq 6 rfl).2.2) ((H10.out.nowq 6 rfl).2.1) E6.out).mono ?_
 rintro e w7 ⟨u0, rfl, hs0, hb⟩
 clear k_s
 have H11 := aM (Live.add (o := rows (Kd.slice 3 (Kd.int .i64)) 24 u0 ls) H10.out hb hs0)
 clear hs0 hb
 obtain ⟨A_ls, c_ls, rfl, _, _⟩ := H11.out.forms 8 rfl
 clear H10
 have H12 := aM (H11.out.new #[.slice A_ls ls.length c_ls] 36)
 clear H11
 have k_s := cellV H12.out 7 rfl 0 rfl
 go_wp2_with (fail)
 have bt : (told != told) = false := by simp
 have by_ : (y != y) = false := by simp
 refine (spec_ShrinkMatrix.calls k A_s c_s s ls2 y told _ ((H12.out.nowq 6 rfl).2.2) ((H12.out.nowq 6 rfl).2.1) E7.out).mono ?_
 rintro e w8 ⟨u0, rfl, hs0, hb⟩
 clear k_s
 have H13 := aM (Live.add (o := rows (Kd.slice 3 (Kd.int .i64)) 24 u0 ls2) H12.out hb hs0)
 clear hs0 hb
 obtain ⟨A_ls2, c_ls2, rfl, _, _⟩ := H13.out.forms 10 rfl
 clear H12
 have H14 := aM (H13.out.new #[.slice A_ls2 ls2.length c_ls2] 36)
 clear H13
 have k_ls := cellV H14.out 9 rfl 0 rfl
 have k_ls2 := cellV H14.out 11 rfl 0 rfl
 go_wp2_with (fail)
 refine (laws_pSameMatrix.calls k A_ls c_ls ls A_ls2 c_ls2 ls2 true _ ((H14.out.nows 8 rfl).2.2) ((H14.out.nows 8 rfl).2.1) ((H14.out.nows 10 rfl).2.2) ((H14.out.nows 10 rfl).2.1) E8.out).mono ?_
 rintro e w9 ⟨rfl, hb⟩
 clear k_ls k_ls2
 have H15 := aM (H14.out.step hb)
 clear hb
 clear H14
 clear bt by_
 go_upto_if 89 with (fail)
 go_cut [] (fun wx => Aside0 (Live w wx [lent (Kd.slice 3 (Kd.int .i64)) 24 (.slice A_m m.length c_m) m, var w2.heap.size #[.slice A_m m.length c_m] 36, rows (Kd.slice 3 (Kd.int .i64)) 24 (.slice A_o o.length c_o) o, var w3.heap.size #[.slice A_o o.length c_o] 36, rows (Kd.slice 3 (Kd.int .i64)) 24 (.slice A_o2 o2.length c_o2) o2, var w4.heap.size #[.slice A_o2 o2.length c_o2] 36, lent (Kd.slice 3 (Kd.int .i64)) 24 (.slice A_s s.length c_s) s, var w6.heap.size #[.slice A_s s.length c_s] 36, rows (Kd.slice 3 (Kd.int .i64)) 24 (.slice A_ls ls.length c_ls) ls, var w7.heap.size #[.slice A_ls ls.length c_ls] 36, rows (Kd.slice 3 (Kd.int .i64)) 24 (.slice A_ls2 ls2.length c_ls2) ls2, var w8.heap.size #[.slice A_ls2 ls2.length c_ls2] 36]))
 case first => (
 cases told with
 | true => {
 obtain ⟨ag, g1, g2⟩ := E9.out rfl
 have G1 := aM g1
 have G2 := aM g2
 clear g1 g2
 have k_ls := cellV H15.out 9 rfl 0 rfl
 go_wp2_with (fail)
 refine (impl_GrowMatrix.calls k A_ls c_ls ls y ag true _ ((H15.out.nows 8 rfl).2.2) ((H15.out.nows 8 rfl).2.1) G1.out).mono ?_
 rintro e w10 ⟨u0, rfl, hs0, hb⟩
 clear k_ls
 have H16 := aM (Live.add (o := rows (Kd.slice 3 (Kd.int .i64)) 24 u0 ag) H15.out hb hs0)
 clear hs0 hb
 obtain ⟨A_ag, c_ag, rfl, _, _⟩ := H16.out.forms 12 rfl
 have H17 := aM (H16.out.new #[.slice A_ag ag.length c_ag] 36)
 clear H16
 have k_ag := cellV H17.out 13 rfl 0 rfl
 have k_s := cellV H17.out 7 rfl 0 rfl
 go_wp2_with (fail)
 refine (laws_pSameMatrix.calls k A_ag c_ag ag A_s c_s s true _ ((H17.out.nows 12 rfl).2.2) ((H17.out.nows 12 rfl).2.1) ((H17.out.nowq 6 rfl).2.2) ((H17.out.nowq 6 rfl).2.1) G2.out).mono ?_
 rintro e w11 ⟨rfl, hb⟩
 clear k_ag k_s
 have H18 := aM (H17.out.step hb)
 clear hb
 clear H17
 go_wp2_with (fail)
 go_meet
 exact ⟨H18.out.keep 12⟩}
 | false => {
 go_wp2_with (fail)
 go_meet
 exact ⟨H15.out⟩})
 case rest => (
 skip
 have H39 := hcut
 clear H15
 cases ok with
 | false => {
 go_wp2_with (fail)
 go_ret
 exact ⟨rfl, H39.out.below⟩}
 | true => {
 obtain ⟨bk, bf, n, four, g1, g2, g3, g4, g5, g6, g7, g8, g9, g10⟩ := E10.out rfl
 have G1 := aM g1
 have G2 := aM g2
 have G3 := aM g3
 have G4 := aM g4
 have G5 := aM g5
 have G6 := aM g6
 have G7 := aM g7
 have G8 := aM g8
 have G9 := aM g9
 have G10 := aM g10
 clear g1 g2 g3 g4 g5 g6 g7 g8 g9 g10
 have k_o := cellV H39.out 3 rfl 0 rfl
 go_wp2_with (fail)
 refine (impl_ShrinkMatrix.calls k A_o c_o o bk x true _ ((H39.out.nows 2 rfl).2.2) ((H39.out.nows 2 rfl).2.1) G1.out).mono ?_
 rintro e w13 ⟨u0, rfl, hs0, hb⟩
 clear k_o
 have H40 := aM (Live.add (o := rows (Kd.slice 3 (Kd.int .i64)) 24 u0 bk) H39.out hb hs0)
 clear hs0 hb
 obtain ⟨A_bk, c_bk, rfl, _, _⟩ := H40.out.forms 12 rfl
 clear H39
 have H41 := aM (H40.out.new #[.slice A_bk bk.length c_bk] 36)
 clear H40
 have k_o := cellV H41.out 3 rfl 0 rfl
 go_wp2_with (fail)
 refine (impl_TopOfMatrix.calls k A_o c_o o x true _ ((H41.out.nows 2 rfl).2.2) ((H41.out.nows 2 rfl).2.1) G2.out).mono ?_
 rintro e w14 ⟨rfl, hb⟩
 clear k_o
 have H42 := aM (H41.out.step hb)
 clear hb
 clear H41
 have k_m := cellV H42.out 1 rfl 0 rfl
 go_wp2_with (fail)
 refine (impl_TopOfMatrix.calls k A_m c_m m bf four _ ((H42.out.nowq 0 rfl).2.2) ((H42.out.nowq 0 rfl).2.1) G3.out).mono ?_
 rintro e w15 ⟨rfl, hb⟩
 clear k_m
 have H43 := aM (H42.out.step hb)
 clear hb
 clear H42
 have k_m := cellV H43.out 1 rfl 0 rfl
 go_wp2_with (fail)
 refine (impl_SumOfMatrix.calls k A_m c_m m n true _ ((H43.out.nowq 0 rfl).2.2) ((H43.out.nowq 0 rfl).2.1) G4.out).mono ?_
 rintro e w16 ⟨rfl, hb⟩
 clear k_m
 have H44 := aM (H43.out.step hb)
 clear hb
 clear H43
 have k_o := cellV H44.out 3 rfl 0 rfl
 go_wp2_with (fail)
 have bx : (x != x) = false := by simp
 have bn : (wrap64 (n + 1) != wrap64 (n + 1)) = false := by simp
 have bw : IntKind.i64.wrap (n + 1) = wrap64 (n + 1) := i64_w _
 refine (impl_SumOfMatrix.calls k A_o c_o o (wrap64 (n + 1)) true _ ((H44.out.nows 2 rfl).2.2) ((H44.out.nows 2 rfl).2.1) G5.out).mono ?_
 rintro e w17 ⟨rfl, hb⟩
 clear k_o
 have H45 := aM (H44.out.step hb)
 clear hb
 clear H44
 have k_bk := cellV H45.out 13 rfl 0 rfl
 have k_m := cellV H45.out 1 rfl 0 rfl
 go_wp2_with (fail)
 refine (laws_pSameMatrix.calls k A_bk c_bk bk A_m c_m m true _ ((H45.out.nows 12 rfl).2.2) ((H45.out.nows 12 rfl).2.1) ((H45.out.nowq 0 rfl).2.2) ((H45.out.nowq 0 rfl).2.1) G6.out).mono ?_
 rintro e w18 ⟨rfl, hb⟩
 clear k_bk k_m
 have H46 := aM (H45.out.step hb)
 clear hb
 clear H45
 have k_o := cellV H46.out 3 rfl 0 rfl
 go_wp2_with (fail)
 refine (impl_IsMatrix.calls k A_o c_o o true _ ((H46.out.nows 2 rfl).2.2) ((H46.out.nows 2 rfl).2.1) G7.out).mono ?_
 rintro e w19 ⟨rfl, hb⟩
 clear k_o
 have H47 := aM (H46.out.step hb)
 clear hb
 clear H46
 clear bx bn bw
 have hM := G8.out
 have hO := G9.out
 have hF := G10.out
 clear G8 G9 G10
 cases four with
 | true => {
 rcases hF with ⟨h1, h2⟩ | ⟨h1, h2⟩
 · {
 have d1 : IntKind.i64.wrap ((o.length : Int) - (m.length : Int)) = 0 := by rw [i64_w]; unfold wrap64; omega
 have d2 : decide (x ≤ bf) = true := decide_eq_true h1
 clear h1 h2 hM hO
 have k_o := cellV H47.out 3 rfl 0 rfl
 have k_m := cellV H47.out 1 rfl 0 rfl
 go_wp2_with (fail)
 go_ret
 exact ⟨rfl, H47.out.below⟩}
 · {
 have d1 : IntKind.i64.wrap ((o.length : Int) - (m.length : Int)) = 1 := by rw [i64_w]; unfold wrap64; omega
 have d2 : decide (x ≤ bf) = false := decide_eq_false (by omega)
 have d3 : decide (bf < x) = true := decide_eq_true h1
 have d4 : decide (x > bf) = true := decide_eq_true h1
 clear h1 h2 hM hO
 have k_o := cellV H47.out 3 rfl 0 rfl
 have k_m := cellV H47.out 1 rfl 0 rfl
 go_wp2_with (fail)
 go_ret
 exact ⟨rfl, H47.out.below⟩}}
 | false => {
 obtain ⟨h1, h2⟩ := hF
 have d1 : IntKind.i64.wrap ((o.length : Int) - (m.length : Int)) = 1 := by rw [i64_w]; unfold wrap64; omega
 have d2 : ((m.length : Int) == 0) = true := by rw [h1]; rfl
 have d3 : decide ((m.length : Int) = 0) = true := by rw [h1]; rfl
 clear h1 h2 hM hO
 have k_o := cellV H47.out 3 rfl 0 rfl
 have k_m := cellV H47.out 1 rfl 0 rfl
 go_wp2_with (fail)
 go_ret
 exact ⟨rfl, H47.out.below⟩}})
def laws_FnGrowingIsUndone.Pure : Prop := ∀ (l0 : List Int) (l1 : List Int), l0.length ≤ maxLen → l0.length * 1 ≤ 140737488351232 → (∀ x ∈ l0, (Lit.int .u8 x).wf = true) → l1.length ≤ maxLen → l1.length * 1 ≤ 140737488351232 → (∀ x ∈ l1, (Lit.int .u8 x).wf = true) → ∃ k, laws_FnGrowingIsUndone.Good k l0 l1
theorem laws_FnGrowingIsUndone.walk (P : laws_FnGrowingIsUndone.Pure) (a0 : Option Addr) (len0 cap0 : Nat) (z0 : List Int) (a1 : Option Addr) (len1 cap1 : Nat) (z1 : List Int) (w : World) (w0 : (a0 = none ∧ len0 = 0 ∧ cap0 = 0 ∧ z0 = []) ∨ ∃ x, a0 = some x ∧ len0 ≤ cap0 ∧ cap0 ≤ maxLen ∧ z0.length = cap0 ∧ (∀ i, i < z0.length → w.cell? (x.add i) = some (.int .u8 (z0.getD i 0))) ∧ ∀ n ∈ z0, (Lit.int .u8 n).wf = true) (y0 : len0 * 1 ≤ 140737488351232) (w1 : (a1 = none ∧ len1 = 0 ∧ cap1 = 0 ∧ z1 = []) ∨ ∃ x, a1 = some x ∧ len1 ≤ cap1 ∧ cap1 ≤ maxLen ∧ z1.length = cap1 ∧ (∀ i, i < z1.length → w.cell? (x.add i) = some (.int .u8 (z1.getD i 0))) ∧ ∀ n ∈ z1, (Lit.int .u8 n).wf = true) (y1 : len1 * 1 ≤ 140737488351232) :
  Calls Try.prog 8 #[.slice a0 len0 cap0, .slice a1 len1 cap1] w fun e w' => e = .returned (.bool true) ∧ Below w.heap.size w w' := by
 obtain ⟨l0, rfl, hr0, hm0, hw0, hc0⟩ := ReadsInt.ofRowC w0
 obtain ⟨l1, rfl, hr1, hm1, hw1, hc1⟩ := ReadsInt.ofRowC w1
 obtain ⟨k, h⟩ := P l0 l1 hm0 y0 hw0 hm1 y1 hw1
 refine (laws_FnGrowingIsUndone.calls k _ _ l0 _ _ l1 w (Kd.C_of_reads (d := (0 : Int)) (h1 := fun _ => rfl) hr0) hc0 (Kd.C_of_reads (d := (0 : Int)) (h1 := fun _ => rfl) hr1) hc1 h).mono ?_
 rintro e w' ⟨rfl, hd⟩
 exact ⟨rfl, hd⟩

end Go.Proofs.Ytacdlipojhoilaa.Ux
