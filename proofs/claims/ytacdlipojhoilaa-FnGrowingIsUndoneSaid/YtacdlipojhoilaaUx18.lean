-- Written by hook.py, a program of this session (wip/), which runs the kit's print.py with its own parts; Lean checks it.
import Derived.Test.YtacdlipojhoilaaUx0
import Derived.Test.YtacdlipojhoilaaUx7
import Derived.Test.YtacdlipojhoilaaUx10
import Derived.Test.YtacdlipojhoilaaUx12
import Derived.Test.YtacdlipojhoilaaUx16
import Derived.Test.YtacdlipojhoilaaUx17
import Derived.Test.YtacdlipojhoilaaUxXSq
namespace Go.Proofs.Ytacdlipojhoilaa.Ux
open Go.RowKit Go.Proofs.YtacdlipojhoilaaW.PrintWords Go.Proofs.YtacdlipojhoilaaW.PrintLast Go.Proofs.YtacdlipojhoilaaW.PrintMore Go.Proofs.Ytacdlipojhoilaa.Sq
attribute [local go_sem] max2_int min2_int max_two min_two max_three min_three max_four min_four   -- for this text's walks alone
set_option linter.unusedVariables false
set_option linter.unusedSimpArgs false

def spec_GrowMatrix.f (k : Nat) (l0_0 : List (List Int)) (a1 : Int) : Option ((List (List Int)) × Bool) := (spec_maGood.f k l0_0).bind fun t392 => (if t392 = true then ((spec_l1In.f a1 0 (l0_0.length : Int)).bind fun t393 => (if t393 = true then ((spec_maSum.f k l0_0).bind fun t394 => (if t394 = 12 then (some (([] : List (List Int)), false)) else ((spec_maGrow.f k l0_0 a1).bind fun t395 => (some (t395, true))))) else (some (([] : List (List Int)), false)))) else (some (([] : List (List Int)), false)))
theorem spec_GrowMatrix.mono : ∀ a0 a1 k, LeO (spec_GrowMatrix.f k a0 a1) (spec_GrowMatrix.f (k + 1) a0 a1) := by
 intro a0 a1 k
 unfold spec_GrowMatrix.f
 repeat' first | with_reducible first | exact spec_maGood.mono _ _ | exact spec_maGrow.mono _ _ _ | exact spec_maSum.mono _ _ | exact LeO.refl _ | exact LeO.none _ | refine LeO.ite ?_ ?_ | refine LeO.bind ?_ (fun _ => ?_)
set_option maxHeartbeats 8000000 in
set_option maxRecDepth 100000 in
theorem spec_GrowMatrix.calls (k : Nat) (A0_0 : Option Addr) (c0_0 : Nat) (l0_0 : List (List Int)) (a1 : Int) (r1 : List (List Int)) (r2 : Bool) (w : World) (hr0_0 : Kd.C (Kd.slice 3 (Kd.int .i64)) w A0_0 l0_0.length l0_0) (hc0_0 : l0_0.length ≤ c0_0) (h : spec_GrowMatrix.f k l0_0 a1 = some (r1, r2)) :
  Calls Try.prog 48 #[.agg #[.slice A0_0 l0_0.length c0_0], .int .i64 a1] w fun e w' => ∃ v0_ : Value, e = .returned (.tuple #[.agg #[v0_], .bool r2]) ∧ Kd.S (Kd.slice 3 (Kd.int .i64)) 24 w' w.heap.size (fun _ => True) v0_ r1 ∧ Below w.heap.size w w' := by
 have hu36 := Try.underlying36
 have HR0_0 := aM hr0_0
 have HC0_0 := aM hc0_0
 clear hr0_0 hc0_0
 have HB := aM (Below.refl w.heap.size w)
 have H : ((spec_maGood.f k l0_0).bind fun t392 => (if t392 = true then ((spec_l1In.f a1 0 (l0_0.length : Int)).bind fun t393 => (if t393 = true then ((spec_maSum.f k l0_0).bind fun t394 => (if t394 = 12 then (some (([] : List (List Int)), false)) else ((spec_maGrow.f k l0_0 a1).bind fun t395 => (some (t395, true))))) else (some (([] : List (List Int)), false)))) else (some (([] : List (List Int)), false)))) = some (r1, r2) := h
 clear h
 replace H := Option.bind_eq_some_iff.mp H
 obtain ⟨t392, A30, H⟩ := H
 replace H : (if t392 = true then ((spec_l1In.f a1 0 (l0_0.length : Int)).bind fun t393 => (if t393 = true then ((spec_maSum.f k l0_0).bind fun t394 => (if t394 = 12 then (some (([] : List (List Int)), false)) else ((spec_maGrow.f k l0_0 a1).bind fun t395 => (some (t395, true))))) else (some (([] : List (List Int)), false)))) else (some (([] : List (List Int)), false))) = some (r1, r2) := H
 have A3 := aM A30
 clear A30
 by_cases c4 : t392 = true
 ·subst c4
  have H1 : ((spec_l1In.f a1 0 (l0_0.length : Int)).bind fun t393 => (if t393 = true then ((spec_maSum.f k l0_0).bind fun t394 => (if t394 = 12 then (some (([] : List (List Int)), false)) else ((spec_maGrow.f k l0_0 a1).bind fun t395 => (some (t395, true))))) else (some (([] : List (List Int)), false)))) = some (r1, r2) := by rw [if_pos rfl] at H; exact H
  clear H
  have H := H1
  clear H1
  replace H := Option.bind_eq_some_iff.mp H
  obtain ⟨t393, A50, H⟩ := H
  replace H : (if t393 = true then ((spec_maSum.f k l0_0).bind fun t394 => (if t394 = 12 then (some (([] : List (List Int)), false)) else ((spec_maGrow.f k l0_0 a1).bind fun t395 => (some (t395, true))))) else (some (([] : List (List Int)), false))) = some (r1, r2) := H
  have A5 := aM A50
  clear A50
  by_cases c6 : t393 = true
  ·subst c6
   have H1 : ((spec_maSum.f k l0_0).bind fun t394 => (if t394 = 12 then (some (([] : List (List Int)), false)) else ((spec_maGrow.f k l0_0 a1).bind fun t395 => (some (t395, true))))) = some (r1, r2) := by rw [if_pos rfl] at H; exact H
   clear H
   have H := H1
   clear H1
   replace H := Option.bind_eq_some_iff.mp H
   obtain ⟨t394, A70, H⟩ := H
   replace H : (if t394 = 12 then (some (([] : List (List Int)), false)) else ((spec_maGrow.f k l0_0 a1).bind fun t395 => (some (t395, true)))) = some (r1, r2) := H
   have A7 := aM A70
   clear A70
   by_cases c8 : t394 = 12
   ·rw [if_pos c8] at H
    have c8b0 : (t394 == 12) = true := beq_iff_eq.mpr c8
    have c8b1 : (t394 != 12) = false := bne_eq_false_iff_eq.mpr c8
    clear c8
    simp only [Option.some.injEq, Prod.mk.injEq] at H
    obtain ⟨rfl, rfl⟩ := H
    go_enter Try.func48, Try.ntmps48
    go_wp2_with (first | ((with_reducible refine gate_dst (N := 2) rfl ?_); (try (refine gate_guard (by rfl) ?_; dsimp only)); refine bE 2 36 #[.slice A0_0 l0_0.length c0_0] ?_; intro gb390 hg w9 hbox hb; have _ := aM (below_step bq hb); have _ := aM (hbox); have _ := aM ((gS hg)); have _ := aM ((gS hg)); clear HB; rename_i HB BK390 GW390 GE390; clear hb hbox hg) | ((with_reducible refine gate_dst (N := 4) rfl ?_); (try (refine gate_guard (by rfl) ?_; dsimp only)); refine bE 4 36 #[.slice none 0 0] ?_; intro gb391 hg w10 hbox hb; have _ := aM (blk_below (g := gb390) (o := .cells #[.slice A0_0 l0_0.length c0_0] 36 (0, 0)) (qQ BK390) hb); have _ := aM (below_step bq hb); have _ := aM (hbox); have _ := aM ((gS hg)); have _ := aM ((gS hg)); have _ := aM ((by rw [hg]; exact Nat.ne_of_lt (blk_lt (g := gb390) (o := .cells #[.slice A0_0 l0_0.length c0_0] 36 (0, 0)) (qQ BK390)) : gb390 ≠ gb391)); have _ := aM ((by rw [hg]; exact Nat.ne_of_gt (blk_lt (g := gb390) (o := .cells #[.slice A0_0 l0_0.length c0_0] 36 (0, 0)) (qQ BK390)) : gb391 ≠ gb390)); clear BK390 HB; rename_i BK390 HB BK391 GW391 GE391 NB390_391 NB391_390; clear hb hbox hg; have hnb11 := NB390_391.out; have hnc11 := NB391_390.out; have hcz12_0 : w10.cell? ⟨gb390, 0, none⟩ = some (.slice A0_0 l0_0.length c0_0) := (blk_cell BK390.out 0).trans rfl; have hfz12_0 := blk_frozen BK390.out 0) | ((with_reducible refine gate_callee (f := 99) rfl ?_); refine gL (some 7) Try.func99 #[.agg #[.slice A0_0 l0_0.length c0_0]] ?_; (with_reducible refine (spec_maGood.calls k _ _ l0_0 true _ (cQ (Kd.C_below HR0_0.out HB.out)) HC0_0.out A3.out).mono ?_); rintro e w13 ⟨rfl, hb⟩; refine ⟨_, rfl, ?_⟩; have _ := aM (blk_below (g := gb390) (o := .cells #[.slice A0_0 l0_0.length c0_0] 36 (0, 0)) (qQ BK390) hb); have _ := aM (blk_below (g := gb391) (o := .cells #[.slice none 0 0] 36 (0, 0)) (qQ BK391) hb); have _ := aM (below_step bq hb); clear BK390 BK391 HB; rename_i BK390 BK391 HB; (try clear hb); (try clear hb2); (try clear hk); (try clear hi); have hcz14_0 : w13.cell? ⟨gb390, 0, none⟩ = some (.slice A0_0 l0_0.length c0_0) := (blk_cell BK390.out 0).trans rfl; have hfz14_0 := blk_frozen BK390.out 0) | (go_at_call 105; (with_reducible refine (spec_l1In.calls a1 0 (l0_0.length : Int) true _ A5.out).mono ?_); rintro e w' ⟨rfl, ⟨nd, rfl⟩⟩; (try (rw [drewN_self w13]; generalize hq_ : World.drewN w13 _ = w13; have _ : Aside0 (w13.heap[gb390]? = some (.cells #[.slice A0_0 l0_0.length c0_0] 36 (0, 0))) := ⟨by rw [← hq_]; exact (qQ BK390)⟩; have _ : Aside0 (w13.heap[gb391]? = some (.cells #[.slice none 0 0] 36 (0, 0))) := ⟨by rw [← hq_]; exact (qQ BK391)⟩; have _ : Aside0 (Below w.heap.size w w13) := ⟨by rw [← hq_]; exact bq⟩; clear BK390 BK391 HB hq_; rename_i BK390 BK391 HB; have hcq_390 : World.cell? w13 ⟨gb390, 0, none⟩ = some (.slice A0_0 l0_0.length c0_0) := (blk_cell BK390.out 0).trans rfl; have hfq_390 := blk_frozen BK390.out 0; have hcq_391 : World.cell? w13 ⟨gb391, 0, none⟩ = some (.slice none 0 0) := (blk_cell BK391.out 0).trans rfl; have hfq_391 := blk_frozen BK391.out 0))) | (go_at_call 106; (with_reducible refine (spec_maSum.calls k _ _ l0_0 t394 _ (cQ (Kd.C_below HR0_0.out HB.out)) HC0_0.out A7.out).mono ?_); rintro e w15 ⟨rfl, hb⟩; have _ := aM (blk_below (g := gb390) (o := .cells #[.slice A0_0 l0_0.length c0_0] 36 (0, 0)) (qQ BK390) hb); have _ := aM (blk_below (g := gb391) (o := .cells #[.slice none 0 0] 36 (0, 0)) (qQ BK391) hb); have _ := aM (below_step bq hb); clear BK390 BK391 HB; rename_i BK390 BK391 HB; (try clear hb); (try clear hb2); (try clear hk); (try clear hi); have hcz16_0 : w15.cell? ⟨gb391, 0, none⟩ = some (.slice none 0 0) := (blk_cell BK391.out 0).trans rfl; have hfz16_0 := blk_frozen BK391.out 0))
    refine bodyPost_ret (results_ct rfl _ _ gb391 36 #[.slice none 0 0] (0, 0) _ rfl (by (with_reducible repeat first|apply qN|apply qD|apply qA); refine blk_put (cs := #[.slice none 0 0]) ?_ 0 _ rfl; (with_reducible repeat first|apply qN|apply qD|apply qA); exact BK391.out) Try.underlying36 rfl (by kernel_rfl)) rfl ?_
    exact ⟨_, by first | rfl | (simp [errW_none, errW_some] <;> rfl) | (simp [*, errW_none, errW_some] <;> rfl), by first | exact Kd.S_nil _ _ _ _ _ | exact Kd.N_nil _ _ _ _ _ | exact Kd.V_nil _ _ _ _ _ | exact Kd.Q_nil _ _ _ _ _ | exact Kd.R_nil _ _ _ _ _, by exact bq⟩
   ·rw [if_neg c8] at H
    have c8b0 : (t394 == 12) = false := beq_eq_false_iff_ne.mpr c8
    have c8b1 : (t394 != 12) = true := bne_iff_ne.mpr c8
    replace H := Option.bind_eq_some_iff.mp H
    obtain ⟨t395, A170, H⟩ := H
    replace H : (some (t395, true)) = some (r1, r2) := H
    have A17 := aM A170
    clear A170
    simp only [Option.some.injEq, Prod.mk.injEq] at H
    obtain ⟨rfl, rfl⟩ := H
    go_enter Try.func48, Try.ntmps48
    go_wp2_with (first | ((with_reducible refine gate_dst (N := 2) rfl ?_); (try (refine gate_guard (by rfl) ?_; dsimp only)); refine bE 2 36 #[.slice A0_0 l0_0.length c0_0] ?_; intro gb390 hg w18 hbox hb; have _ := aM (below_step bq hb); have _ := aM (hbox); have _ := aM ((gS hg)); have _ := aM ((gS hg)); clear HB; rename_i HB BK390 GW390 GE390; clear hb hbox hg) | ((with_reducible refine gate_dst (N := 4) rfl ?_); (try (refine gate_guard (by rfl) ?_; dsimp only)); refine bE 4 36 #[.slice none 0 0] ?_; intro gb391 hg w19 hbox hb; have _ := aM (blk_below (g := gb390) (o := .cells #[.slice A0_0 l0_0.length c0_0] 36 (0, 0)) (qQ BK390) hb); have _ := aM (below_step bq hb); have _ := aM (hbox); have _ := aM ((gS hg)); have _ := aM ((gS hg)); have _ := aM ((by rw [hg]; exact Nat.ne_of_lt (blk_lt (g := gb390) (o := .cells #[.slice A0_0 l0_0.length c0_0] 36 (0, 0)) (qQ BK390)) : gb390 ≠ gb391)); have _ := aM ((by rw [hg]; exact Nat.ne_of_gt (blk_lt (g := gb390) (o := .cells #[.slice A0_0 l0_0.length c0_0] 36 (0, 0)) (qQ BK390)) : gb391 ≠ gb390)); clear BK390 HB; rename_i BK390 HB BK391 GW391 GE391 NB390_391 NB391_390; clear hb hbox hg; have hnb20 := NB390_391.out; have hnc20 := NB391_390.out; have hcz21_0 : w19.cell? ⟨gb390, 0, none⟩ = some (.slice A0_0 l0_0.length c0_0) := (blk_cell BK390.out 0).trans rfl; have hfz21_0 := blk_frozen BK390.out 0) | ((with_reducible refine gate_callee (f := 99) rfl ?_); refine gL (some 7) Try.func99 #[.agg #[.slice A0_0 l0_0.length c0_0]] ?_; (with_reducible refine (spec_maGood.calls k _ _ l0_0 true _ (cQ (Kd.C_below HR0_0.out HB.out)) HC0_0.out A3.out).mono ?_); rintro e w22 ⟨rfl, hb⟩; refine ⟨_, rfl, ?_⟩; have _ := aM (blk_below (g := gb390) (o := .cells #[.slice A0_0 l0_0.length c0_0] 36 (0, 0)) (qQ BK390) hb); have _ := aM (blk_below (g := gb391) (o := .cells #[.slice none 0 0] 36 (0, 0)) (qQ BK391) hb); have _ := aM (below_step bq hb); clear BK390 BK391 HB; rename_i BK390 BK391 HB; (try clear hb); (try clear hb2); (try clear hk); (try clear hi); have hcz23_0 : w22.cell? ⟨gb390, 0, none⟩ = some (.slice A0_0 l0_0.length c0_0) := (blk_cell BK390.out 0).trans rfl; have hfz23_0 := blk_frozen BK390.out 0) | (go_at_call 105; (with_reducible refine (spec_l1In.calls a1 0 (l0_0.length : Int) true _ A5.out).mono ?_); rintro e w' ⟨rfl, ⟨nd, rfl⟩⟩; (try (rw [drewN_self w22]; generalize hq_ : World.drewN w22 _ = w22; have _ : Aside0 (w22.heap[gb390]? = some (.cells #[.slice A0_0 l0_0.length c0_0] 36 (0, 0))) := ⟨by rw [← hq_]; exact (qQ BK390)⟩; have _ : Aside0 (w22.heap[gb391]? = some (.cells #[.slice none 0 0] 36 (0, 0))) := ⟨by rw [← hq_]; exact (qQ BK391)⟩; have _ : Aside0 (Below w.heap.size w w22) := ⟨by rw [← hq_]; exact bq⟩; clear BK390 BK391 HB hq_; rename_i BK390 BK391 HB; have hcq_390 : World.cell? w22 ⟨gb390, 0, none⟩ = some (.slice A0_0 l0_0.length c0_0) := (blk_cell BK390.out 0).trans rfl; have hfq_390 := blk_frozen BK390.out 0; have hcq_391 : World.cell? w22 ⟨gb391, 0, none⟩ = some (.slice none 0 0) := (blk_cell BK391.out 0).trans rfl; have hfq_391 := blk_frozen BK391.out 0))) | (go_at_call 106; (with_reducible refine (spec_maSum.calls k _ _ l0_0 t394 _ (cQ (Kd.C_below HR0_0.out HB.out)) HC0_0.out A7.out).mono ?_); rintro e w24 ⟨rfl, hb⟩; have _ := aM (blk_below (g := gb390) (o := .cells #[.slice A0_0 l0_0.length c0_0] 36 (0, 0)) (qQ BK390) hb); have _ := aM (blk_below (g := gb391) (o := .cells #[.slice none 0 0] 36 (0, 0)) (qQ BK391) hb); have _ := aM (below_step bq hb); clear BK390 BK391 HB; rename_i BK390 BK391 HB; (try clear hb); (try clear hb2); (try clear hk); (try clear hi); have hcz25_0 : w24.cell? ⟨gb390, 0, none⟩ = some (.slice A0_0 l0_0.length c0_0) := (blk_cell BK390.out 0).trans rfl; have hfz25_0 := blk_frozen BK390.out 0) | ((with_reducible refine gate_callee (f := 107) rfl ?_); refine gL (some 25) Try.func107 #[.agg #[.slice A0_0 l0_0.length c0_0], .int .i64 a1] ?_; (with_reducible refine (spec_maGrow.calls k _ _ l0_0 a1 t395 _ (cQ (Kd.C_below HR0_0.out HB.out)) HC0_0.out A17.out).mono ?_); rintro e w26 ⟨v396, rfl, ho0, hb⟩; refine ⟨_, rfl, ?_⟩; have _ := aM (Kd.S_lower ho0 (below_size bq)); have _ := aM (blk_below (g := gb390) (o := .cells #[.slice A0_0 l0_0.length c0_0] 36 (0, 0)) (qQ BK390) hb); have _ := aM (blk_below (g := gb391) (o := .cells #[.slice none 0 0] 36 (0, 0)) (qQ BK391) hb); have _ := aM (below_step bq hb); clear BK390 BK391 HB; rename_i HO397 BK390 BK391 HB; (try clear hb); (try clear hb2); (try clear hk); (try clear hi); (try clear ho0); obtain ⟨Ao27, co27, eo27⟩ := Kd.S_slice HO397.out; subst eo27; have hcz28_0 : w26.cell? ⟨gb391, 0, none⟩ = some (.slice none 0 0) := (blk_cell BK391.out 0).trans rfl; have hfz28_0 := blk_frozen BK391.out 0))
    refine bodyPost_ret (results_ct rfl _ _ gb391 36 #[.slice Ao27 t395.length co27] (0, 0) _ rfl (by (with_reducible repeat first|apply qN|apply qD|apply qA); refine blk_put (cs := #[.slice none 0 0]) ?_ 0 _ rfl; (with_reducible repeat first|apply qN|apply qD|apply qA); exact BK391.out) Try.underlying36 rfl (by kernel_rfl)) rfl ?_
    exact ⟨_, by first | rfl | (simp [errW_none, errW_some] <;> rfl) | (simp [*, errW_none, errW_some] <;> rfl), by (with_reducible repeat first|apply sA|apply sN|apply sD); exact Kd.S_mono (Kd.S_far (p := ⟨gb391, 0, none⟩) (Kd.S_types HO397.out BK391.out (by decide)) (fun _ hk => hk.2) (.slice Ao27 t395.length co27)) (fun _ hk => trivial), by exact bq⟩
  ·replace c6 := Bool.eq_false_iff.mpr c6
   subst c6
   have H1 : (some (([] : List (List Int)), false)) = some (r1, r2) := by rw [if_neg (show ¬ (false = true) by decide)] at H; exact H
   clear H
   have H := H1
   clear H1
   simp only [Option.some.injEq, Prod.mk.injEq] at H
   obtain ⟨rfl, rfl⟩ := H
   go_enter Try.func48, Try.ntmps48
   go_wp2_with (first | ((with_reducible refine gate_dst (N := 2) rfl ?_); (try (refine gate_guard (by rfl) ?_; dsimp only)); refine bE 2 36 #[.slice A0_0 l0_0.length c0_0] ?_; intro gb390 hg w29 hbox hb; have _ := aM (below_step bq hb); have _ := aM (hbox); have _ := aM ((gS hg)); have _ := aM ((gS hg)); clear HB; rename_i HB BK390 GW390 GE390; clear hb hbox hg) | ((with_reducible refine gate_dst (N := 4) rfl ?_); (try (refine gate_guard (by rfl) ?_; dsimp only)); refine bE 4 36 #[.slice none 0 0] ?_; intro gb391 hg w30 hbox hb; have _ := aM (blk_below (g := gb390) (o := .cells #[.slice A0_0 l0_0.length c0_0] 36 (0, 0)) (qQ BK390) hb); have _ := aM (below_step bq hb); have _ := aM (hbox); have _ := aM ((gS hg)); have _ := aM ((gS hg)); have _ := aM ((by rw [hg]; exact Nat.ne_of_lt (blk_lt (g := gb390) (o := .cells #[.slice A0_0 l0_0.length c0_0] 36 (0, 0)) (qQ BK390)) : gb390 ≠ gb391)); have _ := aM ((by rw [hg]; exact Nat.ne_of_gt (blk_lt (g := gb390) (o := .cells #[.slice A0_0 l0_0.length c0_0] 36 (0, 0)) (qQ BK390)) : gb391 ≠ gb390)); clear BK390 HB; rename_i BK390 HB BK391 GW391 GE391 NB390_391 NB391_390; clear hb hbox hg; have hnb31 := NB390_391.out; have hnc31 := NB391_390.out; have hcz32_0 : w30.cell? ⟨gb390, 0, none⟩ = some (.slice A0_0 l0_0.length c0_0) := (blk_cell BK390.out 0).trans rfl; have hfz32_0 := blk_frozen BK390.out 0) | ((with_reducible refine gate_callee (f := 99) rfl ?_); refine gL (some 7) Try.func99 #[.agg #[.slice A0_0 l0_0.length c0_0]] ?_; (with_reducible refine (spec_maGood.calls k _ _ l0_0 true _ (cQ (Kd.C_below HR0_0.out HB.out)) HC0_0.out A3.out).mono ?_); rintro e w33 ⟨rfl, hb⟩; refine ⟨_, rfl, ?_⟩; have _ := aM (blk_below (g := gb390) (o := .cells #[.slice A0_0 l0_0.length c0_0] 36 (0, 0)) (qQ BK390) hb); have _ := aM (blk_below (g := gb391) (o := .cells #[.slice none 0 0] 36 (0, 0)) (qQ BK391) hb); have _ := aM (below_step bq hb); clear BK390 BK391 HB; rename_i BK390 BK391 HB; (try clear hb); (try clear hb2); (try clear hk); (try clear hi); have hcz34_0 : w33.cell? ⟨gb390, 0, none⟩ = some (.slice A0_0 l0_0.length c0_0) := (blk_cell BK390.out 0).trans rfl; have hfz34_0 := blk_frozen BK390.out 0) | (go_at_call 105; (with_reducible refine (spec_l1In.calls a1 0 (l0_0.length : Int) false _ A5.out).mono ?_); rintro e w' ⟨rfl, ⟨nd, rfl⟩⟩; (try (rw [drewN_self w33]; generalize hq_ : World.drewN w33 _ = w33; have _ : Aside0 (w33.heap[gb390]? = some (.cells #[.slice A0_0 l0_0.length c0_0] 36 (0, 0))) := ⟨by rw [← hq_]; exact (qQ BK390)⟩; have _ : Aside0 (w33.heap[gb391]? = some (.cells #[.slice none 0 0] 36 (0, 0))) := ⟨by rw [← hq_]; exact (qQ BK391)⟩; have _ : Aside0 (Below w.heap.size w w33) := ⟨by rw [← hq_]; exact bq⟩; clear BK390 BK391 HB hq_; rename_i BK390 BK391 HB; have hcq_390 : World.cell? w33 ⟨gb390, 0, none⟩ = some (.slice A0_0 l0_0.length c0_0) := (blk_cell BK390.out 0).trans rfl; have hfq_390 := blk_frozen BK390.out 0; have hcq_391 : World.cell? w33 ⟨gb391, 0, none⟩ = some (.slice none 0 0) := (blk_cell BK391.out 0).trans rfl; have hfq_391 := blk_frozen BK391.out 0)); have hcz35_0 : w33.cell? ⟨gb391, 0, none⟩ = some (.slice none 0 0) := (blk_cell BK391.out 0).trans rfl; have hfz35_0 := blk_frozen BK391.out 0))
   refine bodyPost_ret (results_ct rfl _ _ gb391 36 #[.slice none 0 0] (0, 0) _ rfl (by (with_reducible repeat first|apply qN|apply qD|apply qA); refine blk_put (cs := #[.slice none 0 0]) ?_ 0 _ rfl; (with_reducible repeat first|apply qN|apply qD|apply qA); exact BK391.out) Try.underlying36 rfl (by kernel_rfl)) rfl ?_
   exact ⟨_, by first | rfl | (simp [errW_none, errW_some] <;> rfl) | (simp [*, errW_none, errW_some] <;> rfl), by first | exact Kd.S_nil _ _ _ _ _ | exact Kd.N_nil _ _ _ _ _ | exact Kd.V_nil _ _ _ _ _ | exact Kd.Q_nil _ _ _ _ _ | exact Kd.R_nil _ _ _ _ _, by exact bq⟩
 ·replace c4 := Bool.eq_false_iff.mpr c4
  subst c4
  have H1 : (some (([] : List (List Int)), false)) = some (r1, r2) := by rw [if_neg (show ¬ (false = true) by decide)] at H; exact H
  clear H
  have H := H1
  clear H1
  simp only [Option.some.injEq, Prod.mk.injEq] at H
  obtain ⟨rfl, rfl⟩ := H
  go_enter Try.func48, Try.ntmps48
  go_wp2_with (first | ((with_reducible refine gate_dst (N := 2) rfl ?_); (try (refine gate_guard (by rfl) ?_; dsimp only)); refine bE 2 36 #[.slice A0_0 l0_0.length c0_0] ?_; intro gb390 hg w36 hbox hb; have _ := aM (below_step bq hb); have _ := aM (hbox); have _ := aM ((gS hg)); have _ := aM ((gS hg)); clear HB; rename_i HB BK390 GW390 GE390; clear hb hbox hg) | ((with_reducible refine gate_dst (N := 4) rfl ?_); (try (refine gate_guard (by rfl) ?_; dsimp only)); refine bE 4 36 #[.slice none 0 0] ?_; intro gb391 hg w37 hbox hb; have _ := aM (blk_below (g := gb390) (o := .cells #[.slice A0_0 l0_0.length c0_0] 36 (0, 0)) (qQ BK390) hb); have _ := aM (below_step bq hb); have _ := aM (hbox); have _ := aM ((gS hg)); have _ := aM ((gS hg)); have _ := aM ((by rw [hg]; exact Nat.ne_of_lt (blk_lt (g := gb390) (o := .cells #[.slice A0_0 l0_0.length c0_0] 36 (0, 0)) (qQ BK390)) : gb390 ≠ gb391)); have _ := aM ((by rw [hg]; exact Nat.ne_of_gt (blk_lt (g := gb390) (o := .cells #[.slice A0_0 l0_0.length c0_0] 36 (0, 0)) (qQ BK390)) : gb391 ≠ gb390)); clear BK390 HB; rename_i BK390 HB BK391 GW391 GE391 NB390_391 NB391_390; clear hb hbox hg; have hnb38 := NB390_391.out; have hnc38 := NB391_390.out; have hcz39_0 : w37.cell? ⟨gb390, 0, none⟩ = some (.slice A0_0 l0_0.length c0_0) := (blk_cell BK390.out 0).trans rfl; have hfz39_0 := blk_frozen BK390.out 0) | ((with_reducible refine gate_callee (f := 99) rfl ?_); refine gL (some 7) Try.func99 #[.agg #[.slice A0_0 l0_0.length c0_0]] ?_; (with_reducible refine (spec_maGood.calls k _ _ l0_0 false _ (cQ (Kd.C_below HR0_0.out HB.out)) HC0_0.out A3.out).mono ?_); rintro e w40 ⟨rfl, hb⟩; refine ⟨_, rfl, ?_⟩; have _ := aM (blk_below (g := gb390) (o := .cells #[.slice A0_0 l0_0.length c0_0] 36 (0, 0)) (qQ BK390) hb); have _ := aM (blk_below (g := gb391) (o := .cells #[.slice none 0 0] 36 (0, 0)) (qQ BK391) hb); have _ := aM (below_step bq hb); clear BK390 BK391 HB; rename_i BK390 BK391 HB; (try clear hb); (try clear hb2); (try clear hk); (try clear hi); have hcz41_0 : w40.cell? ⟨gb391, 0, none⟩ = some (.slice none 0 0) := (blk_cell BK391.out 0).trans rfl; have hfz41_0 := blk_frozen BK391.out 0))
  refine bodyPost_ret (results_ct rfl _ _ gb391 36 #[.slice none 0 0] (0, 0) _ rfl (by (with_reducible repeat first|apply qN|apply qD|apply qA); refine blk_put (cs := #[.slice none 0 0]) ?_ 0 _ rfl; (with_reducible repeat first|apply qN|apply qD|apply qA); exact BK391.out) Try.underlying36 rfl (by kernel_rfl)) rfl ?_
  exact ⟨_, by first | rfl | (simp [errW_none, errW_some] <;> rfl) | (simp [*, errW_none, errW_some] <;> rfl), by first | exact Kd.S_nil _ _ _ _ _ | exact Kd.N_nil _ _ _ _ _ | exact Kd.V_nil _ _ _ _ _ | exact Kd.Q_nil _ _ _ _ _ | exact Kd.R_nil _ _ _ _ _, by exact bq⟩

def spec_DrawShrinkMatrix.f (k : Nat) (l0 : List Int) : Option (List (List Int)) := (spec_l1Cur_matrix.f k l0 0 0 9).bind fun b => some b.1
theorem spec_DrawShrinkMatrix.mono : ∀ a0 k, LeO (spec_DrawShrinkMatrix.f k a0) (spec_DrawShrinkMatrix.f (k + 1) a0) := fun a0 k => LeO.bind (spec_l1Cur_matrix.mono _ _ _ _ _) (fun _ => LeO.refl _)
set_option maxHeartbeats 8000000 in
set_option maxRecDepth 100000 in
theorem spec_DrawShrinkMatrix.calls (k : Nat) (A0 : Option Addr) (c0 : Nat) (l0 : List Int) (r : List (List Int)) (w : World) (hr0 : Kd.C (Kd.int .u8) w A0 l0.length l0) (hc0 : l0.length ≤ c0) (h : spec_DrawShrinkMatrix.f k l0 = some r) :
    Calls Try.prog 49 #[.slice A0 l0.length c0] w fun e w' => ∃ v0_ : Value, e = .returned (.agg #[v0_]) ∧ Kd.Q (Kd.slice 3 (Kd.int .i64)) 24 w' w.heap.size (fun _ => True) v0_ r ∧ Below w.heap.size w w' := by
 obtain ⟨⟨r1, r2, r3⟩, e1, e2⟩ := Option.bind_eq_some_iff.mp h
 obtain rfl := Option.some.inj e2
 clear h e2
 have HC := aM hr0
 have E1 := aM e1
 clear hr0 e1
 have sz1 : (w.alloc (.cells #[.slice none 0 0] 36)).heap.size = w.heap.size + 1 := Live.size_alloc _ _
 go_enter Try.func49, Try.ntmps49
 go_wp2_with (fail)
 refine (spec_l1Cur_matrix.calls k (w.heap.size + 1) l0 0 0 9 r1 r2 r3 w _ ⟨A0, c0, ?c1, ?c2, ?c3⟩ ?c4 E1.out).mono ?_
 case c1 => rw [← sz1]; exact blk_new _ _
 case c2 => exact Nat.le_succ _
 case c3 => exact HC.out
 case c4 => exact below_alloc (below_alloc (Below.refl _ _) _) _
 rintro e w' ⟨v0, rfl, hr, hi, hb, hk⟩
 obtain ⟨Ao, co, rfl, _⟩ := Kd.Q_slice hr
 have HR := aM hr
 have HB := aM hb
 have HK := aM (hk.blk (blk_alloc (blk_new w (.cells #[.slice none 0 0] 36)) _) (by omega) (by simp))
 have HZ := aM hk.1
 clear hr hi hb hk
 have k1 : w'.cell? ⟨w.heap.size, 0, none⟩ = some (.slice none 0 0) := blk_cell HK.out 0
 have k2 : w'.frozen? ⟨w.heap.size, 0, none⟩ = false := blk_frozen HK.out 0
 go_wp2_with (fail)
 refine bodyPost_ret (results_cell_row rfl _ _ w.heap.size 36 #[.slice Ao r1.length co] (0, 0) _ rfl (blk_put (cs := #[.slice none 0 0]) HK.out 0 _ rfl) Try.underlying36 rfl (by kernel_rfl)) rfl ?_
 have hz : w.heap.size + 2 ≤ w'.heap.size := by {
 have := HZ.out
 rw [Live.size_alloc, sz1] at this; exact this}
 refine ⟨_, rfl, ?_, below_set HB.out (Nat.le_refl _)⟩
 refine Kd.Q_lower (Kd.Q_mono (Kd.Q_far (p := ⟨w.heap.size, 0, none⟩) (Kd.Q_mono (Kd.Q_bound HR.out) (fun k_ hk_ => hk_)) (fun k_ hk_ => ?_) _) (fun _ _ => trivial)) ?_
 · {
 have := hk_.2.1
 rw [Live.size_alloc, sz1] at this
 show k_ ≠ w.heap.size
 omega}
 · rw [Live.size_alloc, sz1]; omega
theorem slices_Delete_int_int_150.info : (Try.prog.info? 24).map (fun i => (i.zero, i.size, i.bytes)) = some (some (.slice none 0 0), 1, 24) := by kernel_rfl
theorem slices_Delete_int_int_150.zero : ∀ w, (zeroValue 24).run Try.prog w = .ok (.slice none 0 0) w := fun w => by
  obtain ⟨i0, hi0, h0, h1, h2⟩ := info_parts slices_Delete_int_int_150.info
  simp [zeroValue, typeInfo, hi0, h0, Result.andThen]
set_option maxHeartbeats 4000000 in
set_option maxRecDepth 100000 in
open Go.Proofs.Ytacdlipojhoilaa.Live Go.Lib in
theorem slices_Delete_int_int_150.shift (g n c i : Nat) (cur : Array Value) (w : World) (hi : i < n) (hn : n ≤ c) (hc : c ≤ 9223372036854775807) (hg : w.heap[g]? = some (.cells cur 24 (0, 0))) (hcur : cur.size = c) (h1c : ∀ v ∈ cur.toList.take n, v.oneCell' = true) :
    Calls Try.prog 150 #[.slice (some ⟨g, 0, none⟩) n c, .int .i64 (i : Int), .int .i64 ((i + 1 : Nat) : Int)] w fun e w' =>
      e = .returned (.slice (some ⟨g, 0, none⟩) (n - 1) c) ∧ w' = (w.drew.setCells g i ((cur.toList.take n).drop (i + 1))).setCells g (n - 1) [.slice none 0 0] := by
  obtain ⟨cs, hcs⟩ : ∃ cs, cs = (cur.toList.take n).drop (i + 1) := ⟨_, rfl⟩
  have hcl : cs.length = n - (i + 1) := by rw [hcs, List.length_drop, List.length_take, Array.length_toList]; omega
  have hone : ∀ v ∈ cs, v.oneCell' = true := fun v hv => h1c v (by rw [hcs] at hv; exact List.mem_of_mem_drop hv)
  have hcell : ∀ j v, cs[j]? = some v → w.drew.cell? ⟨g, i + 1 + j, none⟩ = some v := fun j v hj => by
    rw [blk_cell (w := w.drew) hg (i + 1 + j)]
    rw [hcs, List.getElem?_drop, List.getElem?_take] at hj
    split at hj
    · rw [← Array.getElem?_toList]; exact hj
    · cases hj
  obtain ⟨i0, hi0, hz0, hzs, hzb⟩ := info_parts slices_Delete_int_int_150.info
  obtain ⟨A, hA, hsrc⟩ : ∃ A : Addr, (if c = i + 1 then some (⟨g, 0, none⟩ : Addr) else some ⟨g, i + 1, none⟩) = some A ∧ Aside0 (∀ t u, cs[t]? = some u → w.drew.cell? (A.add t) = some u) := by
    by_cases h : c = i + 1
    · refine ⟨⟨g, 0, none⟩, by simp [h], ⟨fun t u hu => ?_⟩⟩
      have h0 : cs.length = 0 := by rw [hcl]; omega
      rw [List.length_eq_zero_iff.1 h0] at hu
      simp at hu
    · exact ⟨⟨g, i + 1, none⟩, by simp [h], ⟨fun t u hu => by rw [Addr.add_lit]; exact hcell t u hu⟩⟩
  have s1 : Aside0 (cs.length = (n - (i + 1)) * 1) := ⟨by rw [Nat.mul_one]; exact hcl⟩
  have s2 : Aside0 (∀ u ∈ cs, u.oneCell' = true) := ⟨hone⟩
  have s3 : Aside0 (∀ t, t < cs.length → (w.drew.cell? ⟨g, 0 + i * 1 + t, none⟩).isSome = true ∧ w.drew.frozen? ⟨g, 0 + i * 1 + t, none⟩ = false) := ⟨fun t ht => ⟨by rw [blk_cell (w := w.drew) hg, Array.getElem?_eq_getElem (by omega)]; rfl, blk_frozen (w := w.drew) hg _⟩⟩
  obtain ⟨W1, hW1⟩ : ∃ W1, W1 = w.drew.setCells g (0 + i * 1) cs := ⟨_, rfl⟩
  have hG1 : W1.heap[g]? = some (.cells (setL cur (0 + i * 1) cs) 24 (0, 0)) := by rw [hW1]; exact heap_setCells g cs _ w.drew cur hg
  have hcle : ∀ ty, (Builtin.clear_ #[34] ty #[.slice (some ⟨g, i + (n - (i + 1)), none⟩) (n - (i + (n - (i + 1)))) (c - (i + (n - (i + 1))))]).run Try.prog W1 = .ok (.tuple #[]) (W1.setCells g (i + (n - (i + 1))) (List.replicate (n - (i + (n - (i + 1)))) (.slice none 0 0))) :=
    fun ty => Go.Lib.run_clear_slice W1 _ _ ty _ Try.underlying34 slices_Delete_int_int_150.zero rfl rfl g (i + (n - (i + 1))) _ _ (by omega) (fun t ht => by rw [blk_cell hG1, Array.getElem?_eq_getElem (by rw [setL_size]; omega)]; rfl) (fun t ht => blk_frozen hG1 _)
  have hW := aM hW1
  have HCS := aM hcs
  have hic : i ≤ c := by omega
  have hjc : i + 1 ≤ c := by omega
  have hb0 : (0 : Int) ≤ (i : Int) + 1 := by omega
  have hb1 : (i : Int) + 1 ≤ (n : Int) := by omega
  clear hW1 hG1 hcell hone hcl hcs hg hcur h1c hz0 hzb
  go_enter Try.func150, Try.ntmps150
  go_wp2_with fail
  go_region_law (refine step_append_room rfl (.tmp 22) (.tmp 25) 34 rfl 24 i0 1 Try.underlying34 hi0 hzs g 0 i c (by simp [Act.eval, Act.put]) A (n - (i + 1)) (c - (i + 1)) cs (by simp [Act.eval, Act.put]) s1.out hsrc.out s2.out (by omega) s3.out ?_; rw [← hW.out])
  go_wp2
  go_ret
  have e1 : i + (n - (i + 1)) = n - 1 := by omega
  have e2 : n - (n - 1) = 1 := by omega
  refine ⟨by rw [← e1]; rfl, ?_⟩
  rw [hW.out, HCS.out, Nat.zero_add, Nat.mul_one, e1, e2]
  rfl
set_option maxHeartbeats 4000000 in
open Go.Proofs.Ytacdlipojhoilaa.Live Go.Lib in
theorem slices_Delete_int_int_150.owns (base i n : Nat) (v : Value) (inner : List Value) (w : World) (hown : w.ownsRow base 24 1 v n inner) (hi : i < n) (h1c : ∀ x ∈ inner, x.oneCell' = true) :
    Calls Try.prog 150 #[v, .int .i64 (i : Int), .int .i64 ((i + 1 : Nat) : Int)] w fun e w' =>
      ∃ v', e = .returned v' ∧ w'.ownsRow base 24 1 v' (n - 1) (inner.eraseIdx i) ∧ w.grownBy w' v.ownBlock ∧ v'.ownBlock = v.ownBlock := by
  rcases hown.2 with ⟨rfl, rfl⟩ | ⟨g, cap, cur, rfl, h2, h3, h4, h5, h6, h7⟩
  · omega
  · rw [Nat.mul_one] at h6 h7
    have h5' : cap ≤ 9223372036854775807 := by unfold maxLen at h5; omega
    have hlen : inner.length = n := by simpa using hown.1
    refine (slices_Delete_int_int_150.shift g n cap i cur w hi h4 h5' h3 h6 (by rw [h7]; exact h1c)).mono ?_
    rintro e w' ⟨rfl, rfl⟩
    have g1 := grown_setCells g ((cur.toList.take n).drop (i + 1)) i w.drew
    have g2 := grown_setCells g [.slice none 0 0] (n - 1) (w.drew.setCells g i ((cur.toList.take n).drop (i + 1)))
    have hl1 : ((cur.toList.take n).drop (i + 1)).length = n - (i + 1) := by rw [List.length_drop, List.length_take, Array.length_toList]; omega
    refine ⟨_, rfl, ⟨by rw [List.length_eraseIdx]; split <;> omega, .inr ⟨g, cap, setL (setL cur i ((cur.toList.take n).drop (i + 1))) (n - 1) [.slice none 0 0], rfl, h2, heap_setCells _ _ _ _ _ (heap_setCells _ _ _ w.drew _ h3), by omega, h5, by rw [setL_size, setL_size, Nat.mul_one]; exact h6, ?_⟩⟩, ?_, rfl⟩
    · have hsz : (setL cur i ((cur.toList.take n).drop (i + 1))).toList.length = cap := by rw [Array.length_toList, setL_size]; exact h6
      rw [Nat.mul_one, setL_list _ _ _ (by rw [setL_size]; simp only [List.length_cons, List.length_nil]; omega), List.append_assoc, List.take_append_of_le_length (by rw [List.length_take, hsz]; omega), List.take_take, Nat.min_self,
        setL_list _ _ _ (by rw [hl1]; omega)]
      rw [List.take_append_of_le_length (by rw [List.length_append, List.length_take, Array.length_toList, hl1]; omega), List.take_of_length_le (by rw [List.length_append, List.length_take, Array.length_toList, hl1]; omega)]
      rw [List.eraseIdx_eq_take_drop_succ, ← h7, List.take_take, Nat.min_eq_left (by omega)]
    · exact ⟨g2.1.os.trans g1.1.os, g2.1.tape.trans g1.1.tape, g2.1.output.trans g1.1.output, Nat.le_of_eq (g2.2.trans g1.2).symm, fun k hk hk2 => (g2.1.block k (by rw [g1.2]; exact hk) hk2).trans (g1.1.block k hk hk2)⟩


theorem slices_Delete_int_int_151.info : (Try.prog.info? 3).map (fun i => (i.zero, i.size, i.bytes)) = some (some (.int .i64 0), 1, 8) := by kernel_rfl
theorem slices_Delete_int_int_151.zero : ∀ w, (zeroValue 3).run Try.prog w = .ok (.int .i64 0) w := fun w => by
  obtain ⟨i0, hi0, h0, h1, h2⟩ := info_parts slices_Delete_int_int_151.info
  simp [zeroValue, typeInfo, hi0, h0, Result.andThen]
set_option maxHeartbeats 4000000 in
set_option maxRecDepth 100000 in
open Go.Proofs.Ytacdlipojhoilaa.Live Go.Lib in
theorem slices_Delete_int_int_151.shift (g n c i : Nat) (cur : Array Value) (w : World) (hi : i < n) (hn : n ≤ c) (hc : c ≤ 9223372036854775807) (hg : w.heap[g]? = some (.cells cur 3 (0, 0))) (hcur : cur.size = c) (h1c : ∀ v ∈ cur.toList.take n, v.oneCell' = true) :
    Calls Try.prog 151 #[.slice (some ⟨g, 0, none⟩) n c, .int .i64 (i : Int), .int .i64 ((i + 1 : Nat) : Int)] w fun e w' =>
      e = .returned (.slice (some ⟨g, 0, none⟩) (n - 1) c) ∧ w' = (w.drew.setCells g i ((cur.toList.take n).drop (i + 1))).setCells g (n - 1) [.int .i64 0] := by
  obtain ⟨cs, hcs⟩ : ∃ cs, cs = (cur.toList.take n).drop (i + 1) := ⟨_, rfl⟩
  have hcl : cs.length = n - (i + 1) := by rw [hcs, List.length_drop, List.length_take, Array.length_toList]; omega
  have hone : ∀ v ∈ cs, v.oneCell' = true := fun v hv => h1c v (by rw [hcs] at hv; exact List.mem_of_mem_drop hv)
  have hcell : ∀ j v, cs[j]? = some v → w.drew.cell? ⟨g, i + 1 + j, none⟩ = some v := fun j v hj => by
    rw [blk_cell (w := w.drew) hg (i + 1 + j)]
    rw [hcs, List.getElem?_drop, List.getElem?_take] at hj
    split at hj
    · rw [← Array.getElem?_toList]; exact hj
    · cases hj
  obtain ⟨i0, hi0, hz0, hzs, hzb⟩ := info_parts slices_Delete_int_int_151.info
  obtain ⟨A, hA, hsrc⟩ : ∃ A : Addr, (if c = i + 1 then some (⟨g, 0, none⟩ : Addr) else some ⟨g, i + 1, none⟩) = some A ∧ Aside0 (∀ t u, cs[t]? = some u → w.drew.cell? (A.add t) = some u) := by
    by_cases h : c = i + 1
    · refine ⟨⟨g, 0, none⟩, by simp [h], ⟨fun t u hu => ?_⟩⟩
      have h0 : cs.length = 0 := by rw [hcl]; omega
      rw [List.length_eq_zero_iff.1 h0] at hu
      simp at hu
    · exact ⟨⟨g, i + 1, none⟩, by simp [h], ⟨fun t u hu => by rw [Addr.add_lit]; exact hcell t u hu⟩⟩
  have s1 : Aside0 (cs.length = (n - (i + 1)) * 1) := ⟨by rw [Nat.mul_one]; exact hcl⟩
  have s2 : Aside0 (∀ u ∈ cs, u.oneCell' = true) := ⟨hone⟩
  have s3 : Aside0 (∀ t, t < cs.length → (w.drew.cell? ⟨g, 0 + i * 1 + t, none⟩).isSome = true ∧ w.drew.frozen? ⟨g, 0 + i * 1 + t, none⟩ = false) := ⟨fun t ht => ⟨by rw [blk_cell (w := w.drew) hg, Array.getElem?_eq_getElem (by omega)]; rfl, blk_frozen (w := w.drew) hg _⟩⟩
  obtain ⟨W1, hW1⟩ : ∃ W1, W1 = w.drew.setCells g (0 + i * 1) cs := ⟨_, rfl⟩
  have hG1 : W1.heap[g]? = some (.cells (setL cur (0 + i * 1) cs) 3 (0, 0)) := by rw [hW1]; exact heap_setCells g cs _ w.drew cur hg
  have hcle : ∀ ty, (Builtin.clear_ #[24] ty #[.slice (some ⟨g, i + (n - (i + 1)), none⟩) (n - (i + (n - (i + 1)))) (c - (i + (n - (i + 1))))]).run Try.prog W1 = .ok (.tuple #[]) (W1.setCells g (i + (n - (i + 1))) (List.replicate (n - (i + (n - (i + 1)))) (.int .i64 0))) :=
    fun ty => Go.Lib.run_clear_slice W1 _ _ ty _ Try.underlying24 slices_Delete_int_int_151.zero rfl rfl g (i + (n - (i + 1))) _ _ (by omega) (fun t ht => by rw [blk_cell hG1, Array.getElem?_eq_getElem (by rw [setL_size]; omega)]; rfl) (fun t ht => blk_frozen hG1 _)
  have hW := aM hW1
  have HCS := aM hcs
  have hic : i ≤ c := by omega
  have hjc : i + 1 ≤ c := by omega
  have hb0 : (0 : Int) ≤ (i : Int) + 1 := by omega
  have hb1 : (i : Int) + 1 ≤ (n : Int) := by omega
  clear hW1 hG1 hcell hone hcl hcs hg hcur h1c hz0 hzb
  go_enter Try.func151, Try.ntmps151
  go_wp2_with fail
  go_region_law (refine step_append_room rfl (.tmp 22) (.tmp 25) 24 rfl 3 i0 1 Try.underlying24 hi0 hzs g 0 i c (by simp [Act.eval, Act.put]) A (n - (i + 1)) (c - (i + 1)) cs (by simp [Act.eval, Act.put]) s1.out hsrc.out s2.out (by omega) s3.out ?_; rw [← hW.out])
  go_wp2
  go_ret
  have e1 : i + (n - (i + 1)) = n - 1 := by omega
  have e2 : n - (n - 1) = 1 := by omega
  refine ⟨by rw [← e1]; rfl, ?_⟩
  rw [hW.out, HCS.out, Nat.zero_add, Nat.mul_one, e1, e2]
  rfl
set_option maxHeartbeats 4000000 in
open Go.Proofs.Ytacdlipojhoilaa.Live Go.Lib in
theorem slices_Delete_int_int_151.owns (base i n : Nat) (v : Value) (inner : List Value) (w : World) (hown : w.ownsRow base 3 1 v n inner) (hi : i < n) (h1c : ∀ x ∈ inner, x.oneCell' = true) :
    Calls Try.prog 151 #[v, .int .i64 (i : Int), .int .i64 ((i + 1 : Nat) : Int)] w fun e w' =>
      ∃ v', e = .returned v' ∧ w'.ownsRow base 3 1 v' (n - 1) (inner.eraseIdx i) ∧ w.grownBy w' v.ownBlock ∧ v'.ownBlock = v.ownBlock := by
  rcases hown.2 with ⟨rfl, rfl⟩ | ⟨g, cap, cur, rfl, h2, h3, h4, h5, h6, h7⟩
  · omega
  · rw [Nat.mul_one] at h6 h7
    have h5' : cap ≤ 9223372036854775807 := by unfold maxLen at h5; omega
    have hlen : inner.length = n := by simpa using hown.1
    refine (slices_Delete_int_int_151.shift g n cap i cur w hi h4 h5' h3 h6 (by rw [h7]; exact h1c)).mono ?_
    rintro e w' ⟨rfl, rfl⟩
    have g1 := grown_setCells g ((cur.toList.take n).drop (i + 1)) i w.drew
    have g2 := grown_setCells g [.int .i64 0] (n - 1) (w.drew.setCells g i ((cur.toList.take n).drop (i + 1)))
    have hl1 : ((cur.toList.take n).drop (i + 1)).length = n - (i + 1) := by rw [List.length_drop, List.length_take, Array.length_toList]; omega
    refine ⟨_, rfl, ⟨by rw [List.length_eraseIdx]; split <;> omega, .inr ⟨g, cap, setL (setL cur i ((cur.toList.take n).drop (i + 1))) (n - 1) [.int .i64 0], rfl, h2, heap_setCells _ _ _ _ _ (heap_setCells _ _ _ w.drew _ h3), by omega, h5, by rw [setL_size, setL_size, Nat.mul_one]; exact h6, ?_⟩⟩, ?_, rfl⟩
    · have hsz : (setL cur i ((cur.toList.take n).drop (i + 1))).toList.length = cap := by rw [Array.length_toList, setL_size]; exact h6
      rw [Nat.mul_one, setL_list _ _ _ (by rw [setL_size]; simp only [List.length_cons, List.length_nil]; omega), List.append_assoc, List.take_append_of_le_length (by rw [List.length_take, hsz]; omega), List.take_take, Nat.min_self,
        setL_list _ _ _ (by rw [hl1]; omega)]
      rw [List.take_append_of_le_length (by rw [List.length_append, List.length_take, Array.length_toList, hl1]; omega), List.take_of_length_le (by rw [List.length_append, List.length_take, Array.length_toList, hl1]; omega)]
      rw [List.eraseIdx_eq_take_drop_succ, ← h7, List.take_take, Nat.min_eq_left (by omega)]
    · exact ⟨g2.1.os.trans g1.1.os, g2.1.tape.trans g1.1.tape, g2.1.output.trans g1.1.output, Nat.le_of_eq (g2.2.trans g1.2).symm, fun k hk hk2 => (g2.1.block k (by rw [g1.2]; exact hk) hk2).trans (g1.1.block k hk hk2)⟩


end Go.Proofs.Ytacdlipojhoilaa.Ux
