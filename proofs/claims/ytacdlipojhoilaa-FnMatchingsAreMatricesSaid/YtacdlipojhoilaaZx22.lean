-- Written by hook.py, a program of this session (wip/), which runs the kit's print.py with its own parts; Lean checks it.
import Derived.Test.YtacdlipojhoilaaZx0
import Derived.Test.YtacdlipojhoilaaZx2
import Derived.Test.YtacdlipojhoilaaZx19
import Derived.Test.YtacdlipojhoilaaZx21
import Derived.Test.YtacdlipojhoilaaZxXSq
namespace Go.Proofs.Ytacdlipojhoilaa.Zx
open Go.RowKit Go.Proofs.YtacdlipojhoilaaW.PrintWords Go.Proofs.YtacdlipojhoilaaW.PrintLast Go.Proofs.YtacdlipojhoilaaW.PrintMore Go.Proofs.Ytacdlipojhoilaa.Sq
attribute [local go_sem] max2_int min2_int max_two min_two max_three min_three max_four min_four   -- for this text's walks alone
set_option linter.unusedVariables false
set_option linter.unusedSimpArgs false

def spec_MatchingOfMatrix.f (k : Nat) (l0_0 : List (List Int)) : Option (List Int × Bool) := (spec_maGood.f k l0_0).bind fun t483 => (if t483 = true then ((spec_stOf.f k l0_0).bind fun t484 => (some (t484, true))) else (some (([] : List Int), false)))
theorem spec_MatchingOfMatrix.mono : ∀ a0 k, LeO (spec_MatchingOfMatrix.f k a0) (spec_MatchingOfMatrix.f (k + 1) a0) := by
 intro a0 k
 unfold spec_MatchingOfMatrix.f
 repeat' first | with_reducible first | exact spec_maGood.mono _ _ | exact spec_stOf.mono _ _ | exact LeO.refl _ | exact LeO.none _ | refine LeO.ite ?_ ?_ | refine LeO.bind ?_ (fun _ => ?_)
set_option maxHeartbeats 8000000 in
set_option maxRecDepth 100000 in
theorem spec_MatchingOfMatrix.calls (k : Nat) (A0_0 : Option Addr) (c0_0 : Nat) (l0_0 : List (List Int)) (r1 : List Int) (r2 : Bool) (w : World) (hr0_0 : Kd.C (Kd.slice 3 (Kd.int .i64)) w A0_0 l0_0.length l0_0) (hc0_0 : l0_0.length ≤ c0_0) (h : spec_MatchingOfMatrix.f k l0_0 = some (r1, r2)) :
  Calls Try.prog 42 #[.agg #[.slice A0_0 l0_0.length c0_0]] w fun e w' => ∃ v0_ : Value, e = .returned (.tuple #[v0_, .bool r2]) ∧ Kd.R (Kd.int .i64) 3 w' w.heap.size (fun _ => True) v0_ r1 ∧ Below w.heap.size w w' := by
 have hu36 := Try.underlying36
 have HR0_0 := aM hr0_0
 have HC0_0 := aM hc0_0
 clear hr0_0 hc0_0
 have HB := aM (Below.refl w.heap.size w)
 have H : ((spec_maGood.f k l0_0).bind fun t483 => (if t483 = true then ((spec_stOf.f k l0_0).bind fun t484 => (some (t484, true))) else (some (([] : List Int), false)))) = some (r1, r2) := h
 clear h
 replace H := Option.bind_eq_some_iff.mp H
 obtain ⟨t483, A20, H⟩ := H
 replace H : (if t483 = true then ((spec_stOf.f k l0_0).bind fun t484 => (some (t484, true))) else (some (([] : List Int), false))) = some (r1, r2) := H
 have A2 := aM A20
 clear A20
 by_cases c3 : t483 = true
 ·subst c3
  have H1 : ((spec_stOf.f k l0_0).bind fun t484 => (some (t484, true))) = some (r1, r2) := by rw [if_pos rfl] at H; exact H
  clear H
  have H := H1
  clear H1
  replace H := Option.bind_eq_some_iff.mp H
  obtain ⟨t484, A40, H⟩ := H
  replace H : (some (t484, true)) = some (r1, r2) := H
  have A4 := aM A40
  clear A40
  simp only [Option.some.injEq, Prod.mk.injEq] at H
  obtain ⟨rfl, rfl⟩ := H
  go_enter Try.func42, Try.ntmps42
  go_wp2_with (first | ((with_reducible refine gate_dst (N := 1) rfl ?_); refine bE 1 36 #[.slice A0_0 l0_0.length c0_0] ?_; intro gb482 hg w5 hbox hb; have _ := aM (below_step bq hb); have _ := aM (hbox); have _ := aM ((gS hg)); have _ := aM ((gS hg)); clear HB; rename_i HB BK482 GW482 GE482; clear hb hbox hg; have hcz6_0 : w5.cell? ⟨gb482, 0, none⟩ = some (.slice A0_0 l0_0.length c0_0) := (blk_cell BK482.out 0).trans rfl; have hfz6_0 := blk_frozen BK482.out 0) | ((with_reducible refine gate_callee (f := 99) rfl ?_); refine gL (some 5) Try.func99 #[.agg #[.slice A0_0 l0_0.length c0_0]] ?_; (with_reducible refine (spec_maGood.calls k _ _ l0_0 true _ (cQ (Kd.C_below HR0_0.out HB.out)) HC0_0.out A2.out).mono ?_); rintro e w7 ⟨rfl, hb⟩; refine ⟨_, rfl, ?_⟩; have _ := aM (blk_below (g := gb482) (o := .cells #[.slice A0_0 l0_0.length c0_0] 36 (0, 0)) (qQ BK482) hb); have _ := aM (below_step bq hb); clear BK482 HB; rename_i BK482 HB; (try clear hb); (try clear hb2); (try clear hk); (try clear hi); have hcz8_0 : w7.cell? ⟨gb482, 0, none⟩ = some (.slice A0_0 l0_0.length c0_0) := (blk_cell BK482.out 0).trans rfl; have hfz8_0 := blk_frozen BK482.out 0) | ((with_reducible refine gate_callee (f := 81) rfl ?_); refine gL (some 8) Try.func81 #[.agg #[.slice A0_0 l0_0.length c0_0]] ?_; (with_reducible refine (spec_stOf.calls k _ _ l0_0 t484 _ (cQ (Kd.C_below HR0_0.out HB.out)) HC0_0.out A4.out).mono ?_); rintro e w9 ⟨v485, rfl, ho0, hb⟩; refine ⟨_, rfl, ?_⟩; have _ := aM (Kd.R_lower ho0 (below_size bq)); have _ := aM (blk_below (g := gb482) (o := .cells #[.slice A0_0 l0_0.length c0_0] 36 (0, 0)) (qQ BK482) hb); have _ := aM (below_step bq hb); clear BK482 HB; rename_i HO486 BK482 HB; (try clear hb); (try clear hb2); (try clear hk); (try clear hi); (try clear ho0)))
  go_ret2
  exact ⟨_, by first | rfl | (simp [errW_none, errW_some] <;> rfl) | (simp [*, errW_none, errW_some] <;> rfl), by (with_reducible repeat first|apply rA|apply rN|apply rD); exact HO486.out, by exact bq⟩
 ·replace c3 := Bool.eq_false_iff.mpr c3
  subst c3
  have H1 : (some (([] : List Int), false)) = some (r1, r2) := by rw [if_neg (show ¬ (false = true) by decide)] at H; exact H
  clear H
  have H := H1
  clear H1
  simp only [Option.some.injEq, Prod.mk.injEq] at H
  obtain ⟨rfl, rfl⟩ := H
  go_enter Try.func42, Try.ntmps42
  go_wp2_with (first | ((with_reducible refine gate_dst (N := 1) rfl ?_); refine bE 1 36 #[.slice A0_0 l0_0.length c0_0] ?_; intro gb482 hg w10 hbox hb; have _ := aM (below_step bq hb); have _ := aM (hbox); have _ := aM ((gS hg)); have _ := aM ((gS hg)); clear HB; rename_i HB BK482 GW482 GE482; clear hb hbox hg; have hcz11_0 : w10.cell? ⟨gb482, 0, none⟩ = some (.slice A0_0 l0_0.length c0_0) := (blk_cell BK482.out 0).trans rfl; have hfz11_0 := blk_frozen BK482.out 0) | ((with_reducible refine gate_callee (f := 99) rfl ?_); refine gL (some 5) Try.func99 #[.agg #[.slice A0_0 l0_0.length c0_0]] ?_; (with_reducible refine (spec_maGood.calls k _ _ l0_0 false _ (cQ (Kd.C_below HR0_0.out HB.out)) HC0_0.out A2.out).mono ?_); rintro e w12 ⟨rfl, hb⟩; refine ⟨_, rfl, ?_⟩; have _ := aM (blk_below (g := gb482) (o := .cells #[.slice A0_0 l0_0.length c0_0] 36 (0, 0)) (qQ BK482) hb); have _ := aM (below_step bq hb); clear BK482 HB; rename_i BK482 HB; (try clear hb); (try clear hb2); (try clear hk); (try clear hi)))
  go_ret2
  exact ⟨_, by first | rfl | (simp [errW_none, errW_some] <;> rfl) | (simp [*, errW_none, errW_some] <;> rfl), by first | exact Kd.R_nil _ _ _ _ _ | exact Kd.N_nil _ _ _ _ _ | exact Kd.V_nil _ _ _ _ _ | exact Kd.Q_nil _ _ _ _ _ | exact Kd.S_nil _ _ _ _ _, by exact bq⟩

def impl_RunsOf.l0 : Nat → List Int → List Int → Int → Int → Option (List Int × Bool)
 | 0, _, _, _, _ => none
 | k + 1, x0, x4, x11, x12 => if x12 < x11 then (if x12 > 0 then ((impl_isOpener.f x0 x12).bind fun t491 => ((impl_isOpener.f x0 (wrap64 (x12 - 1))).bind fun t492 => (if (t491 == t492) = true then (if 0 ≤ (wrap64 ((x4.length : Int) - 1)) then (if (wrap64 ((x4.length : Int) - 1)) < (x4.length : Int) then (impl_RunsOf.l0 k x0 (x4.set ((wrap64 ((x4.length : Int) - 1)) : Int).toNat (wrap64 ((rd x4 (wrap64 ((x4.length : Int) - 1))) + 1))) x11 (wrap64 (x12 + 1))) else (none)) else (none)) else (if x4.length < 17592186044416 then (impl_RunsOf.l0 k x0 (x4 ++ [1]) x11 (wrap64 (x12 + 1))) else (none))))) else (if x4.length < 17592186044416 then (impl_RunsOf.l0 k x0 (x4 ++ [1]) x11 (wrap64 (x12 + 1))) else (none))) else (some (x4, true))
def impl_RunsOf.f (k : Nat) (l0 : List Int) : Option (List Int × Bool) := (impl_IsMatching.f k l0).bind fun t487 => (if t487 = true then (impl_RunsOf.l0 k l0 (([] : List Int)) (l0.length : Int) 0) else (some (([] : List Int), false)))
theorem impl_RunsOf.mono_l : ∀ k, (∀ y0 y1 y2 y3, LeO (impl_RunsOf.l0 k y0 y1 y2 y3) (impl_RunsOf.l0 (k + 1) y0 y1 y2 y3))
 | 0 => fun _ _ _ _ r h => by simp [impl_RunsOf.l0] at h
 | k + 1 => by
  have ih0 := impl_RunsOf.mono_l k
  ·intro y0 y1 y2 y3
   unfold impl_RunsOf.l0
   repeat' first | with_reducible first | exact ih0 _ _ _ _ | exact impl_IsMatching.mono _ _ | exact LeO.refl _ | exact LeO.none _ | refine LeO.ite ?_ ?_ | refine LeO.bind ?_ (fun _ => ?_)
theorem impl_RunsOf.mono : ∀ a0 k, LeO (impl_RunsOf.f k a0) (impl_RunsOf.f (k + 1) a0) := by
 intro a0 k
 have ih0 := impl_RunsOf.mono_l k
 unfold impl_RunsOf.f
 repeat' first | with_reducible first | exact ih0 _ _ _ _ | exact impl_IsMatching.mono _ _ | exact LeO.refl _ | exact LeO.none _ | refine LeO.ite ?_ ?_ | refine LeO.bind ?_ (fun _ => ?_)
set_option maxHeartbeats 8000000 in
set_option maxRecDepth 100000 in
theorem impl_RunsOf.calls (k : Nat) (A0 : Option Addr) (c0 : Nat) (l0 : List Int) (r1 : List Int) (r2 : Bool) (w : World) (hr0 : Kd.C (Kd.int .i64) w A0 l0.length l0) (hc0 : l0.length ≤ c0) (h : impl_RunsOf.f k l0 = some (r1, r2)) :
  Calls Try.prog 43 #[.slice A0 l0.length c0] w fun e w' => ∃ v0_ : Value, e = .returned (.tuple #[v0_, .bool r2]) ∧ Kd.R (Kd.int .i64) 3 w' w.heap.size (fun _ => True) v0_ r1 ∧ Below w.heap.size w w' := by
 have HR0 := aM hr0
 have HC0 := aM hc0
 clear hr0 hc0
 have HB := aM (Below.refl w.heap.size w)
 have H : ((impl_IsMatching.f k l0).bind fun t487 => (if t487 = true then (impl_RunsOf.l0 k l0 (([] : List Int)) (l0.length : Int) 0) else (some (([] : List Int), false)))) = some (r1, r2) := h
 clear h
 replace H := Option.bind_eq_some_iff.mp H
 obtain ⟨t487, A20, H⟩ := H
 replace H : (if t487 = true then (impl_RunsOf.l0 k l0 (([] : List Int)) (l0.length : Int) 0) else (some (([] : List Int), false))) = some (r1, r2) := H
 have A2 := aM A20
 clear A20
 by_cases c3 : t487 = true
 ·subst c3
  have H1 : (impl_RunsOf.l0 k l0 (([] : List Int)) (l0.length : Int) 0) = some (r1, r2) := by rw [if_pos rfl] at H; exact H
  clear H
  have H := H1
  clear H1
  obtain ⟨y488, hy488⟩ : ∃ y_ : List Int, y_ = (([] : List Int)) := ⟨_, rfl⟩
  replace H : (impl_RunsOf.l0 k l0 y488 (l0.length : Int) 0) = some (r1, r2) := by first | (rw [hy488]; with_reducible exact H) | (have H2_ := (Option.bind_some _ _).symm.trans H; rw [hy488]; with_reducible exact H2_) | (have H2_ := (Option.bind_some _ _).symm.trans H; with_reducible exact H2_) | with_reducible exact H | (rw [hy488]; exact H) | exact H
  have Ny488 := aM hy488
  clear hy488
  have H' := aM H
  clear H
  go_enter Try.func43, Try.ntmps43
  go_wp2_with (first | ((with_reducible refine gate_callee (f := 15) rfl ?_); refine gL (some 7) Try.func15 #[.slice A0 l0.length c0] ?_; (with_reducible refine (impl_IsMatching.calls k _ _ l0 true _ (cQ HR0.out) HC0.out A2.out).mono ?_); rintro e w' ⟨rfl, ⟨nd, rfl⟩⟩; refine ⟨_, rfl, ?_⟩) | ((with_reducible refine gate_dst (N := 9) rfl ?_); refine Kd.R_lit (Kd.int .i64) _ 3 ?hg (N := 9) ?hd (xs := ([] : List Int)) (inner := []) (ok := fun _ => True) (okp := fun _ => True) ?hr ?hp (fun _ hk => hk) trivial (Below.refl _ _) (Nat.le_refl _) (by simp) ?_; (case hd => rfl); (case hg => rfl); (case hr => first | (go_simp; done) | (go_simp; rfl)); (case hp => exact (Reps.none _ _)); intro v489 w4 ho5 hb hg_ hnew_; clear hg_ hnew_; (first | rw [← Ny488.out] at ho5 | (simp only [Int.reduceToNat] at ho5; rw [← Ny488.out] at ho5)); have _ := aM (Kd.R_lower ho5 (below_size bq)); have _ := aM (below_step bq hb); clear HB; rename_i HO490 HB; clear hb ho5))
  go_loopg [4, 12] k (fun kq v4 v12 w' => ∃ (x4_1 : List Int) (x12_1 : Int), v12 = .int .i64 x12_1 ∧ Aside0 (impl_RunsOf.l0 kq l0 x4_1 (l0.length : Int) x12_1 = some (r1, r2)) ∧ Aside0 (kq ≤ k) ∧ Aside0 (Kd.R (Kd.int .i64) 3 w' w.heap.size (fun _ => True) v4 x4_1) ∧ Aside0 (Below w.heap.size w w'))
  case atStart => exact ⟨(y488), (0), (by first | rfl | (simp; done) | (simp [*]; done)), H', ⟨Nat.le_refl _⟩, ⟨by (with_reducible repeat first|apply rA|apply rN|apply rD); exact HO490.out⟩, ⟨by exact bq⟩⟩
  case round =>
   clear H'
   try clear c1
   try clear p2
   try clear c3
   try clear c4
   obtain ⟨x4_1, x12_1, rfl, HA, HK1, HO_4, HB⟩ := hrel
   cases gk with
   | zero => exact absurd HA.out (by simp [impl_RunsOf.l0])
   | succ k1 =>
    have H := HA.out
    clear HA
    simp only [impl_RunsOf.l0] at H
    by_cases c6 : x12_1 < (l0.length : Int)
    ·rw [if_pos c6] at H
     have c6b0 : decide (x12_1 < (l0.length : Int)) = true := decide_eq_true c6
     clear c6
     by_cases c7 : x12_1 > 0
     ·rw [if_pos c7] at H
      have c7b0 : decide (0 < x12_1) = true := decide_eq_true c7
      clear c7
      replace H := Option.bind_eq_some_iff.mp H
      obtain ⟨t491, A80, H⟩ := H
      replace H : ((impl_isOpener.f l0 (wrap64 (x12_1 - 1))).bind fun t492 => (if (t491 == t492) = true then (if 0 ≤ (wrap64 ((x4_1.length : Int) - 1)) then (if (wrap64 ((x4_1.length : Int) - 1)) < (x4_1.length : Int) then (impl_RunsOf.l0 k1 l0 (x4_1.set ((wrap64 ((x4_1.length : Int) - 1)) : Int).toNat (wrap64 ((rd x4_1 (wrap64 ((x4_1.length : Int) - 1))) + 1))) (l0.length : Int) (wrap64 (x12_1 + 1))) else (none)) else (none)) else (if x4_1.length < 17592186044416 then (impl_RunsOf.l0 k1 l0 (x4_1 ++ [1]) (l0.length : Int) (wrap64 (x12_1 + 1))) else (none)))) = some (r1, r2) := H
      have A8 := aM A80
      clear A80
      replace H := Option.bind_eq_some_iff.mp H
      obtain ⟨t492, A90, H⟩ := H
      replace H : (if (t491 == t492) = true then (if 0 ≤ (wrap64 ((x4_1.length : Int) - 1)) then (if (wrap64 ((x4_1.length : Int) - 1)) < (x4_1.length : Int) then (impl_RunsOf.l0 k1 l0 (x4_1.set ((wrap64 ((x4_1.length : Int) - 1)) : Int).toNat (wrap64 ((rd x4_1 (wrap64 ((x4_1.length : Int) - 1))) + 1))) (l0.length : Int) (wrap64 (x12_1 + 1))) else (none)) else (none)) else (if x4_1.length < 17592186044416 then (impl_RunsOf.l0 k1 l0 (x4_1 ++ [1]) (l0.length : Int) (wrap64 (x12_1 + 1))) else (none))) = some (r1, r2) := H
      have A9 := aM A90
      clear A90
      by_cases c10 : (t491 == t492) = true
      ·rw [if_pos c10] at H
       have c10b0 : (t491 == t492) = true := c10
       (try (have c10b1 : decide (t491 = t492) = true := by simpa using c10))
       (try (have c10b2 : (t491 == t492) = true := by simpa using c10))
       clear c10
       obtain ⟨ji11, hji11⟩ : ∃ j_ : Int, (wrap64 ((x4_1.length : Int) - 1)) = j_ := ⟨_, rfl⟩
       replace H : (if 0 ≤ (ji11) then (if (ji11) < (x4_1.length : Int) then (impl_RunsOf.l0 k1 l0 (x4_1.set ((ji11) : Int).toNat (wrap64 ((rd x4_1 (ji11)) + 1))) (l0.length : Int) (wrap64 (x12_1 + 1))) else (none)) else (none)) = some (r1, r2) := by first | (rw [hji11] at H; exact H) | (simp only [hji11] at H ⊢; exact H)
       (try rw [hji11] at A8)
       (try rw [hji11] at A9)
       have hji11w : (IntKind.i64.wrap ((x4_1.length : Int) - 1)) = ji11 := (i64_w _).trans hji11
       by_cases c12 : 0 ≤ (ji11)
       ·rw [if_pos c12] at H
        have c12b0 : decide (0 ≤ (ji11)) = true := decide_eq_true c12
        clear c12
        by_cases c13 : (ji11) < (x4_1.length : Int)
        ·rw [if_pos c13] at H
         have c13b0 : decide ((ji11) < (x4_1.length : Int)) = true := decide_eq_true c13
         clear c13
         obtain ⟨y494, hy494⟩ : ∃ y_ : List Int, y_ = (x4_1.set ((ji11) : Int).toNat (wrap64 ((rd x4_1 (ji11)) + 1))) := ⟨_, rfl⟩
         replace H : (impl_RunsOf.l0 k1 l0 y494 (l0.length : Int) (wrap64 (x12_1 + 1))) = some (r1, r2) := by first | (rw [hy494]; with_reducible exact H) | (have H2_ := (Option.bind_some _ _).symm.trans H; rw [hy494]; with_reducible exact H2_) | (have H2_ := (Option.bind_some _ _).symm.trans H; with_reducible exact H2_) | with_reducible exact H | (rw [hy494]; exact H) | exact H
         have Ny494 := aM hy494
         clear hy494
         have H' := aM H
         clear H
         go_wp2_with (first | (go_at_call 100; (with_reducible refine (impl_isOpener.calls _ _ l0 x12_1 t491 _ (cQ (Kd.C_below HR0.out HB.out)) HC0.out A8.out).mono ?_); rintro e w' ⟨rfl, ⟨nd, rfl⟩⟩; (try (rw [drewN_self wr]; generalize hq_ : World.drewN wr _ = wr; have _ : Aside0 (Kd.R (Kd.int .i64) 3 wr w.heap.size (fun _ => True) u4 x4_1) := ⟨by rw [← hq_]; exact (rQ HO_4)⟩; have _ : Aside0 (Below w.heap.size w wr) := ⟨by rw [← hq_]; exact bq⟩; clear HO_4 HB hq_; rename_i HO_4 HB))) | (go_at_call 100; (with_reducible refine (impl_isOpener.calls _ _ l0 (wrap64 (x12_1 - 1)) t492 _ (cQ (Kd.C_below HR0.out HB.out)) HC0.out A9.out).mono ?_); rintro e w' ⟨rfl, ⟨nd, rfl⟩⟩; (try (rw [drewN_self wr]; generalize hq_ : World.drewN wr _ = wr; have _ : Aside0 (Kd.R (Kd.int .i64) 3 wr w.heap.size (fun _ => True) u4 x4_1) := ⟨by rw [← hq_]; exact (rQ HO_4)⟩; have _ : Aside0 (Below w.heap.size w wr) := ⟨by rw [← hq_]; exact bq⟩; clear HO_4 HB hq_; rename_i HO_4 HB)); obtain ⟨Ao15, co15, eo15⟩ := Kd.R_slice HO_4.out; subst eo15; have p493 : 0 ≤ ((ji11) : Int) := odt; have q493 : (ji11) < (x4_1.length : Int) := odt; obtain ⟨ad493, e493, hx493_0⟩ := Kd.at_int (Kd.R_reads' HO_4.out).2.2 (ji11) p493 q493; cases e493; replace p493 := eq_true p493; replace q493 := eq_true q493; have p14 : 0 ≤ ((ji11) : Int) := odt; have q14 : ((ji11) : Int) < ((x4_1.length : Int) : Int) := odt; obtain ⟨go14, co14, eo14, gb14, gl14, cl14, HG14⟩ := Kd.R_form HO_4.out (by omega); (first | cases eo14 | (injection eo14 with ea_ en_ ec_; (first | subst ea_ | (injection ea_ with ea_; subst ea_)); subst ec_; clear en_)); have GB14 := aM gb14; have GG14 := aM HG14; clear gb14 gl14 HG14; (first | simp only [add_plain] at hx493_0 | skip); obtain ⟨hx14_0, hf14_0⟩ := Kd.R_celln 0 HO_4.out ((ji11) : Int) p14 q14; replace p14 := eq_true p14; replace q14 := eq_true q14; obtain ⟨hy16_, hz16_⟩ := Kd.R_celln 0 HO_4.out ((ji11) : Int) (odt) (odt); have HP16 := Kd.R_putg HO_4.out ((ji11) : Int) (wrap64 ((rd x4_1 (ji11)) + 1))) | ((with_reducible refine gate_store (t := 3) (p := 34) rfl ?_); refine sE (wr.setCell ⟨go14, ((ji11) : Int).toNat, none⟩ (.int .i64 (wrap64 ((rd x4_1 (ji11)) + 1)))) 3 34 ?_; intro w17 hw; have hg : wr.grownBy w17 (some go14) := (by rw [hw]; exact HP16.2); have hp_ : Kd.R (Kd.int .i64) 3 w17 w.heap.size (fun _ => True) (.slice (some ⟨go14, 0, none⟩) x4_1.length co15) y494 := (by rw [hw, Ny494.out]; exact HP16.1); clear HP16; have _ := aM (hp_); have _ := aM ((by rw [hw]; exact below_set (HB.out) GB14.out : Below w.heap.size w w17)); clear HO_4 HB; rename_i HO_4 HB; clear hg hw hp_))
         go_roundg k1
         case measure => have := HK1.out; omega
         case rel => exact ⟨(y494), (wrap64 (x12_1 + 1)), (by first | rfl | (simp; done) | (simp [*]; done)), H', ⟨by have := HK1.out; omega⟩, ⟨by (with_reducible repeat first|apply rA|apply rN|apply rD); exact HO_4.out⟩, ⟨by exact bq⟩⟩
        ·rw [if_neg c13] at H
         exact absurd H (by simp)
       ·rw [if_neg c12] at H
        exact absurd H (by simp)
      ·rw [if_neg c10] at H
       have c10b0 : (t491 == t492) = false := by simpa using c10
       (try (have c10b1 : decide (t491 = t492) = false := by simpa using c10))
       (try (have c10b2 : (t491 == t492) = false := by simpa using c10))
       (try (have c10b3 : ¬ (t491 = t492) := by simpa using c10))
       clear c10
       by_cases c18 : x4_1.length < 17592186044416
       ·rw [if_pos c18] at H
        have LMc18 := aM c18
        clear c18
        obtain ⟨y495, hy495⟩ : ∃ y_ : List Int, y_ = (x4_1 ++ [1]) := ⟨_, rfl⟩
        replace H : (impl_RunsOf.l0 k1 l0 y495 (l0.length : Int) (wrap64 (x12_1 + 1))) = some (r1, r2) := by first | (rw [hy495]; with_reducible exact H) | (have H2_ := (Option.bind_some _ _).symm.trans H; rw [hy495]; with_reducible exact H2_) | (have H2_ := (Option.bind_some _ _).symm.trans H; with_reducible exact H2_) | with_reducible exact H | (rw [hy495]; exact H) | exact H
        have Ny495 := aM hy495
        clear hy495
        have H' := aM H
        clear H
        go_wp2_with (first | (go_at_call 100; (with_reducible refine (impl_isOpener.calls _ _ l0 x12_1 t491 _ (cQ (Kd.C_below HR0.out HB.out)) HC0.out A8.out).mono ?_); rintro e w' ⟨rfl, ⟨nd, rfl⟩⟩) | (go_at_call 100; (with_reducible refine (impl_isOpener.calls _ _ l0 (wrap64 (x12_1 - 1)) t492 _ (cQ (Kd.C_below HR0.out bq)) HC0.out A9.out).mono ?_); rintro e w' ⟨rfl, ⟨nd, rfl⟩⟩) | ((with_reducible refine gate_builtin (b := .append) (xs := #[.tmp 35, .tmp 36]) rfl ?_); at_builtin; refine Kd.R_append (Kd.int .i64) (w0 := w) w.heap.size rfl (.tmp 35) (.tmp 36) 24 3 (.int .i64 0) 8 rfl Try.underlying24 info3 rfl (by decide) (by omega) u4 x4_1 1 [.int .i64 1] (fun _ => True) (fun _ => False) rfl rfl ?aP (fun _ hk => hk.elim) ?aF ?aO ?aB ?aS ?aL ?_; (case aP => exact rfl); (case aB => exact bq); (case aF => exact (fun _ _ => trivial)); (case aO => exact (rQ HO_4)); (case aS => exact (below_size bq)); (case aL => have := LMc18.out; omega); intro v496 w19 ho hb hg hat; rw [← Ny495.out] at ho; have _ := aM (hb); have _ := aM (ho); clear HB HO_4; rename_i HB HO497; clear ho hb hg hat))
        go_roundg k1
        case measure => have := HK1.out; omega
        case rel => exact ⟨(y495), (wrap64 (x12_1 + 1)), (by first | rfl | (simp; done) | (simp [*]; done)), H', ⟨by have := HK1.out; omega⟩, ⟨by (with_reducible repeat first|apply rA|apply rN|apply rD); exact HO497.out⟩, ⟨by exact bq⟩⟩
       ·rw [if_neg c18] at H
        exact absurd H (by simp)
     ·rw [if_neg c7] at H
      have c7b0 : decide (0 < x12_1) = false := decide_eq_false c7
      clear c7
      by_cases c20 : x4_1.length < 17592186044416
      ·rw [if_pos c20] at H
       have LMc20 := aM c20
       clear c20
       obtain ⟨y498, hy498⟩ : ∃ y_ : List Int, y_ = (x4_1 ++ [1]) := ⟨_, rfl⟩
       replace H : (impl_RunsOf.l0 k1 l0 y498 (l0.length : Int) (wrap64 (x12_1 + 1))) = some (r1, r2) := by first | (rw [hy498]; with_reducible exact H) | (have H2_ := (Option.bind_some _ _).symm.trans H; rw [hy498]; with_reducible exact H2_) | (have H2_ := (Option.bind_some _ _).symm.trans H; with_reducible exact H2_) | with_reducible exact H | (rw [hy498]; exact H) | exact H
       have Ny498 := aM hy498
       clear hy498
       have H' := aM H
       clear H
       go_wp2_with (first | ((with_reducible refine gate_builtin (b := .append) (xs := #[.tmp 35, .tmp 36]) rfl ?_); at_builtin; refine Kd.R_append (Kd.int .i64) (w0 := w) w.heap.size rfl (.tmp 35) (.tmp 36) 24 3 (.int .i64 0) 8 rfl Try.underlying24 info3 rfl (by decide) (by omega) u4 x4_1 1 [.int .i64 1] (fun _ => True) (fun _ => False) rfl rfl ?aP (fun _ hk => hk.elim) ?aF ?aO ?aB ?aS ?aL ?_; (case aP => exact rfl); (case aB => exact bq); (case aF => exact (fun _ _ => trivial)); (case aO => exact (rQ HO_4)); (case aS => exact (below_size bq)); (case aL => have := LMc20.out; omega); intro v499 w21 ho hb hg hat; rw [← Ny498.out] at ho; have _ := aM (hb); have _ := aM (ho); clear HB HO_4; rename_i HB HO500; clear ho hb hg hat))
       go_roundg k1
       case measure => have := HK1.out; omega
       case rel => exact ⟨(y498), (wrap64 (x12_1 + 1)), (by first | rfl | (simp; done) | (simp [*]; done)), H', ⟨by have := HK1.out; omega⟩, ⟨by (with_reducible repeat first|apply rA|apply rN|apply rD); exact HO500.out⟩, ⟨by exact bq⟩⟩
      ·rw [if_neg c20] at H
       exact absurd H (by simp)
    ·rw [if_neg c6] at H
     have c6b0 : decide (x12_1 < (l0.length : Int)) = false := decide_eq_false c6
     clear c6
     simp only [Option.some.injEq, Prod.mk.injEq] at H
     obtain ⟨rfl, rfl⟩ := H
     go_wp2
     go_ret2
     exact ⟨_, by first | rfl | (simp [errW_none, errW_some] <;> rfl) | (simp [*, errW_none, errW_some] <;> rfl), by (with_reducible repeat first|apply rA|apply rN|apply rD); exact HO_4.out, by exact bq⟩
 ·replace c3 := Bool.eq_false_iff.mpr c3
  subst c3
  have H1 : (some (([] : List Int), false)) = some (r1, r2) := by rw [if_neg (show ¬ (false = true) by decide)] at H; exact H
  clear H
  have H := H1
  clear H1
  simp only [Option.some.injEq, Prod.mk.injEq] at H
  obtain ⟨rfl, rfl⟩ := H
  go_enter Try.func43, Try.ntmps43
  go_wp2_with (first | ((with_reducible refine gate_callee (f := 15) rfl ?_); refine gL (some 7) Try.func15 #[.slice A0 l0.length c0] ?_; (with_reducible refine (impl_IsMatching.calls k _ _ l0 false _ (cQ HR0.out) HC0.out A2.out).mono ?_); rintro e w' ⟨rfl, ⟨nd, rfl⟩⟩; refine ⟨_, rfl, ?_⟩))
  go_ret2
  exact ⟨_, by first | rfl | (simp [errW_none, errW_some] <;> rfl) | (simp [*, errW_none, errW_some] <;> rfl), by first | exact Kd.R_nil _ _ _ _ _ | exact Kd.N_nil _ _ _ _ _ | exact Kd.V_nil _ _ _ _ _ | exact Kd.Q_nil _ _ _ _ _ | exact Kd.S_nil _ _ _ _ _, by exact bq⟩

end Go.Proofs.Ytacdlipojhoilaa.Zx
