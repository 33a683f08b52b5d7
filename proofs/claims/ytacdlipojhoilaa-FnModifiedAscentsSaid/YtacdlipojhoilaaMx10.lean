-- Written by hook.py, a program of this session (wip/), which runs the kit's print.py with its own parts; Lean checks it.
import Derived.Test.YtacdlipojhoilaaMx0
import Derived.Test.YtacdlipojhoilaaMx2
import Derived.Test.YtacdlipojhoilaaMx5
import Derived.Test.YtacdlipojhoilaaMx6
import Derived.Test.YtacdlipojhoilaaMx7
import Derived.Test.YtacdlipojhoilaaMx8
import Derived.Test.YtacdlipojhoilaaMx9
import Derived.Test.YtacdlipojhoilaaXSq
namespace Go.Proofs.Ytacdlipojhoilaa.Mx
open Go.RowKit Go.Proofs.YtacdlipojhoilaaW.PrintWords Go.Proofs.YtacdlipojhoilaaW.PrintLast Go.Proofs.YtacdlipojhoilaaW.PrintMore Go.Proofs.Ytacdlipojhoilaa.Sq
attribute [local go_sem] max2_int min2_int max_two min_two max_three min_three max_four min_four   -- for this text's walks alone
set_option linter.unusedVariables false
set_option linter.unusedSimpArgs false

/-! ### spec_UnmodifyAscent: function 57 -/
def spec_UnmodifyAscent.j0 : Nat → List Int → Bool → Option (List Int × Bool)
 | 0, _, _ => none
 | k + 1, x0, x12 => if x12 = true then (some (([] : List Int), false)) else ((spec_asUndo.f k x0).bind fun t235 => ((spec_asGood.f k t235).bind fun t238 => (if t238 = true then ((spec_asModify.f k t235).bind fun t239 => ((spec_l1Same.f k t239 x0).bind fun t242 => (if t242 = true then (some (t235, true)) else (some (([] : List Int), false))))) else (some (([] : List Int), false)))))
def spec_UnmodifyAscent.f (k : Nat) (l0 : List Int) : Option (List Int × Bool) := if (l0.length : Int) > 12 then (spec_UnmodifyAscent.j0 k l0 true) else ((spec_l1All.f k l0 0 12).bind fun t234 => (spec_UnmodifyAscent.j0 k l0 (!t234)))
theorem spec_UnmodifyAscent.mono_l : ∀ k, (∀ y0 y1, LeO (spec_UnmodifyAscent.j0 k y0 y1) (spec_UnmodifyAscent.j0 (k + 1) y0 y1))
 | 0 => fun _ _ r h => by simp [spec_UnmodifyAscent.j0] at h
 | k + 1 => by
  have ih0 := spec_UnmodifyAscent.mono_l k
  ·intro y0 y1
   unfold spec_UnmodifyAscent.j0
   repeat' first | with_reducible first | exact ih0 _ _ | exact spec_asGood.mono _ _ | exact spec_asModify.mono _ _ | exact spec_asUndo.mono _ _ | exact spec_l1All.mono _ _ _ _ | exact spec_l1Same.mono _ _ _ | exact LeO.refl _ | exact LeO.none _ | refine LeO.ite ?_ ?_ | refine LeO.bind ?_ (fun _ => ?_)
theorem spec_UnmodifyAscent.mono : ∀ a0 k, LeO (spec_UnmodifyAscent.f k a0) (spec_UnmodifyAscent.f (k + 1) a0) := by
 intro a0 k
 have ih0 := spec_UnmodifyAscent.mono_l k
 unfold spec_UnmodifyAscent.f
 repeat' first | with_reducible first | exact ih0 _ _ | exact spec_asGood.mono _ _ | exact spec_asModify.mono _ _ | exact spec_asUndo.mono _ _ | exact spec_l1All.mono _ _ _ _ | exact spec_l1Same.mono _ _ _ | exact LeO.refl _ | exact LeO.none _ | refine LeO.ite ?_ ?_ | refine LeO.bind ?_ (fun _ => ?_)
set_option maxHeartbeats 8000000 in
set_option maxRecDepth 100000 in
theorem spec_UnmodifyAscent.calls (k : Nat) (A0 : Option Addr) (c0 : Nat) (l0 : List Int) (r1 : List Int) (r2 : Bool) (w : World) (hr0 : Kd.C (Kd.int .i64) w A0 l0.length l0) (hc0 : l0.length ≤ c0) (h : spec_UnmodifyAscent.f k l0 = some (r1, r2)) :
  Calls Try.prog 57 #[.slice A0 l0.length c0] w fun e w' => ∃ v0_ : Value, e = .returned (.tuple #[v0_, .bool r2]) ∧ Kd.R (Kd.int .i64) 3 w' w.heap.size (fun _ => True) v0_ r1 ∧ Below w.heap.size w w' := by
 have HR0 := aM hr0
 have HC0 := aM hc0
 clear hr0 hc0
 have HB := aM (Below.refl w.heap.size w)
 have H : (if (l0.length : Int) > 12 then (spec_UnmodifyAscent.j0 k l0 true) else ((spec_l1All.f k l0 0 12).bind fun t234 => (spec_UnmodifyAscent.j0 k l0 (!t234)))) = some (r1, r2) := h
 clear h
 have HC2 := aM H
 clear H
 go_enter Try.func57, Try.ntmps57
 go_upto_region 1 with (fail)
 go_cut [12] (fun v12 wc => ∃ (kq : Nat) (x12_1 : Bool), v12 = .bool x12_1 ∧ Aside0 (spec_UnmodifyAscent.j0 kq l0 x12_1 = some (r1, r2)) ∧ Aside0 (kq ≤ k) ∧ Aside0 (Below w.heap.size w wc))
 case first =>
  have H := HC2.out
  clear HC2
  by_cases c3 : (l0.length : Int) > 12
  ·rw [if_pos c3] at H
   have c3b0 : decide (12 < (l0.length : Int)) = true := decide_eq_true c3
   have c3b1 : decide (12 < l0.length) = true := decide_eq_true (by omega)
   clear c3
   (first | rw [c3b0] | (simp only [i64_w, i32_w]; rw [c3b0]) | skip)
   have H' := aM H
   clear H
   go_wp2
   go_meet
   case rel => exact ⟨_, (true), (by first | rfl | (simp; done) | (simp [*]; done)), H', ⟨by first | omega | exact Nat.le_refl _⟩, ⟨by exact bq⟩⟩
  ·rw [if_neg c3] at H
   have c3b0 : decide (12 < (l0.length : Int)) = false := decide_eq_false c3
   have c3b1 : decide (12 < l0.length) = false := decide_eq_false (by omega)
   clear c3
   (first | rw [c3b0] | (simp only [i64_w, i32_w]; rw [c3b0]) | skip)
   replace H := Option.bind_eq_some_iff.mp H
   obtain ⟨t234, A40, H⟩ := H
   replace H : (spec_UnmodifyAscent.j0 k l0 (!t234)) = some (r1, r2) := H
   have A4 := aM A40
   clear A40
   have H' := aM H
   clear H
   go_wp2_with (first | (go_at_call 113; (with_reducible refine (spec_l1All.calls k _ _ l0 0 12 t234 _ (cQ (Kd.C_below HR0.out HB.out)) HC0.out A4.out).mono ?_); rintro e w' ⟨rfl, ⟨nd, rfl⟩⟩))
   go_meet
   case rel => exact ⟨_, (!t234), (by first | rfl | (simp; done) | (simp [*]; done)), H', ⟨by first | omega | exact Nat.le_refl _⟩, ⟨by exact bq⟩⟩
 case rest =>
  clear HC2
  try clear p2
  try clear c3
  try clear c3b0
  try clear c3b1
  obtain ⟨kq, x12_1, rfl, HA, HJ1, HB⟩ := hcut
  cases kq with
  | zero => exact absurd HA.out (by simp [spec_UnmodifyAscent.j0])
  | succ kj1 =>
   have H := HA.out
   clear HA
   simp only [spec_UnmodifyAscent.j0] at H
   by_cases c5 : x12_1 = true
   ·subst c5
    have H1 : (some (([] : List Int), false)) = some (r1, r2) := by rw [if_pos rfl] at H; exact H
    clear H
    have H := H1
    clear H1
    simp only [Option.some.injEq, Prod.mk.injEq] at H
    obtain ⟨rfl, rfl⟩ := H
    go_wp2
    go_ret2
    exact ⟨_, by first | rfl | (simp [errW_none, errW_some] <;> rfl) | (simp [*, errW_none, errW_some] <;> rfl), by first | exact Kd.R_nil _ _ _ _ _ | exact Kd.N_nil _ _ _ _ _ | exact Kd.V_nil _ _ _ _ _ | exact Kd.Q_nil _ _ _ _ _ | exact Kd.S_nil _ _ _ _ _, by exact bq⟩
   ·replace c5 := Bool.eq_false_iff.mpr c5
    subst c5
    have H1 : ((spec_asUndo.f kj1 l0).bind fun t235 => ((spec_asGood.f kj1 t235).bind fun t238 => (if t238 = true then ((spec_asModify.f kj1 t235).bind fun t239 => ((spec_l1Same.f kj1 t239 l0).bind fun t242 => (if t242 = true then (some (t235, true)) else (some (([] : List Int), false))))) else (some (([] : List Int), false))))) = some (r1, r2) := by rw [if_neg (show ¬ (false = true) by decide)] at H; exact H
    clear H
    have H := H1
    clear H1
    replace H := Option.bind_eq_some_iff.mp H
    obtain ⟨t235, A60, H⟩ := H
    replace H : ((spec_asGood.f kj1 t235).bind fun t238 => (if t238 = true then ((spec_asModify.f kj1 t235).bind fun t239 => ((spec_l1Same.f kj1 t239 l0).bind fun t242 => (if t242 = true then (some (t235, true)) else (some (([] : List Int), false))))) else (some (([] : List Int), false)))) = some (r1, r2) := H
    have A6 := aM A60
    clear A60
    replace H := Option.bind_eq_some_iff.mp H
    obtain ⟨t238, A70, H⟩ := H
    replace H : (if t238 = true then ((spec_asModify.f kj1 t235).bind fun t239 => ((spec_l1Same.f kj1 t239 l0).bind fun t242 => (if t242 = true then (some (t235, true)) else (some (([] : List Int), false))))) else (some (([] : List Int), false))) = some (r1, r2) := H
    have A7 := aM A70
    clear A70
    by_cases c8 : t238 = true
    ·subst c8
     have H1 : ((spec_asModify.f kj1 t235).bind fun t239 => ((spec_l1Same.f kj1 t239 l0).bind fun t242 => (if t242 = true then (some (t235, true)) else (some (([] : List Int), false))))) = some (r1, r2) := by rw [if_pos rfl] at H; exact H
     clear H
     have H := H1
     clear H1
     replace H := Option.bind_eq_some_iff.mp H
     obtain ⟨t239, A90, H⟩ := H
     replace H : ((spec_l1Same.f kj1 t239 l0).bind fun t242 => (if t242 = true then (some (t235, true)) else (some (([] : List Int), false)))) = some (r1, r2) := H
     have A9 := aM A90
     clear A90
     replace H := Option.bind_eq_some_iff.mp H
     obtain ⟨t242, A100, H⟩ := H
     replace H : (if t242 = true then (some (t235, true)) else (some (([] : List Int), false))) = some (r1, r2) := H
     have A10 := aM A100
     clear A100
     by_cases c11 : t242 = true
     ·subst c11
      have H1 : (some (t235, true)) = some (r1, r2) := by rw [if_pos rfl] at H; exact H
      clear H
      have H := H1
      clear H1
      simp only [Option.some.injEq, Prod.mk.injEq] at H
      obtain ⟨rfl, rfl⟩ := H
      go_wp2_with (first | ((with_reducible refine gate_callee (f := 114) rfl ?_); refine gL (some 14) Try.func114 #[.slice A0 l0.length c0] ?_; (with_reducible refine (spec_asUndo.calls kj1 _ _ l0 t235 _ (cQ (Kd.C_below HR0.out HB.out)) HC0.out A6.out).mono ?_); rintro e w12 ⟨v236, rfl, ho0, hb⟩; refine ⟨_, rfl, ?_⟩; have _ := aM (Kd.R_lower ho0 (below_size bq)); have _ := aM (below_step bq hb); clear HB; rename_i HO237 HB; (try clear hb); (try clear hb2); (try clear hk); (try clear hi); (try clear ho0); obtain ⟨Ao13, co13, eo13⟩ := Kd.R_slice HO237.out; subst eo13) | ((with_reducible refine gate_callee (f := 86) rfl ?_); refine gL (some 16) Try.func86 #[.slice Ao13 t235.length co13] ?_; (with_reducible refine (spec_asGood.calls kj1 _ _ t235 true _ (cQ ((Kd.R_reads' HO237.out).2.2)) ((Kd.R_reads' HO237.out).2.1) A7.out).mono ?_); rintro e w' ⟨rfl, ⟨nd, rfl⟩⟩; refine ⟨_, rfl, ?_⟩) | (go_at_call 111; (with_reducible refine (spec_asModify.calls kj1 _ _ t235 t239 _ (cQ ((Kd.R_reads' HO237.out).2.2)) ((Kd.R_reads' HO237.out).2.1) A9.out).mono ?_); rintro e w14 ⟨v240, rfl, ho0, hb⟩; have _ := aM (Kd.R_elder' (rQ HO237) (Kd.R_base ho0) hb); have _ := aM (Kd.R_lower (Kd.R_new' ho0 (Kd.R_lt (rQ HO237))) (below_size bq)); have _ := aM (below_step bq hb); clear HO237 HB; rename_i HO237 HO241 HB; (try clear hb); (try clear hb2); (try clear hk); (try clear hi); (try clear ho0); obtain ⟨Ao15, co15, eo15⟩ := Kd.R_slice HO241.out; subst eo15) | (go_at_call 115; (with_reducible refine (spec_l1Same.calls kj1 _ _ t239 _ _ l0 true _ (cQ ((Kd.R_reads' HO241.out).2.2)) ((Kd.R_reads' HO241.out).2.1) ?side3 ?side4 A10.out).mono ?_); (case side3 => repeat (first | exact (Kd.C_below HR0.out HB.out) | (with_reducible refine Kd.C_alloc ?_ _) | (with_reducible refine Kd.C_drewN ?_ _) | (with_reducible refine Kd.C_drew ?_))); (case side4 => exact HC0.out); rintro e w' ⟨rfl, ⟨nd, rfl⟩⟩))
      go_ret2
      exact ⟨_, by first | rfl | (simp [errW_none, errW_some] <;> rfl) | (simp [*, errW_none, errW_some] <;> rfl), by (with_reducible repeat first|apply rA|apply rN|apply rD); exact Kd.R_mono HO237.out (fun _ hk => trivial), by exact bq⟩
     ·replace c11 := Bool.eq_false_iff.mpr c11
      subst c11
      have H1 : (some (([] : List Int), false)) = some (r1, r2) := by rw [if_neg (show ¬ (false = true) by decide)] at H; exact H
      clear H
      have H := H1
      clear H1
      simp only [Option.some.injEq, Prod.mk.injEq] at H
      obtain ⟨rfl, rfl⟩ := H
      go_wp2_with (first | ((with_reducible refine gate_callee (f := 114) rfl ?_); refine gL (some 14) Try.func114 #[.slice A0 l0.length c0] ?_; (with_reducible refine (spec_asUndo.calls kj1 _ _ l0 t235 _ (cQ (Kd.C_below HR0.out HB.out)) HC0.out A6.out).mono ?_); rintro e w16 ⟨v236, rfl, ho0, hb⟩; refine ⟨_, rfl, ?_⟩; have _ := aM (Kd.R_lower ho0 (below_size bq)); have _ := aM (below_step bq hb); clear HB; rename_i HO237 HB; (try clear hb); (try clear hb2); (try clear hk); (try clear hi); (try clear ho0); obtain ⟨Ao17, co17, eo17⟩ := Kd.R_slice HO237.out; subst eo17) | ((with_reducible refine gate_callee (f := 86) rfl ?_); refine gL (some 16) Try.func86 #[.slice Ao17 t235.length co17] ?_; (with_reducible refine (spec_asGood.calls kj1 _ _ t235 true _ (cQ ((Kd.R_reads' HO237.out).2.2)) ((Kd.R_reads' HO237.out).2.1) A7.out).mono ?_); rintro e w' ⟨rfl, ⟨nd, rfl⟩⟩; refine ⟨_, rfl, ?_⟩) | (go_at_call 111; (with_reducible refine (spec_asModify.calls kj1 _ _ t235 t239 _ (cQ ((Kd.R_reads' HO237.out).2.2)) ((Kd.R_reads' HO237.out).2.1) A9.out).mono ?_); rintro e w18 ⟨v240, rfl, ho0, hb⟩; have _ := aM (Kd.R_elder' (rQ HO237) (Kd.R_base ho0) hb); have _ := aM (Kd.R_lower (Kd.R_new' ho0 (Kd.R_lt (rQ HO237))) (below_size bq)); have _ := aM (below_step bq hb); clear HO237 HB; rename_i HO237 HO241 HB; (try clear hb); (try clear hb2); (try clear hk); (try clear hi); (try clear ho0); obtain ⟨Ao19, co19, eo19⟩ := Kd.R_slice HO241.out; subst eo19) | (go_at_call 115; (with_reducible refine (spec_l1Same.calls kj1 _ _ t239 _ _ l0 false _ (cQ ((Kd.R_reads' HO241.out).2.2)) ((Kd.R_reads' HO241.out).2.1) ?side3 ?side4 A10.out).mono ?_); (case side3 => repeat (first | exact (Kd.C_below HR0.out HB.out) | (with_reducible refine Kd.C_alloc ?_ _) | (with_reducible refine Kd.C_drewN ?_ _) | (with_reducible refine Kd.C_drew ?_))); (case side4 => exact HC0.out); rintro e w' ⟨rfl, ⟨nd, rfl⟩⟩))
      go_ret2
      exact ⟨_, by first | rfl | (simp [errW_none, errW_some] <;> rfl) | (simp [*, errW_none, errW_some] <;> rfl), by first | exact Kd.R_nil _ _ _ _ _ | exact Kd.N_nil _ _ _ _ _ | exact Kd.V_nil _ _ _ _ _ | exact Kd.Q_nil _ _ _ _ _ | exact Kd.S_nil _ _ _ _ _, by exact bq⟩
    ·replace c8 := Bool.eq_false_iff.mpr c8
     subst c8
     have H1 : (some (([] : List Int), false)) = some (r1, r2) := by rw [if_neg (show ¬ (false = true) by decide)] at H; exact H
     clear H
     have H := H1
     clear H1
     simp only [Option.some.injEq, Prod.mk.injEq] at H
     obtain ⟨rfl, rfl⟩ := H
     go_wp2_with (first | ((with_reducible refine gate_callee (f := 114) rfl ?_); refine gL (some 14) Try.func114 #[.slice A0 l0.length c0] ?_; (with_reducible refine (spec_asUndo.calls kj1 _ _ l0 t235 _ (cQ (Kd.C_below HR0.out HB.out)) HC0.out A6.out).mono ?_); rintro e w20 ⟨v236, rfl, ho0, hb⟩; refine ⟨_, rfl, ?_⟩; have _ := aM (Kd.R_lower ho0 (below_size bq)); have _ := aM (below_step bq hb); clear HB; rename_i HO237 HB; (try clear hb); (try clear hb2); (try clear hk); (try clear hi); (try clear ho0); obtain ⟨Ao21, co21, eo21⟩ := Kd.R_slice HO237.out; subst eo21) | ((with_reducible refine gate_callee (f := 86) rfl ?_); refine gL (some 16) Try.func86 #[.slice Ao21 t235.length co21] ?_; (with_reducible refine (spec_asGood.calls kj1 _ _ t235 false _ (cQ ((Kd.R_reads' HO237.out).2.2)) ((Kd.R_reads' HO237.out).2.1) A7.out).mono ?_); rintro e w' ⟨rfl, ⟨nd, rfl⟩⟩; refine ⟨_, rfl, ?_⟩))
     go_ret2
     exact ⟨_, by first | rfl | (simp [errW_none, errW_some] <;> rfl) | (simp [*, errW_none, errW_some] <;> rfl), by first | exact Kd.R_nil _ _ _ _ _ | exact Kd.N_nil _ _ _ _ _ | exact Kd.V_nil _ _ _ _ _ | exact Kd.Q_nil _ _ _ _ _ | exact Kd.S_nil _ _ _ _ _, by exact bq⟩

/-! ### impl_IsSteady: function 58 -/
def impl_IsSteady.f (k : Nat) (l0 : List Int) : Option (Bool × Bool) := (impl_IsAscent.f k l0).bind fun t243 => (if t243 = true then ((impl_modified.f k l0).bind fun t244 => ((slices_Equal_int_int.f k t244 l0).bind fun t247 => (some (t247, true)))) else (some (false, false)))
theorem impl_IsSteady.mono : ∀ a0 k, LeO (impl_IsSteady.f k a0) (impl_IsSteady.f (k + 1) a0) := by
 intro a0 k
 unfold impl_IsSteady.f
 repeat' first | with_reducible first | exact impl_IsAscent.mono _ _ | exact impl_modified.mono _ _ | exact slices_Equal_int_int.mono _ _ _ | exact LeO.refl _ | exact LeO.none _ | refine LeO.ite ?_ ?_ | refine LeO.bind ?_ (fun _ => ?_)
set_option maxHeartbeats 8000000 in
set_option maxRecDepth 100000 in
theorem impl_IsSteady.calls (k : Nat) (A0 : Option Addr) (c0 : Nat) (l0 : List Int) (r1 : Bool) (r2 : Bool) (w : World) (hr0 : Kd.C (Kd.int .i64) w A0 l0.length l0) (hc0 : l0.length ≤ c0) (h : impl_IsSteady.f k l0 = some (r1, r2)) :
  Calls Try.prog 58 #[.slice A0 l0.length c0] w fun e w' => e = .returned (.tuple #[.bool r1, .bool r2]) ∧ Below w.heap.size w w' := by
 have HR0 := aM hr0
 have HC0 := aM hc0
 clear hr0 hc0
 have HB := aM (Below.refl w.heap.size w)
 have H : ((impl_IsAscent.f k l0).bind fun t243 => (if t243 = true then ((impl_modified.f k l0).bind fun t244 => ((slices_Equal_int_int.f k t244 l0).bind fun t247 => (some (t247, true)))) else (some (false, false)))) = some (r1, r2) := h
 clear h
 replace H := Option.bind_eq_some_iff.mp H
 obtain ⟨t243, A20, H⟩ := H
 replace H : (if t243 = true then ((impl_modified.f k l0).bind fun t244 => ((slices_Equal_int_int.f k t244 l0).bind fun t247 => (some (t247, true)))) else (some (false, false))) = some (r1, r2) := H
 have A2 := aM A20
 clear A20
 by_cases c3 : t243 = true
 ·subst c3
  have H1 : ((impl_modified.f k l0).bind fun t244 => ((slices_Equal_int_int.f k t244 l0).bind fun t247 => (some (t247, true)))) = some (r1, r2) := by rw [if_pos rfl] at H; exact H
  clear H
  have H := H1
  clear H1
  replace H := Option.bind_eq_some_iff.mp H
  obtain ⟨t244, A40, H⟩ := H
  replace H : ((slices_Equal_int_int.f k t244 l0).bind fun t247 => (some (t247, true))) = some (r1, r2) := H
  have A4 := aM A40
  clear A40
  replace H := Option.bind_eq_some_iff.mp H
  obtain ⟨t247, A50, H⟩ := H
  replace H : (some (t247, true)) = some (r1, r2) := H
  have A5 := aM A50
  clear A50
  simp only [Option.some.injEq, Prod.mk.injEq] at H
  obtain ⟨rfl, rfl⟩ := H
  go_enter Try.func58, Try.ntmps58
  go_wp2_with (first | ((with_reducible refine gate_callee (f := 85) rfl ?_); refine gL (some 5) Try.func85 #[.slice A0 l0.length c0] ?_; (with_reducible refine (impl_IsAscent.calls k _ _ l0 true _ (cQ HR0.out) HC0.out A2.out).mono ?_); rintro e w' ⟨rfl, ⟨nd, rfl⟩⟩; refine ⟨_, rfl, ?_⟩) | ((with_reducible refine gate_callee (f := 110) rfl ?_); refine gL (some 8) Try.func110 #[.slice A0 l0.length c0] ?_; (with_reducible refine (impl_modified.calls k _ _ l0 t244 _ (cQ HR0.out) HC0.out A4.out).mono ?_); rintro e w6 ⟨v245, rfl, ho0, hb⟩; refine ⟨_, rfl, ?_⟩; have _ := aM (Kd.R_lower ho0 (below_size bq)); have _ := aM (below_step bq hb); clear HB; rename_i HO246 HB; (try clear hb); (try clear hb2); (try clear hk); (try clear hi); (try clear ho0); obtain ⟨Ao7, co7, eo7⟩ := Kd.R_slice HO246.out; subst eo7) | ((with_reducible refine gate_callee (f := 112) rfl ?_); refine gL (some 10) Try.func112 #[.slice Ao7 t244.length co7, .slice A0 l0.length c0] ?_; (with_reducible refine (slices_Equal_int_int.calls k _ _ t244 _ _ l0 t247 _ (cQ ((Kd.R_reads' HO246.out).2.2)) ((Kd.R_reads' HO246.out).2.1) ?side3 ?side4 A5.out).mono ?_); (case side3 => repeat (first | exact (Kd.C_below HR0.out HB.out) | (with_reducible refine Kd.C_alloc ?_ _) | (with_reducible refine Kd.C_drewN ?_ _) | (with_reducible refine Kd.C_drew ?_))); (case side4 => exact HC0.out); rintro e w' ⟨rfl, ⟨nd, rfl⟩⟩; refine ⟨_, rfl, ?_⟩))
  go_ret2
  exact ⟨by first | rfl | (simp [errW_none, errW_some] <;> rfl) | (simp [*, errW_none, errW_some] <;> rfl), by exact bq⟩
 ·replace c3 := Bool.eq_false_iff.mpr c3
  subst c3
  have H1 : (some (false, false)) = some (r1, r2) := by rw [if_neg (show ¬ (false = true) by decide)] at H; exact H
  clear H
  have H := H1
  clear H1
  simp only [Option.some.injEq, Prod.mk.injEq] at H
  obtain ⟨rfl, rfl⟩ := H
  go_enter Try.func58, Try.ntmps58
  go_wp2_with (first | ((with_reducible refine gate_callee (f := 85) rfl ?_); refine gL (some 5) Try.func85 #[.slice A0 l0.length c0] ?_; (with_reducible refine (impl_IsAscent.calls k _ _ l0 false _ (cQ HR0.out) HC0.out A2.out).mono ?_); rintro e w' ⟨rfl, ⟨nd, rfl⟩⟩; refine ⟨_, rfl, ?_⟩))
  go_ret2
  exact ⟨by first | rfl | (simp [errW_none, errW_some] <;> rfl) | (simp [*, errW_none, errW_some] <;> rfl), by exact bq⟩

/-! ### impl_isSmallAscent: function 116 -/
def impl_isSmallAscent.f (k : Nat) (l0 : List Int) : Option (Bool) := (impl_IsAscent.f k l0).bind fun t248 => (if t248 = true then (some (decide ((l0.length : Int) ≤ 10))) else (some false))
theorem impl_isSmallAscent.mono : ∀ a0 k, LeO (impl_isSmallAscent.f k a0) (impl_isSmallAscent.f (k + 1) a0) := by
 intro a0 k
 unfold impl_isSmallAscent.f
 repeat' first | with_reducible first | exact impl_IsAscent.mono _ _ | exact LeO.refl _ | exact LeO.none _ | refine LeO.ite ?_ ?_ | refine LeO.bind ?_ (fun _ => ?_)
set_option maxHeartbeats 8000000 in
set_option maxRecDepth 100000 in
theorem impl_isSmallAscent.calls (k : Nat) (A0 : Option Addr) (c0 : Nat) (l0 : List Int) (r : Bool) (w : World) (hr0 : Kd.C (Kd.int .i64) w A0 l0.length l0) (hc0 : l0.length ≤ c0) (h : impl_isSmallAscent.f k l0 = some r) :
  Calls Try.prog 116 #[.slice A0 l0.length c0] w fun e w' => e = .returned (.bool r) ∧ Drawn0 w w' := by
 have HR0 := aM hr0
 have HC0 := aM hc0
 clear hr0 hc0
 have H : ((impl_IsAscent.f k l0).bind fun t248 => (if t248 = true then (some (decide ((l0.length : Int) ≤ 10))) else (some false))) = some r := h
 clear h
 replace H := Option.bind_eq_some_iff.mp H
 obtain ⟨t248, A20, H⟩ := H
 replace H : (if t248 = true then (some (decide ((l0.length : Int) ≤ 10))) else (some false)) = some r := H
 have A2 := aM A20
 clear A20
 by_cases c3 : t248 = true
 ·subst c3
  have H1 : (some (decide ((l0.length : Int) ≤ 10))) = some r := by rw [if_pos rfl] at H; exact H
  clear H
  have H := H1
  clear H1
  obtain rfl := Option.some.inj H
  go_enter Try.func116, Try.ntmps116
  go_wp2_with (first | ((with_reducible refine gate_callee (f := 85) rfl ?_); refine gL (some 4) Try.func85 #[.slice A0 l0.length c0] ?_; (with_reducible refine (impl_IsAscent.calls k _ _ l0 true _ (cQ HR0.out) HC0.out A2.out).mono ?_); rintro e w' ⟨rfl, ⟨nd, rfl⟩⟩; refine ⟨_, rfl, ?_⟩))
  go_ret
  exact ⟨by first | rfl | (simp; done) | (simp [*]; done), by repeat (first | exact Drawn0.refl _ | apply Drawn0.step)⟩
 ·replace c3 := Bool.eq_false_iff.mpr c3
  subst c3
  have H1 : (some false) = some r := by rw [if_neg (show ¬ (false = true) by decide)] at H; exact H
  clear H
  have H := H1
  clear H1
  obtain rfl := Option.some.inj H
  go_enter Try.func116, Try.ntmps116
  go_wp2_with (first | ((with_reducible refine gate_callee (f := 85) rfl ?_); refine gL (some 4) Try.func85 #[.slice A0 l0.length c0] ?_; (with_reducible refine (impl_IsAscent.calls k _ _ l0 false _ (cQ HR0.out) HC0.out A2.out).mono ?_); rintro e w' ⟨rfl, ⟨nd, rfl⟩⟩; refine ⟨_, rfl, ?_⟩))
  go_ret
  exact ⟨by first | rfl | (simp; done) | (simp [*]; done), by repeat (first | exact Drawn0.refl _ | apply Drawn0.step)⟩

end Go.Proofs.Ytacdlipojhoilaa.Mx
