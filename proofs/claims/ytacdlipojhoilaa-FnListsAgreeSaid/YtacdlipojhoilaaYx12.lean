-- Written by hook.py, a program of this session (wip/), which runs the kit's print.py with its own parts; Lean checks it.
import Derived.Test.YtacdlipojhoilaaYx0
import Derived.Test.YtacdlipojhoilaaYx10
import Derived.Test.YtacdlipojhoilaaYx11
import Derived.Test.YtacdlipojhoilaaYxXSq
namespace Go.Proofs.Ytacdlipojhoilaa.Yx
open Go.RowKit Go.Proofs.YtacdlipojhoilaaW.PrintWords Go.Proofs.YtacdlipojhoilaaW.PrintLast Go.Proofs.YtacdlipojhoilaaW.PrintMore Go.Proofs.Ytacdlipojhoilaa.Sq
attribute [local go_sem] max2_int min2_int max_two min_two max_three min_three max_four min_four   -- for this text's walks alone
set_option linter.unusedVariables false
set_option linter.unusedSimpArgs false

def impl_ListTidy.l0 : Nat → List (List Int) → List (S36) → Int → Int → Option ((List (List Int)) × Bool)
 | 0, _, _, _, _ => none
 | k + 1, x6, x17, x18, x19 => if x19 < x18 then (if 0 ≤ x19 then (if x19 < (x17.length : Int) then ((impl_Matrix_matching.f ((rd_T36 x17 x19).f0)).bind fun t239 => (if x6.length < 5864062014805 then (impl_ListTidy.l0 k (x6 ++ [t239]) x17 x18 (wrap64 (x19 + 1))) else (none))) else (none)) else (none)) else (some (x6, true))
def impl_ListTidy.f (k : Nat) (a0 : Int) : Option ((List (List Int)) × Bool) := (impl_ListMatrices.f k a0).bind fun bt230 => (if bt230.2 = true then (impl_ListTidy.l0 k (([] : List (List Int))) bt230.1 (bt230.1.length : Int) 0) else (some (([] : List (List Int)), false)))
theorem impl_ListTidy.mono_l : ∀ k, (∀ y0 y1 y2 y3, LeO (impl_ListTidy.l0 k y0 y1 y2 y3) (impl_ListTidy.l0 (k + 1) y0 y1 y2 y3))
 | 0 => fun _ _ _ _ r h => by simp [impl_ListTidy.l0] at h
 | k + 1 => by
  have ih0 := impl_ListTidy.mono_l k
  ·intro y0 y1 y2 y3
   unfold impl_ListTidy.l0
   repeat' first | with_reducible first | exact ih0 _ _ _ _ | exact impl_ListMatrices.mono _ _ | exact LeO.refl _ | exact LeO.none _ | refine LeO.ite ?_ ?_ | refine LeO.bind ?_ (fun _ => ?_)
theorem impl_ListTidy.mono : ∀ a0 k, LeO (impl_ListTidy.f k a0) (impl_ListTidy.f (k + 1) a0) := by
 intro a0 k
 have ih0 := impl_ListTidy.mono_l k
 unfold impl_ListTidy.f
 repeat' first | with_reducible first | exact ih0 _ _ _ _ | exact impl_ListMatrices.mono _ _ | exact LeO.refl _ | exact LeO.none _ | refine LeO.ite ?_ ?_ | refine LeO.bind ?_ (fun _ => ?_)
set_option maxHeartbeats 8000000 in
set_option maxRecDepth 100000 in
theorem impl_ListTidy.calls (k : Nat) (a0 : Int) (r1 : List (List Int)) (r2 : Bool) (w : World) (h : impl_ListTidy.f k a0 = some (r1, r2)) :
  Calls Try.prog 61 #[.int .i64 a0] w fun e w' => ∃ v0_ : Value, e = .returned (.tuple #[v0_, .bool r2]) ∧ Kd.S (Kd.slice 3 (Kd.int .i64)) 24 w' w.heap.size (fun _ => True) v0_ r1 ∧ Below w.heap.size w w' := by
 have hu36 := Try.underlying36
 have HB := aM (Below.refl w.heap.size w)
 have H : ((impl_ListMatrices.f k a0).bind fun bt230 => (if bt230.2 = true then (impl_ListTidy.l0 k (([] : List (List Int))) bt230.1 (bt230.1.length : Int) 0) else (some (([] : List (List Int)), false)))) = some (r1, r2) := h
 clear h
 replace H := Option.bind_eq_some_iff.mp H
 obtain ⟨⟨t230, t231⟩, A20, H⟩ := H
 replace H : (if t231 = true then (impl_ListTidy.l0 k (([] : List (List Int))) t230 (t230.length : Int) 0) else (some (([] : List (List Int)), false))) = some (r1, r2) := H
 have A2 := aM A20
 clear A20
 by_cases c3 : t231 = true
 ·subst c3
  have H1 : (impl_ListTidy.l0 k (([] : List (List Int))) t230 (t230.length : Int) 0) = some (r1, r2) := by rw [if_pos rfl] at H; exact H
  clear H
  have H := H1
  clear H1
  obtain ⟨y234, hy234⟩ : ∃ y_ : List (List Int), y_ = (([] : List (List Int))) := ⟨_, rfl⟩
  replace H : (impl_ListTidy.l0 k y234 t230 (t230.length : Int) 0) = some (r1, r2) := by first | (rw [hy234]; with_reducible exact H) | (have H2_ := (Option.bind_some _ _).symm.trans H; rw [hy234]; with_reducible exact H2_) | (have H2_ := (Option.bind_some _ _).symm.trans H; with_reducible exact H2_) | with_reducible exact H | (rw [hy234]; exact H) | exact H
  have Ny234 := aM hy234
  clear hy234
  have H' := aM H
  clear H
  go_enter Try.func61, Try.ntmps61
  go_wp2_with (first | ((with_reducible refine gate_callee (f := 63) rfl ?_); refine gL (some 11) Try.func63 #[.int .i64 a0] ?_; (with_reducible refine (impl_ListMatrices.calls k a0 t230 true _ A2.out).mono ?_); rintro e w4 ⟨v232, rfl, ho0, hb⟩; refine ⟨_, rfl, ?_⟩; have _ := aM (Kd.R_lower ho0 (below_size bq)); have _ := aM (below_step bq hb); clear HB; rename_i HO233 HB; (try clear hb); (try clear hb2); (try clear hk); (try clear hi); (try clear ho0)) | ((with_reducible refine gate_dst (N := 16) rfl ?_); refine Kd.S_lit (Kd.slice 3 (Kd.int .i64)) _ 24 ?hg (N := 16) ?hd (xs := ([] : List (List Int))) (inner := []) (ok := fun _ => True) (okp := fun _ => True) ?hr ?hp (fun _ hk => hk) trivial (Below.refl _ _) (Nat.le_refl _) (by simp) ?_; (case hd => rfl); (case hg => rfl); (case hr => first | (go_simp; done) | (go_simp; rfl)); (case hp => exact (Reps.none _ _)); intro v235 w5 ho6 hb hg_ hnew_; clear hg_ hnew_; (first | rw [← Ny234.out] at ho6 | (simp only [Int.reduceToNat] at ho6; rw [← Ny234.out] at ho6)); have _ := aM (Kd.R_elder' (rQ HO233) (Kd.S_base ho6) hb); have _ := aM (Kd.S_lower ho6 (below_size bq)); have _ := aM (below_step bq hb); clear HO233 HB; rename_i HO233 HO236 HB; clear hb ho6; obtain ⟨Ao7, co7, eo7⟩ := Kd.R_slice HO233.out; subst eo7))
  go_loopg [6, 19] k (fun kq v6 v19 w' => ∃ (x6_1 : List (List Int)) (x19_1 : Int), v19 = .int .i64 x19_1 ∧ Aside0 (impl_ListTidy.l0 kq x6_1 t230 (t230.length : Int) x19_1 = some (r1, r2)) ∧ Aside0 (kq ≤ k) ∧ Aside0 (Kd.S (Kd.slice 3 (Kd.int .i64)) 24 w' w.heap.size (fun _ => True) v6 x6_1) ∧ Aside0 (Kd.R k36 36 w' w.heap.size (fun k_ => some k_ ≠ (v6 : Value).ownBlock) (.slice Ao7 t230.length co7) t230) ∧ Aside0 (Below w.heap.size w w'))
  case atStart => exact ⟨(y234), (0), (by first | rfl | (simp; done) | (simp [*]; done)), H', ⟨Nat.le_refl _⟩, ⟨by (with_reducible repeat first|apply sA|apply sN|apply sD); exact HO236.out⟩, ⟨by (with_reducible repeat first|apply rA|apply rN|apply rD); exact Kd.R_mono HO233.out (fun _ hk => hk.2)⟩, ⟨by exact bq⟩⟩
  case round =>
   clear H'
   try clear p2
   try clear c3
   try clear c6
   obtain ⟨x6_1, x19_1, rfl, HA, HK1, HO_6, HO_17, HB⟩ := hrel
   cases gk with
   | zero => exact absurd HA.out (by simp [impl_ListTidy.l0])
   | succ k1 =>
    have H := HA.out
    clear HA
    simp only [impl_ListTidy.l0] at H
    by_cases c8 : x19_1 < (t230.length : Int)
    ·rw [if_pos c8] at H
     have c8b0 : decide (x19_1 < (t230.length : Int)) = true := decide_eq_true c8
     clear c8
     by_cases c9 : 0 ≤ x19_1
     ·rw [if_pos c9] at H
      have c9b0 : decide (0 ≤ x19_1) = true := decide_eq_true c9
      clear c9
      by_cases c10 : x19_1 < (t230.length : Int)
      ·rw [if_pos c10] at H
       have c10b0 : decide (x19_1 < (t230.length : Int)) = true := decide_eq_true c10
       clear c10
       replace H := Option.bind_eq_some_iff.mp H
       obtain ⟨t239, A110, H⟩ := H
       replace H : (if x6_1.length < 5864062014805 then (impl_ListTidy.l0 k1 (x6_1 ++ [t239]) t230 (t230.length : Int) (wrap64 (x19_1 + 1))) else (none)) = some (r1, r2) := H
       have A11 := aM A110
       clear A110
       by_cases c12 : x6_1.length < 5864062014805
       ·rw [if_pos c12] at H
        have LMc12 := aM c12
        clear c12
        obtain ⟨y242, hy242⟩ : ∃ y_ : List (List Int), y_ = (x6_1 ++ [t239]) := ⟨_, rfl⟩
        replace H : (impl_ListTidy.l0 k1 y242 t230 (t230.length : Int) (wrap64 (x19_1 + 1))) = some (r1, r2) := by first | (rw [hy242]; with_reducible exact H) | (have H2_ := (Option.bind_some _ _).symm.trans H; rw [hy242]; with_reducible exact H2_) | (have H2_ := (Option.bind_some _ _).symm.trans H; with_reducible exact H2_) | with_reducible exact H | (rw [hy242]; exact H) | exact H
        have Ny242 := aM hy242
        clear hy242
        have H' := aM H
        clear H
        have p237 : 0 ≤ (x19_1 : Int) := odt
        have q237 : x19_1 < (t230.length : Int) := odt
        obtain ⟨ad237, A237_0, c237_0, e237, hx237_0, hl237_0, hi237_0⟩ := at_T36 (Kd.R_reads' HO_17.out).2.2 x19_1 p237 q237
        cases e237
        obtain ⟨ce237, hce237, hMe237, hcc237⟩ := Kd.R_get HO_17.out z36 x19_1 p237 (by first | exact q237 | exact odt | (have e_ := (Kd.R_reads' HO_17.out).1; omega))
        obtain ⟨ve237_0, rfl, ge237_0⟩ := k36_openM hMe237
        have hv237_0 := hcc237 0 _ rfl
        rw [Nat.add_zero, show (k36).sz = 1 from rfl, Nat.mul_one] at hv237_0
        replace hv237_0 := Option.some.inj (hv237_0.symm.trans hx237_0)
        rw [hv237_0] at ge237_0
        have HL237_0 := aM (show Kd.R (Kd.slice 3 (Kd.int .i64)) 24 _ _ _ _ ((rd_T36 t230 x19_1).f0) from ge237_0)
        clear hv237_0 ge237_0
        clear hcc237 hce237
        have HR237_0 := aM hi237_0
        have HC237_0 := aM hl237_0
        clear hi237_0 hl237_0
        replace p237 := eq_true p237
        replace q237 := eq_true q237
        go_wp2_with (first | ((with_reducible refine gate_dst (N := 8) rfl ?_); refine bE 8 36 #[.slice none 0 0] ?_; intro gb238 hg w13 hbox hb; have _ := aM (Kd.S_below (sQ HO_6) hb); have _ := aM (Kd.R_below (Kd.R_elderB (rQ HO_17) gb238 (Nat.le_of_eq hg.symm)) hb); have _ := aM (Kd.R_below (rQ HL237_0) hb); have _ := aM (Kd.C_below (cQ HR237_0.out) hb); have _ := aM (below_step bq hb); have _ := aM (hbox); have _ := aM ((gS hg)); have _ := aM ((gS hg)); clear HO_6 HO_17 HL237_0 HR237_0 HB; rename_i HO_6 HO_17 HL237_0 HR237_0 HB BK238 GW238 GE238; clear hb hbox hg; have hcz14_0 : w13.cell? ⟨gb238, 0, none⟩ = some (.slice none 0 0) := (blk_cell BK238.out 0).trans rfl; have hfz14_0 := blk_frozen BK238.out 0) | ((with_reducible refine gate_callee (f := 80) rfl ?_); refine gL (some 25) Try.func80 #[.agg #[.slice A237_0 ((rd_T36 t230 x19_1).f0).length c237_0]] ?_; (with_reducible refine (impl_Matrix_matching.calls _ _ ((rd_T36 t230 x19_1).f0) t239 _ ?side1 ?side2 A11.out).mono ?_); (case side1 => repeat (first | exact ((Kd.R_reads' (by (with_reducible repeat first|apply rA|apply rN|apply rD); exact (Kd.R_mono (Kd.R_far (p := ⟨gb238, 0, none⟩) (Kd.R_types HL237_0.out BK238.out (by decide)) (fun _ hk => hk.2) (.slice A237_0 ((rd_T36 t230 x19_1).f0).length c237_0)) (fun _ h_ => h_.1)))).2.2) | (with_reducible refine Kd.C_alloc ?_ _) | (with_reducible refine Kd.C_drewN ?_ _) | (with_reducible refine Kd.C_drew ?_))); (case side2 => exact HC237_0.out); rintro e w15 ⟨v240, rfl, ho0, hb⟩; refine ⟨_, rfl, ?_⟩; have _ := aM (Kd.S_elder' (by (with_reducible repeat first|apply sA|apply sN|apply sD); exact (Kd.S_mono (Kd.S_far (p := ⟨gb238, 0, none⟩) (Kd.S_types HO_6.out BK238.out (by decide)) (fun _ hk => hk.2) (.slice A237_0 ((rd_T36 t230 x19_1).f0).length c237_0)) (fun _ h_ => h_.1))) (Kd.R_base ho0) hb); have _ := aM (Kd.R_elder' (by (with_reducible repeat first|apply rA|apply rN|apply rD); exact (Kd.R_mono (Kd.R_far (p := ⟨gb238, 0, none⟩) (Kd.R_mono HO_17.out (fun k_ hk => (⟨hk, hk.2⟩ : _ ∧ k_ ≠ gb238))) (fun _ hk => hk.2) (.slice A237_0 ((rd_T36 t230 x19_1).f0).length c237_0)) (fun _ h_ => h_.1))) (Kd.R_base ho0) hb); have _ := aM (Kd.R_elder' (by (with_reducible repeat first|apply rA|apply rN|apply rD); exact (Kd.R_mono (Kd.R_far (p := ⟨gb238, 0, none⟩) (Kd.R_types HL237_0.out BK238.out (by decide)) (fun _ hk => hk.2) (.slice A237_0 ((rd_T36 t230 x19_1).f0).length c237_0)) (fun _ h_ => h_.1))) (Kd.R_base ho0) hb); have _ := aM (Kd.R_lower ho0 (below_size bq)); have _ := aM (Kd.C_below ((Kd.R_reads' (by (with_reducible repeat first|apply rA|apply rN|apply rD); exact (Kd.R_mono (Kd.R_far (p := ⟨gb238, 0, none⟩) (Kd.R_types HL237_0.out BK238.out (by decide)) (fun _ hk => hk.2) (.slice A237_0 ((rd_T36 t230 x19_1).f0).length c237_0)) (fun _ h_ => h_.1)))).2.2) hb); have _ := aM (blk_below (g := gb238) (o := .cells #[.slice A237_0 ((rd_T36 t230 x19_1).f0).length c237_0] 36 (0, 0)) (by (with_reducible repeat first|apply qN|apply qD|apply qA); refine blk_put (cs := #[.slice none 0 0]) ?_ 0 _ rfl; (with_reducible repeat first|apply qN|apply qD|apply qA); exact BK238.out) hb); have _ := aM (below_step bq hb); clear HO_6 HO_17 HL237_0 HR237_0 BK238 HB; rename_i HO_6 HO_17 HL237_0 HO241 HR237_0 BK238 HB; (try clear hb); (try clear hb2); (try clear hk); (try clear hi); (try clear ho0); obtain ⟨Ao17, co17, eo17⟩ := Kd.R_slice HO241.out; subst eo17) | ((with_reducible refine gate_builtin (b := .append) (xs := #[.tmp 23, .tmp 26]) rfl ?_); at_builtin; refine Kd.S_append (Kd.slice 3 (Kd.int .i64)) (w0 := w) w.heap.size rfl (.tmp 23) (.tmp 26) 34 24 (.slice none 0 0) 24 rfl Try.underlying34 info24 rfl (by decide) (by omega) u6 x6_1 t239 [.slice Ao17 t239.length co17] (fun _ => True) (fun k_ => some k_ = (.slice Ao17 t239.length co17 : Value).ownBlock) rfl rfl ?aP (fun k_ hk_ => ((Kd.R_mono (ok' := fun k_ => ((fun _ => True)) k_ ∧ some k_ ≠ (u6 : Value).ownBlock) (Kd.R_apart' (HO241.out) (Kd.S_typed HO_6.out) (by decide)) (fun k_ hk => ⟨trivial, hk.2⟩))).1 k_ hk_.symm) ?aF ?aO ?aB ?aS ?aL ?_; (case aP => exact Kd.M_row (Kd.R_mono (Kd.R_tight rfl (Kd.R_mono (ok' := fun k_ => ((fun _ => True)) k_ ∧ some k_ ≠ (u6 : Value).ownBlock) (Kd.R_apart' (HO241.out) (Kd.S_typed HO_6.out) (by decide)) (fun k_ hk => ⟨trivial, hk.2⟩))) (fun _ h_ => h_))); (case aB => exact bq); (case aF => exact (fun _ _ => trivial)); (case aO => exact (by (with_reducible repeat first|apply sA|apply sN|apply sD); exact Kd.S_mono HO_6.out (fun k_ hk => ⟨trivial, fun e_ => hk.2 e_⟩))); (case aS => exact (below_size bq)); (case aL => have := LMc12.out; omega); intro v243 w16 ho hb hg hat; rw [← Ny242.out] at ho; have _ := aM (Kd.R_after (ok := (fun k_ => some k_ ≠ (.slice Ao17 t239.length co17 : Value).ownBlock ∧ k_ ≠ gb238)) (by (with_reducible repeat first|apply rA|apply rN|apply rD); exact Kd.R_mono HO_17.out (fun _ hk => ⟨⟨hk.2, hk.1.2⟩, hk.1.1⟩)) hg hat); have _ := aM (Kd.R_after (ok := (fun k_ => some k_ ≠ (.slice (some ad237) t230.length co7 : Value).ownBlock ∧ some k_ ≠ (.slice Ao17 t239.length co17 : Value).ownBlock)) (by (with_reducible repeat first|apply rA|apply rN|apply rD); exact Kd.R_mono HL237_0.out (fun _ hk => ⟨⟨hk.1.2, hk.2⟩, hk.1.1⟩)) hg hat); have _ := aM (blk_grown (g := gb238) (o := .cells #[.slice A237_0 ((rd_T36 t230 x19_1).f0).length c237_0] 36 (0, 0)) (qQ BK238) hg (Kd.S_ne HO_6.out BK238.out (by decide))); have _ := aM (hb); have _ := aM (ho); clear HO_17 HL237_0 BK238 HB HO_6 HO241; rename_i HO_17 HL237_0 BK238 HB HO244; clear ho hb hg hat))
        go_roundg k1
        case measure => have := HK1.out; omega
        case rel => exact ⟨(y242), (wrap64 (x19_1 + 1)), (by first | rfl | (simp; done) | (simp [*]; done)), H', ⟨by have := HK1.out; omega⟩, ⟨by (with_reducible repeat first|apply sA|apply sN|apply sD); exact HO244.out⟩, ⟨by (with_reducible repeat first|apply rA|apply rN|apply rD); exact Kd.R_mono HO_17.out (fun _ hk => hk.2)⟩, ⟨by exact bq⟩⟩
       ·rw [if_neg c12] at H
        exact absurd H (by simp)
      ·rw [if_neg c10] at H
       exact absurd H (by simp)
     ·rw [if_neg c9] at H
      exact absurd H (by simp)
    ·rw [if_neg c8] at H
     have c8b0 : decide (x19_1 < (t230.length : Int)) = false := decide_eq_false c8
     clear c8
     simp only [Option.some.injEq, Prod.mk.injEq] at H
     obtain ⟨rfl, rfl⟩ := H
     go_wp2
     go_ret2
     exact ⟨_, by first | rfl | (simp [errW_none, errW_some] <;> rfl) | (simp [*, errW_none, errW_some] <;> rfl), by (with_reducible repeat first|apply sA|apply sN|apply sD); exact HO_6.out, by exact bq⟩
 ·replace c3 := Bool.eq_false_iff.mpr c3
  subst c3
  have H1 : (some (([] : List (List Int)), false)) = some (r1, r2) := by rw [if_neg (show ¬ (false = true) by decide)] at H; exact H
  clear H
  have H := H1
  clear H1
  simp only [Option.some.injEq, Prod.mk.injEq] at H
  obtain ⟨rfl, rfl⟩ := H
  go_enter Try.func61, Try.ntmps61
  go_wp2_with (first | ((with_reducible refine gate_callee (f := 63) rfl ?_); refine gL (some 11) Try.func63 #[.int .i64 a0] ?_; (with_reducible refine (impl_ListMatrices.calls k a0 t230 false _ A2.out).mono ?_); rintro e w18 ⟨v232, rfl, ho0, hb⟩; refine ⟨_, rfl, ?_⟩; have _ := aM (Kd.R_lower ho0 (below_size bq)); have _ := aM (below_step bq hb); clear HB; rename_i HO233 HB; (try clear hb); (try clear hb2); (try clear hk); (try clear hi); (try clear ho0)))
  go_ret2
  exact ⟨_, by first | rfl | (simp [errW_none, errW_some] <;> rfl) | (simp [*, errW_none, errW_some] <;> rfl), by first | exact Kd.S_nil _ _ _ _ _ | exact Kd.N_nil _ _ _ _ _ | exact Kd.V_nil _ _ _ _ _ | exact Kd.Q_nil _ _ _ _ _ | exact Kd.R_nil _ _ _ _ _, by exact bq⟩

def spec_maTotal.l0 : Nat → Int → List Int → Int → Int → Option (Int)
 | 0, _, _, _, _ => none
 | k + 1, x3, x6, x7, x8 => if x8 < x7 then (if 0 ≤ x8 then (if x8 < (x6.length : Int) then (spec_maTotal.l0 k (wrap64 (x3 + (rd x6 x8))) x6 x7 (wrap64 (x8 + 1))) else (none)) else (none)) else (some x3)
def spec_maTotal.f (k : Nat) (l0 : List Int) : Option (Int) := spec_maTotal.l0 k 0 l0 (l0.length : Int) 0
theorem spec_maTotal.mono_l : ∀ k, (∀ y0 y1 y2 y3, LeO (spec_maTotal.l0 k y0 y1 y2 y3) (spec_maTotal.l0 (k + 1) y0 y1 y2 y3))
 | 0 => fun _ _ _ _ r h => by simp [spec_maTotal.l0] at h
 | k + 1 => by
  have ih0 := spec_maTotal.mono_l k
  ·intro y0 y1 y2 y3
   unfold spec_maTotal.l0
   repeat' first | with_reducible first | exact ih0 _ _ _ _ | exact LeO.refl _ | exact LeO.none _ | refine LeO.ite ?_ ?_ | refine LeO.bind ?_ (fun _ => ?_)
theorem spec_maTotal.mono : ∀ a0 k, LeO (spec_maTotal.f k a0) (spec_maTotal.f (k + 1) a0) := by
 intro a0 k
 have ih0 := spec_maTotal.mono_l k
 unfold spec_maTotal.f
 repeat' first | with_reducible first | exact ih0 _ _ _ _ | exact LeO.refl _ | exact LeO.none _ | refine LeO.ite ?_ ?_ | refine LeO.bind ?_ (fun _ => ?_)
set_option maxHeartbeats 8000000 in
set_option maxRecDepth 100000 in
theorem spec_maTotal.calls (k : Nat) (A0 : Option Addr) (c0 : Nat) (l0 : List Int) (r : Int) (w : World) (hr0 : Kd.C (Kd.int .i64) w A0 l0.length l0) (hc0 : l0.length ≤ c0) (h : spec_maTotal.f k l0 = some r) :
  Calls Try.prog 146 #[.slice A0 l0.length c0] w fun e w' => e = .returned (.int .i64 r) ∧ Drawn0 w w' := by
 have HR0 := aM hr0
 have HC0 := aM hc0
 clear hr0 hc0
 have H : (spec_maTotal.l0 k 0 l0 (l0.length : Int) 0) = some r := h
 clear h
 have H' := aM H
 clear H
 go_enter Try.func146, Try.ntmps146
 go_wp2
 go_loopg [3, 8] k (fun kq v3 v8 w' => ∃ (x3_1 : Int) (x8_1 : Int), v3 = .int .i64 x3_1 ∧ v8 = .int .i64 x8_1 ∧ Aside0 (spec_maTotal.l0 kq x3_1 l0 (l0.length : Int) x8_1 = some r) ∧ Aside0 (kq ≤ k) ∧ Drawn0 w w')
 case atStart => exact ⟨(0), (0), (by first | rfl | (simp; done) | (simp [*]; done)), (by first | rfl | (simp; done) | (simp [*]; done)), H', ⟨Nat.le_refl _⟩, by repeat (first | exact Drawn0.refl _ | apply Drawn0.step)⟩
 case round =>
  clear H'
  try clear c1
  obtain ⟨x3_1, x8_1, rfl, rfl, HA, HK1, ⟨m1, rfl⟩⟩ := hrel
  cases gk with
  | zero => exact absurd HA.out (by simp [spec_maTotal.l0])
  | succ k1 =>
   have H := HA.out
   clear HA
   simp only [spec_maTotal.l0] at H
   by_cases c2 : x8_1 < (l0.length : Int)
   ·rw [if_pos c2] at H
    have c2b0 : decide (x8_1 < (l0.length : Int)) = true := decide_eq_true c2
    clear c2
    by_cases c3 : 0 ≤ x8_1
    ·rw [if_pos c3] at H
     have c3b0 : decide (0 ≤ x8_1) = true := decide_eq_true c3
     clear c3
     by_cases c4 : x8_1 < (l0.length : Int)
     ·rw [if_pos c4] at H
      have c4b0 : decide (x8_1 < (l0.length : Int)) = true := decide_eq_true c4
      clear c4
      have H' := aM H
      clear H
      have p245 : 0 ≤ (x8_1 : Int) := odt
      have q245 : x8_1 < (l0.length : Int) := odt
      obtain ⟨ad245, e245, hx245_0⟩ := Kd.at_int HR0.out x8_1 p245 q245
      cases e245
      replace p245 := eq_true p245
      replace q245 := eq_true q245
      go_wp2
      go_roundg k1
      case measure => have := HK1.out; omega
      case rel => exact ⟨(wrap64 (x3_1 + (rd l0 x8_1))), (wrap64 (x8_1 + 1)), (by first | rfl | (simp; done) | (simp [*]; done)), (by first | rfl | (simp; done) | (simp [*]; done)), H', ⟨by have := HK1.out; omega⟩, by repeat (first | exact Drawn0.refl _ | apply Drawn0.step)⟩
     ·rw [if_neg c4] at H
      exact absurd H (by simp)
    ·rw [if_neg c3] at H
     exact absurd H (by simp)
   ·rw [if_neg c2] at H
    have c2b0 : decide (x8_1 < (l0.length : Int)) = false := decide_eq_false c2
    clear c2
    obtain rfl := Option.some.inj H
    go_wp2
    go_ret
    exact ⟨by first | rfl | (simp; done) | (simp [*]; done), by repeat (first | exact Drawn0.refl _ | apply Drawn0.step)⟩

def spec_maSum.l0 : Nat → Int → List (List Int) → Int → Int → Option (Int)
 | 0, _, _, _, _ => none
 | k + 1, x3, x7, x8, x9 => if x9 < x8 then (if 0 ≤ x9 then (if x9 < (x7.length : Int) then ((spec_maTotal.f k (rd_L2 x7 x9)).bind fun t248 => (spec_maSum.l0 k (wrap64 (x3 + t248)) x7 x8 (wrap64 (x9 + 1)))) else (none)) else (none)) else (some x3)
def spec_maSum.f (k : Nat) (l0_0 : List (List Int)) : Option (Int) := spec_maSum.l0 k 0 l0_0 (l0_0.length : Int) 0
theorem spec_maSum.mono_l : ∀ k, (∀ y0 y1 y2 y3, LeO (spec_maSum.l0 k y0 y1 y2 y3) (spec_maSum.l0 (k + 1) y0 y1 y2 y3))
 | 0 => fun _ _ _ _ r h => by simp [spec_maSum.l0] at h
 | k + 1 => by
  have ih0 := spec_maSum.mono_l k
  ·intro y0 y1 y2 y3
   unfold spec_maSum.l0
   repeat' first | with_reducible first | exact ih0 _ _ _ _ | exact spec_maTotal.mono _ _ | exact LeO.refl _ | exact LeO.none _ | refine LeO.ite ?_ ?_ | refine LeO.bind ?_ (fun _ => ?_)
theorem spec_maSum.mono : ∀ a0 k, LeO (spec_maSum.f k a0) (spec_maSum.f (k + 1) a0) := by
 intro a0 k
 have ih0 := spec_maSum.mono_l k
 unfold spec_maSum.f
 repeat' first | with_reducible first | exact ih0 _ _ _ _ | exact spec_maTotal.mono _ _ | exact LeO.refl _ | exact LeO.none _ | refine LeO.ite ?_ ?_ | refine LeO.bind ?_ (fun _ => ?_)
set_option maxHeartbeats 8000000 in
set_option maxRecDepth 100000 in
theorem spec_maSum.calls (k : Nat) (A0_0 : Option Addr) (c0_0 : Nat) (l0_0 : List (List Int)) (r : Int) (w : World) (hr0_0 : Kd.C (Kd.slice 3 (Kd.int .i64)) w A0_0 l0_0.length l0_0) (hc0_0 : l0_0.length ≤ c0_0) (h : spec_maSum.f k l0_0 = some r) :
  Calls Try.prog 106 #[.agg #[.slice A0_0 l0_0.length c0_0]] w fun e w' => e = .returned (.int .i64 r) ∧ Below w.heap.size w w' := by
 have hu36 := Try.underlying36
 have HR0_0 := aM hr0_0
 have HC0_0 := aM hc0_0
 clear hr0_0 hc0_0
 have HB := aM (Below.refl w.heap.size w)
 have H : (spec_maSum.l0 k 0 l0_0 (l0_0.length : Int) 0) = some r := h
 clear h
 have H' := aM H
 clear H
 go_enter Try.func106, Try.ntmps106
 go_wp2_with (first | ((with_reducible refine gate_dst (N := 1) rfl ?_); refine bE 1 36 #[.slice A0_0 l0_0.length c0_0] ?_; intro gb246 hg w2 hbox hb; have _ := aM (below_step bq hb); have _ := aM (hbox); have _ := aM ((gS hg)); have _ := aM ((gS hg)); clear HB; rename_i HB BK246 GW246 GE246; clear hb hbox hg; have hcz3_0 : w2.cell? ⟨gb246, 0, none⟩ = some (.slice A0_0 l0_0.length c0_0) := (blk_cell BK246.out 0).trans rfl; have hfz3_0 := blk_frozen BK246.out 0))
 go_loopg [3, 9] k (fun kq v3 v9 w' => ∃ (x3_1 : Int) (x9_1 : Int), v3 = .int .i64 x3_1 ∧ v9 = .int .i64 x9_1 ∧ Aside0 (spec_maSum.l0 kq x3_1 l0_0 (l0_0.length : Int) x9_1 = some r) ∧ Aside0 (kq ≤ k) ∧ Aside0 (w'.heap[gb246]? = some (.cells #[(.slice A0_0 l0_0.length c0_0)] 36 (0, 0))) ∧ Aside0 (Below w.heap.size w w'))
 case atStart => exact ⟨(0), (0), (by first | rfl | (simp; done) | (simp [*]; done)), (by first | rfl | (simp; done) | (simp [*]; done)), H', ⟨Nat.le_refl _⟩, ⟨by (with_reducible repeat first|apply qN|apply qD|apply qA); exact BK246.out⟩, ⟨by exact bq⟩⟩
 case round =>
  clear H'
  try clear c1
  try clear p2
  try clear hcz3_0
  try clear hfz3_0
  obtain ⟨x3_1, x9_1, rfl, rfl, HA, HK1, BK246, HB⟩ := hrel
  cases gk with
  | zero => exact absurd HA.out (by simp [spec_maSum.l0])
  | succ k1 =>
   have H := HA.out
   clear HA
   simp only [spec_maSum.l0] at H
   by_cases c4 : x9_1 < (l0_0.length : Int)
   ·rw [if_pos c4] at H
    have c4b0 : decide (x9_1 < (l0_0.length : Int)) = true := decide_eq_true c4
    clear c4
    by_cases c5 : 0 ≤ x9_1
    ·rw [if_pos c5] at H
     have c5b0 : decide (0 ≤ x9_1) = true := decide_eq_true c5
     clear c5
     by_cases c6 : x9_1 < (l0_0.length : Int)
     ·rw [if_pos c6] at H
      have c6b0 : decide (x9_1 < (l0_0.length : Int)) = true := decide_eq_true c6
      clear c6
      replace H := Option.bind_eq_some_iff.mp H
      obtain ⟨t248, A70, H⟩ := H
      replace H : (spec_maSum.l0 k1 (wrap64 (x3_1 + t248)) l0_0 (l0_0.length : Int) (wrap64 (x9_1 + 1))) = some r := H
      have A7 := aM A70
      clear A70
      have H' := aM H
      clear H
      have p247 : 0 ≤ (x9_1 : Int) := odt
      have q247 : x9_1 < (l0_0.length : Int) := odt
      obtain ⟨ad247, A247_0, c247_0, e247, hx247_0, hl247_0, hi247_0⟩ := at_L2 HR0_0.out x9_1 p247 q247
      cases e247
      replace hx247_0 := (HB.out.cell (World.block_lt_of_cell? w _ hx247_0)).trans hx247_0
      have HR247_0 := aM hi247_0
      have HC247_0 := aM hl247_0
      clear hi247_0 hl247_0
      replace p247 := eq_true p247
      replace q247 := eq_true q247
      go_wp2_with (first | ((with_reducible refine gate_callee (f := 146) rfl ?_); refine gL (some 15) Try.func146 #[.slice A247_0 (rd_L2 l0_0 x9_1).length c247_0] ?_; (with_reducible refine (spec_maTotal.calls k1 _ _ (rd_L2 l0_0 x9_1) t248 _ (cQ (Kd.C_below HR247_0.out HB.out)) HC247_0.out A7.out).mono ?_); rintro e w' ⟨rfl, ⟨nd, rfl⟩⟩; refine ⟨_, rfl, ?_⟩))
      go_roundg k1
      case measure => have := HK1.out; omega
      case rel => exact ⟨(wrap64 (x3_1 + t248)), (wrap64 (x9_1 + 1)), (by first | rfl | (simp; done) | (simp [*]; done)), (by first | rfl | (simp; done) | (simp [*]; done)), H', ⟨by have := HK1.out; omega⟩, ⟨by (with_reducible repeat first|apply qN|apply qD|apply qA); exact BK246.out⟩, ⟨by exact bq⟩⟩
     ·rw [if_neg c6] at H
      exact absurd H (by simp)
    ·rw [if_neg c5] at H
     exact absurd H (by simp)
   ·rw [if_neg c4] at H
    have c4b0 : decide (x9_1 < (l0_0.length : Int)) = false := decide_eq_false c4
    clear c4
    obtain rfl := Option.some.inj H
    go_wp2
    go_ret
    exact ⟨by first | rfl | (simp [errW_none, errW_some] <;> rfl) | (simp [*, errW_none, errW_some] <;> rfl), by exact bq⟩

def spec_maColumn.l0 : Nat → Int → List Int → List (List Int) → Int → Int → Option (List Int)
 | 0, _, _, _, _, _ => none
 | k + 1, x1, x5, x9, x10, x11 => if x11 < x10 then (if 0 ≤ x11 then (if x11 < (x9.length : Int) then (if 0 ≤ x1 then (if x1 < ((rd_L2 x9 x11).length : Int) then (if x5.length < 17592186044416 then (spec_maColumn.l0 k x1 (x5 ++ [rd (rd_L2 x9 x11) x1]) x9 x10 (wrap64 (x11 + 1))) else (none)) else (none)) else (none)) else (none)) else (none)) else (some x5)
def spec_maColumn.f (k : Nat) (l0_0 : List (List Int)) (a1 : Int) : Option (List Int) := spec_maColumn.l0 k a1 ([] : List Int) l0_0 (l0_0.length : Int) 0
theorem spec_maColumn.mono_l : ∀ k, (∀ y0 y1 y2 y3 y4, LeO (spec_maColumn.l0 k y0 y1 y2 y3 y4) (spec_maColumn.l0 (k + 1) y0 y1 y2 y3 y4))
 | 0 => fun _ _ _ _ _ r h => by simp [spec_maColumn.l0] at h
 | k + 1 => by
  have ih0 := spec_maColumn.mono_l k
  ·intro y0 y1 y2 y3 y4
   unfold spec_maColumn.l0
   repeat' first | with_reducible first | exact ih0 _ _ _ _ _ | exact LeO.refl _ | exact LeO.none _ | refine LeO.ite ?_ ?_ | refine LeO.bind ?_ (fun _ => ?_)
theorem spec_maColumn.mono : ∀ a0 a1 k, LeO (spec_maColumn.f k a0 a1) (spec_maColumn.f (k + 1) a0 a1) := by
 intro a0 a1 k
 have ih0 := spec_maColumn.mono_l k
 unfold spec_maColumn.f
 repeat' first | with_reducible first | exact ih0 _ _ _ _ _ | exact LeO.refl _ | exact LeO.none _ | refine LeO.ite ?_ ?_ | refine LeO.bind ?_ (fun _ => ?_)
set_option maxHeartbeats 8000000 in
set_option maxRecDepth 100000 in
theorem spec_maColumn.calls (k : Nat) (A0_0 : Option Addr) (c0_0 : Nat) (l0_0 : List (List Int)) (a1 : Int) (r : List Int) (w : World) (hr0_0 : Kd.C (Kd.slice 3 (Kd.int .i64)) w A0_0 l0_0.length l0_0) (hc0_0 : l0_0.length ≤ c0_0) (h : spec_maColumn.f k l0_0 a1 = some r) :
  Calls Try.prog 142 #[.agg #[.slice A0_0 l0_0.length c0_0], .int .i64 a1] w fun e w' => ∃ v0_ : Value, e = .returned (v0_) ∧ Kd.R (Kd.int .i64) 3 w' w.heap.size (fun _ => True) v0_ r ∧ Below w.heap.size w w' := by
 have hu36 := Try.underlying36
 have HR0_0 := aM hr0_0
 have HC0_0 := aM hc0_0
 clear hr0_0 hc0_0
 have HB := aM (Below.refl w.heap.size w)
 have H : (spec_maColumn.l0 k a1 ([] : List Int) l0_0 (l0_0.length : Int) 0) = some r := h
 clear h
 have H' := aM H
 clear H
 go_enter Try.func142, Try.ntmps142
 go_wp2_with (first | ((with_reducible refine gate_dst (N := 2) rfl ?_); refine bE 2 36 #[.slice A0_0 l0_0.length c0_0] ?_; intro gb249 hg w3 hbox hb; have _ := aM (below_step bq hb); have _ := aM (hbox); have _ := aM ((gS hg)); have _ := aM ((gS hg)); clear HB; rename_i HB BK249 GW249 GE249; clear hb hbox hg; have hcz4_0 : w3.cell? ⟨gb249, 0, none⟩ = some (.slice A0_0 l0_0.length c0_0) := (blk_cell BK249.out 0).trans rfl; have hfz4_0 := blk_frozen BK249.out 0))
 go_loopg [5, 11] k (fun kq v5 v11 w' => ∃ (x5_1 : List Int) (x11_1 : Int), v11 = .int .i64 x11_1 ∧ Aside0 (spec_maColumn.l0 kq a1 x5_1 l0_0 (l0_0.length : Int) x11_1 = some r) ∧ Aside0 (kq ≤ k) ∧ Aside0 (Kd.R (Kd.int .i64) 3 w' w.heap.size (fun _ => True) v5 x5_1) ∧ Aside0 (w'.heap[gb249]? = some (.cells #[(.slice A0_0 l0_0.length c0_0)] 36 (0, 0))) ∧ Aside0 (Below w.heap.size w w'))
 case atStart => exact ⟨(([] : List Int)), (0), (by first | rfl | (simp; done) | (simp [*]; done)), H', ⟨Nat.le_refl _⟩, ⟨by first | exact Kd.R_nil _ _ _ _ _ | exact Kd.N_nil _ _ _ _ _ | exact Kd.V_nil _ _ _ _ _ | exact Kd.Q_nil _ _ _ _ _ | exact Kd.S_nil _ _ _ _ _⟩, ⟨by (with_reducible repeat first|apply qN|apply qD|apply qA); exact BK249.out⟩, ⟨by exact bq⟩⟩
 case round =>
  clear H'
  try clear c1
  try clear p2
  try clear hcz4_0
  try clear hfz4_0
  obtain ⟨x5_1, x11_1, rfl, HA, HK1, HO_5, BK249, HB⟩ := hrel
  cases gk with
  | zero => exact absurd HA.out (by simp [spec_maColumn.l0])
  | succ k1 =>
   have H := HA.out
   clear HA
   simp only [spec_maColumn.l0] at H
   by_cases c5 : x11_1 < (l0_0.length : Int)
   ·rw [if_pos c5] at H
    have c5b0 : decide (x11_1 < (l0_0.length : Int)) = true := decide_eq_true c5
    clear c5
    by_cases c6 : 0 ≤ x11_1
    ·rw [if_pos c6] at H
     have c6b0 : decide (0 ≤ x11_1) = true := decide_eq_true c6
     clear c6
     by_cases c7 : x11_1 < (l0_0.length : Int)
     ·rw [if_pos c7] at H
      have c7b0 : decide (x11_1 < (l0_0.length : Int)) = true := decide_eq_true c7
      clear c7
      by_cases c8 : 0 ≤ a1
      ·rw [if_pos c8] at H
       have c8b0 : decide (0 ≤ a1) = true := decide_eq_true c8
       clear c8
       by_cases c9 : a1 < ((rd_L2 l0_0 x11_1).length : Int)
       ·rw [if_pos c9] at H
        have c9b0 : decide (a1 < ((rd_L2 l0_0 x11_1).length : Int)) = true := decide_eq_true c9
        clear c9
        by_cases c10 : x5_1.length < 17592186044416
        ·rw [if_pos c10] at H
         have LMc10 := aM c10
         clear c10
         obtain ⟨y252, hy252⟩ : ∃ y_ : List Int, y_ = (x5_1 ++ [rd (rd_L2 l0_0 x11_1) a1]) := ⟨_, rfl⟩
         replace H : (spec_maColumn.l0 k1 a1 y252 l0_0 (l0_0.length : Int) (wrap64 (x11_1 + 1))) = some r := by first | (rw [hy252]; with_reducible exact H) | (have H2_ := (Option.bind_some _ _).symm.trans H; rw [hy252]; with_reducible exact H2_) | (have H2_ := (Option.bind_some _ _).symm.trans H; with_reducible exact H2_) | with_reducible exact H | (rw [hy252]; exact H) | exact H
         have Ny252 := aM hy252
         clear hy252
         have H' := aM H
         clear H
         have p250 : 0 ≤ (x11_1 : Int) := odt
         have q250 : x11_1 < (l0_0.length : Int) := odt
         obtain ⟨ad250, A250_0, c250_0, e250, hx250_0, hl250_0, hi250_0⟩ := at_L2 HR0_0.out x11_1 p250 q250
         cases e250
         replace hx250_0 := (HB.out.cell (World.block_lt_of_cell? w _ hx250_0)).trans hx250_0
         have HR250_0 := aM hi250_0
         have HC250_0 := aM hl250_0
         clear hi250_0 hl250_0
         replace p250 := eq_true p250
         replace q250 := eq_true q250
         have p251 : 0 ≤ (a1 : Int) := odt
         have q251 : a1 < ((rd_L2 l0_0 x11_1).length : Int) := odt
         obtain ⟨ad251, e251, hx251_0⟩ := Kd.at_int HR250_0.out a1 p251 q251
         cases e251
         replace hx251_0 := (HB.out.cell (World.block_lt_of_cell? w _ hx251_0)).trans hx251_0
         replace p251 := eq_true p251
         replace q251 := eq_true q251
         go_wp2_with (first | ((with_reducible refine gate_builtin (b := .append) (xs := #[.tmp 15, .tmp 20]) rfl ?_); at_builtin; refine Kd.R_append (Kd.int .i64) (w0 := w) w.heap.size rfl (.tmp 15) (.tmp 20) 24 3 (.int .i64 0) 8 rfl Try.underlying24 info3 rfl (by decide) (by omega) u5 x5_1 (rd (rd_L2 l0_0 x11_1) a1) [.int .i64 (rd (rd_L2 l0_0 x11_1) a1)] (fun _ => True) (fun _ => False) rfl rfl ?aP (fun _ hk => hk.elim) ?aF ?aO ?aB ?aS ?aL ?_; (case aP => exact rfl); (case aB => exact bq); (case aF => exact (fun _ _ => trivial)); (case aO => exact (rQ HO_5)); (case aS => exact (below_size bq)); (case aL => have := LMc10.out; omega); intro v253 w11 ho hb hg hat; rw [← Ny252.out] at ho; have _ := aM (blk_grown (g := gb249) (o := .cells #[.slice (some ad250) l0_0.length c0_0] 36 (0, 0)) (qQ BK249) hg (Kd.R_ne HO_5.out BK249.out (by decide))); have _ := aM (hb); have _ := aM (ho); clear BK249 HB HO_5; rename_i BK249 HB HO254; clear ho hb hg hat))
         go_roundg k1
         case measure => have := HK1.out; omega
         case rel => exact ⟨(y252), (wrap64 (x11_1 + 1)), (by first | rfl | (simp; done) | (simp [*]; done)), H', ⟨by have := HK1.out; omega⟩, ⟨by (with_reducible repeat first|apply rA|apply rN|apply rD); exact HO254.out⟩, ⟨by (with_reducible repeat first|apply qN|apply qD|apply qA); exact BK249.out⟩, ⟨by exact bq⟩⟩
        ·rw [if_neg c10] at H
         exact absurd H (by simp)
       ·rw [if_neg c9] at H
        exact absurd H (by simp)
      ·rw [if_neg c8] at H
       exact absurd H (by simp)
     ·rw [if_neg c7] at H
      exact absurd H (by simp)
    ·rw [if_neg c6] at H
     exact absurd H (by simp)
   ·rw [if_neg c5] at H
    have c5b0 : decide (x11_1 < (l0_0.length : Int)) = false := decide_eq_false c5
    clear c5
    obtain rfl := Option.some.inj H
    go_wp2
    go_ret
    exact ⟨_, by first | rfl | (simp [errW_none, errW_some] <;> rfl) | (simp [*, errW_none, errW_some] <;> rfl), by (with_reducible repeat first|apply rA|apply rN|apply rD); exact HO_5.out, by exact bq⟩

end Go.Proofs.Ytacdlipojhoilaa.Yx
