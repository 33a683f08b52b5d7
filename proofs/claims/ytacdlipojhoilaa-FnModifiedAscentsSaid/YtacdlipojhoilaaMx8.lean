-- Written by hook.py, a program of this session (wip/), which runs the kit's print.py with its own parts; Lean checks it.
import Derived.Test.YtacdlipojhoilaaMx0
import Derived.Test.YtacdlipojhoilaaMx2
import Derived.Test.YtacdlipojhoilaaMx5
import Derived.Test.YtacdlipojhoilaaMx7
import Derived.Test.YtacdlipojhoilaaXSq
namespace Go.Proofs.Ytacdlipojhoilaa.Mx
open Go.RowKit Go.Proofs.YtacdlipojhoilaaW.PrintWords Go.Proofs.YtacdlipojhoilaaW.PrintLast Go.Proofs.YtacdlipojhoilaaW.PrintMore Go.Proofs.Ytacdlipojhoilaa.Sq
attribute [local go_sem] max2_int min2_int max_two min_two max_three min_three max_four min_four   -- for this text's walks alone
set_option linter.unusedVariables false
set_option linter.unusedSimpArgs false

/-! ### impl_UnmodifyAscent: function 56 -/
mutual
def impl_UnmodifyAscent.l0 : Nat → List Int → List Int → Int → Option (List Int × Bool)
 | 0, _, _, _ => none
 | k + 1, x0, x4, x5 => if x5 > 0 then (if 0 ≤ (wrap64 (x5 - 1)) then (if (wrap64 (x5 - 1)) < (x0.length : Int) then (if 0 ≤ x5 then (if x5 < (x0.length : Int) then (if (rd x0 (wrap64 (x5 - 1))) ≥ (rd x0 x5) then (impl_UnmodifyAscent.l0 k x0 x4 (wrap64 (x5 - 1))) else (impl_UnmodifyAscent.l1 k x0 x4 x5 x5 0)) else (none)) else (none)) else (none)) else (none)) else ((impl_IsAscent.f k x4).bind fun t216 => (if t216 = true then ((impl_modified.f k x4).bind fun t217 => ((slices_Equal_int_int.f k t217 x0).bind fun t220 => (if t220 = true then (some (x4, true)) else (some (([] : List Int), false))))) else (some (([] : List Int), false))))
def impl_UnmodifyAscent.l1 : Nat → List Int → List Int → Int → Int → Int → Option (List Int × Bool)
 | 0, _, _, _, _, _ => none
 | k + 1, x0, x4, x5, x30, x31 => if x31 < x30 then (if 0 ≤ x31 then (if x31 < (x4.length : Int) then (if 0 ≤ x5 then (if x5 < (x4.length : Int) then (if (rd x4 x31) > (rd x4 x5) then (impl_UnmodifyAscent.l1 k x0 (x4.set (x31 : Int).toNat (wrap64 ((rd x4 x31) - 1))) x5 x30 (wrap64 (x31 + 1))) else (impl_UnmodifyAscent.l1 k x0 x4 x5 x30 (wrap64 (x31 + 1)))) else (none)) else (none)) else (none)) else (none)) else (impl_UnmodifyAscent.l0 k x0 x4 (wrap64 (x5 - 1)))
end
def impl_UnmodifyAscent.f (k : Nat) (l0 : List Int) : Option (List Int × Bool) := if (l0.length : Int) > 12 then (some (([] : List Int), false)) else ((some (([] : List Int) : List Int)).bind fun y204 => (if y204.length + l0.length < 17592186044416 then (impl_UnmodifyAscent.l0 k l0 (y204 ++ l0) (wrap64 ((l0.length : Int) - 1))) else (none)))
theorem impl_UnmodifyAscent.mono_l : ∀ k, (∀ y0 y1 y2, LeO (impl_UnmodifyAscent.l0 k y0 y1 y2) (impl_UnmodifyAscent.l0 (k + 1) y0 y1 y2)) ∧ (∀ y0 y1 y2 y3 y4, LeO (impl_UnmodifyAscent.l1 k y0 y1 y2 y3 y4) (impl_UnmodifyAscent.l1 (k + 1) y0 y1 y2 y3 y4))
 | 0 => ⟨fun _ _ _ r h => by simp [impl_UnmodifyAscent.l0] at h, fun _ _ _ _ _ r h => by simp [impl_UnmodifyAscent.l1] at h⟩
 | k + 1 => by
  obtain ⟨ih0, ih1⟩ := impl_UnmodifyAscent.mono_l k
  refine ⟨?_, ?_⟩
  ·intro y0 y1 y2
   unfold impl_UnmodifyAscent.l0
   repeat' first | with_reducible first | exact ih0 _ _ _ | exact ih1 _ _ _ _ _ | exact impl_IsAscent.mono _ _ | exact impl_modified.mono _ _ | exact slices_Equal_int_int.mono _ _ _ | exact LeO.refl _ | exact LeO.none _ | refine LeO.ite ?_ ?_ | refine LeO.bind ?_ (fun _ => ?_)
  ·intro y0 y1 y2 y3 y4
   unfold impl_UnmodifyAscent.l1
   repeat' first | with_reducible first | exact ih0 _ _ _ | exact ih1 _ _ _ _ _ | exact impl_IsAscent.mono _ _ | exact impl_modified.mono _ _ | exact slices_Equal_int_int.mono _ _ _ | exact LeO.refl _ | exact LeO.none _ | refine LeO.ite ?_ ?_ | refine LeO.bind ?_ (fun _ => ?_)
theorem impl_UnmodifyAscent.mono : ∀ a0 k, LeO (impl_UnmodifyAscent.f k a0) (impl_UnmodifyAscent.f (k + 1) a0) := by
 intro a0 k
 obtain ⟨ih0, ih1⟩ := impl_UnmodifyAscent.mono_l k
 unfold impl_UnmodifyAscent.f
 repeat' first | with_reducible first | exact ih0 _ _ _ | exact ih1 _ _ _ _ _ | exact impl_IsAscent.mono _ _ | exact impl_modified.mono _ _ | exact slices_Equal_int_int.mono _ _ _ | exact LeO.refl _ | exact LeO.none _ | refine LeO.ite ?_ ?_ | refine LeO.bind ?_ (fun _ => ?_)
set_option maxHeartbeats 8000000 in
set_option maxRecDepth 100000 in
theorem impl_UnmodifyAscent.calls (k : Nat) (A0 : Option Addr) (c0 : Nat) (l0 : List Int) (r1 : List Int) (r2 : Bool) (w : World) (hr0 : Kd.C (Kd.int .i64) w A0 l0.length l0) (hc0 : l0.length ≤ c0) (h : impl_UnmodifyAscent.f k l0 = some (r1, r2)) :
  Calls Try.prog 56 #[.slice A0 l0.length c0] w fun e w' => ∃ v0_ : Value, e = .returned (.tuple #[v0_, .bool r2]) ∧ Kd.R (Kd.int .i64) 3 w' w.heap.size (fun _ => True) v0_ r1 ∧ Below w.heap.size w w' := by
 have HR0 := aM hr0
 have HC0 := aM hc0
 clear hr0 hc0
 have HB := aM (Below.refl w.heap.size w)
 have H : (if (l0.length : Int) > 12 then (some (([] : List Int), false)) else ((some (([] : List Int) : List Int)).bind fun y204 => (if y204.length + l0.length < 17592186044416 then (impl_UnmodifyAscent.l0 k l0 (y204 ++ l0) (wrap64 ((l0.length : Int) - 1))) else (none)))) = some (r1, r2) := h
 clear h
 by_cases c2 : (l0.length : Int) > 12
 ·rw [if_pos c2] at H
  have c2b0 : decide (12 < (l0.length : Int)) = true := decide_eq_true c2
  have c2b1 : decide (12 < l0.length) = true := decide_eq_true (by omega)
  clear c2
  simp only [Option.some.injEq, Prod.mk.injEq] at H
  obtain ⟨rfl, rfl⟩ := H
  go_enter Try.func56, Try.ntmps56
  go_wp2
  repeat (go_quiet (fail); try go_wp2)
  go_ret2
  exact ⟨_, by first | rfl | (simp [errW_none, errW_some] <;> rfl) | (simp [*, errW_none, errW_some] <;> rfl), by first | exact Kd.R_nil _ _ _ _ _ | exact Kd.N_nil _ _ _ _ _ | exact Kd.V_nil _ _ _ _ _ | exact Kd.Q_nil _ _ _ _ _ | exact Kd.S_nil _ _ _ _ _, by exact bq⟩
 ·rw [if_neg c2] at H
  have c2b0 : decide (12 < (l0.length : Int)) = false := decide_eq_false c2
  have c2b1 : decide (12 < l0.length) = false := decide_eq_false (by omega)
  clear c2
  obtain ⟨y204, hy204⟩ : ∃ y_ : List Int, y_ = (([] : List Int)) := ⟨_, rfl⟩
  replace H : (if y204.length + l0.length < 17592186044416 then (impl_UnmodifyAscent.l0 k l0 (y204 ++ l0) (wrap64 ((l0.length : Int) - 1))) else (none)) = some (r1, r2) := by first | (rw [hy204]; with_reducible exact H) | (have H2_ := (Option.bind_some _ _).symm.trans H; rw [hy204]; with_reducible exact H2_) | (have H2_ := (Option.bind_some _ _).symm.trans H; with_reducible exact H2_) | with_reducible exact H | (rw [hy204]; exact H) | exact H
  have Ny204 := aM hy204
  clear hy204
  by_cases c3 : y204.length + l0.length < 17592186044416
  ·rw [if_pos c3] at H
   have LMc3 := aM c3
   clear c3
   obtain ⟨y207, hy207⟩ : ∃ y_ : List Int, y_ = (y204 ++ l0) := ⟨_, rfl⟩
   replace H : (impl_UnmodifyAscent.l0 k l0 y207 (wrap64 ((l0.length : Int) - 1))) = some (r1, r2) := by first | (rw [hy207]; with_reducible exact H) | (have H2_ := (Option.bind_some _ _).symm.trans H; rw [hy207]; with_reducible exact H2_) | (have H2_ := (Option.bind_some _ _).symm.trans H; with_reducible exact H2_) | with_reducible exact H | (rw [hy207]; exact H) | exact H
   have Ny207 := aM hy207
   clear hy207
   have H' := aM H
   clear H
   go_enter Try.func56, Try.ntmps56
   go_wp2_with (first | ((with_reducible refine gate_dst (N := 10) rfl ?_); refine Kd.R_lit (Kd.int .i64) _ 3 ?hg (N := 10) ?hd (xs := ([] : List Int)) (inner := []) (ok := fun _ => True) (okp := fun _ => True) ?hr ?hp (fun _ hk => hk) trivial (Below.refl _ _) (Nat.le_refl _) (by simp) ?_; (case hd => rfl); (case hg => rfl); (case hr => first | (go_simp; done) | (go_simp; rfl)); (case hp => exact (Reps.none _ _)); intro v205 w4 ho5 hb hg_ hnew_; clear hg_ hnew_; (first | rw [← Ny204.out] at ho5 | (simp only [Int.reduceToNat] at ho5; rw [← Ny204.out] at ho5)); have _ := aM (Kd.R_lower ho5 (below_size bq)); have _ := aM (below_step bq hb); clear HB; rename_i HO206 HB; clear hb ho5) | ((with_reducible refine gate_builtin (b := .append) (xs := #[.tmp 10, .tmp 11]) rfl ?_); at_builtin; refine Kd.R_append_rows (Kd.int .i64) (w0 := w) w.heap.size rfl (.tmp 10) (.tmp 11) 24 3 (.int .i64 0) 8 rfl Try.underlying24 info3 rfl (by decide) (by omega) v205 y204 l0 _ _ _ (fun _ => True) (fun _ => False) rfl rfl ?aO ?aR (fun _ _ h => h) (fun _ h => h.elim) ?aF ?aB ?aS ?aL ?_; (case aR => repeat (first | exact (Kd.C_below HR0.out HB.out) | (with_reducible refine Kd.C_alloc ?_ _) | (with_reducible refine Kd.C_drewN ?_ _) | (with_reducible refine Kd.C_drew ?_))); (case aB => exact bq); (case aF => exact (fun _ _ => trivial)); (case aO => exact (rQ HO206)); (case aS => exact (below_size bq)); (case aL => have := LMc3.out; omega); intro v208 w6 ho hb hg hat; rw [← Ny207.out] at ho; have _ := aM (hb); have _ := aM (ho); clear HB HO206; rename_i HB HO209; clear ho hb hg hat))
   repeat (go_quiet (first | ((with_reducible refine gate_dst (N := 10) rfl ?_); refine Kd.R_lit (Kd.int .i64) _ 3 ?hg (N := 10) ?hd (xs := ([] : List Int)) (inner := []) (ok := fun _ => True) (okp := fun _ => True) ?hr ?hp (fun _ hk => hk) trivial (Below.refl _ _) (Nat.le_refl _) (by simp) ?_; (case hd => rfl); (case hg => rfl); (case hr => first | (go_simp; done) | (go_simp; rfl)); (case hp => exact (Reps.none _ _)); intro v205 w4 ho5 hb hg_ hnew_; clear hg_ hnew_; (first | rw [← Ny204.out] at ho5 | (simp only [Int.reduceToNat] at ho5; rw [← Ny204.out] at ho5)); have _ := aM (Kd.R_lower ho5 (below_size bq)); have _ := aM (below_step bq hb); clear HB; rename_i HO206 HB; clear hb ho5) | ((with_reducible refine gate_builtin (b := .append) (xs := #[.tmp 10, .tmp 11]) rfl ?_); at_builtin; refine Kd.R_append_rows (Kd.int .i64) (w0 := w) w.heap.size rfl (.tmp 10) (.tmp 11) 24 3 (.int .i64 0) 8 rfl Try.underlying24 info3 rfl (by decide) (by omega) v205 y204 l0 _ _ _ (fun _ => True) (fun _ => False) rfl rfl ?aO ?aR (fun _ _ h => h) (fun _ h => h.elim) ?aF ?aB ?aS ?aL ?_; (case aR => repeat (first | exact (Kd.C_below HR0.out HB.out) | (with_reducible refine Kd.C_alloc ?_ _) | (with_reducible refine Kd.C_drewN ?_ _) | (with_reducible refine Kd.C_drew ?_))); (case aB => exact bq); (case aF => exact (fun _ _ => trivial)); (case aO => exact (rQ HO206)); (case aS => exact (below_size bq)); (case aL => have := LMc3.out; omega); intro v208 w6 ho hb hg hat; rw [← Ny207.out] at ho; have _ := aM (hb); have _ := aM (ho); clear HB HO206; rename_i HB HO209; clear ho hb hg hat)); try go_wp2_with (first | ((with_reducible refine gate_dst (N := 10) rfl ?_); refine Kd.R_lit (Kd.int .i64) _ 3 ?hg (N := 10) ?hd (xs := ([] : List Int)) (inner := []) (ok := fun _ => True) (okp := fun _ => True) ?hr ?hp (fun _ hk => hk) trivial (Below.refl _ _) (Nat.le_refl _) (by simp) ?_; (case hd => rfl); (case hg => rfl); (case hr => first | (go_simp; done) | (go_simp; rfl)); (case hp => exact (Reps.none _ _)); intro v205 w4 ho5 hb hg_ hnew_; clear hg_ hnew_; (first | rw [← Ny204.out] at ho5 | (simp only [Int.reduceToNat] at ho5; rw [← Ny204.out] at ho5)); have _ := aM (Kd.R_lower ho5 (below_size bq)); have _ := aM (below_step bq hb); clear HB; rename_i HO206 HB; clear hb ho5) | ((with_reducible refine gate_builtin (b := .append) (xs := #[.tmp 10, .tmp 11]) rfl ?_); at_builtin; refine Kd.R_append_rows (Kd.int .i64) (w0 := w) w.heap.size rfl (.tmp 10) (.tmp 11) 24 3 (.int .i64 0) 8 rfl Try.underlying24 info3 rfl (by decide) (by omega) v205 y204 l0 _ _ _ (fun _ => True) (fun _ => False) rfl rfl ?aO ?aR (fun _ _ h => h) (fun _ h => h.elim) ?aF ?aB ?aS ?aL ?_; (case aR => repeat (first | exact (Kd.C_below HR0.out HB.out) | (with_reducible refine Kd.C_alloc ?_ _) | (with_reducible refine Kd.C_drewN ?_ _) | (with_reducible refine Kd.C_drew ?_))); (case aB => exact bq); (case aF => exact (fun _ _ => trivial)); (case aO => exact (rQ HO206)); (case aS => exact (below_size bq)); (case aL => have := LMc3.out; omega); intro v208 w6 ho hb hg hat; rw [← Ny207.out] at ho; have _ := aM (hb); have _ := aM (ho); clear HB HO206; rename_i HB HO209; clear ho hb hg hat)))
   go_loopg [5] k (fun kq v5 w' => ∃ (x4_1 : List Int) (x5_1 : Int), v5 = .int .i64 x5_1 ∧ Aside0 (impl_UnmodifyAscent.l0 kq l0 x4_1 x5_1 = some (r1, r2)) ∧ Aside0 (kq ≤ k) ∧ Aside0 (Kd.R (Kd.int .i64) 3 w' w.heap.size (fun _ => True) v208 x4_1) ∧ Aside0 (Below w.heap.size w w'))
   case atStart => exact ⟨(y207), (wrap64 ((l0.length : Int) - 1)), (by first | rfl | (simp; done) | (simp [*]; done)), H', ⟨Nat.le_refl _⟩, ⟨by (with_reducible repeat first|apply rA|apply rN|apply rD); exact HO209.out⟩, ⟨by exact bq⟩⟩
   case round =>
    clear H'
    try clear c2
    try clear c2b0
    try clear c2b1
    try clear p2
    try clear c3
    try clear c5
    try clear p6
    obtain ⟨x4_1, x5_1, rfl, HA, HK1, HO_4, HB⟩ := hrel
    cases gk with
    | zero => exact absurd HA.out (by simp [impl_UnmodifyAscent.l0])
    | succ k1 =>
     have H := HA.out
     clear HA
     simp only [impl_UnmodifyAscent.l0] at H
     by_cases c7 : x5_1 > 0
     ·rw [if_pos c7] at H
      have c7b0 : decide (0 < x5_1) = true := decide_eq_true c7
      clear c7
      obtain ⟨ji8, hji8⟩ : ∃ j_ : Int, (wrap64 (x5_1 - 1)) = j_ := ⟨_, rfl⟩
      replace H : (if 0 ≤ (ji8) then (if (ji8) < (l0.length : Int) then (if 0 ≤ x5_1 then (if x5_1 < (l0.length : Int) then (if (rd l0 (ji8)) ≥ (rd l0 x5_1) then (impl_UnmodifyAscent.l0 k1 l0 x4_1 ji8) else (impl_UnmodifyAscent.l1 k1 l0 x4_1 x5_1 x5_1 0)) else (none)) else (none)) else (none)) else (none)) = some (r1, r2) := by first | (rw [hji8] at H; exact H) | (simp only [hji8] at H ⊢; exact H)
      have hji8w : (IntKind.i64.wrap (x5_1 - 1)) = ji8 := (i64_w _).trans hji8
      by_cases c9 : 0 ≤ (ji8)
      ·rw [if_pos c9] at H
       have c9b0 : decide (0 ≤ (ji8)) = true := decide_eq_true c9
       clear c9
       by_cases c10 : (ji8) < (l0.length : Int)
       ·rw [if_pos c10] at H
        have c10b0 : decide ((ji8) < (l0.length : Int)) = true := decide_eq_true c10
        clear c10
        by_cases c11 : 0 ≤ x5_1
        ·rw [if_pos c11] at H
         have c11b0 : decide (0 ≤ x5_1) = true := decide_eq_true c11
         clear c11
         by_cases c12 : x5_1 < (l0.length : Int)
         ·rw [if_pos c12] at H
          have c12b0 : decide (x5_1 < (l0.length : Int)) = true := decide_eq_true c12
          clear c12
          by_cases c13 : (rd l0 (ji8)) ≥ (rd l0 x5_1)
          ·rw [if_pos c13] at H
           have c13b0 : decide ((rd l0 x5_1) ≤ (rd l0 (ji8))) = true := decide_eq_true c13
           clear c13
           have H' := aM H
           clear H
           have p210 : 0 ≤ ((ji8) : Int) := odt
           have q210 : (ji8) < (l0.length : Int) := odt
           obtain ⟨ad210, e210, hx210_0⟩ := Kd.at_int HR0.out (ji8) p210 q210
           cases e210
           replace hx210_0 := (HB.out.cell (World.block_lt_of_cell? w _ hx210_0)).trans hx210_0
           replace p210 := eq_true p210
           replace q210 := eq_true q210
           have p211 : 0 ≤ (x5_1 : Int) := odt
           have q211 : x5_1 < (l0.length : Int) := odt
           obtain ⟨ad211, e211, hx211_0⟩ := Kd.at_int HR0.out x5_1 p211 q211
           obtain rfl : ad210 = ad211 := (by injection e211)
           replace hx211_0 := (HB.out.cell (World.block_lt_of_cell? w _ hx211_0)).trans hx211_0
           replace p211 := eq_true p211
           replace q211 := eq_true q211
           go_wp2
           repeat (go_quiet (fail); try go_wp2)
           go_roundg k1
           case measure => have := HK1.out; omega
           case rel => exact ⟨(x4_1), (ji8), (by first | rfl | (simp; done) | (simp only [← hji8] <;> (first | rfl | simp)) | (simp [*]; done)), H', ⟨by have := HK1.out; omega⟩, ⟨by (with_reducible repeat first|apply rA|apply rN|apply rD); exact HO_4.out⟩, ⟨by exact bq⟩⟩
          ·rw [if_neg c13] at H
           have c13b0 : decide ((rd l0 x5_1) ≤ (rd l0 (ji8))) = false := decide_eq_false c13
           clear c13
           have H' := aM H
           clear H
           have p210 : 0 ≤ ((ji8) : Int) := odt
           have q210 : (ji8) < (l0.length : Int) := odt
           obtain ⟨ad210, e210, hx210_0⟩ := Kd.at_int HR0.out (ji8) p210 q210
           cases e210
           replace hx210_0 := (HB.out.cell (World.block_lt_of_cell? w _ hx210_0)).trans hx210_0
           replace p210 := eq_true p210
           replace q210 := eq_true q210
           have p211 : 0 ≤ (x5_1 : Int) := odt
           have q211 : x5_1 < (l0.length : Int) := odt
           obtain ⟨ad211, e211, hx211_0⟩ := Kd.at_int HR0.out x5_1 p211 q211
           obtain rfl : ad210 = ad211 := (by injection e211)
           replace hx211_0 := (HB.out.cell (World.block_lt_of_cell? w _ hx211_0)).trans hx211_0
           replace p211 := eq_true p211
           replace q211 := eq_true q211
           go_wp2
           repeat (go_quiet (fail); try go_wp2)
           go_loopg [31] k1 (fun kq v31 w' => ∃ (x4_2 : List Int) (x31_2 : Int), v31 = .int .i64 x31_2 ∧ Aside0 (impl_UnmodifyAscent.l1 kq l0 x4_2 x5_1 x5_1 x31_2 = some (r1, r2)) ∧ Aside0 (kq ≤ k1) ∧ Aside0 (Kd.R (Kd.int .i64) 3 w' w.heap.size (fun _ => True) v208 x4_2) ∧ Aside0 (Below w.heap.size w w'))
           case atStart => exact ⟨(x4_1), (0), (by first | rfl | (simp; done) | (simp [*]; done)), H', ⟨Nat.le_refl _⟩, ⟨by (with_reducible repeat first|apply rA|apply rN|apply rD); exact HO_4.out⟩, ⟨by exact bq⟩⟩
           case round =>
            clear H'
            try clear c1
            try clear c2
            try clear c2b0
            try clear c2b1
            try clear p2
            try clear q2
            try clear hx2
            try clear c3
            try clear c5
            try clear p6
            try clear c7
            try clear c7b0
            try clear c9
            try clear c9b0
            try clear c10
            try clear c10b0
            try clear c11
            try clear c11b0
            try clear c12
            try clear c12b0
            try clear c13
            try clear c13b0
            try clear hx210_0
            try clear hx211_0
            try clear p2
            try clear p210
            try clear p211
            try clear p6
            try clear q210
            try clear q211
            obtain ⟨x4_2, x31_2, rfl, HA, HK2, HO_4, HB⟩ := hrel
            cases gk with
            | zero => exact absurd HA.out (by simp [impl_UnmodifyAscent.l1])
            | succ k2 =>
             have H := HA.out
             clear HA
             simp only [impl_UnmodifyAscent.l1] at H
             by_cases c14 : x31_2 < x5_1
             ·rw [if_pos c14] at H
              have c14b0 : decide (x31_2 < x5_1) = true := decide_eq_true c14
              clear c14
              by_cases c15 : 0 ≤ x31_2
              ·rw [if_pos c15] at H
               have c15b0 : decide (0 ≤ x31_2) = true := decide_eq_true c15
               clear c15
               by_cases c16 : x31_2 < (x4_2.length : Int)
               ·rw [if_pos c16] at H
                have c16b0 : decide (x31_2 < (x4_2.length : Int)) = true := decide_eq_true c16
                clear c16
                by_cases c17 : 0 ≤ x5_1
                ·rw [if_pos c17] at H
                 have c17b0 : decide (0 ≤ x5_1) = true := decide_eq_true c17
                 clear c17
                 by_cases c18 : x5_1 < (x4_2.length : Int)
                 ·rw [if_pos c18] at H
                  have c18b0 : decide (x5_1 < (x4_2.length : Int)) = true := decide_eq_true c18
                  clear c18
                  by_cases c19 : (rd x4_2 x31_2) > (rd x4_2 x5_1)
                  ·rw [if_pos c19] at H
                   have c19b0 : decide ((rd x4_2 x5_1) < (rd x4_2 x31_2)) = true := decide_eq_true c19
                   clear c19
                   obtain ⟨y215, hy215⟩ : ∃ y_ : List Int, y_ = (x4_2.set (x31_2 : Int).toNat (wrap64 ((rd x4_2 x31_2) - 1))) := ⟨_, rfl⟩
                   replace H : (impl_UnmodifyAscent.l1 k2 l0 y215 x5_1 x5_1 (wrap64 (x31_2 + 1))) = some (r1, r2) := by first | (rw [hy215]; with_reducible exact H) | (have H2_ := (Option.bind_some _ _).symm.trans H; rw [hy215]; with_reducible exact H2_) | (have H2_ := (Option.bind_some _ _).symm.trans H; with_reducible exact H2_) | with_reducible exact H | (rw [hy215]; exact H) | exact H
                   have Ny215 := aM hy215
                   clear hy215
                   have H' := aM H
                   clear H
                   obtain ⟨Ao21, co21, eo21⟩ := Kd.R_slice HO_4.out
                   subst eo21
                   have p212 : 0 ≤ (x31_2 : Int) := odt
                   have q212 : x31_2 < (x4_2.length : Int) := odt
                   obtain ⟨ad212, e212, hx212_0⟩ := Kd.at_int (Kd.R_reads' HO_4.out).2.2 x31_2 p212 q212
                   cases e212
                   replace p212 := eq_true p212
                   replace q212 := eq_true q212
                   have p213 : 0 ≤ (x5_1 : Int) := odt
                   have q213 : x5_1 < (x4_2.length : Int) := odt
                   obtain ⟨ad213, e213, hx213_0⟩ := Kd.at_int (Kd.R_reads' HO_4.out).2.2 x5_1 p213 q213
                   obtain rfl : ad212 = ad213 := (by injection e213)
                   replace p213 := eq_true p213
                   replace q213 := eq_true q213
                   have p214 : 0 ≤ (x31_2 : Int) := odt
                   have q214 : x31_2 < (x4_2.length : Int) := odt
                   obtain ⟨ad214, e214, hx214_0⟩ := Kd.at_int (Kd.R_reads' HO_4.out).2.2 x31_2 p214 q214
                   obtain rfl : ad212 = ad214 := (by injection e214)
                   replace p214 := eq_true p214
                   replace q214 := eq_true q214
                   have p20 : 0 ≤ (x31_2 : Int) := odt
                   have q20 : (x31_2 : Int) < ((x4_2.length : Int) : Int) := odt
                   obtain ⟨go20, co20, eo20, gb20, gl20, cl20, HG20⟩ := Kd.R_form HO_4.out (by omega)
                   (first | cases eo20 | (injection eo20 with ea_ en_ ec_; (first | subst ea_ | (injection ea_ with ea_; subst ea_)); subst ec_; clear en_))
                   have GB20 := aM gb20
                   have GG20 := aM HG20
                   clear gb20 gl20 HG20
                   (first | simp only [add_plain] at hx212_0 | skip)
                   (first | simp only [add_plain] at hx213_0 | skip)
                   (first | simp only [add_plain] at hx214_0 | skip)
                   obtain ⟨hx20_0, hf20_0⟩ := Kd.R_celln 0 HO_4.out (x31_2 : Int) p20 q20
                   replace p20 := eq_true p20
                   replace q20 := eq_true q20
                   have HP22 := Kd.R_putg HO_4.out (x31_2 : Int) (wrap64 ((rd x4_2 x31_2) - 1))
                   go_wp2_with (first | ((with_reducible refine gate_store (t := 3) (p := 48) rfl ?_); (try (rw [drewN_self wr]; generalize hq_ : World.drewN wr _ = wr; have _ := aM (Kd.R_at hq_ HO_4.out); have _ := aM (below_at hq_ HB.out); (try replace hf20_0 := frozen_at_drew hq_ hf20_0); (try replace hx20_0 := cell_at_drew hq_ hx20_0); (try replace hx212_0 := cell_at_drew hq_ hx212_0); (try replace hx213_0 := cell_at_drew hq_ hx213_0); (try replace hx214_0 := cell_at_drew hq_ hx214_0); clear hq_ HO_4 HB; rename_i HO_4 HB; (try (have HP22 := Kd.R_putg HO_4.out (x31_2 : Int) (wrap64 ((rd x4_2 x31_2) - 1)))))); refine sE (wr.setCell ⟨go20, (x31_2 : Int).toNat, none⟩ (.int .i64 (wrap64 ((rd x4_2 x31_2) - 1)))) 3 48 ?_; intro w23 hw; have hg : wr.grownBy w23 (some go20) := (by rw [hw]; exact HP22.2); have hp_ : Kd.R (Kd.int .i64) 3 w23 w.heap.size (fun _ => True) (.slice (some ⟨go20, 0, none⟩) x4_2.length co21) y215 := (by rw [hw, Ny215.out]; exact HP22.1); clear HP22; have _ := aM (hp_); have _ := aM ((by rw [hw]; exact below_set (HB.out) GB20.out : Below w.heap.size w w23)); clear HO_4 HB; rename_i HO_4 HB; clear hg hw hp_))
                   repeat (go_quiet (first | ((with_reducible refine gate_store (t := 3) (p := 48) rfl ?_); (try (rw [drewN_self wr]; generalize hq_ : World.drewN wr _ = wr; have _ := aM (Kd.R_at hq_ HO_4.out); have _ := aM (below_at hq_ HB.out); (try replace hf20_0 := frozen_at_drew hq_ hf20_0); (try replace hx20_0 := cell_at_drew hq_ hx20_0); (try replace hx212_0 := cell_at_drew hq_ hx212_0); (try replace hx213_0 := cell_at_drew hq_ hx213_0); (try replace hx214_0 := cell_at_drew hq_ hx214_0); clear hq_ HO_4 HB; rename_i HO_4 HB; (try (have HP22 := Kd.R_putg HO_4.out (x31_2 : Int) (wrap64 ((rd x4_2 x31_2) - 1)))))); refine sE (wr.setCell ⟨go20, (x31_2 : Int).toNat, none⟩ (.int .i64 (wrap64 ((rd x4_2 x31_2) - 1)))) 3 48 ?_; intro w23 hw; have hg : wr.grownBy w23 (some go20) := (by rw [hw]; exact HP22.2); have hp_ : Kd.R (Kd.int .i64) 3 w23 w.heap.size (fun _ => True) (.slice (some ⟨go20, 0, none⟩) x4_2.length co21) y215 := (by rw [hw, Ny215.out]; exact HP22.1); clear HP22; have _ := aM (hp_); have _ := aM ((by rw [hw]; exact below_set (HB.out) GB20.out : Below w.heap.size w w23)); clear HO_4 HB; rename_i HO_4 HB; clear hg hw hp_)); try go_wp2_with (first | ((with_reducible refine gate_store (t := 3) (p := 48) rfl ?_); (try (rw [drewN_self wr]; generalize hq_ : World.drewN wr _ = wr; have _ := aM (Kd.R_at hq_ HO_4.out); have _ := aM (below_at hq_ HB.out); (try replace hf20_0 := frozen_at_drew hq_ hf20_0); (try replace hx20_0 := cell_at_drew hq_ hx20_0); (try replace hx212_0 := cell_at_drew hq_ hx212_0); (try replace hx213_0 := cell_at_drew hq_ hx213_0); (try replace hx214_0 := cell_at_drew hq_ hx214_0); clear hq_ HO_4 HB; rename_i HO_4 HB; (try (have HP22 := Kd.R_putg HO_4.out (x31_2 : Int) (wrap64 ((rd x4_2 x31_2) - 1)))))); refine sE (wr.setCell ⟨go20, (x31_2 : Int).toNat, none⟩ (.int .i64 (wrap64 ((rd x4_2 x31_2) - 1)))) 3 48 ?_; intro w23 hw; have hg : wr.grownBy w23 (some go20) := (by rw [hw]; exact HP22.2); have hp_ : Kd.R (Kd.int .i64) 3 w23 w.heap.size (fun _ => True) (.slice (some ⟨go20, 0, none⟩) x4_2.length co21) y215 := (by rw [hw, Ny215.out]; exact HP22.1); clear HP22; have _ := aM (hp_); have _ := aM ((by rw [hw]; exact below_set (HB.out) GB20.out : Below w.heap.size w w23)); clear HO_4 HB; rename_i HO_4 HB; clear hg hw hp_)))
                   go_roundg k2
                   case measure => have := HK1.out; have := HK2.out; omega
                   case rel => exact ⟨(y215), (wrap64 (x31_2 + 1)), (by first | rfl | (simp; done) | (simp [*]; done)), H', ⟨by have := HK1.out; have := HK2.out; omega⟩, ⟨by (with_reducible repeat first|apply rA|apply rN|apply rD); exact HO_4.out⟩, ⟨by exact bq⟩⟩
                  ·rw [if_neg c19] at H
                   have c19b0 : decide ((rd x4_2 x5_1) < (rd x4_2 x31_2)) = false := decide_eq_false c19
                   clear c19
                   have H' := aM H
                   clear H
                   obtain ⟨Ao24, co24, eo24⟩ := Kd.R_slice HO_4.out
                   subst eo24
                   have p212 : 0 ≤ (x31_2 : Int) := odt
                   have q212 : x31_2 < (x4_2.length : Int) := odt
                   obtain ⟨ad212, e212, hx212_0⟩ := Kd.at_int (Kd.R_reads' HO_4.out).2.2 x31_2 p212 q212
                   cases e212
                   replace p212 := eq_true p212
                   replace q212 := eq_true q212
                   have p213 : 0 ≤ (x5_1 : Int) := odt
                   have q213 : x5_1 < (x4_2.length : Int) := odt
                   obtain ⟨ad213, e213, hx213_0⟩ := Kd.at_int (Kd.R_reads' HO_4.out).2.2 x5_1 p213 q213
                   obtain rfl : ad212 = ad213 := (by injection e213)
                   replace p213 := eq_true p213
                   replace q213 := eq_true q213
                   go_wp2
                   repeat (go_quiet (fail); try go_wp2)
                   go_roundg k2
                   case measure => have := HK1.out; have := HK2.out; omega
                   case rel => exact ⟨(x4_2), (wrap64 (x31_2 + 1)), (by first | rfl | (simp; done) | (simp [*]; done)), H', ⟨by have := HK1.out; have := HK2.out; omega⟩, ⟨by (with_reducible repeat first|apply rA|apply rN|apply rD); exact HO_4.out⟩, ⟨by exact bq⟩⟩
                 ·rw [if_neg c18] at H
                  exact absurd H (by simp)
                ·rw [if_neg c17] at H
                 exact absurd H (by simp)
               ·rw [if_neg c16] at H
                exact absurd H (by simp)
              ·rw [if_neg c15] at H
               exact absurd H (by simp)
             ·rw [if_neg c14] at H
              have c14b0 : decide (x31_2 < x5_1) = false := decide_eq_false c14
              clear c14
              have H' := aM H
              clear H
              go_wp2
              repeat (go_quiet (fail); try go_wp2)
              go_roundg k2
              case measure => have := HK1.out; have := HK2.out; omega
              case rel => exact ⟨(x4_2), (wrap64 (x5_1 - 1)), (by first | rfl | (simp; done) | (simp [*]; done)), H', ⟨by have := HK1.out; have := HK2.out; omega⟩, ⟨by (with_reducible repeat first|apply rA|apply rN|apply rD); exact HO_4.out⟩, ⟨by exact bq⟩⟩
         ·rw [if_neg c12] at H
          exact absurd H (by simp)
        ·rw [if_neg c11] at H
         exact absurd H (by simp)
       ·rw [if_neg c10] at H
        exact absurd H (by simp)
      ·rw [if_neg c9] at H
       exact absurd H (by simp)
     ·rw [if_neg c7] at H
      have c7b0 : decide (0 < x5_1) = false := decide_eq_false c7
      clear c7
      replace H := Option.bind_eq_some_iff.mp H
      obtain ⟨t216, A250, H⟩ := H
      replace H : (if t216 = true then ((impl_modified.f k1 x4_1).bind fun t217 => ((slices_Equal_int_int.f k1 t217 l0).bind fun t220 => (if t220 = true then (some (x4_1, true)) else (some (([] : List Int), false))))) else (some (([] : List Int), false))) = some (r1, r2) := H
      have A25 := aM A250
      clear A250
      by_cases c26 : t216 = true
      ·subst c26
       have H1 : ((impl_modified.f k1 x4_1).bind fun t217 => ((slices_Equal_int_int.f k1 t217 l0).bind fun t220 => (if t220 = true then (some (x4_1, true)) else (some (([] : List Int), false))))) = some (r1, r2) := by rw [if_pos rfl] at H; exact H
       clear H
       have H := H1
       clear H1
       replace H := Option.bind_eq_some_iff.mp H
       obtain ⟨t217, A270, H⟩ := H
       replace H : ((slices_Equal_int_int.f k1 t217 l0).bind fun t220 => (if t220 = true then (some (x4_1, true)) else (some (([] : List Int), false)))) = some (r1, r2) := H
       have A27 := aM A270
       clear A270
       replace H := Option.bind_eq_some_iff.mp H
       obtain ⟨t220, A280, H⟩ := H
       replace H : (if t220 = true then (some (x4_1, true)) else (some (([] : List Int), false))) = some (r1, r2) := H
       have A28 := aM A280
       clear A280
       by_cases c29 : t220 = true
       ·subst c29
        have H1 : (some (x4_1, true)) = some (r1, r2) := by rw [if_pos rfl] at H; exact H
        clear H
        have H := H1
        clear H1
        simp only [Option.some.injEq, Prod.mk.injEq] at H
        obtain ⟨rfl, rfl⟩ := H
        obtain ⟨Ao30, co30, eo30⟩ := Kd.R_slice HO_4.out
        subst eo30
        go_wp2_with (first | (go_at_call 85; (with_reducible refine (impl_IsAscent.calls k1 _ _ x4_1 true _ (cQ ((Kd.R_reads' HO_4.out).2.2)) ((Kd.R_reads' HO_4.out).2.1) A25.out).mono ?_); rintro e w' ⟨rfl, ⟨nd, rfl⟩⟩; (try first | exact ⟨rfl, _, World.drewN_drewN _ _ _⟩ | exact ⟨rfl, _, Eq.trans (World.drewN_drewN _ _ _) (congrArg (World.drewN _) (Nat.add_assoc _ _ _))⟩)) | (go_at_call 110; (with_reducible refine (impl_modified.calls k1 _ _ x4_1 t217 _ (cQ ((Kd.R_reads' HO_4.out).2.2)) ((Kd.R_reads' HO_4.out).2.1) A27.out).mono ?_); rintro e w31 ⟨v218, rfl, ho0, hb⟩; have _ := aM (Kd.R_elder' (rQ HO_4) (Kd.R_base ho0) hb); have _ := aM (Kd.R_lower (Kd.R_new' ho0 (Kd.R_lt (rQ HO_4))) (below_size bq)); have _ := aM (below_step bq hb); clear HO_4 HB; rename_i HO_4 HO219 HB; (try clear hb); (try clear hb2); (try clear hk); (try clear hi); (try clear ho0); obtain ⟨Ao32, co32, eo32⟩ := Kd.R_slice HO219.out; subst eo32) | (go_at_call 112; (with_reducible refine (slices_Equal_int_int.calls k1 _ _ t217 _ _ l0 true _ (cQ ((Kd.R_reads' HO219.out).2.2)) ((Kd.R_reads' HO219.out).2.1) ?side3 ?side4 A28.out).mono ?_); (case side3 => repeat (first | exact (Kd.C_below HR0.out HB.out) | (with_reducible refine Kd.C_alloc ?_ _) | (with_reducible refine Kd.C_drewN ?_ _) | (with_reducible refine Kd.C_drew ?_))); (case side4 => exact HC0.out); rintro e w' ⟨rfl, ⟨nd, rfl⟩⟩; (try first | exact ⟨rfl, _, World.drewN_drewN _ _ _⟩ | exact ⟨rfl, _, Eq.trans (World.drewN_drewN _ _ _) (congrArg (World.drewN _) (Nat.add_assoc _ _ _))⟩)))
        repeat (go_quiet (first | (go_at_call 85; (with_reducible refine (impl_IsAscent.calls k1 _ _ x4_1 true _ (cQ ((Kd.R_reads' HO_4.out).2.2)) ((Kd.R_reads' HO_4.out).2.1) A25.out).mono ?_); rintro e w' ⟨rfl, ⟨nd, rfl⟩⟩; (try first | exact ⟨rfl, _, World.drewN_drewN _ _ _⟩ | exact ⟨rfl, _, Eq.trans (World.drewN_drewN _ _ _) (congrArg (World.drewN _) (Nat.add_assoc _ _ _))⟩)) | (go_at_call 110; (with_reducible refine (impl_modified.calls k1 _ _ x4_1 t217 _ (cQ ((Kd.R_reads' HO_4.out).2.2)) ((Kd.R_reads' HO_4.out).2.1) A27.out).mono ?_); rintro e w31 ⟨v218, rfl, ho0, hb⟩; have _ := aM (Kd.R_elder' (rQ HO_4) (Kd.R_base ho0) hb); have _ := aM (Kd.R_lower (Kd.R_new' ho0 (Kd.R_lt (rQ HO_4))) (below_size bq)); have _ := aM (below_step bq hb); clear HO_4 HB; rename_i HO_4 HO219 HB; (try clear hb); (try clear hb2); (try clear hk); (try clear hi); (try clear ho0); obtain ⟨Ao32, co32, eo32⟩ := Kd.R_slice HO219.out; subst eo32) | (go_at_call 112; (with_reducible refine (slices_Equal_int_int.calls k1 _ _ t217 _ _ l0 true _ (cQ ((Kd.R_reads' HO219.out).2.2)) ((Kd.R_reads' HO219.out).2.1) ?side3 ?side4 A28.out).mono ?_); (case side3 => repeat (first | exact (Kd.C_below HR0.out HB.out) | (with_reducible refine Kd.C_alloc ?_ _) | (with_reducible refine Kd.C_drewN ?_ _) | (with_reducible refine Kd.C_drew ?_))); (case side4 => exact HC0.out); rintro e w' ⟨rfl, ⟨nd, rfl⟩⟩; (try first | exact ⟨rfl, _, World.drewN_drewN _ _ _⟩ | exact ⟨rfl, _, Eq.trans (World.drewN_drewN _ _ _) (congrArg (World.drewN _) (Nat.add_assoc _ _ _))⟩))); try go_wp2_with (first | (go_at_call 85; (with_reducible refine (impl_IsAscent.calls k1 _ _ x4_1 true _ (cQ ((Kd.R_reads' HO_4.out).2.2)) ((Kd.R_reads' HO_4.out).2.1) A25.out).mono ?_); rintro e w' ⟨rfl, ⟨nd, rfl⟩⟩; (try first | exact ⟨rfl, _, World.drewN_drewN _ _ _⟩ | exact ⟨rfl, _, Eq.trans (World.drewN_drewN _ _ _) (congrArg (World.drewN _) (Nat.add_assoc _ _ _))⟩)) | (go_at_call 110; (with_reducible refine (impl_modified.calls k1 _ _ x4_1 t217 _ (cQ ((Kd.R_reads' HO_4.out).2.2)) ((Kd.R_reads' HO_4.out).2.1) A27.out).mono ?_); rintro e w31 ⟨v218, rfl, ho0, hb⟩; have _ := aM (Kd.R_elder' (rQ HO_4) (Kd.R_base ho0) hb); have _ := aM (Kd.R_lower (Kd.R_new' ho0 (Kd.R_lt (rQ HO_4))) (below_size bq)); have _ := aM (below_step bq hb); clear HO_4 HB; rename_i HO_4 HO219 HB; (try clear hb); (try clear hb2); (try clear hk); (try clear hi); (try clear ho0); obtain ⟨Ao32, co32, eo32⟩ := Kd.R_slice HO219.out; subst eo32) | (go_at_call 112; (with_reducible refine (slices_Equal_int_int.calls k1 _ _ t217 _ _ l0 true _ (cQ ((Kd.R_reads' HO219.out).2.2)) ((Kd.R_reads' HO219.out).2.1) ?side3 ?side4 A28.out).mono ?_); (case side3 => repeat (first | exact (Kd.C_below HR0.out HB.out) | (with_reducible refine Kd.C_alloc ?_ _) | (with_reducible refine Kd.C_drewN ?_ _) | (with_reducible refine Kd.C_drew ?_))); (case side4 => exact HC0.out); rintro e w' ⟨rfl, ⟨nd, rfl⟩⟩; (try first | exact ⟨rfl, _, World.drewN_drewN _ _ _⟩ | exact ⟨rfl, _, Eq.trans (World.drewN_drewN _ _ _) (congrArg (World.drewN _) (Nat.add_assoc _ _ _))⟩))))
        go_ret2
        exact ⟨_, by first | rfl | (simp [errW_none, errW_some] <;> rfl) | (simp [*, errW_none, errW_some] <;> rfl), by (with_reducible repeat first|apply rA|apply rN|apply rD); exact Kd.R_mono HO_4.out (fun _ hk => trivial), by exact bq⟩
       ·replace c29 := Bool.eq_false_iff.mpr c29
        subst c29
        have H1 : (some (([] : List Int), false)) = some (r1, r2) := by rw [if_neg (show ¬ (false = true) by decide)] at H; exact H
        clear H
        have H := H1
        clear H1
        simp only [Option.some.injEq, Prod.mk.injEq] at H
        obtain ⟨rfl, rfl⟩ := H
        obtain ⟨Ao33, co33, eo33⟩ := Kd.R_slice HO_4.out
        subst eo33
        go_wp2_with (first | (go_at_call 85; (with_reducible refine (impl_IsAscent.calls k1 _ _ x4_1 true _ (cQ ((Kd.R_reads' HO_4.out).2.2)) ((Kd.R_reads' HO_4.out).2.1) A25.out).mono ?_); rintro e w' ⟨rfl, ⟨nd, rfl⟩⟩; (try first | exact ⟨rfl, _, World.drewN_drewN _ _ _⟩ | exact ⟨rfl, _, Eq.trans (World.drewN_drewN _ _ _) (congrArg (World.drewN _) (Nat.add_assoc _ _ _))⟩)) | (go_at_call 110; (with_reducible refine (impl_modified.calls k1 _ _ x4_1 t217 _ (cQ ((Kd.R_reads' HO_4.out).2.2)) ((Kd.R_reads' HO_4.out).2.1) A27.out).mono ?_); rintro e w34 ⟨v218, rfl, ho0, hb⟩; have _ := aM (Kd.R_elder' (rQ HO_4) (Kd.R_base ho0) hb); have _ := aM (Kd.R_lower (Kd.R_new' ho0 (Kd.R_lt (rQ HO_4))) (below_size bq)); have _ := aM (below_step bq hb); clear HO_4 HB; rename_i HO_4 HO219 HB; (try clear hb); (try clear hb2); (try clear hk); (try clear hi); (try clear ho0); obtain ⟨Ao35, co35, eo35⟩ := Kd.R_slice HO219.out; subst eo35) | (go_at_call 112; (with_reducible refine (slices_Equal_int_int.calls k1 _ _ t217 _ _ l0 false _ (cQ ((Kd.R_reads' HO219.out).2.2)) ((Kd.R_reads' HO219.out).2.1) ?side3 ?side4 A28.out).mono ?_); (case side3 => repeat (first | exact (Kd.C_below HR0.out HB.out) | (with_reducible refine Kd.C_alloc ?_ _) | (with_reducible refine Kd.C_drewN ?_ _) | (with_reducible refine Kd.C_drew ?_))); (case side4 => exact HC0.out); rintro e w' ⟨rfl, ⟨nd, rfl⟩⟩; (try first | exact ⟨rfl, _, World.drewN_drewN _ _ _⟩ | exact ⟨rfl, _, Eq.trans (World.drewN_drewN _ _ _) (congrArg (World.drewN _) (Nat.add_assoc _ _ _))⟩)))
        repeat (go_quiet (first | (go_at_call 85; (with_reducible refine (impl_IsAscent.calls k1 _ _ x4_1 true _ (cQ ((Kd.R_reads' HO_4.out).2.2)) ((Kd.R_reads' HO_4.out).2.1) A25.out).mono ?_); rintro e w' ⟨rfl, ⟨nd, rfl⟩⟩; (try first | exact ⟨rfl, _, World.drewN_drewN _ _ _⟩ | exact ⟨rfl, _, Eq.trans (World.drewN_drewN _ _ _) (congrArg (World.drewN _) (Nat.add_assoc _ _ _))⟩)) | (go_at_call 110; (with_reducible refine (impl_modified.calls k1 _ _ x4_1 t217 _ (cQ ((Kd.R_reads' HO_4.out).2.2)) ((Kd.R_reads' HO_4.out).2.1) A27.out).mono ?_); rintro e w34 ⟨v218, rfl, ho0, hb⟩; have _ := aM (Kd.R_elder' (rQ HO_4) (Kd.R_base ho0) hb); have _ := aM (Kd.R_lower (Kd.R_new' ho0 (Kd.R_lt (rQ HO_4))) (below_size bq)); have _ := aM (below_step bq hb); clear HO_4 HB; rename_i HO_4 HO219 HB; (try clear hb); (try clear hb2); (try clear hk); (try clear hi); (try clear ho0); obtain ⟨Ao35, co35, eo35⟩ := Kd.R_slice HO219.out; subst eo35) | (go_at_call 112; (with_reducible refine (slices_Equal_int_int.calls k1 _ _ t217 _ _ l0 false _ (cQ ((Kd.R_reads' HO219.out).2.2)) ((Kd.R_reads' HO219.out).2.1) ?side3 ?side4 A28.out).mono ?_); (case side3 => repeat (first | exact (Kd.C_below HR0.out HB.out) | (with_reducible refine Kd.C_alloc ?_ _) | (with_reducible refine Kd.C_drewN ?_ _) | (with_reducible refine Kd.C_drew ?_))); (case side4 => exact HC0.out); rintro e w' ⟨rfl, ⟨nd, rfl⟩⟩; (try first | exact ⟨rfl, _, World.drewN_drewN _ _ _⟩ | exact ⟨rfl, _, Eq.trans (World.drewN_drewN _ _ _) (congrArg (World.drewN _) (Nat.add_assoc _ _ _))⟩))); try go_wp2_with (first | (go_at_call 85; (with_reducible refine (impl_IsAscent.calls k1 _ _ x4_1 true _ (cQ ((Kd.R_reads' HO_4.out).2.2)) ((Kd.R_reads' HO_4.out).2.1) A25.out).mono ?_); rintro e w' ⟨rfl, ⟨nd, rfl⟩⟩; (try first | exact ⟨rfl, _, World.drewN_drewN _ _ _⟩ | exact ⟨rfl, _, Eq.trans (World.drewN_drewN _ _ _) (congrArg (World.drewN _) (Nat.add_assoc _ _ _))⟩)) | (go_at_call 110; (with_reducible refine (impl_modified.calls k1 _ _ x4_1 t217 _ (cQ ((Kd.R_reads' HO_4.out).2.2)) ((Kd.R_reads' HO_4.out).2.1) A27.out).mono ?_); rintro e w34 ⟨v218, rfl, ho0, hb⟩; have _ := aM (Kd.R_elder' (rQ HO_4) (Kd.R_base ho0) hb); have _ := aM (Kd.R_lower (Kd.R_new' ho0 (Kd.R_lt (rQ HO_4))) (below_size bq)); have _ := aM (below_step bq hb); clear HO_4 HB; rename_i HO_4 HO219 HB; (try clear hb); (try clear hb2); (try clear hk); (try clear hi); (try clear ho0); obtain ⟨Ao35, co35, eo35⟩ := Kd.R_slice HO219.out; subst eo35) | (go_at_call 112; (with_reducible refine (slices_Equal_int_int.calls k1 _ _ t217 _ _ l0 false _ (cQ ((Kd.R_reads' HO219.out).2.2)) ((Kd.R_reads' HO219.out).2.1) ?side3 ?side4 A28.out).mono ?_); (case side3 => repeat (first | exact (Kd.C_below HR0.out HB.out) | (with_reducible refine Kd.C_alloc ?_ _) | (with_reducible refine Kd.C_drewN ?_ _) | (with_reducible refine Kd.C_drew ?_))); (case side4 => exact HC0.out); rintro e w' ⟨rfl, ⟨nd, rfl⟩⟩; (try first | exact ⟨rfl, _, World.drewN_drewN _ _ _⟩ | exact ⟨rfl, _, Eq.trans (World.drewN_drewN _ _ _) (congrArg (World.drewN _) (Nat.add_assoc _ _ _))⟩))))
        go_ret2
        exact ⟨_, by first | rfl | (simp [errW_none, errW_some] <;> rfl) | (simp [*, errW_none, errW_some] <;> rfl), by first | exact Kd.R_nil _ _ _ _ _ | exact Kd.N_nil _ _ _ _ _ | exact Kd.V_nil _ _ _ _ _ | exact Kd.Q_nil _ _ _ _ _ | exact Kd.S_nil _ _ _ _ _, by exact bq⟩
      ·replace c26 := Bool.eq_false_iff.mpr c26
       subst c26
       have H1 : (some (([] : List Int), false)) = some (r1, r2) := by rw [if_neg (show ¬ (false = true) by decide)] at H; exact H
       clear H
       have H := H1
       clear H1
       simp only [Option.some.injEq, Prod.mk.injEq] at H
       obtain ⟨rfl, rfl⟩ := H
       obtain ⟨Ao36, co36, eo36⟩ := Kd.R_slice HO_4.out
       subst eo36
       go_wp2_with (first | (go_at_call 85; (with_reducible refine (impl_IsAscent.calls k1 _ _ x4_1 false _ (cQ ((Kd.R_reads' HO_4.out).2.2)) ((Kd.R_reads' HO_4.out).2.1) A25.out).mono ?_); rintro e w' ⟨rfl, ⟨nd, rfl⟩⟩; (try first | exact ⟨rfl, _, World.drewN_drewN _ _ _⟩ | exact ⟨rfl, _, Eq.trans (World.drewN_drewN _ _ _) (congrArg (World.drewN _) (Nat.add_assoc _ _ _))⟩)))
       repeat (go_quiet (first | (go_at_call 85; (with_reducible refine (impl_IsAscent.calls k1 _ _ x4_1 false _ (cQ ((Kd.R_reads' HO_4.out).2.2)) ((Kd.R_reads' HO_4.out).2.1) A25.out).mono ?_); rintro e w' ⟨rfl, ⟨nd, rfl⟩⟩; (try first | exact ⟨rfl, _, World.drewN_drewN _ _ _⟩ | exact ⟨rfl, _, Eq.trans (World.drewN_drewN _ _ _) (congrArg (World.drewN _) (Nat.add_assoc _ _ _))⟩))); try go_wp2_with (first | (go_at_call 85; (with_reducible refine (impl_IsAscent.calls k1 _ _ x4_1 false _ (cQ ((Kd.R_reads' HO_4.out).2.2)) ((Kd.R_reads' HO_4.out).2.1) A25.out).mono ?_); rintro e w' ⟨rfl, ⟨nd, rfl⟩⟩; (try first | exact ⟨rfl, _, World.drewN_drewN _ _ _⟩ | exact ⟨rfl, _, Eq.trans (World.drewN_drewN _ _ _) (congrArg (World.drewN _) (Nat.add_assoc _ _ _))⟩))))
       go_ret2
       exact ⟨_, by first | rfl | (simp [errW_none, errW_some] <;> rfl) | (simp [*, errW_none, errW_some] <;> rfl), by first | exact Kd.R_nil _ _ _ _ _ | exact Kd.N_nil _ _ _ _ _ | exact Kd.V_nil _ _ _ _ _ | exact Kd.Q_nil _ _ _ _ _ | exact Kd.S_nil _ _ _ _ _, by exact bq⟩
  ·rw [if_neg c3] at H
   exact absurd H (by simp)

/-! ### spec_l1All: function 113 -/
def spec_l1All.l0 : Nat → Int → Int → List Int → Int → Int → Option (Bool)
 | 0, _, _, _, _, _ => none
 | k + 1, x1, x2, x9, x10, x11 => if x11 < x10 then (if 0 ≤ x11 then (if x11 < (x9.length : Int) then ((spec_l1In.f (rd x9 x11) x1 x2).bind fun t222 => (if t222 = true then (spec_l1All.l0 k x1 x2 x9 x10 (wrap64 (x11 + 1))) else (some false))) else (none)) else (none)) else (some true)
def spec_l1All.f (k : Nat) (l0 : List Int) (a1 : Int) (a2 : Int) : Option (Bool) := spec_l1All.l0 k a1 a2 l0 (l0.length : Int) 0
theorem spec_l1All.mono_l : ∀ k, (∀ y0 y1 y2 y3 y4, LeO (spec_l1All.l0 k y0 y1 y2 y3 y4) (spec_l1All.l0 (k + 1) y0 y1 y2 y3 y4))
 | 0 => fun _ _ _ _ _ r h => by simp [spec_l1All.l0] at h
 | k + 1 => by
  have ih0 := spec_l1All.mono_l k
  ·intro y0 y1 y2 y3 y4
   unfold spec_l1All.l0
   repeat' first | with_reducible first | exact ih0 _ _ _ _ _ | exact LeO.refl _ | exact LeO.none _ | refine LeO.ite ?_ ?_ | refine LeO.bind ?_ (fun _ => ?_)
theorem spec_l1All.mono : ∀ a0 a1 a2 k, LeO (spec_l1All.f k a0 a1 a2) (spec_l1All.f (k + 1) a0 a1 a2) := by
 intro a0 a1 a2 k
 have ih0 := spec_l1All.mono_l k
 unfold spec_l1All.f
 repeat' first | with_reducible first | exact ih0 _ _ _ _ _ | exact LeO.refl _ | exact LeO.none _ | refine LeO.ite ?_ ?_ | refine LeO.bind ?_ (fun _ => ?_)
set_option maxHeartbeats 8000000 in
set_option maxRecDepth 100000 in
theorem spec_l1All.calls (k : Nat) (A0 : Option Addr) (c0 : Nat) (l0 : List Int) (a1 : Int) (a2 : Int) (r : Bool) (w : World) (hr0 : Kd.C (Kd.int .i64) w A0 l0.length l0) (hc0 : l0.length ≤ c0) (h : spec_l1All.f k l0 a1 a2 = some r) :
  Calls Try.prog 113 #[.slice A0 l0.length c0, .int .i64 a1, .int .i64 a2] w fun e w' => e = .returned (.bool r) ∧ Drawn0 w w' := by
 have HR0 := aM hr0
 have HC0 := aM hc0
 clear hr0 hc0
 have H : (spec_l1All.l0 k a1 a2 l0 (l0.length : Int) 0) = some r := h
 clear h
 have H' := aM H
 clear H
 go_enter Try.func113, Try.ntmps113
 go_wp2
 go_loopg [11] k (fun kq v11 w' => ∃ (x11_1 : Int), v11 = .int .i64 x11_1 ∧ Aside0 (spec_l1All.l0 kq a1 a2 l0 (l0.length : Int) x11_1 = some r) ∧ Aside0 (kq ≤ k) ∧ Drawn0 w w')
 case atStart => exact ⟨(0), (by first | rfl | (simp; done) | (simp [*]; done)), H', ⟨Nat.le_refl _⟩, by repeat (first | exact Drawn0.refl _ | apply Drawn0.step)⟩
 case round =>
  clear H'
  try clear c1
  try clear p2
  obtain ⟨x11_1, rfl, HA, HK1, ⟨m1, rfl⟩⟩ := hrel
  cases gk with
  | zero => exact absurd HA.out (by simp [spec_l1All.l0])
  | succ k1 =>
   have H := HA.out
   clear HA
   simp only [spec_l1All.l0] at H
   by_cases c4 : x11_1 < (l0.length : Int)
   ·rw [if_pos c4] at H
    have c4b0 : decide (x11_1 < (l0.length : Int)) = true := decide_eq_true c4
    clear c4
    by_cases c5 : 0 ≤ x11_1
    ·rw [if_pos c5] at H
     have c5b0 : decide (0 ≤ x11_1) = true := decide_eq_true c5
     clear c5
     by_cases c6 : x11_1 < (l0.length : Int)
     ·rw [if_pos c6] at H
      have c6b0 : decide (x11_1 < (l0.length : Int)) = true := decide_eq_true c6
      clear c6
      replace H := Option.bind_eq_some_iff.mp H
      obtain ⟨t222, A70, H⟩ := H
      replace H : (if t222 = true then (spec_l1All.l0 k1 a1 a2 l0 (l0.length : Int) (wrap64 (x11_1 + 1))) else (some false)) = some r := H
      have A7 := aM A70
      clear A70
      by_cases c8 : t222 = true
      ·subst c8
       have H1 : (spec_l1All.l0 k1 a1 a2 l0 (l0.length : Int) (wrap64 (x11_1 + 1))) = some r := by rw [if_pos rfl] at H; exact H
       clear H
       have H := H1
       clear H1
       have H' := aM H
       clear H
       have p221 : 0 ≤ (x11_1 : Int) := odt
       have q221 : x11_1 < (l0.length : Int) := odt
       obtain ⟨ad221, e221, hx221_0⟩ := Kd.at_int HR0.out x11_1 p221 q221
       cases e221
       replace p221 := eq_true p221
       replace q221 := eq_true q221
       go_wp2_with (first | ((with_reducible refine gate_callee (f := 105) rfl ?_); refine gL (some 18) Try.func105 #[.int .i64 (rd l0 x11_1), .int .i64 a1, .int .i64 a2] ?_; (with_reducible refine (spec_l1In.calls (rd l0 x11_1) a1 a2 true _ A7.out).mono ?_); rintro e w' ⟨rfl, ⟨nd, rfl⟩⟩; refine ⟨_, rfl, ?_⟩))
       go_roundg k1
       case measure => have := HK1.out; omega
       case rel => exact ⟨(wrap64 (x11_1 + 1)), (by first | rfl | (simp; done) | (simp [*]; done)), H', ⟨by have := HK1.out; omega⟩, by repeat (first | exact Drawn0.refl _ | apply Drawn0.step)⟩
      ·replace c8 := Bool.eq_false_iff.mpr c8
       subst c8
       have H1 : (some false) = some r := by rw [if_neg (show ¬ (false = true) by decide)] at H; exact H
       clear H
       have H := H1
       clear H1
       obtain rfl := Option.some.inj H
       have p221 : 0 ≤ (x11_1 : Int) := odt
       have q221 : x11_1 < (l0.length : Int) := odt
       obtain ⟨ad221, e221, hx221_0⟩ := Kd.at_int HR0.out x11_1 p221 q221
       cases e221
       replace p221 := eq_true p221
       replace q221 := eq_true q221
       go_wp2_with (first | ((with_reducible refine gate_callee (f := 105) rfl ?_); refine gL (some 18) Try.func105 #[.int .i64 (rd l0 x11_1), .int .i64 a1, .int .i64 a2] ?_; (with_reducible refine (spec_l1In.calls (rd l0 x11_1) a1 a2 false _ A7.out).mono ?_); rintro e w' ⟨rfl, ⟨nd, rfl⟩⟩; refine ⟨_, rfl, ?_⟩))
       go_ret
       exact ⟨by first | rfl | (simp; done) | (simp [*]; done), by repeat (first | exact Drawn0.refl _ | apply Drawn0.step)⟩
     ·rw [if_neg c6] at H
      exact absurd H (by simp)
    ·rw [if_neg c5] at H
     exact absurd H (by simp)
   ·rw [if_neg c4] at H
    have c4b0 : decide (x11_1 < (l0.length : Int)) = false := decide_eq_false c4
    clear c4
    obtain rfl := Option.some.inj H
    go_wp2
    go_ret
    exact ⟨by first | rfl | (simp; done) | (simp [*]; done), by repeat (first | exact Drawn0.refl _ | apply Drawn0.step)⟩

end Go.Proofs.Ytacdlipojhoilaa.Mx
