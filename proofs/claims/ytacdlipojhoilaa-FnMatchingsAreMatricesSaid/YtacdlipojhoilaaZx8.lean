-- Written by hook.py, a program of this session (wip/), which runs the kit's print.py with its own parts; Lean checks it.
import Derived.Test.YtacdlipojhoilaaZx0
import Derived.Test.YtacdlipojhoilaaZx1
import Derived.Test.YtacdlipojhoilaaZx5
import Derived.Test.YtacdlipojhoilaaZx6
import Derived.Test.YtacdlipojhoilaaZx7
import Derived.Test.YtacdlipojhoilaaZxXSq
namespace Go.Proofs.Ytacdlipojhoilaa.Zx
open Go.RowKit Go.Proofs.YtacdlipojhoilaaW.PrintWords Go.Proofs.YtacdlipojhoilaaW.PrintLast Go.Proofs.YtacdlipojhoilaaW.PrintMore Go.Proofs.Ytacdlipojhoilaa.Sq
attribute [local go_sem] max2_int min2_int max_two min_two max_three min_three max_four min_four   -- for this text's walks alone
set_option linter.unusedVariables false
set_option linter.unusedSimpArgs false

def slices_Index_int_int.l0 : Nat → List Int → Int → Int → Int → Option (Int)
 | 0, _, _, _, _ => none
 | k + 1, x0, x1, x7, x8 => if x8 < x7 then (if 0 ≤ x8 then (if x8 < (x0.length : Int) then (if x1 = (rd x0 x8) then (some x8) else (slices_Index_int_int.l0 k x0 x1 x7 (wrap64 (x8 + 1)))) else (none)) else (none)) else (some (-1))
def slices_Index_int_int.f (k : Nat) (l0 : List Int) (a1 : Int) : Option (Int) := slices_Index_int_int.l0 k l0 a1 (l0.length : Int) 0
theorem slices_Index_int_int.mono_l : ∀ k, (∀ y0 y1 y2 y3, LeO (slices_Index_int_int.l0 k y0 y1 y2 y3) (slices_Index_int_int.l0 (k + 1) y0 y1 y2 y3))
 | 0 => fun _ _ _ _ r h => by simp [slices_Index_int_int.l0] at h
 | k + 1 => by
  have ih0 := slices_Index_int_int.mono_l k
  ·intro y0 y1 y2 y3
   unfold slices_Index_int_int.l0
   repeat' first | with_reducible first | exact ih0 _ _ _ _ | exact LeO.refl _ | exact LeO.none _ | refine LeO.ite ?_ ?_ | refine LeO.bind ?_ (fun _ => ?_)
theorem slices_Index_int_int.mono : ∀ a0 a1 k, LeO (slices_Index_int_int.f k a0 a1) (slices_Index_int_int.f (k + 1) a0 a1) := by
 intro a0 a1 k
 have ih0 := slices_Index_int_int.mono_l k
 unfold slices_Index_int_int.f
 repeat' first | with_reducible first | exact ih0 _ _ _ _ | exact LeO.refl _ | exact LeO.none _ | refine LeO.ite ?_ ?_ | refine LeO.bind ?_ (fun _ => ?_)
set_option maxHeartbeats 8000000 in
set_option maxRecDepth 100000 in
theorem slices_Index_int_int.calls (k : Nat) (A0 : Option Addr) (c0 : Nat) (l0 : List Int) (a1 : Int) (r : Int) (w : World) (hr0 : Kd.C (Kd.int .i64) w A0 l0.length l0) (hc0 : l0.length ≤ c0) (h : slices_Index_int_int.f k l0 a1 = some r) :
  Calls Try.prog 136 #[.slice A0 l0.length c0, .int .i64 a1] w fun e w' => e = .returned (.int .i64 r) ∧ Drawn0 w w' := by
 have HR0 := aM hr0
 have HC0 := aM hc0
 clear hr0 hc0
 have H : (slices_Index_int_int.l0 k l0 a1 (l0.length : Int) 0) = some r := h
 clear h
 have H' := aM H
 clear H
 go_enter Try.func136, Try.ntmps136
 go_wp2
 go_loopg [8] k (fun kq v8 w' => ∃ (x8_1 : Int), v8 = .int .i64 x8_1 ∧ Aside0 (slices_Index_int_int.l0 kq l0 a1 (l0.length : Int) x8_1 = some r) ∧ Aside0 (kq ≤ k) ∧ Drawn0 w w')
 case atStart => exact ⟨(0), (by first | rfl | (simp; done) | (simp [*]; done)), H', ⟨Nat.le_refl _⟩, by repeat (first | exact Drawn0.refl _ | apply Drawn0.step)⟩
 case round =>
  clear H'
  try clear c1
  try clear p2
  obtain ⟨x8_1, rfl, HA, HK1, ⟨m1, rfl⟩⟩ := hrel
  cases gk with
  | zero => exact absurd HA.out (by simp [slices_Index_int_int.l0])
  | succ k1 =>
   have H := HA.out
   clear HA
   simp only [slices_Index_int_int.l0] at H
   by_cases c3 : x8_1 < (l0.length : Int)
   ·rw [if_pos c3] at H
    have c3b0 : decide (x8_1 < (l0.length : Int)) = true := decide_eq_true c3
    clear c3
    by_cases c4 : 0 ≤ x8_1
    ·rw [if_pos c4] at H
     have c4b0 : decide (0 ≤ x8_1) = true := decide_eq_true c4
     clear c4
     by_cases c5 : x8_1 < (l0.length : Int)
     ·rw [if_pos c5] at H
      have c5b0 : decide (x8_1 < (l0.length : Int)) = true := decide_eq_true c5
      clear c5
      by_cases c6 : a1 = (rd l0 x8_1)
      ·rw [if_pos c6] at H
       have c6b0 : (a1 == (rd l0 x8_1)) = true := beq_iff_eq.mpr c6
       have c6b1 : (a1 != (rd l0 x8_1)) = false := bne_eq_false_iff_eq.mpr c6
       clear c6
       obtain rfl := Option.some.inj H
       have p198 : 0 ≤ (x8_1 : Int) := odt
       have q198 : x8_1 < (l0.length : Int) := odt
       obtain ⟨ad198, e198, hx198_0⟩ := Kd.at_int HR0.out x8_1 p198 q198
       cases e198
       replace p198 := eq_true p198
       replace q198 := eq_true q198
       go_wp2
       go_ret
       exact ⟨by first | rfl | (simp; done) | (simp [*]; done), by repeat (first | exact Drawn0.refl _ | apply Drawn0.step)⟩
      ·rw [if_neg c6] at H
       have c6b0 : (a1 == (rd l0 x8_1)) = false := beq_eq_false_iff_ne.mpr c6
       have c6b1 : (a1 != (rd l0 x8_1)) = true := bne_iff_ne.mpr c6
       have H' := aM H
       clear H
       have p198 : 0 ≤ (x8_1 : Int) := odt
       have q198 : x8_1 < (l0.length : Int) := odt
       obtain ⟨ad198, e198, hx198_0⟩ := Kd.at_int HR0.out x8_1 p198 q198
       cases e198
       replace p198 := eq_true p198
       replace q198 := eq_true q198
       go_wp2
       go_roundg k1
       case measure => have := HK1.out; omega
       case rel => exact ⟨(wrap64 (x8_1 + 1)), (by first | rfl | (simp; done) | (simp [*]; done)), H', ⟨by have := HK1.out; omega⟩, by repeat (first | exact Drawn0.refl _ | apply Drawn0.step)⟩
     ·rw [if_neg c5] at H
      exact absurd H (by simp)
    ·rw [if_neg c4] at H
     exact absurd H (by simp)
   ·rw [if_neg c3] at H
    have c3b0 : decide (x8_1 < (l0.length : Int)) = false := decide_eq_false c3
    clear c3
    obtain rfl := Option.some.inj H
    go_wp2
    go_ret
    exact ⟨by first | rfl | (simp; done) | (simp [*]; done), by repeat (first | exact Drawn0.refl _ | apply Drawn0.step)⟩

def slices_Contains_int_int.f (k : Nat) (l0 : List Int) (a1 : Int) : Option (Bool) := (slices_Index_int_int.f k l0 a1).bind fun t199 => (some (decide (t199 ≥ 0)))
theorem slices_Contains_int_int.mono : ∀ a0 a1 k, LeO (slices_Contains_int_int.f k a0 a1) (slices_Contains_int_int.f (k + 1) a0 a1) := by
 intro a0 a1 k
 unfold slices_Contains_int_int.f
 repeat' first | with_reducible first | exact slices_Index_int_int.mono _ _ _ | exact LeO.refl _ | exact LeO.none _ | refine LeO.ite ?_ ?_ | refine LeO.bind ?_ (fun _ => ?_)
set_option maxHeartbeats 8000000 in
set_option maxRecDepth 100000 in
theorem slices_Contains_int_int.calls (k : Nat) (A0 : Option Addr) (c0 : Nat) (l0 : List Int) (a1 : Int) (r : Bool) (w : World) (hr0 : Kd.C (Kd.int .i64) w A0 l0.length l0) (hc0 : l0.length ≤ c0) (h : slices_Contains_int_int.f k l0 a1 = some r) :
  Calls Try.prog 93 #[.slice A0 l0.length c0, .int .i64 a1] w fun e w' => e = .returned (.bool r) ∧ Drawn0 w w' := by
 have HR0 := aM hr0
 have HC0 := aM hc0
 clear hr0 hc0
 have H : ((slices_Index_int_int.f k l0 a1).bind fun t199 => (some (decide (t199 ≥ 0)))) = some r := h
 clear h
 replace H := Option.bind_eq_some_iff.mp H
 obtain ⟨t199, A30, H⟩ := H
 replace H : (some (decide (t199 ≥ 0))) = some r := H
 have A3 := aM A30
 clear A30
 obtain rfl := Option.some.inj H
 go_enter Try.func93, Try.ntmps93
 go_wp2_with (first | ((with_reducible refine gate_callee (f := 136) rfl ?_); refine gL (some 7) Try.func136 #[.slice A0 l0.length c0, .int .i64 a1] ?_; (with_reducible refine (slices_Index_int_int.calls k _ _ l0 a1 t199 _ (cQ HR0.out) HC0.out A3.out).mono ?_); rintro e w' ⟨rfl, ⟨nd, rfl⟩⟩; refine ⟨_, rfl, ?_⟩))
 go_ret
 exact ⟨by first | rfl | (simp; done) | (simp [*]; done), by repeat (first | exact Drawn0.refl _ | apply Drawn0.step)⟩

def impl_Matrix_sum.l0 : Nat → Int → List Int → Int → Int → Option (Int)
 | 0, _, _, _, _ => none
 | k + 1, x3, x13, x14, x15 => if x15 < x14 then (if 0 ≤ x15 then (if x15 < (x13.length : Int) then (impl_Matrix_sum.l0 k (wrap64 (x3 + (rd x13 x15))) x13 x14 (wrap64 (x15 + 1))) else (none)) else (none)) else (some x3)
def impl_Matrix_sum.f (k : Nat) (l0_0 : List (List Int)) : Option (Int) := (impl_Matrix_sums.f k l0_0).bind fun bt201 => (impl_Matrix_sum.l0 k 0 bt201.1 (bt201.1.length : Int) 0)
theorem impl_Matrix_sum.mono_l : ∀ k, (∀ y0 y1 y2 y3, LeO (impl_Matrix_sum.l0 k y0 y1 y2 y3) (impl_Matrix_sum.l0 (k + 1) y0 y1 y2 y3))
 | 0 => fun _ _ _ _ r h => by simp [impl_Matrix_sum.l0] at h
 | k + 1 => by
  have ih0 := impl_Matrix_sum.mono_l k
  ·intro y0 y1 y2 y3
   unfold impl_Matrix_sum.l0
   repeat' first | with_reducible first | exact ih0 _ _ _ _ | exact impl_Matrix_sums.mono _ _ | exact LeO.refl _ | exact LeO.none _ | refine LeO.ite ?_ ?_ | refine LeO.bind ?_ (fun _ => ?_)
theorem impl_Matrix_sum.mono : ∀ a0 k, LeO (impl_Matrix_sum.f k a0) (impl_Matrix_sum.f (k + 1) a0) := by
 intro a0 k
 have ih0 := impl_Matrix_sum.mono_l k
 unfold impl_Matrix_sum.f
 repeat' first | with_reducible first | exact ih0 _ _ _ _ | exact impl_Matrix_sums.mono _ _ | exact LeO.refl _ | exact LeO.none _ | refine LeO.ite ?_ ?_ | refine LeO.bind ?_ (fun _ => ?_)
set_option maxHeartbeats 8000000 in
set_option maxRecDepth 100000 in
theorem impl_Matrix_sum.calls (k : Nat) (A0_0 : Option Addr) (c0_0 : Nat) (l0_0 : List (List Int)) (r : Int) (w : World) (hr0_0 : Kd.C (Kd.slice 3 (Kd.int .i64)) w A0_0 l0_0.length l0_0) (hc0_0 : l0_0.length ≤ c0_0) (h : impl_Matrix_sum.f k l0_0 = some r) :
  Calls Try.prog 94 #[.agg #[.slice A0_0 l0_0.length c0_0]] w fun e w' => e = .returned (.int .i64 r) ∧ Below w.heap.size w w' := by
 have hu36 := Try.underlying36
 have HR0_0 := aM hr0_0
 have HC0_0 := aM hc0_0
 clear hr0_0 hc0_0
 have HB := aM (Below.refl w.heap.size w)
 have H : ((impl_Matrix_sums.f k l0_0).bind fun bt201 => (impl_Matrix_sum.l0 k 0 bt201.1 (bt201.1.length : Int) 0)) = some r := h
 clear h
 replace H := Option.bind_eq_some_iff.mp H
 obtain ⟨⟨t201, t204⟩, A20, H⟩ := H
 replace H : (impl_Matrix_sum.l0 k 0 t201 (t201.length : Int) 0) = some r := H
 have A2 := aM A20
 clear A20
 have H' := aM H
 clear H
 go_enter Try.func94, Try.ntmps94
 go_wp2_with (first | ((with_reducible refine gate_dst (N := 1) rfl ?_); refine bE 1 36 #[.slice A0_0 l0_0.length c0_0] ?_; intro gb200 hg w3 hbox hb; have _ := aM (below_step bq hb); have _ := aM (hbox); have _ := aM ((gS hg)); have _ := aM ((gS hg)); clear HB; rename_i HB BK200 GW200 GE200; clear hb hbox hg; have hcz4_0 : w3.cell? ⟨gb200, 0, none⟩ = some (.slice A0_0 l0_0.length c0_0) := (blk_cell BK200.out 0).trans rfl; have hfz4_0 := blk_frozen BK200.out 0) | ((with_reducible refine gate_callee (f := 92) rfl ?_); refine gL (some 10) Try.func92 #[.agg #[.slice A0_0 l0_0.length c0_0]] ?_; (with_reducible refine (impl_Matrix_sums.calls k _ _ l0_0 t201 t204 _ (cQ (Kd.C_below HR0_0.out HB.out)) HC0_0.out A2.out).mono ?_); rintro e w5 ⟨v202, v205, rfl, ho0, ho1, hb⟩; refine ⟨_, rfl, ?_⟩; have _ := aM (Kd.R_lower ho0 (below_size bq)); have _ := aM (Kd.R_lower ho1 (below_size bq)); have _ := aM (blk_below (g := gb200) (o := .cells #[.slice A0_0 l0_0.length c0_0] 36 (0, 0)) (qQ BK200) hb); have _ := aM (below_step bq hb); clear BK200 HB; rename_i HO203 HO206 BK200 HB; (try clear hb); (try clear hb2); (try clear hk); (try clear hi); (try clear ho0); (try clear ho1); obtain ⟨Ao6, co6, eo6⟩ := Kd.R_slice HO203.out; subst eo6))
 go_loopg [3, 15] k (fun kq v3 v15 w' => ∃ (x3_1 : Int) (x15_1 : Int), v3 = .int .i64 x3_1 ∧ v15 = .int .i64 x15_1 ∧ Aside0 (impl_Matrix_sum.l0 kq x3_1 t201 (t201.length : Int) x15_1 = some r) ∧ Aside0 (kq ≤ k) ∧ Aside0 (Kd.R (Kd.int .i64) 3 w' w.heap.size (fun _ => True) (.slice Ao6 t201.length co6) t201) ∧ Aside0 (w'.heap[gb200]? = some (.cells #[(.slice A0_0 l0_0.length c0_0)] 36 (0, 0))) ∧ Aside0 (Below w.heap.size w w'))
 case atStart => exact ⟨(0), (0), (by first | rfl | (simp; done) | (simp [*]; done)), (by first | rfl | (simp; done) | (simp [*]; done)), H', ⟨Nat.le_refl _⟩, ⟨by (with_reducible repeat first|apply rA|apply rN|apply rD); exact Kd.R_mono HO203.out (fun _ hk => trivial)⟩, ⟨by (with_reducible repeat first|apply qN|apply qD|apply qA); exact BK200.out⟩, ⟨by exact bq⟩⟩
 case round =>
  clear H'
  try clear p2
  try clear hcz4_0
  try clear hfz4_0
  obtain ⟨x3_1, x15_1, rfl, rfl, HA, HK1, HO_13, BK200, HB⟩ := hrel
  cases gk with
  | zero => exact absurd HA.out (by simp [impl_Matrix_sum.l0])
  | succ k1 =>
   have H := HA.out
   clear HA
   simp only [impl_Matrix_sum.l0] at H
   by_cases c7 : x15_1 < (t201.length : Int)
   ·rw [if_pos c7] at H
    have c7b0 : decide (x15_1 < (t201.length : Int)) = true := decide_eq_true c7
    clear c7
    by_cases c8 : 0 ≤ x15_1
    ·rw [if_pos c8] at H
     have c8b0 : decide (0 ≤ x15_1) = true := decide_eq_true c8
     clear c8
     by_cases c9 : x15_1 < (t201.length : Int)
     ·rw [if_pos c9] at H
      have c9b0 : decide (x15_1 < (t201.length : Int)) = true := decide_eq_true c9
      clear c9
      have H' := aM H
      clear H
      have p207 : 0 ≤ (x15_1 : Int) := odt
      have q207 : x15_1 < (t201.length : Int) := odt
      obtain ⟨ad207, e207, hx207_0⟩ := Kd.at_int (Kd.R_reads' HO_13.out).2.2 x15_1 p207 q207
      cases e207
      replace p207 := eq_true p207
      replace q207 := eq_true q207
      go_wp2
      go_roundg k1
      case measure => have := HK1.out; omega
      case rel => exact ⟨(wrap64 (x3_1 + (rd t201 x15_1))), (wrap64 (x15_1 + 1)), (by first | rfl | (simp; done) | (simp [*]; done)), (by first | rfl | (simp; done) | (simp [*]; done)), H', ⟨by have := HK1.out; omega⟩, ⟨by (with_reducible repeat first|apply rA|apply rN|apply rD); exact HO_13.out⟩, ⟨by (with_reducible repeat first|apply qN|apply qD|apply qA); exact BK200.out⟩, ⟨by exact bq⟩⟩
     ·rw [if_neg c9] at H
      exact absurd H (by simp)
    ·rw [if_neg c8] at H
     exact absurd H (by simp)
   ·rw [if_neg c7] at H
    have c7b0 : decide (x15_1 < (t201.length : Int)) = false := decide_eq_false c7
    clear c7
    obtain rfl := Option.some.inj H
    go_wp2
    go_ret
    exact ⟨by first | rfl | (simp [errW_none, errW_some] <;> rfl) | (simp [*, errW_none, errW_some] <;> rfl), by exact bq⟩

def impl_IsMatrix.l0 : Nat → List (List Int) → Int → Int → List (List Int) → Option (Bool)
 | 0, _, _, _, _ => none
 | k + 1, x11, x12, x13, x209000 => if x13 < x12 then (if 0 ≤ x13 then (if x13 < (x11.length : Int) then ((impl_Matrix_size.f x209000).bind fun t211 => (if ((rd_L2 x11 x13).length : Int) = t211 then ((impl_allWithin.f k (rd_L2 x11 x13) 0 12).bind fun t212 => (if t212 = true then (if x13 ≤ ((rd_L2 x11 x13).length : Int) then ((slices_ContainsFunc_int_int.f ((rd_L2 x11 x13).take (x13 : Int).toNat)).bind fun t214 => (if t214 = true then (some false) else (impl_IsMatrix.l0 k x11 x12 (wrap64 (x13 + 1)) x209000))) else (none)) else (some false))) else (some false))) else (none)) else (none)) else ((impl_Matrix_sums.f k x209000).bind fun bt215 => ((slices_Contains_int_int.f k bt215.1 0).bind fun t221 => (if t221 = true then (some false) else ((slices_Contains_int_int.f k bt215.2 0).bind fun t222 => (if t222 = true then (some false) else ((impl_Matrix_sum.f k x209000).bind fun t223 => (some (decide (t223 ≤ 12)))))))))
def impl_IsMatrix.f (k : Nat) (l0_0 : List (List Int)) : Option (Bool) := (impl_Matrix_size.f l0_0).bind fun t209 => (if t209 > 12 then (some false) else (impl_IsMatrix.l0 k l0_0 (l0_0.length : Int) 0 l0_0))
theorem impl_IsMatrix.mono_l : ∀ k, (∀ y0 y1 y2 y3, LeO (impl_IsMatrix.l0 k y0 y1 y2 y3) (impl_IsMatrix.l0 (k + 1) y0 y1 y2 y3))
 | 0 => fun _ _ _ _ r h => by simp [impl_IsMatrix.l0] at h
 | k + 1 => by
  have ih0 := impl_IsMatrix.mono_l k
  ·intro y0 y1 y2 y3
   unfold impl_IsMatrix.l0
   repeat' first | with_reducible first | exact ih0 _ _ _ _ | exact impl_Matrix_sum.mono _ _ | exact impl_Matrix_sums.mono _ _ | exact impl_allWithin.mono _ _ _ _ | exact slices_Contains_int_int.mono _ _ _ | exact LeO.refl _ | exact LeO.none _ | refine LeO.ite ?_ ?_ | refine LeO.bind ?_ (fun _ => ?_)
theorem impl_IsMatrix.mono : ∀ a0 k, LeO (impl_IsMatrix.f k a0) (impl_IsMatrix.f (k + 1) a0) := by
 intro a0 k
 have ih0 := impl_IsMatrix.mono_l k
 unfold impl_IsMatrix.f
 repeat' first | with_reducible first | exact ih0 _ _ _ _ | exact impl_Matrix_sum.mono _ _ | exact impl_Matrix_sums.mono _ _ | exact impl_allWithin.mono _ _ _ _ | exact slices_Contains_int_int.mono _ _ _ | exact LeO.refl _ | exact LeO.none _ | refine LeO.ite ?_ ?_ | refine LeO.bind ?_ (fun _ => ?_)
set_option maxHeartbeats 8000000 in
set_option maxRecDepth 100000 in
theorem impl_IsMatrix.calls (k : Nat) (A0_0 : Option Addr) (c0_0 : Nat) (l0_0 : List (List Int)) (r : Bool) (w : World) (hr0_0 : Kd.C (Kd.slice 3 (Kd.int .i64)) w A0_0 l0_0.length l0_0) (hc0_0 : l0_0.length ≤ c0_0) (h : impl_IsMatrix.f k l0_0 = some r) :
  Calls Try.prog 33 #[.agg #[.slice A0_0 l0_0.length c0_0]] w fun e w' => e = .returned (.bool r) ∧ Below w.heap.size w w' := by
 have hu36 := Try.underlying36
 have HR0_0 := aM hr0_0
 have HC0_0 := aM hc0_0
 clear hr0_0 hc0_0
 have HB := aM (Below.refl w.heap.size w)
 have H : ((impl_Matrix_size.f l0_0).bind fun t209 => (if t209 > 12 then (some false) else (impl_IsMatrix.l0 k l0_0 (l0_0.length : Int) 0 l0_0))) = some r := h
 clear h
 replace H := Option.bind_eq_some_iff.mp H
 obtain ⟨t209, A20, H⟩ := H
 replace H : (if t209 > 12 then (some false) else (impl_IsMatrix.l0 k l0_0 (l0_0.length : Int) 0 l0_0)) = some r := H
 have A2 := aM A20
 clear A20
 by_cases c3 : t209 > 12
 ·rw [if_pos c3] at H
  have c3b0 : decide (12 < t209) = true := decide_eq_true c3
  clear c3
  obtain rfl := Option.some.inj H
  go_enter Try.func33, Try.ntmps33
  go_wp2_with (first | ((with_reducible refine gate_dst (N := 1) rfl ?_); refine bE 1 36 #[.slice A0_0 l0_0.length c0_0] ?_; intro gb208 hg w4 hbox hb; have _ := aM (below_step bq hb); have _ := aM (hbox); have _ := aM ((gS hg)); have _ := aM ((gS hg)); clear HB; rename_i HB BK208 GW208 GE208; clear hb hbox hg; have hcz5_0 : w4.cell? ⟨gb208, 0, none⟩ = some (.slice A0_0 l0_0.length c0_0) := (blk_cell BK208.out 0).trans rfl; have hfz5_0 := blk_frozen BK208.out 0) | ((with_reducible refine gate_callee (f := 89) rfl ?_); refine gL (some 8) Try.func89 #[.agg #[.slice A0_0 l0_0.length c0_0]] ?_; (with_reducible refine (impl_Matrix_size.calls _ _ l0_0 t209 _ (cQ (Kd.C_below HR0_0.out HB.out)) HC0_0.out A2.out).mono ?_); rintro e w6 ⟨rfl, hb⟩; refine ⟨_, rfl, ?_⟩; have _ := aM (blk_below (g := gb208) (o := .cells #[.slice A0_0 l0_0.length c0_0] 36 (0, 0)) (qQ BK208) hb); have _ := aM (below_step bq hb); clear BK208 HB; rename_i BK208 HB; (try clear hb); (try clear hb2); (try clear hk); (try clear hi)))
  go_ret
  exact ⟨by first | rfl | (simp [errW_none, errW_some] <;> rfl) | (simp [*, errW_none, errW_some] <;> rfl), by exact bq⟩
 ·rw [if_neg c3] at H
  have c3b0 : decide (12 < t209) = false := decide_eq_false c3
  clear c3
  have H' := aM H
  clear H
  go_enter Try.func33, Try.ntmps33
  go_wp2_with (first | ((with_reducible refine gate_dst (N := 1) rfl ?_); refine bE 1 36 #[.slice A0_0 l0_0.length c0_0] ?_; intro gb208 hg w7 hbox hb; have _ := aM (below_step bq hb); have _ := aM (hbox); have _ := aM ((gS hg)); have _ := aM ((gS hg)); clear HB; rename_i HB BK208 GW208 GE208; clear hb hbox hg; have hcz8_0 : w7.cell? ⟨gb208, 0, none⟩ = some (.slice A0_0 l0_0.length c0_0) := (blk_cell BK208.out 0).trans rfl; have hfz8_0 := blk_frozen BK208.out 0) | ((with_reducible refine gate_callee (f := 89) rfl ?_); refine gL (some 8) Try.func89 #[.agg #[.slice A0_0 l0_0.length c0_0]] ?_; (with_reducible refine (impl_Matrix_size.calls _ _ l0_0 t209 _ (cQ (Kd.C_below HR0_0.out HB.out)) HC0_0.out A2.out).mono ?_); rintro e w9 ⟨rfl, hb⟩; refine ⟨_, rfl, ?_⟩; have _ := aM (blk_below (g := gb208) (o := .cells #[.slice A0_0 l0_0.length c0_0] 36 (0, 0)) (qQ BK208) hb); have _ := aM (below_step bq hb); clear BK208 HB; rename_i BK208 HB; (try clear hb); (try clear hb2); (try clear hk); (try clear hi); have hcz10_0 : w9.cell? ⟨gb208, 0, none⟩ = some (.slice A0_0 l0_0.length c0_0) := (blk_cell BK208.out 0).trans rfl; have hfz10_0 := blk_frozen BK208.out 0))
  go_loopg [13] k (fun kq v13 w' => ∃ (x13_1 : Int), v13 = .int .i64 x13_1 ∧ Aside0 (impl_IsMatrix.l0 kq l0_0 (l0_0.length : Int) x13_1 l0_0 = some r) ∧ Aside0 (kq ≤ k) ∧ Aside0 (w'.heap[gb208]? = some (.cells #[(.slice A0_0 l0_0.length c0_0)] 36 (0, 0))) ∧ Aside0 (Below w.heap.size w w'))
  case atStart => exact ⟨(0), (by first | rfl | (simp; done) | (simp [*]; done)), H', ⟨Nat.le_refl _⟩, ⟨by (with_reducible repeat first|apply qN|apply qD|apply qA); exact BK208.out⟩, ⟨by exact bq⟩⟩
  case round =>
   clear H'
   try clear p2
   try clear c3
   try clear c3b0
   try clear c8
   try clear hcz10_0
   try clear hcz5_0
   try clear hcz8_0
   try clear hfz10_0
   try clear hfz5_0
   try clear hfz8_0
   obtain ⟨x13_1, rfl, HA, HK1, BK208, HB⟩ := hrel
   cases gk with
   | zero => exact absurd HA.out (by simp [impl_IsMatrix.l0])
   | succ k1 =>
    have H := HA.out
    clear HA
    simp only [impl_IsMatrix.l0] at H
    by_cases c11 : x13_1 < (l0_0.length : Int)
    ·rw [if_pos c11] at H
     have c11b0 : decide (x13_1 < (l0_0.length : Int)) = true := decide_eq_true c11
     clear c11
     by_cases c12 : 0 ≤ x13_1
     ·rw [if_pos c12] at H
      have c12b0 : decide (0 ≤ x13_1) = true := decide_eq_true c12
      clear c12
      by_cases c13 : x13_1 < (l0_0.length : Int)
      ·rw [if_pos c13] at H
       have c13b0 : decide (x13_1 < (l0_0.length : Int)) = true := decide_eq_true c13
       clear c13
       replace H := Option.bind_eq_some_iff.mp H
       obtain ⟨t211, A140, H⟩ := H
       replace H : (if ((rd_L2 l0_0 x13_1).length : Int) = t211 then ((impl_allWithin.f k1 (rd_L2 l0_0 x13_1) 0 12).bind fun t212 => (if t212 = true then (if x13_1 ≤ ((rd_L2 l0_0 x13_1).length : Int) then ((slices_ContainsFunc_int_int.f ((rd_L2 l0_0 x13_1).take (x13_1 : Int).toNat)).bind fun t214 => (if t214 = true then (some false) else (impl_IsMatrix.l0 k1 l0_0 (l0_0.length : Int) (wrap64 (x13_1 + 1)) l0_0))) else (none)) else (some false))) else (some false)) = some r := H
       have A14 := aM A140
       clear A140
       by_cases c15 : ((rd_L2 l0_0 x13_1).length : Int) = t211
       ·rw [if_pos c15] at H
        have c15b0 : (((rd_L2 l0_0 x13_1).length : Int) == t211) = true := beq_iff_eq.mpr c15
        have c15b1 : (((rd_L2 l0_0 x13_1).length : Int) != t211) = false := bne_eq_false_iff_eq.mpr c15
        clear c15
        replace H := Option.bind_eq_some_iff.mp H
        obtain ⟨t212, A160, H⟩ := H
        replace H : (if t212 = true then (if x13_1 ≤ ((rd_L2 l0_0 x13_1).length : Int) then ((slices_ContainsFunc_int_int.f ((rd_L2 l0_0 x13_1).take (x13_1 : Int).toNat)).bind fun t214 => (if t214 = true then (some false) else (impl_IsMatrix.l0 k1 l0_0 (l0_0.length : Int) (wrap64 (x13_1 + 1)) l0_0))) else (none)) else (some false)) = some r := H
        have A16 := aM A160
        clear A160
        by_cases c17 : t212 = true
        ·subst c17
         have H1 : (if x13_1 ≤ ((rd_L2 l0_0 x13_1).length : Int) then ((slices_ContainsFunc_int_int.f ((rd_L2 l0_0 x13_1).take (x13_1 : Int).toNat)).bind fun t214 => (if t214 = true then (some false) else (impl_IsMatrix.l0 k1 l0_0 (l0_0.length : Int) (wrap64 (x13_1 + 1)) l0_0))) else (none)) = some r := by rw [if_pos rfl] at H; exact H
         clear H
         have H := H1
         clear H1
         have c18b0 := eq_true (odt : 0 ≤ x13_1)
         by_cases c19 : x13_1 ≤ ((rd_L2 l0_0 x13_1).length : Int)
         ·rw [if_pos c19] at H
          have c19b0 := eq_true c19
          have c19b1 : decide (x13_1 ≤ ((rd_L2 l0_0 x13_1).length : Int)) = true := decide_eq_true c19
          clear c19
          replace H := Option.bind_eq_some_iff.mp H
          obtain ⟨t214, A200, H⟩ := H
          replace H : (if t214 = true then (some false) else (impl_IsMatrix.l0 k1 l0_0 (l0_0.length : Int) (wrap64 (x13_1 + 1)) l0_0)) = some r := H
          have A20 := aM A200
          clear A200
          by_cases c21 : t214 = true
          ·subst c21
           have H1 : (some false) = some r := by rw [if_pos rfl] at H; exact H
           clear H
           have H := H1
           clear H1
           obtain rfl := Option.some.inj H
           have p210 : 0 ≤ (x13_1 : Int) := odt
           have q210 : x13_1 < (l0_0.length : Int) := odt
           obtain ⟨ad210, A210_0, c210_0, e210, hx210_0, hl210_0, hi210_0⟩ := at_L2 HR0_0.out x13_1 p210 q210
           cases e210
           replace hx210_0 := (HB.out.cell (World.block_lt_of_cell? w _ hx210_0)).trans hx210_0
           have HR210_0 := aM hi210_0
           have HC210_0 := aM hl210_0
           clear hi210_0 hl210_0
           replace p210 := eq_true p210
           replace q210 := eq_true q210
           have hcz22_0 : wr.cell? ⟨gb208, 0, none⟩ = some (.slice (some ad210) l0_0.length c0_0) := (blk_cell BK208.out 0).trans rfl
           have hfz22_0 := blk_frozen BK208.out 0
           go_wp2_with (first | ((with_reducible refine gate_callee (f := 89) rfl ?_); refine gL (some 21) Try.func89 #[.agg #[.slice (some ad210) l0_0.length c0_0]] ?_; (with_reducible refine (impl_Matrix_size.calls _ _ l0_0 t211 _ (cQ (Kd.C_below HR0_0.out HB.out)) HC0_0.out A14.out).mono ?_); rintro e w23 ⟨rfl, hb⟩; refine ⟨_, rfl, ?_⟩; have _ := aM (blk_below (g := gb208) (o := .cells #[.slice (some ad210) l0_0.length c0_0] 36 (0, 0)) (qQ BK208) hb); have _ := aM (below_step bq hb); clear BK208 HB; rename_i BK208 HB; (try clear hb); (try clear hb2); (try clear hk); (try clear hi)) | (go_at_call 74; (with_reducible refine (impl_allWithin.calls k1 _ _ (rd_L2 l0_0 x13_1) 0 12 true _ (cQ (Kd.C_below HR210_0.out HB.out)) HC210_0.out A16.out).mono ?_); rintro e w' ⟨rfl, ⟨nd, rfl⟩⟩; obtain ⟨i024, hi024, _, hsz24, _⟩ := info_parts info3; obtain ⟨hcut24, hA24, hC24⟩ := print_take_of (P := Try.prog) (Value.int .i64) 0 24 3 .i64 Try.underlying24 hi024 hsz24 A210_0 c210_0 (rd_L2 l0_0 x13_1) x13_1 (odt) (odt) HC210_0.out; have HR213 := aM (Kd.C_of_reads (h1 := fun _ => rfl) (hA24 _ (Kd.reads_of_C HR210_0.out))); have HC213 := aM hC24; clear hA24 hC24 hi024 hsz24) | (go_at_call 90; (refine calls_of_args (args' := #[.slice A210_0 ((rd_L2 l0_0 x13_1).take (x13_1 : Int).toNat).length c210_0, .func (.func 91) #[] #[]]) ?argeq ?_); (case argeq => rw [List.length_take, Nat.min_eq_left (by have h_ : x13_1 ≤ ((rd_L2 l0_0 x13_1).length : Int) := odt; omega)]); (with_reducible refine (slices_ContainsFunc_int_int.calls _ _ ((rd_L2 l0_0 x13_1).take (x13_1 : Int).toNat)  true _ ?side1 ?side2 A20.out).mono ?_); (case side1 => repeat (first | exact (Kd.C_below HR213.out bq) | (with_reducible refine Kd.C_alloc ?_ _) | (with_reducible refine Kd.C_drewN ?_ _) | (with_reducible refine Kd.C_drew ?_))); (case side2 => exact HC213.out); rintro e w25 ⟨rfl, hb⟩; have _ := aM (blk_below (g := gb208) (o := .cells #[.slice (some ad210) l0_0.length c0_0] 36 (0, 0)) (qQ BK208) hb); have _ := aM (below_step bq hb); clear BK208 HB; rename_i BK208 HB; (try clear hb); (try clear hb2); (try clear hk); (try clear hi)))
           go_ret
           exact ⟨by first | rfl | (simp [errW_none, errW_some] <;> rfl) | (simp [*, errW_none, errW_some] <;> rfl), by exact bq⟩
          ·replace c21 := Bool.eq_false_iff.mpr c21
           subst c21
           have H1 : (impl_IsMatrix.l0 k1 l0_0 (l0_0.length : Int) (wrap64 (x13_1 + 1)) l0_0) = some r := by rw [if_neg (show ¬ (false = true) by decide)] at H; exact H
           clear H
           have H := H1
           clear H1
           have H' := aM H
           clear H
           have p210 : 0 ≤ (x13_1 : Int) := odt
           have q210 : x13_1 < (l0_0.length : Int) := odt
           obtain ⟨ad210, A210_0, c210_0, e210, hx210_0, hl210_0, hi210_0⟩ := at_L2 HR0_0.out x13_1 p210 q210
           cases e210
           replace hx210_0 := (HB.out.cell (World.block_lt_of_cell? w _ hx210_0)).trans hx210_0
           have HR210_0 := aM hi210_0
           have HC210_0 := aM hl210_0
           clear hi210_0 hl210_0
           replace p210 := eq_true p210
           replace q210 := eq_true q210
           have hcz26_0 : wr.cell? ⟨gb208, 0, none⟩ = some (.slice (some ad210) l0_0.length c0_0) := (blk_cell BK208.out 0).trans rfl
           have hfz26_0 := blk_frozen BK208.out 0
           go_wp2_with (first | ((with_reducible refine gate_callee (f := 89) rfl ?_); refine gL (some 21) Try.func89 #[.agg #[.slice (some ad210) l0_0.length c0_0]] ?_; (with_reducible refine (impl_Matrix_size.calls _ _ l0_0 t211 _ (cQ (Kd.C_below HR0_0.out HB.out)) HC0_0.out A14.out).mono ?_); rintro e w27 ⟨rfl, hb⟩; refine ⟨_, rfl, ?_⟩; have _ := aM (blk_below (g := gb208) (o := .cells #[.slice (some ad210) l0_0.length c0_0] 36 (0, 0)) (qQ BK208) hb); have _ := aM (below_step bq hb); clear BK208 HB; rename_i BK208 HB; (try clear hb); (try clear hb2); (try clear hk); (try clear hi)) | (go_at_call 74; (with_reducible refine (impl_allWithin.calls k1 _ _ (rd_L2 l0_0 x13_1) 0 12 true _ (cQ (Kd.C_below HR210_0.out HB.out)) HC210_0.out A16.out).mono ?_); rintro e w' ⟨rfl, ⟨nd, rfl⟩⟩; obtain ⟨i028, hi028, _, hsz28, _⟩ := info_parts info3; obtain ⟨hcut28, hA28, hC28⟩ := print_take_of (P := Try.prog) (Value.int .i64) 0 24 3 .i64 Try.underlying24 hi028 hsz28 A210_0 c210_0 (rd_L2 l0_0 x13_1) x13_1 (odt) (odt) HC210_0.out; have HR213 := aM (Kd.C_of_reads (h1 := fun _ => rfl) (hA28 _ (Kd.reads_of_C HR210_0.out))); have HC213 := aM hC28; clear hA28 hC28 hi028 hsz28) | (go_at_call 90; (refine calls_of_args (args' := #[.slice A210_0 ((rd_L2 l0_0 x13_1).take (x13_1 : Int).toNat).length c210_0, .func (.func 91) #[] #[]]) ?argeq ?_); (case argeq => rw [List.length_take, Nat.min_eq_left (by have h_ : x13_1 ≤ ((rd_L2 l0_0 x13_1).length : Int) := odt; omega)]); (with_reducible refine (slices_ContainsFunc_int_int.calls _ _ ((rd_L2 l0_0 x13_1).take (x13_1 : Int).toNat)  false _ ?side1 ?side2 A20.out).mono ?_); (case side1 => repeat (first | exact (Kd.C_below HR213.out bq) | (with_reducible refine Kd.C_alloc ?_ _) | (with_reducible refine Kd.C_drewN ?_ _) | (with_reducible refine Kd.C_drew ?_))); (case side2 => exact HC213.out); rintro e w29 ⟨rfl, hb⟩; have _ := aM (blk_below (g := gb208) (o := .cells #[.slice (some ad210) l0_0.length c0_0] 36 (0, 0)) (qQ BK208) hb); have _ := aM (below_step bq hb); clear BK208 HB; rename_i BK208 HB; (try clear hb); (try clear hb2); (try clear hk); (try clear hi)))
           go_roundg k1
           case measure => have := HK1.out; omega
           case rel => exact ⟨(wrap64 (x13_1 + 1)), (by first | rfl | (simp; done) | (simp [*]; done)), H', ⟨by have := HK1.out; omega⟩, ⟨by (with_reducible repeat first|apply qN|apply qD|apply qA); exact BK208.out⟩, ⟨by exact bq⟩⟩
         ·rw [if_neg c19] at H
          exact absurd H (by simp)
        ·replace c17 := Bool.eq_false_iff.mpr c17
         subst c17
         have H1 : (some false) = some r := by rw [if_neg (show ¬ (false = true) by decide)] at H; exact H
         clear H
         have H := H1
         clear H1
         obtain rfl := Option.some.inj H
         have p210 : 0 ≤ (x13_1 : Int) := odt
         have q210 : x13_1 < (l0_0.length : Int) := odt
         obtain ⟨ad210, A210_0, c210_0, e210, hx210_0, hl210_0, hi210_0⟩ := at_L2 HR0_0.out x13_1 p210 q210
         cases e210
         replace hx210_0 := (HB.out.cell (World.block_lt_of_cell? w _ hx210_0)).trans hx210_0
         have HR210_0 := aM hi210_0
         have HC210_0 := aM hl210_0
         clear hi210_0 hl210_0
         replace p210 := eq_true p210
         replace q210 := eq_true q210
         have hcz30_0 : wr.cell? ⟨gb208, 0, none⟩ = some (.slice (some ad210) l0_0.length c0_0) := (blk_cell BK208.out 0).trans rfl
         have hfz30_0 := blk_frozen BK208.out 0
         go_wp2_with (first | ((with_reducible refine gate_callee (f := 89) rfl ?_); refine gL (some 21) Try.func89 #[.agg #[.slice (some ad210) l0_0.length c0_0]] ?_; (with_reducible refine (impl_Matrix_size.calls _ _ l0_0 t211 _ (cQ (Kd.C_below HR0_0.out HB.out)) HC0_0.out A14.out).mono ?_); rintro e w31 ⟨rfl, hb⟩; refine ⟨_, rfl, ?_⟩; have _ := aM (blk_below (g := gb208) (o := .cells #[.slice (some ad210) l0_0.length c0_0] 36 (0, 0)) (qQ BK208) hb); have _ := aM (below_step bq hb); clear BK208 HB; rename_i BK208 HB; (try clear hb); (try clear hb2); (try clear hk); (try clear hi)) | (go_at_call 74; (with_reducible refine (impl_allWithin.calls k1 _ _ (rd_L2 l0_0 x13_1) 0 12 false _ (cQ (Kd.C_below HR210_0.out HB.out)) HC210_0.out A16.out).mono ?_); rintro e w' ⟨rfl, ⟨nd, rfl⟩⟩))
         go_ret
         exact ⟨by first | rfl | (simp [errW_none, errW_some] <;> rfl) | (simp [*, errW_none, errW_some] <;> rfl), by exact bq⟩
       ·rw [if_neg c15] at H
        have c15b0 : (((rd_L2 l0_0 x13_1).length : Int) == t211) = false := beq_eq_false_iff_ne.mpr c15
        have c15b1 : (((rd_L2 l0_0 x13_1).length : Int) != t211) = true := bne_iff_ne.mpr c15
        obtain rfl := Option.some.inj H
        have p210 : 0 ≤ (x13_1 : Int) := odt
        have q210 : x13_1 < (l0_0.length : Int) := odt
        obtain ⟨ad210, A210_0, c210_0, e210, hx210_0, hl210_0, hi210_0⟩ := at_L2 HR0_0.out x13_1 p210 q210
        cases e210
        replace hx210_0 := (HB.out.cell (World.block_lt_of_cell? w _ hx210_0)).trans hx210_0
        have HR210_0 := aM hi210_0
        have HC210_0 := aM hl210_0
        clear hi210_0 hl210_0
        replace p210 := eq_true p210
        replace q210 := eq_true q210
        have hcz32_0 : wr.cell? ⟨gb208, 0, none⟩ = some (.slice (some ad210) l0_0.length c0_0) := (blk_cell BK208.out 0).trans rfl
        have hfz32_0 := blk_frozen BK208.out 0
        go_wp2_with (first | ((with_reducible refine gate_callee (f := 89) rfl ?_); refine gL (some 21) Try.func89 #[.agg #[.slice (some ad210) l0_0.length c0_0]] ?_; (with_reducible refine (impl_Matrix_size.calls _ _ l0_0 t211 _ (cQ (Kd.C_below HR0_0.out HB.out)) HC0_0.out A14.out).mono ?_); rintro e w33 ⟨rfl, hb⟩; refine ⟨_, rfl, ?_⟩; have _ := aM (blk_below (g := gb208) (o := .cells #[.slice (some ad210) l0_0.length c0_0] 36 (0, 0)) (qQ BK208) hb); have _ := aM (below_step bq hb); clear BK208 HB; rename_i BK208 HB; (try clear hb); (try clear hb2); (try clear hk); (try clear hi)))
        go_ret
        exact ⟨by first | rfl | (simp [errW_none, errW_some] <;> rfl) | (simp [*, errW_none, errW_some] <;> rfl), by exact bq⟩
      ·rw [if_neg c13] at H
       exact absurd H (by simp)
     ·rw [if_neg c12] at H
      exact absurd H (by simp)
    ·rw [if_neg c11] at H
     have c11b0 : decide (x13_1 < (l0_0.length : Int)) = false := decide_eq_false c11
     clear c11
     replace H := Option.bind_eq_some_iff.mp H
     obtain ⟨⟨t215, t218⟩, A340, H⟩ := H
     replace H : ((slices_Contains_int_int.f k1 t215 0).bind fun t221 => (if t221 = true then (some false) else ((slices_Contains_int_int.f k1 t218 0).bind fun t222 => (if t222 = true then (some false) else ((impl_Matrix_sum.f k1 l0_0).bind fun t223 => (some (decide (t223 ≤ 12)))))))) = some r := H
     have A34 := aM A340
     clear A340
     replace H := Option.bind_eq_some_iff.mp H
     obtain ⟨t221, A350, H⟩ := H
     replace H : (if t221 = true then (some false) else ((slices_Contains_int_int.f k1 t218 0).bind fun t222 => (if t222 = true then (some false) else ((impl_Matrix_sum.f k1 l0_0).bind fun t223 => (some (decide (t223 ≤ 12))))))) = some r := H
     have A35 := aM A350
     clear A350
     by_cases c36 : t221 = true
     ·subst c36
      have H1 : (some false) = some r := by rw [if_pos rfl] at H; exact H
      clear H
      have H := H1
      clear H1
      obtain rfl := Option.some.inj H
      have hcz37_0 : wr.cell? ⟨gb208, 0, none⟩ = some (.slice A0_0 l0_0.length c0_0) := (blk_cell BK208.out 0).trans rfl
      have hfz37_0 := blk_frozen BK208.out 0
      go_wp2_with (first | ((with_reducible refine gate_callee (f := 92) rfl ?_); refine gL (some 37) Try.func92 #[.agg #[.slice A0_0 l0_0.length c0_0]] ?_; (with_reducible refine (impl_Matrix_sums.calls k1 _ _ l0_0 t215 t218 _ (cQ (Kd.C_below HR0_0.out HB.out)) HC0_0.out A34.out).mono ?_); rintro e w38 ⟨v216, v219, rfl, ho0, ho1, hb⟩; refine ⟨_, rfl, ?_⟩; have _ := aM (Kd.R_lower ho0 (below_size bq)); have _ := aM (Kd.R_lower ho1 (below_size bq)); have _ := aM (blk_below (g := gb208) (o := .cells #[.slice A0_0 l0_0.length c0_0] 36 (0, 0)) (qQ BK208) hb); have _ := aM (below_step bq hb); clear BK208 HB; rename_i HO217 HO220 BK208 HB; (try clear hb); (try clear hb2); (try clear hk); (try clear hi); (try clear ho0); (try clear ho1); obtain ⟨Ao39, co39, eo39⟩ := Kd.R_slice HO217.out; subst eo39) | ((with_reducible refine gate_callee (f := 93) rfl ?_); refine gL (some 41) Try.func93 #[.slice Ao39 t215.length co39, .int .i64 0] ?_; (with_reducible refine (slices_Contains_int_int.calls k1 _ _ t215 0 true _ (cQ ((Kd.R_reads' HO217.out).2.2)) ((Kd.R_reads' HO217.out).2.1) A35.out).mono ?_); rintro e w' ⟨rfl, ⟨nd, rfl⟩⟩; refine ⟨_, rfl, ?_⟩))
      go_ret
      exact ⟨by first | rfl | (simp [errW_none, errW_some] <;> rfl) | (simp [*, errW_none, errW_some] <;> rfl), by exact bq⟩
     ·replace c36 := Bool.eq_false_iff.mpr c36
      subst c36
      have H1 : ((slices_Contains_int_int.f k1 t218 0).bind fun t222 => (if t222 = true then (some false) else ((impl_Matrix_sum.f k1 l0_0).bind fun t223 => (some (decide (t223 ≤ 12)))))) = some r := by rw [if_neg (show ¬ (false = true) by decide)] at H; exact H
      clear H
      have H := H1
      clear H1
      replace H := Option.bind_eq_some_iff.mp H
      obtain ⟨t222, A400, H⟩ := H
      replace H : (if t222 = true then (some false) else ((impl_Matrix_sum.f k1 l0_0).bind fun t223 => (some (decide (t223 ≤ 12))))) = some r := H
      have A40 := aM A400
      clear A400
      by_cases c41 : t222 = true
      ·subst c41
       have H1 : (some false) = some r := by rw [if_pos rfl] at H; exact H
       clear H
       have H := H1
       clear H1
       obtain rfl := Option.some.inj H
       have hcz42_0 : wr.cell? ⟨gb208, 0, none⟩ = some (.slice A0_0 l0_0.length c0_0) := (blk_cell BK208.out 0).trans rfl
       have hfz42_0 := blk_frozen BK208.out 0
       go_wp2_with (first | ((with_reducible refine gate_callee (f := 92) rfl ?_); refine gL (some 37) Try.func92 #[.agg #[.slice A0_0 l0_0.length c0_0]] ?_; (with_reducible refine (impl_Matrix_sums.calls k1 _ _ l0_0 t215 t218 _ (cQ (Kd.C_below HR0_0.out HB.out)) HC0_0.out A34.out).mono ?_); rintro e w43 ⟨v216, v219, rfl, ho0, ho1, hb⟩; refine ⟨_, rfl, ?_⟩; have _ := aM (Kd.R_lower ho0 (below_size bq)); have _ := aM (Kd.R_lower ho1 (below_size bq)); have _ := aM (blk_below (g := gb208) (o := .cells #[.slice A0_0 l0_0.length c0_0] 36 (0, 0)) (qQ BK208) hb); have _ := aM (below_step bq hb); clear BK208 HB; rename_i HO217 HO220 BK208 HB; (try clear hb); (try clear hb2); (try clear hk); (try clear hi); (try clear ho0); (try clear ho1); obtain ⟨Ao44, co44, eo44⟩ := Kd.R_slice HO217.out; subst eo44) | ((with_reducible refine gate_callee (f := 93) rfl ?_); refine gL (some 41) Try.func93 #[.slice Ao44 t215.length co44, .int .i64 0] ?_; (with_reducible refine (slices_Contains_int_int.calls k1 _ _ t215 0 false _ (cQ ((Kd.R_reads' HO217.out).2.2)) ((Kd.R_reads' HO217.out).2.1) A35.out).mono ?_); rintro e w' ⟨rfl, ⟨nd, rfl⟩⟩; refine ⟨_, rfl, ?_⟩; obtain ⟨Ao45, co45, eo45⟩ := Kd.R_slice HO220.out; subst eo45) | (go_at_call 93; (with_reducible refine (slices_Contains_int_int.calls k1 _ _ t218 0 true _ (cQ ((Kd.R_reads' HO220.out).2.2)) ((Kd.R_reads' HO220.out).2.1) A40.out).mono ?_); rintro e w' ⟨rfl, ⟨nd, rfl⟩⟩))
       go_ret
       exact ⟨by first | rfl | (simp [errW_none, errW_some] <;> rfl) | (simp [*, errW_none, errW_some] <;> rfl), by exact bq⟩
      ·replace c41 := Bool.eq_false_iff.mpr c41
       subst c41
       have H1 : ((impl_Matrix_sum.f k1 l0_0).bind fun t223 => (some (decide (t223 ≤ 12)))) = some r := by rw [if_neg (show ¬ (false = true) by decide)] at H; exact H
       clear H
       have H := H1
       clear H1
       replace H := Option.bind_eq_some_iff.mp H
       obtain ⟨t223, A460, H⟩ := H
       replace H : (some (decide (t223 ≤ 12))) = some r := H
       have A46 := aM A460
       clear A460
       obtain rfl := Option.some.inj H
       have hcz47_0 : wr.cell? ⟨gb208, 0, none⟩ = some (.slice A0_0 l0_0.length c0_0) := (blk_cell BK208.out 0).trans rfl
       have hfz47_0 := blk_frozen BK208.out 0
       go_wp2_with (first | ((with_reducible refine gate_callee (f := 92) rfl ?_); refine gL (some 37) Try.func92 #[.agg #[.slice A0_0 l0_0.length c0_0]] ?_; (with_reducible refine (impl_Matrix_sums.calls k1 _ _ l0_0 t215 t218 _ (cQ (Kd.C_below HR0_0.out HB.out)) HC0_0.out A34.out).mono ?_); rintro e w48 ⟨v216, v219, rfl, ho0, ho1, hb⟩; refine ⟨_, rfl, ?_⟩; have _ := aM (Kd.R_lower ho0 (below_size bq)); have _ := aM (Kd.R_lower ho1 (below_size bq)); have _ := aM (blk_below (g := gb208) (o := .cells #[.slice A0_0 l0_0.length c0_0] 36 (0, 0)) (qQ BK208) hb); have _ := aM (below_step bq hb); clear BK208 HB; rename_i HO217 HO220 BK208 HB; (try clear hb); (try clear hb2); (try clear hk); (try clear hi); (try clear ho0); (try clear ho1); obtain ⟨Ao49, co49, eo49⟩ := Kd.R_slice HO217.out; subst eo49) | ((with_reducible refine gate_callee (f := 93) rfl ?_); refine gL (some 41) Try.func93 #[.slice Ao49 t215.length co49, .int .i64 0] ?_; (with_reducible refine (slices_Contains_int_int.calls k1 _ _ t215 0 false _ (cQ ((Kd.R_reads' HO217.out).2.2)) ((Kd.R_reads' HO217.out).2.1) A35.out).mono ?_); rintro e w' ⟨rfl, ⟨nd, rfl⟩⟩; refine ⟨_, rfl, ?_⟩; obtain ⟨Ao50, co50, eo50⟩ := Kd.R_slice HO220.out; subst eo50) | (go_at_call 93; (with_reducible refine (slices_Contains_int_int.calls k1 _ _ t218 0 false _ (cQ ((Kd.R_reads' HO220.out).2.2)) ((Kd.R_reads' HO220.out).2.1) A40.out).mono ?_); rintro e w' ⟨rfl, ⟨nd, rfl⟩⟩; have hcz51_0 : w48.cell? ⟨gb208, 0, none⟩ = some (.slice A0_0 l0_0.length c0_0) := (blk_cell BK208.out 0).trans rfl; have hfz51_0 := blk_frozen BK208.out 0) | (go_at_call 94; (with_reducible refine (impl_Matrix_sum.calls k1 _ _ l0_0 t223 _ (cQ (Kd.C_below HR0_0.out bq)) HC0_0.out A46.out).mono ?_); rintro e w52 ⟨rfl, hb⟩; have _ := aM (Kd.R_below (rQ HO217) hb); have _ := aM (Kd.R_below (rQ HO220) hb); have _ := aM (blk_below (g := gb208) (o := .cells #[.slice A0_0 l0_0.length c0_0] 36 (0, 0)) (qQ BK208) hb); have _ := aM (below_step bq hb); clear HO217 HO220 BK208 HB; rename_i HO217 HO220 BK208 HB; (try clear hb); (try clear hb2); (try clear hk); (try clear hi)))
       go_ret
       exact ⟨by first | rfl | (simp [errW_none, errW_some] <;> rfl) | (simp [*, errW_none, errW_some] <;> rfl), by exact bq⟩

end Go.Proofs.Ytacdlipojhoilaa.Zx
