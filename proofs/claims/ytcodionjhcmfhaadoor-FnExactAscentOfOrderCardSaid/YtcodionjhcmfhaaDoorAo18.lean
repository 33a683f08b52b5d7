-- Written by hook.py, a program of this session (wip/), which runs the kit's print.py with its own parts; Lean checks it.
import Derived.Test.YtcodionjhcmfhaaDoorAo0
import Derived.Test.YtcodionjhcmfhaaDoorAo16
import Derived.Test.YtcodionjhcmfhaaDoorAo17
import Derived.Test.YtcodionjhcmfhaaDoorAoXSq
namespace Go.Proofs.YtcodionjhcmfhaaDoor.Ao
open Go.RowKit Go.Proofs.YtcodionjhcmfhaaDoorW.PrintWords Go.Proofs.YtcodionjhcmfhaaDoorW.PrintLast Go.Proofs.YtcodionjhcmfhaaDoorW.PrintMore Go.Proofs.YtcodionjhcmfhaaDoor.Sq
attribute [local go_sem] max2_int min2_int max_two min_two max_three min_three max_four min_four   -- for this text's walks alone
set_option linter.unusedVariables false
set_option linter.unusedSimpArgs false

def impl_Order_matrix.l0 : Nat → List (S76) → Int → Int → List (List Int) → Option ((List (List Int)))
 | 0, _, _, _, _ => none
 | k + 1, x10, x11, x12, x417000 => if x12 < x11 then (if 0 ≤ x12 then (if x12 < (x10.length : Int) then (if 0 ≤ ((rd_T76 x10 x12).f0) then (if ((rd_T76 x10 x12).f0) < (x417000.length : Int) then (if 0 ≤ ((rd_T76 x10 x12).f1) then (if ((rd_T76 x10 x12).f1) < ((rd_L2 x417000 ((rd_T76 x10 x12).f0)).length : Int) then (impl_Order_matrix.l0 k x10 x11 (wrap64 (x12 + 1)) (x417000.set (((rd_T76 x10 x12).f0) : Int).toNat ((rd_L2 x417000 ((rd_T76 x10 x12).f0)).set (((rd_T76 x10 x12).f1) : Int).toNat (wrap64 ((rd (rd_L2 x417000 ((rd_T76 x10 x12).f0)) ((rd_T76 x10 x12).f1)) + 1))))) else (none)) else (none)) else (none)) else (none)) else (none)) else (none)) else (some x417000)
def impl_Order_matrix.f (k : Nat) (a0_0 : Int) (l0_1 : List Int) : Option ((List (List Int))) := (impl_Order_magnitude.f k a0_0 l0_1).bind fun t412 => ((impl_ofSize.f k t412).bind fun t413 => ((impl_Order_ends.f k a0_0 l0_1).bind fun t417 => (impl_Order_matrix.l0 k t417 (t417.length : Int) 0 t413)))
theorem impl_Order_matrix.mono_l : ∀ k, (∀ y0 y1 y2 y3, LeO (impl_Order_matrix.l0 k y0 y1 y2 y3) (impl_Order_matrix.l0 (k + 1) y0 y1 y2 y3))
 | 0 => fun _ _ _ _ r h => by simp [impl_Order_matrix.l0] at h
 | k + 1 => by
  have ih0 := impl_Order_matrix.mono_l k
  ·intro y0 y1 y2 y3
   unfold impl_Order_matrix.l0
   repeat' first | with_reducible first | exact ih0 _ _ _ _ | exact impl_Order_ends.mono _ _ _ | exact impl_Order_magnitude.mono _ _ _ | exact impl_ofSize.mono _ _ | exact LeO.refl _ | exact LeO.none _ | refine LeO.ite ?_ ?_ | refine LeO.bind ?_ (fun _ => ?_)
theorem impl_Order_matrix.mono : ∀ a0 a1 k, LeO (impl_Order_matrix.f k a0 a1) (impl_Order_matrix.f (k + 1) a0 a1) := by
 intro a0 a1 k
 have ih0 := impl_Order_matrix.mono_l k
 unfold impl_Order_matrix.f
 repeat' first | with_reducible first | exact ih0 _ _ _ _ | exact impl_Order_ends.mono _ _ _ | exact impl_Order_magnitude.mono _ _ _ | exact impl_ofSize.mono _ _ | exact LeO.refl _ | exact LeO.none _ | refine LeO.ite ?_ ?_ | refine LeO.bind ?_ (fun _ => ?_)
def impl_Order_matrix.T5 : Bool × List (List Nat × List Nat) := (true, [([], []), ([0], [0]), ([], []), ([2], [2]), ([1, 3], [1, 3]), ([4], [4]), ([], []), ([6], [6]), ([5, 7], [5, 7]), ([8], [8]), ([9], [9]), ([5, 7, 0, 1, 2, 3, 4, 5, 6, 7, 8, 9, 10], [5, 7]), ([11, 10, 0, 1, 2, 3, 4, 5, 6, 7, 8, 9, 10], [10, 11])])
def impl_Order_matrix.B5 : List Nat := [0, 1, 0, 4, 15, 31, 0, 64, 255, 511, 1023, 2047, 4095]
theorem impl_Order_matrix.tab5 : rtab .any (opsOf Tryd.f41 5) = impl_Order_matrix.T5 := by kernel_rfl
theorem impl_Order_matrix.bits5 : waitsOk impl_Order_matrix.T5.2 impl_Order_matrix.B5 = true := by kernel_rfl
set_option maxHeartbeats 8000000 in
set_option maxRecDepth 100000 in
theorem impl_Order_matrix.calls (k : Nat) (a0_0 : Int) (A0_1 : Option Addr) (c0_1 : Nat) (l0_1 : List Int) (r : List (List Int)) (w : World) (hr0_1 : Kd.C (Kd.int .i64) w A0_1 l0_1.length l0_1) (hc0_1 : l0_1.length ≤ c0_1) (h : impl_Order_matrix.f k a0_0 l0_1 = some r) :
  Calls Tryd.prog 41 #[.agg #[.int .i64 a0_0, .slice A0_1 l0_1.length c0_1]] w fun e w' => ∃ v0_ : Value, e = .returned (.agg #[v0_]) ∧ Kd.S (Kd.slice 3 (Kd.int .i64)) 22 w' w.heap.size (fun _ => True) v0_ r ∧ Below w.heap.size w w' := by
 have hu31 := Tryd.underlying31
 have hu28 := Tryd.underlying28
 have hu76 := Tryd.underlying76
 have HR0_1 := aM hr0_1
 have HC0_1 := aM hc0_1
 clear hr0_1 hc0_1
 have HB := aM (Below.refl w.heap.size w)
 have H : ((impl_Order_magnitude.f k a0_0 l0_1).bind fun t412 => ((impl_ofSize.f k t412).bind fun t413 => ((impl_Order_ends.f k a0_0 l0_1).bind fun t417 => (impl_Order_matrix.l0 k t417 (t417.length : Int) 0 t413)))) = some r := h
 clear h
 replace H := Option.bind_eq_some_iff.mp H
 obtain ⟨t412, A20, H⟩ := H
 replace H : ((impl_ofSize.f k t412).bind fun t413 => ((impl_Order_ends.f k a0_0 l0_1).bind fun t417 => (impl_Order_matrix.l0 k t417 (t417.length : Int) 0 t413))) = some r := H
 have A2 := aM A20
 clear A20
 replace H := Option.bind_eq_some_iff.mp H
 obtain ⟨t413, A30, H⟩ := H
 replace H : ((impl_Order_ends.f k a0_0 l0_1).bind fun t417 => (impl_Order_matrix.l0 k t417 (t417.length : Int) 0 t413)) = some r := H
 have A3 := aM A30
 clear A30
 replace H := Option.bind_eq_some_iff.mp H
 obtain ⟨t417, A40, H⟩ := H
 replace H : (impl_Order_matrix.l0 k t417 (t417.length : Int) 0 t413) = some r := H
 have A4 := aM A40
 clear A40
 have H' := aM H
 clear H
 go_enter Tryd.func41, Tryd.ntmps41
 go_wp2_with (first | ((with_reducible refine gate_dst (N := 1) rfl ?_); refine bE 1 31 #[.int .i64 a0_0, .slice A0_1 l0_1.length c0_1] ?_; intro gb410 hg w5 hbox hb; have _ := aM (below_step bq hb); have _ := aM (hbox); have _ := aM ((gS hg)); have _ := aM ((gS hg)); clear HB; rename_i HB BK410 GW410 GE410; clear hb hbox hg) | ((with_reducible refine gate_dst (N := 2) rfl ?_); refine bE 2 28 #[.slice none 0 0] ?_; intro gb411 hg w6 hbox hb; have _ := aM (blk_below (g := gb410) (o := .cells #[.int .i64 a0_0, .slice A0_1 l0_1.length c0_1] 31 (0, 0)) (qQ BK410) hb); have _ := aM (below_step bq hb); have _ := aM (hbox); have _ := aM ((gS hg)); have _ := aM ((gS hg)); have _ := aM ((by rw [hg]; exact Nat.ne_of_lt (blk_lt (g := gb410) (o := .cells #[.int .i64 a0_0, .slice A0_1 l0_1.length c0_1] 31 (0, 0)) (qQ BK410)) : gb410 ≠ gb411)); have _ := aM ((by rw [hg]; exact Nat.ne_of_gt (blk_lt (g := gb410) (o := .cells #[.int .i64 a0_0, .slice A0_1 l0_1.length c0_1] 31 (0, 0)) (qQ BK410)) : gb411 ≠ gb410)); clear BK410 HB; rename_i BK410 HB BK411 GW411 GE411 NB410_411 NB411_410; clear hb hbox hg; have hnb7 := NB410_411.out; have hnc7 := NB411_410.out; have hcz8_0 : w6.cell? ⟨gb410, 0, none⟩ = some (.int .i64 a0_0) := (blk_cell BK410.out 0).trans rfl; have hcz8_1 : w6.cell? ⟨gb410, 1, none⟩ = some (.slice A0_1 l0_1.length c0_1) := (blk_cell BK410.out 1).trans rfl; have hfz8_0 := blk_frozen BK410.out 0; have hfz8_1 := blk_frozen BK410.out 1) | ((with_reducible refine gate_callee (f := 57) rfl ?_); refine gL (some 7) Tryd.func57 #[.agg #[.int .i64 a0_0, .slice A0_1 l0_1.length c0_1]] ?_; (with_reducible refine (impl_Order_magnitude.calls k a0_0 _ _ l0_1 t412 _ (cQ (Kd.C_below HR0_1.out HB.out)) HC0_1.out A2.out).mono ?_); rintro e w9 ⟨rfl, hb⟩; refine ⟨_, rfl, ?_⟩; have _ := aM (blk_below (g := gb410) (o := .cells #[.int .i64 a0_0, .slice A0_1 l0_1.length c0_1] 31 (0, 0)) (qQ BK410) hb); have _ := aM (blk_below (g := gb411) (o := .cells #[.slice none 0 0] 28 (0, 0)) (qQ BK411) hb); have _ := aM (below_step bq hb); clear BK410 BK411 HB; rename_i BK410 BK411 HB; (try clear hb); (try clear hb2); (try clear hk); (try clear hi)) | ((with_reducible refine gate_callee (f := 70) rfl ?_); refine gL (some 8) Tryd.func70 #[.int .i64 t412] ?_; (with_reducible refine (impl_ofSize.calls k t412 t413 _ A3.out).mono ?_); rintro e w10 ⟨v414, rfl, ho0, hb⟩; refine ⟨_, rfl, ?_⟩; have _ := aM (Kd.S_lower ho0 (below_size bq)); have _ := aM (blk_below (g := gb410) (o := .cells #[.int .i64 a0_0, .slice A0_1 l0_1.length c0_1] 31 (0, 0)) (qQ BK410) hb); have _ := aM (blk_below (g := gb411) (o := .cells #[.slice none 0 0] 28 (0, 0)) (qQ BK411) hb); have _ := aM (below_step bq hb); clear BK410 BK411 HB; rename_i HO415 BK410 BK411 HB; (try clear hb); (try clear hb2); (try clear hk); (try clear hi); (try clear ho0)) | ((with_reducible refine gate_dst (N := 3) rfl ?_); refine bE 3 28 #[.slice none 0 0] ?_; intro gb416 hg w11 hbox hb; have _ := aM (Kd.S_below (sQ HO415) hb); have _ := aM (blk_below (g := gb410) (o := .cells #[.int .i64 a0_0, .slice A0_1 l0_1.length c0_1] 31 (0, 0)) (qQ BK410) hb); have _ := aM (blk_below (g := gb411) (o := .cells #[.slice none 0 0] 28 (0, 0)) (qQ BK411) hb); have _ := aM (below_step bq hb); have _ := aM (hbox); have _ := aM ((gS hg)); have _ := aM ((gS hg)); have _ := aM ((by rw [hg]; exact Nat.ne_of_lt (blk_lt (g := gb410) (o := .cells #[.int .i64 a0_0, .slice A0_1 l0_1.length c0_1] 31 (0, 0)) (qQ BK410)) : gb410 ≠ gb416)); have _ := aM ((by rw [hg]; exact Nat.ne_of_gt (blk_lt (g := gb410) (o := .cells #[.int .i64 a0_0, .slice A0_1 l0_1.length c0_1] 31 (0, 0)) (qQ BK410)) : gb416 ≠ gb410)); have _ := aM ((by rw [hg]; exact Nat.ne_of_lt (blk_lt (g := gb411) (o := .cells #[.slice none 0 0] 28 (0, 0)) (qQ BK411)) : gb411 ≠ gb416)); have _ := aM ((by rw [hg]; exact Nat.ne_of_gt (blk_lt (g := gb411) (o := .cells #[.slice none 0 0] 28 (0, 0)) (qQ BK411)) : gb416 ≠ gb411)); clear HO415 BK410 BK411 HB; rename_i HO415 BK410 BK411 HB BK416 GW416 GE416 NB410_416 NB416_410 NB411_416 NB416_411; clear hb hbox hg; obtain ⟨Ao12, co12, eo12⟩ := Kd.S_slice HO415.out; subst eo12; have hnb13 := NB416_410.out; have hnc13 := NB410_416.out; have hnb14 := NB416_411.out; have hnc14 := NB411_416.out; have hcz15_0 : w11.cell? ⟨gb416, 0, none⟩ = some (.slice none 0 0) := (blk_cell BK416.out 0).trans rfl; have hfz15_0 := blk_frozen BK416.out 0; have hcz16_0 : w11.cell? ⟨gb410, 0, none⟩ = some (.int .i64 a0_0) := (blk_cell BK410.out 0).trans rfl; have hcz16_1 : w11.cell? ⟨gb410, 1, none⟩ = some (.slice A0_1 l0_1.length c0_1) := (blk_cell BK410.out 1).trans rfl; have hfz16_0 := blk_frozen BK410.out 0; have hfz16_1 := blk_frozen BK410.out 1) | ((with_reducible refine gate_callee (f := 56) rfl ?_); refine gL (some 10) Tryd.func56 #[.agg #[.int .i64 a0_0, .slice A0_1 l0_1.length c0_1]] ?_; (with_reducible refine (impl_Order_ends.calls k a0_0 _ _ l0_1 t417 _ ?side1 ?side2 A4.out).mono ?_); (case side1 => exact Kd.C_below HR0_1.out bq); (case side2 => exact HC0_1.out); rintro e w17 ⟨v418, rfl, ho0, hb⟩; refine ⟨_, rfl, ?_⟩; have _ := aM (Kd.S_below (by (with_reducible repeat first|apply sA|apply sN|apply sD); exact (Kd.S_mono (Kd.S_far (p := ⟨gb416, 0, none⟩) (Kd.S_types HO415.out BK416.out (by decide)) (fun _ hk => hk.2) (.slice Ao12 t413.length co12)) (fun _ h_ => h_.1))) hb); have _ := aM (Kd.R_lower ho0 (below_size bq)); have _ := aM (blk_below (g := gb410) (o := .cells #[.int .i64 a0_0, .slice A0_1 l0_1.length c0_1] 31 (0, 0)) (by (with_reducible repeat first|apply qN|apply qD|apply qA); refine blk_far ?_ NB410_416.out _; (with_reducible repeat first|apply qN|apply qD|apply qA); exact BK410.out) hb); have _ := aM (blk_below (g := gb411) (o := .cells #[.slice none 0 0] 28 (0, 0)) (by (with_reducible repeat first|apply qN|apply qD|apply qA); refine blk_far ?_ NB411_416.out _; (with_reducible repeat first|apply qN|apply qD|apply qA); exact BK411.out) hb); have _ := aM (blk_below (g := gb416) (o := .cells #[.slice Ao12 t413.length co12] 28 (0, 0)) (by (with_reducible repeat first|apply qN|apply qD|apply qA); refine blk_put (cs := #[.slice none 0 0]) ?_ 0 _ rfl; (with_reducible repeat first|apply qN|apply qD|apply qA); exact BK416.out) hb); have _ := aM (below_step bq hb); clear HO415 BK410 BK411 BK416 HB; rename_i HO415 HO419 BK410 BK411 BK416 HB; (try clear hb); (try clear hb2); (try clear hk); (try clear hi); (try clear ho0); obtain ⟨Ao18, co18, eo18⟩ := Kd.R_slice HO419.out; subst eo18))
 go_loopg [12] k (fun kq v12 w' => ∃ (x12_1 : Int) (x417000_1 : List (List Int)) (u417000 : Value), v12 = .int .i64 x12_1 ∧ Aside0 (impl_Order_matrix.l0 kq t417 (t417.length : Int) x12_1 x417000_1 = some r) ∧ Aside0 (kq ≤ k) ∧ Aside0 (Kd.R k76 76 w' w.heap.size (fun _ => True) (.slice Ao18 t417.length co18) t417) ∧ Aside0 (Kd.S (Kd.slice 3 (Kd.int .i64)) 22 w' w.heap.size (fun _ => True) u417000 x417000_1) ∧ Aside0 (w'.heap[gb410]? = some (.cells #[.int .i64 a0_0, (.slice A0_1 l0_1.length c0_1)] 31 (0, 0))) ∧ Aside0 (w'.heap[gb411]? = some (.cells #[(.slice none 0 0)] 28 (0, 0))) ∧ Aside0 (w'.heap[gb416]? = some (.cells #[u417000] 28 (0, 0))) ∧ Aside0 (Below w.heap.size w w'))
 case atStart => exact ⟨(0), (t413), (.slice Ao12 t413.length co12), (by first | rfl | (simp; done) | (simp [*]; done)), H', ⟨Nat.le_refl _⟩, ⟨by (with_reducible repeat first|apply rA|apply rN|apply rD); exact HO419.out⟩, ⟨by (with_reducible repeat first|apply sA|apply sN|apply sD); exact HO415.out⟩, ⟨by (with_reducible repeat first|apply qN|apply qD|apply qA); exact BK410.out⟩, ⟨by (with_reducible repeat first|apply qN|apply qD|apply qA); exact BK411.out⟩, ⟨by (with_reducible repeat first|apply qN|apply qD|apply qA); exact BK416.out⟩, ⟨by exact bq⟩⟩
 case round =>
  clear H'
  try clear c1
  try clear p2
  try clear c4
  try clear c5
  try clear c7
  try clear c13
  try clear c14
  try clear hcz15_0
  try clear hcz16_0
  try clear hcz16_1
  try clear hcz8_0
  try clear hcz8_1
  try clear hfz15_0
  try clear hfz16_0
  try clear hfz16_1
  try clear hfz8_0
  try clear hfz8_1
  obtain ⟨x12_1, x417000_1, u417000, rfl, HA, HK1, HO_10, HO_417000, BK410, BK411, BK416, HB⟩ := hrel
  cases gk with
  | zero => exact absurd HA.out (by simp [impl_Order_matrix.l0])
  | succ k1 =>
   have H := HA.out
   clear HA
   simp only [impl_Order_matrix.l0] at H
   by_cases c19 : x12_1 < (t417.length : Int)
   ·rw [if_pos c19] at H
    have c19b0 : decide (x12_1 < (t417.length : Int)) = true := decide_eq_true c19
    clear c19
    by_cases c20 : 0 ≤ x12_1
    ·rw [if_pos c20] at H
     have c20b0 : decide (0 ≤ x12_1) = true := decide_eq_true c20
     clear c20
     by_cases c21 : x12_1 < (t417.length : Int)
     ·rw [if_pos c21] at H
      have c21b0 : decide (x12_1 < (t417.length : Int)) = true := decide_eq_true c21
      clear c21
      by_cases c22 : 0 ≤ ((rd_T76 t417 x12_1).f0)
      ·rw [if_pos c22] at H
       have c22b0 : decide (0 ≤ ((rd_T76 t417 x12_1).f0)) = true := decide_eq_true c22
       clear c22
       by_cases c23 : ((rd_T76 t417 x12_1).f0) < (x417000_1.length : Int)
       ·rw [if_pos c23] at H
        have c23b0 : decide (((rd_T76 t417 x12_1).f0) < (x417000_1.length : Int)) = true := decide_eq_true c23
        clear c23
        by_cases c24 : 0 ≤ ((rd_T76 t417 x12_1).f1)
        ·rw [if_pos c24] at H
         have c24b0 : decide (0 ≤ ((rd_T76 t417 x12_1).f1)) = true := decide_eq_true c24
         clear c24
         by_cases c25 : ((rd_T76 t417 x12_1).f1) < ((rd_L2 x417000_1 ((rd_T76 t417 x12_1).f0)).length : Int)
         ·rw [if_pos c25] at H
          have c25b0 : decide (((rd_T76 t417 x12_1).f1) < ((rd_L2 x417000_1 ((rd_T76 t417 x12_1).f0)).length : Int)) = true := decide_eq_true c25
          clear c25
          obtain ⟨y424, hy424⟩ : ∃ y_ : List Int, y_ = ((rd_L2 x417000_1 ((rd_T76 t417 x12_1).f0)).set (((rd_T76 t417 x12_1).f1) : Int).toNat (wrap64 ((rd (rd_L2 x417000_1 ((rd_T76 t417 x12_1).f0)) ((rd_T76 t417 x12_1).f1)) + 1))) := ⟨_, rfl⟩
          replace H : (impl_Order_matrix.l0 k1 t417 (t417.length : Int) (wrap64 (x12_1 + 1)) (x417000_1.set (((rd_T76 t417 x12_1).f0) : Int).toNat y424)) = some r := by first | (rw [hy424]; with_reducible exact H) | (have H2_ := (Option.bind_some _ _).symm.trans H; rw [hy424]; with_reducible exact H2_) | (have H2_ := (Option.bind_some _ _).symm.trans H; with_reducible exact H2_) | with_reducible exact H | (rw [hy424]; exact H) | exact H
          have Ny424 := aM hy424
          clear hy424
          obtain ⟨y426, hy426⟩ : ∃ y_ : List (List Int), y_ = (x417000_1.set (((rd_T76 t417 x12_1).f0) : Int).toNat y424) := ⟨_, rfl⟩
          replace H : (impl_Order_matrix.l0 k1 t417 (t417.length : Int) (wrap64 (x12_1 + 1)) y426) = some r := by first | (rw [hy426]; with_reducible exact H) | (have H2_ := (Option.bind_some _ _).symm.trans H; rw [hy426]; with_reducible exact H2_) | (have H2_ := (Option.bind_some _ _).symm.trans H; with_reducible exact H2_) | with_reducible exact H | (rw [hy426]; exact H) | exact H
          have Ny426 := aM hy426
          clear hy426
          have H' := aM H
          clear H
          have p420 : 0 ≤ (x12_1 : Int) := odt
          have q420 : x12_1 < (t417.length : Int) := odt
          obtain ⟨ad420, e420, hx420_0, hx420_1⟩ := at_T76 (Kd.R_reads' HO_10.out).2.2 x12_1 p420 q420
          cases e420
          replace p420 := eq_true p420
          replace q420 := eq_true q420
          try go_wp2_with (first | ((with_reducible refine gate_dst (N := 5) rfl ?_); refine bE 5 76 #[.int .i64 0, .int .i64 0] ?_; intro gb421 hg w27 hbox hb; have _ := aM (Kd.R_below (Kd.R_elderB (rQ HO_10) gb421 (Nat.le_of_eq hg.symm)) hb); have _ := aM (Kd.S_below (sQ HO_417000) hb); have _ := aM (blk_below (g := gb410) (o := .cells #[.int .i64 a0_0, .slice A0_1 l0_1.length c0_1] 31 (0, 0)) (qQ BK410) hb); have _ := aM (blk_below (g := gb411) (o := .cells #[.slice none 0 0] 28 (0, 0)) (qQ BK411) hb); have _ := aM (blk_below (g := gb416) (o := .cells #[u417000] 28 (0, 0)) (qQ BK416) hb); have _ := aM (below_step bq hb); have _ := aM (hbox); have _ := aM ((gS hg)); have _ := aM ((gS hg)); have _ := aM ((by rw [hg]; exact Nat.ne_of_lt (blk_lt (g := gb410) (o := .cells #[.int .i64 a0_0, .slice A0_1 l0_1.length c0_1] 31 (0, 0)) (qQ BK410)) : gb410 ≠ gb421)); have _ := aM ((by rw [hg]; exact Nat.ne_of_gt (blk_lt (g := gb410) (o := .cells #[.int .i64 a0_0, .slice A0_1 l0_1.length c0_1] 31 (0, 0)) (qQ BK410)) : gb421 ≠ gb410)); have _ := aM ((by rw [hg]; exact Nat.ne_of_lt (blk_lt (g := gb411) (o := .cells #[.slice none 0 0] 28 (0, 0)) (qQ BK411)) : gb411 ≠ gb421)); have _ := aM ((by rw [hg]; exact Nat.ne_of_gt (blk_lt (g := gb411) (o := .cells #[.slice none 0 0] 28 (0, 0)) (qQ BK411)) : gb421 ≠ gb411)); have _ := aM ((by rw [hg]; exact Nat.ne_of_lt (blk_lt (g := gb416) (o := .cells #[u417000] 28 (0, 0)) (qQ BK416)) : gb416 ≠ gb421)); have _ := aM ((by rw [hg]; exact Nat.ne_of_gt (blk_lt (g := gb416) (o := .cells #[u417000] 28 (0, 0)) (qQ BK416)) : gb421 ≠ gb416)); clear HO_10 HO_417000 BK410 BK411 BK416 HB; rename_i HO_10 HO_417000 BK410 BK411 BK416 HB BK421 GW421 GE421 NB410_421 NB421_410 NB411_421 NB421_411 NB416_421 NB421_416; clear hb hbox hg; have hnb28 := NB421_410.out; have hnc28 := NB410_421.out; have hnb29 := NB421_411.out; have hnc29 := NB411_421.out; have hnb30 := NB421_416.out; have hnc30 := NB416_421.out; have hcz31_0 : w27.cell? ⟨gb421, 0, none⟩ = some (.int .i64 0) := (blk_cell BK421.out 0).trans rfl; have hcz31_1 : w27.cell? ⟨gb421, 1, none⟩ = some (.int .i64 0) := (blk_cell BK421.out 1).trans rfl; have hfz31_0 := blk_frozen BK421.out 0; have hfz31_1 := blk_frozen BK421.out 1))
          have n0_ : Aside0 (Kd.R k76 76 ((w27.setCell ⟨gb421, 0, none⟩ (.int .i64 ((rd_T76 t417 x12_1).f0))).setCell ⟨gb421, 1, none⟩ (.int .i64 ((rd_T76 t417 x12_1).f1))) w.heap.size (fun k_ => k_ ≠ gb421) (.slice (some ad420) t417.length co18) t417) := ⟨by (with_reducible repeat first|apply rA|apply rN|apply rD); exact Kd.R_mono (Kd.R_far (p := ⟨gb421, 1, none⟩) (Kd.R_far (p := ⟨gb421, 0, none⟩) (Kd.R_mono HO_10.out (fun k_ hk => (⟨hk, hk.2⟩ : _ ∧ k_ ≠ gb421))) (fun _ hk => hk.2) (.int .i64 ((rd_T76 t417 x12_1).f0))) (fun _ hk => hk.2) (.int .i64 ((rd_T76 t417 x12_1).f1))) (fun _ hk => hk.1.2)⟩
          have n1_ : Aside0 (Kd.S (Kd.slice 3 (Kd.int .i64)) 22 ((w27.setCell ⟨gb421, 0, none⟩ (.int .i64 ((rd_T76 t417 x12_1).f0))).setCell ⟨gb421, 1, none⟩ (.int .i64 ((rd_T76 t417 x12_1).f1))) w.heap.size (fun _ => True) u417000 x417000_1) := ⟨by (with_reducible repeat first|apply sA|apply sN|apply sD); exact Kd.S_mono (Kd.S_far (p := ⟨gb421, 1, none⟩) (Kd.S_far (p := ⟨gb421, 0, none⟩) (Kd.S_types HO_417000.out BK421.out (by decide)) (fun _ hk => hk.2) (.int .i64 ((rd_T76 t417 x12_1).f0))) (fun _ hk => hk.2) (.int .i64 ((rd_T76 t417 x12_1).f1))) (fun _ hk => trivial)⟩
          have n2_ : Aside0 (((w27.setCell ⟨gb421, 0, none⟩ (.int .i64 ((rd_T76 t417 x12_1).f0))).setCell ⟨gb421, 1, none⟩ (.int .i64 ((rd_T76 t417 x12_1).f1))).heap[gb410]? = some (.cells #[.int .i64 a0_0, .slice A0_1 l0_1.length c0_1] 31 (0, 0))) := ⟨by (with_reducible repeat first|apply qN|apply qD|apply qA); refine blk_far ?_ NB410_421.out _; (with_reducible repeat first|apply qN|apply qD|apply qA); refine blk_far ?_ NB410_421.out _; (with_reducible repeat first|apply qN|apply qD|apply qA); exact BK410.out⟩
          have n3_ : Aside0 (((w27.setCell ⟨gb421, 0, none⟩ (.int .i64 ((rd_T76 t417 x12_1).f0))).setCell ⟨gb421, 1, none⟩ (.int .i64 ((rd_T76 t417 x12_1).f1))).heap[gb411]? = some (.cells #[.slice none 0 0] 28 (0, 0))) := ⟨by (with_reducible repeat first|apply qN|apply qD|apply qA); refine blk_far ?_ NB411_421.out _; (with_reducible repeat first|apply qN|apply qD|apply qA); refine blk_far ?_ NB411_421.out _; (with_reducible repeat first|apply qN|apply qD|apply qA); exact BK411.out⟩
          have n4_ : Aside0 (((w27.setCell ⟨gb421, 0, none⟩ (.int .i64 ((rd_T76 t417 x12_1).f0))).setCell ⟨gb421, 1, none⟩ (.int .i64 ((rd_T76 t417 x12_1).f1))).heap[gb416]? = some (.cells #[u417000] 28 (0, 0))) := ⟨by (with_reducible repeat first|apply qN|apply qD|apply qA); refine blk_far ?_ NB416_421.out _; (with_reducible repeat first|apply qN|apply qD|apply qA); refine blk_far ?_ NB416_421.out _; (with_reducible repeat first|apply qN|apply qD|apply qA); exact BK416.out⟩
          have n5_ : Aside0 (((w27.setCell ⟨gb421, 0, none⟩ (.int .i64 ((rd_T76 t417 x12_1).f0))).setCell ⟨gb421, 1, none⟩ (.int .i64 ((rd_T76 t417 x12_1).f1))).heap[gb421]? = some (.cells #[.int .i64 ((rd_T76 t417 x12_1).f0), .int .i64 ((rd_T76 t417 x12_1).f1)] 76 (0, 0))) := ⟨by (with_reducible repeat first|apply qN|apply qD|apply qA); refine blk_put (cs := #[.int .i64 ((rd_T76 t417 x12_1).f0), .int .i64 0]) ?_ 1 _ rfl; (with_reducible repeat first|apply qN|apply qD|apply qA); refine blk_put (cs := #[.int .i64 0, .int .i64 0]) ?_ 0 _ rfl; (with_reducible repeat first|apply qN|apply qD|apply qA); exact BK421.out⟩
          have n6_ : Aside0 (Below w.heap.size w ((w27.setCell ⟨gb421, 0, none⟩ (.int .i64 ((rd_T76 t417 x12_1).f0))).setCell ⟨gb421, 1, none⟩ (.int .i64 ((rd_T76 t417 x12_1).f1)))) := ⟨by exact bq⟩
          (try clear HO_10)
          (try clear HO_417000)
          (try clear BK410)
          (try clear BK411)
          (try clear BK416)
          (try clear BK421)
          (try clear HB)
          generalize ((w27.setCell ⟨gb421, 0, none⟩ (.int .i64 ((rd_T76 t417 x12_1).f0))).setCell ⟨gb421, 1, none⟩ (.int .i64 ((rd_T76 t417 x12_1).f1))) = w32 at n0_ n1_ n2_ n3_ n4_ n5_ n6_ ⊢
          have HO_10 := n0_
          have HO_417000 := n1_
          have BK410 := n2_
          have BK411 := n3_
          have BK416 := n4_
          have BK421 := n5_
          have HB := n6_
          clear n0_ n1_ n2_ n3_ n4_ n5_ n6_
          have n0_ := aM (Kd.R_drew HO_10.out)
          have n1_ := aM (Kd.S_drew HO_417000.out)
          have n2_ := aM (blk_drew BK410.out)
          have n3_ := aM (blk_drew BK411.out)
          have n4_ := aM (blk_drew BK416.out)
          have n5_ := aM (blk_drew BK421.out)
          have n6_ := aM (below_drew1 HB.out)
          clear HO_10
          clear HO_417000
          clear BK410
          clear BK411
          clear BK416
          clear BK421
          clear HB
          have HO_10 := n0_
          have HO_417000 := n1_
          have BK410 := n2_
          have BK411 := n3_
          have BK416 := n4_
          have BK421 := n5_
          have HB := n6_
          clear n0_ n1_ n2_ n3_ n4_ n5_ n6_
          obtain ⟨Ao34, co34, eo34⟩ := Kd.S_slice HO_417000.out
          (first | subst eo34 | (injection eo34 with f1_ f2_ f3_; have f4_ := f1_.symm; have f5_ := f3_.symm; clear f1_ f2_ f3_; subst f4_; subst f5_))
          have p422 : 0 ≤ (((rd_T76 t417 x12_1).f0) : Int) := odt
          have q422 : ((rd_T76 t417 x12_1).f0) < (x417000_1.length : Int) := odt
          obtain ⟨ad422, A422_0, c422_0, e422, hx422_0, hl422_0, hi422_0⟩ := at_L2 (Kd.S_reads' HO_417000.out).2.2 ((rd_T76 t417 x12_1).f0) p422 q422
          cases e422
          obtain ⟨ce422, hce422, hMe422, hcc422⟩ := Kd.S_get HO_417000.out [] ((rd_T76 t417 x12_1).f0) p422 (by first | exact q422 | exact odt | (have e_ := (Kd.S_reads' HO_417000.out).1; omega))
          obtain ⟨ve422_0, rfl, ge422_0⟩ := hMe422
          have hv422_0 := hcc422 0 _ rfl
          rw [Nat.add_zero, show ((Kd.slice 3 (Kd.int .i64))).sz = 1 from rfl, Nat.mul_one] at hv422_0
          replace hv422_0 := Option.some.inj (hv422_0.symm.trans hx422_0)
          rw [hv422_0] at ge422_0
          have HL422_0 := aM (show Kd.R (Kd.int .i64) 3 _ _ _ _ (rd_L2 x417000_1 ((rd_T76 t417 x12_1).f0)) from ge422_0)
          clear hv422_0 ge422_0
          have HX422_0 := aM hx422_0
          clear hcc422 hce422
          have HR422_0 := aM hi422_0
          have HC422_0 := aM hl422_0
          clear hi422_0 hl422_0
          replace p422 := eq_true p422
          replace q422 := eq_true q422
          have p423 : 0 ≤ (((rd_T76 t417 x12_1).f1) : Int) := odt
          have q423 : ((rd_T76 t417 x12_1).f1) < ((rd_L2 x417000_1 ((rd_T76 t417 x12_1).f0)).length : Int) := odt
          obtain ⟨ad423, e423, hx423_0⟩ := Kd.at_int (cQ HR422_0.out) ((rd_T76 t417 x12_1).f1) p423 q423
          cases e423
          replace p423 := eq_true p423
          replace q423 := eq_true q423
          have p26 : 0 ≤ (((rd_T76 t417 x12_1).f1) : Int) := odt
          have q26 : (((rd_T76 t417 x12_1).f1) : Int) < (((rd_L2 x417000_1 ((rd_T76 t417 x12_1).f0)).length : Int) : Int) := odt
          obtain ⟨go26, co26, eo26, gb26, gl26, cl26, HG26⟩ := Kd.R_form HL422_0.out (by omega)
          (first | cases eo26 | (injection eo26 with ea_ en_ ec_; (first | subst ea_ | (injection ea_ with ea_; subst ea_)); subst ec_; clear en_))
          have GB26 := aM gb26
          have GG26 := aM HG26
          clear gb26 gl26 HG26
          (first | simp only [add_plain] at hx423_0 | skip)
          obtain ⟨hx26_0, hf26_0⟩ := Kd.R_celln 0 HL422_0.out (((rd_T76 t417 x12_1).f1) : Int) p26 q26
          replace p26 := eq_true p26
          replace q26 := eq_true q26
          have hq35 : (((rd_T76 t417 x12_1).f0) : Int) < (x417000_1.length : Int) := (by have h_ : (((rd_T76 t417 x12_1).f0) : Int) < ((x417000_1.length : Int) : Int) := odt; first | exact h_ | (have e_ := (Kd.S_reads' HO_417000.out).1; omega) | simpa only [List.length_set, List.length_set] using h_)
          obtain ⟨oki35, ce35, hcl35, hM35, hcc35, hok35, hbk35⟩ := Kd.S_borrow HO_417000.out [] (((rd_T76 t417 x12_1).f0) : Int) (odt) hq35
          obtain ⟨ve35_0, rfl, ge35_0⟩ := hM35
          have hv35 := hcc35 0 _ rfl
          rw [Nat.add_zero, show ((Kd.slice 3 (Kd.int .i64))).sz = 1 from rfl, Nat.mul_one] at hv35
          replace hv35 := Option.some.inj (hv35.symm.trans HX422_0.out)
          subst hv35
          clear hcc35 hcl35
          replace ge35_0 := (show Kd.R (Kd.int .i64) 3 _ _ _ _ (rd_L2 x417000_1 ((rd_T76 t417 x12_1).f0)) from ge35_0)
          have HP35 := Kd.R_putg ge35_0 (((rd_T76 t417 x12_1).f1) : Int) (wrap64 ((rd (rd_L2 x417000_1 ((rd_T76 t417 x12_1).f0)) ((rd_T76 t417 x12_1).f1)) + 1))
          rw [← Ny424.out] at HP35
          have HS35 := hbk35 HP35.2 (fun k_ e_ => by injection e_ with e_; subst e_; exact ge35_0.1 _ rfl) (x' := y424) (Kd.M_row HP35.1)
          rw [← Ny426.out] at HS35
          have HQ35 := aM HS35
          clear HP35 HS35 hbk35 hok35
          refine start_ (n := 13) (S := fun w' => w'.cell? ⟨gb416, 0, none⟩ = some (.slice (some ad422) x417000_1.length co34) ∧ w'.cell? ⟨gb421, 0, none⟩ = some (.int .i64 ((rd_T76 t417 x12_1).f0)) ∧ w'.cell? ⟨gb421, 1, none⟩ = some (.int .i64 ((rd_T76 t417 x12_1).f1)) ∧ w'.cell? (ad422.add (((rd_T76 t417 x12_1).f0)).toNat) = some (.slice (some ⟨go26, 0, none⟩) (rd_L2 x417000_1 ((rd_T76 t417 x12_1).f0)).length c422_0) ∧ w'.cell? ⟨go26, (((rd_T76 t417 x12_1).f1)).toNat, none⟩ = some (.int .i64 (rd (rd_L2 x417000_1 ((rd_T76 t417 x12_1).f0)) ((rd_T76 t417 x12_1).f1)))) (ds := [12]) #[false, false, false, false, false, false, false, false, false, false, false, false, false] (by kernel_rfl) rfl rfl ⟨(blk_cell BK416.out 0).trans rfl, (blk_cell BK421.out 0).trans rfl, (blk_cell BK421.out 1).trans rfl, hx422_0, hx423_0⟩ (fun hHeld => ?_); refine with_tabW impl_Order_matrix.tab5 impl_Order_matrix.bits5 (fun HT_ HW_ => ?_)
          generalize w32.drew = w33 at HO_10 HO_417000 BK410 BK411 BK416 BK421 HB GG26 HL422_0 HQ35 HR422_0 HX422_0 hf26_0 hx26_0 hx422_0 hx423_0 hHeld ⊢
          refine pure_ (i := 0) (N := some 16) (v := ?_) (a' := ?_) #[true, false, false, false, false, false, false, false, false, false, false, false, false] rfl rfl (any_of HT_.out (by kernel_rfl)) (fun _ _ _ h => h) (Or.inl ⟨by rfl, ?_⟩) ?_ ?_
          rotate_left
          ·intro w'
           go_simp
           with_reducible rfl
          rotate_left
          ·simp only [Act.put, List.setIfInBounds_toArray, List.set_cons_zero, List.set_cons_succ, i64_w, i32_w]
           rfl
          refine pure_ (i := 2) (N := some 18) (v := ?_) (a' := ?_) #[true, false, true, false, false, false, false, false, false, false, false, false, false] rfl rfl (any_of HT_.out (by kernel_rfl)) (fun _ _ _ h => h) (Or.inl ⟨by rfl, ?_⟩) ?_ ?_
          rotate_left
          ·intro w'
           go_simp
           with_reducible rfl
          rotate_left
          ·simp only [Act.put, List.setIfInBounds_toArray, List.set_cons_zero, List.set_cons_succ, i64_w, i32_w]
           rfl
          refine pure_ (i := 6) (N := some 22) (v := ?_) (a' := ?_) #[true, false, true, false, false, false, true, false, false, false, false, false, false] rfl rfl (any_of HT_.out (by kernel_rfl)) (fun _ _ _ h => h) (Or.inl ⟨by rfl, ?_⟩) ?_ ?_
          rotate_left
          ·intro w'
           go_simp
           with_reducible rfl
          rotate_left
          ·simp only [Act.put, List.setIfInBounds_toArray, List.set_cons_zero, List.set_cons_succ, i64_w, i32_w]
           rfl
          refine take_ (i := 1) (N := some 17) (v := ?_) (a' := ?_) #[true, true, true, false, false, false, true, false, false, false, false, false, false] rfl rfl (take_ofW HT_.out HW_.out (by kernel_rfl)) (fun _ _ _ h => h) (Or.inl ⟨by rfl, ?_⟩) hHeld ?_ ?_
          rotate_left
          ·rintro w' ⟨s0, s1, s2, s3, s4⟩
           go_simp
           with_reducible rfl
          rotate_left
          ·simp only [Act.put, List.setIfInBounds_toArray, List.set_cons_zero, List.set_cons_succ, i64_w, i32_w]
           rfl
          refine take_ (i := 3) (N := some 19) (v := ?_) (a' := ?_) #[true, true, true, true, false, false, true, false, false, false, false, false, false] rfl rfl (take_ofW HT_.out HW_.out (by kernel_rfl)) (fun _ _ _ h => h) (Or.inl ⟨by rfl, ?_⟩) hHeld ?_ ?_
          rotate_left
          ·rintro w' ⟨s0, s1, s2, s3, s4⟩
           go_simp
           with_reducible rfl
          rotate_left
          ·simp only [Act.put, List.setIfInBounds_toArray, List.set_cons_zero, List.set_cons_succ, i64_w, i32_w]
           rfl
          refine pure_ (i := 4) (N := some 20) (v := ?_) (a' := ?_) #[true, true, true, true, true, false, true, false, false, false, false, false, false] rfl rfl (any_of HT_.out (by kernel_rfl)) (fun _ _ _ h => h) (Or.inl ⟨by rfl, ?_⟩) ?_ ?_
          rotate_left
          ·intro w'
           go_simp
           with_reducible rfl
          rotate_left
          ·simp only [Act.put, List.setIfInBounds_toArray, List.set_cons_zero, List.set_cons_succ, i64_w, i32_w]
           rfl
          refine take_ (i := 5) (N := some 21) (v := ?_) (a' := ?_) #[true, true, true, true, true, true, true, false, false, false, false, false, false] rfl rfl (take_ofW HT_.out HW_.out (by kernel_rfl)) (fun _ _ _ h => h) (Or.inl ⟨by rfl, ?_⟩) hHeld ?_ ?_
          rotate_left
          ·rintro w' ⟨s0, s1, s2, s3, s4⟩
           go_simp
           with_reducible rfl
          rotate_left
          ·simp only [Act.put, List.setIfInBounds_toArray, List.set_cons_zero, List.set_cons_succ, i64_w, i32_w]
           rfl
          refine take_ (i := 7) (N := some 23) (v := ?_) (a' := ?_) #[true, true, true, true, true, true, true, true, false, false, false, false, false] rfl rfl (take_ofW HT_.out HW_.out (by kernel_rfl)) (fun _ _ _ h => h) (Or.inl ⟨by rfl, ?_⟩) hHeld ?_ ?_
          rotate_left
          ·rintro w' ⟨s0, s1, s2, s3, s4⟩
           go_simp
           with_reducible rfl
          rotate_left
          ·simp only [Act.put, List.setIfInBounds_toArray, List.set_cons_zero, List.set_cons_succ, i64_w, i32_w]
           rfl
          refine pure_ (i := 8) (N := some 24) (v := ?_) (a' := ?_) #[true, true, true, true, true, true, true, true, true, false, false, false, false] rfl rfl (any_of HT_.out (by kernel_rfl)) (fun _ _ _ h => h) (Or.inl ⟨by rfl, ?_⟩) ?_ ?_
          rotate_left
          ·intro w'
           go_simp
           with_reducible rfl
          rotate_left
          ·simp only [Act.put, List.setIfInBounds_toArray, List.set_cons_zero, List.set_cons_succ, i64_w, i32_w]
           rfl
          refine take_ (i := 9) (N := some 25) (v := ?_) (a' := ?_) #[true, true, true, true, true, true, true, true, true, true, false, false, false] rfl rfl (take_ofW HT_.out HW_.out (by kernel_rfl)) (fun _ _ _ h => h) (Or.inl ⟨by rfl, ?_⟩) hHeld ?_ ?_
          rotate_left
          ·rintro w' ⟨s0, s1, s2, s3, s4⟩
           go_simp
           with_reducible rfl
          rotate_left
          ·simp only [Act.put, List.setIfInBounds_toArray, List.set_cons_zero, List.set_cons_succ, i64_w, i32_w]
           rfl
          refine pure_ (i := 10) (N := some 26) (v := ?_) (a' := ?_) #[true, true, true, true, true, true, true, true, true, true, true, false, false] rfl rfl (any_of HT_.out (by kernel_rfl)) (fun _ _ _ h => h) (Or.inl ⟨by rfl, ?_⟩) ?_ ?_
          rotate_left
          ·intro w'
           go_simp
           with_reducible rfl
          rotate_left
          ·simp only [Act.put, List.setIfInBounds_toArray, List.set_cons_zero, List.set_cons_succ, i64_w, i32_w]
           rfl
          refine pure_ (i := 11) (N := some 27) (v := ?_) (a' := ?_) #[true, true, true, true, true, true, true, true, true, true, true, true, false] rfl rfl (any_of HT_.out (by kernel_rfl)) (fun _ _ _ h => h) (Or.inl ⟨by rfl, ?_⟩) ?_ ?_
          rotate_left
          ·intro w'
           go_simp
           with_reducible rfl
          rotate_left
          ·simp only [Act.put, List.setIfInBounds_toArray, List.set_cons_zero, List.set_cons_succ, i64_w, i32_w]
           rfl
          refine last_ (i := 12) (N := none) #[true, true, true, true, true, true, true, true, true, true, true, true, true] rfl rfl (one_of HT_.out (by kernel_rfl)) (by decide) (fun K hK => ?_)
          refine skip_ (w1 := ?_) (by rfl) rfl ?_ ?_
          rotate_left
          ·go_simp
           rfl
          refine hK.out _ _ ?_
          clear hK K
          refine done_ (done_of HT_.out (by kernel_rfl)) ?_
          try go_wp2
          go_roundg k1
          case measure => have := HK1.out; omega
          case rel => exact ⟨(wrap64 (x12_1 + 1)), (y426), (.slice (some ad422) x417000_1.length co34), (by first | rfl | (simp; done) | (simp [*]; done)), H', ⟨by have := HK1.out; omega⟩, ⟨by (with_reducible repeat first|apply rA|apply rN|apply rD); exact Kd.R_mono (Kd.R_far (p := ⟨go26, (((rd_T76 t417 x12_1).f1) : Int).toNat, none⟩) (Kd.R_types HO_10.out GG26.out (by decide)) (fun _ hk => hk.2) (.int .i64 (wrap64 ((rd (rd_L2 x417000_1 ((rd_T76 t417 x12_1).f0)) ((rd_T76 t417 x12_1).f1)) + 1)))) (fun _ hk => trivial)⟩, ⟨by (with_reducible repeat first|apply sA|apply sN|apply sD); exact HQ35.out⟩, ⟨by (with_reducible repeat first|apply qN|apply qD|apply qA); refine blk_far ?_ (by have h_ := Kd.R_ne HL422_0.out BK410.out (by decide); intro e_; exact h_ (by rw [e_]; rfl)) _; (with_reducible repeat first|apply qN|apply qD|apply qA); exact BK410.out⟩, ⟨by (with_reducible repeat first|apply qN|apply qD|apply qA); refine blk_far ?_ (by have h_ := Kd.R_ne HL422_0.out BK411.out (by decide); intro e_; exact h_ (by rw [e_]; rfl)) _; (with_reducible repeat first|apply qN|apply qD|apply qA); exact BK411.out⟩, ⟨by (with_reducible repeat first|apply qN|apply qD|apply qA); refine blk_far ?_ (by have h_ := Kd.R_ne HL422_0.out BK416.out (by decide); intro e_; exact h_ (by rw [e_]; rfl)) _; (with_reducible repeat first|apply qN|apply qD|apply qA); exact BK416.out⟩, ⟨by exact bq⟩⟩
         ·rw [if_neg c25] at H
          exact absurd H (by simp)
        ·rw [if_neg c24] at H
         exact absurd H (by simp)
       ·rw [if_neg c23] at H
        exact absurd H (by simp)
      ·rw [if_neg c22] at H
       exact absurd H (by simp)
     ·rw [if_neg c21] at H
      exact absurd H (by simp)
    ·rw [if_neg c20] at H
     exact absurd H (by simp)
   ·rw [if_neg c19] at H
    have c19b0 : decide (x12_1 < (t417.length : Int)) = false := decide_eq_false c19
    clear c19
    obtain rfl := Option.some.inj H
    have hnb37 := NB416_410.out
    have hnc37 := NB410_416.out
    have hnb38 := NB416_411.out
    have hnc38 := NB411_416.out
    have hcz39_0 : wr.cell? ⟨gb416, 0, none⟩ = some (u417000) := (blk_cell BK416.out 0).trans rfl
    have hfz39_0 := blk_frozen BK416.out 0
    obtain ⟨Ao40, co40, eo40⟩ := Kd.S_slice HO_417000.out
    subst eo40
    have hnb41 := NB411_410.out
    have hnc41 := NB410_411.out
    have hcz42_0 : wr.cell? ⟨gb411, 0, none⟩ = some (.slice none 0 0) := (blk_cell BK411.out 0).trans rfl
    have hfz42_0 := blk_frozen BK411.out 0
    go_wp2
    refine bodyPost_ret (results_cell_row rfl _ _ gb411 28 #[.slice Ao40 x417000_1.length co40] (0, 0) _ rfl (by (with_reducible repeat first|apply qN|apply qD|apply qA); refine blk_put (cs := #[.slice none 0 0]) ?_ 0 _ rfl; (with_reducible repeat first|apply qN|apply qD|apply qA); exact BK411.out) Tryd.underlying28 rfl (by kernel_rfl)) rfl ?_
    exact ⟨_, by first | rfl | (simp [errW_none, errW_some] <;> rfl) | (simp [*, errW_none, errW_some] <;> rfl), by (with_reducible repeat first|apply sA|apply sN|apply sD); exact Kd.S_mono (Kd.S_far (p := ⟨gb411, 0, none⟩) (Kd.S_types HO_417000.out BK411.out (by decide)) (fun _ hk => hk.2) (.slice Ao40 x417000_1.length co40)) (fun _ hk => trivial), by exact bq⟩

def impl_Matrix_size.f (l0_0 : List (List Int)) : Option (Int) := some (l0_0.length : Int)
set_option maxHeartbeats 8000000 in
set_option maxRecDepth 100000 in
theorem impl_Matrix_size.calls (A0_0 : Option Addr) (c0_0 : Nat) (l0_0 : List (List Int)) (r : Int) (w : World) (hr0_0 : Kd.C (Kd.slice 3 (Kd.int .i64)) w A0_0 l0_0.length l0_0) (hc0_0 : l0_0.length ≤ c0_0) (h : impl_Matrix_size.f l0_0 = some r) :
  Calls Tryd.prog 72 #[.agg #[.slice A0_0 l0_0.length c0_0]] w fun e w' => e = .returned (.int .i64 r) ∧ Below w.heap.size w w' := by
 have hu28 := Tryd.underlying28
 have HR0_0 := aM hr0_0
 have HC0_0 := aM hc0_0
 clear hr0_0 hc0_0
 have HB := aM (Below.refl w.heap.size w)
 have H : (some (l0_0.length : Int)) = some r := h
 clear h
 obtain rfl := Option.some.inj H
 go_enter Tryd.func72, Tryd.ntmps72
 go_wp2_with (first | ((with_reducible refine gate_dst (N := 1) rfl ?_); refine bE 1 28 #[.slice A0_0 l0_0.length c0_0] ?_; intro gb427 hg w2 hbox hb; have _ := aM (below_step bq hb); have _ := aM (hbox); have _ := aM ((gS hg)); have _ := aM ((gS hg)); clear HB; rename_i HB BK427 GW427 GE427; clear hb hbox hg; have hcz3_0 : w2.cell? ⟨gb427, 0, none⟩ = some (.slice A0_0 l0_0.length c0_0) := (blk_cell BK427.out 0).trans rfl; have hfz3_0 := blk_frozen BK427.out 0))
 go_ret
 exact ⟨by first | rfl | (simp [errW_none, errW_some] <;> rfl) | (simp [*, errW_none, errW_some] <;> rfl), by exact bq⟩

def impl_Matrix_top_1.f (l0 : List Int) : Option (Bool) := if 0 ≤ (wrap64 ((l0.length : Int) - 1)) then (if (wrap64 ((l0.length : Int) - 1)) < (l0.length : Int) then (some ((rd l0 (wrap64 ((l0.length : Int) - 1))) != 0)) else (none)) else (none)
set_option maxHeartbeats 8000000 in
set_option maxRecDepth 100000 in
theorem impl_Matrix_top_1.calls (A0 : Option Addr) (c0 : Nat) (l0 : List Int) (r : Bool) (w : World) (hr0 : Kd.C (Kd.int .i64) w A0 l0.length l0) (hc0 : l0.length ≤ c0) (h : impl_Matrix_top_1.f l0 = some r) :
  Calls Tryd.prog 125 #[.slice A0 l0.length c0] w fun e w' => e = .returned (.bool r) ∧ Drawn0 w w' := by
 have HR0 := aM hr0
 have HC0 := aM hc0
 clear hr0 hc0
 have H : (if 0 ≤ (wrap64 ((l0.length : Int) - 1)) then (if (wrap64 ((l0.length : Int) - 1)) < (l0.length : Int) then (some ((rd l0 (wrap64 ((l0.length : Int) - 1))) != 0)) else (none)) else (none)) = some r := h
 clear h
 obtain ⟨ji2, hji2⟩ : ∃ j_ : Int, (wrap64 ((l0.length : Int) - 1)) = j_ := ⟨_, rfl⟩
 replace H : (if 0 ≤ (ji2) then (if (ji2) < (l0.length : Int) then (some ((rd l0 (ji2)) != 0)) else (none)) else (none)) = some r := by first | (rw [hji2] at H; exact H) | (simp only [hji2] at H ⊢; exact H)
 have hji2w : (IntKind.i64.wrap ((l0.length : Int) - 1)) = ji2 := (i64_w _).trans hji2
 by_cases c3 : 0 ≤ (ji2)
 ·rw [if_pos c3] at H
  have c3b0 : decide (0 ≤ (ji2)) = true := decide_eq_true c3
  clear c3
  by_cases c4 : (ji2) < (l0.length : Int)
  ·rw [if_pos c4] at H
   have c4b0 : decide ((ji2) < (l0.length : Int)) = true := decide_eq_true c4
   clear c4
   obtain rfl := Option.some.inj H
   have p428 : 0 ≤ ((ji2) : Int) := odt
   have q428 : (ji2) < (l0.length : Int) := odt
   obtain ⟨ad428, e428, hx428_0⟩ := Kd.at_int HR0.out (ji2) p428 q428
   cases e428
   replace p428 := eq_true p428
   replace q428 := eq_true q428
   go_enter Tryd.func125, Tryd.ntmps125
   go_wp2
   go_ret
   exact ⟨by first | rfl | (simp; done) | (simp only [← hji2] <;> (first | rfl | simp)) | (simp [*]; done), by repeat (first | exact Drawn0.refl _ | apply Drawn0.step)⟩
  ·rw [if_neg c4] at H
   exact absurd H (by simp)
 ·rw [if_neg c3] at H
  exact absurd H (by simp)

def slices_IndexFunc_int_int.seek : List (List Int) → Int → Option Int
  | [], _ => some (-1)
  | row :: rest, i => (impl_Matrix_top_1.f row).bind fun b => if b = true then some i else slices_IndexFunc_int_int.seek rest (i + 1)
def slices_IndexFunc_int_int.f (l0 : List (List Int)) : Option Int := slices_IndexFunc_int_int.seek l0 0
set_option maxHeartbeats 2000000 in
set_option maxRecDepth 100000 in
theorem slices_IndexFunc_int_int.calls (A0 : Option Addr) (c0 : Nat) (l0 : List (List Int)) (r : Int) (w : World) (hr0 : Kd.C (Kd.slice 3 (Kd.int .i64)) w A0 l0.length l0) (hc0 : l0.length ≤ c0) (h : slices_IndexFunc_int_int.f l0 = some r) :
    Calls Tryd.prog 124 #[.slice A0 l0.length c0, .func (.func 125) #[] #[]] w fun e w' => e = .returned (.int .i64 r) ∧ Below w.heap.size w w' := by
 have HL := aM hr0.2.1
 have HR0 := aM hr0
 have HH := aM h
 clear hr0 hc0 h
 have hle := HL.out
 go_enter Tryd.func124, Tryd.ntmps124
 go_wp2
 go_loopg [5, 8] l0.length (fun gg _ s8 w' => ∃ i : Nat, i ≤ l0.length ∧ l0.length - i ≤ gg ∧ s8 = .int .i64 i ∧ Aside0 (slices_IndexFunc_int_int.seek (l0.drop i) (i : Int) = some r) ∧ Drawn0 w w')
 case atStart => exact ⟨0, Nat.zero_le _, by omega, rfl, ⟨by rw [List.drop_zero]; exact HH.out⟩, Drawn0.refl _⟩
 case round => (
 clear HH
 obtain ⟨i, hi, hg, rfl, HZ, ⟨m1, rfl⟩⟩ := hrel
 by_cases hlt : i < l0.length
 · {
 obtain ⟨ad, A1, c1, ea, hx, hl1, hi1⟩ := at_L2 HR0.out (i : Int) (by omega) (by omega)
 cases ea
 have hlz : (i : Int) < (l0.length : Int) := by omega
 simp only [Int.toNat_natCast] at hx
 have hz := HZ.out
 clear HZ
 rw [List.drop_eq_getElem_cons hlt] at hz
 have er : rd_L2 l0 (i : Int) = l0[i] := by unfold rd_L2; simp [List.getD_eq_getElem?_getD, hlt]
 rw [← er] at hz
 obtain ⟨b, hb, hz⟩ := Option.bind_eq_some_iff.mp (show (impl_Matrix_top_1.f (rd_L2 l0 (i : Int))).bind _ = some r from hz)
 clear er
 have HBB := aM hb
 have HR1 := aM hi1
 have HC1 := aM hl1
 have HZ := aM hz
 clear hb hi1 hl1 hz
 cases b with
 | false => {
 go_wp2_with (first | (go_at_call 125; refine (impl_Matrix_top_1.calls A1 c1 (rd_L2 l0 (i : Int)) false _ ?side1 HC1.out HBB.out).mono ?_; (case side1 => repeat (first | exact HR1.out | (with_reducible refine Kd.C_drewN ?_ _))); rintro e w' ⟨rfl, ⟨nd, rfl⟩⟩))
 obtain ⟨k, rfl⟩ : ∃ k, gk = k + 1 := ⟨gk - 1, by omega⟩
 go_roundg k
 case measure => omega
 case rel => exact ⟨i + 1, by omega, by omega, by go_num, ⟨by have := HZ.out; simp only [Bool.false_eq_true, if_false] at this; rw [show ((i + 1 : Nat) : Int) = (i : Int) + 1 from by omega]; exact this⟩, by repeat (first | exact Drawn0.refl _ | apply Drawn0.step)⟩}
 | true => {
 go_wp2_with (first | (go_at_call 125; refine (impl_Matrix_top_1.calls A1 c1 (rd_L2 l0 (i : Int)) true _ ?side1 HC1.out HBB.out).mono ?_; (case side1 => repeat (first | exact HR1.out | (with_reducible refine Kd.C_drewN ?_ _))); rintro e w' ⟨rfl, ⟨nd, rfl⟩⟩))
 go_ret
 have e1 : some (i : Int) = some r := by have := HZ.out; simpa using this
 obtain rfl := Option.some.inj e1
 exact ⟨rfl, by repeat (first | exact Below.refl _ _ | apply pw_below_drewN)⟩}}
 · {
 go_wp2
 go_ret
 have e1 := HZ.out
 rw [List.drop_eq_nil_of_le (by omega)] at e1
 obtain rfl := Option.some.inj e1
 exact ⟨rfl, by repeat (first | exact Below.refl _ _ | apply pw_below_drewN)⟩})
def impl_Matrix_top.f (l0_0 : List (List Int)) : Option (Int) := (slices_IndexFunc_int_int.f l0_0).bind fun t430 => (some t430)
set_option maxHeartbeats 8000000 in
set_option maxRecDepth 100000 in
theorem impl_Matrix_top.calls (A0_0 : Option Addr) (c0_0 : Nat) (l0_0 : List (List Int)) (r : Int) (w : World) (hr0_0 : Kd.C (Kd.slice 3 (Kd.int .i64)) w A0_0 l0_0.length l0_0) (hc0_0 : l0_0.length ≤ c0_0) (h : impl_Matrix_top.f l0_0 = some r) :
  Calls Tryd.prog 105 #[.agg #[.slice A0_0 l0_0.length c0_0]] w fun e w' => e = .returned (.int .i64 r) ∧ Below w.heap.size w w' := by
 have hu28 := Tryd.underlying28
 have HR0_0 := aM hr0_0
 have HC0_0 := aM hc0_0
 clear hr0_0 hc0_0
 have HB := aM (Below.refl w.heap.size w)
 have H : ((slices_IndexFunc_int_int.f l0_0).bind fun t430 => (some t430)) = some r := h
 clear h
 replace H := Option.bind_eq_some_iff.mp H
 obtain ⟨t430, A20, H⟩ := H
 replace H : (some t430) = some r := H
 have A2 := aM A20
 clear A20
 obtain rfl := Option.some.inj H
 go_enter Tryd.func105, Tryd.ntmps105
 go_wp2_with (first | ((with_reducible refine gate_dst (N := 1) rfl ?_); refine bE 1 28 #[.slice A0_0 l0_0.length c0_0] ?_; intro gb429 hg w3 hbox hb; have _ := aM (below_step bq hb); have _ := aM (hbox); have _ := aM ((gS hg)); have _ := aM ((gS hg)); clear HB; rename_i HB BK429 GW429 GE429; clear hb hbox hg; have hcz4_0 : w3.cell? ⟨gb429, 0, none⟩ = some (.slice A0_0 l0_0.length c0_0) := (blk_cell BK429.out 0).trans rfl; have hfz4_0 := blk_frozen BK429.out 0) | ((with_reducible refine gate_callee (f := 124) rfl ?_); refine gL (some 5) Tryd.func124 #[.slice A0_0 l0_0.length c0_0, .func (.func 125) #[] #[]] ?_; (with_reducible refine (slices_IndexFunc_int_int.calls _ _ l0_0  t430 _ (cQ (Kd.C_below HR0_0.out HB.out)) HC0_0.out A2.out).mono ?_); rintro e w5 ⟨rfl, hb⟩; refine ⟨_, rfl, ?_⟩; have _ := aM (blk_below (g := gb429) (o := .cells #[.slice A0_0 l0_0.length c0_0] 28 (0, 0)) (qQ BK429) hb); have _ := aM (below_step bq hb); clear BK429 HB; rename_i BK429 HB; (try clear hb); (try clear hb2); (try clear hk); (try clear hi)))
 go_ret
 exact ⟨by first | rfl | (simp [errW_none, errW_some] <;> rfl) | (simp [*, errW_none, errW_some] <;> rfl), by exact bq⟩

end Go.Proofs.YtcodionjhcmfhaaDoor.Ao
