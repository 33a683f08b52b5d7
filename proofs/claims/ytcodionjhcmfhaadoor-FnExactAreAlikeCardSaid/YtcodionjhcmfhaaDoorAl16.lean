-- Written by hook.py, a program of this session (wip/), which runs the kit's print.py with its own parts; Lean checks it.
import Derived.Test.YtcodionjhcmfhaaDoorAl0
import Derived.Test.YtcodionjhcmfhaaDoorAl14
import Derived.Test.YtcodionjhcmfhaaDoorAl15
import Derived.Test.YtcodionjhcmfhaaDoorAlXSq
namespace Go.Proofs.YtcodionjhcmfhaaDoor.Al
open Go.RowKit Go.Proofs.YtcodionjhcmfhaaDoorW.PrintWords Go.Proofs.YtcodionjhcmfhaaDoorW.PrintLast Go.Proofs.YtcodionjhcmfhaaDoorW.PrintMore Go.Proofs.YtcodionjhcmfhaaDoor.Sq
attribute [local go_sem] max2_int min2_int max_two min_two max_three min_three max_four min_four   -- for this text's walks alone
set_option linter.unusedVariables false
set_option linter.unusedSimpArgs false

def impl_Order_matrix.l0 : Nat → List (S76) → Int → Int → List (List Int) → Option ((List (List Int)))
 | 0, _, _, _, _ => none
 | k + 1, x10, x11, x12, x343000 => if x12 < x11 then (if 0 ≤ x12 then (if x12 < (x10.length : Int) then (if 0 ≤ ((rd_T76 x10 x12).f0) then (if ((rd_T76 x10 x12).f0) < (x343000.length : Int) then (if 0 ≤ ((rd_T76 x10 x12).f1) then (if ((rd_T76 x10 x12).f1) < ((rd_L2 x343000 ((rd_T76 x10 x12).f0)).length : Int) then (impl_Order_matrix.l0 k x10 x11 (wrap64 (x12 + 1)) (x343000.set (((rd_T76 x10 x12).f0) : Int).toNat ((rd_L2 x343000 ((rd_T76 x10 x12).f0)).set (((rd_T76 x10 x12).f1) : Int).toNat (wrap64 ((rd (rd_L2 x343000 ((rd_T76 x10 x12).f0)) ((rd_T76 x10 x12).f1)) + 1))))) else (none)) else (none)) else (none)) else (none)) else (none)) else (none)) else (some x343000)
def impl_Order_matrix.f (k : Nat) (a0_0 : Int) (l0_1 : List Int) : Option ((List (List Int))) := (impl_Order_magnitude.f k a0_0 l0_1).bind fun t338 => ((impl_ofSize.f k t338).bind fun t339 => ((impl_Order_ends.f k a0_0 l0_1).bind fun t343 => (impl_Order_matrix.l0 k t343 (t343.length : Int) 0 t339)))
theorem impl_Order_matrix.mono_l : ∀ k, (∀ y0 y1 y2 y3, LeO (impl_Order_matrix.l0 k y0 y1 y2 y3) (impl_Order_matrix.l0 (k + 1) y0 y1 y2 y3))
 | 0 => fun _ _ _ _ r h => by simp [impl_Order_matrix.l0] at h
 | k + 1 => by
  have ih0 := impl_Order_matrix.mono_l k
  ·intro y0 y1 y2 y3
   unfold impl_Order_matrix.l0
   repeat' first | with_reducible first | exact ih0 _ _ _ _ | exact impl_Order_ends.mono _ _ _ | exact impl_Order_magnitude.mono _ _ _ | exact impl_ofSize.mono _ _ | exact LeO.refl _ | exact LeO.none _ | refine LeO.ite ?_ ?_ | refine LeO.bind ?_ (fun _ => ?_)
theorem impl_Order_matrix.mono : ∀ a0 a1 k, LeO (impl_Order_matrix.f k a0 a1) (impl_Order_matrix.f (k + 1) a0 a1) := by
 intro a0 a1 k
 have ih0 := impl_Order_matrix.mono_l k
 unfold impl_Order_matrix.f
 repeat' first | with_reducible first | exact ih0 _ _ _ _ | exact impl_Order_ends.mono _ _ _ | exact impl_Order_magnitude.mono _ _ _ | exact impl_ofSize.mono _ _ | exact LeO.refl _ | exact LeO.none _ | refine LeO.ite ?_ ?_ | refine LeO.bind ?_ (fun _ => ?_)
def impl_Order_matrix.T5 : Bool × List (List Nat × List Nat) := (true, [([], []), ([0], [0]), ([], []), ([2], [2]), ([1, 3], [1, 3]), ([4], [4]), ([], []), ([6], [6]), ([5, 7], [5, 7]), ([8], [8]), ([9], [9]), ([5, 7, 0, 1, 2, 3, 4, 5, 6, 7, 8, 9, 10], [5, 7]), ([11, 10, 0, 1, 2, 3, 4, 5, 6, 7, 8, 9, 10], [10, 11])])
def impl_Order_matrix.B5 : List Nat := [0, 1, 0, 4, 15, 31, 0, 64, 255, 511, 1023, 2047, 4095]
theorem impl_Order_matrix.tab5 : rtab .any (opsOf Tryd.f41 5) = impl_Order_matrix.T5 := by kernel_rfl
theorem impl_Order_matrix.bits5 : waitsOk impl_Order_matrix.T5.2 impl_Order_matrix.B5 = true := by kernel_rfl
set_option maxHeartbeats 8000000 in
set_option maxRecDepth 100000 in
theorem impl_Order_matrix.calls (k : Nat) (a0_0 : Int) (A0_1 : Option Addr) (c0_1 : Nat) (l0_1 : List Int) (r : List (List Int)) (w : World) (hr0_1 : Kd.C (Kd.int .i64) w A0_1 l0_1.length l0_1) (hc0_1 : l0_1.length ≤ c0_1) (h : impl_Order_matrix.f k a0_0 l0_1 = some r) :
  Calls Tryd.prog 41 #[.agg #[.int .i64 a0_0, .slice A0_1 l0_1.length c0_1]] w fun e w' => ∃ v0_ : Value, e = .returned (.agg #[v0_]) ∧ Kd.S (Kd.slice 3 (Kd.int .i64)) 22 w' w.heap.size (fun _ => True) v0_ r ∧ Below w.heap.size w w' := by
 have hu31 := Tryd.underlying31
 have hu28 := Tryd.underlying28
 have hu76 := Tryd.underlying76
 have HR0_1 := aM hr0_1
 have HC0_1 := aM hc0_1
 clear hr0_1 hc0_1
 have HB := aM (Below.refl w.heap.size w)
 have H : ((impl_Order_magnitude.f k a0_0 l0_1).bind fun t338 => ((impl_ofSize.f k t338).bind fun t339 => ((impl_Order_ends.f k a0_0 l0_1).bind fun t343 => (impl_Order_matrix.l0 k t343 (t343.length : Int) 0 t339)))) = some r := h
 clear h
 replace H := Option.bind_eq_some_iff.mp H
 obtain ⟨t338, A20, H⟩ := H
 replace H : ((impl_ofSize.f k t338).bind fun t339 => ((impl_Order_ends.f k a0_0 l0_1).bind fun t343 => (impl_Order_matrix.l0 k t343 (t343.length : Int) 0 t339))) = some r := H
 have A2 := aM A20
 clear A20
 replace H := Option.bind_eq_some_iff.mp H
 obtain ⟨t339, A30, H⟩ := H
 replace H : ((impl_Order_ends.f k a0_0 l0_1).bind fun t343 => (impl_Order_matrix.l0 k t343 (t343.length : Int) 0 t339)) = some r := H
 have A3 := aM A30
 clear A30
 replace H := Option.bind_eq_some_iff.mp H
 obtain ⟨t343, A40, H⟩ := H
 replace H : (impl_Order_matrix.l0 k t343 (t343.length : Int) 0 t339) = some r := H
 have A4 := aM A40
 clear A40
 have H' := aM H
 clear H
 go_enter Tryd.func41, Tryd.ntmps41
 go_wp2_with (first | ((with_reducible refine gate_dst (N := 1) rfl ?_); refine bE 1 31 #[.int .i64 a0_0, .slice A0_1 l0_1.length c0_1] ?_; intro gb336 hg w5 hbox hb; have _ := aM (below_step bq hb); have _ := aM (hbox); have _ := aM ((gS hg)); have _ := aM ((gS hg)); clear HB; rename_i HB BK336 GW336 GE336; clear hb hbox hg) | ((with_reducible refine gate_dst (N := 2) rfl ?_); refine bE 2 28 #[.slice none 0 0] ?_; intro gb337 hg w6 hbox hb; have _ := aM (blk_below (g := gb336) (o := .cells #[.int .i64 a0_0, .slice A0_1 l0_1.length c0_1] 31 (0, 0)) (qQ BK336) hb); have _ := aM (below_step bq hb); have _ := aM (hbox); have _ := aM ((gS hg)); have _ := aM ((gS hg)); have _ := aM ((by rw [hg]; exact Nat.ne_of_lt (blk_lt (g := gb336) (o := .cells #[.int .i64 a0_0, .slice A0_1 l0_1.length c0_1] 31 (0, 0)) (qQ BK336)) : gb336 ≠ gb337)); have _ := aM ((by rw [hg]; exact Nat.ne_of_gt (blk_lt (g := gb336) (o := .cells #[.int .i64 a0_0, .slice A0_1 l0_1.length c0_1] 31 (0, 0)) (qQ BK336)) : gb337 ≠ gb336)); clear BK336 HB; rename_i BK336 HB BK337 GW337 GE337 NB336_337 NB337_336; clear hb hbox hg; have hnb7 := NB336_337.out; have hnc7 := NB337_336.out; have hcz8_0 : w6.cell? ⟨gb336, 0, none⟩ = some (.int .i64 a0_0) := (blk_cell BK336.out 0).trans rfl; have hcz8_1 : w6.cell? ⟨gb336, 1, none⟩ = some (.slice A0_1 l0_1.length c0_1) := (blk_cell BK336.out 1).trans rfl; have hfz8_0 := blk_frozen BK336.out 0; have hfz8_1 := blk_frozen BK336.out 1) | ((with_reducible refine gate_callee (f := 57) rfl ?_); refine gL (some 7) Tryd.func57 #[.agg #[.int .i64 a0_0, .slice A0_1 l0_1.length c0_1]] ?_; (with_reducible refine (impl_Order_magnitude.calls k a0_0 _ _ l0_1 t338 _ (cQ (Kd.C_below HR0_1.out HB.out)) HC0_1.out A2.out).mono ?_); rintro e w9 ⟨rfl, hb⟩; refine ⟨_, rfl, ?_⟩; have _ := aM (blk_below (g := gb336) (o := .cells #[.int .i64 a0_0, .slice A0_1 l0_1.length c0_1] 31 (0, 0)) (qQ BK336) hb); have _ := aM (blk_below (g := gb337) (o := .cells #[.slice none 0 0] 28 (0, 0)) (qQ BK337) hb); have _ := aM (below_step bq hb); clear BK336 BK337 HB; rename_i BK336 BK337 HB; (try clear hb); (try clear hb2); (try clear hk); (try clear hi)) | ((with_reducible refine gate_callee (f := 70) rfl ?_); refine gL (some 8) Tryd.func70 #[.int .i64 t338] ?_; (with_reducible refine (impl_ofSize.calls k t338 t339 _ A3.out).mono ?_); rintro e w10 ⟨v340, rfl, ho0, hb⟩; refine ⟨_, rfl, ?_⟩; have _ := aM (Kd.S_lower ho0 (below_size bq)); have _ := aM (blk_below (g := gb336) (o := .cells #[.int .i64 a0_0, .slice A0_1 l0_1.length c0_1] 31 (0, 0)) (qQ BK336) hb); have _ := aM (blk_below (g := gb337) (o := .cells #[.slice none 0 0] 28 (0, 0)) (qQ BK337) hb); have _ := aM (below_step bq hb); clear BK336 BK337 HB; rename_i HO341 BK336 BK337 HB; (try clear hb); (try clear hb2); (try clear hk); (try clear hi); (try clear ho0)) | ((with_reducible refine gate_dst (N := 3) rfl ?_); refine bE 3 28 #[.slice none 0 0] ?_; intro gb342 hg w11 hbox hb; have _ := aM (Kd.S_below (sQ HO341) hb); have _ := aM (blk_below (g := gb336) (o := .cells #[.int .i64 a0_0, .slice A0_1 l0_1.length c0_1] 31 (0, 0)) (qQ BK336) hb); have _ := aM (blk_below (g := gb337) (o := .cells #[.slice none 0 0] 28 (0, 0)) (qQ BK337) hb); have _ := aM (below_step bq hb); have _ := aM (hbox); have _ := aM ((gS hg)); have _ := aM ((gS hg)); have _ := aM ((by rw [hg]; exact Nat.ne_of_lt (blk_lt (g := gb336) (o := .cells #[.int .i64 a0_0, .slice A0_1 l0_1.length c0_1] 31 (0, 0)) (qQ BK336)) : gb336 ≠ gb342)); have _ := aM ((by rw [hg]; exact Nat.ne_of_gt (blk_lt (g := gb336) (o := .cells #[.int .i64 a0_0, .slice A0_1 l0_1.length c0_1] 31 (0, 0)) (qQ BK336)) : gb342 ≠ gb336)); have _ := aM ((by rw [hg]; exact Nat.ne_of_lt (blk_lt (g := gb337) (o := .cells #[.slice none 0 0] 28 (0, 0)) (qQ BK337)) : gb337 ≠ gb342)); have _ := aM ((by rw [hg]; exact Nat.ne_of_gt (blk_lt (g := gb337) (o := .cells #[.slice none 0 0] 28 (0, 0)) (qQ BK337)) : gb342 ≠ gb337)); clear HO341 BK336 BK337 HB; rename_i HO341 BK336 BK337 HB BK342 GW342 GE342 NB336_342 NB342_336 NB337_342 NB342_337; clear hb hbox hg; obtain ⟨Ao12, co12, eo12⟩ := Kd.S_slice HO341.out; subst eo12; have hnb13 := NB342_336.out; have hnc13 := NB336_342.out; have hnb14 := NB342_337.out; have hnc14 := NB337_342.out; have hcz15_0 : w11.cell? ⟨gb342, 0, none⟩ = some (.slice none 0 0) := (blk_cell BK342.out 0).trans rfl; have hfz15_0 := blk_frozen BK342.out 0; have hcz16_0 : w11.cell? ⟨gb336, 0, none⟩ = some (.int .i64 a0_0) := (blk_cell BK336.out 0).trans rfl; have hcz16_1 : w11.cell? ⟨gb336, 1, none⟩ = some (.slice A0_1 l0_1.length c0_1) := (blk_cell BK336.out 1).trans rfl; have hfz16_0 := blk_frozen BK336.out 0; have hfz16_1 := blk_frozen BK336.out 1) | ((with_reducible refine gate_callee (f := 56) rfl ?_); refine gL (some 10) Tryd.func56 #[.agg #[.int .i64 a0_0, .slice A0_1 l0_1.length c0_1]] ?_; (with_reducible refine (impl_Order_ends.calls k a0_0 _ _ l0_1 t343 _ ?side1 ?side2 A4.out).mono ?_); (case side1 => exact Kd.C_below HR0_1.out bq); (case side2 => exact HC0_1.out); rintro e w17 ⟨v344, rfl, ho0, hb⟩; refine ⟨_, rfl, ?_⟩; have _ := aM (Kd.S_below (by (with_reducible repeat first|apply sA|apply sN|apply sD); exact (Kd.S_mono (Kd.S_far (p := ⟨gb342, 0, none⟩) (Kd.S_types HO341.out BK342.out (by decide)) (fun _ hk => hk.2) (.slice Ao12 t339.length co12)) (fun _ h_ => h_.1))) hb); have _ := aM (Kd.R_lower ho0 (below_size bq)); have _ := aM (blk_below (g := gb336) (o := .cells #[.int .i64 a0_0, .slice A0_1 l0_1.length c0_1] 31 (0, 0)) (by (with_reducible repeat first|apply qN|apply qD|apply qA); refine blk_far ?_ NB336_342.out _; (with_reducible repeat first|apply qN|apply qD|apply qA); exact BK336.out) hb); have _ := aM (blk_below (g := gb337) (o := .cells #[.slice none 0 0] 28 (0, 0)) (by (with_reducible repeat first|apply qN|apply qD|apply qA); refine blk_far ?_ NB337_342.out _; (with_reducible repeat first|apply qN|apply qD|apply qA); exact BK337.out) hb); have _ := aM (blk_below (g := gb342) (o := .cells #[.slice Ao12 t339.length co12] 28 (0, 0)) (by (with_reducible repeat first|apply qN|apply qD|apply qA); refine blk_put (cs := #[.slice none 0 0]) ?_ 0 _ rfl; (with_reducible repeat first|apply qN|apply qD|apply qA); exact BK342.out) hb); have _ := aM (below_step bq hb); clear HO341 BK336 BK337 BK342 HB; rename_i HO341 HO345 BK336 BK337 BK342 HB; (try clear hb); (try clear hb2); (try clear hk); (try clear hi); (try clear ho0); obtain ⟨Ao18, co18, eo18⟩ := Kd.R_slice HO345.out; subst eo18))
 go_loopg [12] k (fun kq v12 w' => ∃ (x12_1 : Int) (x343000_1 : List (List Int)) (u343000 : Value), v12 = .int .i64 x12_1 ∧ Aside0 (impl_Order_matrix.l0 kq t343 (t343.length : Int) x12_1 x343000_1 = some r) ∧ Aside0 (kq ≤ k) ∧ Aside0 (Kd.R k76 76 w' w.heap.size (fun _ => True) (.slice Ao18 t343.length co18) t343) ∧ Aside0 (Kd.S (Kd.slice 3 (Kd.int .i64)) 22 w' w.heap.size (fun _ => True) u343000 x343000_1) ∧ Aside0 (w'.heap[gb336]? = some (.cells #[.int .i64 a0_0, (.slice A0_1 l0_1.length c0_1)] 31 (0, 0))) ∧ Aside0 (w'.heap[gb337]? = some (.cells #[(.slice none 0 0)] 28 (0, 0))) ∧ Aside0 (w'.heap[gb342]? = some (.cells #[u343000] 28 (0, 0))) ∧ Aside0 (Below w.heap.size w w'))
 case atStart => exact ⟨(0), (t339), (.slice Ao12 t339.length co12), (by first | rfl | (simp; done) | (simp [*]; done)), H', ⟨Nat.le_refl _⟩, ⟨by (with_reducible repeat first|apply rA|apply rN|apply rD); exact HO345.out⟩, ⟨by (with_reducible repeat first|apply sA|apply sN|apply sD); exact HO341.out⟩, ⟨by (with_reducible repeat first|apply qN|apply qD|apply qA); exact BK336.out⟩, ⟨by (with_reducible repeat first|apply qN|apply qD|apply qA); exact BK337.out⟩, ⟨by (with_reducible repeat first|apply qN|apply qD|apply qA); exact BK342.out⟩, ⟨by exact bq⟩⟩
 case round =>
  clear H'
  try clear c1
  try clear p2
  try clear c4
  try clear c5
  try clear c7
  try clear c13
  try clear c14
  try clear hcz15_0
  try clear hcz16_0
  try clear hcz16_1
  try clear hcz8_0
  try clear hcz8_1
  try clear hfz15_0
  try clear hfz16_0
  try clear hfz16_1
  try clear hfz8_0
  try clear hfz8_1
  obtain ⟨x12_1, x343000_1, u343000, rfl, HA, HK1, HO_10, HO_343000, BK336, BK337, BK342, HB⟩ := hrel
  cases gk with
  | zero => exact absurd HA.out (by simp [impl_Order_matrix.l0])
  | succ k1 =>
   have H := HA.out
   clear HA
   simp only [impl_Order_matrix.l0] at H
   by_cases c19 : x12_1 < (t343.length : Int)
   ·rw [if_pos c19] at H
    have c19b0 : decide (x12_1 < (t343.length : Int)) = true := decide_eq_true c19
    clear c19
    by_cases c20 : 0 ≤ x12_1
    ·rw [if_pos c20] at H
     have c20b0 : decide (0 ≤ x12_1) = true := decide_eq_true c20
     clear c20
     by_cases c21 : x12_1 < (t343.length : Int)
     ·rw [if_pos c21] at H
      have c21b0 : decide (x12_1 < (t343.length : Int)) = true := decide_eq_true c21
      clear c21
      by_cases c22 : 0 ≤ ((rd_T76 t343 x12_1).f0)
      ·rw [if_pos c22] at H
       have c22b0 : decide (0 ≤ ((rd_T76 t343 x12_1).f0)) = true := decide_eq_true c22
       clear c22
       by_cases c23 : ((rd_T76 t343 x12_1).f0) < (x343000_1.length : Int)
       ·rw [if_pos c23] at H
        have c23b0 : decide (((rd_T76 t343 x12_1).f0) < (x343000_1.length : Int)) = true := decide_eq_true c23
        clear c23
        by_cases c24 : 0 ≤ ((rd_T76 t343 x12_1).f1)
        ·rw [if_pos c24] at H
         have c24b0 : decide (0 ≤ ((rd_T76 t343 x12_1).f1)) = true := decide_eq_true c24
         clear c24
         by_cases c25 : ((rd_T76 t343 x12_1).f1) < ((rd_L2 x343000_1 ((rd_T76 t343 x12_1).f0)).length : Int)
         ·rw [if_pos c25] at H
          have c25b0 : decide (((rd_T76 t343 x12_1).f1) < ((rd_L2 x343000_1 ((rd_T76 t343 x12_1).f0)).length : Int)) = true := decide_eq_true c25
          clear c25
          obtain ⟨y350, hy350⟩ : ∃ y_ : List Int, y_ = ((rd_L2 x343000_1 ((rd_T76 t343 x12_1).f0)).set (((rd_T76 t343 x12_1).f1) : Int).toNat (wrap64 ((rd (rd_L2 x343000_1 ((rd_T76 t343 x12_1).f0)) ((rd_T76 t343 x12_1).f1)) + 1))) := ⟨_, rfl⟩
          replace H : (impl_Order_matrix.l0 k1 t343 (t343.length : Int) (wrap64 (x12_1 + 1)) (x343000_1.set (((rd_T76 t343 x12_1).f0) : Int).toNat y350)) = some r := by first | (rw [hy350]; with_reducible exact H) | (have H2_ := (Option.bind_some _ _).symm.trans H; rw [hy350]; with_reducible exact H2_) | (have H2_ := (Option.bind_some _ _).symm.trans H; with_reducible exact H2_) | with_reducible exact H | (rw [hy350]; exact H) | exact H
          have Ny350 := aM hy350
          clear hy350
          obtain ⟨y352, hy352⟩ : ∃ y_ : List (List Int), y_ = (x343000_1.set (((rd_T76 t343 x12_1).f0) : Int).toNat y350) := ⟨_, rfl⟩
          replace H : (impl_Order_matrix.l0 k1 t343 (t343.length : Int) (wrap64 (x12_1 + 1)) y352) = some r := by first | (rw [hy352]; with_reducible exact H) | (have H2_ := (Option.bind_some _ _).symm.trans H; rw [hy352]; with_reducible exact H2_) | (have H2_ := (Option.bind_some _ _).symm.trans H; with_reducible exact H2_) | with_reducible exact H | (rw [hy352]; exact H) | exact H
          have Ny352 := aM hy352
          clear hy352
          have H' := aM H
          clear H
          have p346 : 0 ≤ (x12_1 : Int) := odt
          have q346 : x12_1 < (t343.length : Int) := odt
          obtain ⟨ad346, e346, hx346_0, hx346_1⟩ := at_T76 (Kd.R_reads' HO_10.out).2.2 x12_1 p346 q346
          cases e346
          replace p346 := eq_true p346
          replace q346 := eq_true q346
          try go_wp2_with (first | ((with_reducible refine gate_dst (N := 5) rfl ?_); refine bE 5 76 #[.int .i64 0, .int .i64 0] ?_; intro gb347 hg w27 hbox hb; have _ := aM (Kd.R_below (Kd.R_elderB (rQ HO_10) gb347 (Nat.le_of_eq hg.symm)) hb); have _ := aM (Kd.S_below (sQ HO_343000) hb); have _ := aM (blk_below (g := gb336) (o := .cells #[.int .i64 a0_0, .slice A0_1 l0_1.length c0_1] 31 (0, 0)) (qQ BK336) hb); have _ := aM (blk_below (g := gb337) (o := .cells #[.slice none 0 0] 28 (0, 0)) (qQ BK337) hb); have _ := aM (blk_below (g := gb342) (o := .cells #[u343000] 28 (0, 0)) (qQ BK342) hb); have _ := aM (below_step bq hb); have _ := aM (hbox); have _ := aM ((gS hg)); have _ := aM ((gS hg)); have _ := aM ((by rw [hg]; exact Nat.ne_of_lt (blk_lt (g := gb336) (o := .cells #[.int .i64 a0_0, .slice A0_1 l0_1.length c0_1] 31 (0, 0)) (qQ BK336)) : gb336 ≠ gb347)); have _ := aM ((by rw [hg]; exact Nat.ne_of_gt (blk_lt (g := gb336) (o := .cells #[.int .i64 a0_0, .slice A0_1 l0_1.length c0_1] 31 (0, 0)) (qQ BK336)) : gb347 ≠ gb336)); have _ := aM ((by rw [hg]; exact Nat.ne_of_lt (blk_lt (g := gb337) (o := .cells #[.slice none 0 0] 28 (0, 0)) (qQ BK337)) : gb337 ≠ gb347)); have _ := aM ((by rw [hg]; exact Nat.ne_of_gt (blk_lt (g := gb337) (o := .cells #[.slice none 0 0] 28 (0, 0)) (qQ BK337)) : gb347 ≠ gb337)); have _ := aM ((by rw [hg]; exact Nat.ne_of_lt (blk_lt (g := gb342) (o := .cells #[u343000] 28 (0, 0)) (qQ BK342)) : gb342 ≠ gb347)); have _ := aM ((by rw [hg]; exact Nat.ne_of_gt (blk_lt (g := gb342) (o := .cells #[u343000] 28 (0, 0)) (qQ BK342)) : gb347 ≠ gb342)); clear HO_10 HO_343000 BK336 BK337 BK342 HB; rename_i HO_10 HO_343000 BK336 BK337 BK342 HB BK347 GW347 GE347 NB336_347 NB347_336 NB337_347 NB347_337 NB342_347 NB347_342; clear hb hbox hg; have hnb28 := NB347_336.out; have hnc28 := NB336_347.out; have hnb29 := NB347_337.out; have hnc29 := NB337_347.out; have hnb30 := NB347_342.out; have hnc30 := NB342_347.out; have hcz31_0 : w27.cell? ⟨gb347, 0, none⟩ = some (.int .i64 0) := (blk_cell BK347.out 0).trans rfl; have hcz31_1 : w27.cell? ⟨gb347, 1, none⟩ = some (.int .i64 0) := (blk_cell BK347.out 1).trans rfl; have hfz31_0 := blk_frozen BK347.out 0; have hfz31_1 := blk_frozen BK347.out 1))
          have n0_ : Aside0 (Kd.R k76 76 ((w27.setCell ⟨gb347, 0, none⟩ (.int .i64 ((rd_T76 t343 x12_1).f0))).setCell ⟨gb347, 1, none⟩ (.int .i64 ((rd_T76 t343 x12_1).f1))) w.heap.size (fun k_ => k_ ≠ gb347) (.slice (some ad346) t343.length co18) t343) := ⟨by (with_reducible repeat first|apply rA|apply rN|apply rD); exact Kd.R_mono (Kd.R_far (p := ⟨gb347, 1, none⟩) (Kd.R_far (p := ⟨gb347, 0, none⟩) (Kd.R_mono HO_10.out (fun k_ hk => (⟨hk, hk.2⟩ : _ ∧ k_ ≠ gb347))) (fun _ hk => hk.2) (.int .i64 ((rd_T76 t343 x12_1).f0))) (fun _ hk => hk.2) (.int .i64 ((rd_T76 t343 x12_1).f1))) (fun _ hk => hk.1.2)⟩
          have n1_ : Aside0 (Kd.S (Kd.slice 3 (Kd.int .i64)) 22 ((w27.setCell ⟨gb347, 0, none⟩ (.int .i64 ((rd_T76 t343 x12_1).f0))).setCell ⟨gb347, 1, none⟩ (.int .i64 ((rd_T76 t343 x12_1).f1))) w.heap.size (fun _ => True) u343000 x343000_1) := ⟨by (with_reducible repeat first|apply sA|apply sN|apply sD); exact Kd.S_mono (Kd.S_far (p := ⟨gb347, 1, none⟩) (Kd.S_far (p := ⟨gb347, 0, none⟩) (Kd.S_types HO_343000.out BK347.out (by decide)) (fun _ hk => hk.2) (.int .i64 ((rd_T76 t343 x12_1).f0))) (fun _ hk => hk.2) (.int .i64 ((rd_T76 t343 x12_1).f1))) (fun _ hk => trivial)⟩
          have n2_ : Aside0 (((w27.setCell ⟨gb347, 0, none⟩ (.int .i64 ((rd_T76 t343 x12_1).f0))).setCell ⟨gb347, 1, none⟩ (.int .i64 ((rd_T76 t343 x12_1).f1))).heap[gb336]? = some (.cells #[.int .i64 a0_0, .slice A0_1 l0_1.length c0_1] 31 (0, 0))) := ⟨by (with_reducible repeat first|apply qN|apply qD|apply qA); refine blk_far ?_ NB336_347.out _; (with_reducible repeat first|apply qN|apply qD|apply qA); refine blk_far ?_ NB336_347.out _; (with_reducible repeat first|apply qN|apply qD|apply qA); exact BK336.out⟩
          have n3_ : Aside0 (((w27.setCell ⟨gb347, 0, none⟩ (.int .i64 ((rd_T76 t343 x12_1).f0))).setCell ⟨gb347, 1, none⟩ (.int .i64 ((rd_T76 t343 x12_1).f1))).heap[gb337]? = some (.cells #[.slice none 0 0] 28 (0, 0))) := ⟨by (with_reducible repeat first|apply qN|apply qD|apply qA); refine blk_far ?_ NB337_347.out _; (with_reducible repeat first|apply qN|apply qD|apply qA); refine blk_far ?_ NB337_347.out _; (with_reducible repeat first|apply qN|apply qD|apply qA); exact BK337.out⟩
          have n4_ : Aside0 (((w27.setCell ⟨gb347, 0, none⟩ (.int .i64 ((rd_T76 t343 x12_1).f0))).setCell ⟨gb347, 1, none⟩ (.int .i64 ((rd_T76 t343 x12_1).f1))).heap[gb342]? = some (.cells #[u343000] 28 (0, 0))) := ⟨by (with_reducible repeat first|apply qN|apply qD|apply qA); refine blk_far ?_ NB342_347.out _; (with_reducible repeat first|apply qN|apply qD|apply qA); refine blk_far ?_ NB342_347.out _; (with_reducible repeat first|apply qN|apply qD|apply qA); exact BK342.out⟩
          have n5_ : Aside0 (((w27.setCell ⟨gb347, 0, none⟩ (.int .i64 ((rd_T76 t343 x12_1).f0))).setCell ⟨gb347, 1, none⟩ (.int .i64 ((rd_T76 t343 x12_1).f1))).heap[gb347]? = some (.cells #[.int .i64 ((rd_T76 t343 x12_1).f0), .int .i64 ((rd_T76 t343 x12_1).f1)] 76 (0, 0))) := ⟨by (with_reducible repeat first|apply qN|apply qD|apply qA); refine blk_put (cs := #[.int .i64 ((rd_T76 t343 x12_1).f0), .int .i64 0]) ?_ 1 _ rfl; (with_reducible repeat first|apply qN|apply qD|apply qA); refine blk_put (cs := #[.int .i64 0, .int .i64 0]) ?_ 0 _ rfl; (with_reducible repeat first|apply qN|apply qD|apply qA); exact BK347.out⟩
          have n6_ : Aside0 (Below w.heap.size w ((w27.setCell ⟨gb347, 0, none⟩ (.int .i64 ((rd_T76 t343 x12_1).f0))).setCell ⟨gb347, 1, none⟩ (.int .i64 ((rd_T76 t343 x12_1).f1)))) := ⟨by exact bq⟩
          (try clear HO_10)
          (try clear HO_343000)
          (try clear BK336)
          (try clear BK337)
          (try clear BK342)
          (try clear BK347)
          (try clear HB)
          generalize ((w27.setCell ⟨gb347, 0, none⟩ (.int .i64 ((rd_T76 t343 x12_1).f0))).setCell ⟨gb347, 1, none⟩ (.int .i64 ((rd_T76 t343 x12_1).f1))) = w32 at n0_ n1_ n2_ n3_ n4_ n5_ n6_ ⊢
          have HO_10 := n0_
          have HO_343000 := n1_
          have BK336 := n2_
          have BK337 := n3_
          have BK342 := n4_
          have BK347 := n5_
          have HB := n6_
          clear n0_ n1_ n2_ n3_ n4_ n5_ n6_
          have n0_ := aM (Kd.R_drew HO_10.out)
          have n1_ := aM (Kd.S_drew HO_343000.out)
          have n2_ := aM (blk_drew BK336.out)
          have n3_ := aM (blk_drew BK337.out)
          have n4_ := aM (blk_drew BK342.out)
          have n5_ := aM (blk_drew BK347.out)
          have n6_ := aM (below_drew1 HB.out)
          clear HO_10
          clear HO_343000
          clear BK336
          clear BK337
          clear BK342
          clear BK347
          clear HB
          have HO_10 := n0_
          have HO_343000 := n1_
          have BK336 := n2_
          have BK337 := n3_
          have BK342 := n4_
          have BK347 := n5_
          have HB := n6_
          clear n0_ n1_ n2_ n3_ n4_ n5_ n6_
          obtain ⟨Ao34, co34, eo34⟩ := Kd.S_slice HO_343000.out
          (first | subst eo34 | (injection eo34 with f1_ f2_ f3_; have f4_ := f1_.symm; have f5_ := f3_.symm; clear f1_ f2_ f3_; subst f4_; subst f5_))
          have p348 : 0 ≤ (((rd_T76 t343 x12_1).f0) : Int) := odt
          have q348 : ((rd_T76 t343 x12_1).f0) < (x343000_1.length : Int) := odt
          obtain ⟨ad348, A348_0, c348_0, e348, hx348_0, hl348_0, hi348_0⟩ := at_L2 (Kd.S_reads' HO_343000.out).2.2 ((rd_T76 t343 x12_1).f0) p348 q348
          cases e348
          obtain ⟨ce348, hce348, hMe348, hcc348⟩ := Kd.S_get HO_343000.out [] ((rd_T76 t343 x12_1).f0) p348 (by first | exact q348 | exact odt | (have e_ := (Kd.S_reads' HO_343000.out).1; omega))
          obtain ⟨ve348_0, rfl, ge348_0⟩ := hMe348
          have hv348_0 := hcc348 0 _ rfl
          rw [Nat.add_zero, show ((Kd.slice 3 (Kd.int .i64))).sz = 1 from rfl, Nat.mul_one] at hv348_0
          replace hv348_0 := Option.some.inj (hv348_0.symm.trans hx348_0)
          rw [hv348_0] at ge348_0
          have HL348_0 := aM (show Kd.R (Kd.int .i64) 3 _ _ _ _ (rd_L2 x343000_1 ((rd_T76 t343 x12_1).f0)) from ge348_0)
          clear hv348_0 ge348_0
          have HX348_0 := aM hx348_0
          clear hcc348 hce348
          have HR348_0 := aM hi348_0
          have HC348_0 := aM hl348_0
          clear hi348_0 hl348_0
          replace p348 := eq_true p348
          replace q348 := eq_true q348
          have p349 : 0 ≤ (((rd_T76 t343 x12_1).f1) : Int) := odt
          have q349 : ((rd_T76 t343 x12_1).f1) < ((rd_L2 x343000_1 ((rd_T76 t343 x12_1).f0)).length : Int) := odt
          obtain ⟨ad349, e349, hx349_0⟩ := Kd.at_int (cQ HR348_0.out) ((rd_T76 t343 x12_1).f1) p349 q349
          cases e349
          replace p349 := eq_true p349
          replace q349 := eq_true q349
          have p26 : 0 ≤ (((rd_T76 t343 x12_1).f1) : Int) := odt
          have q26 : (((rd_T76 t343 x12_1).f1) : Int) < (((rd_L2 x343000_1 ((rd_T76 t343 x12_1).f0)).length : Int) : Int) := odt
          obtain ⟨go26, co26, eo26, gb26, gl26, cl26, HG26⟩ := Kd.R_form HL348_0.out (by omega)
          (first | cases eo26 | (injection eo26 with ea_ en_ ec_; (first | subst ea_ | (injection ea_ with ea_; subst ea_)); subst ec_; clear en_))
          have GB26 := aM gb26
          have GG26 := aM HG26
          clear gb26 gl26 HG26
          (first | simp only [add_plain] at hx349_0 | skip)
          obtain ⟨hx26_0, hf26_0⟩ := Kd.R_celln 0 HL348_0.out (((rd_T76 t343 x12_1).f1) : Int) p26 q26
          replace p26 := eq_true p26
          replace q26 := eq_true q26
          have hq35 : (((rd_T76 t343 x12_1).f0) : Int) < (x343000_1.length : Int) := (by have h_ : (((rd_T76 t343 x12_1).f0) : Int) < ((x343000_1.length : Int) : Int) := odt; first | exact h_ | (have e_ := (Kd.S_reads' HO_343000.out).1; omega) | simpa only [List.length_set, List.length_set] using h_)
          obtain ⟨oki35, ce35, hcl35, hM35, hcc35, hok35, hbk35⟩ := Kd.S_borrow HO_343000.out [] (((rd_T76 t343 x12_1).f0) : Int) (odt) hq35
          obtain ⟨ve35_0, rfl, ge35_0⟩ := hM35
          have hv35 := hcc35 0 _ rfl
          rw [Nat.add_zero, show ((Kd.slice 3 (Kd.int .i64))).sz = 1 from rfl, Nat.mul_one] at hv35
          replace hv35 := Option.some.inj (hv35.symm.trans HX348_0.out)
          subst hv35
          clear hcc35 hcl35
          replace ge35_0 := (show Kd.R (Kd.int .i64) 3 _ _ _ _ (rd_L2 x343000_1 ((rd_T76 t343 x12_1).f0)) from ge35_0)
          have HP35 := Kd.R_putg ge35_0 (((rd_T76 t343 x12_1).f1) : Int) (wrap64 ((rd (rd_L2 x343000_1 ((rd_T76 t343 x12_1).f0)) ((rd_T76 t343 x12_1).f1)) + 1))
          rw [← Ny350.out] at HP35
          have HS35 := hbk35 HP35.2 (fun k_ e_ => by injection e_ with e_; subst e_; exact ge35_0.1 _ rfl) (x' := y350) (Kd.M_row HP35.1)
          rw [← Ny352.out] at HS35
          have HQ35 := aM HS35
          clear HP35 HS35 hbk35 hok35
          refine start_ (n := 13) (S := fun w' => w'.cell? ⟨gb342, 0, none⟩ = some (.slice (some ad348) x343000_1.length co34) ∧ w'.cell? ⟨gb347, 0, none⟩ = some (.int .i64 ((rd_T76 t343 x12_1).f0)) ∧ w'.cell? ⟨gb347, 1, none⟩ = some (.int .i64 ((rd_T76 t343 x12_1).f1)) ∧ w'.cell? (ad348.add (((rd_T76 t343 x12_1).f0)).toNat) = some (.slice (some ⟨go26, 0, none⟩) (rd_L2 x343000_1 ((rd_T76 t343 x12_1).f0)).length c348_0) ∧ w'.cell? ⟨go26, (((rd_T76 t343 x12_1).f1)).toNat, none⟩ = some (.int .i64 (rd (rd_L2 x343000_1 ((rd_T76 t343 x12_1).f0)) ((rd_T76 t343 x12_1).f1)))) (ds := [12]) #[false, false, false, false, false, false, false, false, false, false, false, false, false] (by kernel_rfl) rfl rfl ⟨(blk_cell BK342.out 0).trans rfl, (blk_cell BK347.out 0).trans rfl, (blk_cell BK347.out 1).trans rfl, hx348_0, hx349_0⟩ (fun hHeld => ?_); refine with_tabW impl_Order_matrix.tab5 impl_Order_matrix.bits5 (fun HT_ HW_ => ?_)
          generalize w32.drew = w33 at HO_10 HO_343000 BK336 BK337 BK342 BK347 HB GG26 HL348_0 HQ35 HR348_0 HX348_0 hf26_0 hx26_0 hx348_0 hx349_0 hHeld ⊢
          refine pure_ (i := 0) (N := some 16) (v := ?_) (a' := ?_) #[true, false, false, false, false, false, false, false, false, false, false, false, false] rfl rfl (any_of HT_.out (by kernel_rfl)) (fun _ _ _ h => h) (Or.inl ⟨by rfl, ?_⟩) ?_ ?_
          rotate_left
          ·intro w'
           go_simp
           with_reducible rfl
          rotate_left
          ·simp only [Act.put, List.setIfInBounds_toArray, List.set_cons_zero, List.set_cons_succ, i64_w, i32_w]
           rfl
          refine pure_ (i := 2) (N := some 18) (v := ?_) (a' := ?_) #[true, false, true, false, false, false, false, false, false, false, false, false, false] rfl rfl (any_of HT_.out (by kernel_rfl)) (fun _ _ _ h => h) (Or.inl ⟨by rfl, ?_⟩) ?_ ?_
          rotate_left
          ·intro w'
           go_simp
           with_reducible rfl
          rotate_left
          ·simp only [Act.put, List.setIfInBounds_toArray, List.set_cons_zero, List.set_cons_succ, i64_w, i32_w]
           rfl
          refine pure_ (i := 6) (N := some 22) (v := ?_) (a' := ?_) #[true, false, true, false, false, false, true, false, false, false, false, false, false] rfl rfl (any_of HT_.out (by kernel_rfl)) (fun _ _ _ h => h) (Or.inl ⟨by rfl, ?_⟩) ?_ ?_
          rotate_left
          ·intro w'
           go_simp
           with_reducible rfl
          rotate_left
          ·simp only [Act.put, List.setIfInBounds_toArray, List.set_cons_zero, List.set_cons_succ, i64_w, i32_w]
           rfl
          refine take_ (i := 1) (N := some 17) (v := ?_) (a' := ?_) #[true, true, true, false, false, false, true, false, false, false, false, false, false] rfl rfl (take_ofW HT_.out HW_.out (by kernel_rfl)) (fun _ _ _ h => h) (Or.inl ⟨by rfl, ?_⟩) hHeld ?_ ?_
          rotate_left
          ·rintro w' ⟨s0, s1, s2, s3, s4⟩
           go_simp
           with_reducible rfl
          rotate_left
          ·simp only [Act.put, List.setIfInBounds_toArray, List.set_cons_zero, List.set_cons_succ, i64_w, i32_w]
           rfl
          refine take_ (i := 3) (N := some 19) (v := ?_) (a' := ?_) #[true, true, true, true, false, false, true, false, false, false, false, false, false] rfl rfl (take_ofW HT_.out HW_.out (by kernel_rfl)) (fun _ _ _ h => h) (Or.inl ⟨by rfl, ?_⟩) hHeld ?_ ?_
          rotate_left
          ·rintro w' ⟨s0, s1, s2, s3, s4⟩
           go_simp
           with_reducible rfl
          rotate_left
          ·simp only [Act.put, List.setIfInBounds_toArray, List.set_cons_zero, List.set_cons_succ, i64_w, i32_w]
           rfl
          refine pure_ (i := 4) (N := some 20) (v := ?_) (a' := ?_) #[true, true, true, true, true, false, true, false, false, false, false, false, false] rfl rfl (any_of HT_.out (by kernel_rfl)) (fun _ _ _ h => h) (Or.inl ⟨by rfl, ?_⟩) ?_ ?_
          rotate_left
          ·intro w'
           go_simp
           with_reducible rfl
          rotate_left
          ·simp only [Act.put, List.setIfInBounds_toArray, List.set_cons_zero, List.set_cons_succ, i64_w, i32_w]
           rfl
          refine take_ (i := 5) (N := some 21) (v := ?_) (a' := ?_) #[true, true, true, true, true, true, true, false, false, false, false, false, false] rfl rfl (take_ofW HT_.out HW_.out (by kernel_rfl)) (fun _ _ _ h => h) (Or.inl ⟨by rfl, ?_⟩) hHeld ?_ ?_
          rotate_left
          ·rintro w' ⟨s0, s1, s2, s3, s4⟩
           go_simp
           with_reducible rfl
          rotate_left
          ·simp only [Act.put, List.setIfInBounds_toArray, List.set_cons_zero, List.set_cons_succ, i64_w, i32_w]
           rfl
          refine take_ (i := 7) (N := some 23) (v := ?_) (a' := ?_) #[true, true, true, true, true, true, true, true, false, false, false, false, false] rfl rfl (take_ofW HT_.out HW_.out (by kernel_rfl)) (fun _ _ _ h => h) (Or.inl ⟨by rfl, ?_⟩) hHeld ?_ ?_
          rotate_left
          ·rintro w' ⟨s0, s1, s2, s3, s4⟩
           go_simp
           with_reducible rfl
          rotate_left
          ·simp only [Act.put, List.setIfInBounds_toArray, List.set_cons_zero, List.set_cons_succ, i64_w, i32_w]
           rfl
          refine pure_ (i := 8) (N := some 24) (v := ?_) (a' := ?_) #[true, true, true, true, true, true, true, true, true, false, false, false, false] rfl rfl (any_of HT_.out (by kernel_rfl)) (fun _ _ _ h => h) (Or.inl ⟨by rfl, ?_⟩) ?_ ?_
          rotate_left
          ·intro w'
           go_simp
           with_reducible rfl
          rotate_left
          ·simp only [Act.put, List.setIfInBounds_toArray, List.set_cons_zero, List.set_cons_succ, i64_w, i32_w]
           rfl
          refine take_ (i := 9) (N := some 25) (v := ?_) (a' := ?_) #[true, true, true, true, true, true, true, true, true, true, false, false, false] rfl rfl (take_ofW HT_.out HW_.out (by kernel_rfl)) (fun _ _ _ h => h) (Or.inl ⟨by rfl, ?_⟩) hHeld ?_ ?_
          rotate_left
          ·rintro w' ⟨s0, s1, s2, s3, s4⟩
           go_simp
           with_reducible rfl
          rotate_left
          ·simp only [Act.put, List.setIfInBounds_toArray, List.set_cons_zero, List.set_cons_succ, i64_w, i32_w]
           rfl
          refine pure_ (i := 10) (N := some 26) (v := ?_) (a' := ?_) #[true, true, true, true, true, true, true, true, true, true, true, false, false] rfl rfl (any_of HT_.out (by kernel_rfl)) (fun _ _ _ h => h) (Or.inl ⟨by rfl, ?_⟩) ?_ ?_
          rotate_left
          ·intro w'
           go_simp
           with_reducible rfl
          rotate_left
          ·simp only [Act.put, List.setIfInBounds_toArray, List.set_cons_zero, List.set_cons_succ, i64_w, i32_w]
           rfl
          refine pure_ (i := 11) (N := some 27) (v := ?_) (a' := ?_) #[true, true, true, true, true, true, true, true, true, true, true, true, false] rfl rfl (any_of HT_.out (by kernel_rfl)) (fun _ _ _ h => h) (Or.inl ⟨by rfl, ?_⟩) ?_ ?_
          rotate_left
          ·intro w'
           go_simp
           with_reducible rfl
          rotate_left
          ·simp only [Act.put, List.setIfInBounds_toArray, List.set_cons_zero, List.set_cons_succ, i64_w, i32_w]
           rfl
          refine last_ (i := 12) (N := none) #[true, true, true, true, true, true, true, true, true, true, true, true, true] rfl rfl (one_of HT_.out (by kernel_rfl)) (by decide) (fun K hK => ?_)
          refine skip_ (w1 := ?_) (by rfl) rfl ?_ ?_
          rotate_left
          ·go_simp
           rfl
          refine hK.out _ _ ?_
          clear hK K
          refine done_ (done_of HT_.out (by kernel_rfl)) ?_
          try go_wp2
          go_roundg k1
          case measure => have := HK1.out; omega
          case rel => exact ⟨(wrap64 (x12_1 + 1)), (y352), (.slice (some ad348) x343000_1.length co34), (by first | rfl | (simp; done) | (simp [*]; done)), H', ⟨by have := HK1.out; omega⟩, ⟨by (with_reducible repeat first|apply rA|apply rN|apply rD); exact Kd.R_mono (Kd.R_far (p := ⟨go26, (((rd_T76 t343 x12_1).f1) : Int).toNat, none⟩) (Kd.R_types HO_10.out GG26.out (by decide)) (fun _ hk => hk.2) (.int .i64 (wrap64 ((rd (rd_L2 x343000_1 ((rd_T76 t343 x12_1).f0)) ((rd_T76 t343 x12_1).f1)) + 1)))) (fun _ hk => trivial)⟩, ⟨by (with_reducible repeat first|apply sA|apply sN|apply sD); exact HQ35.out⟩, ⟨by (with_reducible repeat first|apply qN|apply qD|apply qA); refine blk_far ?_ (by have h_ := Kd.R_ne HL348_0.out BK336.out (by decide); intro e_; exact h_ (by rw [e_]; rfl)) _; (with_reducible repeat first|apply qN|apply qD|apply qA); exact BK336.out⟩, ⟨by (with_reducible repeat first|apply qN|apply qD|apply qA); refine blk_far ?_ (by have h_ := Kd.R_ne HL348_0.out BK337.out (by decide); intro e_; exact h_ (by rw [e_]; rfl)) _; (with_reducible repeat first|apply qN|apply qD|apply qA); exact BK337.out⟩, ⟨by (with_reducible repeat first|apply qN|apply qD|apply qA); refine blk_far ?_ (by have h_ := Kd.R_ne HL348_0.out BK342.out (by decide); intro e_; exact h_ (by rw [e_]; rfl)) _; (with_reducible repeat first|apply qN|apply qD|apply qA); exact BK342.out⟩, ⟨by exact bq⟩⟩
         ·rw [if_neg c25] at H
          exact absurd H (by simp)
        ·rw [if_neg c24] at H
         exact absurd H (by simp)
       ·rw [if_neg c23] at H
        exact absurd H (by simp)
      ·rw [if_neg c22] at H
       exact absurd H (by simp)
     ·rw [if_neg c21] at H
      exact absurd H (by simp)
    ·rw [if_neg c20] at H
     exact absurd H (by simp)
   ·rw [if_neg c19] at H
    have c19b0 : decide (x12_1 < (t343.length : Int)) = false := decide_eq_false c19
    clear c19
    obtain rfl := Option.some.inj H
    have hnb37 := NB342_336.out
    have hnc37 := NB336_342.out
    have hnb38 := NB342_337.out
    have hnc38 := NB337_342.out
    have hcz39_0 : wr.cell? ⟨gb342, 0, none⟩ = some (u343000) := (blk_cell BK342.out 0).trans rfl
    have hfz39_0 := blk_frozen BK342.out 0
    obtain ⟨Ao40, co40, eo40⟩ := Kd.S_slice HO_343000.out
    subst eo40
    have hnb41 := NB337_336.out
    have hnc41 := NB336_337.out
    have hcz42_0 : wr.cell? ⟨gb337, 0, none⟩ = some (.slice none 0 0) := (blk_cell BK337.out 0).trans rfl
    have hfz42_0 := blk_frozen BK337.out 0
    go_wp2
    refine bodyPost_ret (results_cell_row rfl _ _ gb337 28 #[.slice Ao40 x343000_1.length co40] (0, 0) _ rfl (by (with_reducible repeat first|apply qN|apply qD|apply qA); refine blk_put (cs := #[.slice none 0 0]) ?_ 0 _ rfl; (with_reducible repeat first|apply qN|apply qD|apply qA); exact BK337.out) Tryd.underlying28 rfl (by kernel_rfl)) rfl ?_
    exact ⟨_, by first | rfl | (simp [errW_none, errW_some] <;> rfl) | (simp [*, errW_none, errW_some] <;> rfl), by (with_reducible repeat first|apply sA|apply sN|apply sD); exact Kd.S_mono (Kd.S_far (p := ⟨gb337, 0, none⟩) (Kd.S_types HO_343000.out BK337.out (by decide)) (fun _ hk => hk.2) (.slice Ao40 x343000_1.length co40)) (fun _ hk => trivial), by exact bq⟩

def strings_Join.v (l0 : List ByteArray) (a1 : ByteArray) : List UInt8 := Go.Lib.join (l0.map (·.data.toList)) a1.data.toList
def strings_Join.f (l0 : List ByteArray) (a1 : ByteArray) : Option ByteArray := if l0.length ≤ 140737488355328 ∧ (strings_Join.v l0 a1).length ≤ 140737488355328 then some ⟨(strings_Join.v l0 a1).toArray⟩ else none
theorem strings_Join.calls (A0 : Option Addr) (c0 : Nat) (l0 : List ByteArray) (a1 : ByteArray) (r : ByteArray) (w : World) (hr0 : Kd.string.C w A0 l0.length l0) (hc0 : l0.length ≤ c0) (h : strings_Join.f l0 a1 = some r) :
    Calls Tryd.prog 77 #[.slice A0 l0.length c0, .string a1] w fun e w' => e = .returned (.string r) ∧ Below w.heap.size w w' := by
 unfold strings_Join.f at h
 by_cases c : l0.length ≤ 140737488355328 ∧ (strings_Join.v l0 a1).length ≤ 140737488355328
 · {
 rw [if_pos c] at h
 obtain rfl := Option.some.inj h
 cases l0 with
 | nil => {
 refine (Go.Proofs.YtcodionjhcmfhaaDoor.XShelf.strings_Join_none A0 c0 a1 w).mono ?_
 rintro e w' ⟨rfl, rfl⟩
 exact ⟨rfl, Below.refl _ _⟩}
 | cons x xs => {
 obtain ⟨ad, _, e, _⟩ := Kd.C_get hr0 ByteArray.empty 0 (by omega) (by simp only [List.length_cons]; omega)
 subst e
 have hcell : ∀ i : Nat, i < (x :: xs).length → w.cell? (ad.add i) = some (.string ((x :: xs).getD i ByteArray.empty)) := by {
 intro i hi
 obtain ⟨ad2, c2, e2, _, hK, hc2⟩ := Kd.C_get hr0 ByteArray.empty (i : Int) (by omega) (by omega)
 obtain rfl : ad = ad2 := Option.some.inj e2
 rw [Int.toNat_natCast] at hK hc2
 have hk : c2 = [.string ((x :: xs).getD i ByteArray.empty)] := hK
 have hq := hc2 0 _ (by rw [hk]; rfl)
 rwa [show Kd.string.sz = 1 from rfl, Nat.mul_one, Nat.add_zero] at hq}
 have h0 := hcell 0 (by simp)
 have hsp : ad.spot = none := by {
 have h1 : w.cell? ad = some (.string ((x :: xs).getD 0 ByteArray.empty)) := h0
 unfold World.cell? at h1
 split at h1
 · {
 cases hs : ad.spot with
 | none => rfl
 | some _ => rw [hs] at h1; simp at h1}
 · simp at h1}
 obtain ⟨bk, o, sp⟩ := ad
 simp only at hsp
 subst hsp
 have hb := World.block_lt_of_cell? w _ h0
 refine (Go.Proofs.YtcodionjhcmfhaaDoor.XShelf.strings_Join bk o c0 (x :: xs) a1 w ?_ hb c.1 hc0 c.2)
 intro j y hj
 have hjl : j < (x :: xs).length := (List.getElem?_eq_some_iff.1 hj).1
 have h2 := hcell j hjl
 rw [List.getD_eq_getElem?_getD, hj] at h2
 have e3 : (Addr.mk bk o none).add j = ⟨bk, o + j, none⟩ := by {
 unfold Addr.add
 by_cases cj : j = 0
 · subst cj; rfl
 · rw [if_neg cj]}
 rw [e3] at h2
 exact h2}}
 · {
 rw [if_neg c] at h
 exact absurd h (by simp)}
def strconv_Itoa.f (a0 : Int) : Option ByteArray := if 0 ≤ a0 ∧ a0 < 100 then some ⟨(Go.Lib.decDigits a0.toNat).toArray⟩ else none
theorem strconv_Itoa.calls (a0 : Int) (r : ByteArray) (w : World) (h : strconv_Itoa.f a0 = some r) :
    Calls Tryd.prog 110 #[.int .i64 a0] w fun e w' => e = .returned (.string r) ∧ Drawn0 w w' := by
 unfold strconv_Itoa.f at h
 by_cases c : 0 ≤ a0 ∧ a0 < 100
 · {
 rw [if_pos c] at h
 obtain rfl := Option.some.inj h
 obtain ⟨n, rfl⟩ : ∃ n : Nat, a0 = (n : Int) := ⟨a0.toNat, by omega⟩
 refine (Go.Proofs.YtcodionjhcmfhaaDoor.XShelf.strconv_Itoa_small n (by omega) w).mono ?_
 rintro e w' ⟨rfl, rfl⟩
 exact ⟨by rw [Int.toNat_natCast], Drawn0.refl _⟩}
 · {
 rw [if_neg c] at h
 exact absurd h (by simp)}
end Go.Proofs.YtcodionjhcmfhaaDoor.Al
