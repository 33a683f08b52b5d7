-- Written by hook.py, a program of this session (wip/), which runs the kit's print.py with its own parts; Lean checks it.
import Derived.Test.YtacdlipojhoilaaZx0
import Derived.Test.YtacdlipojhoilaaZx18
import Derived.Test.YtacdlipojhoilaaZxXSq
namespace Go.Proofs.Ytacdlipojhoilaa.Zx
open Go.RowKit Go.Proofs.YtacdlipojhoilaaW.PrintWords Go.Proofs.YtacdlipojhoilaaW.PrintLast Go.Proofs.YtacdlipojhoilaaW.PrintMore Go.Proofs.Ytacdlipojhoilaa.Sq
attribute [local go_sem] max2_int min2_int max_two min_two max_three min_three max_four min_four   -- for this text's walks alone
set_option linter.unusedVariables false
set_option linter.unusedSimpArgs false

mutual
def spec_stOf.l0 : Nat → List Int → List Int → List Int → List (List Int) → Int → Int → Option (List Int)
 | 0, _, _, _, _, _, _ => none
 | k + 1, x3, x4, x5, x20, x21, x22 => if x22 < x21 then (if 0 ≤ x22 then (if x22 < (x20.length : Int) then (spec_stOf.l1 k x3 x4 x5 x22 x20 x21 x22 (rd_L2 x20 x22) ((rd_L2 x20 x22).length : Int) 0) else (none)) else (none)) else (some x5)
def spec_stOf.l1 : Nat → List Int → List Int → List Int → Int → List (List Int) → Int → Int → List Int → Int → Int → Option (List Int)
 | 0, _, _, _, _, _, _, _, _, _, _ => none
 | k + 1, x3, x4, x5, x6, x20, x21, x22, x27, x28, x29 => if x29 < x28 then (if 0 ≤ x29 then (if x29 < (x27.length : Int) then (spec_stOf.l2 k x3 x4 x5 x6 x29 (rd x27 x29) x20 x21 x22 x27 x28 x29) else (none)) else (none)) else (spec_stOf.l0 k x3 x4 x5 x20 x21 (wrap64 (x22 + 1)))
def spec_stOf.l2 : Nat → List Int → List Int → List Int → Int → Int → Int → List (List Int) → Int → Int → List Int → Int → Int → Option (List Int)
 | 0, _, _, _, _, _, _, _, _, _, _, _, _ => none
 | k + 1, x3, x4, x5, x6, x8, x9, x20, x21, x22, x27, x28, x29 => if x9 > 0 then (if 0 ≤ x6 then (if x6 < (x3.length : Int) then (if 0 ≤ x8 then (if x8 < (x4.length : Int) then (if 0 ≤ (rd x3 x6) then (if (rd x3 x6) < (x5.length : Int) then (if 0 ≤ (rd x4 x8) then (if (rd x4 x8) < (x5.length : Int) then (spec_stOf.l2 k (x3.set (x6 : Int).toNat (wrap64 ((rd x3 x6) + 1))) (x4.set (x8 : Int).toNat (wrap64 ((rd x4 x8) + 1))) ((x5.set ((rd x3 x6) : Int).toNat (rd x4 x8)).set ((rd x4 x8) : Int).toNat (rd x3 x6)) x6 x8 (wrap64 (x9 - 1)) x20 x21 x22 x27 x28 x29) else (none)) else (none)) else (none)) else (none)) else (none)) else (none)) else (none)) else (none)) else (spec_stOf.l1 k x3 x4 x5 x6 x20 x21 x22 x27 x28 (wrap64 (x29 + 1)))
end
def spec_stOf.f (k : Nat) (l0_0 : List (List Int)) : Option (List Int) := (spec_stPlaces.f k l0_0).bind fun bt446 => ((spec_maSum.f k l0_0).bind fun t452 => (if 0 ≤ (wrap64 (2 * t452)) then (if (wrap64 (2 * t452) : Int).toNat ≤ 35184372088832 then (spec_stOf.l0 k bt446.1 bt446.2 (List.replicate (wrap64 (2 * t452) : Int).toNat 0) l0_0 (l0_0.length : Int) 0) else (none)) else (none)))
theorem spec_stOf.mono_l : ∀ k, (∀ y0 y1 y2 y3 y4 y5, LeO (spec_stOf.l0 k y0 y1 y2 y3 y4 y5) (spec_stOf.l0 (k + 1) y0 y1 y2 y3 y4 y5)) ∧ (∀ y0 y1 y2 y3 y4 y5 y6 y7 y8 y9, LeO (spec_stOf.l1 k y0 y1 y2 y3 y4 y5 y6 y7 y8 y9) (spec_stOf.l1 (k + 1) y0 y1 y2 y3 y4 y5 y6 y7 y8 y9)) ∧ (∀ y0 y1 y2 y3 y4 y5 y6 y7 y8 y9 y10 y11, LeO (spec_stOf.l2 k y0 y1 y2 y3 y4 y5 y6 y7 y8 y9 y10 y11) (spec_stOf.l2 (k + 1) y0 y1 y2 y3 y4 y5 y6 y7 y8 y9 y10 y11))
 | 0 => ⟨fun _ _ _ _ _ _ r h => by simp [spec_stOf.l0] at h, fun _ _ _ _ _ _ _ _ _ _ r h => by simp [spec_stOf.l1] at h, fun _ _ _ _ _ _ _ _ _ _ _ _ r h => by simp [spec_stOf.l2] at h⟩
 | k + 1 => by
  obtain ⟨ih0, ih1, ih2⟩ := spec_stOf.mono_l k
  refine ⟨?_, ?_, ?_⟩
  ·intro y0 y1 y2 y3 y4 y5
   unfold spec_stOf.l0
   repeat' first | with_reducible first | exact ih0 _ _ _ _ _ _ | exact ih1 _ _ _ _ _ _ _ _ _ _ | exact ih2 _ _ _ _ _ _ _ _ _ _ _ _ | exact spec_maSum.mono _ _ | exact spec_stPlaces.mono _ _ | exact LeO.refl _ | exact LeO.none _ | refine LeO.ite ?_ ?_ | refine LeO.bind ?_ (fun _ => ?_)
  ·intro y0 y1 y2 y3 y4 y5 y6 y7 y8 y9
   unfold spec_stOf.l1
   repeat' first | with_reducible first | exact ih0 _ _ _ _ _ _ | exact ih1 _ _ _ _ _ _ _ _ _ _ | exact ih2 _ _ _ _ _ _ _ _ _ _ _ _ | exact spec_maSum.mono _ _ | exact spec_stPlaces.mono _ _ | exact LeO.refl _ | exact LeO.none _ | refine LeO.ite ?_ ?_ | refine LeO.bind ?_ (fun _ => ?_)
  ·intro y0 y1 y2 y3 y4 y5 y6 y7 y8 y9 y10 y11
   unfold spec_stOf.l2
   repeat' first | with_reducible first | exact ih0 _ _ _ _ _ _ | exact ih1 _ _ _ _ _ _ _ _ _ _ | exact ih2 _ _ _ _ _ _ _ _ _ _ _ _ | exact spec_maSum.mono _ _ | exact spec_stPlaces.mono _ _ | exact LeO.refl _ | exact LeO.none _ | refine LeO.ite ?_ ?_ | refine LeO.bind ?_ (fun _ => ?_)
theorem spec_stOf.mono : ∀ a0 k, LeO (spec_stOf.f k a0) (spec_stOf.f (k + 1) a0) := by
 intro a0 k
 obtain ⟨ih0, ih1, ih2⟩ := spec_stOf.mono_l k
 unfold spec_stOf.f
 repeat' first | with_reducible first | exact ih0 _ _ _ _ _ _ | exact ih1 _ _ _ _ _ _ _ _ _ _ | exact ih2 _ _ _ _ _ _ _ _ _ _ _ _ | exact spec_maSum.mono _ _ | exact spec_stPlaces.mono _ _ | exact LeO.refl _ | exact LeO.none _ | refine LeO.ite ?_ ?_ | refine LeO.bind ?_ (fun _ => ?_)
def spec_stOf.T11 : Bool × List (List Nat × List Nat) := (true, [([], []), ([], []), ([], []), ([1, 2], [1, 2]), ([3], [3]), ([], []), ([], []), ([5, 6], [5, 6]), ([7], [7]), ([0, 4, 0, 1, 2, 3, 4, 5, 6, 7, 8], [0, 4]), ([9, 8, 0, 1, 2, 3, 4, 5, 6, 7, 8], [8, 9])])
def spec_stOf.B11 : List Nat := [0, 0, 0, 6, 14, 0, 0, 96, 224, 511, 1023]
theorem spec_stOf.tab11 : rtab .any (opsOf Try.f81 11) = spec_stOf.T11 := by kernel_rfl
theorem spec_stOf.bits11 : waitsOk spec_stOf.T11.2 spec_stOf.B11 = true := by kernel_rfl
def spec_stOf.T12 : Bool × List (List Nat × List Nat) := (true, [([], []), ([], []), ([], []), ([1, 2], [1, 2]), ([3], [3]), ([], []), ([], []), ([5, 6], [5, 6]), ([7], [7]), ([0, 4, 0, 1, 2, 3, 4, 5, 6, 7, 8], [0, 4]), ([9, 8, 0, 1, 2, 3, 4, 5, 6, 7, 8], [8, 9])])
def spec_stOf.B12 : List Nat := [0, 0, 0, 6, 14, 0, 0, 96, 224, 511, 1023]
theorem spec_stOf.tab12 : rtab .any (opsOf Try.f81 12) = spec_stOf.T12 := by kernel_rfl
theorem spec_stOf.bits12 : waitsOk spec_stOf.T12.2 spec_stOf.B12 = true := by kernel_rfl
set_option maxHeartbeats 8000000 in
set_option maxRecDepth 100000 in
theorem spec_stOf.calls (k : Nat) (A0_0 : Option Addr) (c0_0 : Nat) (l0_0 : List (List Int)) (r : List Int) (w : World) (hr0_0 : Kd.C (Kd.slice 3 (Kd.int .i64)) w A0_0 l0_0.length l0_0) (hc0_0 : l0_0.length ≤ c0_0) (h : spec_stOf.f k l0_0 = some r) :
  Calls Try.prog 81 #[.agg #[.slice A0_0 l0_0.length c0_0]] w fun e w' => ∃ v0_ : Value, e = .returned (v0_) ∧ Kd.R (Kd.int .i64) 3 w' w.heap.size (fun _ => True) v0_ r ∧ Below w.heap.size w w' := by
 have hu36 := Try.underlying36
 have HR0_0 := aM hr0_0
 have HC0_0 := aM hc0_0
 clear hr0_0 hc0_0
 have HB := aM (Below.refl w.heap.size w)
 have H : ((spec_stPlaces.f k l0_0).bind fun bt446 => ((spec_maSum.f k l0_0).bind fun t452 => (if 0 ≤ (wrap64 (2 * t452)) then (if (wrap64 (2 * t452) : Int).toNat ≤ 35184372088832 then (spec_stOf.l0 k bt446.1 bt446.2 (List.replicate (wrap64 (2 * t452) : Int).toNat 0) l0_0 (l0_0.length : Int) 0) else (none)) else (none)))) = some r := h
 clear h
 replace H := Option.bind_eq_some_iff.mp H
 obtain ⟨⟨t446, t449⟩, A20, H⟩ := H
 replace H : ((spec_maSum.f k l0_0).bind fun t452 => (if 0 ≤ (wrap64 (2 * t452)) then (if (wrap64 (2 * t452) : Int).toNat ≤ 35184372088832 then (spec_stOf.l0 k t446 t449 (List.replicate (wrap64 (2 * t452) : Int).toNat 0) l0_0 (l0_0.length : Int) 0) else (none)) else (none))) = some r := H
 have A2 := aM A20
 clear A20
 replace H := Option.bind_eq_some_iff.mp H
 obtain ⟨t452, A30, H⟩ := H
 replace H : (if 0 ≤ (wrap64 (2 * t452)) then (if (wrap64 (2 * t452) : Int).toNat ≤ 35184372088832 then (spec_stOf.l0 k t446 t449 (List.replicate (wrap64 (2 * t452) : Int).toNat 0) l0_0 (l0_0.length : Int) 0) else (none)) else (none)) = some r := H
 have A3 := aM A30
 clear A30
 obtain ⟨ji4, hji4⟩ : ∃ j_ : Int, (wrap64 (2 * t452)) = j_ := ⟨_, rfl⟩
 replace H : (if 0 ≤ (ji4) then (if (ji4 : Int).toNat ≤ 35184372088832 then (spec_stOf.l0 k t446 t449 (List.replicate (ji4 : Int).toNat 0) l0_0 (l0_0.length : Int) 0) else (none)) else (none)) = some r := by first | (rw [hji4] at H; exact H) | (simp only [hji4] at H ⊢; exact H)
 (try rw [hji4] at A2)
 (try rw [hji4] at A3)
 have hji4w : (IntKind.i64.wrap (2 * t452)) = ji4 := (i64_w _).trans hji4
 by_cases c5 : 0 ≤ (ji4)
 ·rw [if_pos c5] at H
  have c5b0 := eq_true c5
  have c5b1 : decide (0 ≤ (ji4)) = true := decide_eq_true c5
  clear c5
  by_cases c6 : (ji4 : Int).toNat ≤ 35184372088832
  ·rw [if_pos c6] at H
   have c6b0 := eq_true c6
   have c6b1 : decide ((ji4 : Int).toNat ≤ 35184372088832) = true := decide_eq_true c6
   clear c6
   obtain ⟨y453, hy453⟩ : ∃ y_ : List Int, y_ = (List.replicate (ji4 : Int).toNat 0) := ⟨_, rfl⟩
   replace H : (spec_stOf.l0 k t446 t449 y453 l0_0 (l0_0.length : Int) 0) = some r := by first | (rw [hy453]; with_reducible exact H) | (have H2_ := (Option.bind_some _ _).symm.trans H; rw [hy453]; with_reducible exact H2_) | (have H2_ := (Option.bind_some _ _).symm.trans H; with_reducible exact H2_) | with_reducible exact H | (rw [hy453]; exact H) | exact H
   have Ny453 := aM hy453
   clear hy453
   have H' := aM H
   clear H
   go_enter Try.func81, Try.ntmps81
   go_wp2_with (first | ((with_reducible refine gate_dst (N := 1) rfl ?_); refine bE 1 36 #[.slice A0_0 l0_0.length c0_0] ?_; intro gb445 hg w7 hbox hb; have _ := aM (below_step bq hb); have _ := aM (hbox); have _ := aM ((gS hg)); have _ := aM ((gS hg)); clear HB; rename_i HB BK445 GW445 GE445; clear hb hbox hg; have hcz8_0 : w7.cell? ⟨gb445, 0, none⟩ = some (.slice A0_0 l0_0.length c0_0) := (blk_cell BK445.out 0).trans rfl; have hfz8_0 := blk_frozen BK445.out 0) | ((with_reducible refine gate_callee (f := 131) rfl ?_); refine gL (some 12) Try.func131 #[.agg #[.slice A0_0 l0_0.length c0_0]] ?_; (with_reducible refine (spec_stPlaces.calls k _ _ l0_0 t446 t449 _ (cQ (Kd.C_below HR0_0.out HB.out)) HC0_0.out A2.out).mono ?_); rintro e w9 ⟨v447, v450, rfl, ho0, ho1, hb⟩; refine ⟨_, rfl, ?_⟩; have _ := aM (Kd.R_lower ho0 (below_size bq)); have _ := aM (Kd.R_lower ho1 (below_size bq)); have _ := aM (blk_below (g := gb445) (o := .cells #[.slice A0_0 l0_0.length c0_0] 36 (0, 0)) (qQ BK445) hb); have _ := aM (below_step bq hb); clear BK445 HB; rename_i HO448 HO451 BK445 HB; (try clear hb); (try clear hb2); (try clear hk); (try clear hi); (try clear ho0); (try clear ho1); have hcz10_0 : w9.cell? ⟨gb445, 0, none⟩ = some (.slice A0_0 l0_0.length c0_0) := (blk_cell BK445.out 0).trans rfl; have hfz10_0 := blk_frozen BK445.out 0) | ((with_reducible refine gate_callee (f := 106) rfl ?_); refine gL (some 16) Try.func106 #[.agg #[.slice A0_0 l0_0.length c0_0]] ?_; (with_reducible refine (spec_maSum.calls k _ _ l0_0 t452 _ (cQ (Kd.C_below HR0_0.out HB.out)) HC0_0.out A3.out).mono ?_); rintro e w11 ⟨rfl, hb⟩; refine ⟨_, rfl, ?_⟩; have _ := aM (Kd.R_below (rQ HO448) hb); have _ := aM (Kd.R_below (rQ HO451) hb); have _ := aM (blk_below (g := gb445) (o := .cells #[.slice A0_0 l0_0.length c0_0] 36 (0, 0)) (qQ BK445) hb); have _ := aM (below_step bq hb); clear HO448 HO451 BK445 HB; rename_i HO448 HO451 BK445 HB; (try clear hb); (try clear hb2); (try clear hk); (try clear hi)) | ((with_reducible refine gate_dst (N := 18) rfl ?_); refine Kd.R_make (Kd.int .i64) _ 3 rfl (N := 18) rfl 24 _ _ rfl ji4 rfl rfl Try.underlying24 (.int .i64 0) 8 info3 rfl (by decide) (by omega) 0 (ok := fun _ => True) (okp := fun _ => True) rfl (fun _ hk => hk) trivial (odt) (Nat.le_trans (Nat.mul_le_mul_right _ (odt : ji4.toNat ≤ 35184372088832)) (by omega)) (Below.refl _ _) (Nat.le_refl _) ?_; intro v454 w12 ho13 hb hg_ hnew_; clear hg_ hnew_; (first | rw [← Ny453.out] at ho13 | (simp only [Int.reduceToNat] at ho13; rw [← Ny453.out] at ho13)); have _ := aM (Kd.R_elder' (rQ HO448) (Kd.R_base ho13) hb); have _ := aM (Kd.R_elder' (rQ HO451) (Kd.R_base ho13) hb); have _ := aM (Kd.R_lower (Kd.R_new' (Kd.R_new' ho13 (Kd.R_lt (rQ HO448))) (Kd.R_lt (rQ HO451))) (below_size bq)); have _ := aM (blk_below (g := gb445) (o := .cells #[.slice A0_0 l0_0.length c0_0] 36 (0, 0)) (qQ BK445) hb); have _ := aM (below_step bq hb); clear HO448 HO451 BK445 HB; rename_i HO448 HO451 HO455 BK445 HB; clear hb ho13; have hcz14_0 : w12.cell? ⟨gb445, 0, none⟩ = some (.slice A0_0 l0_0.length c0_0) := (blk_cell BK445.out 0).trans rfl; have hfz14_0 := blk_frozen BK445.out 0))
   go_loopg [22] k (fun kq v22 w' => ∃ (x3_1 : List Int) (x4_1 : List Int) (x5_1 : List Int) (x22_1 : Int), v22 = .int .i64 x22_1 ∧ Aside0 (spec_stOf.l0 kq x3_1 x4_1 x5_1 l0_0 (l0_0.length : Int) x22_1 = some r) ∧ Aside0 (kq ≤ k) ∧ Aside0 (Kd.R (Kd.int .i64) 3 w' w.heap.size (fun k_ => some k_ ≠ (v450 : Value).ownBlock ∧ some k_ ≠ (v454 : Value).ownBlock) v447 x3_1) ∧ Aside0 (Kd.R (Kd.int .i64) 3 w' w.heap.size (fun k_ => some k_ ≠ (v447 : Value).ownBlock ∧ some k_ ≠ (v454 : Value).ownBlock) v450 x4_1) ∧ Aside0 (Kd.R (Kd.int .i64) 3 w' w.heap.size (fun k_ => some k_ ≠ (v447 : Value).ownBlock ∧ some k_ ≠ (v450 : Value).ownBlock) v454 x5_1) ∧ Aside0 (w'.heap[gb445]? = some (.cells #[(.slice A0_0 l0_0.length c0_0)] 36 (0, 0))) ∧ Aside0 (Below w.heap.size w w'))
   case atStart => exact ⟨(t446), (t449), (y453), (0), (by first | rfl | (simp; done) | (simp [*]; done)), H', ⟨Nat.le_refl _⟩, ⟨by (with_reducible repeat first|apply rA|apply rN|apply rD); exact HO448.out⟩, ⟨by (with_reducible repeat first|apply rA|apply rN|apply rD); exact HO451.out⟩, ⟨by (with_reducible repeat first|apply rA|apply rN|apply rD); exact Kd.R_mono HO455.out (fun _ hk => ⟨hk.1.2, hk.2⟩)⟩, ⟨by (with_reducible repeat first|apply qN|apply qD|apply qA); exact BK445.out⟩, ⟨by exact bq⟩⟩
   case round =>
    clear H'
    try clear c1
    try clear p2
    try clear c5
    try clear c5b0
    try clear c5b1
    try clear c6
    try clear c6b0
    try clear c6b1
    try clear p6
    try clear c8
    try clear c10
    try clear c13
    try clear hcz10_0
    try clear hcz14_0
    try clear hcz8_0
    try clear hfz10_0
    try clear hfz14_0
    try clear hfz8_0
    obtain ⟨x3_1, x4_1, x5_1, x22_1, rfl, HA, HK1, HO_3, HO_4, HO_5, BK445, HB⟩ := hrel
    cases gk with
    | zero => exact absurd HA.out (by simp [spec_stOf.l0])
    | succ k1 =>
     have H := HA.out
     clear HA
     simp only [spec_stOf.l0] at H
     by_cases c15 : x22_1 < (l0_0.length : Int)
     ·rw [if_pos c15] at H
      have c15b0 : decide (x22_1 < (l0_0.length : Int)) = true := decide_eq_true c15
      clear c15
      by_cases c16 : 0 ≤ x22_1
      ·rw [if_pos c16] at H
       have c16b0 : decide (0 ≤ x22_1) = true := decide_eq_true c16
       clear c16
       by_cases c17 : x22_1 < (l0_0.length : Int)
       ·rw [if_pos c17] at H
        have c17b0 : decide (x22_1 < (l0_0.length : Int)) = true := decide_eq_true c17
        clear c17
        have H' := aM H
        clear H
        have p456 : 0 ≤ (x22_1 : Int) := odt
        have q456 : x22_1 < (l0_0.length : Int) := odt
        obtain ⟨ad456, A456_0, c456_0, e456, hx456_0, hl456_0, hi456_0⟩ := at_L2 HR0_0.out x22_1 p456 q456
        cases e456
        replace hx456_0 := (HB.out.cell (World.block_lt_of_cell? w _ hx456_0)).trans hx456_0
        have HR456_0 := aM hi456_0
        have HC456_0 := aM hl456_0
        clear hi456_0 hl456_0
        replace p456 := eq_true p456
        replace q456 := eq_true q456
        go_wp2
        go_loopg [29] k1 (fun kq v29 w' => ∃ (x3_2 : List Int) (x4_2 : List Int) (x5_2 : List Int) (x29_2 : Int), v29 = .int .i64 x29_2 ∧ Aside0 (spec_stOf.l1 kq x3_2 x4_2 x5_2 x22_1 l0_0 (l0_0.length : Int) x22_1 (rd_L2 l0_0 x22_1) ((rd_L2 l0_0 x22_1).length : Int) x29_2 = some r) ∧ Aside0 (kq ≤ k1) ∧ Aside0 (Kd.R (Kd.int .i64) 3 w' w.heap.size (fun k_ => some k_ ≠ (v450 : Value).ownBlock ∧ some k_ ≠ (v454 : Value).ownBlock) v447 x3_2) ∧ Aside0 (Kd.R (Kd.int .i64) 3 w' w.heap.size (fun k_ => some k_ ≠ (v447 : Value).ownBlock ∧ some k_ ≠ (v454 : Value).ownBlock) v450 x4_2) ∧ Aside0 (Kd.R (Kd.int .i64) 3 w' w.heap.size (fun k_ => some k_ ≠ (v447 : Value).ownBlock ∧ some k_ ≠ (v450 : Value).ownBlock) v454 x5_2) ∧ Aside0 (w'.heap[gb445]? = some (.cells #[(.slice (some ad456) l0_0.length c0_0)] 36 (0, 0))) ∧ Aside0 (Below w.heap.size w w'))
        case atStart => exact ⟨(x3_1), (x4_1), (x5_1), (0), (by first | rfl | (simp; done) | (simp [*]; done)), H', ⟨Nat.le_refl _⟩, ⟨by (with_reducible repeat first|apply rA|apply rN|apply rD); exact HO_3.out⟩, ⟨by (with_reducible repeat first|apply rA|apply rN|apply rD); exact HO_4.out⟩, ⟨by (with_reducible repeat first|apply rA|apply rN|apply rD); exact HO_5.out⟩, ⟨by (with_reducible repeat first|apply qN|apply qD|apply qA); exact BK445.out⟩, ⟨by exact bq⟩⟩
        case round =>
         clear H'
         try clear c1
         try clear p2
         try clear c4
         try clear p4
         try clear q4
         try clear hx4
         try clear c5
         try clear c5b0
         try clear c5b1
         try clear c6
         try clear c6b0
         try clear c6b1
         try clear p6
         try clear c8
         try clear c10
         try clear c13
         try clear c15
         try clear c15b0
         try clear c16
         try clear c16b0
         try clear c17
         try clear c17b0
         try clear hcz10_0
         try clear hcz14_0
         try clear hcz8_0
         try clear hfz10_0
         try clear hfz14_0
         try clear hfz8_0
         try clear hx456_0
         try clear p2
         try clear p456
         try clear p6
         try clear q456
         obtain ⟨x3_2, x4_2, x5_2, x29_2, rfl, HA, HK2, HO_3, HO_4, HO_5, BK445, HB⟩ := hrel
         cases gk with
         | zero => exact absurd HA.out (by simp [spec_stOf.l1])
         | succ k2 =>
          have H := HA.out
          clear HA
          simp only [spec_stOf.l1] at H
          by_cases c18 : x29_2 < ((rd_L2 l0_0 x22_1).length : Int)
          ·rw [if_pos c18] at H
           have c18b0 : decide (x29_2 < ((rd_L2 l0_0 x22_1).length : Int)) = true := decide_eq_true c18
           clear c18
           by_cases c19 : 0 ≤ x29_2
           ·rw [if_pos c19] at H
            have c19b0 : decide (0 ≤ x29_2) = true := decide_eq_true c19
            clear c19
            by_cases c20 : x29_2 < ((rd_L2 l0_0 x22_1).length : Int)
            ·rw [if_pos c20] at H
             have c20b0 : decide (x29_2 < ((rd_L2 l0_0 x22_1).length : Int)) = true := decide_eq_true c20
             clear c20
             have H' := aM H
             clear H
             have p457 : 0 ≤ (x29_2 : Int) := odt
             have q457 : x29_2 < ((rd_L2 l0_0 x22_1).length : Int) := odt
             obtain ⟨ad457, e457, hx457_0⟩ := Kd.at_int HR456_0.out x29_2 p457 q457
             cases e457
             replace hx457_0 := (HB.out.cell (World.block_lt_of_cell? w _ hx457_0)).trans hx457_0
             replace p457 := eq_true p457
             replace q457 := eq_true q457
             go_wp2
             go_loopg [9] k2 (fun kq v9 w' => ∃ (x3_3 : List Int) (x4_3 : List Int) (x5_3 : List Int) (x9_3 : Int), v9 = .int .i64 x9_3 ∧ Aside0 (spec_stOf.l2 kq x3_3 x4_3 x5_3 x22_1 x29_2 x9_3 l0_0 (l0_0.length : Int) x22_1 (rd_L2 l0_0 x22_1) ((rd_L2 l0_0 x22_1).length : Int) x29_2 = some r) ∧ Aside0 (kq ≤ k2) ∧ Aside0 (Kd.R (Kd.int .i64) 3 w' w.heap.size (fun k_ => some k_ ≠ (v450 : Value).ownBlock ∧ some k_ ≠ (v454 : Value).ownBlock) v447 x3_3) ∧ Aside0 (Kd.R (Kd.int .i64) 3 w' w.heap.size (fun k_ => some k_ ≠ (v447 : Value).ownBlock ∧ some k_ ≠ (v454 : Value).ownBlock) v450 x4_3) ∧ Aside0 (Kd.R (Kd.int .i64) 3 w' w.heap.size (fun k_ => some k_ ≠ (v447 : Value).ownBlock ∧ some k_ ≠ (v450 : Value).ownBlock) v454 x5_3) ∧ Aside0 (w'.heap[gb445]? = some (.cells #[(.slice (some ad456) l0_0.length c0_0)] 36 (0, 0))) ∧ Aside0 (Below w.heap.size w w'))
             case atStart => exact ⟨(x3_2), (x4_2), (x5_2), (rd (rd_L2 l0_0 x22_1) x29_2), (by first | rfl | (simp; done) | (simp [*]; done)), H', ⟨Nat.le_refl _⟩, ⟨by (with_reducible repeat first|apply rA|apply rN|apply rD); exact HO_3.out⟩, ⟨by (with_reducible repeat first|apply rA|apply rN|apply rD); exact HO_4.out⟩, ⟨by (with_reducible repeat first|apply rA|apply rN|apply rD); exact HO_5.out⟩, ⟨by (with_reducible repeat first|apply qN|apply qD|apply qA); exact BK445.out⟩, ⟨by exact bq⟩⟩
             case round =>
              clear H'
              try clear c1
              try clear c2
              try clear p2
              try clear c4
              try clear p4
              try clear q4
              try clear hx4
              try clear c5
              try clear c5b0
              try clear c5b1
              try clear c6
              try clear c6b0
              try clear c6b1
              try clear p6
              try clear c8
              try clear c10
              try clear c13
              try clear c15
              try clear c15b0
              try clear c16
              try clear c16b0
              try clear c17
              try clear c17b0
              try clear c18
              try clear c18b0
              try clear c19
              try clear c19b0
              try clear c20
              try clear c20b0
              try clear hcz10_0
              try clear hcz14_0
              try clear hcz8_0
              try clear hfz10_0
              try clear hfz14_0
              try clear hfz8_0
              try clear hx456_0
              try clear hx457_0
              try clear p2
              try clear p4
              try clear p456
              try clear p457
              try clear p6
              try clear q4
              try clear q456
              try clear q457
              obtain ⟨x3_3, x4_3, x5_3, x9_3, rfl, HA, HK3, HO_3, HO_4, HO_5, BK445, HB⟩ := hrel
              cases gk with
              | zero => exact absurd HA.out (by simp [spec_stOf.l2])
              | succ k3 =>
               have H := HA.out
               clear HA
               simp only [spec_stOf.l2] at H
               by_cases c21 : x9_3 > 0
               ·rw [if_pos c21] at H
                have c21b0 : decide (0 < x9_3) = true := decide_eq_true c21
                clear c21
                by_cases c22 : 0 ≤ x22_1
                ·rw [if_pos c22] at H
                 have c22b0 : decide (0 ≤ x22_1) = true := decide_eq_true c22
                 clear c22
                 by_cases c23 : x22_1 < (x3_3.length : Int)
                 ·rw [if_pos c23] at H
                  have c23b0 : decide (x22_1 < (x3_3.length : Int)) = true := decide_eq_true c23
                  clear c23
                  by_cases c24 : 0 ≤ x29_2
                  ·rw [if_pos c24] at H
                   have c24b0 : decide (0 ≤ x29_2) = true := decide_eq_true c24
                   clear c24
                   by_cases c25 : x29_2 < (x4_3.length : Int)
                   ·rw [if_pos c25] at H
                    have c25b0 : decide (x29_2 < (x4_3.length : Int)) = true := decide_eq_true c25
                    clear c25
                    by_cases c26 : 0 ≤ (rd x3_3 x22_1)
                    ·rw [if_pos c26] at H
                     have c26b0 : decide (0 ≤ (rd x3_3 x22_1)) = true := decide_eq_true c26
                     clear c26
                     by_cases c27 : (rd x3_3 x22_1) < (x5_3.length : Int)
                     ·rw [if_pos c27] at H
                      have c27b0 : decide ((rd x3_3 x22_1) < (x5_3.length : Int)) = true := decide_eq_true c27
                      clear c27
                      obtain ⟨y460, hy460⟩ : ∃ y_ : List Int, y_ = (x5_3.set ((rd x3_3 x22_1) : Int).toNat (rd x4_3 x29_2)) := ⟨_, rfl⟩
                      replace H : (if 0 ≤ (rd x4_3 x29_2) then (if (rd x4_3 x29_2) < (x5_3.length : Int) then (spec_stOf.l2 k3 (x3_3.set (x22_1 : Int).toNat (wrap64 ((rd x3_3 x22_1) + 1))) (x4_3.set (x29_2 : Int).toNat (wrap64 ((rd x4_3 x29_2) + 1))) (y460.set ((rd x4_3 x29_2) : Int).toNat (rd x3_3 x22_1)) x22_1 x29_2 (wrap64 (x9_3 - 1)) l0_0 (l0_0.length : Int) x22_1 (rd_L2 l0_0 x22_1) ((rd_L2 l0_0 x22_1).length : Int) x29_2) else (none)) else (none)) = some r := by first | (rw [hy460]; with_reducible exact H) | (have H2_ := (Option.bind_some _ _).symm.trans H; rw [hy460]; with_reducible exact H2_) | (have H2_ := (Option.bind_some _ _).symm.trans H; with_reducible exact H2_) | with_reducible exact H | (rw [hy460]; exact H) | exact H
                      have Ny460 := aM hy460
                      clear hy460
                      by_cases c29 : 0 ≤ (rd x4_3 x29_2)
                      ·rw [if_pos c29] at H
                       have c29b0 : decide (0 ≤ (rd x4_3 x29_2)) = true := decide_eq_true c29
                       clear c29
                       by_cases c30 : (rd x4_3 x29_2) < (x5_3.length : Int)
                       ·rw [if_pos c30] at H
                        have c30b0 : decide ((rd x4_3 x29_2) < (x5_3.length : Int)) = true := decide_eq_true c30
                        clear c30
                        obtain ⟨y463, hy463⟩ : ∃ y_ : List Int, y_ = (y460.set ((rd x4_3 x29_2) : Int).toNat (rd x3_3 x22_1)) := ⟨_, rfl⟩
                        replace H : (spec_stOf.l2 k3 (x3_3.set (x22_1 : Int).toNat (wrap64 ((rd x3_3 x22_1) + 1))) (x4_3.set (x29_2 : Int).toNat (wrap64 ((rd x4_3 x29_2) + 1))) y463 x22_1 x29_2 (wrap64 (x9_3 - 1)) l0_0 (l0_0.length : Int) x22_1 (rd_L2 l0_0 x22_1) ((rd_L2 l0_0 x22_1).length : Int) x29_2) = some r := by first | (rw [hy463]; with_reducible exact H) | (have H2_ := (Option.bind_some _ _).symm.trans H; rw [hy463]; with_reducible exact H2_) | (have H2_ := (Option.bind_some _ _).symm.trans H; with_reducible exact H2_) | with_reducible exact H | (rw [hy463]; exact H) | exact H
                        have Ny463 := aM hy463
                        clear hy463
                        obtain ⟨y465, hy465⟩ : ∃ y_ : List Int, y_ = (x3_3.set (x22_1 : Int).toNat (wrap64 ((rd x3_3 x22_1) + 1))) := ⟨_, rfl⟩
                        replace H : (spec_stOf.l2 k3 y465 (x4_3.set (x29_2 : Int).toNat (wrap64 ((rd x4_3 x29_2) + 1))) y463 x22_1 x29_2 (wrap64 (x9_3 - 1)) l0_0 (l0_0.length : Int) x22_1 (rd_L2 l0_0 x22_1) ((rd_L2 l0_0 x22_1).length : Int) x29_2) = some r := by first | (rw [hy465]; with_reducible exact H) | (have H2_ := (Option.bind_some _ _).symm.trans H; rw [hy465]; with_reducible exact H2_) | (have H2_ := (Option.bind_some _ _).symm.trans H; with_reducible exact H2_) | with_reducible exact H | (rw [hy465]; exact H) | exact H
                        have Ny465 := aM hy465
                        clear hy465
                        obtain ⟨y467, hy467⟩ : ∃ y_ : List Int, y_ = (x4_3.set (x29_2 : Int).toNat (wrap64 ((rd x4_3 x29_2) + 1))) := ⟨_, rfl⟩
                        replace H : (spec_stOf.l2 k3 y465 y467 y463 x22_1 x29_2 (wrap64 (x9_3 - 1)) l0_0 (l0_0.length : Int) x22_1 (rd_L2 l0_0 x22_1) ((rd_L2 l0_0 x22_1).length : Int) x29_2) = some r := by first | (rw [hy467]; with_reducible exact H) | (have H2_ := (Option.bind_some _ _).symm.trans H; rw [hy467]; with_reducible exact H2_) | (have H2_ := (Option.bind_some _ _).symm.trans H; with_reducible exact H2_) | with_reducible exact H | (rw [hy467]; exact H) | exact H
                        have Ny467 := aM hy467
                        clear hy467
                        have H' := aM H
                        clear H
                        try go_wp2
                        have n0_ := aM (Kd.R_drew HO_3.out)
                        have n1_ := aM (Kd.R_drew HO_4.out)
                        have n2_ := aM (Kd.R_drew HO_5.out)
                        have n3_ := aM (blk_drew BK445.out)
                        have n4_ := aM (below_drew1 HB.out)
                        clear HO_3
                        clear HO_4
                        clear HO_5
                        clear BK445
                        clear HB
                        have HO_3 := n0_
                        have HO_4 := n1_
                        have HO_5 := n2_
                        have BK445 := n3_
                        have HB := n4_
                        clear n0_ n1_ n2_ n3_ n4_
                        obtain ⟨Ao35, co35, eo35⟩ := Kd.R_slice HO_3.out
                        (first | subst eo35 | (injection eo35 with f1_ f2_ f3_; have f4_ := f1_.symm; have f5_ := f3_.symm; clear f1_ f2_ f3_; subst f4_; subst f5_))
                        have p458 : 0 ≤ (x22_1 : Int) := odt
                        have q458 : x22_1 < (x3_3.length : Int) := odt
                        obtain ⟨ad458, e458, hx458_0⟩ := Kd.at_int (Kd.R_reads' HO_3.out).2.2 x22_1 p458 q458
                        cases e458
                        replace p458 := eq_true p458
                        replace q458 := eq_true q458
                        obtain ⟨Ao36, co36, eo36⟩ := Kd.R_slice HO_4.out
                        (first | subst eo36 | (injection eo36 with f1_ f2_ f3_; have f4_ := f1_.symm; have f5_ := f3_.symm; clear f1_ f2_ f3_; subst f4_; subst f5_))
                        have p459 : 0 ≤ (x29_2 : Int) := odt
                        have q459 : x29_2 < (x4_3.length : Int) := odt
                        obtain ⟨ad459, e459, hx459_0⟩ := Kd.at_int (Kd.R_reads' HO_4.out).2.2 x29_2 p459 q459
                        cases e459
                        replace p459 := eq_true p459
                        replace q459 := eq_true q459
                        have p28 : 0 ≤ ((rd x3_3 x22_1) : Int) := odt
                        have q28 : ((rd x3_3 x22_1) : Int) < ((x5_3.length : Int) : Int) := odt
                        obtain ⟨go28, co28, eo28, gb28, gl28, cl28, HG28⟩ := Kd.R_form HO_5.out (by omega)
                        (first | cases eo28 | (injection eo28 with ea_ en_ ec_; (first | subst ea_ | (injection ea_ with ea_; subst ea_)); subst ec_; clear en_))
                        have GB28 := aM gb28
                        have GG28 := aM HG28
                        clear gb28 gl28 HG28
                        obtain ⟨hx28_0, hf28_0⟩ := Kd.R_celln 0 HO_5.out ((rd x3_3 x22_1) : Int) p28 q28
                        replace p28 := eq_true p28
                        replace q28 := eq_true q28
                        have HP37 := Kd.R_putn HO_5.out ((rd x3_3 x22_1) : Int) (rd x4_3 x29_2)
                        rw [← Ny460.out] at HP37
                        have HQ37 := aM HP37
                        clear HP37
                        refine start_ (n := 11) (S := fun w' => w'.cell? (ad458.add (x22_1).toNat) = some (.int .i64 (rd x3_3 x22_1)) ∧ w'.cell? (ad459.add (x29_2).toNat) = some (.int .i64 (rd x4_3 x29_2))) (ds := [10]) #[false, false, false, false, false, false, false, false, false, false, false] (by kernel_rfl) rfl rfl ⟨hx458_0, hx459_0⟩ (fun hHeld => ?_); refine with_tabW spec_stOf.tab11 spec_stOf.bits11 (fun HT_ HW_ => ?_)
                        generalize wr.drew = w34 at HO_3 HO_4 HO_5 BK445 HB GG28 HQ37 hf28_0 hx28_0 hx458_0 hx459_0 hHeld ⊢
                        refine pure_ (i := 0) (N := some 38) (v := ?_) (a' := ?_) #[true, false, false, false, false, false, false, false, false, false, false] rfl rfl (any_of HT_.out (by kernel_rfl)) (fun _ _ _ h => h) (Or.inl ⟨by rfl, ?_⟩) ?_ ?_
                        rotate_left
                        ·intro w'
                         go_simp
                         with_reducible rfl
                        rotate_left
                        ·simp only [Act.put, List.setIfInBounds_toArray, List.set_cons_zero, List.set_cons_succ, i64_w, i32_w]
                         rfl
                        refine pure_ (i := 1) (N := some 39) (v := ?_) (a' := ?_) #[true, true, false, false, false, false, false, false, false, false, false] rfl rfl (any_of HT_.out (by kernel_rfl)) (fun _ _ _ h => h) (Or.inl ⟨by rfl, ?_⟩) ?_ ?_
                        rotate_left
                        ·intro w'
                         go_simp
                         with_reducible rfl
                        rotate_left
                        ·simp only [Act.put, List.setIfInBounds_toArray, List.set_cons_zero, List.set_cons_succ, i64_w, i32_w]
                         rfl
                        refine pure_ (i := 2) (N := some 40) (v := ?_) (a' := ?_) #[true, true, true, false, false, false, false, false, false, false, false] rfl rfl (any_of HT_.out (by kernel_rfl)) (fun _ _ _ h => h) (Or.inl ⟨by rfl, ?_⟩) ?_ ?_
                        rotate_left
                        ·intro w'
                         go_simp
                         with_reducible rfl
                        rotate_left
                        ·simp only [Act.put, List.setIfInBounds_toArray, List.set_cons_zero, List.set_cons_succ, i64_w, i32_w]
                         rfl
                        refine pure_ (i := 3) (N := some 41) (v := ?_) (a' := ?_) #[true, true, true, true, false, false, false, false, false, false, false] rfl rfl (any_of HT_.out (by kernel_rfl)) (fun _ _ _ h => h) (Or.inl ⟨by rfl, ?_⟩) ?_ ?_
                        rotate_left
                        ·intro w'
                         go_simp
                         with_reducible rfl
                        rotate_left
                        ·simp only [Act.put, List.setIfInBounds_toArray, List.set_cons_zero, List.set_cons_succ, i64_w, i32_w]
                         rfl
                        refine pure_ (i := 5) (N := some 43) (v := ?_) (a' := ?_) #[true, true, true, true, false, true, false, false, false, false, false] rfl rfl (any_of HT_.out (by kernel_rfl)) (fun _ _ _ h => h) (Or.inl ⟨by rfl, ?_⟩) ?_ ?_
                        rotate_left
                        ·intro w'
                         go_simp
                         with_reducible rfl
                        rotate_left
                        ·simp only [Act.put, List.setIfInBounds_toArray, List.set_cons_zero, List.set_cons_succ, i64_w, i32_w]
                         rfl
                        refine pure_ (i := 6) (N := some 44) (v := ?_) (a' := ?_) #[true, true, true, true, false, true, true, false, false, false, false] rfl rfl (any_of HT_.out (by kernel_rfl)) (fun _ _ _ h => h) (Or.inl ⟨by rfl, ?_⟩) ?_ ?_
                        rotate_left
                        ·intro w'
                         go_simp
                         with_reducible rfl
                        rotate_left
                        ·simp only [Act.put, List.setIfInBounds_toArray, List.set_cons_zero, List.set_cons_succ, i64_w, i32_w]
                         rfl
                        refine pure_ (i := 7) (N := some 45) (v := ?_) (a' := ?_) #[true, true, true, true, false, true, true, true, false, false, false] rfl rfl (any_of HT_.out (by kernel_rfl)) (fun _ _ _ h => h) (Or.inl ⟨by rfl, ?_⟩) ?_ ?_
                        rotate_left
                        ·intro w'
                         go_simp
                         with_reducible rfl
                        rotate_left
                        ·simp only [Act.put, List.setIfInBounds_toArray, List.set_cons_zero, List.set_cons_succ, i64_w, i32_w]
                         rfl
                        refine take_ (i := 4) (N := some 42) (v := ?_) (a' := ?_) #[true, true, true, true, true, true, true, true, false, false, false] rfl rfl (take_ofW HT_.out HW_.out (by kernel_rfl)) (fun _ _ _ h => h) (Or.inl ⟨by rfl, ?_⟩) hHeld ?_ ?_
                        rotate_left
                        ·rintro w' ⟨s0, s1⟩
                         go_simp
                         with_reducible rfl
                        rotate_left
                        ·simp only [Act.put, List.setIfInBounds_toArray, List.set_cons_zero, List.set_cons_succ, i64_w, i32_w]
                         rfl
                        refine take_ (i := 8) (N := some 46) (v := ?_) (a' := ?_) #[true, true, true, true, true, true, true, true, true, false, false] rfl rfl (take_ofW HT_.out HW_.out (by kernel_rfl)) (fun _ _ _ h => h) (Or.inl ⟨by rfl, ?_⟩) hHeld ?_ ?_
                        rotate_left
                        ·rintro w' ⟨s0, s1⟩
                         go_simp
                         with_reducible rfl
                        rotate_left
                        ·simp only [Act.put, List.setIfInBounds_toArray, List.set_cons_zero, List.set_cons_succ, i64_w, i32_w]
                         rfl
                        refine pure_ (i := 9) (N := some 47) (v := ?_) (a' := ?_) #[true, true, true, true, true, true, true, true, true, true, false] rfl rfl (any_of HT_.out (by kernel_rfl)) (fun _ _ _ h => h) (Or.inl ⟨by rfl, ?_⟩) ?_ ?_
                        rotate_left
                        ·intro w'
                         go_simp
                         with_reducible rfl
                        rotate_left
                        ·simp only [Act.put, List.setIfInBounds_toArray, List.set_cons_zero, List.set_cons_succ, i64_w, i32_w]
                         rfl
                        refine last_ (i := 10) (N := none) #[true, true, true, true, true, true, true, true, true, true, true] rfl rfl (one_of HT_.out (by kernel_rfl)) (by decide) (fun K hK => ?_)
                        refine skip_ (w1 := ?_) (by rfl) rfl ?_ ?_
                        rotate_left
                        ·go_simp
                         rfl
                        refine hK.out _ _ ?_
                        clear hK K
                        refine done_ (done_of HT_.out (by kernel_rfl)) ?_
                        try go_wp2
                        have n0_ : Aside0 (Kd.R (Kd.int .i64) 3 (w34.setCell ⟨go28, ((rd x3_3 x22_1) : Int).toNat, none⟩ (.int .i64 (rd x4_3 x29_2))) w.heap.size (fun k_ => some k_ ≠ (.slice (some ad459) x4_3.length co36 : Value).ownBlock ∧ some k_ ≠ (.slice (some ⟨go28, 0, none⟩) x5_3.length co28 : Value).ownBlock) (.slice (some ad458) x3_3.length co35) x3_3) := ⟨by (with_reducible repeat first|apply rA|apply rN|apply rD); exact Kd.R_mono (Kd.R_far (p := ⟨go28, ((rd x3_3 x22_1) : Int).toNat, none⟩) (Kd.R_mono HO_3.out (fun k_ hk => (⟨hk, fun e_ => hk.2 (by rw [e_]; rfl)⟩ : _ ∧ k_ ≠ go28))) (fun _ hk => hk.2) (.int .i64 (rd x4_3 x29_2))) (fun _ hk => ⟨hk.1.1, hk.1.2⟩)⟩
                        have n1_ : Aside0 (Kd.R (Kd.int .i64) 3 (w34.setCell ⟨go28, ((rd x3_3 x22_1) : Int).toNat, none⟩ (.int .i64 (rd x4_3 x29_2))) w.heap.size (fun k_ => some k_ ≠ (.slice (some ad458) x3_3.length co35 : Value).ownBlock ∧ some k_ ≠ (.slice (some ⟨go28, 0, none⟩) x5_3.length co28 : Value).ownBlock) (.slice (some ad459) x4_3.length co36) x4_3) := ⟨by (with_reducible repeat first|apply rA|apply rN|apply rD); exact Kd.R_mono (Kd.R_far (p := ⟨go28, ((rd x3_3 x22_1) : Int).toNat, none⟩) (Kd.R_mono HO_4.out (fun k_ hk => (⟨hk, fun e_ => hk.2 (by rw [e_]; rfl)⟩ : _ ∧ k_ ≠ go28))) (fun _ hk => hk.2) (.int .i64 (rd x4_3 x29_2))) (fun _ hk => ⟨hk.1.1, hk.1.2⟩)⟩
                        have n2_ : Aside0 (Kd.R (Kd.int .i64) 3 (w34.setCell ⟨go28, ((rd x3_3 x22_1) : Int).toNat, none⟩ (.int .i64 (rd x4_3 x29_2))) w.heap.size (fun k_ => some k_ ≠ (.slice (some ad458) x3_3.length co35 : Value).ownBlock ∧ some k_ ≠ (.slice (some ad459) x4_3.length co36 : Value).ownBlock) (.slice (some ⟨go28, 0, none⟩) x5_3.length co28) y460) := ⟨by (with_reducible repeat first|apply rA|apply rN|apply rD); exact HQ37.out⟩
                        have n3_ : Aside0 ((w34.setCell ⟨go28, ((rd x3_3 x22_1) : Int).toNat, none⟩ (.int .i64 (rd x4_3 x29_2))).heap[gb445]? = some (.cells #[.slice (some ad456) l0_0.length c0_0] 36 (0, 0))) := ⟨by (with_reducible repeat first|apply qN|apply qD|apply qA); refine blk_far ?_ (by have h_ := Kd.R_ne HO_5.out BK445.out (by decide); intro e_; exact h_ (by rw [e_]; rfl)) _; (with_reducible repeat first|apply qN|apply qD|apply qA); exact BK445.out⟩
                        have n4_ : Aside0 (Below w.heap.size w (w34.setCell ⟨go28, ((rd x3_3 x22_1) : Int).toNat, none⟩ (.int .i64 (rd x4_3 x29_2)))) := ⟨by exact bq⟩
                        (try clear HO_3)
                        (try clear HO_4)
                        (try clear HO_5)
                        (try clear BK445)
                        (try clear HB)
                        generalize (w34.setCell ⟨go28, ((rd x3_3 x22_1) : Int).toNat, none⟩ (.int .i64 (rd x4_3 x29_2))) = w38 at n0_ n1_ n2_ n3_ n4_ ⊢
                        have HO_3 := n0_
                        have HO_4 := n1_
                        have HO_5 := n2_
                        have BK445 := n3_
                        have HB := n4_
                        clear n0_ n1_ n2_ n3_ n4_
                        have n0_ := aM (Kd.R_drew HO_3.out)
                        have n1_ := aM (Kd.R_drew HO_4.out)
                        have n2_ := aM (Kd.R_drew HO_5.out)
                        have n3_ := aM (blk_drew BK445.out)
                        have n4_ := aM (below_drew1 HB.out)
                        clear HO_3
                        clear HO_4
                        clear HO_5
                        clear BK445
                        clear HB
                        have HO_3 := n0_
                        have HO_4 := n1_
                        have HO_5 := n2_
                        have BK445 := n3_
                        have HB := n4_
                        clear n0_ n1_ n2_ n3_ n4_
                        have p461 : 0 ≤ (x29_2 : Int) := odt
                        have q461 : x29_2 < (x4_3.length : Int) := odt
                        obtain ⟨ad461, e461, hx461_0⟩ := Kd.at_int (Kd.R_reads' HO_4.out).2.2 x29_2 p461 q461
                        obtain rfl : ad459 = ad461 := (by injection e461)
                        replace p461 := eq_true p461
                        replace q461 := eq_true q461
                        have p462 : 0 ≤ (x22_1 : Int) := odt
                        have q462 : x22_1 < (x3_3.length : Int) := odt
                        obtain ⟨ad462, e462, hx462_0⟩ := Kd.at_int (Kd.R_reads' HO_3.out).2.2 x22_1 p462 q462
                        obtain rfl : ad458 = ad462 := (by injection e462)
                        replace p462 := eq_true p462
                        replace q462 := eq_true q462
                        have p31 : 0 ≤ ((rd x4_3 x29_2) : Int) := odt
                        have q31 : ((rd x4_3 x29_2) : Int) < ((x5_3.length : Int) : Int) := odt
                        obtain ⟨hx31_0, hf31_0⟩ := Kd.R_celln 0 HO_5.out ((rd x4_3 x29_2) : Int) p31 q31
                        replace p31 := eq_true p31
                        replace q31 := eq_true q31
                        have HP40 := Kd.R_putn HO_5.out ((rd x4_3 x29_2) : Int) (rd x3_3 x22_1)
                        rw [← Ny463.out] at HP40
                        have HQ40 := aM HP40
                        clear HP40
                        refine start_ (n := 11) (S := fun w' => w'.cell? (ad459.add (x29_2).toNat) = some (.int .i64 (rd x4_3 x29_2)) ∧ w'.cell? (ad458.add (x22_1).toNat) = some (.int .i64 (rd x3_3 x22_1))) (ds := [10]) #[false, false, false, false, false, false, false, false, false, false, false] (by kernel_rfl) rfl rfl ⟨hx461_0, hx462_0⟩ (fun hHeld => ?_); refine with_tabW spec_stOf.tab12 spec_stOf.bits12 (fun HT_ HW_ => ?_)
                        generalize w38.drew = w39 at HO_3 HO_4 HO_5 BK445 HB HQ37 HQ40 hf31_0 hx31_0 hx461_0 hx462_0 hHeld ⊢
                        refine pure_ (i := 0) (N := some 48) (v := ?_) (a' := ?_) #[true, false, false, false, false, false, false, false, false, false, false] rfl rfl (any_of HT_.out (by kernel_rfl)) (fun _ _ _ h => h) (Or.inl ⟨by rfl, ?_⟩) ?_ ?_
                        rotate_left
                        ·intro w'
                         go_simp
                         with_reducible rfl
                        rotate_left
                        ·simp only [Act.put, List.setIfInBounds_toArray, List.set_cons_zero, List.set_cons_succ, i64_w, i32_w]
                         rfl
                        refine pure_ (i := 1) (N := some 49) (v := ?_) (a' := ?_) #[true, true, false, false, false, false, false, false, false, false, false] rfl rfl (any_of HT_.out (by kernel_rfl)) (fun _ _ _ h => h) (Or.inl ⟨by rfl, ?_⟩) ?_ ?_
                        rotate_left
                        ·intro w'
                         go_simp
                         with_reducible rfl
                        rotate_left
                        ·simp only [Act.put, List.setIfInBounds_toArray, List.set_cons_zero, List.set_cons_succ, i64_w, i32_w]
                         rfl
                        refine pure_ (i := 2) (N := some 50) (v := ?_) (a' := ?_) #[true, true, true, false, false, false, false, false, false, false, false] rfl rfl (any_of HT_.out (by kernel_rfl)) (fun _ _ _ h => h) (Or.inl ⟨by rfl, ?_⟩) ?_ ?_
                        rotate_left
                        ·intro w'
                         go_simp
                         with_reducible rfl
                        rotate_left
                        ·simp only [Act.put, List.setIfInBounds_toArray, List.set_cons_zero, List.set_cons_succ, i64_w, i32_w]
                         rfl
                        refine pure_ (i := 3) (N := some 51) (v := ?_) (a' := ?_) #[true, true, true, true, false, false, false, false, false, false, false] rfl rfl (any_of HT_.out (by kernel_rfl)) (fun _ _ _ h => h) (Or.inl ⟨by rfl, ?_⟩) ?_ ?_
                        rotate_left
                        ·intro w'
                         go_simp
                         with_reducible rfl
                        rotate_left
                        ·simp only [Act.put, List.setIfInBounds_toArray, List.set_cons_zero, List.set_cons_succ, i64_w, i32_w]
                         rfl
                        refine pure_ (i := 5) (N := some 53) (v := ?_) (a' := ?_) #[true, true, true, true, false, true, false, false, false, false, false] rfl rfl (any_of HT_.out (by kernel_rfl)) (fun _ _ _ h => h) (Or.inl ⟨by rfl, ?_⟩) ?_ ?_
                        rotate_left
                        ·intro w'
                         go_simp
                         with_reducible rfl
                        rotate_left
                        ·simp only [Act.put, List.setIfInBounds_toArray, List.set_cons_zero, List.set_cons_succ, i64_w, i32_w]
                         rfl
                        refine pure_ (i := 6) (N := some 54) (v := ?_) (a' := ?_) #[true, true, true, true, false, true, true, false, false, false, false] rfl rfl (any_of HT_.out (by kernel_rfl)) (fun _ _ _ h => h) (Or.inl ⟨by rfl, ?_⟩) ?_ ?_
                        rotate_left
                        ·intro w'
                         go_simp
                         with_reducible rfl
                        rotate_left
                        ·simp only [Act.put, List.setIfInBounds_toArray, List.set_cons_zero, List.set_cons_succ, i64_w, i32_w]
                         rfl
                        refine pure_ (i := 7) (N := some 55) (v := ?_) (a' := ?_) #[true, true, true, true, false, true, true, true, false, false, false] rfl rfl (any_of HT_.out (by kernel_rfl)) (fun _ _ _ h => h) (Or.inl ⟨by rfl, ?_⟩) ?_ ?_
                        rotate_left
                        ·intro w'
                         go_simp
                         with_reducible rfl
                        rotate_left
                        ·simp only [Act.put, List.setIfInBounds_toArray, List.set_cons_zero, List.set_cons_succ, i64_w, i32_w]
                         rfl
                        refine take_ (i := 4) (N := some 52) (v := ?_) (a' := ?_) #[true, true, true, true, true, true, true, true, false, false, false] rfl rfl (take_ofW HT_.out HW_.out (by kernel_rfl)) (fun _ _ _ h => h) (Or.inl ⟨by rfl, ?_⟩) hHeld ?_ ?_
                        rotate_left
                        ·rintro w' ⟨s0, s1⟩
                         go_simp
                         with_reducible rfl
                        rotate_left
                        ·simp only [Act.put, List.setIfInBounds_toArray, List.set_cons_zero, List.set_cons_succ, i64_w, i32_w]
                         rfl
                        refine take_ (i := 8) (N := some 56) (v := ?_) (a' := ?_) #[true, true, true, true, true, true, true, true, true, false, false] rfl rfl (take_ofW HT_.out HW_.out (by kernel_rfl)) (fun _ _ _ h => h) (Or.inl ⟨by rfl, ?_⟩) hHeld ?_ ?_
                        rotate_left
                        ·rintro w' ⟨s0, s1⟩
                         go_simp
                         with_reducible rfl
                        rotate_left
                        ·simp only [Act.put, List.setIfInBounds_toArray, List.set_cons_zero, List.set_cons_succ, i64_w, i32_w]
                         rfl
                        refine pure_ (i := 9) (N := some 57) (v := ?_) (a' := ?_) #[true, true, true, true, true, true, true, true, true, true, false] rfl rfl (any_of HT_.out (by kernel_rfl)) (fun _ _ _ h => h) (Or.inl ⟨by rfl, ?_⟩) ?_ ?_
                        rotate_left
                        ·intro w'
                         go_simp
                         with_reducible rfl
                        rotate_left
                        ·simp only [Act.put, List.setIfInBounds_toArray, List.set_cons_zero, List.set_cons_succ, i64_w, i32_w]
                         rfl
                        refine last_ (i := 10) (N := none) #[true, true, true, true, true, true, true, true, true, true, true] rfl rfl (one_of HT_.out (by kernel_rfl)) (by decide) (fun K hK => ?_)
                        refine skip_ (w1 := ?_) (by rfl) rfl ?_ ?_
                        rotate_left
                        ·go_simp
                         rfl
                        refine hK.out _ _ ?_
                        clear hK K
                        refine done_ (done_of HT_.out (by kernel_rfl)) ?_
                        have n0_ : Aside0 (Kd.R (Kd.int .i64) 3 (w39.setCell ⟨go28, ((rd x4_3 x29_2) : Int).toNat, none⟩ (.int .i64 (rd x3_3 x22_1))) w.heap.size (fun k_ => some k_ ≠ (.slice (some ad459) x4_3.length co36 : Value).ownBlock ∧ some k_ ≠ (.slice (some ⟨go28, 0, none⟩) x5_3.length co28 : Value).ownBlock) (.slice (some ad458) x3_3.length co35) x3_3) := ⟨by (with_reducible repeat first|apply rA|apply rN|apply rD); exact Kd.R_mono (Kd.R_far (p := ⟨go28, ((rd x4_3 x29_2) : Int).toNat, none⟩) (Kd.R_mono HO_3.out (fun k_ hk => (⟨hk, fun e_ => hk.2 (by rw [e_]; rfl)⟩ : _ ∧ k_ ≠ go28))) (fun _ hk => hk.2) (.int .i64 (rd x3_3 x22_1))) (fun _ hk => ⟨hk.1.1, hk.1.2⟩)⟩
                        have n1_ : Aside0 (Kd.R (Kd.int .i64) 3 (w39.setCell ⟨go28, ((rd x4_3 x29_2) : Int).toNat, none⟩ (.int .i64 (rd x3_3 x22_1))) w.heap.size (fun k_ => some k_ ≠ (.slice (some ad458) x3_3.length co35 : Value).ownBlock ∧ some k_ ≠ (.slice (some ⟨go28, 0, none⟩) x5_3.length co28 : Value).ownBlock) (.slice (some ad459) x4_3.length co36) x4_3) := ⟨by (with_reducible repeat first|apply rA|apply rN|apply rD); exact Kd.R_mono (Kd.R_far (p := ⟨go28, ((rd x4_3 x29_2) : Int).toNat, none⟩) (Kd.R_mono HO_4.out (fun k_ hk => (⟨hk, fun e_ => hk.2 (by rw [e_]; rfl)⟩ : _ ∧ k_ ≠ go28))) (fun _ hk => hk.2) (.int .i64 (rd x3_3 x22_1))) (fun _ hk => ⟨hk.1.1, hk.1.2⟩)⟩
                        have n2_ : Aside0 (Kd.R (Kd.int .i64) 3 (w39.setCell ⟨go28, ((rd x4_3 x29_2) : Int).toNat, none⟩ (.int .i64 (rd x3_3 x22_1))) w.heap.size (fun k_ => some k_ ≠ (.slice (some ad458) x3_3.length co35 : Value).ownBlock ∧ some k_ ≠ (.slice (some ad459) x4_3.length co36 : Value).ownBlock) (.slice (some ⟨go28, 0, none⟩) x5_3.length co28) y463) := ⟨by (with_reducible repeat first|apply rA|apply rN|apply rD); exact HQ40.out⟩
                        have n3_ : Aside0 ((w39.setCell ⟨go28, ((rd x4_3 x29_2) : Int).toNat, none⟩ (.int .i64 (rd x3_3 x22_1))).heap[gb445]? = some (.cells #[.slice (some ad456) l0_0.length c0_0] 36 (0, 0))) := ⟨by (with_reducible repeat first|apply qN|apply qD|apply qA); refine blk_far ?_ (by have h_ := Kd.R_ne HO_5.out BK445.out (by decide); intro e_; exact h_ (by rw [e_]; rfl)) _; (with_reducible repeat first|apply qN|apply qD|apply qA); exact BK445.out⟩
                        have n4_ : Aside0 (Below w.heap.size w (w39.setCell ⟨go28, ((rd x4_3 x29_2) : Int).toNat, none⟩ (.int .i64 (rd x3_3 x22_1)))) := ⟨by exact bq⟩
                        (try clear HO_3)
                        (try clear HO_4)
                        (try clear HO_5)
                        (try clear BK445)
                        (try clear HB)
                        generalize (w39.setCell ⟨go28, ((rd x4_3 x29_2) : Int).toNat, none⟩ (.int .i64 (rd x3_3 x22_1))) = w41 at n0_ n1_ n2_ n3_ n4_ ⊢
                        have HO_3 := n0_
                        have HO_4 := n1_
                        have HO_5 := n2_
                        have BK445 := n3_
                        have HB := n4_
                        clear n0_ n1_ n2_ n3_ n4_
                        have p464 : 0 ≤ (x22_1 : Int) := odt
                        have q464 : x22_1 < (x3_3.length : Int) := odt
                        obtain ⟨ad464, e464, hx464_0⟩ := Kd.at_int (Kd.R_reads' HO_3.out).2.2 x22_1 p464 q464
                        obtain rfl : ad458 = ad464 := (by injection e464)
                        replace p464 := eq_true p464
                        replace q464 := eq_true q464
                        have p32 : 0 ≤ (x22_1 : Int) := odt
                        have q32 : (x22_1 : Int) < ((x3_3.length : Int) : Int) := odt
                        obtain ⟨go32, co32, eo32, gb32, gl32, cl32, HG32⟩ := Kd.R_form HO_3.out (by omega)
                        (first | cases eo32 | (injection eo32 with ea_ en_ ec_; (first | subst ea_ | (injection ea_ with ea_; subst ea_)); subst ec_; clear en_))
                        have GB32 := aM gb32
                        have GG32 := aM HG32
                        clear gb32 gl32 HG32
                        (first | simp only [add_plain] at hx458_0 | skip)
                        (first | simp only [add_plain] at hx462_0 | skip)
                        (first | simp only [add_plain] at hx464_0 | skip)
                        obtain ⟨hx32_0, hf32_0⟩ := Kd.R_celln 0 HO_3.out (x22_1 : Int) p32 q32
                        replace p32 := eq_true p32
                        replace q32 := eq_true q32
                        obtain ⟨hy42_, hz42_⟩ := Kd.R_celln 0 HO_3.out (x22_1 : Int) (odt) (odt)
                        have HP42 := Kd.R_putg HO_3.out (x22_1 : Int) (wrap64 ((rd x3_3 x22_1) + 1))
                        try go_wp2_with (first | ((with_reducible refine gate_store (t := 3) (p := 63) rfl ?_); refine sE (w41.setCell ⟨go32, (x22_1 : Int).toNat, none⟩ (.int .i64 (wrap64 ((rd x3_3 x22_1) + 1)))) 3 63 ?_; intro w43 hw; have hg : w41.grownBy w43 (some go32) := (by rw [hw]; exact HP42.2); have hp_ : Kd.R (Kd.int .i64) 3 w43 w.heap.size (fun k_ => some k_ ≠ (.slice (some ad459) x4_3.length co36 : Value).ownBlock ∧ some k_ ≠ (.slice (some ⟨go28, 0, none⟩) x5_3.length co28 : Value).ownBlock) (.slice (some ⟨go32, 0, none⟩) x3_3.length co35) y465 := (by rw [hw, Ny465.out]; exact HP42.1); clear HP42; have _ := aM (hp_); have _ := aM (Kd.R_after (v := (.slice (some ⟨go32, 0, none⟩) x3_3.length co35)) (v1 := (.slice (some ⟨go32, 0, none⟩) x3_3.length co35)) (ok := (fun k_ => some k_ ≠ (.slice (some ⟨go28, 0, none⟩) x5_3.length co28 : Value).ownBlock)) (by (with_reducible repeat first|apply rA|apply rN|apply rD); exact Kd.R_mono HO_4.out (fun _ hk => ⟨hk.2, hk.1⟩)) hg (.inl rfl)); have _ := aM (Kd.R_after (v := (.slice (some ⟨go32, 0, none⟩) x3_3.length co35)) (v1 := (.slice (some ⟨go32, 0, none⟩) x3_3.length co35)) (ok := (fun k_ => some k_ ≠ (.slice (some ad459) x4_3.length co36 : Value).ownBlock)) (by (with_reducible repeat first|apply rA|apply rN|apply rD); exact Kd.R_mono HO_5.out (fun _ hk => ⟨hk.2, hk.1⟩)) hg (.inl rfl)); have _ := aM (blk_grown (g := gb445) (o := .cells #[.slice (some ad456) l0_0.length c0_0] 36 (0, 0)) (qQ BK445) hg (Kd.R_ne HO_3.out BK445.out (by decide))); have _ := aM ((by rw [hw]; exact below_set (HB.out) GB32.out : Below w.heap.size w w43)); clear HO_3 HO_4 HO_5 BK445 HB; rename_i HO_3 HO_4 HO_5 BK445 HB; clear hg hw hp_; have p466 : 0 ≤ (x29_2 : Int) := odt; have q466 : x29_2 < (x4_3.length : Int) := odt; obtain ⟨ad466, e466, hx466_0⟩ := Kd.at_int (Kd.R_reads' HO_4.out).2.2 x29_2 p466 q466; obtain rfl : ad459 = ad466 := (by injection e466); replace p466 := eq_true p466; replace q466 := eq_true q466; have p33 : 0 ≤ (x29_2 : Int) := odt; have q33 : (x29_2 : Int) < ((x4_3.length : Int) : Int) := odt; obtain ⟨go33, co33, eo33, gb33, gl33, cl33, HG33⟩ := Kd.R_form HO_4.out (by omega); (first | cases eo33 | (injection eo33 with ea_ en_ ec_; (first | subst ea_ | (injection ea_ with ea_; subst ea_)); subst ec_; clear en_)); have GB33 := aM gb33; have GG33 := aM HG33; clear gb33 gl33 HG33; (first | simp only [add_plain] at hx459_0 | skip); (first | simp only [add_plain] at hx461_0 | skip); (first | simp only [add_plain] at hx466_0 | skip); obtain ⟨hx33_0, hf33_0⟩ := Kd.R_celln 0 HO_4.out (x29_2 : Int) p33 q33; replace p33 := eq_true p33; replace q33 := eq_true q33; obtain ⟨hy44_, hz44_⟩ := Kd.R_celln 0 HO_4.out (x29_2 : Int) (odt) (odt); have HP44 := Kd.R_putg HO_4.out (x29_2 : Int) (wrap64 ((rd x4_3 x29_2) + 1))) | ((with_reducible refine gate_store (t := 3) (p := 69) rfl ?_); refine sE (w43.setCell ⟨go33, (x29_2 : Int).toNat, none⟩ (.int .i64 (wrap64 ((rd x4_3 x29_2) + 1)))) 3 69 ?_; intro w45 hw; have hg : w43.grownBy w45 (some go33) := (by rw [hw]; exact HP44.2); have hp_ : Kd.R (Kd.int .i64) 3 w45 w.heap.size (fun k_ => some k_ ≠ (.slice (some ⟨go28, 0, none⟩) x5_3.length co28 : Value).ownBlock ∧ some k_ ≠ (.slice (some ⟨go32, 0, none⟩) x3_3.length co35 : Value).ownBlock) (.slice (some ⟨go33, 0, none⟩) x4_3.length co36) y467 := (by rw [hw, Ny467.out]; exact HP44.1); clear HP44; have _ := aM (Kd.R_after (v := (.slice (some ⟨go33, 0, none⟩) x4_3.length co36)) (v1 := (.slice (some ⟨go33, 0, none⟩) x4_3.length co36)) (ok := (fun k_ => some k_ ≠ (.slice (some ⟨go28, 0, none⟩) x5_3.length co28 : Value).ownBlock)) (by (with_reducible repeat first|apply rA|apply rN|apply rD); exact Kd.R_mono HO_3.out (fun _ hk => ⟨hk.2, hk.1⟩)) hg (.inl rfl)); have _ := aM (hp_); have _ := aM (Kd.R_after (v := (.slice (some ⟨go33, 0, none⟩) x4_3.length co36)) (v1 := (.slice (some ⟨go33, 0, none⟩) x4_3.length co36)) (ok := (fun k_ => some k_ ≠ (.slice (some ⟨go32, 0, none⟩) x3_3.length co35 : Value).ownBlock)) (by (with_reducible repeat first|apply rA|apply rN|apply rD); exact Kd.R_mono HO_5.out (fun _ hk => ⟨hk.2, hk.1⟩)) hg (.inl rfl)); have _ := aM (blk_grown (g := gb445) (o := .cells #[.slice (some ad456) l0_0.length c0_0] 36 (0, 0)) (qQ BK445) hg (Kd.R_ne HO_4.out BK445.out (by decide))); have _ := aM ((by rw [hw]; exact below_set (HB.out) GB33.out : Below w.heap.size w w45)); clear HO_3 HO_4 HO_5 BK445 HB; rename_i HO_3 HO_4 HO_5 BK445 HB; clear hg hw hp_))
                        go_roundg k3
                        case measure => have := HK1.out; have := HK2.out; have := HK3.out; omega
                        case rel => exact ⟨(y465), (y467), (y463), (wrap64 (x9_3 - 1)), (by first | rfl | (simp; done) | (simp [*]; done)), H', ⟨by have := HK1.out; have := HK2.out; have := HK3.out; omega⟩, ⟨by (with_reducible repeat first|apply rA|apply rN|apply rD); exact Kd.R_mono HO_3.out (fun _ hk => ⟨hk.2, hk.1⟩)⟩, ⟨by (with_reducible repeat first|apply rA|apply rN|apply rD); exact Kd.R_mono HO_4.out (fun _ hk => ⟨hk.2, hk.1⟩)⟩, ⟨by (with_reducible repeat first|apply rA|apply rN|apply rD); exact HO_5.out⟩, ⟨by (with_reducible repeat first|apply qN|apply qD|apply qA); exact BK445.out⟩, ⟨by exact bq⟩⟩
                       ·rw [if_neg c30] at H
                        exact absurd H (by simp)
                      ·rw [if_neg c29] at H
                       exact absurd H (by simp)
                     ·rw [if_neg c27] at H
                      exact absurd H (by simp)
                    ·rw [if_neg c26] at H
                     exact absurd H (by simp)
                   ·rw [if_neg c25] at H
                    exact absurd H (by simp)
                  ·rw [if_neg c24] at H
                   exact absurd H (by simp)
                 ·rw [if_neg c23] at H
                  exact absurd H (by simp)
                ·rw [if_neg c22] at H
                 exact absurd H (by simp)
               ·rw [if_neg c21] at H
                have c21b0 : decide (0 < x9_3) = false := decide_eq_false c21
                clear c21
                have H' := aM H
                clear H
                go_wp2
                go_roundg k3
                case measure => have := HK1.out; have := HK2.out; have := HK3.out; omega
                case rel => exact ⟨(x3_3), (x4_3), (x5_3), (wrap64 (x29_2 + 1)), (by first | rfl | (simp; done) | (simp [*]; done)), H', ⟨by have := HK1.out; have := HK2.out; have := HK3.out; omega⟩, ⟨by (with_reducible repeat first|apply rA|apply rN|apply rD); exact HO_3.out⟩, ⟨by (with_reducible repeat first|apply rA|apply rN|apply rD); exact HO_4.out⟩, ⟨by (with_reducible repeat first|apply rA|apply rN|apply rD); exact HO_5.out⟩, ⟨by (with_reducible repeat first|apply qN|apply qD|apply qA); exact BK445.out⟩, ⟨by exact bq⟩⟩
            ·rw [if_neg c20] at H
             exact absurd H (by simp)
           ·rw [if_neg c19] at H
            exact absurd H (by simp)
          ·rw [if_neg c18] at H
           have c18b0 : decide (x29_2 < ((rd_L2 l0_0 x22_1).length : Int)) = false := decide_eq_false c18
           clear c18
           have H' := aM H
           clear H
           go_wp2
           go_roundg k2
           case measure => have := HK1.out; have := HK2.out; omega
           case rel => exact ⟨(x3_2), (x4_2), (x5_2), (wrap64 (x22_1 + 1)), (by first | rfl | (simp; done) | (simp [*]; done)), H', ⟨by have := HK1.out; have := HK2.out; omega⟩, ⟨by (with_reducible repeat first|apply rA|apply rN|apply rD); exact HO_3.out⟩, ⟨by (with_reducible repeat first|apply rA|apply rN|apply rD); exact HO_4.out⟩, ⟨by (with_reducible repeat first|apply rA|apply rN|apply rD); exact HO_5.out⟩, ⟨by (with_reducible repeat first|apply qN|apply qD|apply qA); exact BK445.out⟩, ⟨by exact bq⟩⟩
       ·rw [if_neg c17] at H
        exact absurd H (by simp)
      ·rw [if_neg c16] at H
       exact absurd H (by simp)
     ·rw [if_neg c15] at H
      have c15b0 : decide (x22_1 < (l0_0.length : Int)) = false := decide_eq_false c15
      clear c15
      obtain rfl := Option.some.inj H
      go_wp2
      go_ret
      exact ⟨_, by first | rfl | (simp [errW_none, errW_some] <;> rfl) | (simp only [← hji4]; first | rfl | (simp [errW_none, errW_some] <;> rfl)) | (simp [*, errW_none, errW_some] <;> rfl), by (with_reducible repeat first|apply rA|apply rN|apply rD); exact Kd.R_mono HO_5.out (fun _ hk => trivial), by exact bq⟩
  ·rw [if_neg c6] at H
   exact absurd H (by simp)
 ·rw [if_neg c5] at H
  exact absurd H (by simp)

end Go.Proofs.Ytacdlipojhoilaa.Zx
