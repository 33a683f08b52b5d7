-- Written by hook.py, a program of this session (wip/), which runs the kit's print.py with its own parts; Lean checks it.
import Derived.Test.YtcodionjhcmfhaaDoorAo0
import Derived.Test.YtcodionjhcmfhaaDoorAo8
import Derived.Test.YtcodionjhcmfhaaDoorAo9
import Derived.Test.YtcodionjhcmfhaaDoorAo10
import Derived.Test.YtcodionjhcmfhaaDoorAoXSq
namespace Go.Proofs.YtcodionjhcmfhaaDoor.Ao
open Go.RowKit Go.Proofs.YtcodionjhcmfhaaDoorW.PrintWords Go.Proofs.YtcodionjhcmfhaaDoorW.PrintLast Go.Proofs.YtcodionjhcmfhaaDoorW.PrintMore Go.Proofs.YtcodionjhcmfhaaDoor.Sq
attribute [local go_sem] max2_int min2_int max_two min_two max_three min_three max_four min_four   -- for this text's walks alone
set_option linter.unusedVariables false
set_option linter.unusedSimpArgs false

def spec_maShrink.l0 : Nat → Int → Int → List (List Int) → Int → Int → List (List Int) → Option ((List (List Int)) × Int)
 | 0, _, _, _, _, _, _ => none
 | k + 1, x4, x5, x40, x41, x42, x297000 => if x42 < x41 then (if 0 ≤ x42 then (if x42 < (x40.length : Int) then (if x42 = x5 then (spec_maShrink.l0 k x4 x5 x40 x41 (wrap64 (x42 + 1)) x297000) else ((spec_l1Own.f (rd_L2 x40 x42)).bind fun t298 => (if x42 < x5 then (if x5 < (wrap64 (x4 - 1)) then (if 0 ≤ x5 then (if x5 < (t298.length : Int) then (if 0 ≤ (wrap64 (x4 - 1)) then (if (wrap64 (x4 - 1)) < (t298.length : Int) then ((spec_maNarrow.f (t298.set ((wrap64 (x4 - 1)) : Int).toNat (rd t298 x5)) x5).bind fun t303 => (if x297000.length < 5864062014805 then (spec_maShrink.l0 k x4 x5 x40 x41 (wrap64 (x42 + 1)) (x297000 ++ [t303])) else (none))) else (none)) else (none)) else (none)) else (none)) else ((spec_maNarrow.f t298 x5).bind fun t309 => (if x297000.length < 5864062014805 then (spec_maShrink.l0 k x4 x5 x40 x41 (wrap64 (x42 + 1)) (x297000 ++ [t309])) else (none)))) else ((spec_maNarrow.f t298 x5).bind fun t315 => (if x297000.length < 5864062014805 then (spec_maShrink.l0 k x4 x5 x40 x41 (wrap64 (x42 + 1)) (x297000 ++ [t315])) else (none)))))) else (none)) else (none)) else (some (x297000, x5))
def spec_maShrink.f (k : Nat) (l0_0 : List (List Int)) : Option ((List (List Int)) × Int) := (spec_maTop.f k l0_0).bind fun t284 => (if 0 ≤ t284 then (if t284 < (l0_0.length : Int) then ((spec_maTotal.f k (rd_L2 l0_0 t284)).bind fun t286 => (if t286 > 1 then ((spec_maOwn.f k l0_0).bind fun t287 => (if t284 < (t287.length : Int) then (if 0 ≤ (wrap64 ((l0_0.length : Int) - 1)) then (if (wrap64 ((l0_0.length : Int) - 1)) < ((rd_L2 t287 t284).length : Int) then (some ((t287.set (t284 : Int).toNat ((rd_L2 t287 t284).set ((wrap64 ((l0_0.length : Int) - 1)) : Int).toNat (wrap64 ((rd (rd_L2 t287 t284) (wrap64 ((l0_0.length : Int) - 1))) - 1)))), t284)) else (none)) else (none)) else (none))) else (spec_maShrink.l0 k (l0_0.length : Int) t284 l0_0 (l0_0.length : Int) 0 ([] : List (List Int))))) else (none)) else (none))
theorem spec_maShrink.mono_l : ∀ k, (∀ y0 y1 y2 y3 y4 y5, LeO (spec_maShrink.l0 k y0 y1 y2 y3 y4 y5) (spec_maShrink.l0 (k + 1) y0 y1 y2 y3 y4 y5))
 | 0 => fun _ _ _ _ _ _ r h => by simp [spec_maShrink.l0] at h
 | k + 1 => by
  have ih0 := spec_maShrink.mono_l k
  ·intro y0 y1 y2 y3 y4 y5
   unfold spec_maShrink.l0
   repeat' first | with_reducible first | exact ih0 _ _ _ _ _ _ | exact spec_maOwn.mono _ _ | exact spec_maTop.mono _ _ | exact spec_maTotal.mono _ _ | exact LeO.refl _ | exact LeO.none _ | refine LeO.ite ?_ ?_ | refine LeO.bind ?_ (fun _ => ?_)
theorem spec_maShrink.mono : ∀ a0 k, LeO (spec_maShrink.f k a0) (spec_maShrink.f (k + 1) a0) := by
 intro a0 k
 have ih0 := spec_maShrink.mono_l k
 unfold spec_maShrink.f
 repeat' first | with_reducible first | exact ih0 _ _ _ _ _ _ | exact spec_maOwn.mono _ _ | exact spec_maTop.mono _ _ | exact spec_maTotal.mono _ _ | exact LeO.refl _ | exact LeO.none _ | refine LeO.ite ?_ ?_ | refine LeO.bind ?_ (fun _ => ?_)
def spec_maShrink.T15 : Bool × List (List Nat × List Nat) := (true, [([], []), ([0], [0]), ([], []), ([], []), ([2, 3], [2, 3]), ([4], [4]), ([1, 5, 4], [1, 5]), ([0, 1, 2, 3, 4, 5, 6], []), ([7, 6, 6, 0, 1, 2, 3, 4, 5, 6], [6, 7])])
def spec_maShrink.B15 : List Nat := [0, 1, 0, 0, 12, 28, 63, 127, 255]
theorem spec_maShrink.tab15 : rtab .any (opsOf Tryd.f71 15) = spec_maShrink.T15 := by kernel_rfl
theorem spec_maShrink.bits15 : waitsOk spec_maShrink.T15.2 spec_maShrink.B15 = true := by kernel_rfl
set_option maxHeartbeats 8000000 in
set_option maxRecDepth 100000 in
theorem spec_maShrink.calls (k : Nat) (A0_0 : Option Addr) (c0_0 : Nat) (l0_0 : List (List Int)) (r1 : List (List Int)) (r2 : Int) (w : World) (hr0_0 : Kd.C (Kd.slice 3 (Kd.int .i64)) w A0_0 l0_0.length l0_0) (hc0_0 : l0_0.length ≤ c0_0) (h : spec_maShrink.f k l0_0 = some (r1, r2)) :
  Calls Tryd.prog 71 #[.agg #[.slice A0_0 l0_0.length c0_0]] w fun e w' => ∃ v0_ : Value, e = .returned (.tuple #[.agg #[v0_], .int .i64 r2]) ∧ Kd.S (Kd.slice 3 (Kd.int .i64)) 22 w' w.heap.size (fun _ => True) v0_ r1 ∧ Below w.heap.size w w' := by
 have hu28 := Tryd.underlying28
 have HR0_0 := aM hr0_0
 have HC0_0 := aM hc0_0
 clear hr0_0 hc0_0
 have HB := aM (Below.refl w.heap.size w)
 have H : ((spec_maTop.f k l0_0).bind fun t284 => (if 0 ≤ t284 then (if t284 < (l0_0.length : Int) then ((spec_maTotal.f k (rd_L2 l0_0 t284)).bind fun t286 => (if t286 > 1 then ((spec_maOwn.f k l0_0).bind fun t287 => (if t284 < (t287.length : Int) then (if 0 ≤ (wrap64 ((l0_0.length : Int) - 1)) then (if (wrap64 ((l0_0.length : Int) - 1)) < ((rd_L2 t287 t284).length : Int) then (some ((t287.set (t284 : Int).toNat ((rd_L2 t287 t284).set ((wrap64 ((l0_0.length : Int) - 1)) : Int).toNat (wrap64 ((rd (rd_L2 t287 t284) (wrap64 ((l0_0.length : Int) - 1))) - 1)))), t284)) else (none)) else (none)) else (none))) else (spec_maShrink.l0 k (l0_0.length : Int) t284 l0_0 (l0_0.length : Int) 0 ([] : List (List Int))))) else (none)) else (none))) = some (r1, r2) := h
 clear h
 replace H := Option.bind_eq_some_iff.mp H
 obtain ⟨t284, A20, H⟩ := H
 replace H : (if 0 ≤ t284 then (if t284 < (l0_0.length : Int) then ((spec_maTotal.f k (rd_L2 l0_0 t284)).bind fun t286 => (if t286 > 1 then ((spec_maOwn.f k l0_0).bind fun t287 => (if t284 < (t287.length : Int) then (if 0 ≤ (wrap64 ((l0_0.length : Int) - 1)) then (if (wrap64 ((l0_0.length : Int) - 1)) < ((rd_L2 t287 t284).length : Int) then (some ((t287.set (t284 : Int).toNat ((rd_L2 t287 t284).set ((wrap64 ((l0_0.length : Int) - 1)) : Int).toNat (wrap64 ((rd (rd_L2 t287 t284) (wrap64 ((l0_0.length : Int) - 1))) - 1)))), t284)) else (none)) else (none)) else (none))) else (spec_maShrink.l0 k (l0_0.length : Int) t284 l0_0 (l0_0.length : Int) 0 ([] : List (List Int))))) else (none)) else (none)) = some (r1, r2) := H
 have A2 := aM A20
 clear A20
 by_cases c3 : 0 ≤ t284
 ·rw [if_pos c3] at H
  have c3b0 : decide (0 ≤ t284) = true := decide_eq_true c3
  clear c3
  by_cases c4 : t284 < (l0_0.length : Int)
  ·rw [if_pos c4] at H
   have c4b0 : decide (t284 < (l0_0.length : Int)) = true := decide_eq_true c4
   clear c4
   replace H := Option.bind_eq_some_iff.mp H
   obtain ⟨t286, A50, H⟩ := H
   replace H : (if t286 > 1 then ((spec_maOwn.f k l0_0).bind fun t287 => (if t284 < (t287.length : Int) then (if 0 ≤ (wrap64 ((l0_0.length : Int) - 1)) then (if (wrap64 ((l0_0.length : Int) - 1)) < ((rd_L2 t287 t284).length : Int) then (some ((t287.set (t284 : Int).toNat ((rd_L2 t287 t284).set ((wrap64 ((l0_0.length : Int) - 1)) : Int).toNat (wrap64 ((rd (rd_L2 t287 t284) (wrap64 ((l0_0.length : Int) - 1))) - 1)))), t284)) else (none)) else (none)) else (none))) else (spec_maShrink.l0 k (l0_0.length : Int) t284 l0_0 (l0_0.length : Int) 0 ([] : List (List Int)))) = some (r1, r2) := H
   have A5 := aM A50
   clear A50
   by_cases c6 : t286 > 1
   ·rw [if_pos c6] at H
    have c6b0 : decide (1 < t286) = true := decide_eq_true c6
    clear c6
    replace H := Option.bind_eq_some_iff.mp H
    obtain ⟨t287, A70, H⟩ := H
    replace H : (if t284 < (t287.length : Int) then (if 0 ≤ (wrap64 ((l0_0.length : Int) - 1)) then (if (wrap64 ((l0_0.length : Int) - 1)) < ((rd_L2 t287 t284).length : Int) then (some ((t287.set (t284 : Int).toNat ((rd_L2 t287 t284).set ((wrap64 ((l0_0.length : Int) - 1)) : Int).toNat (wrap64 ((rd (rd_L2 t287 t284) (wrap64 ((l0_0.length : Int) - 1))) - 1)))), t284)) else (none)) else (none)) else (none)) = some (r1, r2) := H
    have A7 := aM A70
    clear A70
    by_cases c8 : t284 < (t287.length : Int)
    ·rw [if_pos c8] at H
     have c8b0 : decide (t284 < (t287.length : Int)) = true := decide_eq_true c8
     clear c8
     obtain ⟨ji9, hji9⟩ : ∃ j_ : Int, (wrap64 ((l0_0.length : Int) - 1)) = j_ := ⟨_, rfl⟩
     replace H : (if 0 ≤ (ji9) then (if (ji9) < ((rd_L2 t287 t284).length : Int) then (some ((t287.set (t284 : Int).toNat ((rd_L2 t287 t284).set ((ji9) : Int).toNat (wrap64 ((rd (rd_L2 t287 t284) (ji9)) - 1)))), t284)) else (none)) else (none)) = some (r1, r2) := by first | (rw [hji9] at H; exact H) | (simp only [hji9] at H ⊢; exact H)
     (try rw [hji9] at A2)
     (try rw [hji9] at A5)
     (try rw [hji9] at A7)
     have hji9w : (IntKind.i64.wrap ((l0_0.length : Int) - 1)) = ji9 := (i64_w _).trans hji9
     by_cases c10 : 0 ≤ (ji9)
     ·rw [if_pos c10] at H
      have c10b0 : decide (0 ≤ (ji9)) = true := decide_eq_true c10
      clear c10
      by_cases c11 : (ji9) < ((rd_L2 t287 t284).length : Int)
      ·rw [if_pos c11] at H
       have c11b0 : decide ((ji9) < ((rd_L2 t287 t284).length : Int)) = true := decide_eq_true c11
       clear c11
       obtain ⟨y293, hy293⟩ : ∃ y_ : List Int, y_ = ((rd_L2 t287 t284).set ((ji9) : Int).toNat (wrap64 ((rd (rd_L2 t287 t284) (ji9)) - 1))) := ⟨_, rfl⟩
       replace H : (some ((t287.set (t284 : Int).toNat y293), t284)) = some (r1, r2) := by first | (rw [hy293]; with_reducible exact H) | (have H2_ := (Option.bind_some _ _).symm.trans H; rw [hy293]; with_reducible exact H2_) | (have H2_ := (Option.bind_some _ _).symm.trans H; with_reducible exact H2_) | with_reducible exact H | (rw [hy293]; exact H) | exact H
       have Ny293 := aM hy293
       clear hy293
       obtain ⟨y295, hy295⟩ : ∃ y_ : List (List Int), y_ = (t287.set (t284 : Int).toNat y293) := ⟨_, rfl⟩
       replace H : (some (y295, t284)) = some (r1, r2) := by first | (rw [hy295]; with_reducible exact H) | (have H2_ := (Option.bind_some _ _).symm.trans H; rw [hy295]; with_reducible exact H2_) | (have H2_ := (Option.bind_some _ _).symm.trans H; with_reducible exact H2_) | with_reducible exact H | (rw [hy295]; exact H) | exact H
       have Ny295 := aM hy295
       clear hy295
       simp only [Option.some.injEq, Prod.mk.injEq] at H
       obtain ⟨rfl, rfl⟩ := H
       go_enter Tryd.func71, Tryd.ntmps71
       go_wp2_with (first | ((with_reducible refine gate_dst (N := 1) rfl ?_); refine bE 1 28 #[.slice A0_0 l0_0.length c0_0] ?_; intro gb282 hg w13 hbox hb; have _ := aM (below_step bq hb); have _ := aM (hbox); have _ := aM ((gS hg)); have _ := aM ((gS hg)); clear HB; rename_i HB BK282 GW282 GE282; clear hb hbox hg) | ((with_reducible refine gate_dst (N := 2) rfl ?_); refine bE 2 28 #[.slice none 0 0] ?_; intro gb283 hg w14 hbox hb; have _ := aM (blk_below (g := gb282) (o := .cells #[.slice A0_0 l0_0.length c0_0] 28 (0, 0)) (qQ BK282) hb); have _ := aM (below_step bq hb); have _ := aM (hbox); have _ := aM ((gS hg)); have _ := aM ((gS hg)); have _ := aM ((by rw [hg]; exact Nat.ne_of_lt (blk_lt (g := gb282) (o := .cells #[.slice A0_0 l0_0.length c0_0] 28 (0, 0)) (qQ BK282)) : gb282 ≠ gb283)); have _ := aM ((by rw [hg]; exact Nat.ne_of_gt (blk_lt (g := gb282) (o := .cells #[.slice A0_0 l0_0.length c0_0] 28 (0, 0)) (qQ BK282)) : gb283 ≠ gb282)); clear BK282 HB; rename_i BK282 HB BK283 GW283 GE283 NB282_283 NB283_282; clear hb hbox hg; have hnb15 := NB282_283.out; have hnc15 := NB283_282.out; have hcz16_0 : w14.cell? ⟨gb282, 0, none⟩ = some (.slice A0_0 l0_0.length c0_0) := (blk_cell BK282.out 0).trans rfl; have hfz16_0 := blk_frozen BK282.out 0) | ((with_reducible refine gate_callee (f := 100) rfl ?_); refine gL (some 15) Tryd.func100 #[.agg #[.slice A0_0 l0_0.length c0_0]] ?_; (with_reducible refine (spec_maTop.calls k _ _ l0_0 t284 _ (cQ (Kd.C_below HR0_0.out HB.out)) HC0_0.out A2.out).mono ?_); rintro e w17 ⟨rfl, hb⟩; refine ⟨_, rfl, ?_⟩; have _ := aM (blk_below (g := gb282) (o := .cells #[.slice A0_0 l0_0.length c0_0] 28 (0, 0)) (qQ BK282) hb); have _ := aM (blk_below (g := gb283) (o := .cells #[.slice none 0 0] 28 (0, 0)) (qQ BK283) hb); have _ := aM (below_step bq hb); clear BK282 BK283 HB; rename_i BK282 BK283 HB; (try clear hb); (try clear hb2); (try clear hk); (try clear hi); have hcz18_0 : w17.cell? ⟨gb282, 0, none⟩ = some (.slice A0_0 l0_0.length c0_0) := (blk_cell BK282.out 0).trans rfl; have hfz18_0 := blk_frozen BK282.out 0; have p285 : 0 ≤ (t284 : Int) := odt; have q285 : t284 < (l0_0.length : Int) := odt; obtain ⟨ad285, A285_0, c285_0, e285, hx285_0, hl285_0, hi285_0⟩ := at_L2 HR0_0.out t284 p285 q285; cases e285; replace hx285_0 := (HB.out.cell (World.block_lt_of_cell? w _ hx285_0)).trans hx285_0; have HR285_0 := aM hi285_0; have HC285_0 := aM hl285_0; clear hi285_0 hl285_0; replace p285 := eq_true p285; replace q285 := eq_true q285) | ((with_reducible refine gate_callee (f := 101) rfl ?_); refine gL (some 21) Tryd.func101 #[.slice A285_0 (rd_L2 l0_0 t284).length c285_0] ?_; (with_reducible refine (spec_maTotal.calls k _ _ (rd_L2 l0_0 t284) t286 _ (cQ (Kd.C_below HR285_0.out HB.out)) HC285_0.out A5.out).mono ?_); rintro e w' ⟨rfl, ⟨nd, rfl⟩⟩; refine ⟨_, rfl, ?_⟩; (try (rw [drewN_self w17]; generalize hq_ : World.drewN w17 _ = w17; have _ : Aside0 (w17.heap[gb282]? = some (.cells #[.slice (some ad285) l0_0.length c0_0] 28 (0, 0))) := ⟨by rw [← hq_]; exact (qQ BK282)⟩; have _ : Aside0 (w17.heap[gb283]? = some (.cells #[.slice none 0 0] 28 (0, 0))) := ⟨by rw [← hq_]; exact (qQ BK283)⟩; have _ : Aside0 (Below w.heap.size w w17) := ⟨by rw [← hq_]; exact bq⟩; clear BK282 BK283 HB hq_; rename_i BK282 BK283 HB; have hcq_282 : World.cell? w17 ⟨gb282, 0, none⟩ = some (.slice (some ad285) l0_0.length c0_0) := (blk_cell BK282.out 0).trans rfl; have hfq_282 := blk_frozen BK282.out 0; have hcq_283 : World.cell? w17 ⟨gb283, 0, none⟩ = some (.slice none 0 0) := (blk_cell BK283.out 0).trans rfl; have hfq_283 := blk_frozen BK283.out 0))) | ((with_reducible refine gate_callee (f := 102) rfl ?_); refine gL (some 24) Tryd.func102 #[.agg #[.slice (some ad285) l0_0.length c0_0]] ?_; (with_reducible refine (spec_maOwn.calls k _ _ l0_0 t287 _ (cQ (Kd.C_below HR0_0.out HB.out)) HC0_0.out A7.out).mono ?_); rintro e w19 ⟨v288, rfl, ho0, hb⟩; refine ⟨_, rfl, ?_⟩; have _ := aM (Kd.S_lower ho0 (below_size bq)); have _ := aM (blk_below (g := gb282) (o := .cells #[.slice (some ad285) l0_0.length c0_0] 28 (0, 0)) (qQ BK282) hb); have _ := aM (blk_below (g := gb283) (o := .cells #[.slice none 0 0] 28 (0, 0)) (qQ BK283) hb); have _ := aM (below_step bq hb); clear BK282 BK283 HB; rename_i HO289 BK282 BK283 HB; (try clear hb); (try clear hb2); (try clear hk); (try clear hi); (try clear ho0)) | ((with_reducible refine gate_dst (N := 6) rfl ?_); refine bE 6 28 #[.slice none 0 0] ?_; intro gb290 hg w20 hbox hb; have _ := aM (Kd.S_below (sQ HO289) hb); have _ := aM (blk_below (g := gb282) (o := .cells #[.slice (some ad285) l0_0.length c0_0] 28 (0, 0)) (qQ BK282) hb); have _ := aM (blk_below (g := gb283) (o := .cells #[.slice none 0 0] 28 (0, 0)) (qQ BK283) hb); have _ := aM (below_step bq hb); have _ := aM (hbox); have _ := aM ((gS hg)); have _ := aM ((gS hg)); have _ := aM ((by rw [hg]; exact Nat.ne_of_lt (blk_lt (g := gb282) (o := .cells #[.slice (some ad285) l0_0.length c0_0] 28 (0, 0)) (qQ BK282)) : gb282 ≠ gb290)); have _ := aM ((by rw [hg]; exact Nat.ne_of_gt (blk_lt (g := gb282) (o := .cells #[.slice (some ad285) l0_0.length c0_0] 28 (0, 0)) (qQ BK282)) : gb290 ≠ gb282)); have _ := aM ((by rw [hg]; exact Nat.ne_of_lt (blk_lt (g := gb283) (o := .cells #[.slice none 0 0] 28 (0, 0)) (qQ BK283)) : gb283 ≠ gb290)); have _ := aM ((by rw [hg]; exact Nat.ne_of_gt (blk_lt (g := gb283) (o := .cells #[.slice none 0 0] 28 (0, 0)) (qQ BK283)) : gb290 ≠ gb283)); clear HO289 BK282 BK283 HB; rename_i HO289 BK282 BK283 HB BK290 GW290 GE290 NB282_290 NB290_282 NB283_290 NB290_283; clear hb hbox hg; obtain ⟨Ao21, co21, eo21⟩ := Kd.S_slice HO289.out; subst eo21; have hnb22 := NB290_282.out; have hnc22 := NB282_290.out; have hnb23 := NB290_283.out; have hnc23 := NB283_290.out; have hcz24_0 : w20.cell? ⟨gb290, 0, none⟩ = some (.slice none 0 0) := (blk_cell BK290.out 0).trans rfl; have hfz24_0 := blk_frozen BK290.out 0) | ((with_reducible refine gate_store (t := 28) (p := 6) rfl ?_); refine sE (w20.setCell ⟨gb290, 0, none⟩ (.slice Ao21 t287.length co21)) 28 6 ?_; intro w25 hw; have _ : Aside0 (Kd.S (Kd.slice 3 (Kd.int .i64)) 22 w25 w.heap.size (fun _ => True) (.slice Ao21 t287.length co21) t287) := ⟨(by rw [hw]; exact (by (with_reducible repeat first|apply sA|apply sN|apply sD); exact Kd.S_mono (Kd.S_far (p := ⟨gb290, 0, none⟩) (Kd.S_types HO289.out BK290.out (by decide)) (fun _ hk => hk.2) (.slice Ao21 t287.length co21)) (fun _ hk => trivial)))⟩; have _ : Aside0 (w25.heap[gb282]? = some (.cells #[.slice (some ad285) l0_0.length c0_0] 28 (0, 0))) := ⟨(by rw [hw]; exact (by (with_reducible repeat first|apply qN|apply qD|apply qA); refine blk_far ?_ NB282_290.out _; (with_reducible repeat first|apply qN|apply qD|apply qA); exact BK282.out))⟩; have _ : Aside0 (w25.heap[gb283]? = some (.cells #[.slice none 0 0] 28 (0, 0))) := ⟨(by rw [hw]; exact (by (with_reducible repeat first|apply qN|apply qD|apply qA); refine blk_far ?_ NB283_290.out _; (with_reducible repeat first|apply qN|apply qD|apply qA); exact BK283.out))⟩; have _ : Aside0 (w25.heap[gb290]? = some (.cells #[.slice Ao21 t287.length co21] 28 (0, 0))) := ⟨(by rw [hw]; exact (by (with_reducible repeat first|apply qN|apply qD|apply qA); refine blk_put (cs := #[.slice none 0 0]) ?_ 0 _ rfl; (with_reducible repeat first|apply qN|apply qD|apply qA); exact BK290.out))⟩; have _ : Aside0 (Below w.heap.size w w25) := ⟨(by rw [hw]; exact bq)⟩; clear hw HO289 BK282 BK283 BK290 HB; rename_i HO289 BK282 BK283 BK290 HB; have hcz26_0 : w25.cell? ⟨gb290, 0, none⟩ = some (.slice Ao21 t287.length co21) := (blk_cell BK290.out 0).trans rfl; have hfz26_0 := blk_frozen BK290.out 0; have p291 : 0 ≤ (t284 : Int) := odt; have q291 : t284 < (t287.length : Int) := odt; obtain ⟨ad291, A291_0, c291_0, e291, hx291_0, hl291_0, hi291_0⟩ := at_L2 (Kd.S_reads' HO289.out).2.2 t284 p291 q291; cases e291; obtain ⟨ce291, hce291, hMe291, hcc291⟩ := Kd.S_get HO289.out [] t284 p291 (by first | exact q291 | exact odt | (have e_ := (Kd.S_reads' HO289.out).1; omega)); obtain ⟨ve291_0, rfl, ge291_0⟩ := hMe291; have hv291_0 := hcc291 0 _ rfl; rw [Nat.add_zero, show ((Kd.slice 3 (Kd.int .i64))).sz = 1 from rfl, Nat.mul_one] at hv291_0; replace hv291_0 := Option.some.inj (hv291_0.symm.trans hx291_0); rw [hv291_0] at ge291_0; have HL291_0 := aM (show Kd.R (Kd.int .i64) 3 _ _ _ _ (rd_L2 t287 t284) from ge291_0); clear hv291_0 ge291_0; have HX291_0 := aM hx291_0; clear hcc291 hce291; have HR291_0 := aM hi291_0; have HC291_0 := aM hl291_0; clear hi291_0 hl291_0; replace p291 := eq_true p291; replace q291 := eq_true q291; have p292 : 0 ≤ ((ji9) : Int) := odt; have q292 : (ji9) < ((rd_L2 t287 t284).length : Int) := odt; obtain ⟨ad292, e292, hx292_0⟩ := Kd.at_int (cQ HR291_0.out) (ji9) p292 q292; cases e292; replace p292 := eq_true p292; replace q292 := eq_true q292; have p12 : 0 ≤ ((ji9) : Int) := odt; have q12 : ((ji9) : Int) < (((rd_L2 t287 t284).length : Int) : Int) := odt; obtain ⟨go12, co12, eo12, gb12, gl12, cl12, HG12⟩ := Kd.R_form HL291_0.out (by omega); (first | cases eo12 | (injection eo12 with ea_ en_ ec_; (first | subst ea_ | (injection ea_ with ea_; subst ea_)); subst ec_; clear en_)); have GB12 := aM gb12; have GG12 := aM HG12; clear gb12 gl12 HG12; (first | simp only [add_plain] at hx292_0 | skip); obtain ⟨hx12_0, hf12_0⟩ := Kd.R_celln 0 HL291_0.out ((ji9) : Int) p12 q12; replace p12 := eq_true p12; replace q12 := eq_true q12; have hq27 : (t284 : Int) < (t287.length : Int) := (by have h_ : (t284 : Int) < ((t287.length : Int) : Int) := odt; first | exact h_ | (have e_ := (Kd.S_reads' HO289.out).1; omega) | simpa only [List.length_set, List.length_set] using h_); obtain ⟨oki27, ce27, hcl27, hM27, hcc27, hok27, hbk27⟩ := Kd.S_borrow HO289.out [] (t284 : Int) (odt) hq27; obtain ⟨ve27_0, rfl, ge27_0⟩ := hM27; have hv27 := hcc27 0 _ rfl; rw [Nat.add_zero, show ((Kd.slice 3 (Kd.int .i64))).sz = 1 from rfl, Nat.mul_one] at hv27; replace hv27 := Option.some.inj (hv27.symm.trans HX291_0.out); subst hv27; clear hcc27 hcl27; replace ge27_0 := (show Kd.R (Kd.int .i64) 3 _ _ _ _ (rd_L2 t287 t284) from ge27_0); have HP27 := Kd.R_putg ge27_0 ((ji9) : Int) (wrap64 ((rd (rd_L2 t287 t284) (ji9)) - 1))) | ((with_reducible refine gate_store (t := 3) (p := 35) rfl ?_); refine sE (w25.setCell ⟨go12, ((ji9) : Int).toNat, none⟩ (.int .i64 (wrap64 ((rd (rd_L2 t287 t284) (ji9)) - 1)))) 3 35 ?_; intro w28 hw; have hg : w25.grownBy w28 (some go12) := (by rw [hw]; exact HP27.2); have hz_ : Kd.R (Kd.int .i64) 3 w28 w.heap.size oki27 (.slice (some ⟨go12, 0, none⟩) (rd_L2 t287 t284).length c291_0) y293 := (by rw [hw, Ny293.out]; exact HP27.1); have hp_ : Kd.S (Kd.slice 3 (Kd.int .i64)) 22 w28 w.heap.size (fun _ => True) (.slice (some ad291) t287.length co21) y295 := (by rw [Ny295.out]; exact hbk27 hg (fun k_ e_ => by injection e_ with e_; subst e_; exact ge27_0.1 _ rfl) (Kd.M_row hz_)); have hm_ := Kd.R_mono hz_ hok27; clear HP27 hbk27; have _ := aM (blk_grown (g := gb282) (o := .cells #[.slice (some ad285) l0_0.length c0_0] 28 (0, 0)) (qQ BK282) hg (Kd.R_ne HL291_0.out BK282.out (by decide))); have _ := aM (blk_grown (g := gb283) (o := .cells #[.slice none 0 0] 28 (0, 0)) (qQ BK283) hg (Kd.R_ne HL291_0.out BK283.out (by decide))); have _ := aM (hp_); have _ := aM (blk_grown (g := gb290) (o := .cells #[.slice (some ad291) t287.length co21] 28 (0, 0)) (qQ BK290) hg (Kd.R_ne HL291_0.out BK290.out (by decide))); have _ := aM ((by rw [hw]; exact below_set (HB.out) GB12.out : Below w.heap.size w w28)); have _ := aM (hm_); have _ := aM ((Kd.R_reads' hm_).2.1); clear BK282 BK283 HO289 BK290 HB HL291_0; rename_i BK282 BK283 HO289 BK290 HB HL321 HC294; clear hg hw hp_ hz_ hm_ hok27; have hcz29_0 : w28.cell? ⟨gb290, 0, none⟩ = some (.slice (some ad291) t287.length co21) := (blk_cell BK290.out 0).trans rfl; have hfz29_0 := blk_frozen BK290.out 0; have hcz30_0 : w28.cell? ⟨gb283, 0, none⟩ = some (.slice none 0 0) := (blk_cell BK283.out 0).trans rfl; have hfz30_0 := blk_frozen BK283.out 0))
       refine bodyPost_ret (results_ct rfl _ _ gb283 28 #[.slice (some ad291) t287.length co21] (0, 0) _ rfl (by (with_reducible repeat first|apply qN|apply qD|apply qA); refine blk_put (cs := #[.slice none 0 0]) ?_ 0 _ rfl; (with_reducible repeat first|apply qN|apply qD|apply qA); exact BK283.out) Tryd.underlying28 rfl (by kernel_rfl)) rfl ?_
       exact ⟨_, by first | rfl | (simp [errW_none, errW_some] <;> rfl) | (simp only [← hji9]; first | rfl | (simp [errW_none, errW_some] <;> rfl)) | (simp [*, errW_none, errW_some] <;> rfl), by (with_reducible repeat first|apply sA|apply sN|apply sD); exact Kd.S_mono (Kd.S_far (p := ⟨gb283, 0, none⟩) (Kd.S_types HO289.out BK283.out (by decide)) (fun _ hk => hk.2) (.slice (some ad291) t287.length co21)) (fun _ hk => trivial), by exact bq⟩
      ·rw [if_neg c11] at H
       exact absurd H (by simp)
     ·rw [if_neg c10] at H
      exact absurd H (by simp)
    ·rw [if_neg c8] at H
     exact absurd H (by simp)
   ·rw [if_neg c6] at H
    have c6b0 : decide (1 < t286) = false := decide_eq_false c6
    clear c6
    have H' := aM H
    clear H
    go_enter Tryd.func71, Tryd.ntmps71
    go_wp2_with (first | ((with_reducible refine gate_dst (N := 1) rfl ?_); refine bE 1 28 #[.slice A0_0 l0_0.length c0_0] ?_; intro gb282 hg w31 hbox hb; have _ := aM (below_step bq hb); have _ := aM (hbox); have _ := aM ((gS hg)); have _ := aM ((gS hg)); clear HB; rename_i HB BK282 GW282 GE282; clear hb hbox hg) | ((with_reducible refine gate_dst (N := 2) rfl ?_); refine bE 2 28 #[.slice none 0 0] ?_; intro gb283 hg w32 hbox hb; have _ := aM (blk_below (g := gb282) (o := .cells #[.slice A0_0 l0_0.length c0_0] 28 (0, 0)) (qQ BK282) hb); have _ := aM (below_step bq hb); have _ := aM (hbox); have _ := aM ((gS hg)); have _ := aM ((gS hg)); have _ := aM ((by rw [hg]; exact Nat.ne_of_lt (blk_lt (g := gb282) (o := .cells #[.slice A0_0 l0_0.length c0_0] 28 (0, 0)) (qQ BK282)) : gb282 ≠ gb283)); have _ := aM ((by rw [hg]; exact Nat.ne_of_gt (blk_lt (g := gb282) (o := .cells #[.slice A0_0 l0_0.length c0_0] 28 (0, 0)) (qQ BK282)) : gb283 ≠ gb282)); clear BK282 HB; rename_i BK282 HB BK283 GW283 GE283 NB282_283 NB283_282; clear hb hbox hg; have hnb33 := NB282_283.out; have hnc33 := NB283_282.out; have hcz34_0 : w32.cell? ⟨gb282, 0, none⟩ = some (.slice A0_0 l0_0.length c0_0) := (blk_cell BK282.out 0).trans rfl; have hfz34_0 := blk_frozen BK282.out 0) | ((with_reducible refine gate_callee (f := 100) rfl ?_); refine gL (some 15) Tryd.func100 #[.agg #[.slice A0_0 l0_0.length c0_0]] ?_; (with_reducible refine (spec_maTop.calls k _ _ l0_0 t284 _ (cQ (Kd.C_below HR0_0.out HB.out)) HC0_0.out A2.out).mono ?_); rintro e w35 ⟨rfl, hb⟩; refine ⟨_, rfl, ?_⟩; have _ := aM (blk_below (g := gb282) (o := .cells #[.slice A0_0 l0_0.length c0_0] 28 (0, 0)) (qQ BK282) hb); have _ := aM (blk_below (g := gb283) (o := .cells #[.slice none 0 0] 28 (0, 0)) (qQ BK283) hb); have _ := aM (below_step bq hb); clear BK282 BK283 HB; rename_i BK282 BK283 HB; (try clear hb); (try clear hb2); (try clear hk); (try clear hi); have hcz36_0 : w35.cell? ⟨gb282, 0, none⟩ = some (.slice A0_0 l0_0.length c0_0) := (blk_cell BK282.out 0).trans rfl; have hfz36_0 := blk_frozen BK282.out 0; have p285 : 0 ≤ (t284 : Int) := odt; have q285 : t284 < (l0_0.length : Int) := odt; obtain ⟨ad285, A285_0, c285_0, e285, hx285_0, hl285_0, hi285_0⟩ := at_L2 HR0_0.out t284 p285 q285; cases e285; replace hx285_0 := (HB.out.cell (World.block_lt_of_cell? w _ hx285_0)).trans hx285_0; have HR285_0 := aM hi285_0; have HC285_0 := aM hl285_0; clear hi285_0 hl285_0; replace p285 := eq_true p285; replace q285 := eq_true q285) | ((with_reducible refine gate_callee (f := 101) rfl ?_); refine gL (some 21) Tryd.func101 #[.slice A285_0 (rd_L2 l0_0 t284).length c285_0] ?_; (with_reducible refine (spec_maTotal.calls k _ _ (rd_L2 l0_0 t284) t286 _ (cQ (Kd.C_below HR285_0.out HB.out)) HC285_0.out A5.out).mono ?_); rintro e w' ⟨rfl, ⟨nd, rfl⟩⟩; refine ⟨_, rfl, ?_⟩; (try (rw [drewN_self w35]; generalize hq_ : World.drewN w35 _ = w35; have _ : Aside0 (w35.heap[gb282]? = some (.cells #[.slice (some ad285) l0_0.length c0_0] 28 (0, 0))) := ⟨by rw [← hq_]; exact (qQ BK282)⟩; have _ : Aside0 (w35.heap[gb283]? = some (.cells #[.slice none 0 0] 28 (0, 0))) := ⟨by rw [← hq_]; exact (qQ BK283)⟩; have _ : Aside0 (Below w.heap.size w w35) := ⟨by rw [← hq_]; exact bq⟩; clear BK282 BK283 HB hq_; rename_i BK282 BK283 HB; have hcq_282 : World.cell? w35 ⟨gb282, 0, none⟩ = some (.slice (some ad285) l0_0.length c0_0) := (blk_cell BK282.out 0).trans rfl; have hfq_282 := blk_frozen BK282.out 0; have hcq_283 : World.cell? w35 ⟨gb283, 0, none⟩ = some (.slice none 0 0) := (blk_cell BK283.out 0).trans rfl; have hfq_283 := blk_frozen BK283.out 0))) | ((with_reducible refine gate_dst (N := 7) rfl ?_); refine bE 7 28 #[.slice none 0 0] ?_; intro gb296 hg w37 hbox hb; have _ := aM (blk_below (g := gb282) (o := .cells #[.slice (some ad285) l0_0.length c0_0] 28 (0, 0)) (qQ BK282) hb); have _ := aM (blk_below (g := gb283) (o := .cells #[.slice none 0 0] 28 (0, 0)) (qQ BK283) hb); have _ := aM (below_step bq hb); have _ := aM (hbox); have _ := aM ((gS hg)); have _ := aM ((gS hg)); have _ := aM ((by rw [hg]; exact Nat.ne_of_lt (blk_lt (g := gb282) (o := .cells #[.slice (some ad285) l0_0.length c0_0] 28 (0, 0)) (qQ BK282)) : gb282 ≠ gb296)); have _ := aM ((by rw [hg]; exact Nat.ne_of_gt (blk_lt (g := gb282) (o := .cells #[.slice (some ad285) l0_0.length c0_0] 28 (0, 0)) (qQ BK282)) : gb296 ≠ gb282)); have _ := aM ((by rw [hg]; exact Nat.ne_of_lt (blk_lt (g := gb283) (o := .cells #[.slice none 0 0] 28 (0, 0)) (qQ BK283)) : gb283 ≠ gb296)); have _ := aM ((by rw [hg]; exact Nat.ne_of_gt (blk_lt (g := gb283) (o := .cells #[.slice none 0 0] 28 (0, 0)) (qQ BK283)) : gb296 ≠ gb283)); clear BK282 BK283 HB; rename_i BK282 BK283 HB BK296 GW296 GE296 NB282_296 NB296_282 NB283_296 NB296_283; clear hb hbox hg; have hnb38 := NB296_282.out; have hnc38 := NB282_296.out; have hnb39 := NB296_283.out; have hnc39 := NB283_296.out; have hcz40_0 : w37.cell? ⟨gb296, 0, none⟩ = some (.slice none 0 0) := (blk_cell BK296.out 0).trans rfl; have hfz40_0 := blk_frozen BK296.out 0; have hcz41_0 : w37.cell? ⟨gb282, 0, none⟩ = some (.slice (some ad285) l0_0.length c0_0) := (blk_cell BK282.out 0).trans rfl; have hfz41_0 := blk_frozen BK282.out 0))
    go_loopg [42] k (fun kq v42 w' => ∃ (x42_1 : Int) (x297000_1 : List (List Int)) (u297000 : Value), v42 = .int .i64 x42_1 ∧ Aside0 (spec_maShrink.l0 kq (l0_0.length : Int) t284 l0_0 (l0_0.length : Int) x42_1 x297000_1 = some (r1, r2)) ∧ Aside0 (kq ≤ k) ∧ Aside0 (Kd.S (Kd.slice 3 (Kd.int .i64)) 22 w' w.heap.size (fun _ => True) u297000 x297000_1) ∧ Aside0 (w'.heap[gb282]? = some (.cells #[(.slice (some ad285) l0_0.length c0_0)] 28 (0, 0))) ∧ Aside0 (w'.heap[gb283]? = some (.cells #[(.slice none 0 0)] 28 (0, 0))) ∧ Aside0 (w'.heap[gb296]? = some (.cells #[u297000] 28 (0, 0))) ∧ Aside0 (Below w.heap.size w w'))
    case atStart => exact ⟨(0), (([] : List (List Int))), (.slice none 0 0), (by first | rfl | (simp; done) | (simp [*]; done)), H', ⟨Nat.le_refl _⟩, ⟨by first | exact Kd.S_nil _ _ _ _ _ | exact Kd.N_nil _ _ _ _ _ | exact Kd.V_nil _ _ _ _ _ | exact Kd.Q_nil _ _ _ _ _ | exact Kd.R_nil _ _ _ _ _⟩, ⟨by (with_reducible repeat first|apply qN|apply qD|apply qA); refine blk_far ?_ NB282_296.out _; (with_reducible repeat first|apply qN|apply qD|apply qA); exact BK282.out⟩, ⟨by (with_reducible repeat first|apply qN|apply qD|apply qA); refine blk_far ?_ NB283_296.out _; (with_reducible repeat first|apply qN|apply qD|apply qA); exact BK283.out⟩, ⟨by (with_reducible repeat first|apply qN|apply qD|apply qA); refine blk_put (cs := #[.slice none 0 0]) ?_ 0 _ rfl; (with_reducible repeat first|apply qN|apply qD|apply qA); exact BK296.out⟩, ⟨by exact bq⟩⟩
    case round =>
     clear H'
     try clear c1
     try clear p1
     try clear q1
     try clear hx1
     try clear hf1
     try clear c2
     try clear p2
     try clear q2
     try clear hx2
     try clear c3
     try clear c3b0
     try clear c4
     try clear c4b0
     try clear c6
     try clear c6b0
     try clear p6
     try clear c7
     try clear c8
     try clear c8b0
     try clear c10
     try clear c10b0
     try clear c11
     try clear c11b0
     try clear p12
     try clear q12
     try clear hx12
     try clear hf12
     try clear c15
     try clear c22
     try clear c23
     try clear c27
     try clear q27
     try clear c28
     try clear p28
     try clear q28
     try clear hx28
     try clear c29
     try clear p29
     try clear q29
     try clear hx29
     try clear c33
     try clear c38
     try clear c39
     try clear hcz16_0
     try clear hcz18_0
     try clear hcz24_0
     try clear hcz26_0
     try clear hcz29_0
     try clear hcz30_0
     try clear hcz34_0
     try clear hcz36_0
     try clear hcz40_0
     try clear hcz41_0
     try clear hfz16_0
     try clear hfz18_0
     try clear hfz24_0
     try clear hfz26_0
     try clear hfz29_0
     try clear hfz30_0
     try clear hfz34_0
     try clear hfz36_0
     try clear hfz40_0
     try clear hfz41_0
     try clear hx12_0
     try clear hx285_0
     try clear hx291_0
     try clear hx292_0
     try clear p12
     try clear p285
     try clear p291
     try clear p292
     try clear q12
     try clear q285
     try clear q291
     try clear q292
     obtain ⟨x42_1, x297000_1, u297000, rfl, HA, HK1, HO_297000, BK282, BK283, BK296, HB⟩ := hrel
     cases gk with
     | zero => exact absurd HA.out (by simp [spec_maShrink.l0])
     | succ k1 =>
      have H := HA.out
      clear HA
      simp only [spec_maShrink.l0] at H
      by_cases c42 : x42_1 < (l0_0.length : Int)
      ·rw [if_pos c42] at H
       have c42b0 : decide (x42_1 < (l0_0.length : Int)) = true := decide_eq_true c42
       clear c42
       by_cases c43 : 0 ≤ x42_1
       ·rw [if_pos c43] at H
        have c43b0 : decide (0 ≤ x42_1) = true := decide_eq_true c43
        clear c43
        by_cases c44 : x42_1 < (l0_0.length : Int)
        ·rw [if_pos c44] at H
         have c44b0 : decide (x42_1 < (l0_0.length : Int)) = true := decide_eq_true c44
         clear c44
         by_cases c45 : x42_1 = t284
         ·rw [if_pos c45] at H
          have c45b0 : (x42_1 == t284) = true := beq_iff_eq.mpr c45
          have c45b1 : (x42_1 != t284) = false := bne_eq_false_iff_eq.mpr c45
          clear c45
          have H' := aM H
          clear H
          have p297 : 0 ≤ (x42_1 : Int) := odt
          have q297 : x42_1 < (l0_0.length : Int) := odt
          obtain ⟨ad297, A297_0, c297_0, e297, hx297_0, hl297_0, hi297_0⟩ := at_L2 HR0_0.out x42_1 p297 q297
          obtain rfl : ad285 = ad297 := (by injection e297)
          replace hx297_0 := (HB.out.cell (World.block_lt_of_cell? w _ hx297_0)).trans hx297_0
          have HR297_0 := aM hi297_0
          have HC297_0 := aM hl297_0
          clear hi297_0 hl297_0
          replace p297 := eq_true p297
          replace q297 := eq_true q297
          go_wp2
          go_roundg k1
          case measure => have := HK1.out; omega
          case rel => exact ⟨(wrap64 (x42_1 + 1)), (x297000_1), (u297000), (by first | rfl | (simp; done) | (simp [*]; done)), H', ⟨by have := HK1.out; omega⟩, ⟨by (with_reducible repeat first|apply sA|apply sN|apply sD); exact HO_297000.out⟩, ⟨by (with_reducible repeat first|apply qN|apply qD|apply qA); exact BK282.out⟩, ⟨by (with_reducible repeat first|apply qN|apply qD|apply qA); exact BK283.out⟩, ⟨by (with_reducible repeat first|apply qN|apply qD|apply qA); exact BK296.out⟩, ⟨by exact bq⟩⟩
         ·rw [if_neg c45] at H
          have c45b0 : (x42_1 == t284) = false := beq_eq_false_iff_ne.mpr c45
          have c45b1 : (x42_1 != t284) = true := bne_iff_ne.mpr c45
          replace H := Option.bind_eq_some_iff.mp H
          obtain ⟨t298, A460, H⟩ := H
          replace H : (if x42_1 < t284 then (if t284 < (wrap64 ((l0_0.length : Int) - 1)) then (if 0 ≤ t284 then (if t284 < (t298.length : Int) then (if 0 ≤ (wrap64 ((l0_0.length : Int) - 1)) then (if (wrap64 ((l0_0.length : Int) - 1)) < (t298.length : Int) then ((spec_maNarrow.f (t298.set ((wrap64 ((l0_0.length : Int) - 1)) : Int).toNat (rd t298 t284)) t284).bind fun t303 => (if x297000_1.length < 5864062014805 then (spec_maShrink.l0 k1 (l0_0.length : Int) t284 l0_0 (l0_0.length : Int) (wrap64 (x42_1 + 1)) (x297000_1 ++ [t303])) else (none))) else (none)) else (none)) else (none)) else (none)) else ((spec_maNarrow.f t298 t284).bind fun t309 => (if x297000_1.length < 5864062014805 then (spec_maShrink.l0 k1 (l0_0.length : Int) t284 l0_0 (l0_0.length : Int) (wrap64 (x42_1 + 1)) (x297000_1 ++ [t309])) else (none)))) else ((spec_maNarrow.f t298 t284).bind fun t315 => (if x297000_1.length < 5864062014805 then (spec_maShrink.l0 k1 (l0_0.length : Int) t284 l0_0 (l0_0.length : Int) (wrap64 (x42_1 + 1)) (x297000_1 ++ [t315])) else (none)))) = some (r1, r2) := H
          have A46 := aM A460
          clear A460
          by_cases c47 : x42_1 < t284
          ·rw [if_pos c47] at H
           have c47b0 : decide (x42_1 < t284) = true := decide_eq_true c47
           clear c47
           by_cases c48 : t284 < (wrap64 ((l0_0.length : Int) - 1))
           ·rw [if_pos c48] at H
            have c48b0 : decide (t284 < (wrap64 ((l0_0.length : Int) - 1))) = true := decide_eq_true c48
            clear c48
            by_cases c49 : 0 ≤ t284
            ·rw [if_pos c49] at H
             have c49b0 : decide (0 ≤ t284) = true := decide_eq_true c49
             clear c49
             by_cases c50 : t284 < (t298.length : Int)
             ·rw [if_pos c50] at H
              have c50b0 : decide (t284 < (t298.length : Int)) = true := decide_eq_true c50
              clear c50
              obtain ⟨ji51, hji51⟩ : ∃ j_ : Int, (wrap64 ((l0_0.length : Int) - 1)) = j_ := ⟨_, rfl⟩
              replace H : (if 0 ≤ (ji51) then (if (ji51) < (t298.length : Int) then ((spec_maNarrow.f (t298.set ((ji51) : Int).toNat (rd t298 t284)) t284).bind fun t303 => (if x297000_1.length < 5864062014805 then (spec_maShrink.l0 k1 (l0_0.length : Int) t284 l0_0 (l0_0.length : Int) (wrap64 (x42_1 + 1)) (x297000_1 ++ [t303])) else (none))) else (none)) else (none)) = some (r1, r2) := by first | (rw [hji51] at H; exact H) | (simp only [hji51] at H ⊢; exact H)
              (try rw [hji51] at c48b0)
              (try rw [hji51] at A46)
              have hji51w : (IntKind.i64.wrap ((l0_0.length : Int) - 1)) = ji51 := (i64_w _).trans hji51
              by_cases c52 : 0 ≤ (ji51)
              ·rw [if_pos c52] at H
               have c52b0 : decide (0 ≤ (ji51)) = true := decide_eq_true c52
               clear c52
               by_cases c53 : (ji51) < (t298.length : Int)
               ·rw [if_pos c53] at H
                have c53b0 : decide ((ji51) < (t298.length : Int)) = true := decide_eq_true c53
                clear c53
                obtain ⟨y302, hy302⟩ : ∃ y_ : List Int, y_ = (t298.set ((ji51) : Int).toNat (rd t298 t284)) := ⟨_, rfl⟩
                replace H : ((spec_maNarrow.f y302 t284).bind fun t303 => (if x297000_1.length < 5864062014805 then (spec_maShrink.l0 k1 (l0_0.length : Int) t284 l0_0 (l0_0.length : Int) (wrap64 (x42_1 + 1)) (x297000_1 ++ [t303])) else (none))) = some (r1, r2) := by first | (rw [hy302]; with_reducible exact H) | (have H2_ := (Option.bind_some _ _).symm.trans H; rw [hy302]; with_reducible exact H2_) | (have H2_ := (Option.bind_some _ _).symm.trans H; with_reducible exact H2_) | with_reducible exact H | (rw [hy302]; exact H) | exact H
                have Ny302 := aM hy302
                clear hy302
                replace H := Option.bind_eq_some_iff.mp H
                obtain ⟨t303, A550, H⟩ := H
                replace H : (if x297000_1.length < 5864062014805 then (spec_maShrink.l0 k1 (l0_0.length : Int) t284 l0_0 (l0_0.length : Int) (wrap64 (x42_1 + 1)) (x297000_1 ++ [t303])) else (none)) = some (r1, r2) := H
                have A55 := aM A550
                clear A550
                by_cases c56 : x297000_1.length < 5864062014805
                ·rw [if_pos c56] at H
                 have LMc56 := aM c56
                 clear c56
                 obtain ⟨y306, hy306⟩ : ∃ y_ : List (List Int), y_ = (x297000_1 ++ [t303]) := ⟨_, rfl⟩
                 replace H : (spec_maShrink.l0 k1 (l0_0.length : Int) t284 l0_0 (l0_0.length : Int) (wrap64 (x42_1 + 1)) y306) = some (r1, r2) := by first | (rw [hy306]; with_reducible exact H) | (have H2_ := (Option.bind_some _ _).symm.trans H; rw [hy306]; with_reducible exact H2_) | (have H2_ := (Option.bind_some _ _).symm.trans H; with_reducible exact H2_) | with_reducible exact H | (rw [hy306]; exact H) | exact H
                 have Ny306 := aM hy306
                 clear hy306
                 have H' := aM H
                 clear H
                 have p297 : 0 ≤ (x42_1 : Int) := odt
                 have q297 : x42_1 < (l0_0.length : Int) := odt
                 obtain ⟨ad297, A297_0, c297_0, e297, hx297_0, hl297_0, hi297_0⟩ := at_L2 HR0_0.out x42_1 p297 q297
                 obtain rfl : ad285 = ad297 := (by injection e297)
                 replace hx297_0 := (HB.out.cell (World.block_lt_of_cell? w _ hx297_0)).trans hx297_0
                 have HR297_0 := aM hi297_0
                 have HC297_0 := aM hl297_0
                 clear hi297_0 hl297_0
                 replace p297 := eq_true p297
                 replace q297 := eq_true q297
                 try go_wp2_with (first | ((with_reducible refine gate_callee (f := 103) rfl ?_); refine gL (some 51) Tryd.func103 #[.slice A297_0 (rd_L2 l0_0 x42_1).length c297_0] ?_; (with_reducible refine (spec_l1Own.calls _ _ (rd_L2 l0_0 x42_1) t298 _ (cQ (Kd.C_below HR297_0.out HB.out)) HC297_0.out A46.out).mono ?_); rintro e w57 ⟨v299, rfl, ho0, hb⟩; refine ⟨_, rfl, ?_⟩; have _ := aM (Kd.S_elder' (sQ HO_297000) (Kd.R_base ho0) hb); have _ := aM (Kd.R_lower ho0 (below_size bq)); have _ := aM (blk_below (g := gb282) (o := .cells #[.slice (some ad285) l0_0.length c0_0] 28 (0, 0)) (qQ BK282) hb); have _ := aM (blk_below (g := gb283) (o := .cells #[.slice none 0 0] 28 (0, 0)) (qQ BK283) hb); have _ := aM (blk_below (g := gb296) (o := .cells #[u297000] 28 (0, 0)) (qQ BK296) hb); have _ := aM (below_step bq hb); clear HO_297000 BK282 BK283 BK296 HB; rename_i HO_297000 HO300 BK282 BK283 BK296 HB; (try clear hb); (try clear hb2); (try clear hk); (try clear hi); (try clear ho0); obtain ⟨Ao58, co58, eo58⟩ := Kd.R_slice HO300.out; subst eo58; have p301 : 0 ≤ (t284 : Int) := odt; have q301 : t284 < (t298.length : Int) := odt; obtain ⟨ad301, e301, hx301_0⟩ := Kd.at_int (Kd.R_reads' HO300.out).2.2 t284 p301 q301; cases e301; replace p301 := eq_true p301; replace q301 := eq_true q301; have p54 : 0 ≤ ((ji51) : Int) := odt; have q54 : ((ji51) : Int) < ((t298.length : Int) : Int) := odt; obtain ⟨go54, co54, eo54, gb54, gl54, cl54, HG54⟩ := Kd.R_form HO300.out (by omega); (first | cases eo54 | (injection eo54 with ea_ en_ ec_; (first | subst ea_ | (injection ea_ with ea_; subst ea_)); subst ec_; clear en_)); have GB54 := aM gb54; have GG54 := aM HG54; clear gb54 gl54 HG54; (first | simp only [add_plain] at hx301_0 | skip); obtain ⟨hx54_0, hf54_0⟩ := Kd.R_celln 0 HO300.out ((ji51) : Int) p54 q54; replace p54 := eq_true p54; replace q54 := eq_true q54; obtain ⟨hy59_, hz59_⟩ := Kd.R_celln 0 HO300.out ((ji51) : Int) (odt) (odt); have HP59 := Kd.R_putg HO300.out ((ji51) : Int) (rd t298 t284)) | ((with_reducible refine gate_store (t := 3) (p := 68) rfl ?_); refine sE (w57.setCell ⟨go54, ((ji51) : Int).toNat, none⟩ (.int .i64 (rd t298 t284))) 3 68 ?_; intro w60 hw; have hg : w57.grownBy w60 (some go54) := (by rw [hw]; exact HP59.2); have hp_ : Kd.R (Kd.int .i64) 3 w60 w.heap.size (fun _ => True) (.slice (some ⟨go54, 0, none⟩) t298.length co58) y302 := (by rw [hw, Ny302.out]; exact HP59.1); clear HP59; have _ := aM (Kd.S_after (v := (.slice (some ⟨go54, 0, none⟩) t298.length co58)) (v1 := (.slice (some ⟨go54, 0, none⟩) t298.length co58)) (ok := (fun _ => True)) (sQ HO_297000) hg (.inl rfl)); have _ := aM (blk_grown (g := gb282) (o := .cells #[.slice (some ad285) l0_0.length c0_0] 28 (0, 0)) (qQ BK282) hg (Kd.R_ne HO300.out BK282.out (by decide))); have _ := aM (blk_grown (g := gb283) (o := .cells #[.slice none 0 0] 28 (0, 0)) (qQ BK283) hg (Kd.R_ne HO300.out BK283.out (by decide))); have _ := aM (blk_grown (g := gb296) (o := .cells #[u297000] 28 (0, 0)) (qQ BK296) hg (Kd.R_ne HO300.out BK296.out (by decide))); have _ := aM (hp_); have _ := aM ((by rw [hw]; exact below_set (HB.out) GB54.out : Below w.heap.size w w60)); clear HO_297000 BK282 BK283 BK296 HO300 HB; rename_i HO_297000 BK282 BK283 BK296 HO300 HB; clear hg hw hp_))
                 have n0_ := aM (Kd.S_drew HO_297000.out)
                 have n1_ := aM (Kd.R_drew HO300.out)
                 have n2_ := aM (blk_drew BK282.out)
                 have n3_ := aM (blk_drew BK283.out)
                 have n4_ := aM (blk_drew BK296.out)
                 have n5_ := aM (below_drew1 HB.out)
                 clear HO_297000
                 clear HO300
                 clear BK282
                 clear BK283
                 clear BK296
                 clear HB
                 have HO_297000 := n0_
                 have HO300 := n1_
                 have BK282 := n2_
                 have BK283 := n3_
                 have BK296 := n4_
                 have HB := n5_
                 clear n0_ n1_ n2_ n3_ n4_ n5_
                 refine start_ (n := 9) (S := fun w' => w'.cell? ⟨gb296, 0, none⟩ = some (u297000)) (ds := [8]) #[false, false, false, false, false, false, false, false, false] (by kernel_rfl) rfl rfl ((blk_cell BK296.out 0).trans rfl) (fun hHeld => ?_); refine with_tabW spec_maShrink.tab15 spec_maShrink.bits15 (fun HT_ HW_ => ?_)
                 generalize w60.drew = w61 at HO_297000 HO300 BK282 BK283 BK296 HB hHeld ⊢
                 refine pure_ (i := 0) (N := some 69) (v := ?_) (a' := ?_) #[true, false, false, false, false, false, false, false, false] rfl rfl (any_of HT_.out (by kernel_rfl)) (fun _ _ _ h => h) (Or.inl ⟨by rfl, ?_⟩) ?_ ?_
                 rotate_left
                 ·intro w'
                  go_simp
                  with_reducible rfl
                 rotate_left
                 ·simp only [Act.put, List.setIfInBounds_toArray, List.set_cons_zero, List.set_cons_succ, i64_w, i32_w]
                  rfl
                 refine pure_ (i := 2) (N := some 71) (v := ?_) (a' := ?_) #[true, false, true, false, false, false, false, false, false] rfl rfl (any_of HT_.out (by kernel_rfl)) (fun _ _ _ h => h) (Or.inl ⟨by rfl, ?_⟩) ?_ ?_
                 rotate_left
                 ·intro w'
                  go_simp
                  with_reducible rfl
                 rotate_left
                 ·simp only [Act.put, List.setIfInBounds_toArray, List.set_cons_zero, List.set_cons_succ, i64_w, i32_w]
                  rfl
                 refine pure_ (i := 3) (N := some 72) (v := ?_) (a' := ?_) #[true, false, true, true, false, false, false, false, false] rfl rfl (any_of HT_.out (by kernel_rfl)) (fun _ _ _ h => h) (Or.inl ⟨by rfl, ?_⟩) ?_ ?_
                 rotate_left
                 ·intro w'
                  go_simp
                  with_reducible rfl
                 rotate_left
                 ·simp only [Act.put, List.setIfInBounds_toArray, List.set_cons_zero, List.set_cons_succ, i64_w, i32_w]
                  rfl
                 refine take_ (i := 1) (N := some 70) (v := ?_) (a' := ?_) #[true, true, true, true, false, false, false, false, false] rfl rfl (take_ofW HT_.out HW_.out (by kernel_rfl)) (fun _ _ _ h => h) (Or.inl ⟨by rfl, ?_⟩) hHeld ?_ ?_
                 rotate_left
                 ·intro w' s0
                  go_simp
                  with_reducible rfl
                 rotate_left
                 ·simp only [Act.put, List.setIfInBounds_toArray, List.set_cons_zero, List.set_cons_succ, i64_w, i32_w]
                  rfl
                 refine one_ (i := 4) (N := some 73) #[true, true, true, true, true, false, false, false, false] rfl rfl (one_of HT_.out (by kernel_rfl)) (by decide) (fun K hK => ?_)
                 refine goes_ Tryd.func104 (by kernel_rfl) rfl #[.slice (some ⟨go54, 0, none⟩) y302.length co58, .int .i64 t284] (by rfl) rfl rfl (by (try simp only [List.map_toArray, List.map_cons, List.map_nil]); first | done | (rw [show y302.length = t298.length from (Kd.R_reads' HO300.out).1.symm] <;> rfl) | rfl | (simp only [List.length_drop, List.length_take]; rfl)) ?_
                 with_reducible refine (spec_maNarrow.calls _ _ y302 t284 t303 _ ?side1 ?side2 A55.out).mono ?_
                 (case side1 => repeat (first | exact (Kd.R_reads' HO300.out).2.2 | (with_reducible refine Kd.C_alloc ?_ _) | (with_reducible refine Kd.C_drewN ?_ _) | (with_reducible refine Kd.C_drew ?_)))
                 (case side2 => rw [show y302.length = t298.length from (Kd.R_reads' HO300.out).1.symm]; exact (Kd.R_reads' HO300.out).2.1)
                 rintro e w62 ⟨v304, rfl, ho0, hb⟩
                 refine ⟨_, rfl, ?_⟩
                 have n0_ := aM (Kd.S_elder' (sQ HO_297000) (Kd.R_base ho0) hb)
                 have n1_ := aM (Kd.R_elder' (rQ HO300) (Kd.R_base ho0) hb)
                 have n2_ := aM (Kd.R_lower (Kd.R_new' ho0 (Kd.R_lt (rQ HO300))) (below_size bq))
                 have n3_ := aM (blk_below (g := gb282) (o := .cells #[.slice (some ad285) l0_0.length c0_0] 28 (0, 0)) (qQ BK282) hb)
                 have n4_ := aM (blk_below (g := gb283) (o := .cells #[.slice none 0 0] 28 (0, 0)) (qQ BK283) hb)
                 have n5_ := aM (blk_below (g := gb296) (o := .cells #[u297000] 28 (0, 0)) (qQ BK296) hb)
                 have n6_ := aM (below_step bq hb)
                 clear HO_297000
                 clear HO300
                 clear BK282
                 clear BK283
                 clear BK296
                 clear HB
                 have HO_297000 := n0_
                 have HO300 := n1_
                 have HO305 := n2_
                 have BK282 := n3_
                 have BK283 := n4_
                 have BK296 := n5_
                 have HB := n6_
                 clear n0_ n1_ n2_ n3_ n4_ n5_ n6_
                 (try clear hb)
                 (try clear hb2)
                 (try clear hk)
                 (try clear hi)
                 (try clear ho0)
                 obtain ⟨Ao64, co64, eo64⟩ := Kd.R_slice HO305.out
                 (first | subst eo64 | (injection eo64 with f1_ f2_ f3_; have f4_ := f1_.symm; have f5_ := f3_.symm; clear f1_ f2_ f3_; subst f4_; subst f5_))
                 refine hK.out _ _ ((blk_cell BK296.out 0).trans rfl) (fun hHeld => ?_)
                 clear hK K
                 refine norm_ (a' := ?_) ?_ ?_
                 rotate_left
                 ·show Act.put _ (some 73) _ = _
                  simp only [Act.put, List.setIfInBounds_toArray, List.set_cons_zero, List.set_cons_succ, i64_w, i32_w]
                  rfl
                 refine one_ (i := 5) (N := some 74) #[true, true, true, true, true, true, false, false, false] rfl rfl (one_of HT_.out (by kernel_rfl)) (by decide) (fun K hK => ?_)
                 refine value_ (w1 := ?_) (v := ?_) (by rfl) rfl ?_ ?_
                 rotate_left 2
                 ·go_simp
                  constructor
                  ·rfl
                  ·rfl
                 refine hK.out _ _ ((blk_cell (blk_alloc BK296.out _) 0).trans rfl) (fun hHeld => ?_)
                 clear hK K
                 refine norm_ (a' := ?_) ?_ ?_
                 rotate_left
                 ·show Act.put _ (some 74) _ = _
                  simp only [Act.put, List.setIfInBounds_toArray, List.set_cons_zero, List.set_cons_succ, i64_w, i32_w]
                  rfl
                 refine one_ (i := 6) (N := some 75) #[true, true, true, true, true, true, true, false, false] rfl rfl (one_of HT_.out (by kernel_rfl)) (by decide) (fun K hK => ?_)
                 refine Kd.S_append_step (Kd.slice 3 (Kd.int .i64)) (w0 := w) w.heap.size (by rfl) (.tmp 70) (.tmp 74) 26 22 (.slice none 0 0) 24 rfl Tryd.underlying26 info22 rfl (by decide) (by omega) u297000 x297000_1 t303 [.slice Ao64 t303.length co64] (fun k_ => some k_ ≠ (.slice (some ⟨go54, 0, none⟩) t298.length co58 : Value).ownBlock) (fun k_ => some k_ = (.slice Ao64 t303.length co64 : Value).ownBlock) rfl rfl ?aP (fun k_ hk_ => ((Kd.R_mono (ok' := fun k_ => ((fun k_ => some k_ ≠ (.slice (some ⟨go54, 0, none⟩) t298.length co58 : Value).ownBlock)) k_ ∧ some k_ ≠ (u297000 : Value).ownBlock) (Kd.R_apart' (HO305.out) (Kd.S_typed HO_297000.out) (by decide)) (fun k_ hk => ⟨hk.1.2, hk.2⟩))).1 k_ hk_.symm) ?aF ?aO ?aB ?aS ?aL ?_
                 (case aP => exact Kd.M_row (Kd.R_mono (Kd.R_tight rfl (Kd.R_mono (ok' := fun k_ => ((fun k_ => some k_ ≠ (.slice (some ⟨go54, 0, none⟩) t298.length co58 : Value).ownBlock)) k_ ∧ some k_ ≠ (u297000 : Value).ownBlock) (Kd.R_apart' (HO305.out) (Kd.S_typed HO_297000.out) (by decide)) (fun k_ hk => ⟨hk.1.2, hk.2⟩))) (fun _ h_ => h_)))
                 (case aB => exact bq)
                 (case aF => exact (fun k_ hk => Kd.fresh' (Kd.R_lt (rQ HO300)) k_ hk))
                 (case aO => exact (by (with_reducible repeat first|apply sA|apply sN|apply sD); exact Kd.S_mono HO_297000.out (fun k_ hk => ⟨hk.1.2, fun e_ => hk.2 e_⟩)))
                 (case aS => exact (below_size bq))
                 (case aL => have := LMc56.out; omega)
                 intro v307 w63 ho hb hg hat
                 rw [← Ny306.out] at ho
                 have n0_ := aM (blk_grown (g := gb282) (o := .cells #[.slice (some ad285) l0_0.length c0_0] 28 (0, 0)) (qQ BK282) hg (Kd.S_ne HO_297000.out BK282.out (by decide)))
                 have n1_ := aM (blk_grown (g := gb283) (o := .cells #[.slice none 0 0] 28 (0, 0)) (qQ BK283) hg (Kd.S_ne HO_297000.out BK283.out (by decide)))
                 have n2_ := aM (blk_grown (g := gb296) (o := .cells #[u297000] 28 (0, 0)) (qQ BK296) hg (Kd.S_ne HO_297000.out BK296.out (by decide)))
                 have n3_ := aM (Kd.R_over' (rQ HO300) (Kd.S_typed (sQ HO_297000)) (by decide) hg)
                 have n4_ := aM (hb)
                 have n5_ := aM (ho)
                 clear BK282
                 clear BK283
                 clear BK296
                 clear HO300
                 clear HB
                 clear HO_297000
                 clear HO305
                 have BK282 := n0_
                 have BK283 := n1_
                 have BK296 := n2_
                 have HO300 := n3_
                 have HB := n4_
                 have HO308 := n5_
                 clear n0_ n1_ n2_ n3_ n4_ n5_
                 clear ho hb hg hat
                 obtain ⟨Ao65, co65, eo65⟩ := Kd.S_slice HO308.out
                 (first | subst eo65 | (injection eo65 with f1_ f2_ f3_; have f4_ := f1_.symm; have f5_ := f3_.symm; clear f1_ f2_ f3_; subst f4_; subst f5_))
                 refine hK.out _ _ ((blk_cell BK296.out 0).trans rfl) (fun hHeld => ?_)
                 clear hK K
                 refine norm_ (a' := ?_) ?_ ?_
                 rotate_left
                 ·show Act.put _ (some 75) _ = _
                  simp only [Act.put, List.setIfInBounds_toArray, List.set_cons_zero, List.set_cons_succ, i64_w, i32_w]
                  rfl
                 refine pure_ (i := 7) (N := some 76) (v := ?_) (a' := ?_) #[true, true, true, true, true, true, true, true, false] rfl rfl (any_of HT_.out (by kernel_rfl)) (fun _ _ _ h => h) (Or.inl ⟨by rfl, ?_⟩) ?_ ?_
                 rotate_left
                 ·intro w'
                  go_simp
                  with_reducible rfl
                 rotate_left
                 ·simp only [Act.put, List.setIfInBounds_toArray, List.set_cons_zero, List.set_cons_succ, i64_w, i32_w]
                  rfl
                 refine last_ (i := 8) (N := none) #[true, true, true, true, true, true, true, true, true] rfl rfl (one_of HT_.out (by kernel_rfl)) (by decide) (fun K hK => ?_)
                 have hs66 : w63.cell? ⟨gb296, 0, none⟩ = some (u297000) := (blk_cell BK296.out 0).trans rfl
                 have hfs66 := blk_frozen BK296.out 0
                 have hns66_0 := NB282_296.out
                 have hns66_1 := NB283_296.out
                 have hms66_0 := NB296_282.out
                 have hms66_1 := NB296_283.out
                 refine skip_ (w1 := ?_) (by rfl) rfl ?_ ?_
                 rotate_left
                 ·go_simp
                  rfl
                 refine hK.out _ _ ?_
                 clear hK K
                 refine done_ (done_of HT_.out (by kernel_rfl)) ?_
                 try go_wp2
                 go_roundg k1
                 case measure => have := HK1.out; omega
                 case rel => exact ⟨(wrap64 (x42_1 + 1)), (y306), (.slice Ao65 y306.length co65), (by first | rfl | (simp; done) | (simp [*]; done)), H', ⟨by have := HK1.out; omega⟩, ⟨by (with_reducible repeat first|apply sA|apply sN|apply sD); exact Kd.S_mono (Kd.S_far (p := ⟨gb296, 0, none⟩) (Kd.S_types HO308.out BK296.out (by decide)) (fun _ hk => hk.2) (.slice Ao65 y306.length co65)) (fun _ hk => trivial)⟩, ⟨by (with_reducible repeat first|apply qN|apply qD|apply qA); refine blk_far ?_ NB282_296.out _; (with_reducible repeat first|apply qN|apply qD|apply qA); exact BK282.out⟩, ⟨by (with_reducible repeat first|apply qN|apply qD|apply qA); refine blk_far ?_ NB283_296.out _; (with_reducible repeat first|apply qN|apply qD|apply qA); exact BK283.out⟩, ⟨by (with_reducible repeat first|apply qN|apply qD|apply qA); refine blk_put (cs := #[u297000]) ?_ 0 _ rfl; (with_reducible repeat first|apply qN|apply qD|apply qA); exact BK296.out⟩, ⟨by exact bq⟩⟩
                ·rw [if_neg c56] at H
                 exact absurd H (by simp)
               ·rw [if_neg c53] at H
                exact absurd H (by simp)
              ·rw [if_neg c52] at H
               exact absurd H (by simp)
             ·rw [if_neg c50] at H
              exact absurd H (by simp)
            ·rw [if_neg c49] at H
             exact absurd H (by simp)
           ·rw [if_neg c48] at H
            have c48b0 : decide (t284 < (wrap64 ((l0_0.length : Int) - 1))) = false := decide_eq_false c48
            clear c48
            replace H := Option.bind_eq_some_iff.mp H
            obtain ⟨t309, A670, H⟩ := H
            replace H : (if x297000_1.length < 5864062014805 then (spec_maShrink.l0 k1 (l0_0.length : Int) t284 l0_0 (l0_0.length : Int) (wrap64 (x42_1 + 1)) (x297000_1 ++ [t309])) else (none)) = some (r1, r2) := H
            have A67 := aM A670
            clear A670
            by_cases c68 : x297000_1.length < 5864062014805
            ·rw [if_pos c68] at H
             have LMc68 := aM c68
             clear c68
             obtain ⟨y312, hy312⟩ : ∃ y_ : List (List Int), y_ = (x297000_1 ++ [t309]) := ⟨_, rfl⟩
             replace H : (spec_maShrink.l0 k1 (l0_0.length : Int) t284 l0_0 (l0_0.length : Int) (wrap64 (x42_1 + 1)) y312) = some (r1, r2) := by first | (rw [hy312]; with_reducible exact H) | (have H2_ := (Option.bind_some _ _).symm.trans H; rw [hy312]; with_reducible exact H2_) | (have H2_ := (Option.bind_some _ _).symm.trans H; with_reducible exact H2_) | with_reducible exact H | (rw [hy312]; exact H) | exact H
             have Ny312 := aM hy312
             clear hy312
             have H' := aM H
             clear H
             have p297 : 0 ≤ (x42_1 : Int) := odt
             have q297 : x42_1 < (l0_0.length : Int) := odt
             obtain ⟨ad297, A297_0, c297_0, e297, hx297_0, hl297_0, hi297_0⟩ := at_L2 HR0_0.out x42_1 p297 q297
             obtain rfl : ad285 = ad297 := (by injection e297)
             replace hx297_0 := (HB.out.cell (World.block_lt_of_cell? w _ hx297_0)).trans hx297_0
             have HR297_0 := aM hi297_0
             have HC297_0 := aM hl297_0
             clear hi297_0 hl297_0
             replace p297 := eq_true p297
             replace q297 := eq_true q297
             try go_wp2_with (first | ((with_reducible refine gate_callee (f := 103) rfl ?_); refine gL (some 51) Tryd.func103 #[.slice A297_0 (rd_L2 l0_0 x42_1).length c297_0] ?_; (with_reducible refine (spec_l1Own.calls _ _ (rd_L2 l0_0 x42_1) t298 _ (cQ (Kd.C_below HR297_0.out HB.out)) HC297_0.out A46.out).mono ?_); rintro e w69 ⟨v299, rfl, ho0, hb⟩; refine ⟨_, rfl, ?_⟩; have _ := aM (Kd.S_elder' (sQ HO_297000) (Kd.R_base ho0) hb); have _ := aM (Kd.R_lower ho0 (below_size bq)); have _ := aM (blk_below (g := gb282) (o := .cells #[.slice (some ad285) l0_0.length c0_0] 28 (0, 0)) (qQ BK282) hb); have _ := aM (blk_below (g := gb283) (o := .cells #[.slice none 0 0] 28 (0, 0)) (qQ BK283) hb); have _ := aM (blk_below (g := gb296) (o := .cells #[u297000] 28 (0, 0)) (qQ BK296) hb); have _ := aM (below_step bq hb); clear HO_297000 BK282 BK283 BK296 HB; rename_i HO_297000 HO300 BK282 BK283 BK296 HB; (try clear hb); (try clear hb2); (try clear hk); (try clear hi); (try clear ho0)))
             have n0_ := aM (Kd.S_drew HO_297000.out)
             have n1_ := aM (Kd.R_drew HO300.out)
             have n2_ := aM (blk_drew BK282.out)
             have n3_ := aM (blk_drew BK283.out)
             have n4_ := aM (blk_drew BK296.out)
             have n5_ := aM (below_drew1 HB.out)
             clear HO_297000
             clear HO300
             clear BK282
             clear BK283
             clear BK296
             clear HB
             have HO_297000 := n0_
             have HO300 := n1_
             have BK282 := n2_
             have BK283 := n3_
             have BK296 := n4_
             have HB := n5_
             clear n0_ n1_ n2_ n3_ n4_ n5_
             obtain ⟨Ao71, co71, eo71⟩ := Kd.R_slice HO300.out
             (first | subst eo71 | (injection eo71 with f1_ f2_ f3_; have f4_ := f1_.symm; have f5_ := f3_.symm; clear f1_ f2_ f3_; subst f4_; subst f5_))
             refine start_ (n := 9) (S := fun w' => w'.cell? ⟨gb296, 0, none⟩ = some (u297000)) (ds := [8]) #[false, false, false, false, false, false, false, false, false] (by kernel_rfl) rfl rfl ((blk_cell BK296.out 0).trans rfl) (fun hHeld => ?_); refine with_tabW spec_maShrink.tab15 spec_maShrink.bits15 (fun HT_ HW_ => ?_)
             generalize w69.drew = w70 at HO_297000 HO300 BK282 BK283 BK296 HB hHeld ⊢
             refine pure_ (i := 0) (N := some 69) (v := ?_) (a' := ?_) #[true, false, false, false, false, false, false, false, false] rfl rfl (any_of HT_.out (by kernel_rfl)) (fun _ _ _ h => h) (Or.inl ⟨by rfl, ?_⟩) ?_ ?_
             rotate_left
             ·intro w'
              go_simp
              with_reducible rfl
             rotate_left
             ·simp only [Act.put, List.setIfInBounds_toArray, List.set_cons_zero, List.set_cons_succ, i64_w, i32_w]
              rfl
             refine pure_ (i := 2) (N := some 71) (v := ?_) (a' := ?_) #[true, false, true, false, false, false, false, false, false] rfl rfl (any_of HT_.out (by kernel_rfl)) (fun _ _ _ h => h) (Or.inl ⟨by rfl, ?_⟩) ?_ ?_
             rotate_left
             ·intro w'
              go_simp
              with_reducible rfl
             rotate_left
             ·simp only [Act.put, List.setIfInBounds_toArray, List.set_cons_zero, List.set_cons_succ, i64_w, i32_w]
              rfl
             refine pure_ (i := 3) (N := some 72) (v := ?_) (a' := ?_) #[true, false, true, true, false, false, false, false, false] rfl rfl (any_of HT_.out (by kernel_rfl)) (fun _ _ _ h => h) (Or.inl ⟨by rfl, ?_⟩) ?_ ?_
             rotate_left
             ·intro w'
              go_simp
              with_reducible rfl
             rotate_left
             ·simp only [Act.put, List.setIfInBounds_toArray, List.set_cons_zero, List.set_cons_succ, i64_w, i32_w]
              rfl
             refine take_ (i := 1) (N := some 70) (v := ?_) (a' := ?_) #[true, true, true, true, false, false, false, false, false] rfl rfl (take_ofW HT_.out HW_.out (by kernel_rfl)) (fun _ _ _ h => h) (Or.inl ⟨by rfl, ?_⟩) hHeld ?_ ?_
             rotate_left
             ·intro w' s0
              go_simp
              with_reducible rfl
             rotate_left
             ·simp only [Act.put, List.setIfInBounds_toArray, List.set_cons_zero, List.set_cons_succ, i64_w, i32_w]
              rfl
             refine one_ (i := 4) (N := some 73) #[true, true, true, true, true, false, false, false, false] rfl rfl (one_of HT_.out (by kernel_rfl)) (by decide) (fun K hK => ?_)
             refine goes_ Tryd.func104 (by kernel_rfl) rfl #[.slice Ao71 t298.length co71, .int .i64 t284] (by rfl) rfl rfl (by (try simp only [List.map_toArray, List.map_cons, List.map_nil]); first | done | rfl | (simp only [List.length_drop, List.length_take]; rfl)) ?_
             with_reducible refine (spec_maNarrow.calls _ _ t298 t284 t309 _ ?side1 ?side2 A67.out).mono ?_
             (case side1 => repeat (first | exact (Kd.R_reads' HO300.out).2.2 | (with_reducible refine Kd.C_alloc ?_ _) | (with_reducible refine Kd.C_drewN ?_ _) | (with_reducible refine Kd.C_drew ?_)))
             (case side2 => exact (Kd.R_reads' HO300.out).2.1)
             rintro e w72 ⟨v310, rfl, ho0, hb⟩
             refine ⟨_, rfl, ?_⟩
             have n0_ := aM (Kd.S_elder' (sQ HO_297000) (Kd.R_base ho0) hb)
             have n1_ := aM (Kd.R_elder' (rQ HO300) (Kd.R_base ho0) hb)
             have n2_ := aM (Kd.R_lower (Kd.R_new' ho0 (Kd.R_lt (rQ HO300))) (below_size bq))
             have n3_ := aM (blk_below (g := gb282) (o := .cells #[.slice (some ad285) l0_0.length c0_0] 28 (0, 0)) (qQ BK282) hb)
             have n4_ := aM (blk_below (g := gb283) (o := .cells #[.slice none 0 0] 28 (0, 0)) (qQ BK283) hb)
             have n5_ := aM (blk_below (g := gb296) (o := .cells #[u297000] 28 (0, 0)) (qQ BK296) hb)
             have n6_ := aM (below_step bq hb)
             clear HO_297000
             clear HO300
             clear BK282
             clear BK283
             clear BK296
             clear HB
             have HO_297000 := n0_
             have HO300 := n1_
             have HO311 := n2_
             have BK282 := n3_
             have BK283 := n4_
             have BK296 := n5_
             have HB := n6_
             clear n0_ n1_ n2_ n3_ n4_ n5_ n6_
             (try clear hb)
             (try clear hb2)
             (try clear hk)
             (try clear hi)
             (try clear ho0)
             obtain ⟨Ao74, co74, eo74⟩ := Kd.R_slice HO311.out
             (first | subst eo74 | (injection eo74 with f1_ f2_ f3_; have f4_ := f1_.symm; have f5_ := f3_.symm; clear f1_ f2_ f3_; subst f4_; subst f5_))
             refine hK.out _ _ ((blk_cell BK296.out 0).trans rfl) (fun hHeld => ?_)
             clear hK K
             refine norm_ (a' := ?_) ?_ ?_
             rotate_left
             ·show Act.put _ (some 73) _ = _
              simp only [Act.put, List.setIfInBounds_toArray, List.set_cons_zero, List.set_cons_succ, i64_w, i32_w]
              rfl
             refine one_ (i := 5) (N := some 74) #[true, true, true, true, true, true, false, false, false] rfl rfl (one_of HT_.out (by kernel_rfl)) (by decide) (fun K hK => ?_)
             refine value_ (w1 := ?_) (v := ?_) (by rfl) rfl ?_ ?_
             rotate_left 2
             ·go_simp
              constructor
              ·rfl
              ·rfl
             refine hK.out _ _ ((blk_cell (blk_alloc BK296.out _) 0).trans rfl) (fun hHeld => ?_)
             clear hK K
             refine norm_ (a' := ?_) ?_ ?_
             rotate_left
             ·show Act.put _ (some 74) _ = _
              simp only [Act.put, List.setIfInBounds_toArray, List.set_cons_zero, List.set_cons_succ, i64_w, i32_w]
              rfl
             refine one_ (i := 6) (N := some 75) #[true, true, true, true, true, true, true, false, false] rfl rfl (one_of HT_.out (by kernel_rfl)) (by decide) (fun K hK => ?_)
             refine Kd.S_append_step (Kd.slice 3 (Kd.int .i64)) (w0 := w) w.heap.size (by rfl) (.tmp 70) (.tmp 74) 26 22 (.slice none 0 0) 24 rfl Tryd.underlying26 info22 rfl (by decide) (by omega) u297000 x297000_1 t309 [.slice Ao74 t309.length co74] (fun k_ => some k_ ≠ (.slice Ao71 t298.length co71 : Value).ownBlock) (fun k_ => some k_ = (.slice Ao74 t309.length co74 : Value).ownBlock) rfl rfl ?aP (fun k_ hk_ => ((Kd.R_mono (ok' := fun k_ => ((fun k_ => some k_ ≠ (.slice Ao71 t298.length co71 : Value).ownBlock)) k_ ∧ some k_ ≠ (u297000 : Value).ownBlock) (Kd.R_apart' (HO311.out) (Kd.S_typed HO_297000.out) (by decide)) (fun k_ hk => ⟨hk.1.2, hk.2⟩))).1 k_ hk_.symm) ?aF ?aO ?aB ?aS ?aL ?_
             (case aP => exact Kd.M_row (Kd.R_mono (Kd.R_tight rfl (Kd.R_mono (ok' := fun k_ => ((fun k_ => some k_ ≠ (.slice Ao71 t298.length co71 : Value).ownBlock)) k_ ∧ some k_ ≠ (u297000 : Value).ownBlock) (Kd.R_apart' (HO311.out) (Kd.S_typed HO_297000.out) (by decide)) (fun k_ hk => ⟨hk.1.2, hk.2⟩))) (fun _ h_ => h_)))
             (case aB => exact bq)
             (case aF => exact (fun k_ hk => Kd.fresh' (Kd.R_lt (rQ HO300)) k_ hk))
             (case aO => exact (by (with_reducible repeat first|apply sA|apply sN|apply sD); exact Kd.S_mono HO_297000.out (fun k_ hk => ⟨hk.1.2, fun e_ => hk.2 e_⟩)))
             (case aS => exact (below_size bq))
             (case aL => have := LMc68.out; omega)
             intro v313 w73 ho hb hg hat
             rw [← Ny312.out] at ho
             have n0_ := aM (blk_grown (g := gb282) (o := .cells #[.slice (some ad285) l0_0.length c0_0] 28 (0, 0)) (qQ BK282) hg (Kd.S_ne HO_297000.out BK282.out (by decide)))
             have n1_ := aM (blk_grown (g := gb283) (o := .cells #[.slice none 0 0] 28 (0, 0)) (qQ BK283) hg (Kd.S_ne HO_297000.out BK283.out (by decide)))
             have n2_ := aM (blk_grown (g := gb296) (o := .cells #[u297000] 28 (0, 0)) (qQ BK296) hg (Kd.S_ne HO_297000.out BK296.out (by decide)))
             have n3_ := aM (Kd.R_over' (rQ HO300) (Kd.S_typed (sQ HO_297000)) (by decide) hg)
             have n4_ := aM (hb)
             have n5_ := aM (ho)
             clear BK282
             clear BK283
             clear BK296
             clear HO300
             clear HB
             clear HO_297000
             clear HO311
             have BK282 := n0_
             have BK283 := n1_
             have BK296 := n2_
             have HO300 := n3_
             have HB := n4_
             have HO314 := n5_
             clear n0_ n1_ n2_ n3_ n4_ n5_
             clear ho hb hg hat
             obtain ⟨Ao75, co75, eo75⟩ := Kd.S_slice HO314.out
             (first | subst eo75 | (injection eo75 with f1_ f2_ f3_; have f4_ := f1_.symm; have f5_ := f3_.symm; clear f1_ f2_ f3_; subst f4_; subst f5_))
             refine hK.out _ _ ((blk_cell BK296.out 0).trans rfl) (fun hHeld => ?_)
             clear hK K
             refine norm_ (a' := ?_) ?_ ?_
             rotate_left
             ·show Act.put _ (some 75) _ = _
              simp only [Act.put, List.setIfInBounds_toArray, List.set_cons_zero, List.set_cons_succ, i64_w, i32_w]
              rfl
             refine pure_ (i := 7) (N := some 76) (v := ?_) (a' := ?_) #[true, true, true, true, true, true, true, true, false] rfl rfl (any_of HT_.out (by kernel_rfl)) (fun _ _ _ h => h) (Or.inl ⟨by rfl, ?_⟩) ?_ ?_
             rotate_left
             ·intro w'
              go_simp
              with_reducible rfl
             rotate_left
             ·simp only [Act.put, List.setIfInBounds_toArray, List.set_cons_zero, List.set_cons_succ, i64_w, i32_w]
              rfl
             refine last_ (i := 8) (N := none) #[true, true, true, true, true, true, true, true, true] rfl rfl (one_of HT_.out (by kernel_rfl)) (by decide) (fun K hK => ?_)
             have hs76 : w73.cell? ⟨gb296, 0, none⟩ = some (u297000) := (blk_cell BK296.out 0).trans rfl
             have hfs76 := blk_frozen BK296.out 0
             have hns76_0 := NB282_296.out
             have hns76_1 := NB283_296.out
             have hms76_0 := NB296_282.out
             have hms76_1 := NB296_283.out
             refine skip_ (w1 := ?_) (by rfl) rfl ?_ ?_
             rotate_left
             ·go_simp
              rfl
             refine hK.out _ _ ?_
             clear hK K
             refine done_ (done_of HT_.out (by kernel_rfl)) ?_
             try go_wp2
             go_roundg k1
             case measure => have := HK1.out; omega
             case rel => exact ⟨(wrap64 (x42_1 + 1)), (y312), (.slice Ao75 y312.length co75), (by first | rfl | (simp; done) | (simp [*]; done)), H', ⟨by have := HK1.out; omega⟩, ⟨by (with_reducible repeat first|apply sA|apply sN|apply sD); exact Kd.S_mono (Kd.S_far (p := ⟨gb296, 0, none⟩) (Kd.S_types HO314.out BK296.out (by decide)) (fun _ hk => hk.2) (.slice Ao75 y312.length co75)) (fun _ hk => trivial)⟩, ⟨by (with_reducible repeat first|apply qN|apply qD|apply qA); refine blk_far ?_ NB282_296.out _; (with_reducible repeat first|apply qN|apply qD|apply qA); exact BK282.out⟩, ⟨by (with_reducible repeat first|apply qN|apply qD|apply qA); refine blk_far ?_ NB283_296.out _; (with_reducible repeat first|apply qN|apply qD|apply qA); exact BK283.out⟩, ⟨by (with_reducible repeat first|apply qN|apply qD|apply qA); refine blk_put (cs := #[u297000]) ?_ 0 _ rfl; (with_reducible repeat first|apply qN|apply qD|apply qA); exact BK296.out⟩, ⟨by exact bq⟩⟩
            ·rw [if_neg c68] at H
             exact absurd H (by simp)
          ·rw [if_neg c47] at H
           have c47b0 : decide (x42_1 < t284) = false := decide_eq_false c47
           clear c47
           replace H := Option.bind_eq_some_iff.mp H
           obtain ⟨t315, A770, H⟩ := H
           replace H : (if x297000_1.length < 5864062014805 then (spec_maShrink.l0 k1 (l0_0.length : Int) t284 l0_0 (l0_0.length : Int) (wrap64 (x42_1 + 1)) (x297000_1 ++ [t315])) else (none)) = some (r1, r2) := H
           have A77 := aM A770
           clear A770
           by_cases c78 : x297000_1.length < 5864062014805
           ·rw [if_pos c78] at H
            have LMc78 := aM c78
            clear c78
            obtain ⟨y318, hy318⟩ : ∃ y_ : List (List Int), y_ = (x297000_1 ++ [t315]) := ⟨_, rfl⟩
            replace H : (spec_maShrink.l0 k1 (l0_0.length : Int) t284 l0_0 (l0_0.length : Int) (wrap64 (x42_1 + 1)) y318) = some (r1, r2) := by first | (rw [hy318]; with_reducible exact H) | (have H2_ := (Option.bind_some _ _).symm.trans H; rw [hy318]; with_reducible exact H2_) | (have H2_ := (Option.bind_some _ _).symm.trans H; with_reducible exact H2_) | with_reducible exact H | (rw [hy318]; exact H) | exact H
            have Ny318 := aM hy318
            clear hy318
            have H' := aM H
            clear H
            have p297 : 0 ≤ (x42_1 : Int) := odt
            have q297 : x42_1 < (l0_0.length : Int) := odt
            obtain ⟨ad297, A297_0, c297_0, e297, hx297_0, hl297_0, hi297_0⟩ := at_L2 HR0_0.out x42_1 p297 q297
            obtain rfl : ad285 = ad297 := (by injection e297)
            replace hx297_0 := (HB.out.cell (World.block_lt_of_cell? w _ hx297_0)).trans hx297_0
            have HR297_0 := aM hi297_0
            have HC297_0 := aM hl297_0
            clear hi297_0 hl297_0
            replace p297 := eq_true p297
            replace q297 := eq_true q297
            try go_wp2_with (first | ((with_reducible refine gate_callee (f := 103) rfl ?_); refine gL (some 51) Tryd.func103 #[.slice A297_0 (rd_L2 l0_0 x42_1).length c297_0] ?_; (with_reducible refine (spec_l1Own.calls _ _ (rd_L2 l0_0 x42_1) t298 _ (cQ (Kd.C_below HR297_0.out HB.out)) HC297_0.out A46.out).mono ?_); rintro e w79 ⟨v299, rfl, ho0, hb⟩; refine ⟨_, rfl, ?_⟩; have _ := aM (Kd.S_elder' (sQ HO_297000) (Kd.R_base ho0) hb); have _ := aM (Kd.R_lower ho0 (below_size bq)); have _ := aM (blk_below (g := gb282) (o := .cells #[.slice (some ad285) l0_0.length c0_0] 28 (0, 0)) (qQ BK282) hb); have _ := aM (blk_below (g := gb283) (o := .cells #[.slice none 0 0] 28 (0, 0)) (qQ BK283) hb); have _ := aM (blk_below (g := gb296) (o := .cells #[u297000] 28 (0, 0)) (qQ BK296) hb); have _ := aM (below_step bq hb); clear HO_297000 BK282 BK283 BK296 HB; rename_i HO_297000 HO300 BK282 BK283 BK296 HB; (try clear hb); (try clear hb2); (try clear hk); (try clear hi); (try clear ho0)))
            have n0_ := aM (Kd.S_drew HO_297000.out)
            have n1_ := aM (Kd.R_drew HO300.out)
            have n2_ := aM (blk_drew BK282.out)
            have n3_ := aM (blk_drew BK283.out)
            have n4_ := aM (blk_drew BK296.out)
            have n5_ := aM (below_drew1 HB.out)
            clear HO_297000
            clear HO300
            clear BK282
            clear BK283
            clear BK296
            clear HB
            have HO_297000 := n0_
            have HO300 := n1_
            have BK282 := n2_
            have BK283 := n3_
            have BK296 := n4_
            have HB := n5_
            clear n0_ n1_ n2_ n3_ n4_ n5_
            obtain ⟨Ao81, co81, eo81⟩ := Kd.R_slice HO300.out
            (first | subst eo81 | (injection eo81 with f1_ f2_ f3_; have f4_ := f1_.symm; have f5_ := f3_.symm; clear f1_ f2_ f3_; subst f4_; subst f5_))
            refine start_ (n := 9) (S := fun w' => w'.cell? ⟨gb296, 0, none⟩ = some (u297000)) (ds := [8]) #[false, false, false, false, false, false, false, false, false] (by kernel_rfl) rfl rfl ((blk_cell BK296.out 0).trans rfl) (fun hHeld => ?_); refine with_tabW spec_maShrink.tab15 spec_maShrink.bits15 (fun HT_ HW_ => ?_)
            generalize w79.drew = w80 at HO_297000 HO300 BK282 BK283 BK296 HB hHeld ⊢
            refine pure_ (i := 0) (N := some 69) (v := ?_) (a' := ?_) #[true, false, false, false, false, false, false, false, false] rfl rfl (any_of HT_.out (by kernel_rfl)) (fun _ _ _ h => h) (Or.inl ⟨by rfl, ?_⟩) ?_ ?_
            rotate_left
            ·intro w'
             go_simp
             with_reducible rfl
            rotate_left
            ·simp only [Act.put, List.setIfInBounds_toArray, List.set_cons_zero, List.set_cons_succ, i64_w, i32_w]
             rfl
            refine pure_ (i := 2) (N := some 71) (v := ?_) (a' := ?_) #[true, false, true, false, false, false, false, false, false] rfl rfl (any_of HT_.out (by kernel_rfl)) (fun _ _ _ h => h) (Or.inl ⟨by rfl, ?_⟩) ?_ ?_
            rotate_left
            ·intro w'
             go_simp
             with_reducible rfl
            rotate_left
            ·simp only [Act.put, List.setIfInBounds_toArray, List.set_cons_zero, List.set_cons_succ, i64_w, i32_w]
             rfl
            refine pure_ (i := 3) (N := some 72) (v := ?_) (a' := ?_) #[true, false, true, true, false, false, false, false, false] rfl rfl (any_of HT_.out (by kernel_rfl)) (fun _ _ _ h => h) (Or.inl ⟨by rfl, ?_⟩) ?_ ?_
            rotate_left
            ·intro w'
             go_simp
             with_reducible rfl
            rotate_left
            ·simp only [Act.put, List.setIfInBounds_toArray, List.set_cons_zero, List.set_cons_succ, i64_w, i32_w]
             rfl
            refine take_ (i := 1) (N := some 70) (v := ?_) (a' := ?_) #[true, true, true, true, false, false, false, false, false] rfl rfl (take_ofW HT_.out HW_.out (by kernel_rfl)) (fun _ _ _ h => h) (Or.inl ⟨by rfl, ?_⟩) hHeld ?_ ?_
            rotate_left
            ·intro w' s0
             go_simp
             with_reducible rfl
            rotate_left
            ·simp only [Act.put, List.setIfInBounds_toArray, List.set_cons_zero, List.set_cons_succ, i64_w, i32_w]
             rfl
            refine one_ (i := 4) (N := some 73) #[true, true, true, true, true, false, false, false, false] rfl rfl (one_of HT_.out (by kernel_rfl)) (by decide) (fun K hK => ?_)
            refine goes_ Tryd.func104 (by kernel_rfl) rfl #[.slice Ao81 t298.length co81, .int .i64 t284] (by rfl) rfl rfl (by (try simp only [List.map_toArray, List.map_cons, List.map_nil]); first | done | rfl | (simp only [List.length_drop, List.length_take]; rfl)) ?_
            with_reducible refine (spec_maNarrow.calls _ _ t298 t284 t315 _ ?side1 ?side2 A77.out).mono ?_
            (case side1 => repeat (first | exact (Kd.R_reads' HO300.out).2.2 | (with_reducible refine Kd.C_alloc ?_ _) | (with_reducible refine Kd.C_drewN ?_ _) | (with_reducible refine Kd.C_drew ?_)))
            (case side2 => exact (Kd.R_reads' HO300.out).2.1)
            rintro e w82 ⟨v316, rfl, ho0, hb⟩
            refine ⟨_, rfl, ?_⟩
            have n0_ := aM (Kd.S_elder' (sQ HO_297000) (Kd.R_base ho0) hb)
            have n1_ := aM (Kd.R_elder' (rQ HO300) (Kd.R_base ho0) hb)
            have n2_ := aM (Kd.R_lower (Kd.R_new' ho0 (Kd.R_lt (rQ HO300))) (below_size bq))
            have n3_ := aM (blk_below (g := gb282) (o := .cells #[.slice (some ad285) l0_0.length c0_0] 28 (0, 0)) (qQ BK282) hb)
            have n4_ := aM (blk_below (g := gb283) (o := .cells #[.slice none 0 0] 28 (0, 0)) (qQ BK283) hb)
            have n5_ := aM (blk_below (g := gb296) (o := .cells #[u297000] 28 (0, 0)) (qQ BK296) hb)
            have n6_ := aM (below_step bq hb)
            clear HO_297000
            clear HO300
            clear BK282
            clear BK283
            clear BK296
            clear HB
            have HO_297000 := n0_
            have HO300 := n1_
            have HO317 := n2_
            have BK282 := n3_
            have BK283 := n4_
            have BK296 := n5_
            have HB := n6_
            clear n0_ n1_ n2_ n3_ n4_ n5_ n6_
            (try clear hb)
            (try clear hb2)
            (try clear hk)
            (try clear hi)
            (try clear ho0)
            obtain ⟨Ao84, co84, eo84⟩ := Kd.R_slice HO317.out
            (first | subst eo84 | (injection eo84 with f1_ f2_ f3_; have f4_ := f1_.symm; have f5_ := f3_.symm; clear f1_ f2_ f3_; subst f4_; subst f5_))
            refine hK.out _ _ ((blk_cell BK296.out 0).trans rfl) (fun hHeld => ?_)
            clear hK K
            refine norm_ (a' := ?_) ?_ ?_
            rotate_left
            ·show Act.put _ (some 73) _ = _
             simp only [Act.put, List.setIfInBounds_toArray, List.set_cons_zero, List.set_cons_succ, i64_w, i32_w]
             rfl
            refine one_ (i := 5) (N := some 74) #[true, true, true, true, true, true, false, false, false] rfl rfl (one_of HT_.out (by kernel_rfl)) (by decide) (fun K hK => ?_)
            refine value_ (w1 := ?_) (v := ?_) (by rfl) rfl ?_ ?_
            rotate_left 2
            ·go_simp
             constructor
             ·rfl
             ·rfl
            refine hK.out _ _ ((blk_cell (blk_alloc BK296.out _) 0).trans rfl) (fun hHeld => ?_)
            clear hK K
            refine norm_ (a' := ?_) ?_ ?_
            rotate_left
            ·show Act.put _ (some 74) _ = _
             simp only [Act.put, List.setIfInBounds_toArray, List.set_cons_zero, List.set_cons_succ, i64_w, i32_w]
             rfl
            refine one_ (i := 6) (N := some 75) #[true, true, true, true, true, true, true, false, false] rfl rfl (one_of HT_.out (by kernel_rfl)) (by decide) (fun K hK => ?_)
            refine Kd.S_append_step (Kd.slice 3 (Kd.int .i64)) (w0 := w) w.heap.size (by rfl) (.tmp 70) (.tmp 74) 26 22 (.slice none 0 0) 24 rfl Tryd.underlying26 info22 rfl (by decide) (by omega) u297000 x297000_1 t315 [.slice Ao84 t315.length co84] (fun k_ => some k_ ≠ (.slice Ao81 t298.length co81 : Value).ownBlock) (fun k_ => some k_ = (.slice Ao84 t315.length co84 : Value).ownBlock) rfl rfl ?aP (fun k_ hk_ => ((Kd.R_mono (ok' := fun k_ => ((fun k_ => some k_ ≠ (.slice Ao81 t298.length co81 : Value).ownBlock)) k_ ∧ some k_ ≠ (u297000 : Value).ownBlock) (Kd.R_apart' (HO317.out) (Kd.S_typed HO_297000.out) (by decide)) (fun k_ hk => ⟨hk.1.2, hk.2⟩))).1 k_ hk_.symm) ?aF ?aO ?aB ?aS ?aL ?_
            (case aP => exact Kd.M_row (Kd.R_mono (Kd.R_tight rfl (Kd.R_mono (ok' := fun k_ => ((fun k_ => some k_ ≠ (.slice Ao81 t298.length co81 : Value).ownBlock)) k_ ∧ some k_ ≠ (u297000 : Value).ownBlock) (Kd.R_apart' (HO317.out) (Kd.S_typed HO_297000.out) (by decide)) (fun k_ hk => ⟨hk.1.2, hk.2⟩))) (fun _ h_ => h_)))
            (case aB => exact bq)
            (case aF => exact (fun k_ hk => Kd.fresh' (Kd.R_lt (rQ HO300)) k_ hk))
            (case aO => exact (by (with_reducible repeat first|apply sA|apply sN|apply sD); exact Kd.S_mono HO_297000.out (fun k_ hk => ⟨hk.1.2, fun e_ => hk.2 e_⟩)))
            (case aS => exact (below_size bq))
            (case aL => have := LMc78.out; omega)
            intro v319 w83 ho hb hg hat
            rw [← Ny318.out] at ho
            have n0_ := aM (blk_grown (g := gb282) (o := .cells #[.slice (some ad285) l0_0.length c0_0] 28 (0, 0)) (qQ BK282) hg (Kd.S_ne HO_297000.out BK282.out (by decide)))
            have n1_ := aM (blk_grown (g := gb283) (o := .cells #[.slice none 0 0] 28 (0, 0)) (qQ BK283) hg (Kd.S_ne HO_297000.out BK283.out (by decide)))
            have n2_ := aM (blk_grown (g := gb296) (o := .cells #[u297000] 28 (0, 0)) (qQ BK296) hg (Kd.S_ne HO_297000.out BK296.out (by decide)))
            have n3_ := aM (Kd.R_over' (rQ HO300) (Kd.S_typed (sQ HO_297000)) (by decide) hg)
            have n4_ := aM (hb)
            have n5_ := aM (ho)
            clear BK282
            clear BK283
            clear BK296
            clear HO300
            clear HB
            clear HO_297000
            clear HO317
            have BK282 := n0_
            have BK283 := n1_
            have BK296 := n2_
            have HO300 := n3_
            have HB := n4_
            have HO320 := n5_
            clear n0_ n1_ n2_ n3_ n4_ n5_
            clear ho hb hg hat
            obtain ⟨Ao85, co85, eo85⟩ := Kd.S_slice HO320.out
            (first | subst eo85 | (injection eo85 with f1_ f2_ f3_; have f4_ := f1_.symm; have f5_ := f3_.symm; clear f1_ f2_ f3_; subst f4_; subst f5_))
            refine hK.out _ _ ((blk_cell BK296.out 0).trans rfl) (fun hHeld => ?_)
            clear hK K
            refine norm_ (a' := ?_) ?_ ?_
            rotate_left
            ·show Act.put _ (some 75) _ = _
             simp only [Act.put, List.setIfInBounds_toArray, List.set_cons_zero, List.set_cons_succ, i64_w, i32_w]
             rfl
            refine pure_ (i := 7) (N := some 76) (v := ?_) (a' := ?_) #[true, true, true, true, true, true, true, true, false] rfl rfl (any_of HT_.out (by kernel_rfl)) (fun _ _ _ h => h) (Or.inl ⟨by rfl, ?_⟩) ?_ ?_
            rotate_left
            ·intro w'
             go_simp
             with_reducible rfl
            rotate_left
            ·simp only [Act.put, List.setIfInBounds_toArray, List.set_cons_zero, List.set_cons_succ, i64_w, i32_w]
             rfl
            refine last_ (i := 8) (N := none) #[true, true, true, true, true, true, true, true, true] rfl rfl (one_of HT_.out (by kernel_rfl)) (by decide) (fun K hK => ?_)
            have hs86 : w83.cell? ⟨gb296, 0, none⟩ = some (u297000) := (blk_cell BK296.out 0).trans rfl
            have hfs86 := blk_frozen BK296.out 0
            have hns86_0 := NB282_296.out
            have hns86_1 := NB283_296.out
            have hms86_0 := NB296_282.out
            have hms86_1 := NB296_283.out
            refine skip_ (w1 := ?_) (by rfl) rfl ?_ ?_
            rotate_left
            ·go_simp
             rfl
            refine hK.out _ _ ?_
            clear hK K
            refine done_ (done_of HT_.out (by kernel_rfl)) ?_
            try go_wp2
            go_roundg k1
            case measure => have := HK1.out; omega
            case rel => exact ⟨(wrap64 (x42_1 + 1)), (y318), (.slice Ao85 y318.length co85), (by first | rfl | (simp; done) | (simp [*]; done)), H', ⟨by have := HK1.out; omega⟩, ⟨by (with_reducible repeat first|apply sA|apply sN|apply sD); exact Kd.S_mono (Kd.S_far (p := ⟨gb296, 0, none⟩) (Kd.S_types HO320.out BK296.out (by decide)) (fun _ hk => hk.2) (.slice Ao85 y318.length co85)) (fun _ hk => trivial)⟩, ⟨by (with_reducible repeat first|apply qN|apply qD|apply qA); refine blk_far ?_ NB282_296.out _; (with_reducible repeat first|apply qN|apply qD|apply qA); exact BK282.out⟩, ⟨by (with_reducible repeat first|apply qN|apply qD|apply qA); refine blk_far ?_ NB283_296.out _; (with_reducible repeat first|apply qN|apply qD|apply qA); exact BK283.out⟩, ⟨by (with_reducible repeat first|apply qN|apply qD|apply qA); refine blk_put (cs := #[u297000]) ?_ 0 _ rfl; (with_reducible repeat first|apply qN|apply qD|apply qA); exact BK296.out⟩, ⟨by exact bq⟩⟩
           ·rw [if_neg c78] at H
            exact absurd H (by simp)
        ·rw [if_neg c44] at H
         exact absurd H (by simp)
       ·rw [if_neg c43] at H
        exact absurd H (by simp)
      ·rw [if_neg c42] at H
       have c42b0 : decide (x42_1 < (l0_0.length : Int)) = false := decide_eq_false c42
       clear c42
       simp only [Option.some.injEq, Prod.mk.injEq] at H
       obtain ⟨rfl, rfl⟩ := H
       have hnb87 := NB296_282.out
       have hnc87 := NB282_296.out
       have hnb88 := NB296_283.out
       have hnc88 := NB283_296.out
       have hcz89_0 : wr.cell? ⟨gb296, 0, none⟩ = some (u297000) := (blk_cell BK296.out 0).trans rfl
       have hfz89_0 := blk_frozen BK296.out 0
       obtain ⟨Ao90, co90, eo90⟩ := Kd.S_slice HO_297000.out
       subst eo90
       have hnb91 := NB283_282.out
       have hnc91 := NB282_283.out
       have hcz92_0 : wr.cell? ⟨gb283, 0, none⟩ = some (.slice none 0 0) := (blk_cell BK283.out 0).trans rfl
       have hfz92_0 := blk_frozen BK283.out 0
       go_wp2
       refine bodyPost_ret (results_ct rfl _ _ gb283 28 #[.slice Ao90 x297000_1.length co90] (0, 0) _ rfl (by (with_reducible repeat first|apply qN|apply qD|apply qA); refine blk_put (cs := #[.slice none 0 0]) ?_ 0 _ rfl; (with_reducible repeat first|apply qN|apply qD|apply qA); exact BK283.out) Tryd.underlying28 rfl (by kernel_rfl)) rfl ?_
       exact ⟨_, by first | rfl | (simp [errW_none, errW_some] <;> rfl) | (simp [*, errW_none, errW_some] <;> rfl), by (with_reducible repeat first|apply sA|apply sN|apply sD); exact Kd.S_mono (Kd.S_far (p := ⟨gb283, 0, none⟩) (Kd.S_types HO_297000.out BK283.out (by decide)) (fun _ hk => hk.2) (.slice Ao90 x297000_1.length co90)) (fun _ hk => trivial), by exact bq⟩
  ·rw [if_neg c4] at H
   exact absurd H (by simp)
 ·rw [if_neg c3] at H
  exact absurd H (by simp)

end Go.Proofs.YtcodionjhcmfhaaDoor.Ao
