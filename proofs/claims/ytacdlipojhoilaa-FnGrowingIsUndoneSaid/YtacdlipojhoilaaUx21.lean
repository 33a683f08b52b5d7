-- Written by hook.py, a program of this session (wip/), which runs the kit's print.py with its own parts; Lean checks it.
import Derived.Test.YtacdlipojhoilaaUx0
import Derived.Test.YtacdlipojhoilaaUx7
import Derived.Test.YtacdlipojhoilaaUx8
import Derived.Test.YtacdlipojhoilaaUx16
import Derived.Test.YtacdlipojhoilaaUx20
import Derived.Test.YtacdlipojhoilaaUxXSq
namespace Go.Proofs.Ytacdlipojhoilaa.Ux
open Go.RowKit Go.Proofs.YtacdlipojhoilaaW.PrintWords Go.Proofs.YtacdlipojhoilaaW.PrintLast Go.Proofs.YtacdlipojhoilaaW.PrintMore Go.Proofs.Ytacdlipojhoilaa.Sq
attribute [local go_sem] max2_int min2_int max_two min_two max_three min_three max_four min_four   -- for this text's walks alone
set_option linter.unusedVariables false
set_option linter.unusedSimpArgs false

def spec_maShrink.l0 : Nat → Int → Int → List (List Int) → Int → Int → List (List Int) → Option ((List (List Int)) × Int)
 | 0, _, _, _, _, _, _ => none
 | k + 1, x4, x5, x40, x41, x42, x430000 => if x42 < x41 then (if 0 ≤ x42 then (if x42 < (x40.length : Int) then (if x42 = x5 then (spec_maShrink.l0 k x4 x5 x40 x41 (wrap64 (x42 + 1)) x430000) else ((spec_l1Own.f (rd_L2 x40 x42)).bind fun t431 => (if x42 < x5 then (if x5 < (wrap64 (x4 - 1)) then (if 0 ≤ x5 then (if x5 < (t431.length : Int) then (if 0 ≤ (wrap64 (x4 - 1)) then (if (wrap64 (x4 - 1)) < (t431.length : Int) then ((spec_maNarrow.f (t431.set ((wrap64 (x4 - 1)) : Int).toNat (rd t431 x5)) x5).bind fun t436 => (if x430000.length < 5864062014805 then (spec_maShrink.l0 k x4 x5 x40 x41 (wrap64 (x42 + 1)) (x430000 ++ [t436])) else (none))) else (none)) else (none)) else (none)) else (none)) else ((spec_maNarrow.f t431 x5).bind fun t442 => (if x430000.length < 5864062014805 then (spec_maShrink.l0 k x4 x5 x40 x41 (wrap64 (x42 + 1)) (x430000 ++ [t442])) else (none)))) else ((spec_maNarrow.f t431 x5).bind fun t448 => (if x430000.length < 5864062014805 then (spec_maShrink.l0 k x4 x5 x40 x41 (wrap64 (x42 + 1)) (x430000 ++ [t448])) else (none)))))) else (none)) else (none)) else (some (x430000, x5))
def spec_maShrink.f (k : Nat) (l0_0 : List (List Int)) : Option ((List (List Int)) × Int) := (spec_maTop.f k l0_0).bind fun t417 => (if 0 ≤ t417 then (if t417 < (l0_0.length : Int) then ((spec_maTotal.f k (rd_L2 l0_0 t417)).bind fun t419 => (if t419 > 1 then ((spec_maOwn.f k l0_0).bind fun t420 => (if t417 < (t420.length : Int) then (if 0 ≤ (wrap64 ((l0_0.length : Int) - 1)) then (if (wrap64 ((l0_0.length : Int) - 1)) < ((rd_L2 t420 t417).length : Int) then (some ((t420.set (t417 : Int).toNat ((rd_L2 t420 t417).set ((wrap64 ((l0_0.length : Int) - 1)) : Int).toNat (wrap64 ((rd (rd_L2 t420 t417) (wrap64 ((l0_0.length : Int) - 1))) - 1)))), t417)) else (none)) else (none)) else (none))) else (spec_maShrink.l0 k (l0_0.length : Int) t417 l0_0 (l0_0.length : Int) 0 ([] : List (List Int))))) else (none)) else (none))
theorem spec_maShrink.mono_l : ∀ k, (∀ y0 y1 y2 y3 y4 y5, LeO (spec_maShrink.l0 k y0 y1 y2 y3 y4 y5) (spec_maShrink.l0 (k + 1) y0 y1 y2 y3 y4 y5))
 | 0 => fun _ _ _ _ _ _ r h => by simp [spec_maShrink.l0] at h
 | k + 1 => by
  have ih0 := spec_maShrink.mono_l k
  ·intro y0 y1 y2 y3 y4 y5
   unfold spec_maShrink.l0
   repeat' first | with_reducible first | exact ih0 _ _ _ _ _ _ | exact spec_maOwn.mono _ _ | exact spec_maTop.mono _ _ | exact spec_maTotal.mono _ _ | exact LeO.refl _ | exact LeO.none _ | refine LeO.ite ?_ ?_ | refine LeO.bind ?_ (fun _ => ?_)
theorem spec_maShrink.mono : ∀ a0 k, LeO (spec_maShrink.f k a0) (spec_maShrink.f (k + 1) a0) := by
 intro a0 k
 have ih0 := spec_maShrink.mono_l k
 unfold spec_maShrink.f
 repeat' first | with_reducible first | exact ih0 _ _ _ _ _ _ | exact spec_maOwn.mono _ _ | exact spec_maTop.mono _ _ | exact spec_maTotal.mono _ _ | exact LeO.refl _ | exact LeO.none _ | refine LeO.ite ?_ ?_ | refine LeO.bind ?_ (fun _ => ?_)
def spec_maShrink.T15 : Bool × List (List Nat × List Nat) := (true, [([], []), ([0], [0]), ([], []), ([], []), ([2, 3], [2, 3]), ([4], [4]), ([1, 5, 4], [1, 5]), ([0, 1, 2, 3, 4, 5, 6], []), ([7, 6, 6, 0, 1, 2, 3, 4, 5, 6], [6, 7])])
def spec_maShrink.B15 : List Nat := [0, 1, 0, 0, 12, 28, 63, 127, 255]
theorem spec_maShrink.tab15 : rtab .any (opsOf Try.f109 15) = spec_maShrink.T15 := by kernel_rfl
theorem spec_maShrink.bits15 : waitsOk spec_maShrink.T15.2 spec_maShrink.B15 = true := by kernel_rfl
set_option maxHeartbeats 8000000 in
set_option maxRecDepth 100000 in
theorem spec_maShrink.calls (k : Nat) (A0_0 : Option Addr) (c0_0 : Nat) (l0_0 : List (List Int)) (r1 : List (List Int)) (r2 : Int) (w : World) (hr0_0 : Kd.C (Kd.slice 3 (Kd.int .i64)) w A0_0 l0_0.length l0_0) (hc0_0 : l0_0.length ≤ c0_0) (h : spec_maShrink.f k l0_0 = some (r1, r2)) :
  Calls Try.prog 109 #[.agg #[.slice A0_0 l0_0.length c0_0]] w fun e w' => ∃ v0_ : Value, e = .returned (.tuple #[.agg #[v0_], .int .i64 r2]) ∧ Kd.S (Kd.slice 3 (Kd.int .i64)) 24 w' w.heap.size (fun _ => True) v0_ r1 ∧ Below w.heap.size w w' := by
 have hu36 := Try.underlying36
 have HR0_0 := aM hr0_0
 have HC0_0 := aM hc0_0
 clear hr0_0 hc0_0
 have HB := aM (Below.refl w.heap.size w)
 have H : ((spec_maTop.f k l0_0).bind fun t417 => (if 0 ≤ t417 then (if t417 < (l0_0.length : Int) then ((spec_maTotal.f k (rd_L2 l0_0 t417)).bind fun t419 => (if t419 > 1 then ((spec_maOwn.f k l0_0).bind fun t420 => (if t417 < (t420.length : Int) then (if 0 ≤ (wrap64 ((l0_0.length : Int) - 1)) then (if (wrap64 ((l0_0.length : Int) - 1)) < ((rd_L2 t420 t417).length : Int) then (some ((t420.set (t417 : Int).toNat ((rd_L2 t420 t417).set ((wrap64 ((l0_0.length : Int) - 1)) : Int).toNat (wrap64 ((rd (rd_L2 t420 t417) (wrap64 ((l0_0.length : Int) - 1))) - 1)))), t417)) else (none)) else (none)) else (none))) else (spec_maShrink.l0 k (l0_0.length : Int) t417 l0_0 (l0_0.length : Int) 0 ([] : List (List Int))))) else (none)) else (none))) = some (r1, r2) := h
 clear h
 replace H := Option.bind_eq_some_iff.mp H
 obtain ⟨t417, A20, H⟩ := H
 replace H : (if 0 ≤ t417 then (if t417 < (l0_0.length : Int) then ((spec_maTotal.f k (rd_L2 l0_0 t417)).bind fun t419 => (if t419 > 1 then ((spec_maOwn.f k l0_0).bind fun t420 => (if t417 < (t420.length : Int) then (if 0 ≤ (wrap64 ((l0_0.length : Int) - 1)) then (if (wrap64 ((l0_0.length : Int) - 1)) < ((rd_L2 t420 t417).length : Int) then (some ((t420.set (t417 : Int).toNat ((rd_L2 t420 t417).set ((wrap64 ((l0_0.length : Int) - 1)) : Int).toNat (wrap64 ((rd (rd_L2 t420 t417) (wrap64 ((l0_0.length : Int) - 1))) - 1)))), t417)) else (none)) else (none)) else (none))) else (spec_maShrink.l0 k (l0_0.length : Int) t417 l0_0 (l0_0.length : Int) 0 ([] : List (List Int))))) else (none)) else (none)) = some (r1, r2) := H
 have A2 := aM A20
 clear A20
 by_cases c3 : 0 ≤ t417
 ·rw [if_pos c3] at H
  have c3b0 : decide (0 ≤ t417) = true := decide_eq_true c3
  clear c3
  by_cases c4 : t417 < (l0_0.length : Int)
  ·rw [if_pos c4] at H
   have c4b0 : decide (t417 < (l0_0.length : Int)) = true := decide_eq_true c4
   clear c4
   replace H := Option.bind_eq_some_iff.mp H
   obtain ⟨t419, A50, H⟩ := H
   replace H : (if t419 > 1 then ((spec_maOwn.f k l0_0).bind fun t420 => (if t417 < (t420.length : Int) then (if 0 ≤ (wrap64 ((l0_0.length : Int) - 1)) then (if (wrap64 ((l0_0.length : Int) - 1)) < ((rd_L2 t420 t417).length : Int) then (some ((t420.set (t417 : Int).toNat ((rd_L2 t420 t417).set ((wrap64 ((l0_0.length : Int) - 1)) : Int).toNat (wrap64 ((rd (rd_L2 t420 t417) (wrap64 ((l0_0.length : Int) - 1))) - 1)))), t417)) else (none)) else (none)) else (none))) else (spec_maShrink.l0 k (l0_0.length : Int) t417 l0_0 (l0_0.length : Int) 0 ([] : List (List Int)))) = some (r1, r2) := H
   have A5 := aM A50
   clear A50
   by_cases c6 : t419 > 1
   ·rw [if_pos c6] at H
    have c6b0 : decide (1 < t419) = true := decide_eq_true c6
    clear c6
    replace H := Option.bind_eq_some_iff.mp H
    obtain ⟨t420, A70, H⟩ := H
    replace H : (if t417 < (t420.length : Int) then (if 0 ≤ (wrap64 ((l0_0.length : Int) - 1)) then (if (wrap64 ((l0_0.length : Int) - 1)) < ((rd_L2 t420 t417).length : Int) then (some ((t420.set (t417 : Int).toNat ((rd_L2 t420 t417).set ((wrap64 ((l0_0.length : Int) - 1)) : Int).toNat (wrap64 ((rd (rd_L2 t420 t417) (wrap64 ((l0_0.length : Int) - 1))) - 1)))), t417)) else (none)) else (none)) else (none)) = some (r1, r2) := H
    have A7 := aM A70
    clear A70
    by_cases c8 : t417 < (t420.length : Int)
    ·rw [if_pos c8] at H
     have c8b0 : decide (t417 < (t420.length : Int)) = true := decide_eq_true c8
     clear c8
     obtain ⟨ji9, hji9⟩ : ∃ j_ : Int, (wrap64 ((l0_0.length : Int) - 1)) = j_ := ⟨_, rfl⟩
     replace H : (if 0 ≤ (ji9) then (if (ji9) < ((rd_L2 t420 t417).length : Int) then (some ((t420.set (t417 : Int).toNat ((rd_L2 t420 t417).set ((ji9) : Int).toNat (wrap64 ((rd (rd_L2 t420 t417) (ji9)) - 1)))), t417)) else (none)) else (none)) = some (r1, r2) := by first | (rw [hji9] at H; exact H) | (simp only [hji9] at H ⊢; exact H)
     (try rw [hji9] at A2)
     (try rw [hji9] at A5)
     (try rw [hji9] at A7)
     have hji9w : (IntKind.i64.wrap ((l0_0.length : Int) - 1)) = ji9 := (i64_w _).trans hji9
     by_cases c10 : 0 ≤ (ji9)
     ·rw [if_pos c10] at H
      have c10b0 : decide (0 ≤ (ji9)) = true := decide_eq_true c10
      clear c10
      by_cases c11 : (ji9) < ((rd_L2 t420 t417).length : Int)
      ·rw [if_pos c11] at H
       have c11b0 : decide ((ji9) < ((rd_L2 t420 t417).length : Int)) = true := decide_eq_true c11
       clear c11
       obtain ⟨y426, hy426⟩ : ∃ y_ : List Int, y_ = ((rd_L2 t420 t417).set ((ji9) : Int).toNat (wrap64 ((rd (rd_L2 t420 t417) (ji9)) - 1))) := ⟨_, rfl⟩
       replace H : (some ((t420.set (t417 : Int).toNat y426), t417)) = some (r1, r2) := by first | (rw [hy426]; with_reducible exact H) | (have H2_ := (Option.bind_some _ _).symm.trans H; rw [hy426]; with_reducible exact H2_) | (have H2_ := (Option.bind_some _ _).symm.trans H; with_reducible exact H2_) | with_reducible exact H | (rw [hy426]; exact H) | exact H
       have Ny426 := aM hy426
       clear hy426
       obtain ⟨y428, hy428⟩ : ∃ y_ : List (List Int), y_ = (t420.set (t417 : Int).toNat y426) := ⟨_, rfl⟩
       replace H : (some (y428, t417)) = some (r1, r2) := by first | (rw [hy428]; with_reducible exact H) | (have H2_ := (Option.bind_some _ _).symm.trans H; rw [hy428]; with_reducible exact H2_) | (have H2_ := (Option.bind_some _ _).symm.trans H; with_reducible exact H2_) | with_reducible exact H | (rw [hy428]; exact H) | exact H
       have Ny428 := aM hy428
       clear hy428
       simp only [Option.some.injEq, Prod.mk.injEq] at H
       obtain ⟨rfl, rfl⟩ := H
       go_enter Try.func109, Try.ntmps109
       go_wp2_with (first | ((with_reducible refine gate_dst (N := 1) rfl ?_); refine bE 1 36 #[.slice A0_0 l0_0.length c0_0] ?_; intro gb415 hg w13 hbox hb; have _ := aM (below_step bq hb); have _ := aM (hbox); have _ := aM ((gS hg)); have _ := aM ((gS hg)); clear HB; rename_i HB BK415 GW415 GE415; clear hb hbox hg) | ((with_reducible refine gate_dst (N := 2) rfl ?_); refine bE 2 36 #[.slice none 0 0] ?_; intro gb416 hg w14 hbox hb; have _ := aM (blk_below (g := gb415) (o := .cells #[.slice A0_0 l0_0.length c0_0] 36 (0, 0)) (qQ BK415) hb); have _ := aM (below_step bq hb); have _ := aM (hbox); have _ := aM ((gS hg)); have _ := aM ((gS hg)); have _ := aM ((by rw [hg]; exact Nat.ne_of_lt (blk_lt (g := gb415) (o := .cells #[.slice A0_0 l0_0.length c0_0] 36 (0, 0)) (qQ BK415)) : gb415 ≠ gb416)); have _ := aM ((by rw [hg]; exact Nat.ne_of_gt (blk_lt (g := gb415) (o := .cells #[.slice A0_0 l0_0.length c0_0] 36 (0, 0)) (qQ BK415)) : gb416 ≠ gb415)); clear BK415 HB; rename_i BK415 HB BK416 GW416 GE416 NB415_416 NB416_415; clear hb hbox hg; have hnb15 := NB415_416.out; have hnc15 := NB416_415.out; have hcz16_0 : w14.cell? ⟨gb415, 0, none⟩ = some (.slice A0_0 l0_0.length c0_0) := (blk_cell BK415.out 0).trans rfl; have hfz16_0 := blk_frozen BK415.out 0) | ((with_reducible refine gate_callee (f := 147) rfl ?_); refine gL (some 15) Try.func147 #[.agg #[.slice A0_0 l0_0.length c0_0]] ?_; (with_reducible refine (spec_maTop.calls k _ _ l0_0 t417 _ (cQ (Kd.C_below HR0_0.out HB.out)) HC0_0.out A2.out).mono ?_); rintro e w17 ⟨rfl, hb⟩; refine ⟨_, rfl, ?_⟩; have _ := aM (blk_below (g := gb415) (o := .cells #[.slice A0_0 l0_0.length c0_0] 36 (0, 0)) (qQ BK415) hb); have _ := aM (blk_below (g := gb416) (o := .cells #[.slice none 0 0] 36 (0, 0)) (qQ BK416) hb); have _ := aM (below_step bq hb); clear BK415 BK416 HB; rename_i BK415 BK416 HB; (try clear hb); (try clear hb2); (try clear hk); (try clear hi); have hcz18_0 : w17.cell? ⟨gb415, 0, none⟩ = some (.slice A0_0 l0_0.length c0_0) := (blk_cell BK415.out 0).trans rfl; have hfz18_0 := blk_frozen BK415.out 0; have p418 : 0 ≤ (t417 : Int) := odt; have q418 : t417 < (l0_0.length : Int) := odt; obtain ⟨ad418, A418_0, c418_0, e418, hx418_0, hl418_0, hi418_0⟩ := at_L2 HR0_0.out t417 p418 q418; cases e418; replace hx418_0 := (HB.out.cell (World.block_lt_of_cell? w _ hx418_0)).trans hx418_0; have HR418_0 := aM hi418_0; have HC418_0 := aM hl418_0; clear hi418_0 hl418_0; replace p418 := eq_true p418; replace q418 := eq_true q418) | ((with_reducible refine gate_callee (f := 146) rfl ?_); refine gL (some 21) Try.func146 #[.slice A418_0 (rd_L2 l0_0 t417).length c418_0] ?_; (with_reducible refine (spec_maTotal.calls k _ _ (rd_L2 l0_0 t417) t419 _ (cQ (Kd.C_below HR418_0.out HB.out)) HC418_0.out A5.out).mono ?_); rintro e w' ⟨rfl, ⟨nd, rfl⟩⟩; refine ⟨_, rfl, ?_⟩; (try (rw [drewN_self w17]; generalize hq_ : World.drewN w17 _ = w17; have _ : Aside0 (w17.heap[gb415]? = some (.cells #[.slice (some ad418) l0_0.length c0_0] 36 (0, 0))) := ⟨by rw [← hq_]; exact (qQ BK415)⟩; have _ : Aside0 (w17.heap[gb416]? = some (.cells #[.slice none 0 0] 36 (0, 0))) := ⟨by rw [← hq_]; exact (qQ BK416)⟩; have _ : Aside0 (Below w.heap.size w w17) := ⟨by rw [← hq_]; exact bq⟩; clear BK415 BK416 HB hq_; rename_i BK415 BK416 HB; have hcq_415 : World.cell? w17 ⟨gb415, 0, none⟩ = some (.slice (some ad418) l0_0.length c0_0) := (blk_cell BK415.out 0).trans rfl; have hfq_415 := blk_frozen BK415.out 0; have hcq_416 : World.cell? w17 ⟨gb416, 0, none⟩ = some (.slice none 0 0) := (blk_cell BK416.out 0).trans rfl; have hfq_416 := blk_frozen BK416.out 0))) | ((with_reducible refine gate_callee (f := 148) rfl ?_); refine gL (some 24) Try.func148 #[.agg #[.slice (some ad418) l0_0.length c0_0]] ?_; (with_reducible refine (spec_maOwn.calls k _ _ l0_0 t420 _ (cQ (Kd.C_below HR0_0.out HB.out)) HC0_0.out A7.out).mono ?_); rintro e w19 ⟨v421, rfl, ho0, hb⟩; refine ⟨_, rfl, ?_⟩; have _ := aM (Kd.S_lower ho0 (below_size bq)); have _ := aM (blk_below (g := gb415) (o := .cells #[.slice (some ad418) l0_0.length c0_0] 36 (0, 0)) (qQ BK415) hb); have _ := aM (blk_below (g := gb416) (o := .cells #[.slice none 0 0] 36 (0, 0)) (qQ BK416) hb); have _ := aM (below_step bq hb); clear BK415 BK416 HB; rename_i HO422 BK415 BK416 HB; (try clear hb); (try clear hb2); (try clear hk); (try clear hi); (try clear ho0)) | ((with_reducible refine gate_dst (N := 6) rfl ?_); refine bE 6 36 #[.slice none 0 0] ?_; intro gb423 hg w20 hbox hb; have _ := aM (Kd.S_below (sQ HO422) hb); have _ := aM (blk_below (g := gb415) (o := .cells #[.slice (some ad418) l0_0.length c0_0] 36 (0, 0)) (qQ BK415) hb); have _ := aM (blk_below (g := gb416) (o := .cells #[.slice none 0 0] 36 (0, 0)) (qQ BK416) hb); have _ := aM (below_step bq hb); have _ := aM (hbox); have _ := aM ((gS hg)); have _ := aM ((gS hg)); have _ := aM ((by rw [hg]; exact Nat.ne_of_lt (blk_lt (g := gb415) (o := .cells #[.slice (some ad418) l0_0.length c0_0] 36 (0, 0)) (qQ BK415)) : gb415 ≠ gb423)); have _ := aM ((by rw [hg]; exact Nat.ne_of_gt (blk_lt (g := gb415) (o := .cells #[.slice (some ad418) l0_0.length c0_0] 36 (0, 0)) (qQ BK415)) : gb423 ≠ gb415)); have _ := aM ((by rw [hg]; exact Nat.ne_of_lt (blk_lt (g := gb416) (o := .cells #[.slice none 0 0] 36 (0, 0)) (qQ BK416)) : gb416 ≠ gb423)); have _ := aM ((by rw [hg]; exact Nat.ne_of_gt (blk_lt (g := gb416) (o := .cells #[.slice none 0 0] 36 (0, 0)) (qQ BK416)) : gb423 ≠ gb416)); clear HO422 BK415 BK416 HB; rename_i HO422 BK415 BK416 HB BK423 GW423 GE423 NB415_423 NB423_415 NB416_423 NB423_416; clear hb hbox hg; obtain ⟨Ao21, co21, eo21⟩ := Kd.S_slice HO422.out; subst eo21; have hnb22 := NB423_415.out; have hnc22 := NB415_423.out; have hnb23 := NB423_416.out; have hnc23 := NB416_423.out; have hcz24_0 : w20.cell? ⟨gb423, 0, none⟩ = some (.slice none 0 0) := (blk_cell BK423.out 0).trans rfl; have hfz24_0 := blk_frozen BK423.out 0) | ((with_reducible refine gate_store (t := 36) (p := 6) rfl ?_); refine sE (w20.setCell ⟨gb423, 0, none⟩ (.slice Ao21 t420.length co21)) 36 6 ?_; intro w25 hw; have _ : Aside0 (Kd.S (Kd.slice 3 (Kd.int .i64)) 24 w25 w.heap.size (fun _ => True) (.slice Ao21 t420.length co21) t420) := ⟨(by rw [hw]; exact (by (with_reducible repeat first|apply sA|apply sN|apply sD); exact Kd.S_mono (Kd.S_far (p := ⟨gb423, 0, none⟩) (Kd.S_types HO422.out BK423.out (by decide)) (fun _ hk => hk.2) (.slice Ao21 t420.length co21)) (fun _ hk => trivial)))⟩; have _ : Aside0 (w25.heap[gb415]? = some (.cells #[.slice (some ad418) l0_0.length c0_0] 36 (0, 0))) := ⟨(by rw [hw]; exact (by (with_reducible repeat first|apply qN|apply qD|apply qA); refine blk_far ?_ NB415_423.out _; (with_reducible repeat first|apply qN|apply qD|apply qA); exact BK415.out))⟩; have _ : Aside0 (w25.heap[gb416]? = some (.cells #[.slice none 0 0] 36 (0, 0))) := ⟨(by rw [hw]; exact (by (with_reducible repeat first|apply qN|apply qD|apply qA); refine blk_far ?_ NB416_423.out _; (with_reducible repeat first|apply qN|apply qD|apply qA); exact BK416.out))⟩; have _ : Aside0 (w25.heap[gb423]? = some (.cells #[.slice Ao21 t420.length co21] 36 (0, 0))) := ⟨(by rw [hw]; exact (by (with_reducible repeat first|apply qN|apply qD|apply qA); refine blk_put (cs := #[.slice none 0 0]) ?_ 0 _ rfl; (with_reducible repeat first|apply qN|apply qD|apply qA); exact BK423.out))⟩; have _ : Aside0 (Below w.heap.size w w25) := ⟨(by rw [hw]; exact bq)⟩; clear hw HO422 BK415 BK416 BK423 HB; rename_i HO422 BK415 BK416 BK423 HB; have hcz26_0 : w25.cell? ⟨gb423, 0, none⟩ = some (.slice Ao21 t420.length co21) := (blk_cell BK423.out 0).trans rfl; have hfz26_0 := blk_frozen BK423.out 0; have p424 : 0 ≤ (t417 : Int) := odt; have q424 : t417 < (t420.length : Int) := odt; obtain ⟨ad424, A424_0, c424_0, e424, hx424_0, hl424_0, hi424_0⟩ := at_L2 (Kd.S_reads' HO422.out).2.2 t417 p424 q424; cases e424; obtain ⟨ce424, hce424, hMe424, hcc424⟩ := Kd.S_get HO422.out [] t417 p424 (by first | exact q424 | exact odt | (have e_ := (Kd.S_reads' HO422.out).1; omega)); obtain ⟨ve424_0, rfl, ge424_0⟩ := hMe424; have hv424_0 := hcc424 0 _ rfl; rw [Nat.add_zero, show ((Kd.slice 3 (Kd.int .i64))).sz = 1 from rfl, Nat.mul_one] at hv424_0; replace hv424_0 := Option.some.inj (hv424_0.symm.trans hx424_0); rw [hv424_0] at ge424_0; have HL424_0 := aM (show Kd.R (Kd.int .i64) 3 _ _ _ _ (rd_L2 t420 t417) from ge424_0); clear hv424_0 ge424_0; have HX424_0 := aM hx424_0; clear hcc424 hce424; have HR424_0 := aM hi424_0; have HC424_0 := aM hl424_0; clear hi424_0 hl424_0; replace p424 := eq_true p424; replace q424 := eq_true q424; have p425 : 0 ≤ ((ji9) : Int) := odt; have q425 : (ji9) < ((rd_L2 t420 t417).length : Int) := odt; obtain ⟨ad425, e425, hx425_0⟩ := Kd.at_int (cQ HR424_0.out) (ji9) p425 q425; cases e425; replace p425 := eq_true p425; replace q425 := eq_true q425; have p12 : 0 ≤ ((ji9) : Int) := odt; have q12 : ((ji9) : Int) < (((rd_L2 t420 t417).length : Int) : Int) := odt; obtain ⟨go12, co12, eo12, gb12, gl12, cl12, HG12⟩ := Kd.R_form HL424_0.out (by omega); (first | cases eo12 | (injection eo12 with ea_ en_ ec_; (first | subst ea_ | (injection ea_ with ea_; subst ea_)); subst ec_; clear en_)); have GB12 := aM gb12; have GG12 := aM HG12; clear gb12 gl12 HG12; (first | simp only [add_plain] at hx425_0 | skip); obtain ⟨hx12_0, hf12_0⟩ := Kd.R_celln 0 HL424_0.out ((ji9) : Int) p12 q12; replace p12 := eq_true p12; replace q12 := eq_true q12; have hq27 : (t417 : Int) < (t420.length : Int) := (by have h_ : (t417 : Int) < ((t420.length : Int) : Int) := odt; first | exact h_ | (have e_ := (Kd.S_reads' HO422.out).1; omega) | simpa only [List.length_set, List.length_set] using h_); obtain ⟨oki27, ce27, hcl27, hM27, hcc27, hok27, hbk27⟩ := Kd.S_borrow HO422.out [] (t417 : Int) (odt) hq27; obtain ⟨ve27_0, rfl, ge27_0⟩ := hM27; have hv27 := hcc27 0 _ rfl; rw [Nat.add_zero, show ((Kd.slice 3 (Kd.int .i64))).sz = 1 from rfl, Nat.mul_one] at hv27; replace hv27 := Option.some.inj (hv27.symm.trans HX424_0.out); subst hv27; clear hcc27 hcl27; replace ge27_0 := (show Kd.R (Kd.int .i64) 3 _ _ _ _ (rd_L2 t420 t417) from ge27_0); have HP27 := Kd.R_putg ge27_0 ((ji9) : Int) (wrap64 ((rd (rd_L2 t420 t417) (ji9)) - 1))) | ((with_reducible refine gate_store (t := 3) (p := 35) rfl ?_); refine sE (w25.setCell ⟨go12, ((ji9) : Int).toNat, none⟩ (.int .i64 (wrap64 ((rd (rd_L2 t420 t417) (ji9)) - 1)))) 3 35 ?_; intro w28 hw; have hg : w25.grownBy w28 (some go12) := (by rw [hw]; exact HP27.2); have hz_ : Kd.R (Kd.int .i64) 3 w28 w.heap.size oki27 (.slice (some ⟨go12, 0, none⟩) (rd_L2 t420 t417).length c424_0) y426 := (by rw [hw, Ny426.out]; exact HP27.1); have hp_ : Kd.S (Kd.slice 3 (Kd.int .i64)) 24 w28 w.heap.size (fun _ => True) (.slice (some ad424) t420.length co21) y428 := (by rw [Ny428.out]; exact hbk27 hg (fun k_ e_ => by injection e_ with e_; subst e_; exact ge27_0.1 _ rfl) (Kd.M_row hz_)); have hm_ := Kd.R_mono hz_ hok27; clear HP27 hbk27; have _ := aM (blk_grown (g := gb415) (o := .cells #[.slice (some ad418) l0_0.length c0_0] 36 (0, 0)) (qQ BK415) hg (Kd.R_ne HL424_0.out BK415.out (by decide))); have _ := aM (blk_grown (g := gb416) (o := .cells #[.slice none 0 0] 36 (0, 0)) (qQ BK416) hg (Kd.R_ne HL424_0.out BK416.out (by decide))); have _ := aM (hp_); have _ := aM (blk_grown (g := gb423) (o := .cells #[.slice (some ad424) t420.length co21] 36 (0, 0)) (qQ BK423) hg (Kd.R_ne HL424_0.out BK423.out (by decide))); have _ := aM ((by rw [hw]; exact below_set (HB.out) GB12.out : Below w.heap.size w w28)); have _ := aM (hm_); have _ := aM ((Kd.R_reads' hm_).2.1); clear BK415 BK416 HO422 BK423 HB HL424_0; rename_i BK415 BK416 HO422 BK423 HB HL454 HC427; clear hg hw hp_ hz_ hm_ hok27; have hcz29_0 : w28.cell? ⟨gb423, 0, none⟩ = some (.slice (some ad424) t420.length co21) := (blk_cell BK423.out 0).trans rfl; have hfz29_0 := blk_frozen BK423.out 0; have hcz30_0 : w28.cell? ⟨gb416, 0, none⟩ = some (.slice none 0 0) := (blk_cell BK416.out 0).trans rfl; have hfz30_0 := blk_frozen BK416.out 0))
       refine bodyPost_ret (results_ct rfl _ _ gb416 36 #[.slice (some ad424) t420.length co21] (0, 0) _ rfl (by (with_reducible repeat first|apply qN|apply qD|apply qA); refine blk_put (cs := #[.slice none 0 0]) ?_ 0 _ rfl; (with_reducible repeat first|apply qN|apply qD|apply qA); exact BK416.out) Try.underlying36 rfl (by kernel_rfl)) rfl ?_
       exact ⟨_, by first | rfl | (simp [errW_none, errW_some] <;> rfl) | (simp only [← hji9]; first | rfl | (simp [errW_none, errW_some] <;> rfl)) | (simp [*, errW_none, errW_some] <;> rfl), by (with_reducible repeat first|apply sA|apply sN|apply sD); exact Kd.S_mono (Kd.S_far (p := ⟨gb416, 0, none⟩) (Kd.S_types HO422.out BK416.out (by decide)) (fun _ hk => hk.2) (.slice (some ad424) t420.length co21)) (fun _ hk => trivial), by exact bq⟩
      ·rw [if_neg c11] at H
       exact absurd H (by simp)
     ·rw [if_neg c10] at H
      exact absurd H (by simp)
    ·rw [if_neg c8] at H
     exact absurd H (by simp)
   ·rw [if_neg c6] at H
    have c6b0 : decide (1 < t419) = false := decide_eq_false c6
    clear c6
    have H' := aM H
    clear H
    go_enter Try.func109, Try.ntmps109
    go_wp2_with (first | ((with_reducible refine gate_dst (N := 1) rfl ?_); refine bE 1 36 #[.slice A0_0 l0_0.length c0_0] ?_; intro gb415 hg w31 hbox hb; have _ := aM (below_step bq hb); have _ := aM (hbox); have _ := aM ((gS hg)); have _ := aM ((gS hg)); clear HB; rename_i HB BK415 GW415 GE415; clear hb hbox hg) | ((with_reducible refine gate_dst (N := 2) rfl ?_); refine bE 2 36 #[.slice none 0 0] ?_; intro gb416 hg w32 hbox hb; have _ := aM (blk_below (g := gb415) (o := .cells #[.slice A0_0 l0_0.length c0_0] 36 (0, 0)) (qQ BK415) hb); have _ := aM (below_step bq hb); have _ := aM (hbox); have _ := aM ((gS hg)); have _ := aM ((gS hg)); have _ := aM ((by rw [hg]; exact Nat.ne_of_lt (blk_lt (g := gb415) (o := .cells #[.slice A0_0 l0_0.length c0_0] 36 (0, 0)) (qQ BK415)) : gb415 ≠ gb416)); have _ := aM ((by rw [hg]; exact Nat.ne_of_gt (blk_lt (g := gb415) (o := .cells #[.slice A0_0 l0_0.length c0_0] 36 (0, 0)) (qQ BK415)) : gb416 ≠ gb415)); clear BK415 HB; rename_i BK415 HB BK416 GW416 GE416 NB415_416 NB416_415; clear hb hbox hg; have hnb33 := NB415_416.out; have hnc33 := NB416_415.out; have hcz34_0 : w32.cell? ⟨gb415, 0, none⟩ = some (.slice A0_0 l0_0.length c0_0) := (blk_cell BK415.out 0).trans rfl; have hfz34_0 := blk_frozen BK415.out 0) | ((with_reducible refine gate_callee (f := 147) rfl ?_); refine gL (some 15) Try.func147 #[.agg #[.slice A0_0 l0_0.length c0_0]] ?_; (with_reducible refine (spec_maTop.calls k _ _ l0_0 t417 _ (cQ (Kd.C_below HR0_0.out HB.out)) HC0_0.out A2.out).mono ?_); rintro e w35 ⟨rfl, hb⟩; refine ⟨_, rfl, ?_⟩; have _ := aM (blk_below (g := gb415) (o := .cells #[.slice A0_0 l0_0.length c0_0] 36 (0, 0)) (qQ BK415) hb); have _ := aM (blk_below (g := gb416) (o := .cells #[.slice none 0 0] 36 (0, 0)) (qQ BK416) hb); have _ := aM (below_step bq hb); clear BK415 BK416 HB; rename_i BK415 BK416 HB; (try clear hb); (try clear hb2); (try clear hk); (try clear hi); have hcz36_0 : w35.cell? ⟨gb415, 0, none⟩ = some (.slice A0_0 l0_0.length c0_0) := (blk_cell BK415.out 0).trans rfl; have hfz36_0 := blk_frozen BK415.out 0; have p418 : 0 ≤ (t417 : Int) := odt; have q418 : t417 < (l0_0.length : Int) := odt; obtain ⟨ad418, A418_0, c418_0, e418, hx418_0, hl418_0, hi418_0⟩ := at_L2 HR0_0.out t417 p418 q418; cases e418; replace hx418_0 := (HB.out.cell (World.block_lt_of_cell? w _ hx418_0)).trans hx418_0; have HR418_0 := aM hi418_0; have HC418_0 := aM hl418_0; clear hi418_0 hl418_0; replace p418 := eq_true p418; replace q418 := eq_true q418) | ((with_reducible refine gate_callee (f := 146) rfl ?_); refine gL (some 21) Try.func146 #[.slice A418_0 (rd_L2 l0_0 t417).length c418_0] ?_; (with_reducible refine (spec_maTotal.calls k _ _ (rd_L2 l0_0 t417) t419 _ (cQ (Kd.C_below HR418_0.out HB.out)) HC418_0.out A5.out).mono ?_); rintro e w' ⟨rfl, ⟨nd, rfl⟩⟩; refine ⟨_, rfl, ?_⟩; (try (rw [drewN_self w35]; generalize hq_ : World.drewN w35 _ = w35; have _ : Aside0 (w35.heap[gb415]? = some (.cells #[.slice (some ad418) l0_0.length c0_0] 36 (0, 0))) := ⟨by rw [← hq_]; exact (qQ BK415)⟩; have _ : Aside0 (w35.heap[gb416]? = some (.cells #[.slice none 0 0] 36 (0, 0))) := ⟨by rw [← hq_]; exact (qQ BK416)⟩; have _ : Aside0 (Below w.heap.size w w35) := ⟨by rw [← hq_]; exact bq⟩; clear BK415 BK416 HB hq_; rename_i BK415 BK416 HB; have hcq_415 : World.cell? w35 ⟨gb415, 0, none⟩ = some (.slice (some ad418) l0_0.length c0_0) := (blk_cell BK415.out 0).trans rfl; have hfq_415 := blk_frozen BK415.out 0; have hcq_416 : World.cell? w35 ⟨gb416, 0, none⟩ = some (.slice none 0 0) := (blk_cell BK416.out 0).trans rfl; have hfq_416 := blk_frozen BK416.out 0))) | ((with_reducible refine gate_dst (N := 7) rfl ?_); refine bE 7 36 #[.slice none 0 0] ?_; intro gb429 hg w37 hbox hb; have _ := aM (blk_below (g := gb415) (o := .cells #[.slice (some ad418) l0_0.length c0_0] 36 (0, 0)) (qQ BK415) hb); have _ := aM (blk_below (g := gb416) (o := .cells #[.slice none 0 0] 36 (0, 0)) (qQ BK416) hb); have _ := aM (below_step bq hb); have _ := aM (hbox); have _ := aM ((gS hg)); have _ := aM ((gS hg)); have _ := aM ((by rw [hg]; exact Nat.ne_of_lt (blk_lt (g := gb415) (o := .cells #[.slice (some ad418) l0_0.length c0_0] 36 (0, 0)) (qQ BK415)) : gb415 ≠ gb429)); have _ := aM ((by rw [hg]; exact Nat.ne_of_gt (blk_lt (g := gb415) (o := .cells #[.slice (some ad418) l0_0.length c0_0] 36 (0, 0)) (qQ BK415)) : gb429 ≠ gb415)); have _ := aM ((by rw [hg]; exact Nat.ne_of_lt (blk_lt (g := gb416) (o := .cells #[.slice none 0 0] 36 (0, 0)) (qQ BK416)) : gb416 ≠ gb429)); have _ := aM ((by rw [hg]; exact Nat.ne_of_gt (blk_lt (g := gb416) (o := .cells #[.slice none 0 0] 36 (0, 0)) (qQ BK416)) : gb429 ≠ gb416)); clear BK415 BK416 HB; rename_i BK415 BK416 HB BK429 GW429 GE429 NB415_429 NB429_415 NB416_429 NB429_416; clear hb hbox hg; have hnb38 := NB429_415.out; have hnc38 := NB415_429.out; have hnb39 := NB429_416.out; have hnc39 := NB416_429.out; have hcz40_0 : w37.cell? ⟨gb429, 0, none⟩ = some (.slice none 0 0) := (blk_cell BK429.out 0).trans rfl; have hfz40_0 := blk_frozen BK429.out 0; have hcz41_0 : w37.cell? ⟨gb415, 0, none⟩ = some (.slice (some ad418) l0_0.length c0_0) := (blk_cell BK415.out 0).trans rfl; have hfz41_0 := blk_frozen BK415.out 0))
    go_loopg [42] k (fun kq v42 w' => ∃ (x42_1 : Int) (x430000_1 : List (List Int)) (u430000 : Value), v42 = .int .i64 x42_1 ∧ Aside0 (spec_maShrink.l0 kq (l0_0.length : Int) t417 l0_0 (l0_0.length : Int) x42_1 x430000_1 = some (r1, r2)) ∧ Aside0 (kq ≤ k) ∧ Aside0 (Kd.S (Kd.slice 3 (Kd.int .i64)) 24 w' w.heap.size (fun _ => True) u430000 x430000_1) ∧ Aside0 (w'.heap[gb415]? = some (.cells #[(.slice (some ad418) l0_0.length c0_0)] 36 (0, 0))) ∧ Aside0 (w'.heap[gb416]? = some (.cells #[(.slice none 0 0)] 36 (0, 0))) ∧ Aside0 (w'.heap[gb429]? = some (.cells #[u430000] 36 (0, 0))) ∧ Aside0 (Below w.heap.size w w'))
    case atStart => exact ⟨(0), (([] : List (List Int))), (.slice none 0 0), (by first | rfl | (simp; done) | (simp [*]; done)), H', ⟨Nat.le_refl _⟩, ⟨by first | exact Kd.S_nil _ _ _ _ _ | exact Kd.N_nil _ _ _ _ _ | exact Kd.V_nil _ _ _ _ _ | exact Kd.Q_nil _ _ _ _ _ | exact Kd.R_nil _ _ _ _ _⟩, ⟨by (with_reducible repeat first|apply qN|apply qD|apply qA); refine blk_far ?_ NB415_429.out _; (with_reducible repeat first|apply qN|apply qD|apply qA); exact BK415.out⟩, ⟨by (with_reducible repeat first|apply qN|apply qD|apply qA); refine blk_far ?_ NB416_429.out _; (with_reducible repeat first|apply qN|apply qD|apply qA); exact BK416.out⟩, ⟨by (with_reducible repeat first|apply qN|apply qD|apply qA); refine blk_put (cs := #[.slice none 0 0]) ?_ 0 _ rfl; (with_reducible repeat first|apply qN|apply qD|apply qA); exact BK429.out⟩, ⟨by exact bq⟩⟩
    case round =>
     clear H'
     try clear c1
     try clear p1
     try clear q1
     try clear hx1
     try clear hf1
     try clear c2
     try clear p2
     try clear q2
     try clear c3
     try clear c3b0
     try clear c4
     try clear c4b0
     try clear p4
     try clear q4
     try clear hx4
     try clear c6
     try clear c6b0
     try clear p6
     try clear c8
     try clear c8b0
     try clear c10
     try clear c10b0
     try clear c11
     try clear c11b0
     try clear p12
     try clear q12
     try clear hx12
     try clear hf12
     try clear c14
     try clear c15
     try clear c22
     try clear c23
     try clear c27
     try clear q27
     try clear c33
     try clear c38
     try clear c39
     try clear c41
     try clear p41
     try clear q41
     try clear hx41
     try clear hcz16_0
     try clear hcz18_0
     try clear hcz24_0
     try clear hcz26_0
     try clear hcz29_0
     try clear hcz30_0
     try clear hcz34_0
     try clear hcz36_0
     try clear hcz40_0
     try clear hcz41_0
     try clear hfz16_0
     try clear hfz18_0
     try clear hfz24_0
     try clear hfz26_0
     try clear hfz29_0
     try clear hfz30_0
     try clear hfz34_0
     try clear hfz36_0
     try clear hfz40_0
     try clear hfz41_0
     try clear hx12_0
     try clear hx418_0
     try clear hx424_0
     try clear hx425_0
     try clear p12
     try clear p418
     try clear p424
     try clear p425
     try clear q12
     try clear q418
     try clear q424
     try clear q425
     obtain ⟨x42_1, x430000_1, u430000, rfl, HA, HK1, HO_430000, BK415, BK416, BK429, HB⟩ := hrel
     cases gk with
     | zero => exact absurd HA.out (by simp [spec_maShrink.l0])
     | succ k1 =>
      have H := HA.out
      clear HA
      simp only [spec_maShrink.l0] at H
      by_cases c42 : x42_1 < (l0_0.length : Int)
      ·rw [if_pos c42] at H
       have c42b0 : decide (x42_1 < (l0_0.length : Int)) = true := decide_eq_true c42
       clear c42
       by_cases c43 : 0 ≤ x42_1
       ·rw [if_pos c43] at H
        have c43b0 : decide (0 ≤ x42_1) = true := decide_eq_true c43
        clear c43
        by_cases c44 : x42_1 < (l0_0.length : Int)
        ·rw [if_pos c44] at H
         have c44b0 : decide (x42_1 < (l0_0.length : Int)) = true := decide_eq_true c44
         clear c44
         by_cases c45 : x42_1 = t417
         ·rw [if_pos c45] at H
          have c45b0 : (x42_1 == t417) = true := beq_iff_eq.mpr c45
          have c45b1 : (x42_1 != t417) = false := bne_eq_false_iff_eq.mpr c45
          clear c45
          have H' := aM H
          clear H
          have p430 : 0 ≤ (x42_1 : Int) := odt
          have q430 : x42_1 < (l0_0.length : Int) := odt
          obtain ⟨ad430, A430_0, c430_0, e430, hx430_0, hl430_0, hi430_0⟩ := at_L2 HR0_0.out x42_1 p430 q430
          obtain rfl : ad418 = ad430 := (by injection e430)
          replace hx430_0 := (HB.out.cell (World.block_lt_of_cell? w _ hx430_0)).trans hx430_0
          have HR430_0 := aM hi430_0
          have HC430_0 := aM hl430_0
          clear hi430_0 hl430_0
          replace p430 := eq_true p430
          replace q430 := eq_true q430
          go_wp2
          go_roundg k1
          case measure => have := HK1.out; omega
          case rel => exact ⟨(wrap64 (x42_1 + 1)), (x430000_1), (u430000), (by first | rfl | (simp; done) | (simp [*]; done)), H', ⟨by have := HK1.out; omega⟩, ⟨by (with_reducible repeat first|apply sA|apply sN|apply sD); exact HO_430000.out⟩, ⟨by (with_reducible repeat first|apply qN|apply qD|apply qA); exact BK415.out⟩, ⟨by (with_reducible repeat first|apply qN|apply qD|apply qA); exact BK416.out⟩, ⟨by (with_reducible repeat first|apply qN|apply qD|apply qA); exact BK429.out⟩, ⟨by exact bq⟩⟩
         ·rw [if_neg c45] at H
          have c45b0 : (x42_1 == t417) = false := beq_eq_false_iff_ne.mpr c45
          have c45b1 : (x42_1 != t417) = true := bne_iff_ne.mpr c45
          replace H := Option.bind_eq_some_iff.mp H
          obtain ⟨t431, A460, H⟩ := H
          replace H : (if x42_1 < t417 then (if t417 < (wrap64 ((l0_0.length : Int) - 1)) then (if 0 ≤ t417 then (if t417 < (t431.length : Int) then (if 0 ≤ (wrap64 ((l0_0.length : Int) - 1)) then (if (wrap64 ((l0_0.length : Int) - 1)) < (t431.length : Int) then ((spec_maNarrow.f (t431.set ((wrap64 ((l0_0.length : Int) - 1)) : Int).toNat (rd t431 t417)) t417).bind fun t436 => (if x430000_1.length < 5864062014805 then (spec_maShrink.l0 k1 (l0_0.length : Int) t417 l0_0 (l0_0.length : Int) (wrap64 (x42_1 + 1)) (x430000_1 ++ [t436])) else (none))) else (none)) else (none)) else (none)) else (none)) else ((spec_maNarrow.f t431 t417).bind fun t442 => (if x430000_1.length < 5864062014805 then (spec_maShrink.l0 k1 (l0_0.length : Int) t417 l0_0 (l0_0.length : Int) (wrap64 (x42_1 + 1)) (x430000_1 ++ [t442])) else (none)))) else ((spec_maNarrow.f t431 t417).bind fun t448 => (if x430000_1.length < 5864062014805 then (spec_maShrink.l0 k1 (l0_0.length : Int) t417 l0_0 (l0_0.length : Int) (wrap64 (x42_1 + 1)) (x430000_1 ++ [t448])) else (none)))) = some (r1, r2) := H
          have A46 := aM A460
          clear A460
          by_cases c47 : x42_1 < t417
          ·rw [if_pos c47] at H
           have c47b0 : decide (x42_1 < t417) = true := decide_eq_true c47
           clear c47
           by_cases c48 : t417 < (wrap64 ((l0_0.length : Int) - 1))
           ·rw [if_pos c48] at H
            have c48b0 : decide (t417 < (wrap64 ((l0_0.length : Int) - 1))) = true := decide_eq_true c48
            clear c48
            by_cases c49 : 0 ≤ t417
            ·rw [if_pos c49] at H
             have c49b0 : decide (0 ≤ t417) = true := decide_eq_true c49
             clear c49
             by_cases c50 : t417 < (t431.length : Int)
             ·rw [if_pos c50] at H
              have c50b0 : decide (t417 < (t431.length : Int)) = true := decide_eq_true c50
              clear c50
              obtain ⟨ji51, hji51⟩ : ∃ j_ : Int, (wrap64 ((l0_0.length : Int) - 1)) = j_ := ⟨_, rfl⟩
              replace H : (if 0 ≤ (ji51) then (if (ji51) < (t431.length : Int) then ((spec_maNarrow.f (t431.set ((ji51) : Int).toNat (rd t431 t417)) t417).bind fun t436 => (if x430000_1.length < 5864062014805 then (spec_maShrink.l0 k1 (l0_0.length : Int) t417 l0_0 (l0_0.length : Int) (wrap64 (x42_1 + 1)) (x430000_1 ++ [t436])) else (none))) else (none)) else (none)) = some (r1, r2) := by first | (rw [hji51] at H; exact H) | (simp only [hji51] at H ⊢; exact H)
              (try rw [hji51] at c48b0)
              (try rw [hji51] at A46)
              have hji51w : (IntKind.i64.wrap ((l0_0.length : Int) - 1)) = ji51 := (i64_w _).trans hji51
              by_cases c52 : 0 ≤ (ji51)
              ·rw [if_pos c52] at H
               have c52b0 : decide (0 ≤ (ji51)) = true := decide_eq_true c52
               clear c52
               by_cases c53 : (ji51) < (t431.length : Int)
               ·rw [if_pos c53] at H
                have c53b0 : decide ((ji51) < (t431.length : Int)) = true := decide_eq_true c53
                clear c53
                obtain ⟨y435, hy435⟩ : ∃ y_ : List Int, y_ = (t431.set ((ji51) : Int).toNat (rd t431 t417)) := ⟨_, rfl⟩
                replace H : ((spec_maNarrow.f y435 t417).bind fun t436 => (if x430000_1.length < 5864062014805 then (spec_maShrink.l0 k1 (l0_0.length : Int) t417 l0_0 (l0_0.length : Int) (wrap64 (x42_1 + 1)) (x430000_1 ++ [t436])) else (none))) = some (r1, r2) := by first | (rw [hy435]; with_reducible exact H) | (have H2_ := (Option.bind_some _ _).symm.trans H; rw [hy435]; with_reducible exact H2_) | (have H2_ := (Option.bind_some _ _).symm.trans H; with_reducible exact H2_) | with_reducible exact H | (rw [hy435]; exact H) | exact H
                have Ny435 := aM hy435
                clear hy435
                replace H := Option.bind_eq_some_iff.mp H
                obtain ⟨t436, A550, H⟩ := H
                replace H : (if x430000_1.length < 5864062014805 then (spec_maShrink.l0 k1 (l0_0.length : Int) t417 l0_0 (l0_0.length : Int) (wrap64 (x42_1 + 1)) (x430000_1 ++ [t436])) else (none)) = some (r1, r2) := H
                have A55 := aM A550
                clear A550
                by_cases c56 : x430000_1.length < 5864062014805
                ·rw [if_pos c56] at H
                 have LMc56 := aM c56
                 clear c56
                 obtain ⟨y439, hy439⟩ : ∃ y_ : List (List Int), y_ = (x430000_1 ++ [t436]) := ⟨_, rfl⟩
                 replace H : (spec_maShrink.l0 k1 (l0_0.length : Int) t417 l0_0 (l0_0.length : Int) (wrap64 (x42_1 + 1)) y439) = some (r1, r2) := by first | (rw [hy439]; with_reducible exact H) | (have H2_ := (Option.bind_some _ _).symm.trans H; rw [hy439]; with_reducible exact H2_) | (have H2_ := (Option.bind_some _ _).symm.trans H; with_reducible exact H2_) | with_reducible exact H | (rw [hy439]; exact H) | exact H
                 have Ny439 := aM hy439
                 clear hy439
                 have H' := aM H
                 clear H
                 have p430 : 0 ≤ (x42_1 : Int) := odt
                 have q430 : x42_1 < (l0_0.length : Int) := odt
                 obtain ⟨ad430, A430_0, c430_0, e430, hx430_0, hl430_0, hi430_0⟩ := at_L2 HR0_0.out x42_1 p430 q430
                 obtain rfl : ad418 = ad430 := (by injection e430)
                 replace hx430_0 := (HB.out.cell (World.block_lt_of_cell? w _ hx430_0)).trans hx430_0
                 have HR430_0 := aM hi430_0
                 have HC430_0 := aM hl430_0
                 clear hi430_0 hl430_0
                 replace p430 := eq_true p430
                 replace q430 := eq_true q430
                 try go_wp2_with (first | ((with_reducible refine gate_callee (f := 126) rfl ?_); refine gL (some 51) Try.func126 #[.slice A430_0 (rd_L2 l0_0 x42_1).length c430_0] ?_; (with_reducible refine (spec_l1Own.calls _ _ (rd_L2 l0_0 x42_1) t431 _ (cQ (Kd.C_below HR430_0.out HB.out)) HC430_0.out A46.out).mono ?_); rintro e w57 ⟨v432, rfl, ho0, hb⟩; refine ⟨_, rfl, ?_⟩; have _ := aM (Kd.S_elder' (sQ HO_430000) (Kd.R_base ho0) hb); have _ := aM (Kd.R_lower ho0 (below_size bq)); have _ := aM (blk_below (g := gb415) (o := .cells #[.slice (some ad418) l0_0.length c0_0] 36 (0, 0)) (qQ BK415) hb); have _ := aM (blk_below (g := gb416) (o := .cells #[.slice none 0 0] 36 (0, 0)) (qQ BK416) hb); have _ := aM (blk_below (g := gb429) (o := .cells #[u430000] 36 (0, 0)) (qQ BK429) hb); have _ := aM (below_step bq hb); clear HO_430000 BK415 BK416 BK429 HB; rename_i HO_430000 HO433 BK415 BK416 BK429 HB; (try clear hb); (try clear hb2); (try clear hk); (try clear hi); (try clear ho0); obtain ⟨Ao58, co58, eo58⟩ := Kd.R_slice HO433.out; subst eo58; have p434 : 0 ≤ (t417 : Int) := odt; have q434 : t417 < (t431.length : Int) := odt; obtain ⟨ad434, e434, hx434_0⟩ := Kd.at_int (Kd.R_reads' HO433.out).2.2 t417 p434 q434; cases e434; replace p434 := eq_true p434; replace q434 := eq_true q434; have p54 : 0 ≤ ((ji51) : Int) := odt; have q54 : ((ji51) : Int) < ((t431.length : Int) : Int) := odt; obtain ⟨go54, co54, eo54, gb54, gl54, cl54, HG54⟩ := Kd.R_form HO433.out (by omega); (first | cases eo54 | (injection eo54 with ea_ en_ ec_; (first | subst ea_ | (injection ea_ with ea_; subst ea_)); subst ec_; clear en_)); have GB54 := aM gb54; have GG54 := aM HG54; clear gb54 gl54 HG54; (first | simp only [add_plain] at hx434_0 | skip); obtain ⟨hx54_0, hf54_0⟩ := Kd.R_celln 0 HO433.out ((ji51) : Int) p54 q54; replace p54 := eq_true p54; replace q54 := eq_true q54; obtain ⟨hy59_, hz59_⟩ := Kd.R_celln 0 HO433.out ((ji51) : Int) (odt) (odt); have HP59 := Kd.R_putg HO433.out ((ji51) : Int) (rd t431 t417)) | ((with_reducible refine gate_store (t := 3) (p := 68) rfl ?_); refine sE (w57.setCell ⟨go54, ((ji51) : Int).toNat, none⟩ (.int .i64 (rd t431 t417))) 3 68 ?_; intro w60 hw; have hg : w57.grownBy w60 (some go54) := (by rw [hw]; exact HP59.2); have hp_ : Kd.R (Kd.int .i64) 3 w60 w.heap.size (fun _ => True) (.slice (some ⟨go54, 0, none⟩) t431.length co58) y435 := (by rw [hw, Ny435.out]; exact HP59.1); clear HP59; have _ := aM (Kd.S_after (v := (.slice (some ⟨go54, 0, none⟩) t431.length co58)) (v1 := (.slice (some ⟨go54, 0, none⟩) t431.length co58)) (ok := (fun _ => True)) (sQ HO_430000) hg (.inl rfl)); have _ := aM (blk_grown (g := gb415) (o := .cells #[.slice (some ad418) l0_0.length c0_0] 36 (0, 0)) (qQ BK415) hg (Kd.R_ne HO433.out BK415.out (by decide))); have _ := aM (blk_grown (g := gb416) (o := .cells #[.slice none 0 0] 36 (0, 0)) (qQ BK416) hg (Kd.R_ne HO433.out BK416.out (by decide))); have _ := aM (blk_grown (g := gb429) (o := .cells #[u430000] 36 (0, 0)) (qQ BK429) hg (Kd.R_ne HO433.out BK429.out (by decide))); have _ := aM (hp_); have _ := aM ((by rw [hw]; exact below_set (HB.out) GB54.out : Below w.heap.size w w60)); clear HO_430000 BK415 BK416 BK429 HO433 HB; rename_i HO_430000 BK415 BK416 BK429 HO433 HB; clear hg hw hp_))
                 have n0_ := aM (Kd.S_drew HO_430000.out)
                 have n1_ := aM (Kd.R_drew HO433.out)
                 have n2_ := aM (blk_drew BK415.out)
                 have n3_ := aM (blk_drew BK416.out)
                 have n4_ := aM (blk_drew BK429.out)
                 have n5_ := aM (below_drew1 HB.out)
                 clear HO_430000
                 clear HO433
                 clear BK415
                 clear BK416
                 clear BK429
                 clear HB
                 have HO_430000 := n0_
                 have HO433 := n1_
                 have BK415 := n2_
                 have BK416 := n3_
                 have BK429 := n4_
                 have HB := n5_
                 clear n0_ n1_ n2_ n3_ n4_ n5_
                 refine start_ (n := 9) (S := fun w' => w'.cell? ⟨gb429, 0, none⟩ = some (u430000)) (ds := [8]) #[false, false, false, false, false, false, false, false, false] (by kernel_rfl) rfl rfl ((blk_cell BK429.out 0).trans rfl) (fun hHeld => ?_); refine with_tabW spec_maShrink.tab15 spec_maShrink.bits15 (fun HT_ HW_ => ?_)
                 generalize w60.drew = w61 at HO_430000 HO433 BK415 BK416 BK429 HB hHeld ⊢
                 refine pure_ (i := 0) (N := some 69) (v := ?_) (a' := ?_) #[true, false, false, false, false, false, false, false, false] rfl rfl (any_of HT_.out (by kernel_rfl)) (fun _ _ _ h => h) (Or.inl ⟨by rfl, ?_⟩) ?_ ?_
                 rotate_left
                 ·intro w'
                  go_simp
                  with_reducible rfl
                 rotate_left
                 ·simp only [Act.put, List.setIfInBounds_toArray, List.set_cons_zero, List.set_cons_succ, i64_w, i32_w]
                  rfl
                 refine pure_ (i := 2) (N := some 71) (v := ?_) (a' := ?_) #[true, false, true, false, false, false, false, false, false] rfl rfl (any_of HT_.out (by kernel_rfl)) (fun _ _ _ h => h) (Or.inl ⟨by rfl, ?_⟩) ?_ ?_
                 rotate_left
                 ·intro w'
                  go_simp
                  with_reducible rfl
                 rotate_left
                 ·simp only [Act.put, List.setIfInBounds_toArray, List.set_cons_zero, List.set_cons_succ, i64_w, i32_w]
                  rfl
                 refine pure_ (i := 3) (N := some 72) (v := ?_) (a' := ?_) #[true, false, true, true, false, false, false, false, false] rfl rfl (any_of HT_.out (by kernel_rfl)) (fun _ _ _ h => h) (Or.inl ⟨by rfl, ?_⟩) ?_ ?_
                 rotate_left
                 ·intro w'
                  go_simp
                  with_reducible rfl
                 rotate_left
                 ·simp only [Act.put, List.setIfInBounds_toArray, List.set_cons_zero, List.set_cons_succ, i64_w, i32_w]
                  rfl
                 refine take_ (i := 1) (N := some 70) (v := ?_) (a' := ?_) #[true, true, true, true, false, false, false, false, false] rfl rfl (take_ofW HT_.out HW_.out (by kernel_rfl)) (fun _ _ _ h => h) (Or.inl ⟨by rfl, ?_⟩) hHeld ?_ ?_
                 rotate_left
                 ·intro w' s0
                  go_simp
                  with_reducible rfl
                 rotate_left
                 ·simp only [Act.put, List.setIfInBounds_toArray, List.set_cons_zero, List.set_cons_succ, i64_w, i32_w]
                  rfl
                 refine one_ (i := 4) (N := some 73) #[true, true, true, true, true, false, false, false, false] rfl rfl (one_of HT_.out (by kernel_rfl)) (by decide) (fun K hK => ?_)
                 refine goes_ Try.func152 (by kernel_rfl) rfl #[.slice (some ⟨go54, 0, none⟩) y435.length co58, .int .i64 t417] (by rfl) rfl rfl (by (try simp only [List.map_toArray, List.map_cons, List.map_nil]); first | done | (rw [show y435.length = t431.length from (Kd.R_reads' HO433.out).1.symm] <;> rfl) | rfl | (simp only [List.length_drop, List.length_take]; rfl)) ?_
                 with_reducible refine (spec_maNarrow.calls _ _ y435 t417 t436 _ ?side1 ?side2 A55.out).mono ?_
                 (case side1 => repeat (first | exact (Kd.R_reads' HO433.out).2.2 | (with_reducible refine Kd.C_alloc ?_ _) | (with_reducible refine Kd.C_drewN ?_ _) | (with_reducible refine Kd.C_drew ?_)))
                 (case side2 => rw [show y435.length = t431.length from (Kd.R_reads' HO433.out).1.symm]; exact (Kd.R_reads' HO433.out).2.1)
                 rintro e w62 ⟨v437, rfl, ho0, hb⟩
                 refine ⟨_, rfl, ?_⟩
                 have n0_ := aM (Kd.S_elder' (sQ HO_430000) (Kd.R_base ho0) hb)
                 have n1_ := aM (Kd.R_elder' (rQ HO433) (Kd.R_base ho0) hb)
                 have n2_ := aM (Kd.R_lower (Kd.R_new' ho0 (Kd.R_lt (rQ HO433))) (below_size bq))
                 have n3_ := aM (blk_below (g := gb415) (o := .cells #[.slice (some ad418) l0_0.length c0_0] 36 (0, 0)) (qQ BK415) hb)
                 have n4_ := aM (blk_below (g := gb416) (o := .cells #[.slice none 0 0] 36 (0, 0)) (qQ BK416) hb)
                 have n5_ := aM (blk_below (g := gb429) (o := .cells #[u430000] 36 (0, 0)) (qQ BK429) hb)
                 have n6_ := aM (below_step bq hb)
                 clear HO_430000
                 clear HO433
                 clear BK415
                 clear BK416
                 clear BK429
                 clear HB
                 have HO_430000 := n0_
                 have HO433 := n1_
                 have HO438 := n2_
                 have BK415 := n3_
                 have BK416 := n4_
                 have BK429 := n5_
                 have HB := n6_
                 clear n0_ n1_ n2_ n3_ n4_ n5_ n6_
                 (try clear hb)
                 (try clear hb2)
                 (try clear hk)
                 (try clear hi)
                 (try clear ho0)
                 obtain ⟨Ao64, co64, eo64⟩ := Kd.R_slice HO438.out
                 (first | subst eo64 | (injection eo64 with f1_ f2_ f3_; have f4_ := f1_.symm; have f5_ := f3_.symm; clear f1_ f2_ f3_; subst f4_; subst f5_))
                 refine hK.out _ _ ((blk_cell BK429.out 0).trans rfl) (fun hHeld => ?_)
                 clear hK K
                 refine norm_ (a' := ?_) ?_ ?_
                 rotate_left
                 ·show Act.put _ (some 73) _ = _
                  simp only [Act.put, List.setIfInBounds_toArray, List.set_cons_zero, List.set_cons_succ, i64_w, i32_w]
                  rfl
                 refine one_ (i := 5) (N := some 74) #[true, true, true, true, true, true, false, false, false] rfl rfl (one_of HT_.out (by kernel_rfl)) (by decide) (fun K hK => ?_)
                 refine value_ (w1 := ?_) (v := ?_) (by rfl) rfl ?_ ?_
                 rotate_left 2
                 ·go_simp
                  constructor
                  ·rfl
                  ·rfl
                 refine hK.out _ _ ((blk_cell (blk_alloc BK429.out _) 0).trans rfl) (fun hHeld => ?_)
                 clear hK K
                 refine norm_ (a' := ?_) ?_ ?_
                 rotate_left
                 ·show Act.put _ (some 74) _ = _
                  simp only [Act.put, List.setIfInBounds_toArray, List.set_cons_zero, List.set_cons_succ, i64_w, i32_w]
                  rfl
                 refine one_ (i := 6) (N := some 75) #[true, true, true, true, true, true, true, false, false] rfl rfl (one_of HT_.out (by kernel_rfl)) (by decide) (fun K hK => ?_)
                 refine Kd.S_append_step (Kd.slice 3 (Kd.int .i64)) (w0 := w) w.heap.size (by rfl) (.tmp 70) (.tmp 74) 34 24 (.slice none 0 0) 24 rfl Try.underlying34 info24 rfl (by decide) (by omega) u430000 x430000_1 t436 [.slice Ao64 t436.length co64] (fun k_ => some k_ ≠ (.slice (some ⟨go54, 0, none⟩) t431.length co58 : Value).ownBlock) (fun k_ => some k_ = (.slice Ao64 t436.length co64 : Value).ownBlock) rfl rfl ?aP (fun k_ hk_ => ((Kd.R_mono (ok' := fun k_ => ((fun k_ => some k_ ≠ (.slice (some ⟨go54, 0, none⟩) t431.length co58 : Value).ownBlock)) k_ ∧ some k_ ≠ (u430000 : Value).ownBlock) (Kd.R_apart' (HO438.out) (Kd.S_typed HO_430000.out) (by decide)) (fun k_ hk => ⟨hk.1.2, hk.2⟩))).1 k_ hk_.symm) ?aF ?aO ?aB ?aS ?aL ?_
                 (case aP => exact Kd.M_row (Kd.R_mono (Kd.R_tight rfl (Kd.R_mono (ok' := fun k_ => ((fun k_ => some k_ ≠ (.slice (some ⟨go54, 0, none⟩) t431.length co58 : Value).ownBlock)) k_ ∧ some k_ ≠ (u430000 : Value).ownBlock) (Kd.R_apart' (HO438.out) (Kd.S_typed HO_430000.out) (by decide)) (fun k_ hk => ⟨hk.1.2, hk.2⟩))) (fun _ h_ => h_)))
                 (case aB => exact bq)
                 (case aF => exact (fun k_ hk => Kd.fresh' (Kd.R_lt (rQ HO433)) k_ hk))
                 (case aO => exact (by (with_reducible repeat first|apply sA|apply sN|apply sD); exact Kd.S_mono HO_430000.out (fun k_ hk => ⟨hk.1.2, fun e_ => hk.2 e_⟩)))
                 (case aS => exact (below_size bq))
                 (case aL => have := LMc56.out; omega)
                 intro v440 w63 ho hb hg hat
                 rw [← Ny439.out] at ho
                 have n0_ := aM (blk_grown (g := gb415) (o := .cells #[.slice (some ad418) l0_0.length c0_0] 36 (0, 0)) (qQ BK415) hg (Kd.S_ne HO_430000.out BK415.out (by decide)))
                 have n1_ := aM (blk_grown (g := gb416) (o := .cells #[.slice none 0 0] 36 (0, 0)) (qQ BK416) hg (Kd.S_ne HO_430000.out BK416.out (by decide)))
                 have n2_ := aM (blk_grown (g := gb429) (o := .cells #[u430000] 36 (0, 0)) (qQ BK429) hg (Kd.S_ne HO_430000.out BK429.out (by decide)))
                 have n3_ := aM (Kd.R_over' (rQ HO433) (Kd.S_typed (sQ HO_430000)) (by decide) hg)
                 have n4_ := aM (hb)
                 have n5_ := aM (ho)
                 clear BK415
                 clear BK416
                 clear BK429
                 clear HO433
                 clear HB
                 clear HO_430000
                 clear HO438
                 have BK415 := n0_
                 have BK416 := n1_
                 have BK429 := n2_
                 have HO433 := n3_
                 have HB := n4_
                 have HO441 := n5_
                 clear n0_ n1_ n2_ n3_ n4_ n5_
                 clear ho hb hg hat
                 obtain ⟨Ao65, co65, eo65⟩ := Kd.S_slice HO441.out
                 (first | subst eo65 | (injection eo65 with f1_ f2_ f3_; have f4_ := f1_.symm; have f5_ := f3_.symm; clear f1_ f2_ f3_; subst f4_; subst f5_))
                 refine hK.out _ _ ((blk_cell BK429.out 0).trans rfl) (fun hHeld => ?_)
                 clear hK K
                 refine norm_ (a' := ?_) ?_ ?_
                 rotate_left
                 ·show Act.put _ (some 75) _ = _
                  simp only [Act.put, List.setIfInBounds_toArray, List.set_cons_zero, List.set_cons_succ, i64_w, i32_w]
                  rfl
                 refine pure_ (i := 7) (N := some 76) (v := ?_) (a' := ?_) #[true, true, true, true, true, true, true, true, false] rfl rfl (any_of HT_.out (by kernel_rfl)) (fun _ _ _ h => h) (Or.inl ⟨by rfl, ?_⟩) ?_ ?_
                 rotate_left
                 ·intro w'
                  go_simp
                  with_reducible rfl
                 rotate_left
                 ·simp only [Act.put, List.setIfInBounds_toArray, List.set_cons_zero, List.set_cons_succ, i64_w, i32_w]
                  rfl
                 refine last_ (i := 8) (N := none) #[true, true, true, true, true, true, true, true, true] rfl rfl (one_of HT_.out (by kernel_rfl)) (by decide) (fun K hK => ?_)
                 have hs66 : w63.cell? ⟨gb429, 0, none⟩ = some (u430000) := (blk_cell BK429.out 0).trans rfl
                 have hfs66 := blk_frozen BK429.out 0
                 have hns66_0 := NB415_429.out
                 have hns66_1 := NB416_429.out
                 have hms66_0 := NB429_415.out
                 have hms66_1 := NB429_416.out
                 refine skip_ (w1 := ?_) (by rfl) rfl ?_ ?_
                 rotate_left
                 ·go_simp
                  rfl
                 refine hK.out _ _ ?_
                 clear hK K
                 refine done_ (done_of HT_.out (by kernel_rfl)) ?_
                 try go_wp2
                 go_roundg k1
                 case measure => have := HK1.out; omega
                 case rel => exact ⟨(wrap64 (x42_1 + 1)), (y439), (.slice Ao65 y439.length co65), (by first | rfl | (simp; done) | (simp [*]; done)), H', ⟨by have := HK1.out; omega⟩, ⟨by (with_reducible repeat first|apply sA|apply sN|apply sD); exact Kd.S_mono (Kd.S_far (p := ⟨gb429, 0, none⟩) (Kd.S_types HO441.out BK429.out (by decide)) (fun _ hk => hk.2) (.slice Ao65 y439.length co65)) (fun _ hk => trivial)⟩, ⟨by (with_reducible repeat first|apply qN|apply qD|apply qA); refine blk_far ?_ NB415_429.out _; (with_reducible repeat first|apply qN|apply qD|apply qA); exact BK415.out⟩, ⟨by (with_reducible repeat first|apply qN|apply qD|apply qA); refine blk_far ?_ NB416_429.out _; (with_reducible repeat first|apply qN|apply qD|apply qA); exact BK416.out⟩, ⟨by (with_reducible repeat first|apply qN|apply qD|apply qA); refine blk_put (cs := #[u430000]) ?_ 0 _ rfl; (with_reducible repeat first|apply qN|apply qD|apply qA); exact BK429.out⟩, ⟨by exact bq⟩⟩
                ·rw [if_neg c56] at H
                 exact absurd H (by simp)
               ·rw [if_neg c53] at H
                exact absurd H (by simp)
              ·rw [if_neg c52] at H
               exact absurd H (by simp)
             ·rw [if_neg c50] at H
              exact absurd H (by simp)
            ·rw [if_neg c49] at H
             exact absurd H (by simp)
           ·rw [if_neg c48] at H
            have c48b0 : decide (t417 < (wrap64 ((l0_0.length : Int) - 1))) = false := decide_eq_false c48
            clear c48
            replace H := Option.bind_eq_some_iff.mp H
            obtain ⟨t442, A670, H⟩ := H
            replace H : (if x430000_1.length < 5864062014805 then (spec_maShrink.l0 k1 (l0_0.length : Int) t417 l0_0 (l0_0.length : Int) (wrap64 (x42_1 + 1)) (x430000_1 ++ [t442])) else (none)) = some (r1, r2) := H
            have A67 := aM A670
            clear A670
            by_cases c68 : x430000_1.length < 5864062014805
            ·rw [if_pos c68] at H
             have LMc68 := aM c68
             clear c68
             obtain ⟨y445, hy445⟩ : ∃ y_ : List (List Int), y_ = (x430000_1 ++ [t442]) := ⟨_, rfl⟩
             replace H : (spec_maShrink.l0 k1 (l0_0.length : Int) t417 l0_0 (l0_0.length : Int) (wrap64 (x42_1 + 1)) y445) = some (r1, r2) := by first | (rw [hy445]; with_reducible exact H) | (have H2_ := (Option.bind_some _ _).symm.trans H; rw [hy445]; with_reducible exact H2_) | (have H2_ := (Option.bind_some _ _).symm.trans H; with_reducible exact H2_) | with_reducible exact H | (rw [hy445]; exact H) | exact H
             have Ny445 := aM hy445
             clear hy445
             have H' := aM H
             clear H
             have p430 : 0 ≤ (x42_1 : Int) := odt
             have q430 : x42_1 < (l0_0.length : Int) := odt
             obtain ⟨ad430, A430_0, c430_0, e430, hx430_0, hl430_0, hi430_0⟩ := at_L2 HR0_0.out x42_1 p430 q430
             obtain rfl : ad418 = ad430 := (by injection e430)
             replace hx430_0 := (HB.out.cell (World.block_lt_of_cell? w _ hx430_0)).trans hx430_0
             have HR430_0 := aM hi430_0
             have HC430_0 := aM hl430_0
             clear hi430_0 hl430_0
             replace p430 := eq_true p430
             replace q430 := eq_true q430
             try go_wp2_with (first | ((with_reducible refine gate_callee (f := 126) rfl ?_); refine gL (some 51) Try.func126 #[.slice A430_0 (rd_L2 l0_0 x42_1).length c430_0] ?_; (with_reducible refine (spec_l1Own.calls _ _ (rd_L2 l0_0 x42_1) t431 _ (cQ (Kd.C_below HR430_0.out HB.out)) HC430_0.out A46.out).mono ?_); rintro e w69 ⟨v432, rfl, ho0, hb⟩; refine ⟨_, rfl, ?_⟩; have _ := aM (Kd.S_elder' (sQ HO_430000) (Kd.R_base ho0) hb); have _ := aM (Kd.R_lower ho0 (below_size bq)); have _ := aM (blk_below (g := gb415) (o := .cells #[.slice (some ad418) l0_0.length c0_0] 36 (0, 0)) (qQ BK415) hb); have _ := aM (blk_below (g := gb416) (o := .cells #[.slice none 0 0] 36 (0, 0)) (qQ BK416) hb); have _ := aM (blk_below (g := gb429) (o := .cells #[u430000] 36 (0, 0)) (qQ BK429) hb); have _ := aM (below_step bq hb); clear HO_430000 BK415 BK416 BK429 HB; rename_i HO_430000 HO433 BK415 BK416 BK429 HB; (try clear hb); (try clear hb2); (try clear hk); (try clear hi); (try clear ho0)))
             have n0_ := aM (Kd.S_drew HO_430000.out)
             have n1_ := aM (Kd.R_drew HO433.out)
             have n2_ := aM (blk_drew BK415.out)
             have n3_ := aM (blk_drew BK416.out)
             have n4_ := aM (blk_drew BK429.out)
             have n5_ := aM (below_drew1 HB.out)
             clear HO_430000
             clear HO433
             clear BK415
             clear BK416
             clear BK429
             clear HB
             have HO_430000 := n0_
             have HO433 := n1_
             have BK415 := n2_
             have BK416 := n3_
             have BK429 := n4_
             have HB := n5_
             clear n0_ n1_ n2_ n3_ n4_ n5_
             obtain ⟨Ao71, co71, eo71⟩ := Kd.R_slice HO433.out
             (first | subst eo71 | (injection eo71 with f1_ f2_ f3_; have f4_ := f1_.symm; have f5_ := f3_.symm; clear f1_ f2_ f3_; subst f4_; subst f5_))
             refine start_ (n := 9) (S := fun w' => w'.cell? ⟨gb429, 0, none⟩ = some (u430000)) (ds := [8]) #[false, false, false, false, false, false, false, false, false] (by kernel_rfl) rfl rfl ((blk_cell BK429.out 0).trans rfl) (fun hHeld => ?_); refine with_tabW spec_maShrink.tab15 spec_maShrink.bits15 (fun HT_ HW_ => ?_)
             generalize w69.drew = w70 at HO_430000 HO433 BK415 BK416 BK429 HB hHeld ⊢
             refine pure_ (i := 0) (N := some 69) (v := ?_) (a' := ?_) #[true, false, false, false, false, false, false, false, false] rfl rfl (any_of HT_.out (by kernel_rfl)) (fun _ _ _ h => h) (Or.inl ⟨by rfl, ?_⟩) ?_ ?_
             rotate_left
             ·intro w'
              go_simp
              with_reducible rfl
             rotate_left
             ·simp only [Act.put, List.setIfInBounds_toArray, List.set_cons_zero, List.set_cons_succ, i64_w, i32_w]
              rfl
             refine pure_ (i := 2) (N := some 71) (v := ?_) (a' := ?_) #[true, false, true, false, false, false, false, false, false] rfl rfl (any_of HT_.out (by kernel_rfl)) (fun _ _ _ h => h) (Or.inl ⟨by rfl, ?_⟩) ?_ ?_
             rotate_left
             ·intro w'
              go_simp
              with_reducible rfl
             rotate_left
             ·simp only [Act.put, List.setIfInBounds_toArray, List.set_cons_zero, List.set_cons_succ, i64_w, i32_w]
              rfl
             refine pure_ (i := 3) (N := some 72) (v := ?_) (a' := ?_) #[true, false, true, true, false, false, false, false, false] rfl rfl (any_of HT_.out (by kernel_rfl)) (fun _ _ _ h => h) (Or.inl ⟨by rfl, ?_⟩) ?_ ?_
             rotate_left
             ·intro w'
              go_simp
              with_reducible rfl
             rotate_left
             ·simp only [Act.put, List.setIfInBounds_toArray, List.set_cons_zero, List.set_cons_succ, i64_w, i32_w]
              rfl
             refine take_ (i := 1) (N := some 70) (v := ?_) (a' := ?_) #[true, true, true, true, false, false, false, false, false] rfl rfl (take_ofW HT_.out HW_.out (by kernel_rfl)) (fun _ _ _ h => h) (Or.inl ⟨by rfl, ?_⟩) hHeld ?_ ?_
             rotate_left
             ·intro w' s0
              go_simp
              with_reducible rfl
             rotate_left
             ·simp only [Act.put, List.setIfInBounds_toArray, List.set_cons_zero, List.set_cons_succ, i64_w, i32_w]
              rfl
             refine one_ (i := 4) (N := some 73) #[true, true, true, true, true, false, false, false, false] rfl rfl (one_of HT_.out (by kernel_rfl)) (by decide) (fun K hK => ?_)
             refine goes_ Try.func152 (by kernel_rfl) rfl #[.slice Ao71 t431.length co71, .int .i64 t417] (by rfl) rfl rfl (by (try simp only [List.map_toArray, List.map_cons, List.map_nil]); first | done | rfl | (simp only [List.length_drop, List.length_take]; rfl)) ?_
             with_reducible refine (spec_maNarrow.calls _ _ t431 t417 t442 _ ?side1 ?side2 A67.out).mono ?_
             (case side1 => repeat (first | exact (Kd.R_reads' HO433.out).2.2 | (with_reducible refine Kd.C_alloc ?_ _) | (with_reducible refine Kd.C_drewN ?_ _) | (with_reducible refine Kd.C_drew ?_)))
             (case side2 => exact (Kd.R_reads' HO433.out).2.1)
             rintro e w72 ⟨v443, rfl, ho0, hb⟩
             refine ⟨_, rfl, ?_⟩
             have n0_ := aM (Kd.S_elder' (sQ HO_430000) (Kd.R_base ho0) hb)
             have n1_ := aM (Kd.R_elder' (rQ HO433) (Kd.R_base ho0) hb)
             have n2_ := aM (Kd.R_lower (Kd.R_new' ho0 (Kd.R_lt (rQ HO433))) (below_size bq))
             have n3_ := aM (blk_below (g := gb415) (o := .cells #[.slice (some ad418) l0_0.length c0_0] 36 (0, 0)) (qQ BK415) hb)
             have n4_ := aM (blk_below (g := gb416) (o := .cells #[.slice none 0 0] 36 (0, 0)) (qQ BK416) hb)
             have n5_ := aM (blk_below (g := gb429) (o := .cells #[u430000] 36 (0, 0)) (qQ BK429) hb)
             have n6_ := aM (below_step bq hb)
             clear HO_430000
             clear HO433
             clear BK415
             clear BK416
             clear BK429
             clear HB
             have HO_430000 := n0_
             have HO433 := n1_
             have HO444 := n2_
             have BK415 := n3_
             have BK416 := n4_
             have BK429 := n5_
             have HB := n6_
             clear n0_ n1_ n2_ n3_ n4_ n5_ n6_
             (try clear hb)
             (try clear hb2)
             (try clear hk)
             (try clear hi)
             (try clear ho0)
             obtain ⟨Ao74, co74, eo74⟩ := Kd.R_slice HO444.out
             (first | subst eo74 | (injection eo74 with f1_ f2_ f3_; have f4_ := f1_.symm; have f5_ := f3_.symm; clear f1_ f2_ f3_; subst f4_; subst f5_))
             refine hK.out _ _ ((blk_cell BK429.out 0).trans rfl) (fun hHeld => ?_)
             clear hK K
             refine norm_ (a' := ?_) ?_ ?_
             rotate_left
             ·show Act.put _ (some 73) _ = _
              simp only [Act.put, List.setIfInBounds_toArray, List.set_cons_zero, List.set_cons_succ, i64_w, i32_w]
              rfl
             refine one_ (i := 5) (N := some 74) #[true, true, true, true, true, true, false, false, false] rfl rfl (one_of HT_.out (by kernel_rfl)) (by decide) (fun K hK => ?_)
             refine value_ (w1 := ?_) (v := ?_) (by rfl) rfl ?_ ?_
             rotate_left 2
             ·go_simp
              constructor
              ·rfl
              ·rfl
             refine hK.out _ _ ((blk_cell (blk_alloc BK429.out _) 0).trans rfl) (fun hHeld => ?_)
             clear hK K
             refine norm_ (a' := ?_) ?_ ?_
             rotate_left
             ·show Act.put _ (some 74) _ = _
              simp only [Act.put, List.setIfInBounds_toArray, List.set_cons_zero, List.set_cons_succ, i64_w, i32_w]
              rfl
             refine one_ (i := 6) (N := some 75) #[true, true, true, true, true, true, true, false, false] rfl rfl (one_of HT_.out (by kernel_rfl)) (by decide) (fun K hK => ?_)
             refine Kd.S_append_step (Kd.slice 3 (Kd.int .i64)) (w0 := w) w.heap.size (by rfl) (.tmp 70) (.tmp 74) 34 24 (.slice none 0 0) 24 rfl Try.underlying34 info24 rfl (by decide) (by omega) u430000 x430000_1 t442 [.slice Ao74 t442.length co74] (fun k_ => some k_ ≠ (.slice Ao71 t431.length co71 : Value).ownBlock) (fun k_ => some k_ = (.slice Ao74 t442.length co74 : Value).ownBlock) rfl rfl ?aP (fun k_ hk_ => ((Kd.R_mono (ok' := fun k_ => ((fun k_ => some k_ ≠ (.slice Ao71 t431.length co71 : Value).ownBlock)) k_ ∧ some k_ ≠ (u430000 : Value).ownBlock) (Kd.R_apart' (HO444.out) (Kd.S_typed HO_430000.out) (by decide)) (fun k_ hk => ⟨hk.1.2, hk.2⟩))).1 k_ hk_.symm) ?aF ?aO ?aB ?aS ?aL ?_
             (case aP => exact Kd.M_row (Kd.R_mono (Kd.R_tight rfl (Kd.R_mono (ok' := fun k_ => ((fun k_ => some k_ ≠ (.slice Ao71 t431.length co71 : Value).ownBlock)) k_ ∧ some k_ ≠ (u430000 : Value).ownBlock) (Kd.R_apart' (HO444.out) (Kd.S_typed HO_430000.out) (by decide)) (fun k_ hk => ⟨hk.1.2, hk.2⟩))) (fun _ h_ => h_)))
             (case aB => exact bq)
             (case aF => exact (fun k_ hk => Kd.fresh' (Kd.R_lt (rQ HO433)) k_ hk))
             (case aO => exact (by (with_reducible repeat first|apply sA|apply sN|apply sD); exact Kd.S_mono HO_430000.out (fun k_ hk => ⟨hk.1.2, fun e_ => hk.2 e_⟩)))
             (case aS => exact (below_size bq))
             (case aL => have := LMc68.out; omega)
             intro v446 w73 ho hb hg hat
             rw [← Ny445.out] at ho
             have n0_ := aM (blk_grown (g := gb415) (o := .cells #[.slice (some ad418) l0_0.length c0_0] 36 (0, 0)) (qQ BK415) hg (Kd.S_ne HO_430000.out BK415.out (by decide)))
             have n1_ := aM (blk_grown (g := gb416) (o := .cells #[.slice none 0 0] 36 (0, 0)) (qQ BK416) hg (Kd.S_ne HO_430000.out BK416.out (by decide)))
             have n2_ := aM (blk_grown (g := gb429) (o := .cells #[u430000] 36 (0, 0)) (qQ BK429) hg (Kd.S_ne HO_430000.out BK429.out (by decide)))
             have n3_ := aM (Kd.R_over' (rQ HO433) (Kd.S_typed (sQ HO_430000)) (by decide) hg)
             have n4_ := aM (hb)
             have n5_ := aM (ho)
             clear BK415
             clear BK416
             clear BK429
             clear HO433
             clear HB
             clear HO_430000
             clear HO444
             have BK415 := n0_
             have BK416 := n1_
             have BK429 := n2_
             have HO433 := n3_
             have HB := n4_
             have HO447 := n5_
             clear n0_ n1_ n2_ n3_ n4_ n5_
             clear ho hb hg hat
             obtain ⟨Ao75, co75, eo75⟩ := Kd.S_slice HO447.out
             (first | subst eo75 | (injection eo75 with f1_ f2_ f3_; have f4_ := f1_.symm; have f5_ := f3_.symm; clear f1_ f2_ f3_; subst f4_; subst f5_))
             refine hK.out _ _ ((blk_cell BK429.out 0).trans rfl) (fun hHeld => ?_)
             clear hK K
             refine norm_ (a' := ?_) ?_ ?_
             rotate_left
             ·show Act.put _ (some 75) _ = _
              simp only [Act.put, List.setIfInBounds_toArray, List.set_cons_zero, List.set_cons_succ, i64_w, i32_w]
              rfl
             refine pure_ (i := 7) (N := some 76) (v := ?_) (a' := ?_) #[true, true, true, true, true, true, true, true, false] rfl rfl (any_of HT_.out (by kernel_rfl)) (fun _ _ _ h => h) (Or.inl ⟨by rfl, ?_⟩) ?_ ?_
             rotate_left
             ·intro w'
              go_simp
              with_reducible rfl
             rotate_left
             ·simp only [Act.put, List.setIfInBounds_toArray, List.set_cons_zero, List.set_cons_succ, i64_w, i32_w]
              rfl
             refine last_ (i := 8) (N := none) #[true, true, true, true, true, true, true, true, true] rfl rfl (one_of HT_.out (by kernel_rfl)) (by decide) (fun K hK => ?_)
             have hs76 : w73.cell? ⟨gb429, 0, none⟩ = some (u430000) := (blk_cell BK429.out 0).trans rfl
             have hfs76 := blk_frozen BK429.out 0
             have hns76_0 := NB415_429.out
             have hns76_1 := NB416_429.out
             have hms76_0 := NB429_415.out
             have hms76_1 := NB429_416.out
             refine skip_ (w1 := ?_) (by rfl) rfl ?_ ?_
             rotate_left
             ·go_simp
              rfl
             refine hK.out _ _ ?_
             clear hK K
             refine done_ (done_of HT_.out (by kernel_rfl)) ?_
             try go_wp2
             go_roundg k1
             case measure => have := HK1.out; omega
             case rel => exact ⟨(wrap64 (x42_1 + 1)), (y445), (.slice Ao75 y445.length co75), (by first | rfl | (simp; done) | (simp [*]; done)), H', ⟨by have := HK1.out; omega⟩, ⟨by (with_reducible repeat first|apply sA|apply sN|apply sD); exact Kd.S_mono (Kd.S_far (p := ⟨gb429, 0, none⟩) (Kd.S_types HO447.out BK429.out (by decide)) (fun _ hk => hk.2) (.slice Ao75 y445.length co75)) (fun _ hk => trivial)⟩, ⟨by (with_reducible repeat first|apply qN|apply qD|apply qA); refine blk_far ?_ NB415_429.out _; (with_reducible repeat first|apply qN|apply qD|apply qA); exact BK415.out⟩, ⟨by (with_reducible repeat first|apply qN|apply qD|apply qA); refine blk_far ?_ NB416_429.out _; (with_reducible repeat first|apply qN|apply qD|apply qA); exact BK416.out⟩, ⟨by (with_reducible repeat first|apply qN|apply qD|apply qA); refine blk_put (cs := #[u430000]) ?_ 0 _ rfl; (with_reducible repeat first|apply qN|apply qD|apply qA); exact BK429.out⟩, ⟨by exact bq⟩⟩
            ·rw [if_neg c68] at H
             exact absurd H (by simp)
          ·rw [if_neg c47] at H
           have c47b0 : decide (x42_1 < t417) = false := decide_eq_false c47
           clear c47
           replace H := Option.bind_eq_some_iff.mp H
           obtain ⟨t448, A770, H⟩ := H
           replace H : (if x430000_1.length < 5864062014805 then (spec_maShrink.l0 k1 (l0_0.length : Int) t417 l0_0 (l0_0.length : Int) (wrap64 (x42_1 + 1)) (x430000_1 ++ [t448])) else (none)) = some (r1, r2) := H
           have A77 := aM A770
           clear A770
           by_cases c78 : x430000_1.length < 5864062014805
           ·rw [if_pos c78] at H
            have LMc78 := aM c78
            clear c78
            obtain ⟨y451, hy451⟩ : ∃ y_ : List (List Int), y_ = (x430000_1 ++ [t448]) := ⟨_, rfl⟩
            replace H : (spec_maShrink.l0 k1 (l0_0.length : Int) t417 l0_0 (l0_0.length : Int) (wrap64 (x42_1 + 1)) y451) = some (r1, r2) := by first | (rw [hy451]; with_reducible exact H) | (have H2_ := (Option.bind_some _ _).symm.trans H; rw [hy451]; with_reducible exact H2_) | (have H2_ := (Option.bind_some _ _).symm.trans H; with_reducible exact H2_) | with_reducible exact H | (rw [hy451]; exact H) | exact H
            have Ny451 := aM hy451
            clear hy451
            have H' := aM H
            clear H
            have p430 : 0 ≤ (x42_1 : Int) := odt
            have q430 : x42_1 < (l0_0.length : Int) := odt
            obtain ⟨ad430, A430_0, c430_0, e430, hx430_0, hl430_0, hi430_0⟩ := at_L2 HR0_0.out x42_1 p430 q430
            obtain rfl : ad418 = ad430 := (by injection e430)
            replace hx430_0 := (HB.out.cell (World.block_lt_of_cell? w _ hx430_0)).trans hx430_0
            have HR430_0 := aM hi430_0
            have HC430_0 := aM hl430_0
            clear hi430_0 hl430_0
            replace p430 := eq_true p430
            replace q430 := eq_true q430
            try go_wp2_with (first | ((with_reducible refine gate_callee (f := 126) rfl ?_); refine gL (some 51) Try.func126 #[.slice A430_0 (rd_L2 l0_0 x42_1).length c430_0] ?_; (with_reducible refine (spec_l1Own.calls _ _ (rd_L2 l0_0 x42_1) t431 _ (cQ (Kd.C_below HR430_0.out HB.out)) HC430_0.out A46.out).mono ?_); rintro e w79 ⟨v432, rfl, ho0, hb⟩; refine ⟨_, rfl, ?_⟩; have _ := aM (Kd.S_elder' (sQ HO_430000) (Kd.R_base ho0) hb); have _ := aM (Kd.R_lower ho0 (below_size bq)); have _ := aM (blk_below (g := gb415) (o := .cells #[.slice (some ad418) l0_0.length c0_0] 36 (0, 0)) (qQ BK415) hb); have _ := aM (blk_below (g := gb416) (o := .cells #[.slice none 0 0] 36 (0, 0)) (qQ BK416) hb); have _ := aM (blk_below (g := gb429) (o := .cells #[u430000] 36 (0, 0)) (qQ BK429) hb); have _ := aM (below_step bq hb); clear HO_430000 BK415 BK416 BK429 HB; rename_i HO_430000 HO433 BK415 BK416 BK429 HB; (try clear hb); (try clear hb2); (try clear hk); (try clear hi); (try clear ho0)))
            have n0_ := aM (Kd.S_drew HO_430000.out)
            have n1_ := aM (Kd.R_drew HO433.out)
            have n2_ := aM (blk_drew BK415.out)
            have n3_ := aM (blk_drew BK416.out)
            have n4_ := aM (blk_drew BK429.out)
            have n5_ := aM (below_drew1 HB.out)
            clear HO_430000
            clear HO433
            clear BK415
            clear BK416
            clear BK429
            clear HB
            have HO_430000 := n0_
            have HO433 := n1_
            have BK415 := n2_
            have BK416 := n3_
            have BK429 := n4_
            have HB := n5_
            clear n0_ n1_ n2_ n3_ n4_ n5_
            obtain ⟨Ao81, co81, eo81⟩ := Kd.R_slice HO433.out
            (first | subst eo81 | (injection eo81 with f1_ f2_ f3_; have f4_ := f1_.symm; have f5_ := f3_.symm; clear f1_ f2_ f3_; subst f4_; subst f5_))
            refine start_ (n := 9) (S := fun w' => w'.cell? ⟨gb429, 0, none⟩ = some (u430000)) (ds := [8]) #[false, false, false, false, false, false, false, false, false] (by kernel_rfl) rfl rfl ((blk_cell BK429.out 0).trans rfl) (fun hHeld => ?_); refine with_tabW spec_maShrink.tab15 spec_maShrink.bits15 (fun HT_ HW_ => ?_)
            generalize w79.drew = w80 at HO_430000 HO433 BK415 BK416 BK429 HB hHeld ⊢
            refine pure_ (i := 0) (N := some 69) (v := ?_) (a' := ?_) #[true, false, false, false, false, false, false, false, false] rfl rfl (any_of HT_.out (by kernel_rfl)) (fun _ _ _ h => h) (Or.inl ⟨by rfl, ?_⟩) ?_ ?_
            rotate_left
            ·intro w'
             go_simp
             with_reducible rfl
            rotate_left
            ·simp only [Act.put, List.setIfInBounds_toArray, List.set_cons_zero, List.set_cons_succ, i64_w, i32_w]
             rfl
            refine pure_ (i := 2) (N := some 71) (v := ?_) (a' := ?_) #[true, false, true, false, false, false, false, false, false] rfl rfl (any_of HT_.out (by kernel_rfl)) (fun _ _ _ h => h) (Or.inl ⟨by rfl, ?_⟩) ?_ ?_
            rotate_left
            ·intro w'
             go_simp
             with_reducible rfl
            rotate_left
            ·simp only [Act.put, List.setIfInBounds_toArray, List.set_cons_zero, List.set_cons_succ, i64_w, i32_w]
             rfl
            refine pure_ (i := 3) (N := some 72) (v := ?_) (a' := ?_) #[true, false, true, true, false, false, false, false, false] rfl rfl (any_of HT_.out (by kernel_rfl)) (fun _ _ _ h => h) (Or.inl ⟨by rfl, ?_⟩) ?_ ?_
            rotate_left
            ·intro w'
             go_simp
             with_reducible rfl
            rotate_left
            ·simp only [Act.put, List.setIfInBounds_toArray, List.set_cons_zero, List.set_cons_succ, i64_w, i32_w]
             rfl
            refine take_ (i := 1) (N := some 70) (v := ?_) (a' := ?_) #[true, true, true, true, false, false, false, false, false] rfl rfl (take_ofW HT_.out HW_.out (by kernel_rfl)) (fun _ _ _ h => h) (Or.inl ⟨by rfl, ?_⟩) hHeld ?_ ?_
            rotate_left
            ·intro w' s0
             go_simp
             with_reducible rfl
            rotate_left
            ·simp only [Act.put, List.setIfInBounds_toArray, List.set_cons_zero, List.set_cons_succ, i64_w, i32_w]
             rfl
            refine one_ (i := 4) (N := some 73) #[true, true, true, true, true, false, false, false, false] rfl rfl (one_of HT_.out (by kernel_rfl)) (by decide) (fun K hK => ?_)
            refine goes_ Try.func152 (by kernel_rfl) rfl #[.slice Ao81 t431.length co81, .int .i64 t417] (by rfl) rfl rfl (by (try simp only [List.map_toArray, List.map_cons, List.map_nil]); first | done | rfl | (simp only [List.length_drop, List.length_take]; rfl)) ?_
            with_reducible refine (spec_maNarrow.calls _ _ t431 t417 t448 _ ?side1 ?side2 A77.out).mono ?_
            (case side1 => repeat (first | exact (Kd.R_reads' HO433.out).2.2 | (with_reducible refine Kd.C_alloc ?_ _) | (with_reducible refine Kd.C_drewN ?_ _) | (with_reducible refine Kd.C_drew ?_)))
            (case side2 => exact (Kd.R_reads' HO433.out).2.1)
            rintro e w82 ⟨v449, rfl, ho0, hb⟩
            refine ⟨_, rfl, ?_⟩
            have n0_ := aM (Kd.S_elder' (sQ HO_430000) (Kd.R_base ho0) hb)
            have n1_ := aM (Kd.R_elder' (rQ HO433) (Kd.R_base ho0) hb)
            have n2_ := aM (Kd.R_lower (Kd.R_new' ho0 (Kd.R_lt (rQ HO433))) (below_size bq))
            have n3_ := aM (blk_below (g := gb415) (o := .cells #[.slice (some ad418) l0_0.length c0_0] 36 (0, 0)) (qQ BK415) hb)
            have n4_ := aM (blk_below (g := gb416) (o := .cells #[.slice none 0 0] 36 (0, 0)) (qQ BK416) hb)
            have n5_ := aM (blk_below (g := gb429) (o := .cells #[u430000] 36 (0, 0)) (qQ BK429) hb)
            have n6_ := aM (below_step bq hb)
            clear HO_430000
            clear HO433
            clear BK415
            clear BK416
            clear BK429
            clear HB
            have HO_430000 := n0_
            have HO433 := n1_
            have HO450 := n2_
            have BK415 := n3_
            have BK416 := n4_
            have BK429 := n5_
            have HB := n6_
            clear n0_ n1_ n2_ n3_ n4_ n5_ n6_
            (try clear hb)
            (try clear hb2)
            (try clear hk)
            (try clear hi)
            (try clear ho0)
            obtain ⟨Ao84, co84, eo84⟩ := Kd.R_slice HO450.out
            (first | subst eo84 | (injection eo84 with f1_ f2_ f3_; have f4_ := f1_.symm; have f5_ := f3_.symm; clear f1_ f2_ f3_; subst f4_; subst f5_))
            refine hK.out _ _ ((blk_cell BK429.out 0).trans rfl) (fun hHeld => ?_)
            clear hK K
            refine norm_ (a' := ?_) ?_ ?_
            rotate_left
            ·show Act.put _ (some 73) _ = _
             simp only [Act.put, List.setIfInBounds_toArray, List.set_cons_zero, List.set_cons_succ, i64_w, i32_w]
             rfl
            refine one_ (i := 5) (N := some 74) #[true, true, true, true, true, true, false, false, false] rfl rfl (one_of HT_.out (by kernel_rfl)) (by decide) (fun K hK => ?_)
            refine value_ (w1 := ?_) (v := ?_) (by rfl) rfl ?_ ?_
            rotate_left 2
            ·go_simp
             constructor
             ·rfl
             ·rfl
            refine hK.out _ _ ((blk_cell (blk_alloc BK429.out _) 0).trans rfl) (fun hHeld => ?_)
            clear hK K
            refine norm_ (a' := ?_) ?_ ?_
            rotate_left
            ·show Act.put _ (some 74) _ = _
             simp only [Act.put, List.setIfInBounds_toArray, List.set_cons_zero, List.set_cons_succ, i64_w, i32_w]
             rfl
            refine one_ (i := 6) (N := some 75) #[true, true, true, true, true, true, true, false, false] rfl rfl (one_of HT_.out (by kernel_rfl)) (by decide) (fun K hK => ?_)
            refine Kd.S_append_step (Kd.slice 3 (Kd.int .i64)) (w0 := w) w.heap.size (by rfl) (.tmp 70) (.tmp 74) 34 24 (.slice none 0 0) 24 rfl Try.underlying34 info24 rfl (by decide) (by omega) u430000 x430000_1 t448 [.slice Ao84 t448.length co84] (fun k_ => some k_ ≠ (.slice Ao81 t431.length co81 : Value).ownBlock) (fun k_ => some k_ = (.slice Ao84 t448.length co84 : Value).ownBlock) rfl rfl ?aP (fun k_ hk_ => ((Kd.R_mono (ok' := fun k_ => ((fun k_ => some k_ ≠ (.slice Ao81 t431.length co81 : Value).ownBlock)) k_ ∧ some k_ ≠ (u430000 : Value).ownBlock) (Kd.R_apart' (HO450.out) (Kd.S_typed HO_430000.out) (by decide)) (fun k_ hk => ⟨hk.1.2, hk.2⟩))).1 k_ hk_.symm) ?aF ?aO ?aB ?aS ?aL ?_
            (case aP => exact Kd.M_row (Kd.R_mono (Kd.R_tight rfl (Kd.R_mono (ok' := fun k_ => ((fun k_ => some k_ ≠ (.slice Ao81 t431.length co81 : Value).ownBlock)) k_ ∧ some k_ ≠ (u430000 : Value).ownBlock) (Kd.R_apart' (HO450.out) (Kd.S_typed HO_430000.out) (by decide)) (fun k_ hk => ⟨hk.1.2, hk.2⟩))) (fun _ h_ => h_)))
            (case aB => exact bq)
            (case aF => exact (fun k_ hk => Kd.fresh' (Kd.R_lt (rQ HO433)) k_ hk))
            (case aO => exact (by (with_reducible repeat first|apply sA|apply sN|apply sD); exact Kd.S_mono HO_430000.out (fun k_ hk => ⟨hk.1.2, fun e_ => hk.2 e_⟩)))
            (case aS => exact (below_size bq))
            (case aL => have := LMc78.out; omega)
            intro v452 w83 ho hb hg hat
            rw [← Ny451.out] at ho
            have n0_ := aM (blk_grown (g := gb415) (o := .cells #[.slice (some ad418) l0_0.length c0_0] 36 (0, 0)) (qQ BK415) hg (Kd.S_ne HO_430000.out BK415.out (by decide)))
            have n1_ := aM (blk_grown (g := gb416) (o := .cells #[.slice none 0 0] 36 (0, 0)) (qQ BK416) hg (Kd.S_ne HO_430000.out BK416.out (by decide)))
            have n2_ := aM (blk_grown (g := gb429) (o := .cells #[u430000] 36 (0, 0)) (qQ BK429) hg (Kd.S_ne HO_430000.out BK429.out (by decide)))
            have n3_ := aM (Kd.R_over' (rQ HO433) (Kd.S_typed (sQ HO_430000)) (by decide) hg)
            have n4_ := aM (hb)
            have n5_ := aM (ho)
            clear BK415
            clear BK416
            clear BK429
            clear HO433
            clear HB
            clear HO_430000
            clear HO450
            have BK415 := n0_
            have BK416 := n1_
            have BK429 := n2_
            have HO433 := n3_
            have HB := n4_
            have HO453 := n5_
            clear n0_ n1_ n2_ n3_ n4_ n5_
            clear ho hb hg hat
            obtain ⟨Ao85, co85, eo85⟩ := Kd.S_slice HO453.out
            (first | subst eo85 | (injection eo85 with f1_ f2_ f3_; have f4_ := f1_.symm; have f5_ := f3_.symm; clear f1_ f2_ f3_; subst f4_; subst f5_))
            refine hK.out _ _ ((blk_cell BK429.out 0).trans rfl) (fun hHeld => ?_)
            clear hK K
            refine norm_ (a' := ?_) ?_ ?_
            rotate_left
            ·show Act.put _ (some 75) _ = _
             simp only [Act.put, List.setIfInBounds_toArray, List.set_cons_zero, List.set_cons_succ, i64_w, i32_w]
             rfl
            refine pure_ (i := 7) (N := some 76) (v := ?_) (a' := ?_) #[true, true, true, true, true, true, true, true, false] rfl rfl (any_of HT_.out (by kernel_rfl)) (fun _ _ _ h => h) (Or.inl ⟨by rfl, ?_⟩) ?_ ?_
            rotate_left
            ·intro w'
             go_simp
             with_reducible rfl
            rotate_left
            ·simp only [Act.put, List.setIfInBounds_toArray, List.set_cons_zero, List.set_cons_succ, i64_w, i32_w]
             rfl
            refine last_ (i := 8) (N := none) #[true, true, true, true, true, true, true, true, true] rfl rfl (one_of HT_.out (by kernel_rfl)) (by decide) (fun K hK => ?_)
            have hs86 : w83.cell? ⟨gb429, 0, none⟩ = some (u430000) := (blk_cell BK429.out 0).trans rfl
            have hfs86 := blk_frozen BK429.out 0
            have hns86_0 := NB415_429.out
            have hns86_1 := NB416_429.out
            have hms86_0 := NB429_415.out
            have hms86_1 := NB429_416.out
            refine skip_ (w1 := ?_) (by rfl) rfl ?_ ?_
            rotate_left
            ·go_simp
             rfl
            refine hK.out _ _ ?_
            clear hK K
            refine done_ (done_of HT_.out (by kernel_rfl)) ?_
            try go_wp2
            go_roundg k1
            case measure => have := HK1.out; omega
            case rel => exact ⟨(wrap64 (x42_1 + 1)), (y451), (.slice Ao85 y451.length co85), (by first | rfl | (simp; done) | (simp [*]; done)), H', ⟨by have := HK1.out; omega⟩, ⟨by (with_reducible repeat first|apply sA|apply sN|apply sD); exact Kd.S_mono (Kd.S_far (p := ⟨gb429, 0, none⟩) (Kd.S_types HO453.out BK429.out (by decide)) (fun _ hk => hk.2) (.slice Ao85 y451.length co85)) (fun _ hk => trivial)⟩, ⟨by (with_reducible repeat first|apply qN|apply qD|apply qA); refine blk_far ?_ NB415_429.out _; (with_reducible repeat first|apply qN|apply qD|apply qA); exact BK415.out⟩, ⟨by (with_reducible repeat first|apply qN|apply qD|apply qA); refine blk_far ?_ NB416_429.out _; (with_reducible repeat first|apply qN|apply qD|apply qA); exact BK416.out⟩, ⟨by (with_reducible repeat first|apply qN|apply qD|apply qA); refine blk_put (cs := #[u430000]) ?_ 0 _ rfl; (with_reducible repeat first|apply qN|apply qD|apply qA); exact BK429.out⟩, ⟨by exact bq⟩⟩
           ·rw [if_neg c78] at H
            exact absurd H (by simp)
        ·rw [if_neg c44] at H
         exact absurd H (by simp)
       ·rw [if_neg c43] at H
        exact absurd H (by simp)
      ·rw [if_neg c42] at H
       have c42b0 : decide (x42_1 < (l0_0.length : Int)) = false := decide_eq_false c42
       clear c42
       simp only [Option.some.injEq, Prod.mk.injEq] at H
       obtain ⟨rfl, rfl⟩ := H
       have hnb87 := NB429_415.out
       have hnc87 := NB415_429.out
       have hnb88 := NB429_416.out
       have hnc88 := NB416_429.out
       have hcz89_0 : wr.cell? ⟨gb429, 0, none⟩ = some (u430000) := (blk_cell BK429.out 0).trans rfl
       have hfz89_0 := blk_frozen BK429.out 0
       obtain ⟨Ao90, co90, eo90⟩ := Kd.S_slice HO_430000.out
       subst eo90
       have hnb91 := NB416_415.out
       have hnc91 := NB415_416.out
       have hcz92_0 : wr.cell? ⟨gb416, 0, none⟩ = some (.slice none 0 0) := (blk_cell BK416.out 0).trans rfl
       have hfz92_0 := blk_frozen BK416.out 0
       go_wp2
       refine bodyPost_ret (results_ct rfl _ _ gb416 36 #[.slice Ao90 x430000_1.length co90] (0, 0) _ rfl (by (with_reducible repeat first|apply qN|apply qD|apply qA); refine blk_put (cs := #[.slice none 0 0]) ?_ 0 _ rfl; (with_reducible repeat first|apply qN|apply qD|apply qA); exact BK416.out) Try.underlying36 rfl (by kernel_rfl)) rfl ?_
       exact ⟨_, by first | rfl | (simp [errW_none, errW_some] <;> rfl) | (simp [*, errW_none, errW_some] <;> rfl), by (with_reducible repeat first|apply sA|apply sN|apply sD); exact Kd.S_mono (Kd.S_far (p := ⟨gb416, 0, none⟩) (Kd.S_types HO_430000.out BK416.out (by decide)) (fun _ hk => hk.2) (.slice Ao90 x430000_1.length co90)) (fun _ hk => trivial), by exact bq⟩
  ·rw [if_neg c4] at H
   exact absurd H (by simp)
 ·rw [if_neg c3] at H
  exact absurd H (by simp)

end Go.Proofs.Ytacdlipojhoilaa.Ux
