-- Written by hook.py, a program of this session (wip/), which runs the kit's print.py with its own parts; Lean checks it.
import Derived.Test.YtacdlipojhoilaaUx0
import Derived.Test.YtacdlipojhoilaaUx7
import Derived.Test.YtacdlipojhoilaaUx8
import Derived.Test.YtacdlipojhoilaaUx9
import Derived.Test.YtacdlipojhoilaaUxXSq
namespace Go.Proofs.Ytacdlipojhoilaa.Ux
open Go.RowKit Go.Proofs.YtacdlipojhoilaaW.PrintWords Go.Proofs.YtacdlipojhoilaaW.PrintLast Go.Proofs.YtacdlipojhoilaaW.PrintMore Go.Proofs.Ytacdlipojhoilaa.Sq
attribute [local go_sem] max2_int min2_int max_two min_two max_three min_three max_four min_four   -- for this text's walks alone
set_option linter.unusedVariables false
set_option linter.unusedSimpArgs false

def spec_maGrow.l0 : Nat → Int → Int → Int → List (List Int) → List (List Int) → Option ((List (List Int)))
 | 0, _, _, _, _, _ => none
 | k + 1, x1, x5, x8, x252000, x264000 => if x8 ≤ x5 then (if x8 = x1 then (if 0 ≤ (wrap64 (x5 + 1)) then (if (wrap64 (x5 + 1) : Int).toNat ≤ 35184372088832 then ((some (List.replicate (wrap64 (x5 + 1) : Int).toNat 0 : List Int)).bind fun y264 => (if 0 ≤ x5 then (if x5 < (y264.length : Int) then (if x264000.length < 5864062014805 then (spec_maGrow.l0 k x1 x5 (wrap64 (x8 + 1)) x252000 (x264000 ++ [(y264.set (x5 : Int).toNat 1)])) else (none)) else (none)) else (none))) else (none)) else (none)) else (if x8 > x1 then (if 0 ≤ (wrap64 (x8 - 1)) then (if (wrap64 (x8 - 1)) < (x252000.length : Int) then ((spec_maWide.f (rd_L2 x252000 (wrap64 (x8 - 1))) x1).bind fun t272 => (if x264000.length < 5864062014805 then (spec_maGrow.l0 k x1 x5 (wrap64 (x8 + 1)) x252000 (x264000 ++ [t272])) else (none))) else (none)) else (none)) else (if 0 ≤ x8 then (if x8 < (x252000.length : Int) then ((spec_maWide.f (rd_L2 x252000 x8) x1).bind fun t279 => (if x1 < x5 then (if 0 ≤ x5 then (if x5 < (t279.length : Int) then (if 0 ≤ x1 then (if x1 < (t279.length : Int) then (if x264000.length < 5864062014805 then (spec_maGrow.l0 k x1 x5 (wrap64 (x8 + 1)) x252000 (x264000 ++ [((t279.set (x1 : Int).toNat (rd t279 x5)).set (x5 : Int).toNat 0)])) else (none)) else (none)) else (none)) else (none)) else (none)) else (if x264000.length < 5864062014805 then (spec_maGrow.l0 k x1 x5 (wrap64 (x8 + 1)) x252000 (x264000 ++ [t279])) else (none)))) else (none)) else (none)))) else (some x264000)
def spec_maGrow.f (k : Nat) (l0_0 : List (List Int)) (a1 : Int) : Option ((List (List Int))) := (spec_maTop.f k l0_0).bind fun t253 => (if a1 ≤ t253 then ((spec_maOwn.f k l0_0).bind fun t254 => (if 0 ≤ a1 then (if a1 < (t254.length : Int) then (if 0 ≤ (wrap64 ((l0_0.length : Int) - 1)) then (if (wrap64 ((l0_0.length : Int) - 1)) < ((rd_L2 t254 a1).length : Int) then (some (t254.set (a1 : Int).toNat ((rd_L2 t254 a1).set ((wrap64 ((l0_0.length : Int) - 1)) : Int).toNat (wrap64 ((rd (rd_L2 t254 a1) (wrap64 ((l0_0.length : Int) - 1))) + 1))))) else (none)) else (none)) else (none)) else (none))) else (spec_maGrow.l0 k a1 (l0_0.length : Int) 0 l0_0 ([] : List (List Int))))
theorem spec_maGrow.mono_l : ∀ k, (∀ y0 y1 y2 y3 y4, LeO (spec_maGrow.l0 k y0 y1 y2 y3 y4) (spec_maGrow.l0 (k + 1) y0 y1 y2 y3 y4))
 | 0 => fun _ _ _ _ _ r h => by simp [spec_maGrow.l0] at h
 | k + 1 => by
  have ih0 := spec_maGrow.mono_l k
  ·intro y0 y1 y2 y3 y4
   unfold spec_maGrow.l0
   repeat' first | with_reducible first | exact ih0 _ _ _ _ _ | exact spec_maOwn.mono _ _ | exact spec_maTop.mono _ _ | exact LeO.refl _ | exact LeO.none _ | refine LeO.ite ?_ ?_ | refine LeO.bind ?_ (fun _ => ?_)
theorem spec_maGrow.mono : ∀ a0 a1 k, LeO (spec_maGrow.f k a0 a1) (spec_maGrow.f (k + 1) a0 a1) := by
 intro a0 a1 k
 have ih0 := spec_maGrow.mono_l k
 unfold spec_maGrow.f
 repeat' first | with_reducible first | exact ih0 _ _ _ _ _ | exact spec_maOwn.mono _ _ | exact spec_maTop.mono _ _ | exact LeO.refl _ | exact LeO.none _ | refine LeO.ite ?_ ?_ | refine LeO.bind ?_ (fun _ => ?_)
def spec_maGrow.T20 : Bool × List (List Nat × List Nat) := (true, [([], []), ([0], [0]), ([], []), ([2], [2]), ([], []), ([4], [4]), ([3, 5], [3, 5]), ([6], [6]), ([], []), ([7, 8], [7, 8]), ([9], [9]), ([1, 10, 9], [1, 10]), ([0, 1, 2, 3, 4, 5, 6, 7, 8, 9, 10, 11], []), ([12, 11, 11, 0, 1, 2, 3, 4, 5, 6, 7, 8, 9, 10, 11], [11, 12])])
def spec_maGrow.B20 : List Nat := [0, 1, 0, 4, 0, 16, 60, 124, 0, 508, 1020, 2047, 4095, 8191]
theorem spec_maGrow.tab20 : rtab .any (opsOf Try.f107 20) = spec_maGrow.T20 := by kernel_rfl
theorem spec_maGrow.bits20 : waitsOk spec_maGrow.T20.2 spec_maGrow.B20 = true := by kernel_rfl
set_option maxHeartbeats 8000000 in
set_option maxRecDepth 100000 in
theorem spec_maGrow.calls (k : Nat) (A0_0 : Option Addr) (c0_0 : Nat) (l0_0 : List (List Int)) (a1 : Int) (r : List (List Int)) (w : World) (hr0_0 : Kd.C (Kd.slice 3 (Kd.int .i64)) w A0_0 l0_0.length l0_0) (hc0_0 : l0_0.length ≤ c0_0) (h : spec_maGrow.f k l0_0 a1 = some r) :
  Calls Try.prog 107 #[.agg #[.slice A0_0 l0_0.length c0_0], .int .i64 a1] w fun e w' => ∃ v0_ : Value, e = .returned (.agg #[v0_]) ∧ Kd.S (Kd.slice 3 (Kd.int .i64)) 24 w' w.heap.size (fun _ => True) v0_ r ∧ Below w.heap.size w w' := by
 have hu36 := Try.underlying36
 have HR0_0 := aM hr0_0
 have HC0_0 := aM hc0_0
 clear hr0_0 hc0_0
 have HB := aM (Below.refl w.heap.size w)
 have H : ((spec_maTop.f k l0_0).bind fun t253 => (if a1 ≤ t253 then ((spec_maOwn.f k l0_0).bind fun t254 => (if 0 ≤ a1 then (if a1 < (t254.length : Int) then (if 0 ≤ (wrap64 ((l0_0.length : Int) - 1)) then (if (wrap64 ((l0_0.length : Int) - 1)) < ((rd_L2 t254 a1).length : Int) then (some (t254.set (a1 : Int).toNat ((rd_L2 t254 a1).set ((wrap64 ((l0_0.length : Int) - 1)) : Int).toNat (wrap64 ((rd (rd_L2 t254 a1) (wrap64 ((l0_0.length : Int) - 1))) + 1))))) else (none)) else (none)) else (none)) else (none))) else (spec_maGrow.l0 k a1 (l0_0.length : Int) 0 l0_0 ([] : List (List Int))))) = some r := h
 clear h
 replace H := Option.bind_eq_some_iff.mp H
 obtain ⟨t253, A30, H⟩ := H
 replace H : (if a1 ≤ t253 then ((spec_maOwn.f k l0_0).bind fun t254 => (if 0 ≤ a1 then (if a1 < (t254.length : Int) then (if 0 ≤ (wrap64 ((l0_0.length : Int) - 1)) then (if (wrap64 ((l0_0.length : Int) - 1)) < ((rd_L2 t254 a1).length : Int) then (some (t254.set (a1 : Int).toNat ((rd_L2 t254 a1).set ((wrap64 ((l0_0.length : Int) - 1)) : Int).toNat (wrap64 ((rd (rd_L2 t254 a1) (wrap64 ((l0_0.length : Int) - 1))) + 1))))) else (none)) else (none)) else (none)) else (none))) else (spec_maGrow.l0 k a1 (l0_0.length : Int) 0 l0_0 ([] : List (List Int)))) = some r := H
 have A3 := aM A30
 clear A30
 by_cases c4 : a1 ≤ t253
 ·rw [if_pos c4] at H
  have c4b0 : decide (a1 ≤ t253) = true := decide_eq_true c4
  clear c4
  replace H := Option.bind_eq_some_iff.mp H
  obtain ⟨t254, A50, H⟩ := H
  replace H : (if 0 ≤ a1 then (if a1 < (t254.length : Int) then (if 0 ≤ (wrap64 ((l0_0.length : Int) - 1)) then (if (wrap64 ((l0_0.length : Int) - 1)) < ((rd_L2 t254 a1).length : Int) then (some (t254.set (a1 : Int).toNat ((rd_L2 t254 a1).set ((wrap64 ((l0_0.length : Int) - 1)) : Int).toNat (wrap64 ((rd (rd_L2 t254 a1) (wrap64 ((l0_0.length : Int) - 1))) + 1))))) else (none)) else (none)) else (none)) else (none)) = some r := H
  have A5 := aM A50
  clear A50
  by_cases c6 : 0 ≤ a1
  ·rw [if_pos c6] at H
   have c6b0 : decide (0 ≤ a1) = true := decide_eq_true c6
   clear c6
   by_cases c7 : a1 < (t254.length : Int)
   ·rw [if_pos c7] at H
    have c7b0 : decide (a1 < (t254.length : Int)) = true := decide_eq_true c7
    clear c7
    obtain ⟨ji8, hji8⟩ : ∃ j_ : Int, (wrap64 ((l0_0.length : Int) - 1)) = j_ := ⟨_, rfl⟩
    replace H : (if 0 ≤ (ji8) then (if (ji8) < ((rd_L2 t254 a1).length : Int) then (some (t254.set (a1 : Int).toNat ((rd_L2 t254 a1).set ((ji8) : Int).toNat (wrap64 ((rd (rd_L2 t254 a1) (ji8)) + 1))))) else (none)) else (none)) = some r := by first | (rw [hji8] at H; exact H) | (simp only [hji8] at H ⊢; exact H)
    (try rw [hji8] at A3)
    (try rw [hji8] at A5)
    have hji8w : (IntKind.i64.wrap ((l0_0.length : Int) - 1)) = ji8 := (i64_w _).trans hji8
    by_cases c9 : 0 ≤ (ji8)
    ·rw [if_pos c9] at H
     have c9b0 : decide (0 ≤ (ji8)) = true := decide_eq_true c9
     clear c9
     by_cases c10 : (ji8) < ((rd_L2 t254 a1).length : Int)
     ·rw [if_pos c10] at H
      have c10b0 : decide ((ji8) < ((rd_L2 t254 a1).length : Int)) = true := decide_eq_true c10
      clear c10
      obtain ⟨y260, hy260⟩ : ∃ y_ : List Int, y_ = ((rd_L2 t254 a1).set ((ji8) : Int).toNat (wrap64 ((rd (rd_L2 t254 a1) (ji8)) + 1))) := ⟨_, rfl⟩
      replace H : (some (t254.set (a1 : Int).toNat y260)) = some r := by first | (rw [hy260]; with_reducible exact H) | (have H2_ := (Option.bind_some _ _).symm.trans H; rw [hy260]; with_reducible exact H2_) | (have H2_ := (Option.bind_some _ _).symm.trans H; with_reducible exact H2_) | with_reducible exact H | (rw [hy260]; exact H) | exact H
      have Ny260 := aM hy260
      clear hy260
      obtain ⟨y262, hy262⟩ : ∃ y_ : List (List Int), y_ = (t254.set (a1 : Int).toNat y260) := ⟨_, rfl⟩
      replace H : (some y262) = some r := by first | (rw [hy262]; with_reducible exact H) | (have H2_ := (Option.bind_some _ _).symm.trans H; rw [hy262]; with_reducible exact H2_) | (have H2_ := (Option.bind_some _ _).symm.trans H; with_reducible exact H2_) | with_reducible exact H | (rw [hy262]; exact H) | exact H
      have Ny262 := aM hy262
      clear hy262
      obtain rfl := Option.some.inj H
      go_enter Try.func107, Try.ntmps107
      go_wp2_with (first | ((with_reducible refine gate_dst (N := 2) rfl ?_); refine bE 2 36 #[.slice A0_0 l0_0.length c0_0] ?_; intro gb251 hg w12 hbox hb; have _ := aM (below_step bq hb); have _ := aM (hbox); have _ := aM ((gS hg)); have _ := aM ((gS hg)); clear HB; rename_i HB BK251 GW251 GE251; clear hb hbox hg) | ((with_reducible refine gate_dst (N := 4) rfl ?_); refine bE 4 36 #[.slice none 0 0] ?_; intro gb252 hg w13 hbox hb; have _ := aM (blk_below (g := gb251) (o := .cells #[.slice A0_0 l0_0.length c0_0] 36 (0, 0)) (qQ BK251) hb); have _ := aM (below_step bq hb); have _ := aM (hbox); have _ := aM ((gS hg)); have _ := aM ((gS hg)); have _ := aM ((by rw [hg]; exact Nat.ne_of_lt (blk_lt (g := gb251) (o := .cells #[.slice A0_0 l0_0.length c0_0] 36 (0, 0)) (qQ BK251)) : gb251 ≠ gb252)); have _ := aM ((by rw [hg]; exact Nat.ne_of_gt (blk_lt (g := gb251) (o := .cells #[.slice A0_0 l0_0.length c0_0] 36 (0, 0)) (qQ BK251)) : gb252 ≠ gb251)); clear BK251 HB; rename_i BK251 HB BK252 GW252 GE252 NB251_252 NB252_251; clear hb hbox hg; have hnb14 := NB251_252.out; have hnc14 := NB252_251.out; have hcz15_0 : w13.cell? ⟨gb251, 0, none⟩ = some (.slice A0_0 l0_0.length c0_0) := (blk_cell BK251.out 0).trans rfl; have hfz15_0 := blk_frozen BK251.out 0) | ((with_reducible refine gate_callee (f := 147) rfl ?_); refine gL (some 16) Try.func147 #[.agg #[.slice A0_0 l0_0.length c0_0]] ?_; (with_reducible refine (spec_maTop.calls k _ _ l0_0 t253 _ (cQ (Kd.C_below HR0_0.out HB.out)) HC0_0.out A3.out).mono ?_); rintro e w16 ⟨rfl, hb⟩; refine ⟨_, rfl, ?_⟩; have _ := aM (blk_below (g := gb251) (o := .cells #[.slice A0_0 l0_0.length c0_0] 36 (0, 0)) (qQ BK251) hb); have _ := aM (blk_below (g := gb252) (o := .cells #[.slice none 0 0] 36 (0, 0)) (qQ BK252) hb); have _ := aM (below_step bq hb); clear BK251 BK252 HB; rename_i BK251 BK252 HB; (try clear hb); (try clear hb2); (try clear hk); (try clear hi); have hcz17_0 : w16.cell? ⟨gb251, 0, none⟩ = some (.slice A0_0 l0_0.length c0_0) := (blk_cell BK251.out 0).trans rfl; have hfz17_0 := blk_frozen BK251.out 0) | ((with_reducible refine gate_callee (f := 148) rfl ?_); refine gL (some 19) Try.func148 #[.agg #[.slice A0_0 l0_0.length c0_0]] ?_; (with_reducible refine (spec_maOwn.calls k _ _ l0_0 t254 _ (cQ (Kd.C_below HR0_0.out HB.out)) HC0_0.out A5.out).mono ?_); rintro e w18 ⟨v255, rfl, ho0, hb⟩; refine ⟨_, rfl, ?_⟩; have _ := aM (Kd.S_lower ho0 (below_size bq)); have _ := aM (blk_below (g := gb251) (o := .cells #[.slice A0_0 l0_0.length c0_0] 36 (0, 0)) (qQ BK251) hb); have _ := aM (blk_below (g := gb252) (o := .cells #[.slice none 0 0] 36 (0, 0)) (qQ BK252) hb); have _ := aM (below_step bq hb); clear BK251 BK252 HB; rename_i HO256 BK251 BK252 HB; (try clear hb); (try clear hb2); (try clear hk); (try clear hi); (try clear ho0)) | ((with_reducible refine gate_dst (N := 6) rfl ?_); refine bE 6 36 #[.slice none 0 0] ?_; intro gb257 hg w19 hbox hb; have _ := aM (Kd.S_below (sQ HO256) hb); have _ := aM (blk_below (g := gb251) (o := .cells #[.slice A0_0 l0_0.length c0_0] 36 (0, 0)) (qQ BK251) hb); have _ := aM (blk_below (g := gb252) (o := .cells #[.slice none 0 0] 36 (0, 0)) (qQ BK252) hb); have _ := aM (below_step bq hb); have _ := aM (hbox); have _ := aM ((gS hg)); have _ := aM ((gS hg)); have _ := aM ((by rw [hg]; exact Nat.ne_of_lt (blk_lt (g := gb251) (o := .cells #[.slice A0_0 l0_0.length c0_0] 36 (0, 0)) (qQ BK251)) : gb251 ≠ gb257)); have _ := aM ((by rw [hg]; exact Nat.ne_of_gt (blk_lt (g := gb251) (o := .cells #[.slice A0_0 l0_0.length c0_0] 36 (0, 0)) (qQ BK251)) : gb257 ≠ gb251)); have _ := aM ((by rw [hg]; exact Nat.ne_of_lt (blk_lt (g := gb252) (o := .cells #[.slice none 0 0] 36 (0, 0)) (qQ BK252)) : gb252 ≠ gb257)); have _ := aM ((by rw [hg]; exact Nat.ne_of_gt (blk_lt (g := gb252) (o := .cells #[.slice none 0 0] 36 (0, 0)) (qQ BK252)) : gb257 ≠ gb252)); clear HO256 BK251 BK252 HB; rename_i HO256 BK251 BK252 HB BK257 GW257 GE257 NB251_257 NB257_251 NB252_257 NB257_252; clear hb hbox hg; obtain ⟨Ao20, co20, eo20⟩ := Kd.S_slice HO256.out; subst eo20; have hnb21 := NB257_251.out; have hnc21 := NB251_257.out; have hnb22 := NB257_252.out; have hnc22 := NB252_257.out; have hcz23_0 : w19.cell? ⟨gb257, 0, none⟩ = some (.slice none 0 0) := (blk_cell BK257.out 0).trans rfl; have hfz23_0 := blk_frozen BK257.out 0) | ((with_reducible refine gate_store (t := 36) (p := 6) rfl ?_); refine sE (w19.setCell ⟨gb257, 0, none⟩ (.slice Ao20 t254.length co20)) 36 6 ?_; intro w24 hw; have _ : Aside0 (Kd.S (Kd.slice 3 (Kd.int .i64)) 24 w24 w.heap.size (fun _ => True) (.slice Ao20 t254.length co20) t254) := ⟨(by rw [hw]; exact (by (with_reducible repeat first|apply sA|apply sN|apply sD); exact Kd.S_mono (Kd.S_far (p := ⟨gb257, 0, none⟩) (Kd.S_types HO256.out BK257.out (by decide)) (fun _ hk => hk.2) (.slice Ao20 t254.length co20)) (fun _ hk => trivial)))⟩; have _ : Aside0 (w24.heap[gb251]? = some (.cells #[.slice A0_0 l0_0.length c0_0] 36 (0, 0))) := ⟨(by rw [hw]; exact (by (with_reducible repeat first|apply qN|apply qD|apply qA); refine blk_far ?_ NB251_257.out _; (with_reducible repeat first|apply qN|apply qD|apply qA); exact BK251.out))⟩; have _ : Aside0 (w24.heap[gb252]? = some (.cells #[.slice none 0 0] 36 (0, 0))) := ⟨(by rw [hw]; exact (by (with_reducible repeat first|apply qN|apply qD|apply qA); refine blk_far ?_ NB252_257.out _; (with_reducible repeat first|apply qN|apply qD|apply qA); exact BK252.out))⟩; have _ : Aside0 (w24.heap[gb257]? = some (.cells #[.slice Ao20 t254.length co20] 36 (0, 0))) := ⟨(by rw [hw]; exact (by (with_reducible repeat first|apply qN|apply qD|apply qA); refine blk_put (cs := #[.slice none 0 0]) ?_ 0 _ rfl; (with_reducible repeat first|apply qN|apply qD|apply qA); exact BK257.out))⟩; have _ : Aside0 (Below w.heap.size w w24) := ⟨(by rw [hw]; exact bq)⟩; clear hw HO256 BK251 BK252 BK257 HB; rename_i HO256 BK251 BK252 BK257 HB; have hcz25_0 : w24.cell? ⟨gb257, 0, none⟩ = some (.slice Ao20 t254.length co20) := (blk_cell BK257.out 0).trans rfl; have hfz25_0 := blk_frozen BK257.out 0; have p258 : 0 ≤ (a1 : Int) := odt; have q258 : a1 < (t254.length : Int) := odt; obtain ⟨ad258, A258_0, c258_0, e258, hx258_0, hl258_0, hi258_0⟩ := at_L2 (Kd.S_reads' HO256.out).2.2 a1 p258 q258; cases e258; obtain ⟨ce258, hce258, hMe258, hcc258⟩ := Kd.S_get HO256.out [] a1 p258 (by first | exact q258 | exact odt | (have e_ := (Kd.S_reads' HO256.out).1; omega)); obtain ⟨ve258_0, rfl, ge258_0⟩ := hMe258; have hv258_0 := hcc258 0 _ rfl; rw [Nat.add_zero, show ((Kd.slice 3 (Kd.int .i64))).sz = 1 from rfl, Nat.mul_one] at hv258_0; replace hv258_0 := Option.some.inj (hv258_0.symm.trans hx258_0); rw [hv258_0] at ge258_0; have HL258_0 := aM (show Kd.R (Kd.int .i64) 3 _ _ _ _ (rd_L2 t254 a1) from ge258_0); clear hv258_0 ge258_0; have HX258_0 := aM hx258_0; clear hcc258 hce258; have HR258_0 := aM hi258_0; have HC258_0 := aM hl258_0; clear hi258_0 hl258_0; replace p258 := eq_true p258; replace q258 := eq_true q258; have p259 : 0 ≤ ((ji8) : Int) := odt; have q259 : (ji8) < ((rd_L2 t254 a1).length : Int) := odt; obtain ⟨ad259, e259, hx259_0⟩ := Kd.at_int (cQ HR258_0.out) (ji8) p259 q259; cases e259; replace p259 := eq_true p259; replace q259 := eq_true q259; have p11 : 0 ≤ ((ji8) : Int) := odt; have q11 : ((ji8) : Int) < (((rd_L2 t254 a1).length : Int) : Int) := odt; obtain ⟨go11, co11, eo11, gb11, gl11, cl11, HG11⟩ := Kd.R_form HL258_0.out (by omega); (first | cases eo11 | (injection eo11 with ea_ en_ ec_; (first | subst ea_ | (injection ea_ with ea_; subst ea_)); subst ec_; clear en_)); have GB11 := aM gb11; have GG11 := aM HG11; clear gb11 gl11 HG11; (first | simp only [add_plain] at hx259_0 | skip); obtain ⟨hx11_0, hf11_0⟩ := Kd.R_celln 0 HL258_0.out ((ji8) : Int) p11 q11; replace p11 := eq_true p11; replace q11 := eq_true q11; have hq26 : (a1 : Int) < (t254.length : Int) := (by have h_ : (a1 : Int) < ((t254.length : Int) : Int) := odt; first | exact h_ | (have e_ := (Kd.S_reads' HO256.out).1; omega) | simpa only [List.length_set, List.length_set] using h_); obtain ⟨oki26, ce26, hcl26, hM26, hcc26, hok26, hbk26⟩ := Kd.S_borrow HO256.out [] (a1 : Int) (odt) hq26; obtain ⟨ve26_0, rfl, ge26_0⟩ := hM26; have hv26 := hcc26 0 _ rfl; rw [Nat.add_zero, show ((Kd.slice 3 (Kd.int .i64))).sz = 1 from rfl, Nat.mul_one] at hv26; replace hv26 := Option.some.inj (hv26.symm.trans HX258_0.out); subst hv26; clear hcc26 hcl26; replace ge26_0 := (show Kd.R (Kd.int .i64) 3 _ _ _ _ (rd_L2 t254 a1) from ge26_0); have HP26 := Kd.R_putg ge26_0 ((ji8) : Int) (wrap64 ((rd (rd_L2 t254 a1) (ji8)) + 1))) | ((with_reducible refine gate_store (t := 3) (p := 30) rfl ?_); refine sE (w24.setCell ⟨go11, ((ji8) : Int).toNat, none⟩ (.int .i64 (wrap64 ((rd (rd_L2 t254 a1) (ji8)) + 1)))) 3 30 ?_; intro w27 hw; have hg : w24.grownBy w27 (some go11) := (by rw [hw]; exact HP26.2); have hz_ : Kd.R (Kd.int .i64) 3 w27 w.heap.size oki26 (.slice (some ⟨go11, 0, none⟩) (rd_L2 t254 a1).length c258_0) y260 := (by rw [hw, Ny260.out]; exact HP26.1); have hp_ : Kd.S (Kd.slice 3 (Kd.int .i64)) 24 w27 w.heap.size (fun _ => True) (.slice (some ad258) t254.length co20) y262 := (by rw [Ny262.out]; exact hbk26 hg (fun k_ e_ => by injection e_ with e_; subst e_; exact ge26_0.1 _ rfl) (Kd.M_row hz_)); have hm_ := Kd.R_mono hz_ hok26; clear HP26 hbk26; have _ := aM (blk_grown (g := gb251) (o := .cells #[.slice A0_0 l0_0.length c0_0] 36 (0, 0)) (qQ BK251) hg (Kd.R_ne HL258_0.out BK251.out (by decide))); have _ := aM (blk_grown (g := gb252) (o := .cells #[.slice none 0 0] 36 (0, 0)) (qQ BK252) hg (Kd.R_ne HL258_0.out BK252.out (by decide))); have _ := aM (hp_); have _ := aM (blk_grown (g := gb257) (o := .cells #[.slice (some ad258) t254.length co20] 36 (0, 0)) (qQ BK257) hg (Kd.R_ne HL258_0.out BK257.out (by decide))); have _ := aM ((by rw [hw]; exact below_set (HB.out) GB11.out : Below w.heap.size w w27)); have _ := aM (hm_); have _ := aM ((Kd.R_reads' hm_).2.1); clear BK251 BK252 HO256 BK257 HB HL258_0; rename_i BK251 BK252 HO256 BK257 HB HL291 HC261; clear hg hw hp_ hz_ hm_ hok26; have hcz28_0 : w27.cell? ⟨gb257, 0, none⟩ = some (.slice (some ad258) t254.length co20) := (blk_cell BK257.out 0).trans rfl; have hfz28_0 := blk_frozen BK257.out 0; have hcz29_0 : w27.cell? ⟨gb252, 0, none⟩ = some (.slice none 0 0) := (blk_cell BK252.out 0).trans rfl; have hfz29_0 := blk_frozen BK252.out 0))
      refine bodyPost_ret (results_cell_row rfl _ _ gb252 36 #[.slice (some ad258) t254.length co20] (0, 0) _ rfl (by (with_reducible repeat first|apply qN|apply qD|apply qA); refine blk_put (cs := #[.slice none 0 0]) ?_ 0 _ rfl; (with_reducible repeat first|apply qN|apply qD|apply qA); exact BK252.out) Try.underlying36 rfl (by kernel_rfl)) rfl ?_
      exact ⟨_, by first | rfl | (simp [errW_none, errW_some] <;> rfl) | (simp only [← hji8]; first | rfl | (simp [errW_none, errW_some] <;> rfl)) | (simp [*, errW_none, errW_some] <;> rfl), by (with_reducible repeat first|apply sA|apply sN|apply sD); exact Kd.S_mono (Kd.S_far (p := ⟨gb252, 0, none⟩) (Kd.S_types HO256.out BK252.out (by decide)) (fun _ hk => hk.2) (.slice (some ad258) t254.length co20)) (fun _ hk => trivial), by exact bq⟩
     ·rw [if_neg c10] at H
      exact absurd H (by simp)
    ·rw [if_neg c9] at H
     exact absurd H (by simp)
   ·rw [if_neg c7] at H
    exact absurd H (by simp)
  ·rw [if_neg c6] at H
   exact absurd H (by simp)
 ·rw [if_neg c4] at H
  have c4b0 : decide (a1 ≤ t253) = false := decide_eq_false c4
  clear c4
  have H' := aM H
  clear H
  go_enter Try.func107, Try.ntmps107
  go_wp2_with (first | ((with_reducible refine gate_dst (N := 2) rfl ?_); refine bE 2 36 #[.slice A0_0 l0_0.length c0_0] ?_; intro gb251 hg w30 hbox hb; have _ := aM (below_step bq hb); have _ := aM (hbox); have _ := aM ((gS hg)); have _ := aM ((gS hg)); clear HB; rename_i HB BK251 GW251 GE251; clear hb hbox hg) | ((with_reducible refine gate_dst (N := 4) rfl ?_); refine bE 4 36 #[.slice none 0 0] ?_; intro gb252 hg w31 hbox hb; have _ := aM (blk_below (g := gb251) (o := .cells #[.slice A0_0 l0_0.length c0_0] 36 (0, 0)) (qQ BK251) hb); have _ := aM (below_step bq hb); have _ := aM (hbox); have _ := aM ((gS hg)); have _ := aM ((gS hg)); have _ := aM ((by rw [hg]; exact Nat.ne_of_lt (blk_lt (g := gb251) (o := .cells #[.slice A0_0 l0_0.length c0_0] 36 (0, 0)) (qQ BK251)) : gb251 ≠ gb252)); have _ := aM ((by rw [hg]; exact Nat.ne_of_gt (blk_lt (g := gb251) (o := .cells #[.slice A0_0 l0_0.length c0_0] 36 (0, 0)) (qQ BK251)) : gb252 ≠ gb251)); clear BK251 HB; rename_i BK251 HB BK252 GW252 GE252 NB251_252 NB252_251; clear hb hbox hg; have hnb32 := NB251_252.out; have hnc32 := NB252_251.out; have hcz33_0 : w31.cell? ⟨gb251, 0, none⟩ = some (.slice A0_0 l0_0.length c0_0) := (blk_cell BK251.out 0).trans rfl; have hfz33_0 := blk_frozen BK251.out 0) | ((with_reducible refine gate_callee (f := 147) rfl ?_); refine gL (some 16) Try.func147 #[.agg #[.slice A0_0 l0_0.length c0_0]] ?_; (with_reducible refine (spec_maTop.calls k _ _ l0_0 t253 _ (cQ (Kd.C_below HR0_0.out HB.out)) HC0_0.out A3.out).mono ?_); rintro e w34 ⟨rfl, hb⟩; refine ⟨_, rfl, ?_⟩; have _ := aM (blk_below (g := gb251) (o := .cells #[.slice A0_0 l0_0.length c0_0] 36 (0, 0)) (qQ BK251) hb); have _ := aM (blk_below (g := gb252) (o := .cells #[.slice none 0 0] 36 (0, 0)) (qQ BK252) hb); have _ := aM (below_step bq hb); clear BK251 BK252 HB; rename_i BK251 BK252 HB; (try clear hb); (try clear hb2); (try clear hk); (try clear hi)) | ((with_reducible refine gate_dst (N := 7) rfl ?_); refine bE 7 36 #[.slice none 0 0] ?_; intro gb263 hg w35 hbox hb; have _ := aM (blk_below (g := gb251) (o := .cells #[.slice A0_0 l0_0.length c0_0] 36 (0, 0)) (qQ BK251) hb); have _ := aM (blk_below (g := gb252) (o := .cells #[.slice none 0 0] 36 (0, 0)) (qQ BK252) hb); have _ := aM (below_step bq hb); have _ := aM (hbox); have _ := aM ((gS hg)); have _ := aM ((gS hg)); have _ := aM ((by rw [hg]; exact Nat.ne_of_lt (blk_lt (g := gb251) (o := .cells #[.slice A0_0 l0_0.length c0_0] 36 (0, 0)) (qQ BK251)) : gb251 ≠ gb263)); have _ := aM ((by rw [hg]; exact Nat.ne_of_gt (blk_lt (g := gb251) (o := .cells #[.slice A0_0 l0_0.length c0_0] 36 (0, 0)) (qQ BK251)) : gb263 ≠ gb251)); have _ := aM ((by rw [hg]; exact Nat.ne_of_lt (blk_lt (g := gb252) (o := .cells #[.slice none 0 0] 36 (0, 0)) (qQ BK252)) : gb252 ≠ gb263)); have _ := aM ((by rw [hg]; exact Nat.ne_of_gt (blk_lt (g := gb252) (o := .cells #[.slice none 0 0] 36 (0, 0)) (qQ BK252)) : gb263 ≠ gb252)); clear BK251 BK252 HB; rename_i BK251 BK252 HB BK263 GW263 GE263 NB251_263 NB263_251 NB252_263 NB263_252; clear hb hbox hg; have hnb36 := NB263_251.out; have hnc36 := NB251_263.out; have hnb37 := NB263_252.out; have hnc37 := NB252_263.out; have hcz38_0 : w35.cell? ⟨gb263, 0, none⟩ = some (.slice none 0 0) := (blk_cell BK263.out 0).trans rfl; have hfz38_0 := blk_frozen BK263.out 0))
  go_loopg [8] k (fun kq v8 w' => ∃ (x8_1 : Int) (x264000_1 : List (List Int)) (u264000 : Value), v8 = .int .i64 x8_1 ∧ Aside0 (spec_maGrow.l0 kq a1 (l0_0.length : Int) x8_1 l0_0 x264000_1 = some r) ∧ Aside0 (kq ≤ k) ∧ Aside0 (Kd.S (Kd.slice 3 (Kd.int .i64)) 24 w' w.heap.size (fun _ => True) u264000 x264000_1) ∧ Aside0 (w'.heap[gb251]? = some (.cells #[(.slice A0_0 l0_0.length c0_0)] 36 (0, 0))) ∧ Aside0 (w'.heap[gb252]? = some (.cells #[(.slice none 0 0)] 36 (0, 0))) ∧ Aside0 (w'.heap[gb263]? = some (.cells #[u264000] 36 (0, 0))) ∧ Aside0 (Below w.heap.size w w'))
  case atStart => exact ⟨(0), (([] : List (List Int))), (.slice none 0 0), (by first | rfl | (simp; done) | (simp [*]; done)), H', ⟨Nat.le_refl _⟩, ⟨by first | exact Kd.S_nil _ _ _ _ _ | exact Kd.N_nil _ _ _ _ _ | exact Kd.V_nil _ _ _ _ _ | exact Kd.Q_nil _ _ _ _ _ | exact Kd.R_nil _ _ _ _ _⟩, ⟨by (with_reducible repeat first|apply qN|apply qD|apply qA); refine blk_far ?_ NB251_263.out _; (with_reducible repeat first|apply qN|apply qD|apply qA); exact BK251.out⟩, ⟨by (with_reducible repeat first|apply qN|apply qD|apply qA); refine blk_far ?_ NB252_263.out _; (with_reducible repeat first|apply qN|apply qD|apply qA); exact BK252.out⟩, ⟨by (with_reducible repeat first|apply qN|apply qD|apply qA); refine blk_put (cs := #[.slice none 0 0]) ?_ 0 _ rfl; (with_reducible repeat first|apply qN|apply qD|apply qA); exact BK263.out⟩, ⟨by exact bq⟩⟩
  case round =>
   clear H'
   try clear c1
   try clear p1
   try clear q1
   try clear hx1
   try clear c2
   try clear p2
   try clear q2
   try clear hx2
   try clear c3
   try clear c4
   try clear c4b0
   try clear c6
   try clear c6b0
   try clear p6
   try clear c7
   try clear c7b0
   try clear c9
   try clear c9b0
   try clear c10
   try clear c10b0
   try clear p11
   try clear q11
   try clear hx11
   try clear hf11
   try clear c14
   try clear c21
   try clear c22
   try clear c25
   try clear p25
   try clear q25
   try clear hx25
   try clear c26
   try clear q26
   try clear c32
   try clear c36
   try clear c37
   try clear hcz15_0
   try clear hcz17_0
   try clear hcz23_0
   try clear hcz25_0
   try clear hcz28_0
   try clear hcz29_0
   try clear hcz33_0
   try clear hcz38_0
   try clear hfz15_0
   try clear hfz17_0
   try clear hfz23_0
   try clear hfz25_0
   try clear hfz28_0
   try clear hfz29_0
   try clear hfz33_0
   try clear hfz38_0
   try clear hx11_0
   try clear hx258_0
   try clear hx259_0
   try clear p11
   try clear p258
   try clear p259
   try clear q11
   try clear q258
   try clear q259
   obtain ⟨x8_1, x264000_1, u264000, rfl, HA, HK1, HO_264000, BK251, BK252, BK263, HB⟩ := hrel
   cases gk with
   | zero => exact absurd HA.out (by simp [spec_maGrow.l0])
   | succ k1 =>
    have H := HA.out
    clear HA
    simp only [spec_maGrow.l0] at H
    by_cases c39 : x8_1 ≤ (l0_0.length : Int)
    ·rw [if_pos c39] at H
     have c39b0 : decide (x8_1 ≤ (l0_0.length : Int)) = true := decide_eq_true c39
     clear c39
     by_cases c40 : x8_1 = a1
     ·rw [if_pos c40] at H
      have c40b0 : (x8_1 == a1) = true := beq_iff_eq.mpr c40
      have c40b1 : (x8_1 != a1) = false := bne_eq_false_iff_eq.mpr c40
      clear c40
      obtain ⟨ji41, hji41⟩ : ∃ j_ : Int, (wrap64 ((l0_0.length : Int) + 1)) = j_ := ⟨_, rfl⟩
      replace H : (if 0 ≤ (ji41) then (if (ji41 : Int).toNat ≤ 35184372088832 then ((some (List.replicate (ji41 : Int).toNat 0 : List Int)).bind fun y264 => (if 0 ≤ (l0_0.length : Int) then (if (l0_0.length : Int) < (y264.length : Int) then (if x264000_1.length < 5864062014805 then (spec_maGrow.l0 k1 a1 (l0_0.length : Int) (wrap64 (x8_1 + 1)) l0_0 (x264000_1 ++ [(y264.set ((l0_0.length : Int) : Int).toNat 1)])) else (none)) else (none)) else (none))) else (none)) else (none)) = some r := by first | (rw [hji41] at H; exact H) | (simp only [hji41] at H ⊢; exact H)
      have hji41w : (IntKind.i64.wrap ((l0_0.length : Int) + 1)) = ji41 := (i64_w _).trans hji41
      by_cases c42 : 0 ≤ (ji41)
      ·rw [if_pos c42] at H
       have c42b0 := eq_true c42
       have c42b1 : decide (0 ≤ (ji41)) = true := decide_eq_true c42
       clear c42
       by_cases c43 : (ji41 : Int).toNat ≤ 35184372088832
       ·rw [if_pos c43] at H
        have c43b0 := eq_true c43
        have c43b1 : decide ((ji41 : Int).toNat ≤ 35184372088832) = true := decide_eq_true c43
        clear c43
        obtain ⟨y264, hy264⟩ : ∃ y_ : List Int, y_ = (List.replicate (ji41 : Int).toNat 0) := ⟨_, rfl⟩
        replace H : (if 0 ≤ (l0_0.length : Int) then (if (l0_0.length : Int) < (y264.length : Int) then (if x264000_1.length < 5864062014805 then (spec_maGrow.l0 k1 a1 (l0_0.length : Int) (wrap64 (x8_1 + 1)) l0_0 (x264000_1 ++ [(y264.set ((l0_0.length : Int) : Int).toNat 1)])) else (none)) else (none)) else (none)) = some r := by first | (rw [hy264]; with_reducible exact H) | (have H2_ := (Option.bind_some _ _).symm.trans H; rw [hy264]; with_reducible exact H2_) | (have H2_ := (Option.bind_some _ _).symm.trans H; with_reducible exact H2_) | with_reducible exact H | (rw [hy264]; exact H) | exact H
        have Ny264 := aM hy264
        clear hy264
        by_cases c44 : 0 ≤ (l0_0.length : Int)
        ·rw [if_pos c44] at H
         have c44b0 : decide (0 ≤ (l0_0.length : Int)) = true := decide_eq_true c44
         have c44b1 : decide (0 ≤ l0_0.length) = true := decide_eq_true (by omega)
         clear c44
         by_cases c45 : (l0_0.length : Int) < (y264.length : Int)
         ·rw [if_pos c45] at H
          have c45b0 : decide ((l0_0.length : Int) < (y264.length : Int)) = true := decide_eq_true c45
          have c45b1 : decide (l0_0.length < y264.length) = true := decide_eq_true (Int.ofNat_lt.mp c45)
          clear c45
          obtain ⟨y267, hy267⟩ : ∃ y_ : List Int, y_ = (y264.set ((l0_0.length : Int) : Int).toNat 1) := ⟨_, rfl⟩
          replace H : (if x264000_1.length < 5864062014805 then (spec_maGrow.l0 k1 a1 (l0_0.length : Int) (wrap64 (x8_1 + 1)) l0_0 (x264000_1 ++ [y267])) else (none)) = some r := by first | (rw [hy267]; with_reducible exact H) | (have H2_ := (Option.bind_some _ _).symm.trans H; rw [hy267]; with_reducible exact H2_) | (have H2_ := (Option.bind_some _ _).symm.trans H; with_reducible exact H2_) | with_reducible exact H | (rw [hy267]; exact H) | exact H
          have Ny267 := aM hy267
          clear hy267
          by_cases c47 : x264000_1.length < 5864062014805
          ·rw [if_pos c47] at H
           have LMc47 := aM c47
           clear c47
           obtain ⟨y268, hy268⟩ : ∃ y_ : List (List Int), y_ = (x264000_1 ++ [y267]) := ⟨_, rfl⟩
           replace H : (spec_maGrow.l0 k1 a1 (l0_0.length : Int) (wrap64 (x8_1 + 1)) l0_0 y268) = some r := by first | (rw [hy268]; with_reducible exact H) | (have H2_ := (Option.bind_some _ _).symm.trans H; rw [hy268]; with_reducible exact H2_) | (have H2_ := (Option.bind_some _ _).symm.trans H; with_reducible exact H2_) | with_reducible exact H | (rw [hy268]; exact H) | exact H
           have Ny268 := aM hy268
           clear hy268
           have H' := aM H
           clear H
           go_wp2_with (first | ((with_reducible refine gate_dst (N := 70) rfl ?_); refine Kd.R_make (Kd.int .i64) _ 3 rfl (N := 70) rfl 24 _ _ rfl ji41 rfl rfl Try.underlying24 (.int .i64 0) 8 info3 rfl (by decide) (by omega) 0 (ok := fun _ => True) (okp := fun _ => True) rfl (fun _ hk => hk) trivial (odt) (Nat.le_trans (Nat.mul_le_mul_right _ (odt : ji41.toNat ≤ 35184372088832)) (by omega)) (Below.refl _ _) (Nat.le_refl _) ?_; intro v265 w48 ho49 hb hg_ hnew_; clear hg_ hnew_; (first | rw [← Ny264.out] at ho49 | (simp only [Int.reduceToNat] at ho49; rw [← Ny264.out] at ho49)); have _ := aM (Kd.S_elder' (sQ HO_264000) (Kd.R_base ho49) hb); have _ := aM (Kd.R_lower ho49 (below_size bq)); have _ := aM (blk_below (g := gb251) (o := .cells #[.slice A0_0 l0_0.length c0_0] 36 (0, 0)) (qQ BK251) hb); have _ := aM (blk_below (g := gb252) (o := .cells #[.slice none 0 0] 36 (0, 0)) (qQ BK252) hb); have _ := aM (blk_below (g := gb263) (o := .cells #[u264000] 36 (0, 0)) (qQ BK263) hb); have _ := aM (below_step bq hb); clear HO_264000 BK251 BK252 BK263 HB; rename_i HO_264000 HO266 BK251 BK252 BK263 HB; clear hb ho49; have p46 : 0 ≤ ((l0_0.length : Int) : Int) := odt; have q46 : ((l0_0.length : Int) : Int) < ((y264.length : Int) : Int) := odt; obtain ⟨go46, co46, eo46, gb46, gl46, cl46, HG46⟩ := Kd.R_form HO266.out (by omega); (first | cases eo46 | (injection eo46 with ea_ en_ ec_; (first | subst ea_ | (injection ea_ with ea_; subst ea_)); subst ec_; clear en_)); have GB46 := aM gb46; have GG46 := aM HG46; clear gb46 gl46 HG46; obtain ⟨hx46_0, hf46_0⟩ := Kd.R_celln 0 HO266.out ((l0_0.length : Int) : Int) p46 q46; replace p46 := eq_true p46; replace q46 := eq_true q46; obtain ⟨hy50_, hz50_⟩ := Kd.R_celln 0 HO266.out ((l0_0.length : Int) : Int) (odt) (odt); (try simp only [Go.IntWalk.toNatUp] at hy50_ hz50_); have HP50 := Kd.R_putg HO266.out ((l0_0.length : Int) : Int) 1) | ((with_reducible refine gate_store (t := 3) (p := 73) rfl ?_); refine sE (w48.setCell ⟨go46, ((l0_0.length : Int) : Int).toNat, none⟩ (.int .i64 1)) 3 73 ?_; intro w51 hw; have hg : w48.grownBy w51 (some go46) := (by rw [hw]; exact HP50.2); have hp_ : Kd.R (Kd.int .i64) 3 w51 w.heap.size (fun _ => True) (.slice (some ⟨go46, 0, none⟩) y264.length co46) y267 := (by rw [hw, Ny267.out]; exact HP50.1); clear HP50; have _ := aM (Kd.S_after (v := (.slice (some ⟨go46, 0, none⟩) y264.length co46)) (v1 := (.slice (some ⟨go46, 0, none⟩) y264.length co46)) (ok := (fun _ => True)) (sQ HO_264000) hg (.inl rfl)); have _ := aM (blk_grown (g := gb251) (o := .cells #[.slice A0_0 l0_0.length c0_0] 36 (0, 0)) (qQ BK251) hg (Kd.R_ne HO266.out BK251.out (by decide))); have _ := aM (blk_grown (g := gb252) (o := .cells #[.slice none 0 0] 36 (0, 0)) (qQ BK252) hg (Kd.R_ne HO266.out BK252.out (by decide))); have _ := aM (blk_grown (g := gb263) (o := .cells #[u264000] 36 (0, 0)) (qQ BK263) hg (Kd.R_ne HO266.out BK263.out (by decide))); have _ := aM (hp_); have _ := aM ((by rw [hw]; exact below_set (HB.out) GB46.out : Below w.heap.size w w51)); clear HO_264000 BK251 BK252 BK263 HO266 HB; rename_i HO_264000 BK251 BK252 BK263 HO266 HB; clear hg hw hp_; have hnb52 := NB263_251.out; have hnc52 := NB251_263.out; have hnb53 := NB263_252.out; have hnc53 := NB252_263.out; have hcz54_0 : w51.cell? ⟨gb263, 0, none⟩ = some (u264000) := (blk_cell BK263.out 0).trans rfl; have hfz54_0 := blk_frozen BK263.out 0) | ((with_reducible refine gate_builtin (b := .append) (xs := #[.tmp 75, .tmp 77]) rfl ?_); at_builtin; refine Kd.S_append (Kd.slice 3 (Kd.int .i64)) (w0 := w) w.heap.size rfl (.tmp 75) (.tmp 77) 34 24 (.slice none 0 0) 24 rfl Try.underlying34 info24 rfl (by decide) (by omega) u264000 x264000_1 y267 [.slice (some ⟨go46, 0, none⟩) y264.length co46] (fun _ => True) (fun k_ => some k_ = (.slice (some ⟨go46, 0, none⟩) y264.length co46 : Value).ownBlock) rfl rfl ?aP (fun k_ hk_ => ((Kd.R_mono (ok' := fun k_ => ((fun _ => True)) k_ ∧ some k_ ≠ (u264000 : Value).ownBlock) (Kd.R_apart' (HO266.out) (Kd.S_typed HO_264000.out) (by decide)) (fun k_ hk => ⟨trivial, hk.2⟩))).1 k_ hk_.symm) ?aF ?aO ?aB ?aS ?aL ?_; (case aP => exact Kd.M_row (Kd.R_mono (Kd.R_tight rfl (Kd.R_mono (ok' := fun k_ => ((fun _ => True)) k_ ∧ some k_ ≠ (u264000 : Value).ownBlock) (Kd.R_apart' (HO266.out) (Kd.S_typed HO_264000.out) (by decide)) (fun k_ hk => ⟨trivial, hk.2⟩))) (fun _ h_ => h_))); (case aB => exact bq); (case aF => exact (fun _ _ => trivial)); (case aO => exact (by (with_reducible repeat first|apply sA|apply sN|apply sD); exact Kd.S_mono HO_264000.out (fun k_ hk => ⟨trivial, fun e_ => hk.2 e_⟩))); (case aS => exact (below_size bq)); (case aL => have := LMc47.out; omega); intro v269 w55 ho hb hg hat; rw [← Ny268.out] at ho; have _ := aM (blk_grown (g := gb251) (o := .cells #[.slice A0_0 l0_0.length c0_0] 36 (0, 0)) (qQ BK251) hg (Kd.S_ne HO_264000.out BK251.out (by decide))); have _ := aM (blk_grown (g := gb252) (o := .cells #[.slice none 0 0] 36 (0, 0)) (qQ BK252) hg (Kd.S_ne HO_264000.out BK252.out (by decide))); have _ := aM (blk_grown (g := gb263) (o := .cells #[u264000] 36 (0, 0)) (qQ BK263) hg (Kd.S_ne HO_264000.out BK263.out (by decide))); have _ := aM (hb); have _ := aM (ho); clear BK251 BK252 BK263 HB HO_264000 HO266; rename_i BK251 BK252 BK263 HB HO270; clear ho hb hg hat; obtain ⟨Ao56, co56, eo56⟩ := Kd.S_slice HO270.out; subst eo56; have hcz57_0 : w55.cell? ⟨gb263, 0, none⟩ = some (u264000) := (blk_cell BK263.out 0).trans rfl; have hfz57_0 := blk_frozen BK263.out 0))
           go_roundg k1
           case measure => have := HK1.out; omega
           case rel => exact ⟨(wrap64 (x8_1 + 1)), (y268), (.slice Ao56 y268.length co56), (by first | rfl | (simp; done) | (simp [*]; done)), H', ⟨by have := HK1.out; omega⟩, ⟨by (with_reducible repeat first|apply sA|apply sN|apply sD); exact Kd.S_mono (Kd.S_far (p := ⟨gb263, 0, none⟩) (Kd.S_types HO270.out BK263.out (by decide)) (fun _ hk => hk.2) (.slice Ao56 y268.length co56)) (fun _ hk => trivial)⟩, ⟨by (with_reducible repeat first|apply qN|apply qD|apply qA); refine blk_far ?_ NB251_263.out _; (with_reducible repeat first|apply qN|apply qD|apply qA); exact BK251.out⟩, ⟨by (with_reducible repeat first|apply qN|apply qD|apply qA); refine blk_far ?_ NB252_263.out _; (with_reducible repeat first|apply qN|apply qD|apply qA); exact BK252.out⟩, ⟨by (with_reducible repeat first|apply qN|apply qD|apply qA); refine blk_put (cs := #[u264000]) ?_ 0 _ rfl; (with_reducible repeat first|apply qN|apply qD|apply qA); exact BK263.out⟩, ⟨by exact bq⟩⟩
          ·rw [if_neg c47] at H
           exact absurd H (by simp)
         ·rw [if_neg c45] at H
          exact absurd H (by simp)
        ·rw [if_neg c44] at H
         exact absurd H (by simp)
       ·rw [if_neg c43] at H
        exact absurd H (by simp)
      ·rw [if_neg c42] at H
       exact absurd H (by simp)
     ·rw [if_neg c40] at H
      have c40b0 : (x8_1 == a1) = false := beq_eq_false_iff_ne.mpr c40
      have c40b1 : (x8_1 != a1) = true := bne_iff_ne.mpr c40
      by_cases c58 : x8_1 > a1
      ·rw [if_pos c58] at H
       have c58b0 : decide (a1 < x8_1) = true := decide_eq_true c58
       clear c58
       obtain ⟨ji59, hji59⟩ : ∃ j_ : Int, (wrap64 (x8_1 - 1)) = j_ := ⟨_, rfl⟩
       replace H : (if 0 ≤ (ji59) then (if (ji59) < (l0_0.length : Int) then ((spec_maWide.f (rd_L2 l0_0 (ji59)) a1).bind fun t272 => (if x264000_1.length < 5864062014805 then (spec_maGrow.l0 k1 a1 (l0_0.length : Int) (wrap64 (x8_1 + 1)) l0_0 (x264000_1 ++ [t272])) else (none))) else (none)) else (none)) = some r := by first | (rw [hji59] at H; exact H) | (simp only [hji59] at H ⊢; exact H)
       have hji59w : (IntKind.i64.wrap (x8_1 - 1)) = ji59 := (i64_w _).trans hji59
       by_cases c60 : 0 ≤ (ji59)
       ·rw [if_pos c60] at H
        have c60b0 : decide (0 ≤ (ji59)) = true := decide_eq_true c60
        clear c60
        by_cases c61 : (ji59) < (l0_0.length : Int)
        ·rw [if_pos c61] at H
         have c61b0 : decide ((ji59) < (l0_0.length : Int)) = true := decide_eq_true c61
         clear c61
         replace H := Option.bind_eq_some_iff.mp H
         obtain ⟨t272, A620, H⟩ := H
         replace H : (if x264000_1.length < 5864062014805 then (spec_maGrow.l0 k1 a1 (l0_0.length : Int) (wrap64 (x8_1 + 1)) l0_0 (x264000_1 ++ [t272])) else (none)) = some r := H
         have A62 := aM A620
         clear A620
         by_cases c63 : x264000_1.length < 5864062014805
         ·rw [if_pos c63] at H
          have LMc63 := aM c63
          clear c63
          obtain ⟨y275, hy275⟩ : ∃ y_ : List (List Int), y_ = (x264000_1 ++ [t272]) := ⟨_, rfl⟩
          replace H : (spec_maGrow.l0 k1 a1 (l0_0.length : Int) (wrap64 (x8_1 + 1)) l0_0 y275) = some r := by first | (rw [hy275]; with_reducible exact H) | (have H2_ := (Option.bind_some _ _).symm.trans H; rw [hy275]; with_reducible exact H2_) | (have H2_ := (Option.bind_some _ _).symm.trans H; with_reducible exact H2_) | with_reducible exact H | (rw [hy275]; exact H) | exact H
          have Ny275 := aM hy275
          clear hy275
          have H' := aM H
          clear H
          try go_wp2
          have n0_ := aM (Kd.S_drew HO_264000.out)
          have n1_ := aM (blk_drew BK251.out)
          have n2_ := aM (blk_drew BK252.out)
          have n3_ := aM (blk_drew BK263.out)
          have n4_ := aM (below_drew1 HB.out)
          clear HO_264000
          clear BK251
          clear BK252
          clear BK263
          clear HB
          have HO_264000 := n0_
          have BK251 := n1_
          have BK252 := n2_
          have BK263 := n3_
          have HB := n4_
          clear n0_ n1_ n2_ n3_ n4_
          have p271 : 0 ≤ ((ji59) : Int) := odt
          have q271 : (ji59) < (l0_0.length : Int) := odt
          obtain ⟨ad271, A271_0, c271_0, e271, hx271_0, hl271_0, hi271_0⟩ := at_L2 HR0_0.out (ji59) p271 q271
          have hw271_0 := hx271_0
          cases e271
          replace hx271_0 := (HB.out.cell (World.block_lt_of_cell? w _ hx271_0)).trans hx271_0
          have HR271_0 := aM hi271_0
          have HC271_0 := aM hl271_0
          clear hi271_0 hl271_0
          replace p271 := eq_true p271
          replace q271 := eq_true q271
          refine start_ (n := 14) (S := fun w' => w'.cell? ⟨gb263, 0, none⟩ = some (u264000) ∧ w'.cell? ⟨gb251, 0, none⟩ = some (.slice (some ad271) l0_0.length c0_0) ∧ w'.cell? (ad271.add ((ji59)).toNat) = some (.slice A271_0 (rd_L2 l0_0 (ji59)).length c271_0)) (ds := [13]) #[false, false, false, false, false, false, false, false, false, false, false, false, false, false] (by kernel_rfl) rfl rfl ⟨(blk_cell BK263.out 0).trans rfl, (blk_cell BK251.out 0).trans rfl, ((HB.out.cell (World.block_lt_of_cell? w _ hw271_0)).trans hw271_0)⟩ (fun hHeld => ?_); refine with_tabW spec_maGrow.tab20 spec_maGrow.bits20 (fun HT_ HW_ => ?_)
          generalize wr.drew = w64 at HO_264000 BK251 BK252 BK263 HB HR271_0 hx271_0 hHeld ⊢
          refine pure_ (i := 0) (N := some 84) (v := ?_) (a' := ?_) #[true, false, false, false, false, false, false, false, false, false, false, false, false, false] rfl rfl (any_of HT_.out (by kernel_rfl)) (fun _ _ _ h => h) (Or.inl ⟨by rfl, ?_⟩) ?_ ?_
          rotate_left
          ·intro w'
           go_simp
           with_reducible rfl
          rotate_left
          ·simp only [Act.put, List.setIfInBounds_toArray, List.set_cons_zero, List.set_cons_succ, i64_w, i32_w]
           rfl
          refine pure_ (i := 2) (N := some 86) (v := ?_) (a' := ?_) #[true, false, true, false, false, false, false, false, false, false, false, false, false, false] rfl rfl (any_of HT_.out (by kernel_rfl)) (fun _ _ _ h => h) (Or.inl ⟨by rfl, ?_⟩) ?_ ?_
          rotate_left
          ·intro w'
           go_simp
           with_reducible rfl
          rotate_left
          ·simp only [Act.put, List.setIfInBounds_toArray, List.set_cons_zero, List.set_cons_succ, i64_w, i32_w]
           rfl
          refine pure_ (i := 4) (N := some 88) (v := ?_) (a' := ?_) #[true, false, true, false, true, false, false, false, false, false, false, false, false, false] rfl rfl (any_of HT_.out (by kernel_rfl)) (fun _ _ _ h => h) (Or.inl ⟨by rfl, ?_⟩) ?_ ?_
          rotate_left
          ·intro w'
           go_simp
           with_reducible rfl
          rotate_left
          ·simp only [Act.put, List.setIfInBounds_toArray, List.set_cons_zero, List.set_cons_succ, i64_w, i32_w]
           rfl
          refine pure_ (i := 5) (N := some 89) (v := ?_) (a' := ?_) #[true, false, true, false, true, true, false, false, false, false, false, false, false, false] rfl rfl (any_of HT_.out (by kernel_rfl)) (fun _ _ _ h => h) (Or.inl ⟨by rfl, ?_⟩) ?_ ?_
          rotate_left
          ·intro w'
           go_simp
           with_reducible rfl
          rotate_left
          ·simp only [Act.put, List.setIfInBounds_toArray, List.set_cons_zero, List.set_cons_succ, i64_w, i32_w]
           rfl
          refine pure_ (i := 8) (N := some 92) (v := ?_) (a' := ?_) #[true, false, true, false, true, true, false, false, true, false, false, false, false, false] rfl rfl (any_of HT_.out (by kernel_rfl)) (fun _ _ _ h => h) (Or.inl ⟨by rfl, ?_⟩) ?_ ?_
          rotate_left
          ·intro w'
           go_simp
           with_reducible rfl
          rotate_left
          ·simp only [Act.put, List.setIfInBounds_toArray, List.set_cons_zero, List.set_cons_succ, i64_w, i32_w]
           rfl
          refine take_ (i := 1) (N := some 85) (v := ?_) (a' := ?_) #[true, true, true, false, true, true, false, false, true, false, false, false, false, false] rfl rfl (take_ofW HT_.out HW_.out (by kernel_rfl)) (fun _ _ _ h => h) (Or.inl ⟨by rfl, ?_⟩) hHeld ?_ ?_
          rotate_left
          ·rintro w' ⟨s0, s1, s2⟩
           go_simp
           with_reducible rfl
          rotate_left
          ·simp only [Act.put, List.setIfInBounds_toArray, List.set_cons_zero, List.set_cons_succ, i64_w, i32_w]
           rfl
          refine take_ (i := 3) (N := some 87) (v := ?_) (a' := ?_) #[true, true, true, true, true, true, false, false, true, false, false, false, false, false] rfl rfl (take_ofW HT_.out HW_.out (by kernel_rfl)) (fun _ _ _ h => h) (Or.inl ⟨by rfl, ?_⟩) hHeld ?_ ?_
          rotate_left
          ·rintro w' ⟨s0, s1, s2⟩
           go_simp
           with_reducible rfl
          rotate_left
          ·simp only [Act.put, List.setIfInBounds_toArray, List.set_cons_zero, List.set_cons_succ, i64_w, i32_w]
           rfl
          refine pure_ (i := 6) (N := some 90) (v := ?_) (a' := ?_) #[true, true, true, true, true, true, true, false, true, false, false, false, false, false] rfl rfl (any_of HT_.out (by kernel_rfl)) (fun _ _ _ h => h) (Or.inl ⟨by rfl, ?_⟩) ?_ ?_
          rotate_left
          ·intro w'
           go_simp
           with_reducible rfl
          rotate_left
          ·simp only [Act.put, List.setIfInBounds_toArray, List.set_cons_zero, List.set_cons_succ, i64_w, i32_w]
           rfl
          refine take_ (i := 7) (N := some 91) (v := ?_) (a' := ?_) #[true, true, true, true, true, true, true, true, true, false, false, false, false, false] rfl rfl (take_ofW HT_.out HW_.out (by kernel_rfl)) (fun _ _ _ h => h) (Or.inl ⟨by rfl, ?_⟩) hHeld ?_ ?_
          rotate_left
          ·rintro w' ⟨s0, s1, s2⟩
           go_simp
           with_reducible rfl
          rotate_left
          ·simp only [Act.put, List.setIfInBounds_toArray, List.set_cons_zero, List.set_cons_succ, i64_w, i32_w]
           rfl
          refine one_ (i := 9) (N := some 93) #[true, true, true, true, true, true, true, true, true, true, false, false, false, false] rfl rfl (one_of HT_.out (by kernel_rfl)) (by decide) (fun K hK => ?_)
          refine goes_ Try.func149 (by kernel_rfl) rfl #[.slice A271_0 (rd_L2 l0_0 (ji59)).length c271_0, .int .i64 a1] (by rfl) rfl rfl (by (try simp only [List.map_toArray, List.map_cons, List.map_nil]); first | done | (simp only [hji59]; rfl) | rfl | (simp only [List.length_drop, List.length_take]; rfl)) ?_
          with_reducible refine (spec_maWide.calls _ _ (rd_L2 l0_0 (ji59)) a1 t272 _ ?side1 ?side2 A62.out).mono ?_
          (case side1 => repeat (first | exact (Kd.C_below HR271_0.out HB.out) | (with_reducible refine Kd.C_alloc ?_ _) | (with_reducible refine Kd.C_drewN ?_ _) | (with_reducible refine Kd.C_drew ?_)))
          (case side2 => exact HC271_0.out)
          rintro e w65 ⟨v273, rfl, ho0, hb⟩
          refine ⟨_, rfl, ?_⟩
          have n0_ := aM (Kd.S_elder' (sQ HO_264000) (Kd.R_base ho0) hb)
          have n1_ := aM (Kd.R_lower ho0 (below_size bq))
          have n2_ := aM (blk_below (g := gb251) (o := .cells #[.slice (some ad271) l0_0.length c0_0] 36 (0, 0)) (qQ BK251) hb)
          have n3_ := aM (blk_below (g := gb252) (o := .cells #[.slice none 0 0] 36 (0, 0)) (qQ BK252) hb)
          have n4_ := aM (blk_below (g := gb263) (o := .cells #[u264000] 36 (0, 0)) (qQ BK263) hb)
          have n5_ := aM (below_step bq hb)
          clear HO_264000
          clear BK251
          clear BK252
          clear BK263
          clear HB
          have HO_264000 := n0_
          have HO274 := n1_
          have BK251 := n2_
          have BK252 := n3_
          have BK263 := n4_
          have HB := n5_
          clear n0_ n1_ n2_ n3_ n4_ n5_
          (try clear hb)
          (try clear hb2)
          (try clear hk)
          (try clear hi)
          (try clear ho0)
          obtain ⟨Ao67, co67, eo67⟩ := Kd.R_slice HO274.out
          (first | subst eo67 | (injection eo67 with f1_ f2_ f3_; have f4_ := f1_.symm; have f5_ := f3_.symm; clear f1_ f2_ f3_; subst f4_; subst f5_))
          refine hK.out _ _ ⟨(blk_cell BK263.out 0).trans rfl, (blk_cell BK251.out 0).trans rfl, ((HB.out.cell (World.block_lt_of_cell? w _ hw271_0)).trans hw271_0)⟩ (fun hHeld => ?_)
          clear hK K
          refine norm_ (a' := ?_) ?_ ?_
          rotate_left
          ·show Act.put _ (some 93) _ = _
           simp only [Act.put, List.setIfInBounds_toArray, List.set_cons_zero, List.set_cons_succ, i64_w, i32_w]
           rfl
          refine one_ (i := 10) (N := some 94) #[true, true, true, true, true, true, true, true, true, true, true, false, false, false] rfl rfl (one_of HT_.out (by kernel_rfl)) (by decide) (fun K hK => ?_)
          refine value_ (w1 := ?_) (v := ?_) (by rfl) rfl ?_ ?_
          rotate_left 2
          ·go_simp
           constructor
           ·rfl
           ·rfl
          refine hK.out _ _ ⟨(blk_cell (blk_alloc BK263.out _) 0).trans rfl, (blk_cell (blk_alloc BK251.out _) 0).trans rfl, (World.cell?_alloc_lt _ _ _ (World.block_lt_of_cell? _ _ (((HB.out.cell (World.block_lt_of_cell? w _ hw271_0)).trans hw271_0)))).trans (((HB.out.cell (World.block_lt_of_cell? w _ hw271_0)).trans hw271_0))⟩ (fun hHeld => ?_)
          clear hK K
          refine norm_ (a' := ?_) ?_ ?_
          rotate_left
          ·show Act.put _ (some 94) _ = _
           simp only [Act.put, List.setIfInBounds_toArray, List.set_cons_zero, List.set_cons_succ, i64_w, i32_w]
           rfl
          refine one_ (i := 11) (N := some 95) #[true, true, true, true, true, true, true, true, true, true, true, true, false, false] rfl rfl (one_of HT_.out (by kernel_rfl)) (by decide) (fun K hK => ?_)
          refine Kd.S_append_step (Kd.slice 3 (Kd.int .i64)) (w0 := w) w.heap.size (by rfl) (.tmp 85) (.tmp 94) 34 24 (.slice none 0 0) 24 rfl Try.underlying34 info24 rfl (by decide) (by omega) u264000 x264000_1 t272 [.slice Ao67 t272.length co67] (fun _ => True) (fun k_ => some k_ = (.slice Ao67 t272.length co67 : Value).ownBlock) rfl rfl ?aP (fun k_ hk_ => ((Kd.R_mono (ok' := fun k_ => ((fun _ => True)) k_ ∧ some k_ ≠ (u264000 : Value).ownBlock) (Kd.R_apart' (HO274.out) (Kd.S_typed HO_264000.out) (by decide)) (fun k_ hk => ⟨trivial, hk.2⟩))).1 k_ hk_.symm) ?aF ?aO ?aB ?aS ?aL ?_
          (case aP => exact Kd.M_row (Kd.R_mono (Kd.R_tight rfl (Kd.R_mono (ok' := fun k_ => ((fun _ => True)) k_ ∧ some k_ ≠ (u264000 : Value).ownBlock) (Kd.R_apart' (HO274.out) (Kd.S_typed HO_264000.out) (by decide)) (fun k_ hk => ⟨trivial, hk.2⟩))) (fun _ h_ => h_)))
          (case aB => exact bq)
          (case aF => exact (fun _ _ => trivial))
          (case aO => exact (by (with_reducible repeat first|apply sA|apply sN|apply sD); exact Kd.S_mono HO_264000.out (fun k_ hk => ⟨trivial, fun e_ => hk.2 e_⟩)))
          (case aS => exact (below_size bq))
          (case aL => have := LMc63.out; omega)
          intro v276 w66 ho hb hg hat
          rw [← Ny275.out] at ho
          have n0_ := aM (blk_grown (g := gb251) (o := .cells #[.slice (some ad271) l0_0.length c0_0] 36 (0, 0)) (qQ BK251) hg (Kd.S_ne HO_264000.out BK251.out (by decide)))
          have n1_ := aM (blk_grown (g := gb252) (o := .cells #[.slice none 0 0] 36 (0, 0)) (qQ BK252) hg (Kd.S_ne HO_264000.out BK252.out (by decide)))
          have n2_ := aM (blk_grown (g := gb263) (o := .cells #[u264000] 36 (0, 0)) (qQ BK263) hg (Kd.S_ne HO_264000.out BK263.out (by decide)))
          have n3_ := aM (hb)
          have n4_ := aM (ho)
          clear BK251
          clear BK252
          clear BK263
          clear HB
          clear HO_264000
          clear HO274
          have BK251 := n0_
          have BK252 := n1_
          have BK263 := n2_
          have HB := n3_
          have HO277 := n4_
          clear n0_ n1_ n2_ n3_ n4_
          clear ho hb hg hat
          obtain ⟨Ao68, co68, eo68⟩ := Kd.S_slice HO277.out
          (first | subst eo68 | (injection eo68 with f1_ f2_ f3_; have f4_ := f1_.symm; have f5_ := f3_.symm; clear f1_ f2_ f3_; subst f4_; subst f5_))
          refine hK.out _ _ ⟨(blk_cell BK263.out 0).trans rfl, (blk_cell BK251.out 0).trans rfl, ((HB.out.cell (World.block_lt_of_cell? w _ hw271_0)).trans hw271_0)⟩ (fun hHeld => ?_)
          clear hK K
          refine norm_ (a' := ?_) ?_ ?_
          rotate_left
          ·show Act.put _ (some 95) _ = _
           simp only [Act.put, List.setIfInBounds_toArray, List.set_cons_zero, List.set_cons_succ, i64_w, i32_w]
           rfl
          refine pure_ (i := 12) (N := some 96) (v := ?_) (a' := ?_) #[true, true, true, true, true, true, true, true, true, true, true, true, true, false] rfl rfl (any_of HT_.out (by kernel_rfl)) (fun _ _ _ h => h) (Or.inl ⟨by rfl, ?_⟩) ?_ ?_
          rotate_left
          ·intro w'
           go_simp
           with_reducible rfl
          rotate_left
          ·simp only [Act.put, List.setIfInBounds_toArray, List.set_cons_zero, List.set_cons_succ, i64_w, i32_w]
           rfl
          refine last_ (i := 13) (N := none) #[true, true, true, true, true, true, true, true, true, true, true, true, true, true] rfl rfl (one_of HT_.out (by kernel_rfl)) (by decide) (fun K hK => ?_)
          have hs69 : w66.cell? ⟨gb263, 0, none⟩ = some (u264000) := (blk_cell BK263.out 0).trans rfl
          have hfs69 := blk_frozen BK263.out 0
          have hns69_0 := NB251_263.out
          have hns69_1 := NB252_263.out
          have hms69_0 := NB263_251.out
          have hms69_1 := NB263_252.out
          refine skip_ (w1 := ?_) (by rfl) rfl ?_ ?_
          rotate_left
          ·go_simp
           rfl
          refine hK.out _ _ ?_
          clear hK K
          refine done_ (done_of HT_.out (by kernel_rfl)) ?_
          try go_wp2
          go_roundg k1
          case measure => have := HK1.out; omega
          case rel => exact ⟨(wrap64 (x8_1 + 1)), (y275), (.slice Ao68 y275.length co68), (by first | rfl | (simp; done) | (simp [*]; done)), H', ⟨by have := HK1.out; omega⟩, ⟨by (with_reducible repeat first|apply sA|apply sN|apply sD); exact Kd.S_mono (Kd.S_far (p := ⟨gb263, 0, none⟩) (Kd.S_types HO277.out BK263.out (by decide)) (fun _ hk => hk.2) (.slice Ao68 y275.length co68)) (fun _ hk => trivial)⟩, ⟨by (with_reducible repeat first|apply qN|apply qD|apply qA); refine blk_far ?_ NB251_263.out _; (with_reducible repeat first|apply qN|apply qD|apply qA); exact BK251.out⟩, ⟨by (with_reducible repeat first|apply qN|apply qD|apply qA); refine blk_far ?_ NB252_263.out _; (with_reducible repeat first|apply qN|apply qD|apply qA); exact BK252.out⟩, ⟨by (with_reducible repeat first|apply qN|apply qD|apply qA); refine blk_put (cs := #[u264000]) ?_ 0 _ rfl; (with_reducible repeat first|apply qN|apply qD|apply qA); exact BK263.out⟩, ⟨by exact bq⟩⟩
         ·rw [if_neg c63] at H
          exact absurd H (by simp)
        ·rw [if_neg c61] at H
         exact absurd H (by simp)
       ·rw [if_neg c60] at H
        exact absurd H (by simp)
      ·rw [if_neg c58] at H
       have c58b0 : decide (a1 < x8_1) = false := decide_eq_false c58
       clear c58
       by_cases c70 : 0 ≤ x8_1
       ·rw [if_pos c70] at H
        have c70b0 : decide (0 ≤ x8_1) = true := decide_eq_true c70
        clear c70
        by_cases c71 : x8_1 < (l0_0.length : Int)
        ·rw [if_pos c71] at H
         have c71b0 : decide (x8_1 < (l0_0.length : Int)) = true := decide_eq_true c71
         clear c71
         replace H := Option.bind_eq_some_iff.mp H
         obtain ⟨t279, A720, H⟩ := H
         replace H : (if a1 < (l0_0.length : Int) then (if 0 ≤ (l0_0.length : Int) then (if (l0_0.length : Int) < (t279.length : Int) then (if 0 ≤ a1 then (if a1 < (t279.length : Int) then (if x264000_1.length < 5864062014805 then (spec_maGrow.l0 k1 a1 (l0_0.length : Int) (wrap64 (x8_1 + 1)) l0_0 (x264000_1 ++ [((t279.set (a1 : Int).toNat (rd t279 (l0_0.length : Int))).set ((l0_0.length : Int) : Int).toNat 0)])) else (none)) else (none)) else (none)) else (none)) else (none)) else (if x264000_1.length < 5864062014805 then (spec_maGrow.l0 k1 a1 (l0_0.length : Int) (wrap64 (x8_1 + 1)) l0_0 (x264000_1 ++ [t279])) else (none))) = some r := H
         have A72 := aM A720
         clear A720
         by_cases c73 : a1 < (l0_0.length : Int)
         ·rw [if_pos c73] at H
          have c73b0 : decide (a1 < (l0_0.length : Int)) = true := decide_eq_true c73
          clear c73
          by_cases c74 : 0 ≤ (l0_0.length : Int)
          ·rw [if_pos c74] at H
           have c74b0 : decide (0 ≤ (l0_0.length : Int)) = true := decide_eq_true c74
           have c74b1 : decide (0 ≤ l0_0.length) = true := decide_eq_true (by omega)
           clear c74
           by_cases c75 : (l0_0.length : Int) < (t279.length : Int)
           ·rw [if_pos c75] at H
            have c75b0 : decide ((l0_0.length : Int) < (t279.length : Int)) = true := decide_eq_true c75
            have c75b1 : decide (l0_0.length < t279.length) = true := decide_eq_true (Int.ofNat_lt.mp c75)
            clear c75
            by_cases c76 : 0 ≤ a1
            ·rw [if_pos c76] at H
             have c76b0 : decide (0 ≤ a1) = true := decide_eq_true c76
             clear c76
             by_cases c77 : a1 < (t279.length : Int)
             ·rw [if_pos c77] at H
              have c77b0 : decide (a1 < (t279.length : Int)) = true := decide_eq_true c77
              clear c77
              obtain ⟨y283, hy283⟩ : ∃ y_ : List Int, y_ = (t279.set (a1 : Int).toNat (rd t279 (l0_0.length : Int))) := ⟨_, rfl⟩
              replace H : (if x264000_1.length < 5864062014805 then (spec_maGrow.l0 k1 a1 (l0_0.length : Int) (wrap64 (x8_1 + 1)) l0_0 (x264000_1 ++ [(y283.set ((l0_0.length : Int) : Int).toNat 0)])) else (none)) = some r := by first | (rw [hy283]; with_reducible exact H) | (have H2_ := (Option.bind_some _ _).symm.trans H; rw [hy283]; with_reducible exact H2_) | (have H2_ := (Option.bind_some _ _).symm.trans H; with_reducible exact H2_) | with_reducible exact H | (rw [hy283]; exact H) | exact H
              have Ny283 := aM hy283
              clear hy283
              obtain ⟨y284, hy284⟩ : ∃ y_ : List Int, y_ = (y283.set ((l0_0.length : Int) : Int).toNat 0) := ⟨_, rfl⟩
              replace H : (if x264000_1.length < 5864062014805 then (spec_maGrow.l0 k1 a1 (l0_0.length : Int) (wrap64 (x8_1 + 1)) l0_0 (x264000_1 ++ [y284])) else (none)) = some r := by first | (rw [hy284]; with_reducible exact H) | (have H2_ := (Option.bind_some _ _).symm.trans H; rw [hy284]; with_reducible exact H2_) | (have H2_ := (Option.bind_some _ _).symm.trans H; with_reducible exact H2_) | with_reducible exact H | (rw [hy284]; exact H) | exact H
              have Ny284 := aM hy284
              clear hy284
              by_cases c80 : x264000_1.length < 5864062014805
              ·rw [if_pos c80] at H
               have LMc80 := aM c80
               clear c80
               obtain ⟨y285, hy285⟩ : ∃ y_ : List (List Int), y_ = (x264000_1 ++ [y284]) := ⟨_, rfl⟩
               replace H : (spec_maGrow.l0 k1 a1 (l0_0.length : Int) (wrap64 (x8_1 + 1)) l0_0 y285) = some r := by first | (rw [hy285]; with_reducible exact H) | (have H2_ := (Option.bind_some _ _).symm.trans H; rw [hy285]; with_reducible exact H2_) | (have H2_ := (Option.bind_some _ _).symm.trans H; with_reducible exact H2_) | with_reducible exact H | (rw [hy285]; exact H) | exact H
               have Ny285 := aM hy285
               clear hy285
               have H' := aM H
               clear H
               have hnb81 := NB251_252.out
               have hnc81 := NB252_251.out
               have hnb82 := NB251_263.out
               have hnc82 := NB263_251.out
               have hcz83_0 : wr.cell? ⟨gb251, 0, none⟩ = some (.slice A0_0 l0_0.length c0_0) := (blk_cell BK251.out 0).trans rfl
               have hfz83_0 := blk_frozen BK251.out 0
               have p278 : 0 ≤ (x8_1 : Int) := odt
               have q278 : x8_1 < (l0_0.length : Int) := odt
               obtain ⟨ad278, A278_0, c278_0, e278, hx278_0, hl278_0, hi278_0⟩ := at_L2 HR0_0.out x8_1 p278 q278
               cases e278
               replace hx278_0 := (HB.out.cell (World.block_lt_of_cell? w _ hx278_0)).trans hx278_0
               have HR278_0 := aM hi278_0
               have HC278_0 := aM hl278_0
               clear hi278_0 hl278_0
               replace p278 := eq_true p278
               replace q278 := eq_true q278
               go_wp2_with (first | ((with_reducible refine gate_callee (f := 149) rfl ?_); refine gL (some 44) Try.func149 #[.slice A278_0 (rd_L2 l0_0 x8_1).length c278_0, .int .i64 a1] ?_; (with_reducible refine (spec_maWide.calls _ _ (rd_L2 l0_0 x8_1) a1 t279 _ (cQ (Kd.C_below HR278_0.out HB.out)) HC278_0.out A72.out).mono ?_); rintro e w84 ⟨v280, rfl, ho0, hb⟩; refine ⟨_, rfl, ?_⟩; have _ := aM (Kd.S_elder' (sQ HO_264000) (Kd.R_base ho0) hb); have _ := aM (Kd.R_lower ho0 (below_size bq)); have _ := aM (blk_below (g := gb251) (o := .cells #[.slice (some ad278) l0_0.length c0_0] 36 (0, 0)) (qQ BK251) hb); have _ := aM (blk_below (g := gb252) (o := .cells #[.slice none 0 0] 36 (0, 0)) (qQ BK252) hb); have _ := aM (blk_below (g := gb263) (o := .cells #[u264000] 36 (0, 0)) (qQ BK263) hb); have _ := aM (below_step bq hb); clear HO_264000 BK251 BK252 BK263 HB; rename_i HO_264000 HO281 BK251 BK252 BK263 HB; (try clear hb); (try clear hb2); (try clear hk); (try clear hi); (try clear ho0); obtain ⟨Ao85, co85, eo85⟩ := Kd.R_slice HO281.out; subst eo85; have p282 : 0 ≤ ((l0_0.length : Int) : Int) := odt; have q282 : (l0_0.length : Int) < (t279.length : Int) := odt; obtain ⟨ad282, e282, hx282_0⟩ := Kd.at_int (Kd.R_reads' HO281.out).2.2 (l0_0.length : Int) p282 q282; cases e282; (try simp only [Go.IntWalk.toNatUp] at hx282_0); replace p282 := eq_true p282; replace q282 := eq_true q282; have p78 : 0 ≤ (a1 : Int) := odt; have q78 : (a1 : Int) < ((t279.length : Int) : Int) := odt; obtain ⟨go78, co78, eo78, gb78, gl78, cl78, HG78⟩ := Kd.R_form HO281.out (by omega); (first | cases eo78 | (injection eo78 with ea_ en_ ec_; (first | subst ea_ | (injection ea_ with ea_; subst ea_)); subst ec_; clear en_)); have GB78 := aM gb78; have GG78 := aM HG78; clear gb78 gl78 HG78; (first | simp only [add_plain] at hx282_0 | skip); obtain ⟨hx78_0, hf78_0⟩ := Kd.R_celln 0 HO281.out (a1 : Int) p78 q78; replace p78 := eq_true p78; replace q78 := eq_true q78; obtain ⟨hy86_, hz86_⟩ := Kd.R_celln 0 HO281.out (a1 : Int) (odt) (odt); have HP86 := Kd.R_putg HO281.out (a1 : Int) (rd t279 (l0_0.length : Int))) | ((with_reducible refine gate_store (t := 3) (p := 54) rfl ?_); refine sE (w84.setCell ⟨go78, (a1 : Int).toNat, none⟩ (.int .i64 (rd t279 (l0_0.length : Int)))) 3 54 ?_; intro w87 hw; have hg : w84.grownBy w87 (some go78) := (by rw [hw]; exact HP86.2); have hp_ : Kd.R (Kd.int .i64) 3 w87 w.heap.size (fun _ => True) (.slice (some ⟨go78, 0, none⟩) t279.length co85) y283 := (by rw [hw, Ny283.out]; exact HP86.1); clear HP86; have _ := aM (Kd.S_after (v := (.slice (some ⟨go78, 0, none⟩) t279.length co85)) (v1 := (.slice (some ⟨go78, 0, none⟩) t279.length co85)) (ok := (fun _ => True)) (sQ HO_264000) hg (.inl rfl)); have _ := aM (blk_grown (g := gb251) (o := .cells #[.slice (some ad278) l0_0.length c0_0] 36 (0, 0)) (qQ BK251) hg (Kd.R_ne HO281.out BK251.out (by decide))); have _ := aM (blk_grown (g := gb252) (o := .cells #[.slice none 0 0] 36 (0, 0)) (qQ BK252) hg (Kd.R_ne HO281.out BK252.out (by decide))); have _ := aM (blk_grown (g := gb263) (o := .cells #[u264000] 36 (0, 0)) (qQ BK263) hg (Kd.R_ne HO281.out BK263.out (by decide))); have _ := aM (hp_); have _ := aM ((by rw [hw]; exact below_set (HB.out) GB78.out : Below w.heap.size w w87)); clear HO_264000 BK251 BK252 BK263 HO281 HB; rename_i HO_264000 BK251 BK252 BK263 HO281 HB; clear hg hw hp_; have p79 : 0 ≤ ((l0_0.length : Int) : Int) := odt; have q79 : ((l0_0.length : Int) : Int) < ((t279.length : Int) : Int) := odt; obtain ⟨hx79_0, hf79_0⟩ := Kd.R_celln 0 HO281.out ((l0_0.length : Int) : Int) p79 q79; replace p79 := eq_true p79; replace q79 := eq_true q79; obtain ⟨hy88_, hz88_⟩ := Kd.R_celln 0 HO281.out ((l0_0.length : Int) : Int) (odt) (odt); (try simp only [Go.IntWalk.toNatUp] at hy88_ hz88_); have HP88 := Kd.R_putg HO281.out ((l0_0.length : Int) : Int) 0) | ((with_reducible refine gate_store (t := 3) (p := 57) rfl ?_); refine sE (w87.setCell ⟨go78, ((l0_0.length : Int) : Int).toNat, none⟩ (.int .i64 0)) 3 57 ?_; intro w89 hw; have hg : w87.grownBy w89 (some go78) := (by rw [hw]; exact HP88.2); have hp_ : Kd.R (Kd.int .i64) 3 w89 w.heap.size (fun _ => True) (.slice (some ⟨go78, 0, none⟩) t279.length co85) y284 := (by rw [hw, Ny284.out]; exact HP88.1); clear HP88; have _ := aM (Kd.S_after (v := (.slice (some ⟨go78, 0, none⟩) t279.length co85)) (v1 := (.slice (some ⟨go78, 0, none⟩) t279.length co85)) (ok := (fun _ => True)) (sQ HO_264000) hg (.inl rfl)); have _ := aM (blk_grown (g := gb251) (o := .cells #[.slice (some ad278) l0_0.length c0_0] 36 (0, 0)) (qQ BK251) hg (Kd.R_ne HO281.out BK251.out (by decide))); have _ := aM (blk_grown (g := gb252) (o := .cells #[.slice none 0 0] 36 (0, 0)) (qQ BK252) hg (Kd.R_ne HO281.out BK252.out (by decide))); have _ := aM (blk_grown (g := gb263) (o := .cells #[u264000] 36 (0, 0)) (qQ BK263) hg (Kd.R_ne HO281.out BK263.out (by decide))); have _ := aM (hp_); have _ := aM ((by rw [hw]; exact below_set (HB.out) GB78.out : Below w.heap.size w w89)); clear HO_264000 BK251 BK252 BK263 HO281 HB; rename_i HO_264000 BK251 BK252 BK263 HO281 HB; clear hg hw hp_; have hnb90 := NB263_252.out; have hnc90 := NB252_263.out; have hcz91_0 : w89.cell? ⟨gb263, 0, none⟩ = some (u264000) := (blk_cell BK263.out 0).trans rfl; have hfz91_0 := blk_frozen BK263.out 0) | ((with_reducible refine gate_builtin (b := .append) (xs := #[.tmp 59, .tmp 61]) rfl ?_); at_builtin; refine Kd.S_append (Kd.slice 3 (Kd.int .i64)) (w0 := w) w.heap.size rfl (.tmp 59) (.tmp 61) 34 24 (.slice none 0 0) 24 rfl Try.underlying34 info24 rfl (by decide) (by omega) u264000 x264000_1 y284 [.slice (some ⟨go78, 0, none⟩) t279.length co85] (fun _ => True) (fun k_ => some k_ = (.slice (some ⟨go78, 0, none⟩) t279.length co85 : Value).ownBlock) rfl rfl ?aP (fun k_ hk_ => ((Kd.R_mono (ok' := fun k_ => ((fun _ => True)) k_ ∧ some k_ ≠ (u264000 : Value).ownBlock) (Kd.R_apart' (HO281.out) (Kd.S_typed HO_264000.out) (by decide)) (fun k_ hk => ⟨trivial, hk.2⟩))).1 k_ hk_.symm) ?aF ?aO ?aB ?aS ?aL ?_; (case aP => exact Kd.M_row (Kd.R_mono (Kd.R_tight rfl (Kd.R_mono (ok' := fun k_ => ((fun _ => True)) k_ ∧ some k_ ≠ (u264000 : Value).ownBlock) (Kd.R_apart' (HO281.out) (Kd.S_typed HO_264000.out) (by decide)) (fun k_ hk => ⟨trivial, hk.2⟩))) (fun _ h_ => h_))); (case aB => exact bq); (case aF => exact (fun _ _ => trivial)); (case aO => exact (by (with_reducible repeat first|apply sA|apply sN|apply sD); exact Kd.S_mono HO_264000.out (fun k_ hk => ⟨trivial, fun e_ => hk.2 e_⟩))); (case aS => exact (below_size bq)); (case aL => have := LMc80.out; omega); intro v286 w92 ho hb hg hat; rw [← Ny285.out] at ho; have _ := aM (blk_grown (g := gb251) (o := .cells #[.slice (some ad278) l0_0.length c0_0] 36 (0, 0)) (qQ BK251) hg (Kd.S_ne HO_264000.out BK251.out (by decide))); have _ := aM (blk_grown (g := gb252) (o := .cells #[.slice none 0 0] 36 (0, 0)) (qQ BK252) hg (Kd.S_ne HO_264000.out BK252.out (by decide))); have _ := aM (blk_grown (g := gb263) (o := .cells #[u264000] 36 (0, 0)) (qQ BK263) hg (Kd.S_ne HO_264000.out BK263.out (by decide))); have _ := aM (hb); have _ := aM (ho); clear BK251 BK252 BK263 HB HO_264000 HO281; rename_i BK251 BK252 BK263 HB HO287; clear ho hb hg hat; obtain ⟨Ao93, co93, eo93⟩ := Kd.S_slice HO287.out; subst eo93; have hcz94_0 : w92.cell? ⟨gb263, 0, none⟩ = some (u264000) := (blk_cell BK263.out 0).trans rfl; have hfz94_0 := blk_frozen BK263.out 0))
               go_roundg k1
               case measure => have := HK1.out; omega
               case rel => exact ⟨(wrap64 (x8_1 + 1)), (y285), (.slice Ao93 y285.length co93), (by first | rfl | (simp; done) | (simp [*]; done)), H', ⟨by have := HK1.out; omega⟩, ⟨by (with_reducible repeat first|apply sA|apply sN|apply sD); exact Kd.S_mono (Kd.S_far (p := ⟨gb263, 0, none⟩) (Kd.S_types HO287.out BK263.out (by decide)) (fun _ hk => hk.2) (.slice Ao93 y285.length co93)) (fun _ hk => trivial)⟩, ⟨by (with_reducible repeat first|apply qN|apply qD|apply qA); refine blk_far ?_ NB251_263.out _; (with_reducible repeat first|apply qN|apply qD|apply qA); exact BK251.out⟩, ⟨by (with_reducible repeat first|apply qN|apply qD|apply qA); refine blk_far ?_ NB252_263.out _; (with_reducible repeat first|apply qN|apply qD|apply qA); exact BK252.out⟩, ⟨by (with_reducible repeat first|apply qN|apply qD|apply qA); refine blk_put (cs := #[u264000]) ?_ 0 _ rfl; (with_reducible repeat first|apply qN|apply qD|apply qA); exact BK263.out⟩, ⟨by exact bq⟩⟩
              ·rw [if_neg c80] at H
               exact absurd H (by simp)
             ·rw [if_neg c77] at H
              exact absurd H (by simp)
            ·rw [if_neg c76] at H
             exact absurd H (by simp)
           ·rw [if_neg c75] at H
            exact absurd H (by simp)
          ·rw [if_neg c74] at H
           exact absurd H (by simp)
         ·rw [if_neg c73] at H
          have c73b0 : decide (a1 < (l0_0.length : Int)) = false := decide_eq_false c73
          clear c73
          by_cases c95 : x264000_1.length < 5864062014805
          ·rw [if_pos c95] at H
           have LMc95 := aM c95
           clear c95
           obtain ⟨y288, hy288⟩ : ∃ y_ : List (List Int), y_ = (x264000_1 ++ [t279]) := ⟨_, rfl⟩
           replace H : (spec_maGrow.l0 k1 a1 (l0_0.length : Int) (wrap64 (x8_1 + 1)) l0_0 y288) = some r := by first | (rw [hy288]; with_reducible exact H) | (have H2_ := (Option.bind_some _ _).symm.trans H; rw [hy288]; with_reducible exact H2_) | (have H2_ := (Option.bind_some _ _).symm.trans H; with_reducible exact H2_) | with_reducible exact H | (rw [hy288]; exact H) | exact H
           have Ny288 := aM hy288
           clear hy288
           have H' := aM H
           clear H
           have hnb96 := NB251_252.out
           have hnc96 := NB252_251.out
           have hnb97 := NB251_263.out
           have hnc97 := NB263_251.out
           have hcz98_0 : wr.cell? ⟨gb251, 0, none⟩ = some (.slice A0_0 l0_0.length c0_0) := (blk_cell BK251.out 0).trans rfl
           have hfz98_0 := blk_frozen BK251.out 0
           have p278 : 0 ≤ (x8_1 : Int) := odt
           have q278 : x8_1 < (l0_0.length : Int) := odt
           obtain ⟨ad278, A278_0, c278_0, e278, hx278_0, hl278_0, hi278_0⟩ := at_L2 HR0_0.out x8_1 p278 q278
           cases e278
           replace hx278_0 := (HB.out.cell (World.block_lt_of_cell? w _ hx278_0)).trans hx278_0
           have HR278_0 := aM hi278_0
           have HC278_0 := aM hl278_0
           clear hi278_0 hl278_0
           replace p278 := eq_true p278
           replace q278 := eq_true q278
           go_wp2_with (first | ((with_reducible refine gate_callee (f := 149) rfl ?_); refine gL (some 44) Try.func149 #[.slice A278_0 (rd_L2 l0_0 x8_1).length c278_0, .int .i64 a1] ?_; (with_reducible refine (spec_maWide.calls _ _ (rd_L2 l0_0 x8_1) a1 t279 _ (cQ (Kd.C_below HR278_0.out HB.out)) HC278_0.out A72.out).mono ?_); rintro e w99 ⟨v280, rfl, ho0, hb⟩; refine ⟨_, rfl, ?_⟩; have _ := aM (Kd.S_elder' (sQ HO_264000) (Kd.R_base ho0) hb); have _ := aM (Kd.R_lower ho0 (below_size bq)); have _ := aM (blk_below (g := gb251) (o := .cells #[.slice (some ad278) l0_0.length c0_0] 36 (0, 0)) (qQ BK251) hb); have _ := aM (blk_below (g := gb252) (o := .cells #[.slice none 0 0] 36 (0, 0)) (qQ BK252) hb); have _ := aM (blk_below (g := gb263) (o := .cells #[u264000] 36 (0, 0)) (qQ BK263) hb); have _ := aM (below_step bq hb); clear HO_264000 BK251 BK252 BK263 HB; rename_i HO_264000 HO281 BK251 BK252 BK263 HB; (try clear hb); (try clear hb2); (try clear hk); (try clear hi); (try clear ho0); have hnb100 := NB263_252.out; have hnc100 := NB252_263.out; have hcz101_0 : w99.cell? ⟨gb263, 0, none⟩ = some (u264000) := (blk_cell BK263.out 0).trans rfl; have hfz101_0 := blk_frozen BK263.out 0; obtain ⟨Ao103, co103, eo103⟩ := Kd.R_slice HO281.out; subst eo103) | ((with_reducible refine gate_builtin (b := .append) (xs := #[.tmp 59, .tmp 61]) rfl ?_); at_builtin; refine Kd.S_append (Kd.slice 3 (Kd.int .i64)) (w0 := w) w.heap.size rfl (.tmp 59) (.tmp 61) 34 24 (.slice none 0 0) 24 rfl Try.underlying34 info24 rfl (by decide) (by omega) u264000 x264000_1 t279 [.slice Ao103 t279.length co103] (fun _ => True) (fun k_ => some k_ = (.slice Ao103 t279.length co103 : Value).ownBlock) rfl rfl ?aP (fun k_ hk_ => ((Kd.R_mono (ok' := fun k_ => ((fun _ => True)) k_ ∧ some k_ ≠ (u264000 : Value).ownBlock) (Kd.R_apart' (HO281.out) (Kd.S_typed HO_264000.out) (by decide)) (fun k_ hk => ⟨trivial, hk.2⟩))).1 k_ hk_.symm) ?aF ?aO ?aB ?aS ?aL ?_; (case aP => exact Kd.M_row (Kd.R_mono (Kd.R_tight rfl (Kd.R_mono (ok' := fun k_ => ((fun _ => True)) k_ ∧ some k_ ≠ (u264000 : Value).ownBlock) (Kd.R_apart' (HO281.out) (Kd.S_typed HO_264000.out) (by decide)) (fun k_ hk => ⟨trivial, hk.2⟩))) (fun _ h_ => h_))); (case aB => exact bq); (case aF => exact (fun _ _ => trivial)); (case aO => exact (by (with_reducible repeat first|apply sA|apply sN|apply sD); exact Kd.S_mono HO_264000.out (fun k_ hk => ⟨trivial, fun e_ => hk.2 e_⟩))); (case aS => exact (below_size bq)); (case aL => have := LMc95.out; omega); intro v289 w102 ho hb hg hat; rw [← Ny288.out] at ho; have _ := aM (blk_grown (g := gb251) (o := .cells #[.slice (some ad278) l0_0.length c0_0] 36 (0, 0)) (qQ BK251) hg (Kd.S_ne HO_264000.out BK251.out (by decide))); have _ := aM (blk_grown (g := gb252) (o := .cells #[.slice none 0 0] 36 (0, 0)) (qQ BK252) hg (Kd.S_ne HO_264000.out BK252.out (by decide))); have _ := aM (blk_grown (g := gb263) (o := .cells #[u264000] 36 (0, 0)) (qQ BK263) hg (Kd.S_ne HO_264000.out BK263.out (by decide))); have _ := aM (hb); have _ := aM (ho); clear BK251 BK252 BK263 HB HO_264000 HO281; rename_i BK251 BK252 BK263 HB HO290; clear ho hb hg hat; obtain ⟨Ao104, co104, eo104⟩ := Kd.S_slice HO290.out; subst eo104; have hcz105_0 : w102.cell? ⟨gb263, 0, none⟩ = some (u264000) := (blk_cell BK263.out 0).trans rfl; have hfz105_0 := blk_frozen BK263.out 0))
           go_roundg k1
           case measure => have := HK1.out; omega
           case rel => exact ⟨(wrap64 (x8_1 + 1)), (y288), (.slice Ao104 y288.length co104), (by first | rfl | (simp; done) | (simp [*]; done)), H', ⟨by have := HK1.out; omega⟩, ⟨by (with_reducible repeat first|apply sA|apply sN|apply sD); exact Kd.S_mono (Kd.S_far (p := ⟨gb263, 0, none⟩) (Kd.S_types HO290.out BK263.out (by decide)) (fun _ hk => hk.2) (.slice Ao104 y288.length co104)) (fun _ hk => trivial)⟩, ⟨by (with_reducible repeat first|apply qN|apply qD|apply qA); refine blk_far ?_ NB251_263.out _; (with_reducible repeat first|apply qN|apply qD|apply qA); exact BK251.out⟩, ⟨by (with_reducible repeat first|apply qN|apply qD|apply qA); refine blk_far ?_ NB252_263.out _; (with_reducible repeat first|apply qN|apply qD|apply qA); exact BK252.out⟩, ⟨by (with_reducible repeat first|apply qN|apply qD|apply qA); refine blk_put (cs := #[u264000]) ?_ 0 _ rfl; (with_reducible repeat first|apply qN|apply qD|apply qA); exact BK263.out⟩, ⟨by exact bq⟩⟩
          ·rw [if_neg c95] at H
           exact absurd H (by simp)
        ·rw [if_neg c71] at H
         exact absurd H (by simp)
       ·rw [if_neg c70] at H
        exact absurd H (by simp)
    ·rw [if_neg c39] at H
     have c39b0 : decide (x8_1 ≤ (l0_0.length : Int)) = false := decide_eq_false c39
     clear c39
     obtain rfl := Option.some.inj H
     have hnb106 := NB263_251.out
     have hnc106 := NB251_263.out
     have hnb107 := NB263_252.out
     have hnc107 := NB252_263.out
     have hcz108_0 : wr.cell? ⟨gb263, 0, none⟩ = some (u264000) := (blk_cell BK263.out 0).trans rfl
     have hfz108_0 := blk_frozen BK263.out 0
     obtain ⟨Ao109, co109, eo109⟩ := Kd.S_slice HO_264000.out
     subst eo109
     have hnb110 := NB252_251.out
     have hnc110 := NB251_252.out
     have hcz111_0 : wr.cell? ⟨gb252, 0, none⟩ = some (.slice none 0 0) := (blk_cell BK252.out 0).trans rfl
     have hfz111_0 := blk_frozen BK252.out 0
     go_wp2
     refine bodyPost_ret (results_cell_row rfl _ _ gb252 36 #[.slice Ao109 x264000_1.length co109] (0, 0) _ rfl (by (with_reducible repeat first|apply qN|apply qD|apply qA); refine blk_put (cs := #[.slice none 0 0]) ?_ 0 _ rfl; (with_reducible repeat first|apply qN|apply qD|apply qA); exact BK252.out) Try.underlying36 rfl (by kernel_rfl)) rfl ?_
     exact ⟨_, by first | rfl | (simp [errW_none, errW_some] <;> rfl) | (simp [*, errW_none, errW_some] <;> rfl), by (with_reducible repeat first|apply sA|apply sN|apply sD); exact Kd.S_mono (Kd.S_far (p := ⟨gb252, 0, none⟩) (Kd.S_types HO_264000.out BK252.out (by decide)) (fun _ hk => hk.2) (.slice Ao109 x264000_1.length co109)) (fun _ hk => trivial), by exact bq⟩

end Go.Proofs.Ytacdlipojhoilaa.Ux
