-- Written by hook.py, a program of this session (wip/), which runs the kit's print.py with its own parts; Lean checks it.
import Derived.Test.YtacdlipojhoilaaZx0
import Derived.Test.YtacdlipojhoilaaZx11
import Derived.Test.YtacdlipojhoilaaZx12
import Derived.Test.YtacdlipojhoilaaZxXSq
namespace Go.Proofs.Ytacdlipojhoilaa.Zx
open Go.RowKit Go.Proofs.YtacdlipojhoilaaW.PrintWords Go.Proofs.YtacdlipojhoilaaW.PrintLast Go.Proofs.YtacdlipojhoilaaW.PrintMore Go.Proofs.Ytacdlipojhoilaa.Sq
attribute [local go_sem] max2_int min2_int max_two min_two max_three min_three max_four min_four   -- for this text's walks alone
set_option linter.unusedVariables false
set_option linter.unusedSimpArgs false

def spec_maGrow.l0 : Nat → Int → Int → Int → List (List Int) → List (List Int) → Option ((List (List Int)))
 | 0, _, _, _, _, _ => none
 | k + 1, x1, x5, x8, x322000, x334000 => if x8 ≤ x5 then (if x8 = x1 then (if 0 ≤ (wrap64 (x5 + 1)) then (if (wrap64 (x5 + 1) : Int).toNat ≤ 35184372088832 then ((some (List.replicate (wrap64 (x5 + 1) : Int).toNat 0 : List Int)).bind fun y334 => (if 0 ≤ x5 then (if x5 < (y334.length : Int) then (if x334000.length < 5864062014805 then (spec_maGrow.l0 k x1 x5 (wrap64 (x8 + 1)) x322000 (x334000 ++ [(y334.set (x5 : Int).toNat 1)])) else (none)) else (none)) else (none))) else (none)) else (none)) else (if x8 > x1 then (if 0 ≤ (wrap64 (x8 - 1)) then (if (wrap64 (x8 - 1)) < (x322000.length : Int) then ((spec_maWide.f (rd_L2 x322000 (wrap64 (x8 - 1))) x1).bind fun t342 => (if x334000.length < 5864062014805 then (spec_maGrow.l0 k x1 x5 (wrap64 (x8 + 1)) x322000 (x334000 ++ [t342])) else (none))) else (none)) else (none)) else (if 0 ≤ x8 then (if x8 < (x322000.length : Int) then ((spec_maWide.f (rd_L2 x322000 x8) x1).bind fun t349 => (if x1 < x5 then (if 0 ≤ x5 then (if x5 < (t349.length : Int) then (if 0 ≤ x1 then (if x1 < (t349.length : Int) then (if x334000.length < 5864062014805 then (spec_maGrow.l0 k x1 x5 (wrap64 (x8 + 1)) x322000 (x334000 ++ [((t349.set (x1 : Int).toNat (rd t349 x5)).set (x5 : Int).toNat 0)])) else (none)) else (none)) else (none)) else (none)) else (none)) else (if x334000.length < 5864062014805 then (spec_maGrow.l0 k x1 x5 (wrap64 (x8 + 1)) x322000 (x334000 ++ [t349])) else (none)))) else (none)) else (none)))) else (some x334000)
def spec_maGrow.f (k : Nat) (l0_0 : List (List Int)) (a1 : Int) : Option ((List (List Int))) := (spec_maTop.f k l0_0).bind fun t323 => (if a1 ≤ t323 then ((spec_maOwn.f k l0_0).bind fun t324 => (if 0 ≤ a1 then (if a1 < (t324.length : Int) then (if 0 ≤ (wrap64 ((l0_0.length : Int) - 1)) then (if (wrap64 ((l0_0.length : Int) - 1)) < ((rd_L2 t324 a1).length : Int) then (some (t324.set (a1 : Int).toNat ((rd_L2 t324 a1).set ((wrap64 ((l0_0.length : Int) - 1)) : Int).toNat (wrap64 ((rd (rd_L2 t324 a1) (wrap64 ((l0_0.length : Int) - 1))) + 1))))) else (none)) else (none)) else (none)) else (none))) else (spec_maGrow.l0 k a1 (l0_0.length : Int) 0 l0_0 ([] : List (List Int))))
theorem spec_maGrow.mono_l : ∀ k, (∀ y0 y1 y2 y3 y4, LeO (spec_maGrow.l0 k y0 y1 y2 y3 y4) (spec_maGrow.l0 (k + 1) y0 y1 y2 y3 y4))
 | 0 => fun _ _ _ _ _ r h => by simp [spec_maGrow.l0] at h
 | k + 1 => by
  have ih0 := spec_maGrow.mono_l k
  ·intro y0 y1 y2 y3 y4
   unfold spec_maGrow.l0
   repeat' first | with_reducible first | exact ih0 _ _ _ _ _ | exact spec_maOwn.mono _ _ | exact spec_maTop.mono _ _ | exact LeO.refl _ | exact LeO.none _ | refine LeO.ite ?_ ?_ | refine LeO.bind ?_ (fun _ => ?_)
theorem spec_maGrow.mono : ∀ a0 a1 k, LeO (spec_maGrow.f k a0 a1) (spec_maGrow.f (k + 1) a0 a1) := by
 intro a0 a1 k
 have ih0 := spec_maGrow.mono_l k
 unfold spec_maGrow.f
 repeat' first | with_reducible first | exact ih0 _ _ _ _ _ | exact spec_maOwn.mono _ _ | exact spec_maTop.mono _ _ | exact LeO.refl _ | exact LeO.none _ | refine LeO.ite ?_ ?_ | refine LeO.bind ?_ (fun _ => ?_)
def spec_maGrow.T20 : Bool × List (List Nat × List Nat) := (true, [([], []), ([0], [0]), ([], []), ([2], [2]), ([], []), ([4], [4]), ([3, 5], [3, 5]), ([6], [6]), ([], []), ([7, 8], [7, 8]), ([9], [9]), ([1, 10, 9], [1, 10]), ([0, 1, 2, 3, 4, 5, 6, 7, 8, 9, 10, 11], []), ([12, 11, 11, 0, 1, 2, 3, 4, 5, 6, 7, 8, 9, 10, 11], [11, 12])])
def spec_maGrow.B20 : List Nat := [0, 1, 0, 4, 0, 16, 60, 124, 0, 508, 1020, 2047, 4095, 8191]
theorem spec_maGrow.tab20 : rtab .any (opsOf Try.f107 20) = spec_maGrow.T20 := by kernel_rfl
theorem spec_maGrow.bits20 : waitsOk spec_maGrow.T20.2 spec_maGrow.B20 = true := by kernel_rfl
set_option maxHeartbeats 8000000 in
set_option maxRecDepth 100000 in
theorem spec_maGrow.calls (k : Nat) (A0_0 : Option Addr) (c0_0 : Nat) (l0_0 : List (List Int)) (a1 : Int) (r : List (List Int)) (w : World) (hr0_0 : Kd.C (Kd.slice 3 (Kd.int .i64)) w A0_0 l0_0.length l0_0) (hc0_0 : l0_0.length ≤ c0_0) (h : spec_maGrow.f k l0_0 a1 = some r) :
  Calls Try.prog 107 #[.agg #[.slice A0_0 l0_0.length c0_0], .int .i64 a1] w fun e w' => ∃ v0_ : Value, e = .returned (.agg #[v0_]) ∧ Kd.S (Kd.slice 3 (Kd.int .i64)) 24 w' w.heap.size (fun _ => True) v0_ r ∧ Below w.heap.size w w' := by
 have hu36 := Try.underlying36
 have HR0_0 := aM hr0_0
 have HC0_0 := aM hc0_0
 clear hr0_0 hc0_0
 have HB := aM (Below.refl w.heap.size w)
 have H : ((spec_maTop.f k l0_0).bind fun t323 => (if a1 ≤ t323 then ((spec_maOwn.f k l0_0).bind fun t324 => (if 0 ≤ a1 then (if a1 < (t324.length : Int) then (if 0 ≤ (wrap64 ((l0_0.length : Int) - 1)) then (if (wrap64 ((l0_0.length : Int) - 1)) < ((rd_L2 t324 a1).length : Int) then (some (t324.set (a1 : Int).toNat ((rd_L2 t324 a1).set ((wrap64 ((l0_0.length : Int) - 1)) : Int).toNat (wrap64 ((rd (rd_L2 t324 a1) (wrap64 ((l0_0.length : Int) - 1))) + 1))))) else (none)) else (none)) else (none)) else (none))) else (spec_maGrow.l0 k a1 (l0_0.length : Int) 0 l0_0 ([] : List (List Int))))) = some r := h
 clear h
 replace H := Option.bind_eq_some_iff.mp H
 obtain ⟨t323, A30, H⟩ := H
 replace H : (if a1 ≤ t323 then ((spec_maOwn.f k l0_0).bind fun t324 => (if 0 ≤ a1 then (if a1 < (t324.length : Int) then (if 0 ≤ (wrap64 ((l0_0.length : Int) - 1)) then (if (wrap64 ((l0_0.length : Int) - 1)) < ((rd_L2 t324 a1).length : Int) then (some (t324.set (a1 : Int).toNat ((rd_L2 t324 a1).set ((wrap64 ((l0_0.length : Int) - 1)) : Int).toNat (wrap64 ((rd (rd_L2 t324 a1) (wrap64 ((l0_0.length : Int) - 1))) + 1))))) else (none)) else (none)) else (none)) else (none))) else (spec_maGrow.l0 k a1 (l0_0.length : Int) 0 l0_0 ([] : List (List Int)))) = some r := H
 have A3 := aM A30
 clear A30
 by_cases c4 : a1 ≤ t323
 ·rw [if_pos c4] at H
  have c4b0 : decide (a1 ≤ t323) = true := decide_eq_true c4
  clear c4
  replace H := Option.bind_eq_some_iff.mp H
  obtain ⟨t324, A50, H⟩ := H
  replace H : (if 0 ≤ a1 then (if a1 < (t324.length : Int) then (if 0 ≤ (wrap64 ((l0_0.length : Int) - 1)) then (if (wrap64 ((l0_0.length : Int) - 1)) < ((rd_L2 t324 a1).length : Int) then (some (t324.set (a1 : Int).toNat ((rd_L2 t324 a1).set ((wrap64 ((l0_0.length : Int) - 1)) : Int).toNat (wrap64 ((rd (rd_L2 t324 a1) (wrap64 ((l0_0.length : Int) - 1))) + 1))))) else (none)) else (none)) else (none)) else (none)) = some r := H
  have A5 := aM A50
  clear A50
  by_cases c6 : 0 ≤ a1
  ·rw [if_pos c6] at H
   have c6b0 : decide (0 ≤ a1) = true := decide_eq_true c6
   clear c6
   by_cases c7 : a1 < (t324.length : Int)
   ·rw [if_pos c7] at H
    have c7b0 : decide (a1 < (t324.length : Int)) = true := decide_eq_true c7
    clear c7
    obtain ⟨ji8, hji8⟩ : ∃ j_ : Int, (wrap64 ((l0_0.length : Int) - 1)) = j_ := ⟨_, rfl⟩
    replace H : (if 0 ≤ (ji8) then (if (ji8) < ((rd_L2 t324 a1).length : Int) then (some (t324.set (a1 : Int).toNat ((rd_L2 t324 a1).set ((ji8) : Int).toNat (wrap64 ((rd (rd_L2 t324 a1) (ji8)) + 1))))) else (none)) else (none)) = some r := by first | (rw [hji8] at H; exact H) | (simp only [hji8] at H ⊢; exact H)
    (try rw [hji8] at A3)
    (try rw [hji8] at A5)
    have hji8w : (IntKind.i64.wrap ((l0_0.length : Int) - 1)) = ji8 := (i64_w _).trans hji8
    by_cases c9 : 0 ≤ (ji8)
    ·rw [if_pos c9] at H
     have c9b0 : decide (0 ≤ (ji8)) = true := decide_eq_true c9
     clear c9
     by_cases c10 : (ji8) < ((rd_L2 t324 a1).length : Int)
     ·rw [if_pos c10] at H
      have c10b0 : decide ((ji8) < ((rd_L2 t324 a1).length : Int)) = true := decide_eq_true c10
      clear c10
      obtain ⟨y330, hy330⟩ : ∃ y_ : List Int, y_ = ((rd_L2 t324 a1).set ((ji8) : Int).toNat (wrap64 ((rd (rd_L2 t324 a1) (ji8)) + 1))) := ⟨_, rfl⟩
      replace H : (some (t324.set (a1 : Int).toNat y330)) = some r := by first | (rw [hy330]; with_reducible exact H) | (have H2_ := (Option.bind_some _ _).symm.trans H; rw [hy330]; with_reducible exact H2_) | (have H2_ := (Option.bind_some _ _).symm.trans H; with_reducible exact H2_) | with_reducible exact H | (rw [hy330]; exact H) | exact H
      have Ny330 := aM hy330
      clear hy330
      obtain ⟨y332, hy332⟩ : ∃ y_ : List (List Int), y_ = (t324.set (a1 : Int).toNat y330) := ⟨_, rfl⟩
      replace H : (some y332) = some r := by first | (rw [hy332]; with_reducible exact H) | (have H2_ := (Option.bind_some _ _).symm.trans H; rw [hy332]; with_reducible exact H2_) | (have H2_ := (Option.bind_some _ _).symm.trans H; with_reducible exact H2_) | with_reducible exact H | (rw [hy332]; exact H) | exact H
      have Ny332 := aM hy332
      clear hy332
      obtain rfl := Option.some.inj H
      go_enter Try.func107, Try.ntmps107
      go_wp2_with (first | ((with_reducible refine gate_dst (N := 2) rfl ?_); refine bE 2 36 #[.slice A0_0 l0_0.length c0_0] ?_; intro gb321 hg w12 hbox hb; have _ := aM (below_step bq hb); have _ := aM (hbox); have _ := aM ((gS hg)); have _ := aM ((gS hg)); clear HB; rename_i HB BK321 GW321 GE321; clear hb hbox hg) | ((with_reducible refine gate_dst (N := 4) rfl ?_); refine bE 4 36 #[.slice none 0 0] ?_; intro gb322 hg w13 hbox hb; have _ := aM (blk_below (g := gb321) (o := .cells #[.slice A0_0 l0_0.length c0_0] 36 (0, 0)) (qQ BK321) hb); have _ := aM (below_step bq hb); have _ := aM (hbox); have _ := aM ((gS hg)); have _ := aM ((gS hg)); have _ := aM ((by rw [hg]; exact Nat.ne_of_lt (blk_lt (g := gb321) (o := .cells #[.slice A0_0 l0_0.length c0_0] 36 (0, 0)) (qQ BK321)) : gb321 ≠ gb322)); have _ := aM ((by rw [hg]; exact Nat.ne_of_gt (blk_lt (g := gb321) (o := .cells #[.slice A0_0 l0_0.length c0_0] 36 (0, 0)) (qQ BK321)) : gb322 ≠ gb321)); clear BK321 HB; rename_i BK321 HB BK322 GW322 GE322 NB321_322 NB322_321; clear hb hbox hg; have hnb14 := NB321_322.out; have hnc14 := NB322_321.out; have hcz15_0 : w13.cell? ⟨gb321, 0, none⟩ = some (.slice A0_0 l0_0.length c0_0) := (blk_cell BK321.out 0).trans rfl; have hfz15_0 := blk_frozen BK321.out 0) | ((with_reducible refine gate_callee (f := 147) rfl ?_); refine gL (some 16) Try.func147 #[.agg #[.slice A0_0 l0_0.length c0_0]] ?_; (with_reducible refine (spec_maTop.calls k _ _ l0_0 t323 _ (cQ (Kd.C_below HR0_0.out HB.out)) HC0_0.out A3.out).mono ?_); rintro e w16 ⟨rfl, hb⟩; refine ⟨_, rfl, ?_⟩; have _ := aM (blk_below (g := gb321) (o := .cells #[.slice A0_0 l0_0.length c0_0] 36 (0, 0)) (qQ BK321) hb); have _ := aM (blk_below (g := gb322) (o := .cells #[.slice none 0 0] 36 (0, 0)) (qQ BK322) hb); have _ := aM (below_step bq hb); clear BK321 BK322 HB; rename_i BK321 BK322 HB; (try clear hb); (try clear hb2); (try clear hk); (try clear hi); have hcz17_0 : w16.cell? ⟨gb321, 0, none⟩ = some (.slice A0_0 l0_0.length c0_0) := (blk_cell BK321.out 0).trans rfl; have hfz17_0 := blk_frozen BK321.out 0) | ((with_reducible refine gate_callee (f := 148) rfl ?_); refine gL (some 19) Try.func148 #[.agg #[.slice A0_0 l0_0.length c0_0]] ?_; (with_reducible refine (spec_maOwn.calls k _ _ l0_0 t324 _ (cQ (Kd.C_below HR0_0.out HB.out)) HC0_0.out A5.out).mono ?_); rintro e w18 ⟨v325, rfl, ho0, hb⟩; refine ⟨_, rfl, ?_⟩; have _ := aM (Kd.S_lower ho0 (below_size bq)); have _ := aM (blk_below (g := gb321) (o := .cells #[.slice A0_0 l0_0.length c0_0] 36 (0, 0)) (qQ BK321) hb); have _ := aM (blk_below (g := gb322) (o := .cells #[.slice none 0 0] 36 (0, 0)) (qQ BK322) hb); have _ := aM (below_step bq hb); clear BK321 BK322 HB; rename_i HO326 BK321 BK322 HB; (try clear hb); (try clear hb2); (try clear hk); (try clear hi); (try clear ho0)) | ((with_reducible refine gate_dst (N := 6) rfl ?_); refine bE 6 36 #[.slice none 0 0] ?_; intro gb327 hg w19 hbox hb; have _ := aM (Kd.S_below (sQ HO326) hb); have _ := aM (blk_below (g := gb321) (o := .cells #[.slice A0_0 l0_0.length c0_0] 36 (0, 0)) (qQ BK321) hb); have _ := aM (blk_below (g := gb322) (o := .cells #[.slice none 0 0] 36 (0, 0)) (qQ BK322) hb); have _ := aM (below_step bq hb); have _ := aM (hbox); have _ := aM ((gS hg)); have _ := aM ((gS hg)); have _ := aM ((by rw [hg]; exact Nat.ne_of_lt (blk_lt (g := gb321) (o := .cells #[.slice A0_0 l0_0.length c0_0] 36 (0, 0)) (qQ BK321)) : gb321 ≠ gb327)); have _ := aM ((by rw [hg]; exact Nat.ne_of_gt (blk_lt (g := gb321) (o := .cells #[.slice A0_0 l0_0.length c0_0] 36 (0, 0)) (qQ BK321)) : gb327 ≠ gb321)); have _ := aM ((by rw [hg]; exact Nat.ne_of_lt (blk_lt (g := gb322) (o := .cells #[.slice none 0 0] 36 (0, 0)) (qQ BK322)) : gb322 ≠ gb327)); have _ := aM ((by rw [hg]; exact Nat.ne_of_gt (blk_lt (g := gb322) (o := .cells #[.slice none 0 0] 36 (0, 0)) (qQ BK322)) : gb327 ≠ gb322)); clear HO326 BK321 BK322 HB; rename_i HO326 BK321 BK322 HB BK327 GW327 GE327 NB321_327 NB327_321 NB322_327 NB327_322; clear hb hbox hg; obtain ⟨Ao20, co20, eo20⟩ := Kd.S_slice HO326.out; subst eo20; have hnb21 := NB327_321.out; have hnc21 := NB321_327.out; have hnb22 := NB327_322.out; have hnc22 := NB322_327.out; have hcz23_0 : w19.cell? ⟨gb327, 0, none⟩ = some (.slice none 0 0) := (blk_cell BK327.out 0).trans rfl; have hfz23_0 := blk_frozen BK327.out 0) | ((with_reducible refine gate_store (t := 36) (p := 6) rfl ?_); refine sE (w19.setCell ⟨gb327, 0, none⟩ (.slice Ao20 t324.length co20)) 36 6 ?_; intro w24 hw; have _ : Aside0 (Kd.S (Kd.slice 3 (Kd.int .i64)) 24 w24 w.heap.size (fun _ => True) (.slice Ao20 t324.length co20) t324) := ⟨(by rw [hw]; exact (by (with_reducible repeat first|apply sA|apply sN|apply sD); exact Kd.S_mono (Kd.S_far (p := ⟨gb327, 0, none⟩) (Kd.S_types HO326.out BK327.out (by decide)) (fun _ hk => hk.2) (.slice Ao20 t324.length co20)) (fun _ hk => trivial)))⟩; have _ : Aside0 (w24.heap[gb321]? = some (.cells #[.slice A0_0 l0_0.length c0_0] 36 (0, 0))) := ⟨(by rw [hw]; exact (by (with_reducible repeat first|apply qN|apply qD|apply qA); refine blk_far ?_ NB321_327.out _; (with_reducible repeat first|apply qN|apply qD|apply qA); exact BK321.out))⟩; have _ : Aside0 (w24.heap[gb322]? = some (.cells #[.slice none 0 0] 36 (0, 0))) := ⟨(by rw [hw]; exact (by (with_reducible repeat first|apply qN|apply qD|apply qA); refine blk_far ?_ NB322_327.out _; (with_reducible repeat first|apply qN|apply qD|apply qA); exact BK322.out))⟩; have _ : Aside0 (w24.heap[gb327]? = some (.cells #[.slice Ao20 t324.length co20] 36 (0, 0))) := ⟨(by rw [hw]; exact (by (with_reducible repeat first|apply qN|apply qD|apply qA); refine blk_put (cs := #[.slice none 0 0]) ?_ 0 _ rfl; (with_reducible repeat first|apply qN|apply qD|apply qA); exact BK327.out))⟩; have _ : Aside0 (Below w.heap.size w w24) := ⟨(by rw [hw]; exact bq)⟩; clear hw HO326 BK321 BK322 BK327 HB; rename_i HO326 BK321 BK322 BK327 HB; have hcz25_0 : w24.cell? ⟨gb327, 0, none⟩ = some (.slice Ao20 t324.length co20) := (blk_cell BK327.out 0).trans rfl; have hfz25_0 := blk_frozen BK327.out 0; have p328 : 0 ≤ (a1 : Int) := odt; have q328 : a1 < (t324.length : Int) := odt; obtain ⟨ad328, A328_0, c328_0, e328, hx328_0, hl328_0, hi328_0⟩ := at_L2 (Kd.S_reads' HO326.out).2.2 a1 p328 q328; cases e328; obtain ⟨ce328, hce328, hMe328, hcc328⟩ := Kd.S_get HO326.out [] a1 p328 (by first | exact q328 | exact odt | (have e_ := (Kd.S_reads' HO326.out).1; omega)); obtain ⟨ve328_0, rfl, ge328_0⟩ := hMe328; have hv328_0 := hcc328 0 _ rfl; rw [Nat.add_zero, show ((Kd.slice 3 (Kd.int .i64))).sz = 1 from rfl, Nat.mul_one] at hv328_0; replace hv328_0 := Option.some.inj (hv328_0.symm.trans hx328_0); rw [hv328_0] at ge328_0; have HL328_0 := aM (show Kd.R (Kd.int .i64) 3 _ _ _ _ (rd_L2 t324 a1) from ge328_0); clear hv328_0 ge328_0; have HX328_0 := aM hx328_0; clear hcc328 hce328; have HR328_0 := aM hi328_0; have HC328_0 := aM hl328_0; clear hi328_0 hl328_0; replace p328 := eq_true p328; replace q328 := eq_true q328; have p329 : 0 ≤ ((ji8) : Int) := odt; have q329 : (ji8) < ((rd_L2 t324 a1).length : Int) := odt; obtain ⟨ad329, e329, hx329_0⟩ := Kd.at_int (cQ HR328_0.out) (ji8) p329 q329; cases e329; replace p329 := eq_true p329; replace q329 := eq_true q329; have p11 : 0 ≤ ((ji8) : Int) := odt; have q11 : ((ji8) : Int) < (((rd_L2 t324 a1).length : Int) : Int) := odt; obtain ⟨go11, co11, eo11, gb11, gl11, cl11, HG11⟩ := Kd.R_form HL328_0.out (by omega); (first | cases eo11 | (injection eo11 with ea_ en_ ec_; (first | subst ea_ | (injection ea_ with ea_; subst ea_)); subst ec_; clear en_)); have GB11 := aM gb11; have GG11 := aM HG11; clear gb11 gl11 HG11; (first | simp only [add_plain] at hx329_0 | skip); obtain ⟨hx11_0, hf11_0⟩ := Kd.R_celln 0 HL328_0.out ((ji8) : Int) p11 q11; replace p11 := eq_true p11; replace q11 := eq_true q11; have hq26 : (a1 : Int) < (t324.length : Int) := (by have h_ : (a1 : Int) < ((t324.length : Int) : Int) := odt; first | exact h_ | (have e_ := (Kd.S_reads' HO326.out).1; omega) | simpa only [List.length_set, List.length_set] using h_); obtain ⟨oki26, ce26, hcl26, hM26, hcc26, hok26, hbk26⟩ := Kd.S_borrow HO326.out [] (a1 : Int) (odt) hq26; obtain ⟨ve26_0, rfl, ge26_0⟩ := hM26; have hv26 := hcc26 0 _ rfl; rw [Nat.add_zero, show ((Kd.slice 3 (Kd.int .i64))).sz = 1 from rfl, Nat.mul_one] at hv26; replace hv26 := Option.some.inj (hv26.symm.trans HX328_0.out); subst hv26; clear hcc26 hcl26; replace ge26_0 := (show Kd.R (Kd.int .i64) 3 _ _ _ _ (rd_L2 t324 a1) from ge26_0); have HP26 := Kd.R_putg ge26_0 ((ji8) : Int) (wrap64 ((rd (rd_L2 t324 a1) (ji8)) + 1))) | ((with_reducible refine gate_store (t := 3) (p := 30) rfl ?_); refine sE (w24.setCell ⟨go11, ((ji8) : Int).toNat, none⟩ (.int .i64 (wrap64 ((rd (rd_L2 t324 a1) (ji8)) + 1)))) 3 30 ?_; intro w27 hw; have hg : w24.grownBy w27 (some go11) := (by rw [hw]; exact HP26.2); have hz_ : Kd.R (Kd.int .i64) 3 w27 w.heap.size oki26 (.slice (some ⟨go11, 0, none⟩) (rd_L2 t324 a1).length c328_0) y330 := (by rw [hw, Ny330.out]; exact HP26.1); have hp_ : Kd.S (Kd.slice 3 (Kd.int .i64)) 24 w27 w.heap.size (fun _ => True) (.slice (some ad328) t324.length co20) y332 := (by rw [Ny332.out]; exact hbk26 hg (fun k_ e_ => by injection e_ with e_; subst e_; exact ge26_0.1 _ rfl) (Kd.M_row hz_)); have hm_ := Kd.R_mono hz_ hok26; clear HP26 hbk26; have _ := aM (blk_grown (g := gb321) (o := .cells #[.slice A0_0 l0_0.length c0_0] 36 (0, 0)) (qQ BK321) hg (Kd.R_ne HL328_0.out BK321.out (by decide))); have _ := aM (blk_grown (g := gb322) (o := .cells #[.slice none 0 0] 36 (0, 0)) (qQ BK322) hg (Kd.R_ne HL328_0.out BK322.out (by decide))); have _ := aM (hp_); have _ := aM (blk_grown (g := gb327) (o := .cells #[.slice (some ad328) t324.length co20] 36 (0, 0)) (qQ BK327) hg (Kd.R_ne HL328_0.out BK327.out (by decide))); have _ := aM ((by rw [hw]; exact below_set (HB.out) GB11.out : Below w.heap.size w w27)); have _ := aM (hm_); have _ := aM ((Kd.R_reads' hm_).2.1); clear BK321 BK322 HO326 BK327 HB HL328_0; rename_i BK321 BK322 HO326 BK327 HB HL361 HC331; clear hg hw hp_ hz_ hm_ hok26; have hcz28_0 : w27.cell? ⟨gb327, 0, none⟩ = some (.slice (some ad328) t324.length co20) := (blk_cell BK327.out 0).trans rfl; have hfz28_0 := blk_frozen BK327.out 0; have hcz29_0 : w27.cell? ⟨gb322, 0, none⟩ = some (.slice none 0 0) := (blk_cell BK322.out 0).trans rfl; have hfz29_0 := blk_frozen BK322.out 0))
      refine bodyPost_ret (results_cell_row rfl _ _ gb322 36 #[.slice (some ad328) t324.length co20] (0, 0) _ rfl (by (with_reducible repeat first|apply qN|apply qD|apply qA); refine blk_put (cs := #[.slice none 0 0]) ?_ 0 _ rfl; (with_reducible repeat first|apply qN|apply qD|apply qA); exact BK322.out) Try.underlying36 rfl (by kernel_rfl)) rfl ?_
      exact ⟨_, by first | rfl | (simp [errW_none, errW_some] <;> rfl) | (simp only [← hji8]; first | rfl | (simp [errW_none, errW_some] <;> rfl)) | (simp [*, errW_none, errW_some] <;> rfl), by (with_reducible repeat first|apply sA|apply sN|apply sD); exact Kd.S_mono (Kd.S_far (p := ⟨gb322, 0, none⟩) (Kd.S_types HO326.out BK322.out (by decide)) (fun _ hk => hk.2) (.slice (some ad328) t324.length co20)) (fun _ hk => trivial), by exact bq⟩
     ·rw [if_neg c10] at H
      exact absurd H (by simp)
    ·rw [if_neg c9] at H
     exact absurd H (by simp)
   ·rw [if_neg c7] at H
    exact absurd H (by simp)
  ·rw [if_neg c6] at H
   exact absurd H (by simp)
 ·rw [if_neg c4] at H
  have c4b0 : decide (a1 ≤ t323) = false := decide_eq_false c4
  clear c4
  have H' := aM H
  clear H
  go_enter Try.func107, Try.ntmps107
  go_wp2_with (first | ((with_reducible refine gate_dst (N := 2) rfl ?_); refine bE 2 36 #[.slice A0_0 l0_0.length c0_0] ?_; intro gb321 hg w30 hbox hb; have _ := aM (below_step bq hb); have _ := aM (hbox); have _ := aM ((gS hg)); have _ := aM ((gS hg)); clear HB; rename_i HB BK321 GW321 GE321; clear hb hbox hg) | ((with_reducible refine gate_dst (N := 4) rfl ?_); refine bE 4 36 #[.slice none 0 0] ?_; intro gb322 hg w31 hbox hb; have _ := aM (blk_below (g := gb321) (o := .cells #[.slice A0_0 l0_0.length c0_0] 36 (0, 0)) (qQ BK321) hb); have _ := aM (below_step bq hb); have _ := aM (hbox); have _ := aM ((gS hg)); have _ := aM ((gS hg)); have _ := aM ((by rw [hg]; exact Nat.ne_of_lt (blk_lt (g := gb321) (o := .cells #[.slice A0_0 l0_0.length c0_0] 36 (0, 0)) (qQ BK321)) : gb321 ≠ gb322)); have _ := aM ((by rw [hg]; exact Nat.ne_of_gt (blk_lt (g := gb321) (o := .cells #[.slice A0_0 l0_0.length c0_0] 36 (0, 0)) (qQ BK321)) : gb322 ≠ gb321)); clear BK321 HB; rename_i BK321 HB BK322 GW322 GE322 NB321_322 NB322_321; clear hb hbox hg; have hnb32 := NB321_322.out; have hnc32 := NB322_321.out; have hcz33_0 : w31.cell? ⟨gb321, 0, none⟩ = some (.slice A0_0 l0_0.length c0_0) := (blk_cell BK321.out 0).trans rfl; have hfz33_0 := blk_frozen BK321.out 0) | ((with_reducible refine gate_callee (f := 147) rfl ?_); refine gL (some 16) Try.func147 #[.agg #[.slice A0_0 l0_0.length c0_0]] ?_; (with_reducible refine (spec_maTop.calls k _ _ l0_0 t323 _ (cQ (Kd.C_below HR0_0.out HB.out)) HC0_0.out A3.out).mono ?_); rintro e w34 ⟨rfl, hb⟩; refine ⟨_, rfl, ?_⟩; have _ := aM (blk_below (g := gb321) (o := .cells #[.slice A0_0 l0_0.length c0_0] 36 (0, 0)) (qQ BK321) hb); have _ := aM (blk_below (g := gb322) (o := .cells #[.slice none 0 0] 36 (0, 0)) (qQ BK322) hb); have _ := aM (below_step bq hb); clear BK321 BK322 HB; rename_i BK321 BK322 HB; (try clear hb); (try clear hb2); (try clear hk); (try clear hi)) | ((with_reducible refine gate_dst (N := 7) rfl ?_); refine bE 7 36 #[.slice none 0 0] ?_; intro gb333 hg w35 hbox hb; have _ := aM (blk_below (g := gb321) (o := .cells #[.slice A0_0 l0_0.length c0_0] 36 (0, 0)) (qQ BK321) hb); have _ := aM (blk_below (g := gb322) (o := .cells #[.slice none 0 0] 36 (0, 0)) (qQ BK322) hb); have _ := aM (below_step bq hb); have _ := aM (hbox); have _ := aM ((gS hg)); have _ := aM ((gS hg)); have _ := aM ((by rw [hg]; exact Nat.ne_of_lt (blk_lt (g := gb321) (o := .cells #[.slice A0_0 l0_0.length c0_0] 36 (0, 0)) (qQ BK321)) : gb321 ≠ gb333)); have _ := aM ((by rw [hg]; exact Nat.ne_of_gt (blk_lt (g := gb321) (o := .cells #[.slice A0_0 l0_0.length c0_0] 36 (0, 0)) (qQ BK321)) : gb333 ≠ gb321)); have _ := aM ((by rw [hg]; exact Nat.ne_of_lt (blk_lt (g := gb322) (o := .cells #[.slice none 0 0] 36 (0, 0)) (qQ BK322)) : gb322 ≠ gb333)); have _ := aM ((by rw [hg]; exact Nat.ne_of_gt (blk_lt (g := gb322) (o := .cells #[.slice none 0 0] 36 (0, 0)) (qQ BK322)) : gb333 ≠ gb322)); clear BK321 BK322 HB; rename_i BK321 BK322 HB BK333 GW333 GE333 NB321_333 NB333_321 NB322_333 NB333_322; clear hb hbox hg; have hnb36 := NB333_321.out; have hnc36 := NB321_333.out; have hnb37 := NB333_322.out; have hnc37 := NB322_333.out; have hcz38_0 : w35.cell? ⟨gb333, 0, none⟩ = some (.slice none 0 0) := (blk_cell BK333.out 0).trans rfl; have hfz38_0 := blk_frozen BK333.out 0))
  go_loopg [8] k (fun kq v8 w' => ∃ (x8_1 : Int) (x334000_1 : List (List Int)) (u334000 : Value), v8 = .int .i64 x8_1 ∧ Aside0 (spec_maGrow.l0 kq a1 (l0_0.length : Int) x8_1 l0_0 x334000_1 = some r) ∧ Aside0 (kq ≤ k) ∧ Aside0 (Kd.S (Kd.slice 3 (Kd.int .i64)) 24 w' w.heap.size (fun _ => True) u334000 x334000_1) ∧ Aside0 (w'.heap[gb321]? = some (.cells #[(.slice A0_0 l0_0.length c0_0)] 36 (0, 0))) ∧ Aside0 (w'.heap[gb322]? = some (.cells #[(.slice none 0 0)] 36 (0, 0))) ∧ Aside0 (w'.heap[gb333]? = some (.cells #[u334000] 36 (0, 0))) ∧ Aside0 (Below w.heap.size w w'))
  case atStart => exact ⟨(0), (([] : List (List Int))), (.slice none 0 0), (by first | rfl | (simp; done) | (simp [*]; done)), H', ⟨Nat.le_refl _⟩, ⟨by first | exact Kd.S_nil _ _ _ _ _ | exact Kd.N_nil _ _ _ _ _ | exact Kd.V_nil _ _ _ _ _ | exact Kd.Q_nil _ _ _ _ _ | exact Kd.R_nil _ _ _ _ _⟩, ⟨by (with_reducible repeat first|apply qN|apply qD|apply qA); refine blk_far ?_ NB321_333.out _; (with_reducible repeat first|apply qN|apply qD|apply qA); exact BK321.out⟩, ⟨by (with_reducible repeat first|apply qN|apply qD|apply qA); refine blk_far ?_ NB322_333.out _; (with_reducible repeat first|apply qN|apply qD|apply qA); exact BK322.out⟩, ⟨by (with_reducible repeat first|apply qN|apply qD|apply qA); refine blk_put (cs := #[.slice none 0 0]) ?_ 0 _ rfl; (with_reducible repeat first|apply qN|apply qD|apply qA); exact BK333.out⟩, ⟨by exact bq⟩⟩
  case round =>
   clear H'
   try clear c1
   try clear p1
   try clear q1
   try clear hx1
   try clear c2
   try clear p2
   try clear q2
   try clear c3
   try clear p3
   try clear q3
   try clear hx3
   try clear c4
   try clear c4b0
   try clear c6
   try clear c6b0
   try clear p6
   try clear c7
   try clear c7b0
   try clear c9
   try clear c9b0
   try clear c10
   try clear c10b0
   try clear p11
   try clear q11
   try clear hx11
   try clear hf11
   try clear c14
   try clear c21
   try clear c22
   try clear c26
   try clear q26
   try clear c32
   try clear p32
   try clear q32
   try clear hx32
   try clear c36
   try clear c37
   try clear hcz15_0
   try clear hcz17_0
   try clear hcz23_0
   try clear hcz25_0
   try clear hcz28_0
   try clear hcz29_0
   try clear hcz33_0
   try clear hcz38_0
   try clear hfz15_0
   try clear hfz17_0
   try clear hfz23_0
   try clear hfz25_0
   try clear hfz28_0
   try clear hfz29_0
   try clear hfz33_0
   try clear hfz38_0
   try clear hx11_0
   try clear hx328_0
   try clear hx329_0
   try clear p11
   try clear p328
   try clear p329
   try clear q11
   try clear q328
   try clear q329
   obtain ⟨x8_1, x334000_1, u334000, rfl, HA, HK1, HO_334000, BK321, BK322, BK333, HB⟩ := hrel
   cases gk with
   | zero => exact absurd HA.out (by simp [spec_maGrow.l0])
   | succ k1 =>
    have H := HA.out
    clear HA
    simp only [spec_maGrow.l0] at H
    by_cases c39 : x8_1 ≤ (l0_0.length : Int)
    ·rw [if_pos c39] at H
     have c39b0 : decide (x8_1 ≤ (l0_0.length : Int)) = true := decide_eq_true c39
     clear c39
     by_cases c40 : x8_1 = a1
     ·rw [if_pos c40] at H
      have c40b0 : (x8_1 == a1) = true := beq_iff_eq.mpr c40
      have c40b1 : (x8_1 != a1) = false := bne_eq_false_iff_eq.mpr c40
      clear c40
      obtain ⟨ji41, hji41⟩ : ∃ j_ : Int, (wrap64 ((l0_0.length : Int) + 1)) = j_ := ⟨_, rfl⟩
      replace H : (if 0 ≤ (ji41) then (if (ji41 : Int).toNat ≤ 35184372088832 then ((some (List.replicate (ji41 : Int).toNat 0 : List Int)).bind fun y334 => (if 0 ≤ (l0_0.length : Int) then (if (l0_0.length : Int) < (y334.length : Int) then (if x334000_1.length < 5864062014805 then (spec_maGrow.l0 k1 a1 (l0_0.length : Int) (wrap64 (x8_1 + 1)) l0_0 (x334000_1 ++ [(y334.set ((l0_0.length : Int) : Int).toNat 1)])) else (none)) else (none)) else (none))) else (none)) else (none)) = some r := by first | (rw [hji41] at H; exact H) | (simp only [hji41] at H ⊢; exact H)
      have hji41w : (IntKind.i64.wrap ((l0_0.length : Int) + 1)) = ji41 := (i64_w _).trans hji41
      by_cases c42 : 0 ≤ (ji41)
      ·rw [if_pos c42] at H
       have c42b0 := eq_true c42
       have c42b1 : decide (0 ≤ (ji41)) = true := decide_eq_true c42
       clear c42
       by_cases c43 : (ji41 : Int).toNat ≤ 35184372088832
       ·rw [if_pos c43] at H
        have c43b0 := eq_true c43
        have c43b1 : decide ((ji41 : Int).toNat ≤ 35184372088832) = true := decide_eq_true c43
        clear c43
        obtain ⟨y334, hy334⟩ : ∃ y_ : List Int, y_ = (List.replicate (ji41 : Int).toNat 0) := ⟨_, rfl⟩
        replace H : (if 0 ≤ (l0_0.length : Int) then (if (l0_0.length : Int) < (y334.length : Int) then (if x334000_1.length < 5864062014805 then (spec_maGrow.l0 k1 a1 (l0_0.length : Int) (wrap64 (x8_1 + 1)) l0_0 (x334000_1 ++ [(y334.set ((l0_0.length : Int) : Int).toNat 1)])) else (none)) else (none)) else (none)) = some r := by first | (rw [hy334]; with_reducible exact H) | (have H2_ := (Option.bind_some _ _).symm.trans H; rw [hy334]; with_reducible exact H2_) | (have H2_ := (Option.bind_some _ _).symm.trans H; with_reducible exact H2_) | with_reducible exact H | (rw [hy334]; exact H) | exact H
        have Ny334 := aM hy334
        clear hy334
        by_cases c44 : 0 ≤ (l0_0.length : Int)
        ·rw [if_pos c44] at H
         have c44b0 : decide (0 ≤ (l0_0.length : Int)) = true := decide_eq_true c44
         have c44b1 : decide (0 ≤ l0_0.length) = true := decide_eq_true (by omega)
         clear c44
         by_cases c45 : (l0_0.length : Int) < (y334.length : Int)
         ·rw [if_pos c45] at H
          have c45b0 : decide ((l0_0.length : Int) < (y334.length : Int)) = true := decide_eq_true c45
          have c45b1 : decide (l0_0.length < y334.length) = true := decide_eq_true (Int.ofNat_lt.mp c45)
          clear c45
          obtain ⟨y337, hy337⟩ : ∃ y_ : List Int, y_ = (y334.set ((l0_0.length : Int) : Int).toNat 1) := ⟨_, rfl⟩
          replace H : (if x334000_1.length < 5864062014805 then (spec_maGrow.l0 k1 a1 (l0_0.length : Int) (wrap64 (x8_1 + 1)) l0_0 (x334000_1 ++ [y337])) else (none)) = some r := by first | (rw [hy337]; with_reducible exact H) | (have H2_ := (Option.bind_some _ _).symm.trans H; rw [hy337]; with_reducible exact H2_) | (have H2_ := (Option.bind_some _ _).symm.trans H; with_reducible exact H2_) | with_reducible exact H | (rw [hy337]; exact H) | exact H
          have Ny337 := aM hy337
          clear hy337
          by_cases c47 : x334000_1.length < 5864062014805
          ·rw [if_pos c47] at H
           have LMc47 := aM c47
           clear c47
           obtain ⟨y338, hy338⟩ : ∃ y_ : List (List Int), y_ = (x334000_1 ++ [y337]) := ⟨_, rfl⟩
           replace H : (spec_maGrow.l0 k1 a1 (l0_0.length : Int) (wrap64 (x8_1 + 1)) l0_0 y338) = some r := by first | (rw [hy338]; with_reducible exact H) | (have H2_ := (Option.bind_some _ _).symm.trans H; rw [hy338]; with_reducible exact H2_) | (have H2_ := (Option.bind_some _ _).symm.trans H; with_reducible exact H2_) | with_reducible exact H | (rw [hy338]; exact H) | exact H
           have Ny338 := aM hy338
           clear hy338
           have H' := aM H
           clear H
           go_wp2_with (first | ((with_reducible refine gate_dst (N := 70) rfl ?_); refine Kd.R_make (Kd.int .i64) _ 3 rfl (N := 70) rfl 24 _ _ rfl ji41 rfl rfl Try.underlying24 (.int .i64 0) 8 info3 rfl (by decide) (by omega) 0 (ok := fun _ => True) (okp := fun _ => True) rfl (fun _ hk => hk) trivial (odt) (Nat.le_trans (Nat.mul_le_mul_right _ (odt : ji41.toNat ≤ 35184372088832)) (by omega)) (Below.refl _ _) (Nat.le_refl _) ?_; intro v335 w48 ho49 hb hg_ hnew_; clear hg_ hnew_; (first | rw [← Ny334.out] at ho49 | (simp only [Int.reduceToNat] at ho49; rw [← Ny334.out] at ho49)); have _ := aM (Kd.S_elder' (sQ HO_334000) (Kd.R_base ho49) hb); have _ := aM (Kd.R_lower ho49 (below_size bq)); have _ := aM (blk_below (g := gb321) (o := .cells #[.slice A0_0 l0_0.length c0_0] 36 (0, 0)) (qQ BK321) hb); have _ := aM (blk_below (g := gb322) (o := .cells #[.slice none 0 0] 36 (0, 0)) (qQ BK322) hb); have _ := aM (blk_below (g := gb333) (o := .cells #[u334000] 36 (0, 0)) (qQ BK333) hb); have _ := aM (below_step bq hb); clear HO_334000 BK321 BK322 BK333 HB; rename_i HO_334000 HO336 BK321 BK322 BK333 HB; clear hb ho49; have p46 : 0 ≤ ((l0_0.length : Int) : Int) := odt; have q46 : ((l0_0.length : Int) : Int) < ((y334.length : Int) : Int) := odt; obtain ⟨go46, co46, eo46, gb46, gl46, cl46, HG46⟩ := Kd.R_form HO336.out (by omega); (first | cases eo46 | (injection eo46 with ea_ en_ ec_; (first | subst ea_ | (injection ea_ with ea_; subst ea_)); subst ec_; clear en_)); have GB46 := aM gb46; have GG46 := aM HG46; clear gb46 gl46 HG46; obtain ⟨hx46_0, hf46_0⟩ := Kd.R_celln 0 HO336.out ((l0_0.length : Int) : Int) p46 q46; replace p46 := eq_true p46; replace q46 := eq_true q46; obtain ⟨hy50_, hz50_⟩ := Kd.R_celln 0 HO336.out ((l0_0.length : Int) : Int) (odt) (odt); (try simp only [Go.IntWalk.toNatUp] at hy50_ hz50_); have HP50 := Kd.R_putg HO336.out ((l0_0.length : Int) : Int) 1) | ((with_reducible refine gate_store (t := 3) (p := 73) rfl ?_); refine sE (w48.setCell ⟨go46, ((l0_0.length : Int) : Int).toNat, none⟩ (.int .i64 1)) 3 73 ?_; intro w51 hw; have hg : w48.grownBy w51 (some go46) := (by rw [hw]; exact HP50.2); have hp_ : Kd.R (Kd.int .i64) 3 w51 w.heap.size (fun _ => True) (.slice (some ⟨go46, 0, none⟩) y334.length co46) y337 := (by rw [hw, Ny337.out]; exact HP50.1); clear HP50; have _ := aM (Kd.S_after (v := (.slice (some ⟨go46, 0, none⟩) y334.length co46)) (v1 := (.slice (some ⟨go46, 0, none⟩) y334.length co46)) (ok := (fun _ => True)) (sQ HO_334000) hg (.inl rfl)); have _ := aM (blk_grown (g := gb321) (o := .cells #[.slice A0_0 l0_0.length c0_0] 36 (0, 0)) (qQ BK321) hg (Kd.R_ne HO336.out BK321.out (by decide))); have _ := aM (blk_grown (g := gb322) (o := .cells #[.slice none 0 0] 36 (0, 0)) (qQ BK322) hg (Kd.R_ne HO336.out BK322.out (by decide))); have _ := aM (blk_grown (g := gb333) (o := .cells #[u334000] 36 (0, 0)) (qQ BK333) hg (Kd.R_ne HO336.out BK333.out (by decide))); have _ := aM (hp_); have _ := aM ((by rw [hw]; exact below_set (HB.out) GB46.out : Below w.heap.size w w51)); clear HO_334000 BK321 BK322 BK333 HO336 HB; rename_i HO_334000 BK321 BK322 BK333 HO336 HB; clear hg hw hp_; have hnb52 := NB333_321.out; have hnc52 := NB321_333.out; have hnb53 := NB333_322.out; have hnc53 := NB322_333.out; have hcz54_0 : w51.cell? ⟨gb333, 0, none⟩ = some (u334000) := (blk_cell BK333.out 0).trans rfl; have hfz54_0 := blk_frozen BK333.out 0) | ((with_reducible refine gate_builtin (b := .append) (xs := #[.tmp 75, .tmp 77]) rfl ?_); at_builtin; refine Kd.S_append (Kd.slice 3 (Kd.int .i64)) (w0 := w) w.heap.size rfl (.tmp 75) (.tmp 77) 34 24 (.slice none 0 0) 24 rfl Try.underlying34 info24 rfl (by decide) (by omega) u334000 x334000_1 y337 [.slice (some ⟨go46, 0, none⟩) y334.length co46] (fun _ => True) (fun k_ => some k_ = (.slice (some ⟨go46, 0, none⟩) y334.length co46 : Value).ownBlock) rfl rfl ?aP (fun k_ hk_ => ((Kd.R_mono (ok' := fun k_ => ((fun _ => True)) k_ ∧ some k_ ≠ (u334000 : Value).ownBlock) (Kd.R_apart' (HO336.out) (Kd.S_typed HO_334000.out) (by decide)) (fun k_ hk => ⟨trivial, hk.2⟩))).1 k_ hk_.symm) ?aF ?aO ?aB ?aS ?aL ?_; (case aP => exact Kd.M_row (Kd.R_mono (Kd.R_tight rfl (Kd.R_mono (ok' := fun k_ => ((fun _ => True)) k_ ∧ some k_ ≠ (u334000 : Value).ownBlock) (Kd.R_apart' (HO336.out) (Kd.S_typed HO_334000.out) (by decide)) (fun k_ hk => ⟨trivial, hk.2⟩))) (fun _ h_ => h_))); (case aB => exact bq); (case aF => exact (fun _ _ => trivial)); (case aO => exact (by (with_reducible repeat first|apply sA|apply sN|apply sD); exact Kd.S_mono HO_334000.out (fun k_ hk => ⟨trivial, fun e_ => hk.2 e_⟩))); (case aS => exact (below_size bq)); (case aL => have := LMc47.out; omega); intro v339 w55 ho hb hg hat; rw [← Ny338.out] at ho; have _ := aM (blk_grown (g := gb321) (o := .cells #[.slice A0_0 l0_0.length c0_0] 36 (0, 0)) (qQ BK321) hg (Kd.S_ne HO_334000.out BK321.out (by decide))); have _ := aM (blk_grown (g := gb322) (o := .cells #[.slice none 0 0] 36 (0, 0)) (qQ BK322) hg (Kd.S_ne HO_334000.out BK322.out (by decide))); have _ := aM (blk_grown (g := gb333) (o := .cells #[u334000] 36 (0, 0)) (qQ BK333) hg (Kd.S_ne HO_334000.out BK333.out (by decide))); have _ := aM (hb); have _ := aM (ho); clear BK321 BK322 BK333 HB HO_334000 HO336; rename_i BK321 BK322 BK333 HB HO340; clear ho hb hg hat; obtain ⟨Ao56, co56, eo56⟩ := Kd.S_slice HO340.out; subst eo56; have hcz57_0 : w55.cell? ⟨gb333, 0, none⟩ = some (u334000) := (blk_cell BK333.out 0).trans rfl; have hfz57_0 := blk_frozen BK333.out 0))
           go_roundg k1
           case measure => have := HK1.out; omega
           case rel => exact ⟨(wrap64 (x8_1 + 1)), (y338), (.slice Ao56 y338.length co56), (by first | rfl | (simp; done) | (simp [*]; done)), H', ⟨by have := HK1.out; omega⟩, ⟨by (with_reducible repeat first|apply sA|apply sN|apply sD); exact Kd.S_mono (Kd.S_far (p := ⟨gb333, 0, none⟩) (Kd.S_types HO340.out BK333.out (by decide)) (fun _ hk => hk.2) (.slice Ao56 y338.length co56)) (fun _ hk => trivial)⟩, ⟨by (with_reducible repeat first|apply qN|apply qD|apply qA); refine blk_far ?_ NB321_333.out _; (with_reducible repeat first|apply qN|apply qD|apply qA); exact BK321.out⟩, ⟨by (with_reducible repeat first|apply qN|apply qD|apply qA); refine blk_far ?_ NB322_333.out _; (with_reducible repeat first|apply qN|apply qD|apply qA); exact BK322.out⟩, ⟨by (with_reducible repeat first|apply qN|apply qD|apply qA); refine blk_put (cs := #[u334000]) ?_ 0 _ rfl; (with_reducible repeat first|apply qN|apply qD|apply qA); exact BK333.out⟩, ⟨by exact bq⟩⟩
          ·rw [if_neg c47] at H
           exact absurd H (by simp)
         ·rw [if_neg c45] at H
          exact absurd H (by simp)
        ·rw [if_neg c44] at H
         exact absurd H (by simp)
       ·rw [if_neg c43] at H
        exact absurd H (by simp)
      ·rw [if_neg c42] at H
       exact absurd H (by simp)
     ·rw [if_neg c40] at H
      have c40b0 : (x8_1 == a1) = false := beq_eq_false_iff_ne.mpr c40
      have c40b1 : (x8_1 != a1) = true := bne_iff_ne.mpr c40
      by_cases c58 : x8_1 > a1
      ·rw [if_pos c58] at H
       have c58b0 : decide (a1 < x8_1) = true := decide_eq_true c58
       clear c58
       obtain ⟨ji59, hji59⟩ : ∃ j_ : Int, (wrap64 (x8_1 - 1)) = j_ := ⟨_, rfl⟩
       replace H : (if 0 ≤ (ji59) then (if (ji59) < (l0_0.length : Int) then ((spec_maWide.f (rd_L2 l0_0 (ji59)) a1).bind fun t342 => (if x334000_1.length < 5864062014805 then (spec_maGrow.l0 k1 a1 (l0_0.length : Int) (wrap64 (x8_1 + 1)) l0_0 (x334000_1 ++ [t342])) else (none))) else (none)) else (none)) = some r := by first | (rw [hji59] at H; exact H) | (simp only [hji59] at H ⊢; exact H)
       have hji59w : (IntKind.i64.wrap (x8_1 - 1)) = ji59 := (i64_w _).trans hji59
       by_cases c60 : 0 ≤ (ji59)
       ·rw [if_pos c60] at H
        have c60b0 : decide (0 ≤ (ji59)) = true := decide_eq_true c60
        clear c60
        by_cases c61 : (ji59) < (l0_0.length : Int)
        ·rw [if_pos c61] at H
         have c61b0 : decide ((ji59) < (l0_0.length : Int)) = true := decide_eq_true c61
         clear c61
         replace H := Option.bind_eq_some_iff.mp H
         obtain ⟨t342, A620, H⟩ := H
         replace H : (if x334000_1.length < 5864062014805 then (spec_maGrow.l0 k1 a1 (l0_0.length : Int) (wrap64 (x8_1 + 1)) l0_0 (x334000_1 ++ [t342])) else (none)) = some r := H
         have A62 := aM A620
         clear A620
         by_cases c63 : x334000_1.length < 5864062014805
         ·rw [if_pos c63] at H
          have LMc63 := aM c63
          clear c63
          obtain ⟨y345, hy345⟩ : ∃ y_ : List (List Int), y_ = (x334000_1 ++ [t342]) := ⟨_, rfl⟩
          replace H : (spec_maGrow.l0 k1 a1 (l0_0.length : Int) (wrap64 (x8_1 + 1)) l0_0 y345) = some r := by first | (rw [hy345]; with_reducible exact H) | (have H2_ := (Option.bind_some _ _).symm.trans H; rw [hy345]; with_reducible exact H2_) | (have H2_ := (Option.bind_some _ _).symm.trans H; with_reducible exact H2_) | with_reducible exact H | (rw [hy345]; exact H) | exact H
          have Ny345 := aM hy345
          clear hy345
          have H' := aM H
          clear H
          try go_wp2
          have n0_ := aM (Kd.S_drew HO_334000.out)
          have n1_ := aM (blk_drew BK321.out)
          have n2_ := aM (blk_drew BK322.out)
          have n3_ := aM (blk_drew BK333.out)
          have n4_ := aM (below_drew1 HB.out)
          clear HO_334000
          clear BK321
          clear BK322
          clear BK333
          clear HB
          have HO_334000 := n0_
          have BK321 := n1_
          have BK322 := n2_
          have BK333 := n3_
          have HB := n4_
          clear n0_ n1_ n2_ n3_ n4_
          have p341 : 0 ≤ ((ji59) : Int) := odt
          have q341 : (ji59) < (l0_0.length : Int) := odt
          obtain ⟨ad341, A341_0, c341_0, e341, hx341_0, hl341_0, hi341_0⟩ := at_L2 HR0_0.out (ji59) p341 q341
          have hw341_0 := hx341_0
          cases e341
          replace hx341_0 := (HB.out.cell (World.block_lt_of_cell? w _ hx341_0)).trans hx341_0
          have HR341_0 := aM hi341_0
          have HC341_0 := aM hl341_0
          clear hi341_0 hl341_0
          replace p341 := eq_true p341
          replace q341 := eq_true q341
          refine start_ (n := 14) (S := fun w' => w'.cell? ⟨gb333, 0, none⟩ = some (u334000) ∧ w'.cell? ⟨gb321, 0, none⟩ = some (.slice (some ad341) l0_0.length c0_0) ∧ w'.cell? (ad341.add ((ji59)).toNat) = some (.slice A341_0 (rd_L2 l0_0 (ji59)).length c341_0)) (ds := [13]) #[false, false, false, false, false, false, false, false, false, false, false, false, false, false] (by kernel_rfl) rfl rfl ⟨(blk_cell BK333.out 0).trans rfl, (blk_cell BK321.out 0).trans rfl, ((HB.out.cell (World.block_lt_of_cell? w _ hw341_0)).trans hw341_0)⟩ (fun hHeld => ?_); refine with_tabW spec_maGrow.tab20 spec_maGrow.bits20 (fun HT_ HW_ => ?_)
          generalize wr.drew = w64 at HO_334000 BK321 BK322 BK333 HB HR341_0 hx341_0 hHeld ⊢
          refine pure_ (i := 0) (N := some 84) (v := ?_) (a' := ?_) #[true, false, false, false, false, false, false, false, false, false, false, false, false, false] rfl rfl (any_of HT_.out (by kernel_rfl)) (fun _ _ _ h => h) (Or.inl ⟨by rfl, ?_⟩) ?_ ?_
          rotate_left
          ·intro w'
           go_simp
           with_reducible rfl
          rotate_left
          ·simp only [Act.put, List.setIfInBounds_toArray, List.set_cons_zero, List.set_cons_succ, i64_w, i32_w]
           rfl
          refine pure_ (i := 2) (N := some 86) (v := ?_) (a' := ?_) #[true, false, true, false, false, false, false, false, false, false, false, false, false, false] rfl rfl (any_of HT_.out (by kernel_rfl)) (fun _ _ _ h => h) (Or.inl ⟨by rfl, ?_⟩) ?_ ?_
          rotate_left
          ·intro w'
           go_simp
           with_reducible rfl
          rotate_left
          ·simp only [Act.put, List.setIfInBounds_toArray, List.set_cons_zero, List.set_cons_succ, i64_w, i32_w]
           rfl
          refine pure_ (i := 4) (N := some 88) (v := ?_) (a' := ?_) #[true, false, true, false, true, false, false, false, false, false, false, false, false, false] rfl rfl (any_of HT_.out (by kernel_rfl)) (fun _ _ _ h => h) (Or.inl ⟨by rfl, ?_⟩) ?_ ?_
          rotate_left
          ·intro w'
           go_simp
           with_reducible rfl
          rotate_left
          ·simp only [Act.put, List.setIfInBounds_toArray, List.set_cons_zero, List.set_cons_succ, i64_w, i32_w]
           rfl
          refine pure_ (i := 5) (N := some 89) (v := ?_) (a' := ?_) #[true, false, true, false, true, true, false, false, false, false, false, false, false, false] rfl rfl (any_of HT_.out (by kernel_rfl)) (fun _ _ _ h => h) (Or.inl ⟨by rfl, ?_⟩) ?_ ?_
          rotate_left
          ·intro w'
           go_simp
           with_reducible rfl
          rotate_left
          ·simp only [Act.put, List.setIfInBounds_toArray, List.set_cons_zero, List.set_cons_succ, i64_w, i32_w]
           rfl
          refine pure_ (i := 8) (N := some 92) (v := ?_) (a' := ?_) #[true, false, true, false, true, true, false, false, true, false, false, false, false, false] rfl rfl (any_of HT_.out (by kernel_rfl)) (fun _ _ _ h => h) (Or.inl ⟨by rfl, ?_⟩) ?_ ?_
          rotate_left
          ·intro w'
           go_simp
           with_reducible rfl
          rotate_left
          ·simp only [Act.put, List.setIfInBounds_toArray, List.set_cons_zero, List.set_cons_succ, i64_w, i32_w]
           rfl
          refine take_ (i := 1) (N := some 85) (v := ?_) (a' := ?_) #[true, true, true, false, true, true, false, false, true, false, false, false, false, false] rfl rfl (take_ofW HT_.out HW_.out (by kernel_rfl)) (fun _ _ _ h => h) (Or.inl ⟨by rfl, ?_⟩) hHeld ?_ ?_
          rotate_left
          ·rintro w' ⟨s0, s1, s2⟩
           go_simp
           with_reducible rfl
          rotate_left
          ·simp only [Act.put, List.setIfInBounds_toArray, List.set_cons_zero, List.set_cons_succ, i64_w, i32_w]
           rfl
          refine take_ (i := 3) (N := some 87) (v := ?_) (a' := ?_) #[true, true, true, true, true, true, false, false, true, false, false, false, false, false] rfl rfl (take_ofW HT_.out HW_.out (by kernel_rfl)) (fun _ _ _ h => h) (Or.inl ⟨by rfl, ?_⟩) hHeld ?_ ?_
          rotate_left
          ·rintro w' ⟨s0, s1, s2⟩
           go_simp
           with_reducible rfl
          rotate_left
          ·simp only [Act.put, List.setIfInBounds_toArray, List.set_cons_zero, List.set_cons_succ, i64_w, i32_w]
           rfl
          refine pure_ (i := 6) (N := some 90) (v := ?_) (a' := ?_) #[true, true, true, true, true, true, true, false, true, false, false, false, false, false] rfl rfl (any_of HT_.out (by kernel_rfl)) (fun _ _ _ h => h) (Or.inl ⟨by rfl, ?_⟩) ?_ ?_
          rotate_left
          ·intro w'
           go_simp
           with_reducible rfl
          rotate_left
          ·simp only [Act.put, List.setIfInBounds_toArray, List.set_cons_zero, List.set_cons_succ, i64_w, i32_w]
           rfl
          refine take_ (i := 7) (N := some 91) (v := ?_) (a' := ?_) #[true, true, true, true, true, true, true, true, true, false, false, false, false, false] rfl rfl (take_ofW HT_.out HW_.out (by kernel_rfl)) (fun _ _ _ h => h) (Or.inl ⟨by rfl, ?_⟩) hHeld ?_ ?_
          rotate_left
          ·rintro w' ⟨s0, s1, s2⟩
           go_simp
           with_reducible rfl
          rotate_left
          ·simp only [Act.put, List.setIfInBounds_toArray, List.set_cons_zero, List.set_cons_succ, i64_w, i32_w]
           rfl
          refine one_ (i := 9) (N := some 93) #[true, true, true, true, true, true, true, true, true, true, false, false, false, false] rfl rfl (one_of HT_.out (by kernel_rfl)) (by decide) (fun K hK => ?_)
          refine goes_ Try.func149 (by kernel_rfl) rfl #[.slice A341_0 (rd_L2 l0_0 (ji59)).length c341_0, .int .i64 a1] (by rfl) rfl rfl (by (try simp only [List.map_toArray, List.map_cons, List.map_nil]); first | done | (simp only [hji59]; rfl) | rfl | (simp only [List.length_drop, List.length_take]; rfl)) ?_
          with_reducible refine (spec_maWide.calls _ _ (rd_L2 l0_0 (ji59)) a1 t342 _ ?side1 ?side2 A62.out).mono ?_
          (case side1 => repeat (first | exact (Kd.C_below HR341_0.out HB.out) | (with_reducible refine Kd.C_alloc ?_ _) | (with_reducible refine Kd.C_drewN ?_ _) | (with_reducible refine Kd.C_drew ?_)))
          (case side2 => exact HC341_0.out)
          rintro e w65 ⟨v343, rfl, ho0, hb⟩
          refine ⟨_, rfl, ?_⟩
          have n0_ := aM (Kd.S_elder' (sQ HO_334000) (Kd.R_base ho0) hb)
          have n1_ := aM (Kd.R_lower ho0 (below_size bq))
          have n2_ := aM (blk_below (g := gb321) (o := .cells #[.slice (some ad341) l0_0.length c0_0] 36 (0, 0)) (qQ BK321) hb)
          have n3_ := aM (blk_below (g := gb322) (o := .cells #[.slice none 0 0] 36 (0, 0)) (qQ BK322) hb)
          have n4_ := aM (blk_below (g := gb333) (o := .cells #[u334000] 36 (0, 0)) (qQ BK333) hb)
          have n5_ := aM (below_step bq hb)
          clear HO_334000
          clear BK321
          clear BK322
          clear BK333
          clear HB
          have HO_334000 := n0_
          have HO344 := n1_
          have BK321 := n2_
          have BK322 := n3_
          have BK333 := n4_
          have HB := n5_
          clear n0_ n1_ n2_ n3_ n4_ n5_
          (try clear hb)
          (try clear hb2)
          (try clear hk)
          (try clear hi)
          (try clear ho0)
          obtain ⟨Ao67, co67, eo67⟩ := Kd.R_slice HO344.out
          (first | subst eo67 | (injection eo67 with f1_ f2_ f3_; have f4_ := f1_.symm; have f5_ := f3_.symm; clear f1_ f2_ f3_; subst f4_; subst f5_))
          refine hK.out _ _ ⟨(blk_cell BK333.out 0).trans rfl, (blk_cell BK321.out 0).trans rfl, ((HB.out.cell (World.block_lt_of_cell? w _ hw341_0)).trans hw341_0)⟩ (fun hHeld => ?_)
          clear hK K
          refine norm_ (a' := ?_) ?_ ?_
          rotate_left
          ·show Act.put _ (some 93) _ = _
           simp only [Act.put, List.setIfInBounds_toArray, List.set_cons_zero, List.set_cons_succ, i64_w, i32_w]
           rfl
          refine one_ (i := 10) (N := some 94) #[true, true, true, true, true, true, true, true, true, true, true, false, false, false] rfl rfl (one_of HT_.out (by kernel_rfl)) (by decide) (fun K hK => ?_)
          refine value_ (w1 := ?_) (v := ?_) (by rfl) rfl ?_ ?_
          rotate_left 2
          ·go_simp
           constructor
           ·rfl
           ·rfl
          refine hK.out _ _ ⟨(blk_cell (blk_alloc BK333.out _) 0).trans rfl, (blk_cell (blk_alloc BK321.out _) 0).trans rfl, (World.cell?_alloc_lt _ _ _ (World.block_lt_of_cell? _ _ (((HB.out.cell (World.block_lt_of_cell? w _ hw341_0)).trans hw341_0)))).trans (((HB.out.cell (World.block_lt_of_cell? w _ hw341_0)).trans hw341_0))⟩ (fun hHeld => ?_)
          clear hK K
          refine norm_ (a' := ?_) ?_ ?_
          rotate_left
          ·show Act.put _ (some 94) _ = _
           simp only [Act.put, List.setIfInBounds_toArray, List.set_cons_zero, List.set_cons_succ, i64_w, i32_w]
           rfl
          refine one_ (i := 11) (N := some 95) #[true, true, true, true, true, true, true, true, true, true, true, true, false, false] rfl rfl (one_of HT_.out (by kernel_rfl)) (by decide) (fun K hK => ?_)
          refine Kd.S_append_step (Kd.slice 3 (Kd.int .i64)) (w0 := w) w.heap.size (by rfl) (.tmp 85) (.tmp 94) 34 24 (.slice none 0 0) 24 rfl Try.underlying34 info24 rfl (by decide) (by omega) u334000 x334000_1 t342 [.slice Ao67 t342.length co67] (fun _ => True) (fun k_ => some k_ = (.slice Ao67 t342.length co67 : Value).ownBlock) rfl rfl ?aP (fun k_ hk_ => ((Kd.R_mono (ok' := fun k_ => ((fun _ => True)) k_ ∧ some k_ ≠ (u334000 : Value).ownBlock) (Kd.R_apart' (HO344.out) (Kd.S_typed HO_334000.out) (by decide)) (fun k_ hk => ⟨trivial, hk.2⟩))).1 k_ hk_.symm) ?aF ?aO ?aB ?aS ?aL ?_
          (case aP => exact Kd.M_row (Kd.R_mono (Kd.R_tight rfl (Kd.R_mono (ok' := fun k_ => ((fun _ => True)) k_ ∧ some k_ ≠ (u334000 : Value).ownBlock) (Kd.R_apart' (HO344.out) (Kd.S_typed HO_334000.out) (by decide)) (fun k_ hk => ⟨trivial, hk.2⟩))) (fun _ h_ => h_)))
          (case aB => exact bq)
          (case aF => exact (fun _ _ => trivial))
          (case aO => exact (by (with_reducible repeat first|apply sA|apply sN|apply sD); exact Kd.S_mono HO_334000.out (fun k_ hk => ⟨trivial, fun e_ => hk.2 e_⟩)))
          (case aS => exact (below_size bq))
          (case aL => have := LMc63.out; omega)
          intro v346 w66 ho hb hg hat
          rw [← Ny345.out] at ho
          have n0_ := aM (blk_grown (g := gb321) (o := .cells #[.slice (some ad341) l0_0.length c0_0] 36 (0, 0)) (qQ BK321) hg (Kd.S_ne HO_334000.out BK321.out (by decide)))
          have n1_ := aM (blk_grown (g := gb322) (o := .cells #[.slice none 0 0] 36 (0, 0)) (qQ BK322) hg (Kd.S_ne HO_334000.out BK322.out (by decide)))
          have n2_ := aM (blk_grown (g := gb333) (o := .cells #[u334000] 36 (0, 0)) (qQ BK333) hg (Kd.S_ne HO_334000.out BK333.out (by decide)))
          have n3_ := aM (hb)
          have n4_ := aM (ho)
          clear BK321
          clear BK322
          clear BK333
          clear HB
          clear HO_334000
          clear HO344
          have BK321 := n0_
          have BK322 := n1_
          have BK333 := n2_
          have HB := n3_
          have HO347 := n4_
          clear n0_ n1_ n2_ n3_ n4_
          clear ho hb hg hat
          obtain ⟨Ao68, co68, eo68⟩ := Kd.S_slice HO347.out
          (first | subst eo68 | (injection eo68 with f1_ f2_ f3_; have f4_ := f1_.symm; have f5_ := f3_.symm; clear f1_ f2_ f3_; subst f4_; subst f5_))
          refine hK.out _ _ ⟨(blk_cell BK333.out 0).trans rfl, (blk_cell BK321.out 0).trans rfl, ((HB.out.cell (World.block_lt_of_cell? w _ hw341_0)).trans hw341_0)⟩ (fun hHeld => ?_)
          clear hK K
          refine norm_ (a' := ?_) ?_ ?_
          rotate_left
          ·show Act.put _ (some 95) _ = _
           simp only [Act.put, List.setIfInBounds_toArray, List.set_cons_zero, List.set_cons_succ, i64_w, i32_w]
           rfl
          refine pure_ (i := 12) (N := some 96) (v := ?_) (a' := ?_) #[true, true, true, true, true, true, true, true, true, true, true, true, true, false] rfl rfl (any_of HT_.out (by kernel_rfl)) (fun _ _ _ h => h) (Or.inl ⟨by rfl, ?_⟩) ?_ ?_
          rotate_left
          ·intro w'
           go_simp
           with_reducible rfl
          rotate_left
          ·simp only [Act.put, List.setIfInBounds_toArray, List.set_cons_zero, List.set_cons_succ, i64_w, i32_w]
           rfl
          refine last_ (i := 13) (N := none) #[true, true, true, true, true, true, true, true, true, true, true, true, true, true] rfl rfl (one_of HT_.out (by kernel_rfl)) (by decide) (fun K hK => ?_)
          have hs69 : w66.cell? ⟨gb333, 0, none⟩ = some (u334000) := (blk_cell BK333.out 0).trans rfl
          have hfs69 := blk_frozen BK333.out 0
          have hns69_0 := NB321_333.out
          have hns69_1 := NB322_333.out
          have hms69_0 := NB333_321.out
          have hms69_1 := NB333_322.out
          refine skip_ (w1 := ?_) (by rfl) rfl ?_ ?_
          rotate_left
          ·go_simp
           rfl
          refine hK.out _ _ ?_
          clear hK K
          refine done_ (done_of HT_.out (by kernel_rfl)) ?_
          try go_wp2
          go_roundg k1
          case measure => have := HK1.out; omega
          case rel => exact ⟨(wrap64 (x8_1 + 1)), (y345), (.slice Ao68 y345.length co68), (by first | rfl | (simp; done) | (simp [*]; done)), H', ⟨by have := HK1.out; omega⟩, ⟨by (with_reducible repeat first|apply sA|apply sN|apply sD); exact Kd.S_mono (Kd.S_far (p := ⟨gb333, 0, none⟩) (Kd.S_types HO347.out BK333.out (by decide)) (fun _ hk => hk.2) (.slice Ao68 y345.length co68)) (fun _ hk => trivial)⟩, ⟨by (with_reducible repeat first|apply qN|apply qD|apply qA); refine blk_far ?_ NB321_333.out _; (with_reducible repeat first|apply qN|apply qD|apply qA); exact BK321.out⟩, ⟨by (with_reducible repeat first|apply qN|apply qD|apply qA); refine blk_far ?_ NB322_333.out _; (with_reducible repeat first|apply qN|apply qD|apply qA); exact BK322.out⟩, ⟨by (with_reducible repeat first|apply qN|apply qD|apply qA); refine blk_put (cs := #[u334000]) ?_ 0 _ rfl; (with_reducible repeat first|apply qN|apply qD|apply qA); exact BK333.out⟩, ⟨by exact bq⟩⟩
         ·rw [if_neg c63] at H
          exact absurd H (by simp)
        ·rw [if_neg c61] at H
         exact absurd H (by simp)
       ·rw [if_neg c60] at H
        exact absurd H (by simp)
      ·rw [if_neg c58] at H
       have c58b0 : decide (a1 < x8_1) = false := decide_eq_false c58
       clear c58
       by_cases c70 : 0 ≤ x8_1
       ·rw [if_pos c70] at H
        have c70b0 : decide (0 ≤ x8_1) = true := decide_eq_true c70
        clear c70
        by_cases c71 : x8_1 < (l0_0.length : Int)
        ·rw [if_pos c71] at H
         have c71b0 : decide (x8_1 < (l0_0.length : Int)) = true := decide_eq_true c71
         clear c71
         replace H := Option.bind_eq_some_iff.mp H
         obtain ⟨t349, A720, H⟩ := H
         replace H : (if a1 < (l0_0.length : Int) then (if 0 ≤ (l0_0.length : Int) then (if (l0_0.length : Int) < (t349.length : Int) then (if 0 ≤ a1 then (if a1 < (t349.length : Int) then (if x334000_1.length < 5864062014805 then (spec_maGrow.l0 k1 a1 (l0_0.length : Int) (wrap64 (x8_1 + 1)) l0_0 (x334000_1 ++ [((t349.set (a1 : Int).toNat (rd t349 (l0_0.length : Int))).set ((l0_0.length : Int) : Int).toNat 0)])) else (none)) else (none)) else (none)) else (none)) else (none)) else (if x334000_1.length < 5864062014805 then (spec_maGrow.l0 k1 a1 (l0_0.length : Int) (wrap64 (x8_1 + 1)) l0_0 (x334000_1 ++ [t349])) else (none))) = some r := H
         have A72 := aM A720
         clear A720
         by_cases c73 : a1 < (l0_0.length : Int)
         ·rw [if_pos c73] at H
          have c73b0 : decide (a1 < (l0_0.length : Int)) = true := decide_eq_true c73
          clear c73
          by_cases c74 : 0 ≤ (l0_0.length : Int)
          ·rw [if_pos c74] at H
           have c74b0 : decide (0 ≤ (l0_0.length : Int)) = true := decide_eq_true c74
           have c74b1 : decide (0 ≤ l0_0.length) = true := decide_eq_true (by omega)
           clear c74
           by_cases c75 : (l0_0.length : Int) < (t349.length : Int)
           ·rw [if_pos c75] at H
            have c75b0 : decide ((l0_0.length : Int) < (t349.length : Int)) = true := decide_eq_true c75
            have c75b1 : decide (l0_0.length < t349.length) = true := decide_eq_true (Int.ofNat_lt.mp c75)
            clear c75
            by_cases c76 : 0 ≤ a1
            ·rw [if_pos c76] at H
             have c76b0 : decide (0 ≤ a1) = true := decide_eq_true c76
             clear c76
             by_cases c77 : a1 < (t349.length : Int)
             ·rw [if_pos c77] at H
              have c77b0 : decide (a1 < (t349.length : Int)) = true := decide_eq_true c77
              clear c77
              obtain ⟨y353, hy353⟩ : ∃ y_ : List Int, y_ = (t349.set (a1 : Int).toNat (rd t349 (l0_0.length : Int))) := ⟨_, rfl⟩
              replace H : (if x334000_1.length < 5864062014805 then (spec_maGrow.l0 k1 a1 (l0_0.length : Int) (wrap64 (x8_1 + 1)) l0_0 (x334000_1 ++ [(y353.set ((l0_0.length : Int) : Int).toNat 0)])) else (none)) = some r := by first | (rw [hy353]; with_reducible exact H) | (have H2_ := (Option.bind_some _ _).symm.trans H; rw [hy353]; with_reducible exact H2_) | (have H2_ := (Option.bind_some _ _).symm.trans H; with_reducible exact H2_) | with_reducible exact H | (rw [hy353]; exact H) | exact H
              have Ny353 := aM hy353
              clear hy353
              obtain ⟨y354, hy354⟩ : ∃ y_ : List Int, y_ = (y353.set ((l0_0.length : Int) : Int).toNat 0) := ⟨_, rfl⟩
              replace H : (if x334000_1.length < 5864062014805 then (spec_maGrow.l0 k1 a1 (l0_0.length : Int) (wrap64 (x8_1 + 1)) l0_0 (x334000_1 ++ [y354])) else (none)) = some r := by first | (rw [hy354]; with_reducible exact H) | (have H2_ := (Option.bind_some _ _).symm.trans H; rw [hy354]; with_reducible exact H2_) | (have H2_ := (Option.bind_some _ _).symm.trans H; with_reducible exact H2_) | with_reducible exact H | (rw [hy354]; exact H) | exact H
              have Ny354 := aM hy354
              clear hy354
              by_cases c80 : x334000_1.length < 5864062014805
              ·rw [if_pos c80] at H
               have LMc80 := aM c80
               clear c80
               obtain ⟨y355, hy355⟩ : ∃ y_ : List (List Int), y_ = (x334000_1 ++ [y354]) := ⟨_, rfl⟩
               replace H : (spec_maGrow.l0 k1 a1 (l0_0.length : Int) (wrap64 (x8_1 + 1)) l0_0 y355) = some r := by first | (rw [hy355]; with_reducible exact H) | (have H2_ := (Option.bind_some _ _).symm.trans H; rw [hy355]; with_reducible exact H2_) | (have H2_ := (Option.bind_some _ _).symm.trans H; with_reducible exact H2_) | with_reducible exact H | (rw [hy355]; exact H) | exact H
               have Ny355 := aM hy355
               clear hy355
               have H' := aM H
               clear H
               have hnb81 := NB321_322.out
               have hnc81 := NB322_321.out
               have hnb82 := NB321_333.out
               have hnc82 := NB333_321.out
               have hcz83_0 : wr.cell? ⟨gb321, 0, none⟩ = some (.slice A0_0 l0_0.length c0_0) := (blk_cell BK321.out 0).trans rfl
               have hfz83_0 := blk_frozen BK321.out 0
               have p348 : 0 ≤ (x8_1 : Int) := odt
               have q348 : x8_1 < (l0_0.length : Int) := odt
               obtain ⟨ad348, A348_0, c348_0, e348, hx348_0, hl348_0, hi348_0⟩ := at_L2 HR0_0.out x8_1 p348 q348
               cases e348
               replace hx348_0 := (HB.out.cell (World.block_lt_of_cell? w _ hx348_0)).trans hx348_0
               have HR348_0 := aM hi348_0
               have HC348_0 := aM hl348_0
               clear hi348_0 hl348_0
               replace p348 := eq_true p348
               replace q348 := eq_true q348
               go_wp2_with (first | ((with_reducible refine gate_callee (f := 149) rfl ?_); refine gL (some 44) Try.func149 #[.slice A348_0 (rd_L2 l0_0 x8_1).length c348_0, .int .i64 a1] ?_; (with_reducible refine (spec_maWide.calls _ _ (rd_L2 l0_0 x8_1) a1 t349 _ (cQ (Kd.C_below HR348_0.out HB.out)) HC348_0.out A72.out).mono ?_); rintro e w84 ⟨v350, rfl, ho0, hb⟩; refine ⟨_, rfl, ?_⟩; have _ := aM (Kd.S_elder' (sQ HO_334000) (Kd.R_base ho0) hb); have _ := aM (Kd.R_lower ho0 (below_size bq)); have _ := aM (blk_below (g := gb321) (o := .cells #[.slice (some ad348) l0_0.length c0_0] 36 (0, 0)) (qQ BK321) hb); have _ := aM (blk_below (g := gb322) (o := .cells #[.slice none 0 0] 36 (0, 0)) (qQ BK322) hb); have _ := aM (blk_below (g := gb333) (o := .cells #[u334000] 36 (0, 0)) (qQ BK333) hb); have _ := aM (below_step bq hb); clear HO_334000 BK321 BK322 BK333 HB; rename_i HO_334000 HO351 BK321 BK322 BK333 HB; (try clear hb); (try clear hb2); (try clear hk); (try clear hi); (try clear ho0); obtain ⟨Ao85, co85, eo85⟩ := Kd.R_slice HO351.out; subst eo85; have p352 : 0 ≤ ((l0_0.length : Int) : Int) := odt; have q352 : (l0_0.length : Int) < (t349.length : Int) := odt; obtain ⟨ad352, e352, hx352_0⟩ := Kd.at_int (Kd.R_reads' HO351.out).2.2 (l0_0.length : Int) p352 q352; cases e352; (try simp only [Go.IntWalk.toNatUp] at hx352_0); replace p352 := eq_true p352; replace q352 := eq_true q352; have p78 : 0 ≤ (a1 : Int) := odt; have q78 : (a1 : Int) < ((t349.length : Int) : Int) := odt; obtain ⟨go78, co78, eo78, gb78, gl78, cl78, HG78⟩ := Kd.R_form HO351.out (by omega); (first | cases eo78 | (injection eo78 with ea_ en_ ec_; (first | subst ea_ | (injection ea_ with ea_; subst ea_)); subst ec_; clear en_)); have GB78 := aM gb78; have GG78 := aM HG78; clear gb78 gl78 HG78; (first | simp only [add_plain] at hx352_0 | skip); obtain ⟨hx78_0, hf78_0⟩ := Kd.R_celln 0 HO351.out (a1 : Int) p78 q78; replace p78 := eq_true p78; replace q78 := eq_true q78; obtain ⟨hy86_, hz86_⟩ := Kd.R_celln 0 HO351.out (a1 : Int) (odt) (odt); have HP86 := Kd.R_putg HO351.out (a1 : Int) (rd t349 (l0_0.length : Int))) | ((with_reducible refine gate_store (t := 3) (p := 54) rfl ?_); refine sE (w84.setCell ⟨go78, (a1 : Int).toNat, none⟩ (.int .i64 (rd t349 (l0_0.length : Int)))) 3 54 ?_; intro w87 hw; have hg : w84.grownBy w87 (some go78) := (by rw [hw]; exact HP86.2); have hp_ : Kd.R (Kd.int .i64) 3 w87 w.heap.size (fun _ => True) (.slice (some ⟨go78, 0, none⟩) t349.length co85) y353 := (by rw [hw, Ny353.out]; exact HP86.1); clear HP86; have _ := aM (Kd.S_after (v := (.slice (some ⟨go78, 0, none⟩) t349.length co85)) (v1 := (.slice (some ⟨go78, 0, none⟩) t349.length co85)) (ok := (fun _ => True)) (sQ HO_334000) hg (.inl rfl)); have _ := aM (blk_grown (g := gb321) (o := .cells #[.slice (some ad348) l0_0.length c0_0] 36 (0, 0)) (qQ BK321) hg (Kd.R_ne HO351.out BK321.out (by decide))); have _ := aM (blk_grown (g := gb322) (o := .cells #[.slice none 0 0] 36 (0, 0)) (qQ BK322) hg (Kd.R_ne HO351.out BK322.out (by decide))); have _ := aM (blk_grown (g := gb333) (o := .cells #[u334000] 36 (0, 0)) (qQ BK333) hg (Kd.R_ne HO351.out BK333.out (by decide))); have _ := aM (hp_); have _ := aM ((by rw [hw]; exact below_set (HB.out) GB78.out : Below w.heap.size w w87)); clear HO_334000 BK321 BK322 BK333 HO351 HB; rename_i HO_334000 BK321 BK322 BK333 HO351 HB; clear hg hw hp_; have p79 : 0 ≤ ((l0_0.length : Int) : Int) := odt; have q79 : ((l0_0.length : Int) : Int) < ((t349.length : Int) : Int) := odt; obtain ⟨hx79_0, hf79_0⟩ := Kd.R_celln 0 HO351.out ((l0_0.length : Int) : Int) p79 q79; replace p79 := eq_true p79; replace q79 := eq_true q79; obtain ⟨hy88_, hz88_⟩ := Kd.R_celln 0 HO351.out ((l0_0.length : Int) : Int) (odt) (odt); (try simp only [Go.IntWalk.toNatUp] at hy88_ hz88_); have HP88 := Kd.R_putg HO351.out ((l0_0.length : Int) : Int) 0) | ((with_reducible refine gate_store (t := 3) (p := 57) rfl ?_); refine sE (w87.setCell ⟨go78, ((l0_0.length : Int) : Int).toNat, none⟩ (.int .i64 0)) 3 57 ?_; intro w89 hw; have hg : w87.grownBy w89 (some go78) := (by rw [hw]; exact HP88.2); have hp_ : Kd.R (Kd.int .i64) 3 w89 w.heap.size (fun _ => True) (.slice (some ⟨go78, 0, none⟩) t349.length co85) y354 := (by rw [hw, Ny354.out]; exact HP88.1); clear HP88; have _ := aM (Kd.S_after (v := (.slice (some ⟨go78, 0, none⟩) t349.length co85)) (v1 := (.slice (some ⟨go78, 0, none⟩) t349.length co85)) (ok := (fun _ => True)) (sQ HO_334000) hg (.inl rfl)); have _ := aM (blk_grown (g := gb321) (o := .cells #[.slice (some ad348) l0_0.length c0_0] 36 (0, 0)) (qQ BK321) hg (Kd.R_ne HO351.out BK321.out (by decide))); have _ := aM (blk_grown (g := gb322) (o := .cells #[.slice none 0 0] 36 (0, 0)) (qQ BK322) hg (Kd.R_ne HO351.out BK322.out (by decide))); have _ := aM (blk_grown (g := gb333) (o := .cells #[u334000] 36 (0, 0)) (qQ BK333) hg (Kd.R_ne HO351.out BK333.out (by decide))); have _ := aM (hp_); have _ := aM ((by rw [hw]; exact below_set (HB.out) GB78.out : Below w.heap.size w w89)); clear HO_334000 BK321 BK322 BK333 HO351 HB; rename_i HO_334000 BK321 BK322 BK333 HO351 HB; clear hg hw hp_; have hnb90 := NB333_322.out; have hnc90 := NB322_333.out; have hcz91_0 : w89.cell? ⟨gb333, 0, none⟩ = some (u334000) := (blk_cell BK333.out 0).trans rfl; have hfz91_0 := blk_frozen BK333.out 0) | ((with_reducible refine gate_builtin (b := .append) (xs := #[.tmp 59, .tmp 61]) rfl ?_); at_builtin; refine Kd.S_append (Kd.slice 3 (Kd.int .i64)) (w0 := w) w.heap.size rfl (.tmp 59) (.tmp 61) 34 24 (.slice none 0 0) 24 rfl Try.underlying34 info24 rfl (by decide) (by omega) u334000 x334000_1 y354 [.slice (some ⟨go78, 0, none⟩) t349.length co85] (fun _ => True) (fun k_ => some k_ = (.slice (some ⟨go78, 0, none⟩) t349.length co85 : Value).ownBlock) rfl rfl ?aP (fun k_ hk_ => ((Kd.R_mono (ok' := fun k_ => ((fun _ => True)) k_ ∧ some k_ ≠ (u334000 : Value).ownBlock) (Kd.R_apart' (HO351.out) (Kd.S_typed HO_334000.out) (by decide)) (fun k_ hk => ⟨trivial, hk.2⟩))).1 k_ hk_.symm) ?aF ?aO ?aB ?aS ?aL ?_; (case aP => exact Kd.M_row (Kd.R_mono (Kd.R_tight rfl (Kd.R_mono (ok' := fun k_ => ((fun _ => True)) k_ ∧ some k_ ≠ (u334000 : Value).ownBlock) (Kd.R_apart' (HO351.out) (Kd.S_typed HO_334000.out) (by decide)) (fun k_ hk => ⟨trivial, hk.2⟩))) (fun _ h_ => h_))); (case aB => exact bq); (case aF => exact (fun _ _ => trivial)); (case aO => exact (by (with_reducible repeat first|apply sA|apply sN|apply sD); exact Kd.S_mono HO_334000.out (fun k_ hk => ⟨trivial, fun e_ => hk.2 e_⟩))); (case aS => exact (below_size bq)); (case aL => have := LMc80.out; omega); intro v356 w92 ho hb hg hat; rw [← Ny355.out] at ho; have _ := aM (blk_grown (g := gb321) (o := .cells #[.slice (some ad348) l0_0.length c0_0] 36 (0, 0)) (qQ BK321) hg (Kd.S_ne HO_334000.out BK321.out (by decide))); have _ := aM (blk_grown (g := gb322) (o := .cells #[.slice none 0 0] 36 (0, 0)) (qQ BK322) hg (Kd.S_ne HO_334000.out BK322.out (by decide))); have _ := aM (blk_grown (g := gb333) (o := .cells #[u334000] 36 (0, 0)) (qQ BK333) hg (Kd.S_ne HO_334000.out BK333.out (by decide))); have _ := aM (hb); have _ := aM (ho); clear BK321 BK322 BK333 HB HO_334000 HO351; rename_i BK321 BK322 BK333 HB HO357; clear ho hb hg hat; obtain ⟨Ao93, co93, eo93⟩ := Kd.S_slice HO357.out; subst eo93; have hcz94_0 : w92.cell? ⟨gb333, 0, none⟩ = some (u334000) := (blk_cell BK333.out 0).trans rfl; have hfz94_0 := blk_frozen BK333.out 0))
               go_roundg k1
               case measure => have := HK1.out; omega
               case rel => exact ⟨(wrap64 (x8_1 + 1)), (y355), (.slice Ao93 y355.length co93), (by first | rfl | (simp; done) | (simp [*]; done)), H', ⟨by have := HK1.out; omega⟩, ⟨by (with_reducible repeat first|apply sA|apply sN|apply sD); exact Kd.S_mono (Kd.S_far (p := ⟨gb333, 0, none⟩) (Kd.S_types HO357.out BK333.out (by decide)) (fun _ hk => hk.2) (.slice Ao93 y355.length co93)) (fun _ hk => trivial)⟩, ⟨by (with_reducible repeat first|apply qN|apply qD|apply qA); refine blk_far ?_ NB321_333.out _; (with_reducible repeat first|apply qN|apply qD|apply qA); exact BK321.out⟩, ⟨by (with_reducible repeat first|apply qN|apply qD|apply qA); refine blk_far ?_ NB322_333.out _; (with_reducible repeat first|apply qN|apply qD|apply qA); exact BK322.out⟩, ⟨by (with_reducible repeat first|apply qN|apply qD|apply qA); refine blk_put (cs := #[u334000]) ?_ 0 _ rfl; (with_reducible repeat first|apply qN|apply qD|apply qA); exact BK333.out⟩, ⟨by exact bq⟩⟩
              ·rw [if_neg c80] at H
               exact absurd H (by simp)
             ·rw [if_neg c77] at H
              exact absurd H (by simp)
            ·rw [if_neg c76] at H
             exact absurd H (by simp)
           ·rw [if_neg c75] at H
            exact absurd H (by simp)
          ·rw [if_neg c74] at H
           exact absurd H (by simp)
         ·rw [if_neg c73] at H
          have c73b0 : decide (a1 < (l0_0.length : Int)) = false := decide_eq_false c73
          clear c73
          by_cases c95 : x334000_1.length < 5864062014805
          ·rw [if_pos c95] at H
           have LMc95 := aM c95
           clear c95
           obtain ⟨y358, hy358⟩ : ∃ y_ : List (List Int), y_ = (x334000_1 ++ [t349]) := ⟨_, rfl⟩
           replace H : (spec_maGrow.l0 k1 a1 (l0_0.length : Int) (wrap64 (x8_1 + 1)) l0_0 y358) = some r := by first | (rw [hy358]; with_reducible exact H) | (have H2_ := (Option.bind_some _ _).symm.trans H; rw [hy358]; with_reducible exact H2_) | (have H2_ := (Option.bind_some _ _).symm.trans H; with_reducible exact H2_) | with_reducible exact H | (rw [hy358]; exact H) | exact H
           have Ny358 := aM hy358
           clear hy358
           have H' := aM H
           clear H
           have hnb96 := NB321_322.out
           have hnc96 := NB322_321.out
           have hnb97 := NB321_333.out
           have hnc97 := NB333_321.out
           have hcz98_0 : wr.cell? ⟨gb321, 0, none⟩ = some (.slice A0_0 l0_0.length c0_0) := (blk_cell BK321.out 0).trans rfl
           have hfz98_0 := blk_frozen BK321.out 0
           have p348 : 0 ≤ (x8_1 : Int) := odt
           have q348 : x8_1 < (l0_0.length : Int) := odt
           obtain ⟨ad348, A348_0, c348_0, e348, hx348_0, hl348_0, hi348_0⟩ := at_L2 HR0_0.out x8_1 p348 q348
           cases e348
           replace hx348_0 := (HB.out.cell (World.block_lt_of_cell? w _ hx348_0)).trans hx348_0
           have HR348_0 := aM hi348_0
           have HC348_0 := aM hl348_0
           clear hi348_0 hl348_0
           replace p348 := eq_true p348
           replace q348 := eq_true q348
           go_wp2_with (first | ((with_reducible refine gate_callee (f := 149) rfl ?_); refine gL (some 44) Try.func149 #[.slice A348_0 (rd_L2 l0_0 x8_1).length c348_0, .int .i64 a1] ?_; (with_reducible refine (spec_maWide.calls _ _ (rd_L2 l0_0 x8_1) a1 t349 _ (cQ (Kd.C_below HR348_0.out HB.out)) HC348_0.out A72.out).mono ?_); rintro e w99 ⟨v350, rfl, ho0, hb⟩; refine ⟨_, rfl, ?_⟩; have _ := aM (Kd.S_elder' (sQ HO_334000) (Kd.R_base ho0) hb); have _ := aM (Kd.R_lower ho0 (below_size bq)); have _ := aM (blk_below (g := gb321) (o := .cells #[.slice (some ad348) l0_0.length c0_0] 36 (0, 0)) (qQ BK321) hb); have _ := aM (blk_below (g := gb322) (o := .cells #[.slice none 0 0] 36 (0, 0)) (qQ BK322) hb); have _ := aM (blk_below (g := gb333) (o := .cells #[u334000] 36 (0, 0)) (qQ BK333) hb); have _ := aM (below_step bq hb); clear HO_334000 BK321 BK322 BK333 HB; rename_i HO_334000 HO351 BK321 BK322 BK333 HB; (try clear hb); (try clear hb2); (try clear hk); (try clear hi); (try clear ho0); have hnb100 := NB333_322.out; have hnc100 := NB322_333.out; have hcz101_0 : w99.cell? ⟨gb333, 0, none⟩ = some (u334000) := (blk_cell BK333.out 0).trans rfl; have hfz101_0 := blk_frozen BK333.out 0; obtain ⟨Ao103, co103, eo103⟩ := Kd.R_slice HO351.out; subst eo103) | ((with_reducible refine gate_builtin (b := .append) (xs := #[.tmp 59, .tmp 61]) rfl ?_); at_builtin; refine Kd.S_append (Kd.slice 3 (Kd.int .i64)) (w0 := w) w.heap.size rfl (.tmp 59) (.tmp 61) 34 24 (.slice none 0 0) 24 rfl Try.underlying34 info24 rfl (by decide) (by omega) u334000 x334000_1 t349 [.slice Ao103 t349.length co103] (fun _ => True) (fun k_ => some k_ = (.slice Ao103 t349.length co103 : Value).ownBlock) rfl rfl ?aP (fun k_ hk_ => ((Kd.R_mono (ok' := fun k_ => ((fun _ => True)) k_ ∧ some k_ ≠ (u334000 : Value).ownBlock) (Kd.R_apart' (HO351.out) (Kd.S_typed HO_334000.out) (by decide)) (fun k_ hk => ⟨trivial, hk.2⟩))).1 k_ hk_.symm) ?aF ?aO ?aB ?aS ?aL ?_; (case aP => exact Kd.M_row (Kd.R_mono (Kd.R_tight rfl (Kd.R_mono (ok' := fun k_ => ((fun _ => True)) k_ ∧ some k_ ≠ (u334000 : Value).ownBlock) (Kd.R_apart' (HO351.out) (Kd.S_typed HO_334000.out) (by decide)) (fun k_ hk => ⟨trivial, hk.2⟩))) (fun _ h_ => h_))); (case aB => exact bq); (case aF => exact (fun _ _ => trivial)); (case aO => exact (by (with_reducible repeat first|apply sA|apply sN|apply sD); exact Kd.S_mono HO_334000.out (fun k_ hk => ⟨trivial, fun e_ => hk.2 e_⟩))); (case aS => exact (below_size bq)); (case aL => have := LMc95.out; omega); intro v359 w102 ho hb hg hat; rw [← Ny358.out] at ho; have _ := aM (blk_grown (g := gb321) (o := .cells #[.slice (some ad348) l0_0.length c0_0] 36 (0, 0)) (qQ BK321) hg (Kd.S_ne HO_334000.out BK321.out (by decide))); have _ := aM (blk_grown (g := gb322) (o := .cells #[.slice none 0 0] 36 (0, 0)) (qQ BK322) hg (Kd.S_ne HO_334000.out BK322.out (by decide))); have _ := aM (blk_grown (g := gb333) (o := .cells #[u334000] 36 (0, 0)) (qQ BK333) hg (Kd.S_ne HO_334000.out BK333.out (by decide))); have _ := aM (hb); have _ := aM (ho); clear BK321 BK322 BK333 HB HO_334000 HO351; rename_i BK321 BK322 BK333 HB HO360; clear ho hb hg hat; obtain ⟨Ao104, co104, eo104⟩ := Kd.S_slice HO360.out; subst eo104; have hcz105_0 : w102.cell? ⟨gb333, 0, none⟩ = some (u334000) := (blk_cell BK333.out 0).trans rfl; have hfz105_0 := blk_frozen BK333.out 0))
           go_roundg k1
           case measure => have := HK1.out; omega
           case rel => exact ⟨(wrap64 (x8_1 + 1)), (y358), (.slice Ao104 y358.length co104), (by first | rfl | (simp; done) | (simp [*]; done)), H', ⟨by have := HK1.out; omega⟩, ⟨by (with_reducible repeat first|apply sA|apply sN|apply sD); exact Kd.S_mono (Kd.S_far (p := ⟨gb333, 0, none⟩) (Kd.S_types HO360.out BK333.out (by decide)) (fun _ hk => hk.2) (.slice Ao104 y358.length co104)) (fun _ hk => trivial)⟩, ⟨by (with_reducible repeat first|apply qN|apply qD|apply qA); refine blk_far ?_ NB321_333.out _; (with_reducible repeat first|apply qN|apply qD|apply qA); exact BK321.out⟩, ⟨by (with_reducible repeat first|apply qN|apply qD|apply qA); refine blk_far ?_ NB322_333.out _; (with_reducible repeat first|apply qN|apply qD|apply qA); exact BK322.out⟩, ⟨by (with_reducible repeat first|apply qN|apply qD|apply qA); refine blk_put (cs := #[u334000]) ?_ 0 _ rfl; (with_reducible repeat first|apply qN|apply qD|apply qA); exact BK333.out⟩, ⟨by exact bq⟩⟩
          ·rw [if_neg c95] at H
           exact absurd H (by simp)
        ·rw [if_neg c71] at H
         exact absurd H (by simp)
       ·rw [if_neg c70] at H
        exact absurd H (by simp)
    ·rw [if_neg c39] at H
     have c39b0 : decide (x8_1 ≤ (l0_0.length : Int)) = false := decide_eq_false c39
     clear c39
     obtain rfl := Option.some.inj H
     have hnb106 := NB333_321.out
     have hnc106 := NB321_333.out
     have hnb107 := NB333_322.out
     have hnc107 := NB322_333.out
     have hcz108_0 : wr.cell? ⟨gb333, 0, none⟩ = some (u334000) := (blk_cell BK333.out 0).trans rfl
     have hfz108_0 := blk_frozen BK333.out 0
     obtain ⟨Ao109, co109, eo109⟩ := Kd.S_slice HO_334000.out
     subst eo109
     have hnb110 := NB322_321.out
     have hnc110 := NB321_322.out
     have hcz111_0 : wr.cell? ⟨gb322, 0, none⟩ = some (.slice none 0 0) := (blk_cell BK322.out 0).trans rfl
     have hfz111_0 := blk_frozen BK322.out 0
     go_wp2
     refine bodyPost_ret (results_cell_row rfl _ _ gb322 36 #[.slice Ao109 x334000_1.length co109] (0, 0) _ rfl (by (with_reducible repeat first|apply qN|apply qD|apply qA); refine blk_put (cs := #[.slice none 0 0]) ?_ 0 _ rfl; (with_reducible repeat first|apply qN|apply qD|apply qA); exact BK322.out) Try.underlying36 rfl (by kernel_rfl)) rfl ?_
     exact ⟨_, by first | rfl | (simp [errW_none, errW_some] <;> rfl) | (simp [*, errW_none, errW_some] <;> rfl), by (with_reducible repeat first|apply sA|apply sN|apply sD); exact Kd.S_mono (Kd.S_far (p := ⟨gb322, 0, none⟩) (Kd.S_types HO_334000.out BK322.out (by decide)) (fun _ hk => hk.2) (.slice Ao109 x334000_1.length co109)) (fun _ hk => trivial), by exact bq⟩

end Go.Proofs.Ytacdlipojhoilaa.Zx
