-- Written by hook.py, a program of this session (wip/), which runs the kit's print.py with its own parts; Lean checks it.
import Derived.Test.YtacdlipojhoilaaYx0
import Derived.Test.YtacdlipojhoilaaYx15
import Derived.Test.YtacdlipojhoilaaYx16
import Derived.Test.YtacdlipojhoilaaYxXSq
namespace Go.Proofs.Ytacdlipojhoilaa.Yx
open Go.RowKit Go.Proofs.YtacdlipojhoilaaW.PrintWords Go.Proofs.YtacdlipojhoilaaW.PrintLast Go.Proofs.YtacdlipojhoilaaW.PrintMore Go.Proofs.Ytacdlipojhoilaa.Sq
attribute [local go_sem] max2_int min2_int max_two min_two max_three min_three max_four min_four   -- for this text's walks alone
set_option linter.unusedVariables false
set_option linter.unusedSimpArgs false

def spec_maGrow.l0 : Nat → Int → Int → Int → List (List Int) → List (List Int) → Option ((List (List Int)))
 | 0, _, _, _, _, _ => none
 | k + 1, x1, x5, x8, x325000, x337000 => if x8 ≤ x5 then (if x8 = x1 then (if 0 ≤ (wrap64 (x5 + 1)) then (if (wrap64 (x5 + 1) : Int).toNat ≤ 35184372088832 then ((some (List.replicate (wrap64 (x5 + 1) : Int).toNat 0 : List Int)).bind fun y337 => (if 0 ≤ x5 then (if x5 < (y337.length : Int) then (if x337000.length < 5864062014805 then (spec_maGrow.l0 k x1 x5 (wrap64 (x8 + 1)) x325000 (x337000 ++ [(y337.set (x5 : Int).toNat 1)])) else (none)) else (none)) else (none))) else (none)) else (none)) else (if x8 > x1 then (if 0 ≤ (wrap64 (x8 - 1)) then (if (wrap64 (x8 - 1)) < (x325000.length : Int) then ((spec_maWide.f (rd_L2 x325000 (wrap64 (x8 - 1))) x1).bind fun t345 => (if x337000.length < 5864062014805 then (spec_maGrow.l0 k x1 x5 (wrap64 (x8 + 1)) x325000 (x337000 ++ [t345])) else (none))) else (none)) else (none)) else (if 0 ≤ x8 then (if x8 < (x325000.length : Int) then ((spec_maWide.f (rd_L2 x325000 x8) x1).bind fun t352 => (if x1 < x5 then (if 0 ≤ x5 then (if x5 < (t352.length : Int) then (if 0 ≤ x1 then (if x1 < (t352.length : Int) then (if x337000.length < 5864062014805 then (spec_maGrow.l0 k x1 x5 (wrap64 (x8 + 1)) x325000 (x337000 ++ [((t352.set (x1 : Int).toNat (rd t352 x5)).set (x5 : Int).toNat 0)])) else (none)) else (none)) else (none)) else (none)) else (none)) else (if x337000.length < 5864062014805 then (spec_maGrow.l0 k x1 x5 (wrap64 (x8 + 1)) x325000 (x337000 ++ [t352])) else (none)))) else (none)) else (none)))) else (some x337000)
def spec_maGrow.f (k : Nat) (l0_0 : List (List Int)) (a1 : Int) : Option ((List (List Int))) := (spec_maTop.f k l0_0).bind fun t326 => (if a1 ≤ t326 then ((spec_maOwn.f k l0_0).bind fun t327 => (if 0 ≤ a1 then (if a1 < (t327.length : Int) then (if 0 ≤ (wrap64 ((l0_0.length : Int) - 1)) then (if (wrap64 ((l0_0.length : Int) - 1)) < ((rd_L2 t327 a1).length : Int) then (some (t327.set (a1 : Int).toNat ((rd_L2 t327 a1).set ((wrap64 ((l0_0.length : Int) - 1)) : Int).toNat (wrap64 ((rd (rd_L2 t327 a1) (wrap64 ((l0_0.length : Int) - 1))) + 1))))) else (none)) else (none)) else (none)) else (none))) else (spec_maGrow.l0 k a1 (l0_0.length : Int) 0 l0_0 ([] : List (List Int))))
theorem spec_maGrow.mono_l : ∀ k, (∀ y0 y1 y2 y3 y4, LeO (spec_maGrow.l0 k y0 y1 y2 y3 y4) (spec_maGrow.l0 (k + 1) y0 y1 y2 y3 y4))
 | 0 => fun _ _ _ _ _ r h => by simp [spec_maGrow.l0] at h
 | k + 1 => by
  have ih0 := spec_maGrow.mono_l k
  ·intro y0 y1 y2 y3 y4
   unfold spec_maGrow.l0
   repeat' first | with_reducible first | exact ih0 _ _ _ _ _ | exact spec_maOwn.mono _ _ | exact spec_maTop.mono _ _ | exact LeO.refl _ | exact LeO.none _ | refine LeO.ite ?_ ?_ | refine LeO.bind ?_ (fun _ => ?_)
theorem spec_maGrow.mono : ∀ a0 a1 k, LeO (spec_maGrow.f k a0 a1) (spec_maGrow.f (k + 1) a0 a1) := by
 intro a0 a1 k
 have ih0 := spec_maGrow.mono_l k
 unfold spec_maGrow.f
 repeat' first | with_reducible first | exact ih0 _ _ _ _ _ | exact spec_maOwn.mono _ _ | exact spec_maTop.mono _ _ | exact LeO.refl _ | exact LeO.none _ | refine LeO.ite ?_ ?_ | refine LeO.bind ?_ (fun _ => ?_)
def spec_maGrow.T20 : Bool × List (List Nat × List Nat) := (true, [([], []), ([0], [0]), ([], []), ([2], [2]), ([], []), ([4], [4]), ([3, 5], [3, 5]), ([6], [6]), ([], []), ([7, 8], [7, 8]), ([9], [9]), ([1, 10, 9], [1, 10]), ([0, 1, 2, 3, 4, 5, 6, 7, 8, 9, 10, 11], []), ([12, 11, 11, 0, 1, 2, 3, 4, 5, 6, 7, 8, 9, 10, 11], [11, 12])])
def spec_maGrow.B20 : List Nat := [0, 1, 0, 4, 0, 16, 60, 124, 0, 508, 1020, 2047, 4095, 8191]
theorem spec_maGrow.tab20 : rtab .any (opsOf Try.f107 20) = spec_maGrow.T20 := by kernel_rfl
theorem spec_maGrow.bits20 : waitsOk spec_maGrow.T20.2 spec_maGrow.B20 = true := by kernel_rfl
set_option maxHeartbeats 8000000 in
set_option maxRecDepth 100000 in
theorem spec_maGrow.calls (k : Nat) (A0_0 : Option Addr) (c0_0 : Nat) (l0_0 : List (List Int)) (a1 : Int) (r : List (List Int)) (w : World) (hr0_0 : Kd.C (Kd.slice 3 (Kd.int .i64)) w A0_0 l0_0.length l0_0) (hc0_0 : l0_0.length ≤ c0_0) (h : spec_maGrow.f k l0_0 a1 = some r) :
  Calls Try.prog 107 #[.agg #[.slice A0_0 l0_0.length c0_0], .int .i64 a1] w fun e w' => ∃ v0_ : Value, e = .returned (.agg #[v0_]) ∧ Kd.S (Kd.slice 3 (Kd.int .i64)) 24 w' w.heap.size (fun _ => True) v0_ r ∧ Below w.heap.size w w' := by
 have hu36 := Try.underlying36
 have HR0_0 := aM hr0_0
 have HC0_0 := aM hc0_0
 clear hr0_0 hc0_0
 have HB := aM (Below.refl w.heap.size w)
 have H : ((spec_maTop.f k l0_0).bind fun t326 => (if a1 ≤ t326 then ((spec_maOwn.f k l0_0).bind fun t327 => (if 0 ≤ a1 then (if a1 < (t327.length : Int) then (if 0 ≤ (wrap64 ((l0_0.length : Int) - 1)) then (if (wrap64 ((l0_0.length : Int) - 1)) < ((rd_L2 t327 a1).length : Int) then (some (t327.set (a1 : Int).toNat ((rd_L2 t327 a1).set ((wrap64 ((l0_0.length : Int) - 1)) : Int).toNat (wrap64 ((rd (rd_L2 t327 a1) (wrap64 ((l0_0.length : Int) - 1))) + 1))))) else (none)) else (none)) else (none)) else (none))) else (spec_maGrow.l0 k a1 (l0_0.length : Int) 0 l0_0 ([] : List (List Int))))) = some r := h
 clear h
 replace H := Option.bind_eq_some_iff.mp H
 obtain ⟨t326, A30, H⟩ := H
 replace H : (if a1 ≤ t326 then ((spec_maOwn.f k l0_0).bind fun t327 => (if 0 ≤ a1 then (if a1 < (t327.length : Int) then (if 0 ≤ (wrap64 ((l0_0.length : Int) - 1)) then (if (wrap64 ((l0_0.length : Int) - 1)) < ((rd_L2 t327 a1).length : Int) then (some (t327.set (a1 : Int).toNat ((rd_L2 t327 a1).set ((wrap64 ((l0_0.length : Int) - 1)) : Int).toNat (wrap64 ((rd (rd_L2 t327 a1) (wrap64 ((l0_0.length : Int) - 1))) + 1))))) else (none)) else (none)) else (none)) else (none))) else (spec_maGrow.l0 k a1 (l0_0.length : Int) 0 l0_0 ([] : List (List Int)))) = some r := H
 have A3 := aM A30
 clear A30
 by_cases c4 : a1 ≤ t326
 ·rw [if_pos c4] at H
  have c4b0 : decide (a1 ≤ t326) = true := decide_eq_true c4
  clear c4
  replace H := Option.bind_eq_some_iff.mp H
  obtain ⟨t327, A50, H⟩ := H
  replace H : (if 0 ≤ a1 then (if a1 < (t327.length : Int) then (if 0 ≤ (wrap64 ((l0_0.length : Int) - 1)) then (if (wrap64 ((l0_0.length : Int) - 1)) < ((rd_L2 t327 a1).length : Int) then (some (t327.set (a1 : Int).toNat ((rd_L2 t327 a1).set ((wrap64 ((l0_0.length : Int) - 1)) : Int).toNat (wrap64 ((rd (rd_L2 t327 a1) (wrap64 ((l0_0.length : Int) - 1))) + 1))))) else (none)) else (none)) else (none)) else (none)) = some r := H
  have A5 := aM A50
  clear A50
  by_cases c6 : 0 ≤ a1
  ·rw [if_pos c6] at H
   have c6b0 : decide (0 ≤ a1) = true := decide_eq_true c6
   clear c6
   by_cases c7 : a1 < (t327.length : Int)
   ·rw [if_pos c7] at H
    have c7b0 : decide (a1 < (t327.length : Int)) = true := decide_eq_true c7
    clear c7
    obtain ⟨ji8, hji8⟩ : ∃ j_ : Int, (wrap64 ((l0_0.length : Int) - 1)) = j_ := ⟨_, rfl⟩
    replace H : (if 0 ≤ (ji8) then (if (ji8) < ((rd_L2 t327 a1).length : Int) then (some (t327.set (a1 : Int).toNat ((rd_L2 t327 a1).set ((ji8) : Int).toNat (wrap64 ((rd (rd_L2 t327 a1) (ji8)) + 1))))) else (none)) else (none)) = some r := by first | (rw [hji8] at H; exact H) | (simp only [hji8] at H ⊢; exact H)
    (try rw [hji8] at A3)
    (try rw [hji8] at A5)
    have hji8w : (IntKind.i64.wrap ((l0_0.length : Int) - 1)) = ji8 := (i64_w _).trans hji8
    by_cases c9 : 0 ≤ (ji8)
    ·rw [if_pos c9] at H
     have c9b0 : decide (0 ≤ (ji8)) = true := decide_eq_true c9
     clear c9
     by_cases c10 : (ji8) < ((rd_L2 t327 a1).length : Int)
     ·rw [if_pos c10] at H
      have c10b0 : decide ((ji8) < ((rd_L2 t327 a1).length : Int)) = true := decide_eq_true c10
      clear c10
      obtain ⟨y333, hy333⟩ : ∃ y_ : List Int, y_ = ((rd_L2 t327 a1).set ((ji8) : Int).toNat (wrap64 ((rd (rd_L2 t327 a1) (ji8)) + 1))) := ⟨_, rfl⟩
      replace H : (some (t327.set (a1 : Int).toNat y333)) = some r := by first | (rw [hy333]; with_reducible exact H) | (have H2_ := (Option.bind_some _ _).symm.trans H; rw [hy333]; with_reducible exact H2_) | (have H2_ := (Option.bind_some _ _).symm.trans H; with_reducible exact H2_) | with_reducible exact H | (rw [hy333]; exact H) | exact H
      have Ny333 := aM hy333
      clear hy333
      obtain ⟨y335, hy335⟩ : ∃ y_ : List (List Int), y_ = (t327.set (a1 : Int).toNat y333) := ⟨_, rfl⟩
      replace H : (some y335) = some r := by first | (rw [hy335]; with_reducible exact H) | (have H2_ := (Option.bind_some _ _).symm.trans H; rw [hy335]; with_reducible exact H2_) | (have H2_ := (Option.bind_some _ _).symm.trans H; with_reducible exact H2_) | with_reducible exact H | (rw [hy335]; exact H) | exact H
      have Ny335 := aM hy335
      clear hy335
      obtain rfl := Option.some.inj H
      go_enter Try.func107, Try.ntmps107
      go_wp2_with (first | ((with_reducible refine gate_dst (N := 2) rfl ?_); refine bE 2 36 #[.slice A0_0 l0_0.length c0_0] ?_; intro gb324 hg w12 hbox hb; have _ := aM (below_step bq hb); have _ := aM (hbox); have _ := aM ((gS hg)); have _ := aM ((gS hg)); clear HB; rename_i HB BK324 GW324 GE324; clear hb hbox hg) | ((with_reducible refine gate_dst (N := 4) rfl ?_); refine bE 4 36 #[.slice none 0 0] ?_; intro gb325 hg w13 hbox hb; have _ := aM (blk_below (g := gb324) (o := .cells #[.slice A0_0 l0_0.length c0_0] 36 (0, 0)) (qQ BK324) hb); have _ := aM (below_step bq hb); have _ := aM (hbox); have _ := aM ((gS hg)); have _ := aM ((gS hg)); have _ := aM ((by rw [hg]; exact Nat.ne_of_lt (blk_lt (g := gb324) (o := .cells #[.slice A0_0 l0_0.length c0_0] 36 (0, 0)) (qQ BK324)) : gb324 ≠ gb325)); have _ := aM ((by rw [hg]; exact Nat.ne_of_gt (blk_lt (g := gb324) (o := .cells #[.slice A0_0 l0_0.length c0_0] 36 (0, 0)) (qQ BK324)) : gb325 ≠ gb324)); clear BK324 HB; rename_i BK324 HB BK325 GW325 GE325 NB324_325 NB325_324; clear hb hbox hg; have hnb14 := NB324_325.out; have hnc14 := NB325_324.out; have hcz15_0 : w13.cell? ⟨gb324, 0, none⟩ = some (.slice A0_0 l0_0.length c0_0) := (blk_cell BK324.out 0).trans rfl; have hfz15_0 := blk_frozen BK324.out 0) | ((with_reducible refine gate_callee (f := 147) rfl ?_); refine gL (some 16) Try.func147 #[.agg #[.slice A0_0 l0_0.length c0_0]] ?_; (with_reducible refine (spec_maTop.calls k _ _ l0_0 t326 _ (cQ (Kd.C_below HR0_0.out HB.out)) HC0_0.out A3.out).mono ?_); rintro e w16 ⟨rfl, hb⟩; refine ⟨_, rfl, ?_⟩; have _ := aM (blk_below (g := gb324) (o := .cells #[.slice A0_0 l0_0.length c0_0] 36 (0, 0)) (qQ BK324) hb); have _ := aM (blk_below (g := gb325) (o := .cells #[.slice none 0 0] 36 (0, 0)) (qQ BK325) hb); have _ := aM (below_step bq hb); clear BK324 BK325 HB; rename_i BK324 BK325 HB; (try clear hb); (try clear hb2); (try clear hk); (try clear hi); have hcz17_0 : w16.cell? ⟨gb324, 0, none⟩ = some (.slice A0_0 l0_0.length c0_0) := (blk_cell BK324.out 0).trans rfl; have hfz17_0 := blk_frozen BK324.out 0) | ((with_reducible refine gate_callee (f := 148) rfl ?_); refine gL (some 19) Try.func148 #[.agg #[.slice A0_0 l0_0.length c0_0]] ?_; (with_reducible refine (spec_maOwn.calls k _ _ l0_0 t327 _ (cQ (Kd.C_below HR0_0.out HB.out)) HC0_0.out A5.out).mono ?_); rintro e w18 ⟨v328, rfl, ho0, hb⟩; refine ⟨_, rfl, ?_⟩; have _ := aM (Kd.S_lower ho0 (below_size bq)); have _ := aM (blk_below (g := gb324) (o := .cells #[.slice A0_0 l0_0.length c0_0] 36 (0, 0)) (qQ BK324) hb); have _ := aM (blk_below (g := gb325) (o := .cells #[.slice none 0 0] 36 (0, 0)) (qQ BK325) hb); have _ := aM (below_step bq hb); clear BK324 BK325 HB; rename_i HO329 BK324 BK325 HB; (try clear hb); (try clear hb2); (try clear hk); (try clear hi); (try clear ho0)) | ((with_reducible refine gate_dst (N := 6) rfl ?_); refine bE 6 36 #[.slice none 0 0] ?_; intro gb330 hg w19 hbox hb; have _ := aM (Kd.S_below (sQ HO329) hb); have _ := aM (blk_below (g := gb324) (o := .cells #[.slice A0_0 l0_0.length c0_0] 36 (0, 0)) (qQ BK324) hb); have _ := aM (blk_below (g := gb325) (o := .cells #[.slice none 0 0] 36 (0, 0)) (qQ BK325) hb); have _ := aM (below_step bq hb); have _ := aM (hbox); have _ := aM ((gS hg)); have _ := aM ((gS hg)); have _ := aM ((by rw [hg]; exact Nat.ne_of_lt (blk_lt (g := gb324) (o := .cells #[.slice A0_0 l0_0.length c0_0] 36 (0, 0)) (qQ BK324)) : gb324 ≠ gb330)); have _ := aM ((by rw [hg]; exact Nat.ne_of_gt (blk_lt (g := gb324) (o := .cells #[.slice A0_0 l0_0.length c0_0] 36 (0, 0)) (qQ BK324)) : gb330 ≠ gb324)); have _ := aM ((by rw [hg]; exact Nat.ne_of_lt (blk_lt (g := gb325) (o := .cells #[.slice none 0 0] 36 (0, 0)) (qQ BK325)) : gb325 ≠ gb330)); have _ := aM ((by rw [hg]; exact Nat.ne_of_gt (blk_lt (g := gb325) (o := .cells #[.slice none 0 0] 36 (0, 0)) (qQ BK325)) : gb330 ≠ gb325)); clear HO329 BK324 BK325 HB; rename_i HO329 BK324 BK325 HB BK330 GW330 GE330 NB324_330 NB330_324 NB325_330 NB330_325; clear hb hbox hg; obtain ⟨Ao20, co20, eo20⟩ := Kd.S_slice HO329.out; subst eo20; have hnb21 := NB330_324.out; have hnc21 := NB324_330.out; have hnb22 := NB330_325.out; have hnc22 := NB325_330.out; have hcz23_0 : w19.cell? ⟨gb330, 0, none⟩ = some (.slice none 0 0) := (blk_cell BK330.out 0).trans rfl; have hfz23_0 := blk_frozen BK330.out 0) | ((with_reducible refine gate_store (t := 36) (p := 6) rfl ?_); refine sE (w19.setCell ⟨gb330, 0, none⟩ (.slice Ao20 t327.length co20)) 36 6 ?_; intro w24 hw; have _ : Aside0 (Kd.S (Kd.slice 3 (Kd.int .i64)) 24 w24 w.heap.size (fun _ => True) (.slice Ao20 t327.length co20) t327) := ⟨(by rw [hw]; exact (by (with_reducible repeat first|apply sA|apply sN|apply sD); exact Kd.S_mono (Kd.S_far (p := ⟨gb330, 0, none⟩) (Kd.S_types HO329.out BK330.out (by decide)) (fun _ hk => hk.2) (.slice Ao20 t327.length co20)) (fun _ hk => trivial)))⟩; have _ : Aside0 (w24.heap[gb324]? = some (.cells #[.slice A0_0 l0_0.length c0_0] 36 (0, 0))) := ⟨(by rw [hw]; exact (by (with_reducible repeat first|apply qN|apply qD|apply qA); refine blk_far ?_ NB324_330.out _; (with_reducible repeat first|apply qN|apply qD|apply qA); exact BK324.out))⟩; have _ : Aside0 (w24.heap[gb325]? = some (.cells #[.slice none 0 0] 36 (0, 0))) := ⟨(by rw [hw]; exact (by (with_reducible repeat first|apply qN|apply qD|apply qA); refine blk_far ?_ NB325_330.out _; (with_reducible repeat first|apply qN|apply qD|apply qA); exact BK325.out))⟩; have _ : Aside0 (w24.heap[gb330]? = some (.cells #[.slice Ao20 t327.length co20] 36 (0, 0))) := ⟨(by rw [hw]; exact (by (with_reducible repeat first|apply qN|apply qD|apply qA); refine blk_put (cs := #[.slice none 0 0]) ?_ 0 _ rfl; (with_reducible repeat first|apply qN|apply qD|apply qA); exact BK330.out))⟩; have _ : Aside0 (Below w.heap.size w w24) := ⟨(by rw [hw]; exact bq)⟩; clear hw HO329 BK324 BK325 BK330 HB; rename_i HO329 BK324 BK325 BK330 HB; have hcz25_0 : w24.cell? ⟨gb330, 0, none⟩ = some (.slice Ao20 t327.length co20) := (blk_cell BK330.out 0).trans rfl; have hfz25_0 := blk_frozen BK330.out 0; have p331 : 0 ≤ (a1 : Int) := odt; have q331 : a1 < (t327.length : Int) := odt; obtain ⟨ad331, A331_0, c331_0, e331, hx331_0, hl331_0, hi331_0⟩ := at_L2 (Kd.S_reads' HO329.out).2.2 a1 p331 q331; cases e331; obtain ⟨ce331, hce331, hMe331, hcc331⟩ := Kd.S_get HO329.out [] a1 p331 (by first | exact q331 | exact odt | (have e_ := (Kd.S_reads' HO329.out).1; omega)); obtain ⟨ve331_0, rfl, ge331_0⟩ := hMe331; have hv331_0 := hcc331 0 _ rfl; rw [Nat.add_zero, show ((Kd.slice 3 (Kd.int .i64))).sz = 1 from rfl, Nat.mul_one] at hv331_0; replace hv331_0 := Option.some.inj (hv331_0.symm.trans hx331_0); rw [hv331_0] at ge331_0; have HL331_0 := aM (show Kd.R (Kd.int .i64) 3 _ _ _ _ (rd_L2 t327 a1) from ge331_0); clear hv331_0 ge331_0; have HX331_0 := aM hx331_0; clear hcc331 hce331; have HR331_0 := aM hi331_0; have HC331_0 := aM hl331_0; clear hi331_0 hl331_0; replace p331 := eq_true p331; replace q331 := eq_true q331; have p332 : 0 ≤ ((ji8) : Int) := odt; have q332 : (ji8) < ((rd_L2 t327 a1).length : Int) := odt; obtain ⟨ad332, e332, hx332_0⟩ := Kd.at_int (cQ HR331_0.out) (ji8) p332 q332; cases e332; replace p332 := eq_true p332; replace q332 := eq_true q332; have p11 : 0 ≤ ((ji8) : Int) := odt; have q11 : ((ji8) : Int) < (((rd_L2 t327 a1).length : Int) : Int) := odt; obtain ⟨go11, co11, eo11, gb11, gl11, cl11, HG11⟩ := Kd.R_form HL331_0.out (by omega); (first | cases eo11 | (injection eo11 with ea_ en_ ec_; (first | subst ea_ | (injection ea_ with ea_; subst ea_)); subst ec_; clear en_)); have GB11 := aM gb11; have GG11 := aM HG11; clear gb11 gl11 HG11; (first | simp only [add_plain] at hx332_0 | skip); obtain ⟨hx11_0, hf11_0⟩ := Kd.R_celln 0 HL331_0.out ((ji8) : Int) p11 q11; replace p11 := eq_true p11; replace q11 := eq_true q11; have hq26 : (a1 : Int) < (t327.length : Int) := (by have h_ : (a1 : Int) < ((t327.length : Int) : Int) := odt; first | exact h_ | (have e_ := (Kd.S_reads' HO329.out).1; omega) | simpa only [List.length_set, List.length_set] using h_); obtain ⟨oki26, ce26, hcl26, hM26, hcc26, hok26, hbk26⟩ := Kd.S_borrow HO329.out [] (a1 : Int) (odt) hq26; obtain ⟨ve26_0, rfl, ge26_0⟩ := hM26; have hv26 := hcc26 0 _ rfl; rw [Nat.add_zero, show ((Kd.slice 3 (Kd.int .i64))).sz = 1 from rfl, Nat.mul_one] at hv26; replace hv26 := Option.some.inj (hv26.symm.trans HX331_0.out); subst hv26; clear hcc26 hcl26; replace ge26_0 := (show Kd.R (Kd.int .i64) 3 _ _ _ _ (rd_L2 t327 a1) from ge26_0); have HP26 := Kd.R_putg ge26_0 ((ji8) : Int) (wrap64 ((rd (rd_L2 t327 a1) (ji8)) + 1))) | ((with_reducible refine gate_store (t := 3) (p := 30) rfl ?_); refine sE (w24.setCell ⟨go11, ((ji8) : Int).toNat, none⟩ (.int .i64 (wrap64 ((rd (rd_L2 t327 a1) (ji8)) + 1)))) 3 30 ?_; intro w27 hw; have hg : w24.grownBy w27 (some go11) := (by rw [hw]; exact HP26.2); have hz_ : Kd.R (Kd.int .i64) 3 w27 w.heap.size oki26 (.slice (some ⟨go11, 0, none⟩) (rd_L2 t327 a1).length c331_0) y333 := (by rw [hw, Ny333.out]; exact HP26.1); have hp_ : Kd.S (Kd.slice 3 (Kd.int .i64)) 24 w27 w.heap.size (fun _ => True) (.slice (some ad331) t327.length co20) y335 := (by rw [Ny335.out]; exact hbk26 hg (fun k_ e_ => by injection e_ with e_; subst e_; exact ge26_0.1 _ rfl) (Kd.M_row hz_)); have hm_ := Kd.R_mono hz_ hok26; clear HP26 hbk26; have _ := aM (blk_grown (g := gb324) (o := .cells #[.slice A0_0 l0_0.length c0_0] 36 (0, 0)) (qQ BK324) hg (Kd.R_ne HL331_0.out BK324.out (by decide))); have _ := aM (blk_grown (g := gb325) (o := .cells #[.slice none 0 0] 36 (0, 0)) (qQ BK325) hg (Kd.R_ne HL331_0.out BK325.out (by decide))); have _ := aM (hp_); have _ := aM (blk_grown (g := gb330) (o := .cells #[.slice (some ad331) t327.length co20] 36 (0, 0)) (qQ BK330) hg (Kd.R_ne HL331_0.out BK330.out (by decide))); have _ := aM ((by rw [hw]; exact below_set (HB.out) GB11.out : Below w.heap.size w w27)); have _ := aM (hm_); have _ := aM ((Kd.R_reads' hm_).2.1); clear BK324 BK325 HO329 BK330 HB HL331_0; rename_i BK324 BK325 HO329 BK330 HB HL364 HC334; clear hg hw hp_ hz_ hm_ hok26; have hcz28_0 : w27.cell? ⟨gb330, 0, none⟩ = some (.slice (some ad331) t327.length co20) := (blk_cell BK330.out 0).trans rfl; have hfz28_0 := blk_frozen BK330.out 0; have hcz29_0 : w27.cell? ⟨gb325, 0, none⟩ = some (.slice none 0 0) := (blk_cell BK325.out 0).trans rfl; have hfz29_0 := blk_frozen BK325.out 0))
      refine bodyPost_ret (results_cell_row rfl _ _ gb325 36 #[.slice (some ad331) t327.length co20] (0, 0) _ rfl (by (with_reducible repeat first|apply qN|apply qD|apply qA); refine blk_put (cs := #[.slice none 0 0]) ?_ 0 _ rfl; (with_reducible repeat first|apply qN|apply qD|apply qA); exact BK325.out) Try.underlying36 rfl (by kernel_rfl)) rfl ?_
      exact ⟨_, by first | rfl | (simp [errW_none, errW_some] <;> rfl) | (simp only [← hji8]; first | rfl | (simp [errW_none, errW_some] <;> rfl)) | (simp [*, errW_none, errW_some] <;> rfl), by (with_reducible repeat first|apply sA|apply sN|apply sD); exact Kd.S_mono (Kd.S_far (p := ⟨gb325, 0, none⟩) (Kd.S_types HO329.out BK325.out (by decide)) (fun _ hk => hk.2) (.slice (some ad331) t327.length co20)) (fun _ hk => trivial), by exact bq⟩
     ·rw [if_neg c10] at H
      exact absurd H (by simp)
    ·rw [if_neg c9] at H
     exact absurd H (by simp)
   ·rw [if_neg c7] at H
    exact absurd H (by simp)
  ·rw [if_neg c6] at H
   exact absurd H (by simp)
 ·rw [if_neg c4] at H
  have c4b0 : decide (a1 ≤ t326) = false := decide_eq_false c4
  clear c4
  have H' := aM H
  clear H
  go_enter Try.func107, Try.ntmps107
  go_wp2_with (first | ((with_reducible refine gate_dst (N := 2) rfl ?_); refine bE 2 36 #[.slice A0_0 l0_0.length c0_0] ?_; intro gb324 hg w30 hbox hb; have _ := aM (below_step bq hb); have _ := aM (hbox); have _ := aM ((gS hg)); have _ := aM ((gS hg)); clear HB; rename_i HB BK324 GW324 GE324; clear hb hbox hg) | ((with_reducible refine gate_dst (N := 4) rfl ?_); refine bE 4 36 #[.slice none 0 0] ?_; intro gb325 hg w31 hbox hb; have _ := aM (blk_below (g := gb324) (o := .cells #[.slice A0_0 l0_0.length c0_0] 36 (0, 0)) (qQ BK324) hb); have _ := aM (below_step bq hb); have _ := aM (hbox); have _ := aM ((gS hg)); have _ := aM ((gS hg)); have _ := aM ((by rw [hg]; exact Nat.ne_of_lt (blk_lt (g := gb324) (o := .cells #[.slice A0_0 l0_0.length c0_0] 36 (0, 0)) (qQ BK324)) : gb324 ≠ gb325)); have _ := aM ((by rw [hg]; exact Nat.ne_of_gt (blk_lt (g := gb324) (o := .cells #[.slice A0_0 l0_0.length c0_0] 36 (0, 0)) (qQ BK324)) : gb325 ≠ gb324)); clear BK324 HB; rename_i BK324 HB BK325 GW325 GE325 NB324_325 NB325_324; clear hb hbox hg; have hnb32 := NB324_325.out; have hnc32 := NB325_324.out; have hcz33_0 : w31.cell? ⟨gb324, 0, none⟩ = some (.slice A0_0 l0_0.length c0_0) := (blk_cell BK324.out 0).trans rfl; have hfz33_0 := blk_frozen BK324.out 0) | ((with_reducible refine gate_callee (f := 147) rfl ?_); refine gL (some 16) Try.func147 #[.agg #[.slice A0_0 l0_0.length c0_0]] ?_; (with_reducible refine (spec_maTop.calls k _ _ l0_0 t326 _ (cQ (Kd.C_below HR0_0.out HB.out)) HC0_0.out A3.out).mono ?_); rintro e w34 ⟨rfl, hb⟩; refine ⟨_, rfl, ?_⟩; have _ := aM (blk_below (g := gb324) (o := .cells #[.slice A0_0 l0_0.length c0_0] 36 (0, 0)) (qQ BK324) hb); have _ := aM (blk_below (g := gb325) (o := .cells #[.slice none 0 0] 36 (0, 0)) (qQ BK325) hb); have _ := aM (below_step bq hb); clear BK324 BK325 HB; rename_i BK324 BK325 HB; (try clear hb); (try clear hb2); (try clear hk); (try clear hi)) | ((with_reducible refine gate_dst (N := 7) rfl ?_); refine bE 7 36 #[.slice none 0 0] ?_; intro gb336 hg w35 hbox hb; have _ := aM (blk_below (g := gb324) (o := .cells #[.slice A0_0 l0_0.length c0_0] 36 (0, 0)) (qQ BK324) hb); have _ := aM (blk_below (g := gb325) (o := .cells #[.slice none 0 0] 36 (0, 0)) (qQ BK325) hb); have _ := aM (below_step bq hb); have _ := aM (hbox); have _ := aM ((gS hg)); have _ := aM ((gS hg)); have _ := aM ((by rw [hg]; exact Nat.ne_of_lt (blk_lt (g := gb324) (o := .cells #[.slice A0_0 l0_0.length c0_0] 36 (0, 0)) (qQ BK324)) : gb324 ≠ gb336)); have _ := aM ((by rw [hg]; exact Nat.ne_of_gt (blk_lt (g := gb324) (o := .cells #[.slice A0_0 l0_0.length c0_0] 36 (0, 0)) (qQ BK324)) : gb336 ≠ gb324)); have _ := aM ((by rw [hg]; exact Nat.ne_of_lt (blk_lt (g := gb325) (o := .cells #[.slice none 0 0] 36 (0, 0)) (qQ BK325)) : gb325 ≠ gb336)); have _ := aM ((by rw [hg]; exact Nat.ne_of_gt (blk_lt (g := gb325) (o := .cells #[.slice none 0 0] 36 (0, 0)) (qQ BK325)) : gb336 ≠ gb325)); clear BK324 BK325 HB; rename_i BK324 BK325 HB BK336 GW336 GE336 NB324_336 NB336_324 NB325_336 NB336_325; clear hb hbox hg; have hnb36 := NB336_324.out; have hnc36 := NB324_336.out; have hnb37 := NB336_325.out; have hnc37 := NB325_336.out; have hcz38_0 : w35.cell? ⟨gb336, 0, none⟩ = some (.slice none 0 0) := (blk_cell BK336.out 0).trans rfl; have hfz38_0 := blk_frozen BK336.out 0))
  go_loopg [8] k (fun kq v8 w' => ∃ (x8_1 : Int) (x337000_1 : List (List Int)) (u337000 : Value), v8 = .int .i64 x8_1 ∧ Aside0 (spec_maGrow.l0 kq a1 (l0_0.length : Int) x8_1 l0_0 x337000_1 = some r) ∧ Aside0 (kq ≤ k) ∧ Aside0 (Kd.S (Kd.slice 3 (Kd.int .i64)) 24 w' w.heap.size (fun _ => True) u337000 x337000_1) ∧ Aside0 (w'.heap[gb324]? = some (.cells #[(.slice A0_0 l0_0.length c0_0)] 36 (0, 0))) ∧ Aside0 (w'.heap[gb325]? = some (.cells #[(.slice none 0 0)] 36 (0, 0))) ∧ Aside0 (w'.heap[gb336]? = some (.cells #[u337000] 36 (0, 0))) ∧ Aside0 (Below w.heap.size w w'))
  case atStart => exact ⟨(0), (([] : List (List Int))), (.slice none 0 0), (by first | rfl | (simp; done) | (simp [*]; done)), H', ⟨Nat.le_refl _⟩, ⟨by first | exact Kd.S_nil _ _ _ _ _ | exact Kd.N_nil _ _ _ _ _ | exact Kd.V_nil _ _ _ _ _ | exact Kd.Q_nil _ _ _ _ _ | exact Kd.R_nil _ _ _ _ _⟩, ⟨by (with_reducible repeat first|apply qN|apply qD|apply qA); refine blk_far ?_ NB324_336.out _; (with_reducible repeat first|apply qN|apply qD|apply qA); exact BK324.out⟩, ⟨by (with_reducible repeat first|apply qN|apply qD|apply qA); refine blk_far ?_ NB325_336.out _; (with_reducible repeat first|apply qN|apply qD|apply qA); exact BK325.out⟩, ⟨by (with_reducible repeat first|apply qN|apply qD|apply qA); refine blk_put (cs := #[.slice none 0 0]) ?_ 0 _ rfl; (with_reducible repeat first|apply qN|apply qD|apply qA); exact BK336.out⟩, ⟨by exact bq⟩⟩
  case round =>
   clear H'
   try clear c1
   try clear p1
   try clear q1
   try clear hx1
   try clear c2
   try clear p2
   try clear q2
   try clear c3
   try clear p3
   try clear q3
   try clear hx3
   try clear c4
   try clear c4b0
   try clear c6
   try clear c6b0
   try clear p6
   try clear c7
   try clear c7b0
   try clear c9
   try clear c9b0
   try clear c10
   try clear c10b0
   try clear p11
   try clear q11
   try clear hx11
   try clear hf11
   try clear c14
   try clear c21
   try clear c22
   try clear c26
   try clear q26
   try clear c32
   try clear c33
   try clear p33
   try clear q33
   try clear hx33
   try clear c36
   try clear c37
   try clear hcz15_0
   try clear hcz17_0
   try clear hcz23_0
   try clear hcz25_0
   try clear hcz28_0
   try clear hcz29_0
   try clear hcz33_0
   try clear hcz38_0
   try clear hfz15_0
   try clear hfz17_0
   try clear hfz23_0
   try clear hfz25_0
   try clear hfz28_0
   try clear hfz29_0
   try clear hfz33_0
   try clear hfz38_0
   try clear hx11_0
   try clear hx331_0
   try clear hx332_0
   try clear p11
   try clear p331
   try clear p332
   try clear q11
   try clear q331
   try clear q332
   obtain ⟨x8_1, x337000_1, u337000, rfl, HA, HK1, HO_337000, BK324, BK325, BK336, HB⟩ := hrel
   cases gk with
   | zero => exact absurd HA.out (by simp [spec_maGrow.l0])
   | succ k1 =>
    have H := HA.out
    clear HA
    simp only [spec_maGrow.l0] at H
    by_cases c39 : x8_1 ≤ (l0_0.length : Int)
    ·rw [if_pos c39] at H
     have c39b0 : decide (x8_1 ≤ (l0_0.length : Int)) = true := decide_eq_true c39
     clear c39
     by_cases c40 : x8_1 = a1
     ·rw [if_pos c40] at H
      have c40b0 : (x8_1 == a1) = true := beq_iff_eq.mpr c40
      have c40b1 : (x8_1 != a1) = false := bne_eq_false_iff_eq.mpr c40
      clear c40
      obtain ⟨ji41, hji41⟩ : ∃ j_ : Int, (wrap64 ((l0_0.length : Int) + 1)) = j_ := ⟨_, rfl⟩
      replace H : (if 0 ≤ (ji41) then (if (ji41 : Int).toNat ≤ 35184372088832 then ((some (List.replicate (ji41 : Int).toNat 0 : List Int)).bind fun y337 => (if 0 ≤ (l0_0.length : Int) then (if (l0_0.length : Int) < (y337.length : Int) then (if x337000_1.length < 5864062014805 then (spec_maGrow.l0 k1 a1 (l0_0.length : Int) (wrap64 (x8_1 + 1)) l0_0 (x337000_1 ++ [(y337.set ((l0_0.length : Int) : Int).toNat 1)])) else (none)) else (none)) else (none))) else (none)) else (none)) = some r := by first | (rw [hji41] at H; exact H) | (simp only [hji41] at H ⊢; exact H)
      have hji41w : (IntKind.i64.wrap ((l0_0.length : Int) + 1)) = ji41 := (i64_w _).trans hji41
      by_cases c42 : 0 ≤ (ji41)
      ·rw [if_pos c42] at H
       have c42b0 := eq_true c42
       have c42b1 : decide (0 ≤ (ji41)) = true := decide_eq_true c42
       clear c42
       by_cases c43 : (ji41 : Int).toNat ≤ 35184372088832
       ·rw [if_pos c43] at H
        have c43b0 := eq_true c43
        have c43b1 : decide ((ji41 : Int).toNat ≤ 35184372088832) = true := decide_eq_true c43
        clear c43
        obtain ⟨y337, hy337⟩ : ∃ y_ : List Int, y_ = (List.replicate (ji41 : Int).toNat 0) := ⟨_, rfl⟩
        replace H : (if 0 ≤ (l0_0.length : Int) then (if (l0_0.length : Int) < (y337.length : Int) then (if x337000_1.length < 5864062014805 then (spec_maGrow.l0 k1 a1 (l0_0.length : Int) (wrap64 (x8_1 + 1)) l0_0 (x337000_1 ++ [(y337.set ((l0_0.length : Int) : Int).toNat 1)])) else (none)) else (none)) else (none)) = some r := by first | (rw [hy337]; with_reducible exact H) | (have H2_ := (Option.bind_some _ _).symm.trans H; rw [hy337]; with_reducible exact H2_) | (have H2_ := (Option.bind_some _ _).symm.trans H; with_reducible exact H2_) | with_reducible exact H | (rw [hy337]; exact H) | exact H
        have Ny337 := aM hy337
        clear hy337
        by_cases c44 : 0 ≤ (l0_0.length : Int)
        ·rw [if_pos c44] at H
         have c44b0 : decide (0 ≤ (l0_0.length : Int)) = true := decide_eq_true c44
         have c44b1 : decide (0 ≤ l0_0.length) = true := decide_eq_true (by omega)
         clear c44
         by_cases c45 : (l0_0.length : Int) < (y337.length : Int)
         ·rw [if_pos c45] at H
          have c45b0 : decide ((l0_0.length : Int) < (y337.length : Int)) = true := decide_eq_true c45
          have c45b1 : decide (l0_0.length < y337.length) = true := decide_eq_true (Int.ofNat_lt.mp c45)
          clear c45
          obtain ⟨y340, hy340⟩ : ∃ y_ : List Int, y_ = (y337.set ((l0_0.length : Int) : Int).toNat 1) := ⟨_, rfl⟩
          replace H : (if x337000_1.length < 5864062014805 then (spec_maGrow.l0 k1 a1 (l0_0.length : Int) (wrap64 (x8_1 + 1)) l0_0 (x337000_1 ++ [y340])) else (none)) = some r := by first | (rw [hy340]; with_reducible exact H) | (have H2_ := (Option.bind_some _ _).symm.trans H; rw [hy340]; with_reducible exact H2_) | (have H2_ := (Option.bind_some _ _).symm.trans H; with_reducible exact H2_) | with_reducible exact H | (rw [hy340]; exact H) | exact H
          have Ny340 := aM hy340
          clear hy340
          by_cases c47 : x337000_1.length < 5864062014805
          ·rw [if_pos c47] at H
           have LMc47 := aM c47
           clear c47
           obtain ⟨y341, hy341⟩ : ∃ y_ : List (List Int), y_ = (x337000_1 ++ [y340]) := ⟨_, rfl⟩
           replace H : (spec_maGrow.l0 k1 a1 (l0_0.length : Int) (wrap64 (x8_1 + 1)) l0_0 y341) = some r := by first | (rw [hy341]; with_reducible exact H) | (have H2_ := (Option.bind_some _ _).symm.trans H; rw [hy341]; with_reducible exact H2_) | (have H2_ := (Option.bind_some _ _).symm.trans H; with_reducible exact H2_) | with_reducible exact H | (rw [hy341]; exact H) | exact H
           have Ny341 := aM hy341
           clear hy341
           have H' := aM H
           clear H
           go_wp2_with (first | ((with_reducible refine gate_dst (N := 70) rfl ?_); refine Kd.R_make (Kd.int .i64) _ 3 rfl (N := 70) rfl 24 _ _ rfl ji41 rfl rfl Try.underlying24 (.int .i64 0) 8 info3 rfl (by decide) (by omega) 0 (ok := fun _ => True) (okp := fun _ => True) rfl (fun _ hk => hk) trivial (odt) (Nat.le_trans (Nat.mul_le_mul_right _ (odt : ji41.toNat ≤ 35184372088832)) (by omega)) (Below.refl _ _) (Nat.le_refl _) ?_; intro v338 w48 ho49 hb hg_ hnew_; clear hg_ hnew_; (first | rw [← Ny337.out] at ho49 | (simp only [Int.reduceToNat] at ho49; rw [← Ny337.out] at ho49)); have _ := aM (Kd.S_elder' (sQ HO_337000) (Kd.R_base ho49) hb); have _ := aM (Kd.R_lower ho49 (below_size bq)); have _ := aM (blk_below (g := gb324) (o := .cells #[.slice A0_0 l0_0.length c0_0] 36 (0, 0)) (qQ BK324) hb); have _ := aM (blk_below (g := gb325) (o := .cells #[.slice none 0 0] 36 (0, 0)) (qQ BK325) hb); have _ := aM (blk_below (g := gb336) (o := .cells #[u337000] 36 (0, 0)) (qQ BK336) hb); have _ := aM (below_step bq hb); clear HO_337000 BK324 BK325 BK336 HB; rename_i HO_337000 HO339 BK324 BK325 BK336 HB; clear hb ho49; have p46 : 0 ≤ ((l0_0.length : Int) : Int) := odt; have q46 : ((l0_0.length : Int) : Int) < ((y337.length : Int) : Int) := odt; obtain ⟨go46, co46, eo46, gb46, gl46, cl46, HG46⟩ := Kd.R_form HO339.out (by omega); (first | cases eo46 | (injection eo46 with ea_ en_ ec_; (first | subst ea_ | (injection ea_ with ea_; subst ea_)); subst ec_; clear en_)); have GB46 := aM gb46; have GG46 := aM HG46; clear gb46 gl46 HG46; obtain ⟨hx46_0, hf46_0⟩ := Kd.R_celln 0 HO339.out ((l0_0.length : Int) : Int) p46 q46; replace p46 := eq_true p46; replace q46 := eq_true q46; obtain ⟨hy50_, hz50_⟩ := Kd.R_celln 0 HO339.out ((l0_0.length : Int) : Int) (odt) (odt); (try simp only [Go.IntWalk.toNatUp] at hy50_ hz50_); have HP50 := Kd.R_putg HO339.out ((l0_0.length : Int) : Int) 1) | ((with_reducible refine gate_store (t := 3) (p := 73) rfl ?_); refine sE (w48.setCell ⟨go46, ((l0_0.length : Int) : Int).toNat, none⟩ (.int .i64 1)) 3 73 ?_; intro w51 hw; have hg : w48.grownBy w51 (some go46) := (by rw [hw]; exact HP50.2); have hp_ : Kd.R (Kd.int .i64) 3 w51 w.heap.size (fun _ => True) (.slice (some ⟨go46, 0, none⟩) y337.length co46) y340 := (by rw [hw, Ny340.out]; exact HP50.1); clear HP50; have _ := aM (Kd.S_after (v := (.slice (some ⟨go46, 0, none⟩) y337.length co46)) (v1 := (.slice (some ⟨go46, 0, none⟩) y337.length co46)) (ok := (fun _ => True)) (sQ HO_337000) hg (.inl rfl)); have _ := aM (blk_grown (g := gb324) (o := .cells #[.slice A0_0 l0_0.length c0_0] 36 (0, 0)) (qQ BK324) hg (Kd.R_ne HO339.out BK324.out (by decide))); have _ := aM (blk_grown (g := gb325) (o := .cells #[.slice none 0 0] 36 (0, 0)) (qQ BK325) hg (Kd.R_ne HO339.out BK325.out (by decide))); have _ := aM (blk_grown (g := gb336) (o := .cells #[u337000] 36 (0, 0)) (qQ BK336) hg (Kd.R_ne HO339.out BK336.out (by decide))); have _ := aM (hp_); have _ := aM ((by rw [hw]; exact below_set (HB.out) GB46.out : Below w.heap.size w w51)); clear HO_337000 BK324 BK325 BK336 HO339 HB; rename_i HO_337000 BK324 BK325 BK336 HO339 HB; clear hg hw hp_; have hnb52 := NB336_324.out; have hnc52 := NB324_336.out; have hnb53 := NB336_325.out; have hnc53 := NB325_336.out; have hcz54_0 : w51.cell? ⟨gb336, 0, none⟩ = some (u337000) := (blk_cell BK336.out 0).trans rfl; have hfz54_0 := blk_frozen BK336.out 0) | ((with_reducible refine gate_builtin (b := .append) (xs := #[.tmp 75, .tmp 77]) rfl ?_); at_builtin; refine Kd.S_append (Kd.slice 3 (Kd.int .i64)) (w0 := w) w.heap.size rfl (.tmp 75) (.tmp 77) 34 24 (.slice none 0 0) 24 rfl Try.underlying34 info24 rfl (by decide) (by omega) u337000 x337000_1 y340 [.slice (some ⟨go46, 0, none⟩) y337.length co46] (fun _ => True) (fun k_ => some k_ = (.slice (some ⟨go46, 0, none⟩) y337.length co46 : Value).ownBlock) rfl rfl ?aP (fun k_ hk_ => ((Kd.R_mono (ok' := fun k_ => ((fun _ => True)) k_ ∧ some k_ ≠ (u337000 : Value).ownBlock) (Kd.R_apart' (HO339.out) (Kd.S_typed HO_337000.out) (by decide)) (fun k_ hk => ⟨trivial, hk.2⟩))).1 k_ hk_.symm) ?aF ?aO ?aB ?aS ?aL ?_; (case aP => exact Kd.M_row (Kd.R_mono (Kd.R_tight rfl (Kd.R_mono (ok' := fun k_ => ((fun _ => True)) k_ ∧ some k_ ≠ (u337000 : Value).ownBlock) (Kd.R_apart' (HO339.out) (Kd.S_typed HO_337000.out) (by decide)) (fun k_ hk => ⟨trivial, hk.2⟩))) (fun _ h_ => h_))); (case aB => exact bq); (case aF => exact (fun _ _ => trivial)); (case aO => exact (by (with_reducible repeat first|apply sA|apply sN|apply sD); exact Kd.S_mono HO_337000.out (fun k_ hk => ⟨trivial, fun e_ => hk.2 e_⟩))); (case aS => exact (below_size bq)); (case aL => have := LMc47.out; omega); intro v342 w55 ho hb hg hat; rw [← Ny341.out] at ho; have _ := aM (blk_grown (g := gb324) (o := .cells #[.slice A0_0 l0_0.length c0_0] 36 (0, 0)) (qQ BK324) hg (Kd.S_ne HO_337000.out BK324.out (by decide))); have _ := aM (blk_grown (g := gb325) (o := .cells #[.slice none 0 0] 36 (0, 0)) (qQ BK325) hg (Kd.S_ne HO_337000.out BK325.out (by decide))); have _ := aM (blk_grown (g := gb336) (o := .cells #[u337000] 36 (0, 0)) (qQ BK336) hg (Kd.S_ne HO_337000.out BK336.out (by decide))); have _ := aM (hb); have _ := aM (ho); clear BK324 BK325 BK336 HB HO_337000 HO339; rename_i BK324 BK325 BK336 HB HO343; clear ho hb hg hat; obtain ⟨Ao56, co56, eo56⟩ := Kd.S_slice HO343.out; subst eo56; have hcz57_0 : w55.cell? ⟨gb336, 0, none⟩ = some (u337000) := (blk_cell BK336.out 0).trans rfl; have hfz57_0 := blk_frozen BK336.out 0))
           go_roundg k1
           case measure => have := HK1.out; omega
           case rel => exact ⟨(wrap64 (x8_1 + 1)), (y341), (.slice Ao56 y341.length co56), (by first | rfl | (simp; done) | (simp [*]; done)), H', ⟨by have := HK1.out; omega⟩, ⟨by (with_reducible repeat first|apply sA|apply sN|apply sD); exact Kd.S_mono (Kd.S_far (p := ⟨gb336, 0, none⟩) (Kd.S_types HO343.out BK336.out (by decide)) (fun _ hk => hk.2) (.slice Ao56 y341.length co56)) (fun _ hk => trivial)⟩, ⟨by (with_reducible repeat first|apply qN|apply qD|apply qA); refine blk_far ?_ NB324_336.out _; (with_reducible repeat first|apply qN|apply qD|apply qA); exact BK324.out⟩, ⟨by (with_reducible repeat first|apply qN|apply qD|apply qA); refine blk_far ?_ NB325_336.out _; (with_reducible repeat first|apply qN|apply qD|apply qA); exact BK325.out⟩, ⟨by (with_reducible repeat first|apply qN|apply qD|apply qA); refine blk_put (cs := #[u337000]) ?_ 0 _ rfl; (with_reducible repeat first|apply qN|apply qD|apply qA); exact BK336.out⟩, ⟨by exact bq⟩⟩
          ·rw [if_neg c47] at H
           exact absurd H (by simp)
         ·rw [if_neg c45] at H
          exact absurd H (by simp)
        ·rw [if_neg c44] at H
         exact absurd H (by simp)
       ·rw [if_neg c43] at H
        exact absurd H (by simp)
      ·rw [if_neg c42] at H
       exact absurd H (by simp)
     ·rw [if_neg c40] at H
      have c40b0 : (x8_1 == a1) = false := beq_eq_false_iff_ne.mpr c40
      have c40b1 : (x8_1 != a1) = true := bne_iff_ne.mpr c40
      by_cases c58 : x8_1 > a1
      ·rw [if_pos c58] at H
       have c58b0 : decide (a1 < x8_1) = true := decide_eq_true c58
       clear c58
       obtain ⟨ji59, hji59⟩ : ∃ j_ : Int, (wrap64 (x8_1 - 1)) = j_ := ⟨_, rfl⟩
       replace H : (if 0 ≤ (ji59) then (if (ji59) < (l0_0.length : Int) then ((spec_maWide.f (rd_L2 l0_0 (ji59)) a1).bind fun t345 => (if x337000_1.length < 5864062014805 then (spec_maGrow.l0 k1 a1 (l0_0.length : Int) (wrap64 (x8_1 + 1)) l0_0 (x337000_1 ++ [t345])) else (none))) else (none)) else (none)) = some r := by first | (rw [hji59] at H; exact H) | (simp only [hji59] at H ⊢; exact H)
       have hji59w : (IntKind.i64.wrap (x8_1 - 1)) = ji59 := (i64_w _).trans hji59
       by_cases c60 : 0 ≤ (ji59)
       ·rw [if_pos c60] at H
        have c60b0 : decide (0 ≤ (ji59)) = true := decide_eq_true c60
        clear c60
        by_cases c61 : (ji59) < (l0_0.length : Int)
        ·rw [if_pos c61] at H
         have c61b0 : decide ((ji59) < (l0_0.length : Int)) = true := decide_eq_true c61
         clear c61
         replace H := Option.bind_eq_some_iff.mp H
         obtain ⟨t345, A620, H⟩ := H
         replace H : (if x337000_1.length < 5864062014805 then (spec_maGrow.l0 k1 a1 (l0_0.length : Int) (wrap64 (x8_1 + 1)) l0_0 (x337000_1 ++ [t345])) else (none)) = some r := H
         have A62 := aM A620
         clear A620
         by_cases c63 : x337000_1.length < 5864062014805
         ·rw [if_pos c63] at H
          have LMc63 := aM c63
          clear c63
          obtain ⟨y348, hy348⟩ : ∃ y_ : List (List Int), y_ = (x337000_1 ++ [t345]) := ⟨_, rfl⟩
          replace H : (spec_maGrow.l0 k1 a1 (l0_0.length : Int) (wrap64 (x8_1 + 1)) l0_0 y348) = some r := by first | (rw [hy348]; with_reducible exact H) | (have H2_ := (Option.bind_some _ _).symm.trans H; rw [hy348]; with_reducible exact H2_) | (have H2_ := (Option.bind_some _ _).symm.trans H; with_reducible exact H2_) | with_reducible exact H | (rw [hy348]; exact H) | exact H
          have Ny348 := aM hy348
          clear hy348
          have H' := aM H
          clear H
          try go_wp2
          have n0_ := aM (Kd.S_drew HO_337000.out)
          have n1_ := aM (blk_drew BK324.out)
          have n2_ := aM (blk_drew BK325.out)
          have n3_ := aM (blk_drew BK336.out)
          have n4_ := aM (below_drew1 HB.out)
          clear HO_337000
          clear BK324
          clear BK325
          clear BK336
          clear HB
          have HO_337000 := n0_
          have BK324 := n1_
          have BK325 := n2_
          have BK336 := n3_
          have HB := n4_
          clear n0_ n1_ n2_ n3_ n4_
          have p344 : 0 ≤ ((ji59) : Int) := odt
          have q344 : (ji59) < (l0_0.length : Int) := odt
          obtain ⟨ad344, A344_0, c344_0, e344, hx344_0, hl344_0, hi344_0⟩ := at_L2 HR0_0.out (ji59) p344 q344
          have hw344_0 := hx344_0
          cases e344
          replace hx344_0 := (HB.out.cell (World.block_lt_of_cell? w _ hx344_0)).trans hx344_0
          have HR344_0 := aM hi344_0
          have HC344_0 := aM hl344_0
          clear hi344_0 hl344_0
          replace p344 := eq_true p344
          replace q344 := eq_true q344
          refine start_ (n := 14) (S := fun w' => w'.cell? ⟨gb336, 0, none⟩ = some (u337000) ∧ w'.cell? ⟨gb324, 0, none⟩ = some (.slice (some ad344) l0_0.length c0_0) ∧ w'.cell? (ad344.add ((ji59)).toNat) = some (.slice A344_0 (rd_L2 l0_0 (ji59)).length c344_0)) (ds := [13]) #[false, false, false, false, false, false, false, false, false, false, false, false, false, false] (by kernel_rfl) rfl rfl ⟨(blk_cell BK336.out 0).trans rfl, (blk_cell BK324.out 0).trans rfl, ((HB.out.cell (World.block_lt_of_cell? w _ hw344_0)).trans hw344_0)⟩ (fun hHeld => ?_); refine with_tabW spec_maGrow.tab20 spec_maGrow.bits20 (fun HT_ HW_ => ?_)
          generalize wr.drew = w64 at HO_337000 BK324 BK325 BK336 HB HR344_0 hx344_0 hHeld ⊢
          refine pure_ (i := 0) (N := some 84) (v := ?_) (a' := ?_) #[true, false, false, false, false, false, false, false, false, false, false, false, false, false] rfl rfl (any_of HT_.out (by kernel_rfl)) (fun _ _ _ h => h) (Or.inl ⟨by rfl, ?_⟩) ?_ ?_
          rotate_left
          ·intro w'
           go_simp
           with_reducible rfl
          rotate_left
          ·simp only [Act.put, List.setIfInBounds_toArray, List.set_cons_zero, List.set_cons_succ, i64_w, i32_w]
           rfl
          refine pure_ (i := 2) (N := some 86) (v := ?_) (a' := ?_) #[true, false, true, false, false, false, false, false, false, false, false, false, false, false] rfl rfl (any_of HT_.out (by kernel_rfl)) (fun _ _ _ h => h) (Or.inl ⟨by rfl, ?_⟩) ?_ ?_
          rotate_left
          ·intro w'
           go_simp
           with_reducible rfl
          rotate_left
          ·simp only [Act.put, List.setIfInBounds_toArray, List.set_cons_zero, List.set_cons_succ, i64_w, i32_w]
           rfl
          refine pure_ (i := 4) (N := some 88) (v := ?_) (a' := ?_) #[true, false, true, false, true, false, false, false, false, false, false, false, false, false] rfl rfl (any_of HT_.out (by kernel_rfl)) (fun _ _ _ h => h) (Or.inl ⟨by rfl, ?_⟩) ?_ ?_
          rotate_left
          ·intro w'
           go_simp
           with_reducible rfl
          rotate_left
          ·simp only [Act.put, List.setIfInBounds_toArray, List.set_cons_zero, List.set_cons_succ, i64_w, i32_w]
           rfl
          refine pure_ (i := 5) (N := some 89) (v := ?_) (a' := ?_) #[true, false, true, false, true, true, false, false, false, false, false, false, false, false] rfl rfl (any_of HT_.out (by kernel_rfl)) (fun _ _ _ h => h) (Or.inl ⟨by rfl, ?_⟩) ?_ ?_
          rotate_left
          ·intro w'
           go_simp
           with_reducible rfl
          rotate_left
          ·simp only [Act.put, List.setIfInBounds_toArray, List.set_cons_zero, List.set_cons_succ, i64_w, i32_w]
           rfl
          refine pure_ (i := 8) (N := some 92) (v := ?_) (a' := ?_) #[true, false, true, false, true, true, false, false, true, false, false, false, false, false] rfl rfl (any_of HT_.out (by kernel_rfl)) (fun _ _ _ h => h) (Or.inl ⟨by rfl, ?_⟩) ?_ ?_
          rotate_left
          ·intro w'
           go_simp
           with_reducible rfl
          rotate_left
          ·simp only [Act.put, List.setIfInBounds_toArray, List.set_cons_zero, List.set_cons_succ, i64_w, i32_w]
           rfl
          refine take_ (i := 1) (N := some 85) (v := ?_) (a' := ?_) #[true, true, true, false, true, true, false, false, true, false, false, false, false, false] rfl rfl (take_ofW HT_.out HW_.out (by kernel_rfl)) (fun _ _ _ h => h) (Or.inl ⟨by rfl, ?_⟩) hHeld ?_ ?_
          rotate_left
          ·rintro w' ⟨s0, s1, s2⟩
           go_simp
           with_reducible rfl
          rotate_left
          ·simp only [Act.put, List.setIfInBounds_toArray, List.set_cons_zero, List.set_cons_succ, i64_w, i32_w]
           rfl
          refine take_ (i := 3) (N := some 87) (v := ?_) (a' := ?_) #[true, true, true, true, true, true, false, false, true, false, false, false, false, false] rfl rfl (take_ofW HT_.out HW_.out (by kernel_rfl)) (fun _ _ _ h => h) (Or.inl ⟨by rfl, ?_⟩) hHeld ?_ ?_
          rotate_left
          ·rintro w' ⟨s0, s1, s2⟩
           go_simp
           with_reducible rfl
          rotate_left
          ·simp only [Act.put, List.setIfInBounds_toArray, List.set_cons_zero, List.set_cons_succ, i64_w, i32_w]
           rfl
          refine pure_ (i := 6) (N := some 90) (v := ?_) (a' := ?_) #[true, true, true, true, true, true, true, false, true, false, false, false, false, false] rfl rfl (any_of HT_.out (by kernel_rfl)) (fun _ _ _ h => h) (Or.inl ⟨by rfl, ?_⟩) ?_ ?_
          rotate_left
          ·intro w'
           go_simp
           with_reducible rfl
          rotate_left
          ·simp only [Act.put, List.setIfInBounds_toArray, List.set_cons_zero, List.set_cons_succ, i64_w, i32_w]
           rfl
          refine take_ (i := 7) (N := some 91) (v := ?_) (a' := ?_) #[true, true, true, true, true, true, true, true, true, false, false, false, false, false] rfl rfl (take_ofW HT_.out HW_.out (by kernel_rfl)) (fun _ _ _ h => h) (Or.inl ⟨by rfl, ?_⟩) hHeld ?_ ?_
          rotate_left
          ·rintro w' ⟨s0, s1, s2⟩
           go_simp
           with_reducible rfl
          rotate_left
          ·simp only [Act.put, List.setIfInBounds_toArray, List.set_cons_zero, List.set_cons_succ, i64_w, i32_w]
           rfl
          refine one_ (i := 9) (N := some 93) #[true, true, true, true, true, true, true, true, true, true, false, false, false, false] rfl rfl (one_of HT_.out (by kernel_rfl)) (by decide) (fun K hK => ?_)
          refine goes_ Try.func149 (by kernel_rfl) rfl #[.slice A344_0 (rd_L2 l0_0 (ji59)).length c344_0, .int .i64 a1] (by rfl) rfl rfl (by (try simp only [List.map_toArray, List.map_cons, List.map_nil]); first | done | (simp only [hji59]; rfl) | rfl | (simp only [List.length_drop, List.length_take]; rfl)) ?_
          with_reducible refine (spec_maWide.calls _ _ (rd_L2 l0_0 (ji59)) a1 t345 _ ?side1 ?side2 A62.out).mono ?_
          (case side1 => repeat (first | exact (Kd.C_below HR344_0.out HB.out) | (with_reducible refine Kd.C_alloc ?_ _) | (with_reducible refine Kd.C_drewN ?_ _) | (with_reducible refine Kd.C_drew ?_)))
          (case side2 => exact HC344_0.out)
          rintro e w65 ⟨v346, rfl, ho0, hb⟩
          refine ⟨_, rfl, ?_⟩
          have n0_ := aM (Kd.S_elder' (sQ HO_337000) (Kd.R_base ho0) hb)
          have n1_ := aM (Kd.R_lower ho0 (below_size bq))
          have n2_ := aM (blk_below (g := gb324) (o := .cells #[.slice (some ad344) l0_0.length c0_0] 36 (0, 0)) (qQ BK324) hb)
          have n3_ := aM (blk_below (g := gb325) (o := .cells #[.slice none 0 0] 36 (0, 0)) (qQ BK325) hb)
          have n4_ := aM (blk_below (g := gb336) (o := .cells #[u337000] 36 (0, 0)) (qQ BK336) hb)
          have n5_ := aM (below_step bq hb)
          clear HO_337000
          clear BK324
          clear BK325
          clear BK336
          clear HB
          have HO_337000 := n0_
          have HO347 := n1_
          have BK324 := n2_
          have BK325 := n3_
          have BK336 := n4_
          have HB := n5_
          clear n0_ n1_ n2_ n3_ n4_ n5_
          (try clear hb)
          (try clear hb2)
          (try clear hk)
          (try clear hi)
          (try clear ho0)
          obtain ⟨Ao67, co67, eo67⟩ := Kd.R_slice HO347.out
          (first | subst eo67 | (injection eo67 with f1_ f2_ f3_; have f4_ := f1_.symm; have f5_ := f3_.symm; clear f1_ f2_ f3_; subst f4_; subst f5_))
          refine hK.out _ _ ⟨(blk_cell BK336.out 0).trans rfl, (blk_cell BK324.out 0).trans rfl, ((HB.out.cell (World.block_lt_of_cell? w _ hw344_0)).trans hw344_0)⟩ (fun hHeld => ?_)
          clear hK K
          refine norm_ (a' := ?_) ?_ ?_
          rotate_left
          ·show Act.put _ (some 93) _ = _
           simp only [Act.put, List.setIfInBounds_toArray, List.set_cons_zero, List.set_cons_succ, i64_w, i32_w]
           rfl
          refine one_ (i := 10) (N := some 94) #[true, true, true, true, true, true, true, true, true, true, true, false, false, false] rfl rfl (one_of HT_.out (by kernel_rfl)) (by decide) (fun K hK => ?_)
          refine value_ (w1 := ?_) (v := ?_) (by rfl) rfl ?_ ?_
          rotate_left 2
          ·go_simp
           constructor
           ·rfl
           ·rfl
          refine hK.out _ _ ⟨(blk_cell (blk_alloc BK336.out _) 0).trans rfl, (blk_cell (blk_alloc BK324.out _) 0).trans rfl, (World.cell?_alloc_lt _ _ _ (World.block_lt_of_cell? _ _ (((HB.out.cell (World.block_lt_of_cell? w _ hw344_0)).trans hw344_0)))).trans (((HB.out.cell (World.block_lt_of_cell? w _ hw344_0)).trans hw344_0))⟩ (fun hHeld => ?_)
          clear hK K
          refine norm_ (a' := ?_) ?_ ?_
          rotate_left
          ·show Act.put _ (some 94) _ = _
           simp only [Act.put, List.setIfInBounds_toArray, List.set_cons_zero, List.set_cons_succ, i64_w, i32_w]
           rfl
          refine one_ (i := 11) (N := some 95) #[true, true, true, true, true, true, true, true, true, true, true, true, false, false] rfl rfl (one_of HT_.out (by kernel_rfl)) (by decide) (fun K hK => ?_)
          refine Kd.S_append_step (Kd.slice 3 (Kd.int .i64)) (w0 := w) w.heap.size (by rfl) (.tmp 85) (.tmp 94) 34 24 (.slice none 0 0) 24 rfl Try.underlying34 info24 rfl (by decide) (by omega) u337000 x337000_1 t345 [.slice Ao67 t345.length co67] (fun _ => True) (fun k_ => some k_ = (.slice Ao67 t345.length co67 : Value).ownBlock) rfl rfl ?aP (fun k_ hk_ => ((Kd.R_mono (ok' := fun k_ => ((fun _ => True)) k_ ∧ some k_ ≠ (u337000 : Value).ownBlock) (Kd.R_apart' (HO347.out) (Kd.S_typed HO_337000.out) (by decide)) (fun k_ hk => ⟨trivial, hk.2⟩))).1 k_ hk_.symm) ?aF ?aO ?aB ?aS ?aL ?_
          (case aP => exact Kd.M_row (Kd.R_mono (Kd.R_tight rfl (Kd.R_mono (ok' := fun k_ => ((fun _ => True)) k_ ∧ some k_ ≠ (u337000 : Value).ownBlock) (Kd.R_apart' (HO347.out) (Kd.S_typed HO_337000.out) (by decide)) (fun k_ hk => ⟨trivial, hk.2⟩))) (fun _ h_ => h_)))
          (case aB => exact bq)
          (case aF => exact (fun _ _ => trivial))
          (case aO => exact (by (with_reducible repeat first|apply sA|apply sN|apply sD); exact Kd.S_mono HO_337000.out (fun k_ hk => ⟨trivial, fun e_ => hk.2 e_⟩)))
          (case aS => exact (below_size bq))
          (case aL => have := LMc63.out; omega)
          intro v349 w66 ho hb hg hat
          rw [← Ny348.out] at ho
          have n0_ := aM (blk_grown (g := gb324) (o := .cells #[.slice (some ad344) l0_0.length c0_0] 36 (0, 0)) (qQ BK324) hg (Kd.S_ne HO_337000.out BK324.out (by decide)))
          have n1_ := aM (blk_grown (g := gb325) (o := .cells #[.slice none 0 0] 36 (0, 0)) (qQ BK325) hg (Kd.S_ne HO_337000.out BK325.out (by decide)))
          have n2_ := aM (blk_grown (g := gb336) (o := .cells #[u337000] 36 (0, 0)) (qQ BK336) hg (Kd.S_ne HO_337000.out BK336.out (by decide)))
          have n3_ := aM (hb)
          have n4_ := aM (ho)
          clear BK324
          clear BK325
          clear BK336
          clear HB
          clear HO_337000
          clear HO347
          have BK324 := n0_
          have BK325 := n1_
          have BK336 := n2_
          have HB := n3_
          have HO350 := n4_
          clear n0_ n1_ n2_ n3_ n4_
          clear ho hb hg hat
          obtain ⟨Ao68, co68, eo68⟩ := Kd.S_slice HO350.out
          (first | subst eo68 | (injection eo68 with f1_ f2_ f3_; have f4_ := f1_.symm; have f5_ := f3_.symm; clear f1_ f2_ f3_; subst f4_; subst f5_))
          refine hK.out _ _ ⟨(blk_cell BK336.out 0).trans rfl, (blk_cell BK324.out 0).trans rfl, ((HB.out.cell (World.block_lt_of_cell? w _ hw344_0)).trans hw344_0)⟩ (fun hHeld => ?_)
          clear hK K
          refine norm_ (a' := ?_) ?_ ?_
          rotate_left
          ·show Act.put _ (some 95) _ = _
           simp only [Act.put, List.setIfInBounds_toArray, List.set_cons_zero, List.set_cons_succ, i64_w, i32_w]
           rfl
          refine pure_ (i := 12) (N := some 96) (v := ?_) (a' := ?_) #[true, true, true, true, true, true, true, true, true, true, true, true, true, false] rfl rfl (any_of HT_.out (by kernel_rfl)) (fun _ _ _ h => h) (Or.inl ⟨by rfl, ?_⟩) ?_ ?_
          rotate_left
          ·intro w'
           go_simp
           with_reducible rfl
          rotate_left
          ·simp only [Act.put, List.setIfInBounds_toArray, List.set_cons_zero, List.set_cons_succ, i64_w, i32_w]
           rfl
          refine last_ (i := 13) (N := none) #[true, true, true, true, true, true, true, true, true, true, true, true, true, true] rfl rfl (one_of HT_.out (by kernel_rfl)) (by decide) (fun K hK => ?_)
          have hs69 : w66.cell? ⟨gb336, 0, none⟩ = some (u337000) := (blk_cell BK336.out 0).trans rfl
          have hfs69 := blk_frozen BK336.out 0
          have hns69_0 := NB324_336.out
          have hns69_1 := NB325_336.out
          have hms69_0 := NB336_324.out
          have hms69_1 := NB336_325.out
          refine skip_ (w1 := ?_) (by rfl) rfl ?_ ?_
          rotate_left
          ·go_simp
           rfl
          refine hK.out _ _ ?_
          clear hK K
          refine done_ (done_of HT_.out (by kernel_rfl)) ?_
          try go_wp2
          go_roundg k1
          case measure => have := HK1.out; omega
          case rel => exact ⟨(wrap64 (x8_1 + 1)), (y348), (.slice Ao68 y348.length co68), (by first | rfl | (simp; done) | (simp [*]; done)), H', ⟨by have := HK1.out; omega⟩, ⟨by (with_reducible repeat first|apply sA|apply sN|apply sD); exact Kd.S_mono (Kd.S_far (p := ⟨gb336, 0, none⟩) (Kd.S_types HO350.out BK336.out (by decide)) (fun _ hk => hk.2) (.slice Ao68 y348.length co68)) (fun _ hk => trivial)⟩, ⟨by (with_reducible repeat first|apply qN|apply qD|apply qA); refine blk_far ?_ NB324_336.out _; (with_reducible repeat first|apply qN|apply qD|apply qA); exact BK324.out⟩, ⟨by (with_reducible repeat first|apply qN|apply qD|apply qA); refine blk_far ?_ NB325_336.out _; (with_reducible repeat first|apply qN|apply qD|apply qA); exact BK325.out⟩, ⟨by (with_reducible repeat first|apply qN|apply qD|apply qA); refine blk_put (cs := #[u337000]) ?_ 0 _ rfl; (with_reducible repeat first|apply qN|apply qD|apply qA); exact BK336.out⟩, ⟨by exact bq⟩⟩
         ·rw [if_neg c63] at H
          exact absurd H (by simp)
        ·rw [if_neg c61] at H
         exact absurd H (by simp)
       ·rw [if_neg c60] at H
        exact absurd H (by simp)
      ·rw [if_neg c58] at H
       have c58b0 : decide (a1 < x8_1) = false := decide_eq_false c58
       clear c58
       by_cases c70 : 0 ≤ x8_1
       ·rw [if_pos c70] at H
        have c70b0 : decide (0 ≤ x8_1) = true := decide_eq_true c70
        clear c70
        by_cases c71 : x8_1 < (l0_0.length : Int)
        ·rw [if_pos c71] at H
         have c71b0 : decide (x8_1 < (l0_0.length : Int)) = true := decide_eq_true c71
         clear c71
         replace H := Option.bind_eq_some_iff.mp H
         obtain ⟨t352, A720, H⟩ := H
         replace H : (if a1 < (l0_0.length : Int) then (if 0 ≤ (l0_0.length : Int) then (if (l0_0.length : Int) < (t352.length : Int) then (if 0 ≤ a1 then (if a1 < (t352.length : Int) then (if x337000_1.length < 5864062014805 then (spec_maGrow.l0 k1 a1 (l0_0.length : Int) (wrap64 (x8_1 + 1)) l0_0 (x337000_1 ++ [((t352.set (a1 : Int).toNat (rd t352 (l0_0.length : Int))).set ((l0_0.length : Int) : Int).toNat 0)])) else (none)) else (none)) else (none)) else (none)) else (none)) else (if x337000_1.length < 5864062014805 then (spec_maGrow.l0 k1 a1 (l0_0.length : Int) (wrap64 (x8_1 + 1)) l0_0 (x337000_1 ++ [t352])) else (none))) = some r := H
         have A72 := aM A720
         clear A720
         by_cases c73 : a1 < (l0_0.length : Int)
         ·rw [if_pos c73] at H
          have c73b0 : decide (a1 < (l0_0.length : Int)) = true := decide_eq_true c73
          clear c73
          by_cases c74 : 0 ≤ (l0_0.length : Int)
          ·rw [if_pos c74] at H
           have c74b0 : decide (0 ≤ (l0_0.length : Int)) = true := decide_eq_true c74
           have c74b1 : decide (0 ≤ l0_0.length) = true := decide_eq_true (by omega)
           clear c74
           by_cases c75 : (l0_0.length : Int) < (t352.length : Int)
           ·rw [if_pos c75] at H
            have c75b0 : decide ((l0_0.length : Int) < (t352.length : Int)) = true := decide_eq_true c75
            have c75b1 : decide (l0_0.length < t352.length) = true := decide_eq_true (Int.ofNat_lt.mp c75)
            clear c75
            by_cases c76 : 0 ≤ a1
            ·rw [if_pos c76] at H
             have c76b0 : decide (0 ≤ a1) = true := decide_eq_true c76
             clear c76
             by_cases c77 : a1 < (t352.length : Int)
             ·rw [if_pos c77] at H
              have c77b0 : decide (a1 < (t352.length : Int)) = true := decide_eq_true c77
              clear c77
              obtain ⟨y356, hy356⟩ : ∃ y_ : List Int, y_ = (t352.set (a1 : Int).toNat (rd t352 (l0_0.length : Int))) := ⟨_, rfl⟩
              replace H : (if x337000_1.length < 5864062014805 then (spec_maGrow.l0 k1 a1 (l0_0.length : Int) (wrap64 (x8_1 + 1)) l0_0 (x337000_1 ++ [(y356.set ((l0_0.length : Int) : Int).toNat 0)])) else (none)) = some r := by first | (rw [hy356]; with_reducible exact H) | (have H2_ := (Option.bind_some _ _).symm.trans H; rw [hy356]; with_reducible exact H2_) | (have H2_ := (Option.bind_some _ _).symm.trans H; with_reducible exact H2_) | with_reducible exact H | (rw [hy356]; exact H) | exact H
              have Ny356 := aM hy356
              clear hy356
              obtain ⟨y357, hy357⟩ : ∃ y_ : List Int, y_ = (y356.set ((l0_0.length : Int) : Int).toNat 0) := ⟨_, rfl⟩
              replace H : (if x337000_1.length < 5864062014805 then (spec_maGrow.l0 k1 a1 (l0_0.length : Int) (wrap64 (x8_1 + 1)) l0_0 (x337000_1 ++ [y357])) else (none)) = some r := by first | (rw [hy357]; with_reducible exact H) | (have H2_ := (Option.bind_some _ _).symm.trans H; rw [hy357]; with_reducible exact H2_) | (have H2_ := (Option.bind_some _ _).symm.trans H; with_reducible exact H2_) | with_reducible exact H | (rw [hy357]; exact H) | exact H
              have Ny357 := aM hy357
              clear hy357
              by_cases c80 : x337000_1.length < 5864062014805
              ·rw [if_pos c80] at H
               have LMc80 := aM c80
               clear c80
               obtain ⟨y358, hy358⟩ : ∃ y_ : List (List Int), y_ = (x337000_1 ++ [y357]) := ⟨_, rfl⟩
               replace H : (spec_maGrow.l0 k1 a1 (l0_0.length : Int) (wrap64 (x8_1 + 1)) l0_0 y358) = some r := by first | (rw [hy358]; with_reducible exact H) | (have H2_ := (Option.bind_some _ _).symm.trans H; rw [hy358]; with_reducible exact H2_) | (have H2_ := (Option.bind_some _ _).symm.trans H; with_reducible exact H2_) | with_reducible exact H | (rw [hy358]; exact H) | exact H
               have Ny358 := aM hy358
               clear hy358
               have H' := aM H
               clear H
               have hnb81 := NB324_325.out
               have hnc81 := NB325_324.out
               have hnb82 := NB324_336.out
               have hnc82 := NB336_324.out
               have hcz83_0 : wr.cell? ⟨gb324, 0, none⟩ = some (.slice A0_0 l0_0.length c0_0) := (blk_cell BK324.out 0).trans rfl
               have hfz83_0 := blk_frozen BK324.out 0
               have p351 : 0 ≤ (x8_1 : Int) := odt
               have q351 : x8_1 < (l0_0.length : Int) := odt
               obtain ⟨ad351, A351_0, c351_0, e351, hx351_0, hl351_0, hi351_0⟩ := at_L2 HR0_0.out x8_1 p351 q351
               cases e351
               replace hx351_0 := (HB.out.cell (World.block_lt_of_cell? w _ hx351_0)).trans hx351_0
               have HR351_0 := aM hi351_0
               have HC351_0 := aM hl351_0
               clear hi351_0 hl351_0
               replace p351 := eq_true p351
               replace q351 := eq_true q351
               go_wp2_with (first | ((with_reducible refine gate_callee (f := 149) rfl ?_); refine gL (some 44) Try.func149 #[.slice A351_0 (rd_L2 l0_0 x8_1).length c351_0, .int .i64 a1] ?_; (with_reducible refine (spec_maWide.calls _ _ (rd_L2 l0_0 x8_1) a1 t352 _ (cQ (Kd.C_below HR351_0.out HB.out)) HC351_0.out A72.out).mono ?_); rintro e w84 ⟨v353, rfl, ho0, hb⟩; refine ⟨_, rfl, ?_⟩; have _ := aM (Kd.S_elder' (sQ HO_337000) (Kd.R_base ho0) hb); have _ := aM (Kd.R_lower ho0 (below_size bq)); have _ := aM (blk_below (g := gb324) (o := .cells #[.slice (some ad351) l0_0.length c0_0] 36 (0, 0)) (qQ BK324) hb); have _ := aM (blk_below (g := gb325) (o := .cells #[.slice none 0 0] 36 (0, 0)) (qQ BK325) hb); have _ := aM (blk_below (g := gb336) (o := .cells #[u337000] 36 (0, 0)) (qQ BK336) hb); have _ := aM (below_step bq hb); clear HO_337000 BK324 BK325 BK336 HB; rename_i HO_337000 HO354 BK324 BK325 BK336 HB; (try clear hb); (try clear hb2); (try clear hk); (try clear hi); (try clear ho0); obtain ⟨Ao85, co85, eo85⟩ := Kd.R_slice HO354.out; subst eo85; have p355 : 0 ≤ ((l0_0.length : Int) : Int) := odt; have q355 : (l0_0.length : Int) < (t352.length : Int) := odt; obtain ⟨ad355, e355, hx355_0⟩ := Kd.at_int (Kd.R_reads' HO354.out).2.2 (l0_0.length : Int) p355 q355; cases e355; (try simp only [Go.IntWalk.toNatUp] at hx355_0); replace p355 := eq_true p355; replace q355 := eq_true q355; have p78 : 0 ≤ (a1 : Int) := odt; have q78 : (a1 : Int) < ((t352.length : Int) : Int) := odt; obtain ⟨go78, co78, eo78, gb78, gl78, cl78, HG78⟩ := Kd.R_form HO354.out (by omega); (first | cases eo78 | (injection eo78 with ea_ en_ ec_; (first | subst ea_ | (injection ea_ with ea_; subst ea_)); subst ec_; clear en_)); have GB78 := aM gb78; have GG78 := aM HG78; clear gb78 gl78 HG78; (first | simp only [add_plain] at hx355_0 | skip); obtain ⟨hx78_0, hf78_0⟩ := Kd.R_celln 0 HO354.out (a1 : Int) p78 q78; replace p78 := eq_true p78; replace q78 := eq_true q78; obtain ⟨hy86_, hz86_⟩ := Kd.R_celln 0 HO354.out (a1 : Int) (odt) (odt); have HP86 := Kd.R_putg HO354.out (a1 : Int) (rd t352 (l0_0.length : Int))) | ((with_reducible refine gate_store (t := 3) (p := 54) rfl ?_); refine sE (w84.setCell ⟨go78, (a1 : Int).toNat, none⟩ (.int .i64 (rd t352 (l0_0.length : Int)))) 3 54 ?_; intro w87 hw; have hg : w84.grownBy w87 (some go78) := (by rw [hw]; exact HP86.2); have hp_ : Kd.R (Kd.int .i64) 3 w87 w.heap.size (fun _ => True) (.slice (some ⟨go78, 0, none⟩) t352.length co85) y356 := (by rw [hw, Ny356.out]; exact HP86.1); clear HP86; have _ := aM (Kd.S_after (v := (.slice (some ⟨go78, 0, none⟩) t352.length co85)) (v1 := (.slice (some ⟨go78, 0, none⟩) t352.length co85)) (ok := (fun _ => True)) (sQ HO_337000) hg (.inl rfl)); have _ := aM (blk_grown (g := gb324) (o := .cells #[.slice (some ad351) l0_0.length c0_0] 36 (0, 0)) (qQ BK324) hg (Kd.R_ne HO354.out BK324.out (by decide))); have _ := aM (blk_grown (g := gb325) (o := .cells #[.slice none 0 0] 36 (0, 0)) (qQ BK325) hg (Kd.R_ne HO354.out BK325.out (by decide))); have _ := aM (blk_grown (g := gb336) (o := .cells #[u337000] 36 (0, 0)) (qQ BK336) hg (Kd.R_ne HO354.out BK336.out (by decide))); have _ := aM (hp_); have _ := aM ((by rw [hw]; exact below_set (HB.out) GB78.out : Below w.heap.size w w87)); clear HO_337000 BK324 BK325 BK336 HO354 HB; rename_i HO_337000 BK324 BK325 BK336 HO354 HB; clear hg hw hp_; have p79 : 0 ≤ ((l0_0.length : Int) : Int) := odt; have q79 : ((l0_0.length : Int) : Int) < ((t352.length : Int) : Int) := odt; obtain ⟨hx79_0, hf79_0⟩ := Kd.R_celln 0 HO354.out ((l0_0.length : Int) : Int) p79 q79; replace p79 := eq_true p79; replace q79 := eq_true q79; obtain ⟨hy88_, hz88_⟩ := Kd.R_celln 0 HO354.out ((l0_0.length : Int) : Int) (odt) (odt); (try simp only [Go.IntWalk.toNatUp] at hy88_ hz88_); have HP88 := Kd.R_putg HO354.out ((l0_0.length : Int) : Int) 0) | ((with_reducible refine gate_store (t := 3) (p := 57) rfl ?_); refine sE (w87.setCell ⟨go78, ((l0_0.length : Int) : Int).toNat, none⟩ (.int .i64 0)) 3 57 ?_; intro w89 hw; have hg : w87.grownBy w89 (some go78) := (by rw [hw]; exact HP88.2); have hp_ : Kd.R (Kd.int .i64) 3 w89 w.heap.size (fun _ => True) (.slice (some ⟨go78, 0, none⟩) t352.length co85) y357 := (by rw [hw, Ny357.out]; exact HP88.1); clear HP88; have _ := aM (Kd.S_after (v := (.slice (some ⟨go78, 0, none⟩) t352.length co85)) (v1 := (.slice (some ⟨go78, 0, none⟩) t352.length co85)) (ok := (fun _ => True)) (sQ HO_337000) hg (.inl rfl)); have _ := aM (blk_grown (g := gb324) (o := .cells #[.slice (some ad351) l0_0.length c0_0] 36 (0, 0)) (qQ BK324) hg (Kd.R_ne HO354.out BK324.out (by decide))); have _ := aM (blk_grown (g := gb325) (o := .cells #[.slice none 0 0] 36 (0, 0)) (qQ BK325) hg (Kd.R_ne HO354.out BK325.out (by decide))); have _ := aM (blk_grown (g := gb336) (o := .cells #[u337000] 36 (0, 0)) (qQ BK336) hg (Kd.R_ne HO354.out BK336.out (by decide))); have _ := aM (hp_); have _ := aM ((by rw [hw]; exact below_set (HB.out) GB78.out : Below w.heap.size w w89)); clear HO_337000 BK324 BK325 BK336 HO354 HB; rename_i HO_337000 BK324 BK325 BK336 HO354 HB; clear hg hw hp_; have hnb90 := NB336_325.out; have hnc90 := NB325_336.out; have hcz91_0 : w89.cell? ⟨gb336, 0, none⟩ = some (u337000) := (blk_cell BK336.out 0).trans rfl; have hfz91_0 := blk_frozen BK336.out 0) | ((with_reducible refine gate_builtin (b := .append) (xs := #[.tmp 59, .tmp 61]) rfl ?_); at_builtin; refine Kd.S_append (Kd.slice 3 (Kd.int .i64)) (w0 := w) w.heap.size rfl (.tmp 59) (.tmp 61) 34 24 (.slice none 0 0) 24 rfl Try.underlying34 info24 rfl (by decide) (by omega) u337000 x337000_1 y357 [.slice (some ⟨go78, 0, none⟩) t352.length co85] (fun _ => True) (fun k_ => some k_ = (.slice (some ⟨go78, 0, none⟩) t352.length co85 : Value).ownBlock) rfl rfl ?aP (fun k_ hk_ => ((Kd.R_mono (ok' := fun k_ => ((fun _ => True)) k_ ∧ some k_ ≠ (u337000 : Value).ownBlock) (Kd.R_apart' (HO354.out) (Kd.S_typed HO_337000.out) (by decide)) (fun k_ hk => ⟨trivial, hk.2⟩))).1 k_ hk_.symm) ?aF ?aO ?aB ?aS ?aL ?_; (case aP => exact Kd.M_row (Kd.R_mono (Kd.R_tight rfl (Kd.R_mono (ok' := fun k_ => ((fun _ => True)) k_ ∧ some k_ ≠ (u337000 : Value).ownBlock) (Kd.R_apart' (HO354.out) (Kd.S_typed HO_337000.out) (by decide)) (fun k_ hk => ⟨trivial, hk.2⟩))) (fun _ h_ => h_))); (case aB => exact bq); (case aF => exact (fun _ _ => trivial)); (case aO => exact (by (with_reducible repeat first|apply sA|apply sN|apply sD); exact Kd.S_mono HO_337000.out (fun k_ hk => ⟨trivial, fun e_ => hk.2 e_⟩))); (case aS => exact (below_size bq)); (case aL => have := LMc80.out; omega); intro v359 w92 ho hb hg hat; rw [← Ny358.out] at ho; have _ := aM (blk_grown (g := gb324) (o := .cells #[.slice (some ad351) l0_0.length c0_0] 36 (0, 0)) (qQ BK324) hg (Kd.S_ne HO_337000.out BK324.out (by decide))); have _ := aM (blk_grown (g := gb325) (o := .cells #[.slice none 0 0] 36 (0, 0)) (qQ BK325) hg (Kd.S_ne HO_337000.out BK325.out (by decide))); have _ := aM (blk_grown (g := gb336) (o := .cells #[u337000] 36 (0, 0)) (qQ BK336) hg (Kd.S_ne HO_337000.out BK336.out (by decide))); have _ := aM (hb); have _ := aM (ho); clear BK324 BK325 BK336 HB HO_337000 HO354; rename_i BK324 BK325 BK336 HB HO360; clear ho hb hg hat; obtain ⟨Ao93, co93, eo93⟩ := Kd.S_slice HO360.out; subst eo93; have hcz94_0 : w92.cell? ⟨gb336, 0, none⟩ = some (u337000) := (blk_cell BK336.out 0).trans rfl; have hfz94_0 := blk_frozen BK336.out 0))
               go_roundg k1
               case measure => have := HK1.out; omega
               case rel => exact ⟨(wrap64 (x8_1 + 1)), (y358), (.slice Ao93 y358.length co93), (by first | rfl | (simp; done) | (simp [*]; done)), H', ⟨by have := HK1.out; omega⟩, ⟨by (with_reducible repeat first|apply sA|apply sN|apply sD); exact Kd.S_mono (Kd.S_far (p := ⟨gb336, 0, none⟩) (Kd.S_types HO360.out BK336.out (by decide)) (fun _ hk => hk.2) (.slice Ao93 y358.length co93)) (fun _ hk => trivial)⟩, ⟨by (with_reducible repeat first|apply qN|apply qD|apply qA); refine blk_far ?_ NB324_336.out _; (with_reducible repeat first|apply qN|apply qD|apply qA); exact BK324.out⟩, ⟨by (with_reducible repeat first|apply qN|apply qD|apply qA); refine blk_far ?_ NB325_336.out _; (with_reducible repeat first|apply qN|apply qD|apply qA); exact BK325.out⟩, ⟨by (with_reducible repeat first|apply qN|apply qD|apply qA); refine blk_put (cs := #[u337000]) ?_ 0 _ rfl; (with_reducible repeat first|apply qN|apply qD|apply qA); exact BK336.out⟩, ⟨by exact bq⟩⟩
              ·rw [if_neg c80] at H
               exact absurd H (by simp)
             ·rw [if_neg c77] at H
              exact absurd H (by simp)
            ·rw [if_neg c76] at H
             exact absurd H (by simp)
           ·rw [if_neg c75] at H
            exact absurd H (by simp)
          ·rw [if_neg c74] at H
           exact absurd H (by simp)
         ·rw [if_neg c73] at H
          have c73b0 : decide (a1 < (l0_0.length : Int)) = false := decide_eq_false c73
          clear c73
          by_cases c95 : x337000_1.length < 5864062014805
          ·rw [if_pos c95] at H
           have LMc95 := aM c95
           clear c95
           obtain ⟨y361, hy361⟩ : ∃ y_ : List (List Int), y_ = (x337000_1 ++ [t352]) := ⟨_, rfl⟩
           replace H : (spec_maGrow.l0 k1 a1 (l0_0.length : Int) (wrap64 (x8_1 + 1)) l0_0 y361) = some r := by first | (rw [hy361]; with_reducible exact H) | (have H2_ := (Option.bind_some _ _).symm.trans H; rw [hy361]; with_reducible exact H2_) | (have H2_ := (Option.bind_some _ _).symm.trans H; with_reducible exact H2_) | with_reducible exact H | (rw [hy361]; exact H) | exact H
           have Ny361 := aM hy361
           clear hy361
           have H' := aM H
           clear H
           have hnb96 := NB324_325.out
           have hnc96 := NB325_324.out
           have hnb97 := NB324_336.out
           have hnc97 := NB336_324.out
           have hcz98_0 : wr.cell? ⟨gb324, 0, none⟩ = some (.slice A0_0 l0_0.length c0_0) := (blk_cell BK324.out 0).trans rfl
           have hfz98_0 := blk_frozen BK324.out 0
           have p351 : 0 ≤ (x8_1 : Int) := odt
           have q351 : x8_1 < (l0_0.length : Int) := odt
           obtain ⟨ad351, A351_0, c351_0, e351, hx351_0, hl351_0, hi351_0⟩ := at_L2 HR0_0.out x8_1 p351 q351
           cases e351
           replace hx351_0 := (HB.out.cell (World.block_lt_of_cell? w _ hx351_0)).trans hx351_0
           have HR351_0 := aM hi351_0
           have HC351_0 := aM hl351_0
           clear hi351_0 hl351_0
           replace p351 := eq_true p351
           replace q351 := eq_true q351
           go_wp2_with (first | ((with_reducible refine gate_callee (f := 149) rfl ?_); refine gL (some 44) Try.func149 #[.slice A351_0 (rd_L2 l0_0 x8_1).length c351_0, .int .i64 a1] ?_; (with_reducible refine (spec_maWide.calls _ _ (rd_L2 l0_0 x8_1) a1 t352 _ (cQ (Kd.C_below HR351_0.out HB.out)) HC351_0.out A72.out).mono ?_); rintro e w99 ⟨v353, rfl, ho0, hb⟩; refine ⟨_, rfl, ?_⟩; have _ := aM (Kd.S_elder' (sQ HO_337000) (Kd.R_base ho0) hb); have _ := aM (Kd.R_lower ho0 (below_size bq)); have _ := aM (blk_below (g := gb324) (o := .cells #[.slice (some ad351) l0_0.length c0_0] 36 (0, 0)) (qQ BK324) hb); have _ := aM (blk_below (g := gb325) (o := .cells #[.slice none 0 0] 36 (0, 0)) (qQ BK325) hb); have _ := aM (blk_below (g := gb336) (o := .cells #[u337000] 36 (0, 0)) (qQ BK336) hb); have _ := aM (below_step bq hb); clear HO_337000 BK324 BK325 BK336 HB; rename_i HO_337000 HO354 BK324 BK325 BK336 HB; (try clear hb); (try clear hb2); (try clear hk); (try clear hi); (try clear ho0); have hnb100 := NB336_325.out; have hnc100 := NB325_336.out; have hcz101_0 : w99.cell? ⟨gb336, 0, none⟩ = some (u337000) := (blk_cell BK336.out 0).trans rfl; have hfz101_0 := blk_frozen BK336.out 0; obtain ⟨Ao103, co103, eo103⟩ := Kd.R_slice HO354.out; subst eo103) | ((with_reducible refine gate_builtin (b := .append) (xs := #[.tmp 59, .tmp 61]) rfl ?_); at_builtin; refine Kd.S_append (Kd.slice 3 (Kd.int .i64)) (w0 := w) w.heap.size rfl (.tmp 59) (.tmp 61) 34 24 (.slice none 0 0) 24 rfl Try.underlying34 info24 rfl (by decide) (by omega) u337000 x337000_1 t352 [.slice Ao103 t352.length co103] (fun _ => True) (fun k_ => some k_ = (.slice Ao103 t352.length co103 : Value).ownBlock) rfl rfl ?aP (fun k_ hk_ => ((Kd.R_mono (ok' := fun k_ => ((fun _ => True)) k_ ∧ some k_ ≠ (u337000 : Value).ownBlock) (Kd.R_apart' (HO354.out) (Kd.S_typed HO_337000.out) (by decide)) (fun k_ hk => ⟨trivial, hk.2⟩))).1 k_ hk_.symm) ?aF ?aO ?aB ?aS ?aL ?_; (case aP => exact Kd.M_row (Kd.R_mono (Kd.R_tight rfl (Kd.R_mono (ok' := fun k_ => ((fun _ => True)) k_ ∧ some k_ ≠ (u337000 : Value).ownBlock) (Kd.R_apart' (HO354.out) (Kd.S_typed HO_337000.out) (by decide)) (fun k_ hk => ⟨trivial, hk.2⟩))) (fun _ h_ => h_))); (case aB => exact bq); (case aF => exact (fun _ _ => trivial)); (case aO => exact (by (with_reducible repeat first|apply sA|apply sN|apply sD); exact Kd.S_mono HO_337000.out (fun k_ hk => ⟨trivial, fun e_ => hk.2 e_⟩))); (case aS => exact (below_size bq)); (case aL => have := LMc95.out; omega); intro v362 w102 ho hb hg hat; rw [← Ny361.out] at ho; have _ := aM (blk_grown (g := gb324) (o := .cells #[.slice (some ad351) l0_0.length c0_0] 36 (0, 0)) (qQ BK324) hg (Kd.S_ne HO_337000.out BK324.out (by decide))); have _ := aM (blk_grown (g := gb325) (o := .cells #[.slice none 0 0] 36 (0, 0)) (qQ BK325) hg (Kd.S_ne HO_337000.out BK325.out (by decide))); have _ := aM (blk_grown (g := gb336) (o := .cells #[u337000] 36 (0, 0)) (qQ BK336) hg (Kd.S_ne HO_337000.out BK336.out (by decide))); have _ := aM (hb); have _ := aM (ho); clear BK324 BK325 BK336 HB HO_337000 HO354; rename_i BK324 BK325 BK336 HB HO363; clear ho hb hg hat; obtain ⟨Ao104, co104, eo104⟩ := Kd.S_slice HO363.out; subst eo104; have hcz105_0 : w102.cell? ⟨gb336, 0, none⟩ = some (u337000) := (blk_cell BK336.out 0).trans rfl; have hfz105_0 := blk_frozen BK336.out 0))
           go_roundg k1
           case measure => have := HK1.out; omega
           case rel => exact ⟨(wrap64 (x8_1 + 1)), (y361), (.slice Ao104 y361.length co104), (by first | rfl | (simp; done) | (simp [*]; done)), H', ⟨by have := HK1.out; omega⟩, ⟨by (with_reducible repeat first|apply sA|apply sN|apply sD); exact Kd.S_mono (Kd.S_far (p := ⟨gb336, 0, none⟩) (Kd.S_types HO363.out BK336.out (by decide)) (fun _ hk => hk.2) (.slice Ao104 y361.length co104)) (fun _ hk => trivial)⟩, ⟨by (with_reducible repeat first|apply qN|apply qD|apply qA); refine blk_far ?_ NB324_336.out _; (with_reducible repeat first|apply qN|apply qD|apply qA); exact BK324.out⟩, ⟨by (with_reducible repeat first|apply qN|apply qD|apply qA); refine blk_far ?_ NB325_336.out _; (with_reducible repeat first|apply qN|apply qD|apply qA); exact BK325.out⟩, ⟨by (with_reducible repeat first|apply qN|apply qD|apply qA); refine blk_put (cs := #[u337000]) ?_ 0 _ rfl; (with_reducible repeat first|apply qN|apply qD|apply qA); exact BK336.out⟩, ⟨by exact bq⟩⟩
          ·rw [if_neg c95] at H
           exact absurd H (by simp)
        ·rw [if_neg c71] at H
         exact absurd H (by simp)
       ·rw [if_neg c70] at H
        exact absurd H (by simp)
    ·rw [if_neg c39] at H
     have c39b0 : decide (x8_1 ≤ (l0_0.length : Int)) = false := decide_eq_false c39
     clear c39
     obtain rfl := Option.some.inj H
     have hnb106 := NB336_324.out
     have hnc106 := NB324_336.out
     have hnb107 := NB336_325.out
     have hnc107 := NB325_336.out
     have hcz108_0 : wr.cell? ⟨gb336, 0, none⟩ = some (u337000) := (blk_cell BK336.out 0).trans rfl
     have hfz108_0 := blk_frozen BK336.out 0
     obtain ⟨Ao109, co109, eo109⟩ := Kd.S_slice HO_337000.out
     subst eo109
     have hnb110 := NB325_324.out
     have hnc110 := NB324_325.out
     have hcz111_0 : wr.cell? ⟨gb325, 0, none⟩ = some (.slice none 0 0) := (blk_cell BK325.out 0).trans rfl
     have hfz111_0 := blk_frozen BK325.out 0
     go_wp2
     refine bodyPost_ret (results_cell_row rfl _ _ gb325 36 #[.slice Ao109 x337000_1.length co109] (0, 0) _ rfl (by (with_reducible repeat first|apply qN|apply qD|apply qA); refine blk_put (cs := #[.slice none 0 0]) ?_ 0 _ rfl; (with_reducible repeat first|apply qN|apply qD|apply qA); exact BK325.out) Try.underlying36 rfl (by kernel_rfl)) rfl ?_
     exact ⟨_, by first | rfl | (simp [errW_none, errW_some] <;> rfl) | (simp [*, errW_none, errW_some] <;> rfl), by (with_reducible repeat first|apply sA|apply sN|apply sD); exact Kd.S_mono (Kd.S_far (p := ⟨gb325, 0, none⟩) (Kd.S_types HO_337000.out BK325.out (by decide)) (fun _ hk => hk.2) (.slice Ao109 x337000_1.length co109)) (fun _ hk => trivial), by exact bq⟩

end Go.Proofs.Ytacdlipojhoilaa.Yx
