-- Written by hook.py, a program of this session (wip/), which runs the kit's print.py with its own parts; Lean checks it.
import Derived.Test.YtcodionjhcmfhaaGreatDoorAx0
import Derived.Test.YtcodionjhcmfhaaGreatDoorAx10
import Derived.Test.YtcodionjhcmfhaaGreatDoorAx11
import Derived.Test.YtcodionjhcmfhaaGreatDoorAx12
import Derived.Test.YtcodionjhcmfhaaGreatDoorAxXSq
namespace Go.Proofs.YtcodionjhcmfhaaGreatDoor.Ax
open Go.RowKit Go.Proofs.YtcodionjhcmfhaaGreatDoorW.PrintWords Go.Proofs.YtcodionjhcmfhaaGreatDoorW.PrintLast Go.Proofs.YtcodionjhcmfhaaGreatDoorW.PrintMore Go.Proofs.YtcodionjhcmfhaaGreatDoor.Sq
attribute [local go_sem] max2_int min2_int max_two min_two max_three min_three max_four min_four   -- for this text's walks alone
set_option linter.unusedVariables false
set_option linter.unusedSimpArgs false

def spec_maGrow.l0 : Nat → Int → Int → Int → List (List Int) → List (List Int) → Option ((List (List Int)))
 | 0, _, _, _, _, _ => none
 | k + 1, x1, x5, x8, x280000, x292000 => if x8 ≤ x5 then (if x8 = x1 then (if 0 ≤ (wrap64 (x5 + 1)) then (if (wrap64 (x5 + 1) : Int).toNat ≤ 35184372088832 then ((some (List.replicate (wrap64 (x5 + 1) : Int).toNat 0 : List Int)).bind fun y292 => (if 0 ≤ x5 then (if x5 < (y292.length : Int) then (if x292000.length < 5864062014805 then (spec_maGrow.l0 k x1 x5 (wrap64 (x8 + 1)) x280000 (x292000 ++ [(y292.set (x5 : Int).toNat 1)])) else (none)) else (none)) else (none))) else (none)) else (none)) else (if x8 > x1 then (if 0 ≤ (wrap64 (x8 - 1)) then (if (wrap64 (x8 - 1)) < (x280000.length : Int) then ((spec_maWide.f (rd_L2 x280000 (wrap64 (x8 - 1))) x1).bind fun t300 => (if x292000.length < 5864062014805 then (spec_maGrow.l0 k x1 x5 (wrap64 (x8 + 1)) x280000 (x292000 ++ [t300])) else (none))) else (none)) else (none)) else (if 0 ≤ x8 then (if x8 < (x280000.length : Int) then ((spec_maWide.f (rd_L2 x280000 x8) x1).bind fun t307 => (if x1 < x5 then (if 0 ≤ x5 then (if x5 < (t307.length : Int) then (if 0 ≤ x1 then (if x1 < (t307.length : Int) then (if x292000.length < 5864062014805 then (spec_maGrow.l0 k x1 x5 (wrap64 (x8 + 1)) x280000 (x292000 ++ [((t307.set (x1 : Int).toNat (rd t307 x5)).set (x5 : Int).toNat 0)])) else (none)) else (none)) else (none)) else (none)) else (none)) else (if x292000.length < 5864062014805 then (spec_maGrow.l0 k x1 x5 (wrap64 (x8 + 1)) x280000 (x292000 ++ [t307])) else (none)))) else (none)) else (none)))) else (some x292000)
def spec_maGrow.f (k : Nat) (l0_0 : List (List Int)) (a1 : Int) : Option ((List (List Int))) := (spec_maTop.f k l0_0).bind fun t281 => (if a1 ≤ t281 then ((spec_maOwn.f k l0_0).bind fun t282 => (if 0 ≤ a1 then (if a1 < (t282.length : Int) then (if 0 ≤ (wrap64 ((l0_0.length : Int) - 1)) then (if (wrap64 ((l0_0.length : Int) - 1)) < ((rd_L2 t282 a1).length : Int) then (some (t282.set (a1 : Int).toNat ((rd_L2 t282 a1).set ((wrap64 ((l0_0.length : Int) - 1)) : Int).toNat (wrap64 ((rd (rd_L2 t282 a1) (wrap64 ((l0_0.length : Int) - 1))) + 1))))) else (none)) else (none)) else (none)) else (none))) else (spec_maGrow.l0 k a1 (l0_0.length : Int) 0 l0_0 ([] : List (List Int))))
def spec_maGrow.T20 : Bool × List (List Nat × List Nat) := (true, [([], []), ([0], [0]), ([], []), ([2], [2]), ([], []), ([4], [4]), ([3, 5], [3, 5]), ([6], [6]), ([], []), ([7, 8], [7, 8]), ([9], [9]), ([1, 10, 9], [1, 10]), ([0, 1, 2, 3, 4, 5, 6, 7, 8, 9, 10, 11], []), ([12, 11, 11, 0, 1, 2, 3, 4, 5, 6, 7, 8, 9, 10, 11], [11, 12])])
def spec_maGrow.B20 : List Nat := [0, 1, 0, 4, 0, 16, 60, 124, 0, 508, 1020, 2047, 4095, 8191]
theorem spec_maGrow.tab20 : rtab .any (opsOf Tryz.f115 20) = spec_maGrow.T20 := by kernel_rfl
theorem spec_maGrow.bits20 : waitsOk spec_maGrow.T20.2 spec_maGrow.B20 = true := by kernel_rfl
set_option maxHeartbeats 8000000 in
set_option maxRecDepth 100000 in
theorem spec_maGrow.calls (k : Nat) (A0_0 : Option Addr) (c0_0 : Nat) (l0_0 : List (List Int)) (a1 : Int) (r : List (List Int)) (w : World) (hr0_0 : Kd.C (Kd.slice 3 (Kd.int .i64)) w A0_0 l0_0.length l0_0) (hc0_0 : l0_0.length ≤ c0_0) (h : spec_maGrow.f k l0_0 a1 = some r) :
  Calls Tryz.prog 115 #[.agg #[.slice A0_0 l0_0.length c0_0], .int .i64 a1] w fun e w' => ∃ v0_ : Value, e = .returned (.agg #[v0_]) ∧ Kd.S (Kd.slice 3 (Kd.int .i64)) 24 w' w.heap.size (fun _ => True) v0_ r ∧ Below w.heap.size w w' := by
 have hu30 := Tryz.underlying30
 have HR0_0 := aM hr0_0
 have HC0_0 := aM hc0_0
 clear hr0_0 hc0_0
 have HB := aM (Below.refl w.heap.size w)
 have H : ((spec_maTop.f k l0_0).bind fun t281 => (if a1 ≤ t281 then ((spec_maOwn.f k l0_0).bind fun t282 => (if 0 ≤ a1 then (if a1 < (t282.length : Int) then (if 0 ≤ (wrap64 ((l0_0.length : Int) - 1)) then (if (wrap64 ((l0_0.length : Int) - 1)) < ((rd_L2 t282 a1).length : Int) then (some (t282.set (a1 : Int).toNat ((rd_L2 t282 a1).set ((wrap64 ((l0_0.length : Int) - 1)) : Int).toNat (wrap64 ((rd (rd_L2 t282 a1) (wrap64 ((l0_0.length : Int) - 1))) + 1))))) else (none)) else (none)) else (none)) else (none))) else (spec_maGrow.l0 k a1 (l0_0.length : Int) 0 l0_0 ([] : List (List Int))))) = some r := h
 clear h
 replace H := bS H
 obtain ⟨t281, A3, H⟩ := H
 try dsimp only at H
 by_cases c4 : a1 ≤ t281
 ·rw [if_pos c4] at H
  have c4b0 := decide_eq_true c4
  clear c4
  replace H := bS H
  obtain ⟨t282, A5, H⟩ := H
  try dsimp only at H
  replace H := iD2 H
  obtain ⟨c6b0, c7b0, H⟩ := H
  obtain ⟨ji8, hji8⟩ : ∃ j_ : Int, (wrap64 ((l0_0.length : Int) - 1)) = j_ := ⟨_, rfl⟩
  replace H : (if 0 ≤ (ji8) then (if (ji8) < ((rd_L2 t282 a1).length : Int) then (some (t282.set (a1 : Int).toNat ((rd_L2 t282 a1).set ((ji8) : Int).toNat (wrap64 ((rd (rd_L2 t282 a1) (ji8)) + 1))))) else (none)) else (none)) = some r := by first | (rw [hji8] at H; exact H) | (simp only [hji8] at H ⊢; exact H)
  (try rw [hji8] at A3)
  (try rw [hji8] at A5)
  have hji8w : (IntKind.i64.wrap ((l0_0.length : Int) - 1)) = ji8 := (i64_w _).trans hji8
  replace H := iD2 H
  obtain ⟨c9b0, c10b0, H⟩ := H
  obtain ⟨y288, hy288⟩ : ∃ y_ : List Int, y_ = ((rd_L2 t282 a1).set ((ji8) : Int).toNat (wrap64 ((rd (rd_L2 t282 a1) (ji8)) + 1))) := ⟨_, rfl⟩
  replace H : (some (t282.set (a1 : Int).toNat y288)) = some r := by first | (rw [hy288]; with_reducible exact H) | (have H2_ := (Option.bind_some _ _).symm.trans H; rw [hy288]; with_reducible exact H2_) | (have H2_ := (Option.bind_some _ _).symm.trans H; with_reducible exact H2_) | with_reducible exact H | (rw [hy288]; exact H) | exact H
  have Ny288 := aM hy288
  clear hy288
  obtain ⟨y290, hy290⟩ : ∃ y_ : List (List Int), y_ = (t282.set (a1 : Int).toNat y288) := ⟨_, rfl⟩
  replace H : (some y290) = some r := by first | (rw [hy290]; with_reducible exact H) | (have H2_ := (Option.bind_some _ _).symm.trans H; rw [hy290]; with_reducible exact H2_) | (have H2_ := (Option.bind_some _ _).symm.trans H; with_reducible exact H2_) | with_reducible exact H | (rw [hy290]; exact H) | exact H
  have Ny290 := aM hy290
  clear hy290
  obtain rfl := Option.some.inj H
  go_enter Tryz.func115, Tryz.ntmps115
  go_wp2_with (first | ((with_reducible refine gate_dst (N := 2) rfl ?_); refine bE 2 30 #[.slice A0_0 l0_0.length c0_0] ?_; intro gb279 hg w12 hbox hb; have _ := aM (below_step bq hb); have _ := aM (hbox); have _ := aM ((gS hg)); have _ := aM ((gS hg)); clear HB; rename_i HB BK279 GW279 GE279; clear hb hbox hg) | ((with_reducible refine gate_dst (N := 4) rfl ?_); refine bE 4 30 #[.slice none 0 0] ?_; intro gb280 hg w13 hbox hb; have _ := aM (blk_below (qQ BK279) hb); have _ := aM (below_step bq hb); have _ := aM (hbox); have _ := aM ((gS hg)); have _ := aM ((gS hg)); have _ := aM ((by rw [hg]; exact Nat.ne_of_lt (blk_lt (g := gb279) (o := .cells #[.slice A0_0 l0_0.length c0_0] 30 (0, 0)) (qQ BK279)) : gb279 ≠ gb280)); have _ := aM ((by rw [hg]; exact Nat.ne_of_gt (blk_lt (g := gb279) (o := .cells #[.slice A0_0 l0_0.length c0_0] 30 (0, 0)) (qQ BK279)) : gb280 ≠ gb279)); clear BK279 HB; rename_i BK279 HB BK280 GW280 GE280 NB279_280 NB280_279; clear hb hbox hg; have hnb14 := NB279_280.out; have hnc14 := NB280_279.out; have hcz15_0 := c10 BK279; have hfz15_0 := blk_frozen BK279.out 0) | ((with_reducible refine gate_callee (f := 125) rfl ?_); refine gL (some 16) Tryz.func125 #[.agg #[.slice A0_0 l0_0.length c0_0]] ?_; (with_reducible refine (spec_maTop.calls k _ _ l0_0 t281 _ (cQ (Kd.C_below HR0_0.out HB.out)) HC0_0.out A3.out).mono ?_); rintro e w16 ⟨rfl, hb⟩; refine ⟨_, rfl, ?_⟩; have _ := aM (blk_below (qQ BK279) hb); have _ := aM (blk_below (qQ BK280) hb); have _ := aM (below_step bq hb); clear BK279 BK280 HB; rename_i BK279 BK280 HB; (try clear hb); (try clear hb2); (try clear hk); (try clear hi); have hcz17_0 := c10 BK279; have hfz17_0 := blk_frozen BK279.out 0) | ((with_reducible refine gate_callee (f := 126) rfl ?_); refine gL (some 19) Tryz.func126 #[.agg #[.slice A0_0 l0_0.length c0_0]] ?_; (with_reducible refine (spec_maOwn.calls k _ _ l0_0 t282 _ (cQ (Kd.C_below HR0_0.out HB.out)) HC0_0.out A5.out).mono ?_); rintro e w18 ⟨v283, rfl, ho0, hb⟩; refine ⟨_, rfl, ?_⟩; have _ := aM (Kd.S_lower ho0 (below_size bq)); have _ := aM (blk_below (qQ BK279) hb); have _ := aM (blk_below (qQ BK280) hb); have _ := aM (below_step bq hb); clear BK279 BK280 HB; rename_i HO284 BK279 BK280 HB; (try clear hb); (try clear hb2); (try clear hk); (try clear hi); (try clear ho0)) | ((with_reducible refine gate_dst (N := 6) rfl ?_); refine bE 6 30 #[.slice none 0 0] ?_; intro gb285 hg w19 hbox hb; have _ := aM (Kd.S_below (sQ HO284) hb); have _ := aM (blk_below (qQ BK279) hb); have _ := aM (blk_below (qQ BK280) hb); have _ := aM (below_step bq hb); have _ := aM (hbox); have _ := aM ((gS hg)); have _ := aM ((gS hg)); have _ := aM ((by rw [hg]; exact Nat.ne_of_lt (blk_lt (g := gb279) (o := .cells #[.slice A0_0 l0_0.length c0_0] 30 (0, 0)) (qQ BK279)) : gb279 ≠ gb285)); have _ := aM ((by rw [hg]; exact Nat.ne_of_gt (blk_lt (g := gb279) (o := .cells #[.slice A0_0 l0_0.length c0_0] 30 (0, 0)) (qQ BK279)) : gb285 ≠ gb279)); have _ := aM ((by rw [hg]; exact Nat.ne_of_lt (blk_lt (g := gb280) (o := .cells #[.slice none 0 0] 30 (0, 0)) (qQ BK280)) : gb280 ≠ gb285)); have _ := aM ((by rw [hg]; exact Nat.ne_of_gt (blk_lt (g := gb280) (o := .cells #[.slice none 0 0] 30 (0, 0)) (qQ BK280)) : gb285 ≠ gb280)); clear HO284 BK279 BK280 HB; rename_i HO284 BK279 BK280 HB BK285 GW285 GE285 NB279_285 NB285_279 NB280_285 NB285_280; clear hb hbox hg; obtain ⟨Ao20, co20, eo20⟩ := Kd.S_slice HO284.out; subst eo20; have hnb21 := NB285_279.out; have hnc21 := NB279_285.out; have hnb22 := NB285_280.out; have hnc22 := NB280_285.out; have hcz23_0 := c10 BK285; have hfz23_0 := blk_frozen BK285.out 0) | ((with_reducible refine gate_store (t := 30) (p := 6) rfl ?_); refine sE (w19.setCell ⟨gb285, 0, none⟩ (.slice Ao20 t282.length co20)) 30 6 ?_; intro w24 hw; have _ : Aside0 (Kd.S (Kd.slice 3 (Kd.int .i64)) 24 w24 w.heap.size (fun _ => True) (.slice Ao20 t282.length co20) t282) := ⟨(by rw [hw]; exact (by (with_reducible repeat first|apply sA|apply sN|apply sD); exact Kd.S_mono (Kd.S_far (p := ⟨gb285, 0, none⟩) (Kd.S_types HO284.out BK285.out (by decide)) (fun _ hk => hk.2) (.slice Ao20 t282.length co20)) (fun _ hk => trivial)))⟩; have _ : Aside0 (w24.heap[gb279]? = some (.cells #[.slice A0_0 l0_0.length c0_0] 30 (0, 0))) := ⟨(by rw [hw]; exact (by (with_reducible repeat first|apply qN|apply qD|apply qA); refine blk_far ?_ NB279_285.out _; (with_reducible repeat first|apply qN|apply qD|apply qA); exact BK279.out))⟩; have _ : Aside0 (w24.heap[gb280]? = some (.cells #[.slice none 0 0] 30 (0, 0))) := ⟨(by rw [hw]; exact (by (with_reducible repeat first|apply qN|apply qD|apply qA); refine blk_far ?_ NB280_285.out _; (with_reducible repeat first|apply qN|apply qD|apply qA); exact BK280.out))⟩; have _ : Aside0 (w24.heap[gb285]? = some (.cells #[.slice Ao20 t282.length co20] 30 (0, 0))) := ⟨(by rw [hw]; exact (by (with_reducible repeat first|apply qN|apply qD|apply qA); refine blk_put (cs := #[.slice none 0 0]) ?_ 0 _ rfl; (with_reducible repeat first|apply qN|apply qD|apply qA); exact BK285.out))⟩; have _ : Aside0 (Below w.heap.size w w24) := ⟨(by rw [hw]; exact bq)⟩; clear hw HO284 BK279 BK280 BK285 HB; rename_i HO284 BK279 BK280 BK285 HB; have hcz25_0 := c10 BK285; have hfz25_0 := blk_frozen BK285.out 0; have p286 : 0 ≤ (a1 : Int) := odt; have q286 : a1 < (t282.length : Int) := odt; obtain ⟨ad286, A286_0, c286_0, e286, hx286_0, hl286_0, hi286_0⟩ := at_L2 (Kd.S_reads' HO284.out).2.2 a1 p286 q286; cases e286; obtain ⟨ce286, hce286, hMe286, hcc286⟩ := Kd.S_get HO284.out [] a1 p286 (by first | exact q286 | exact odt | (have e_ := (Kd.S_reads' HO284.out).1; omega)); obtain ⟨ve286_0, rfl, ge286_0⟩ := hMe286; have hv286_0 := hcc286 0 _ rfl; rw [Nat.add_zero, show ((Kd.slice 3 (Kd.int .i64))).sz = 1 from rfl, Nat.mul_one] at hv286_0; replace hv286_0 := Option.some.inj (hv286_0.symm.trans hx286_0); rw [hv286_0] at ge286_0; have HL286_0 := aM (show Kd.R (Kd.int .i64) 3 _ _ _ _ (rd_L2 t282 a1) from ge286_0); clear hv286_0 ge286_0; have HX286_0 := aM hx286_0; clear hcc286 hce286; have HR286_0 := aM hi286_0; have HC286_0 := aM hl286_0; clear hi286_0 hl286_0; replace p286 := eq_true p286; replace q286 := eq_true q286; have p287 : 0 ≤ ((ji8) : Int) := odt; have q287 : (ji8) < ((rd_L2 t282 a1).length : Int) := odt; obtain ⟨ad287, e287, hx287_0⟩ := Kd.at_int (cQ HR286_0.out) (ji8) p287 q287; cases e287; replace p287 := eq_true p287; replace q287 := eq_true q287; have p11 : 0 ≤ ((ji8) : Int) := odt; have q11 : ((ji8) : Int) < (((rd_L2 t282 a1).length : Int) : Int) := odt; obtain ⟨go11, co11, eo11, gb11, gl11, cl11, HG11⟩ := Kd.R_form HL286_0.out (by omega); (first | cases eo11 | (injection eo11 with ea_ en_ ec_; (first | subst ea_ | (injection ea_ with ea_; subst ea_)); subst ec_; clear en_)); have GB11 := aM gb11; have GG11 := aM HG11; clear gb11 gl11 HG11; (first | simp only [add_plain] at hx287_0 | skip); obtain ⟨hx11_0, hf11_0⟩ := Kd.R_celln 0 HL286_0.out ((ji8) : Int) p11 q11; replace p11 := eq_true p11; replace q11 := eq_true q11; have hq26 : (a1 : Int) < (t282.length : Int) := (by have h_ : (a1 : Int) < ((t282.length : Int) : Int) := odt; first | exact h_ | (have e_ := (Kd.S_reads' HO284.out).1; omega) | simpa only [List.length_set, List.length_set] using h_); obtain ⟨oki26, ce26, hcl26, hM26, hcc26, hok26, hbk26⟩ := Kd.S_borrow HO284.out [] (a1 : Int) (odt) hq26; obtain ⟨ve26_0, rfl, ge26_0⟩ := hM26; have hv26 := hcc26 0 _ rfl; rw [Nat.add_zero, show ((Kd.slice 3 (Kd.int .i64))).sz = 1 from rfl, Nat.mul_one] at hv26; replace hv26 := Option.some.inj (hv26.symm.trans HX286_0.out); subst hv26; clear hcc26 hcl26; replace ge26_0 := (show Kd.R (Kd.int .i64) 3 _ _ _ _ (rd_L2 t282 a1) from ge26_0); have HP26 := Kd.R_putg ge26_0 ((ji8) : Int) (wrap64 ((rd (rd_L2 t282 a1) (ji8)) + 1))) | ((with_reducible refine gate_store (t := 3) (p := 30) rfl ?_); refine sE (w24.setCell ⟨go11, ((ji8) : Int).toNat, none⟩ (.int .i64 (wrap64 ((rd (rd_L2 t282 a1) (ji8)) + 1)))) 3 30 ?_; intro w27 hw; have hg : w24.grownBy w27 (some go11) := (by rw [hw]; exact HP26.2); have hz_ : Kd.R (Kd.int .i64) 3 w27 w.heap.size oki26 (.slice (some ⟨go11, 0, none⟩) (rd_L2 t282 a1).length c286_0) y288 := (by rw [hw, Ny288.out]; exact HP26.1); have hp_ : Kd.S (Kd.slice 3 (Kd.int .i64)) 24 w27 w.heap.size (fun _ => True) (.slice (some ad286) t282.length co20) y290 := (by rw [Ny290.out]; exact hbk26 hg (fun k_ e_ => by injection e_ with e_; subst e_; exact ge26_0.1 _ rfl) (Kd.M_row hz_)); have hm_ := Kd.R_mono hz_ hok26; clear HP26 hbk26; have _ := aM (blk_grown (g := gb279) (o := .cells #[.slice A0_0 l0_0.length c0_0] 30 (0, 0)) (qQ BK279) hg (Kd.R_ne HL286_0.out BK279.out (by decide))); have _ := aM (blk_grown (g := gb280) (o := .cells #[.slice none 0 0] 30 (0, 0)) (qQ BK280) hg (Kd.R_ne HL286_0.out BK280.out (by decide))); have _ := aM (hp_); have _ := aM (blk_grown (g := gb285) (o := .cells #[.slice (some ad286) t282.length co20] 30 (0, 0)) (qQ BK285) hg (Kd.R_ne HL286_0.out BK285.out (by decide))); have _ := aM ((by rw [hw]; exact below_set (HB.out) GB11.out : Below w.heap.size w w27)); have _ := aM (hm_); have _ := aM ((Kd.R_reads' hm_).2.1); clear BK279 BK280 HO284 BK285 HB HL286_0; rename_i BK279 BK280 HO284 BK285 HB HL319 HC289; clear hg hw hp_ hz_ hm_ hok26; have hcz28_0 := c10 BK285; have hfz28_0 := blk_frozen BK285.out 0; have hcz29_0 := c10 BK280; have hfz29_0 := blk_frozen BK280.out 0))
  refine bodyPost_ret (results_cell_row rfl _ _ gb280 30 #[.slice (some ad286) t282.length co20] (0, 0) _ rfl (by (with_reducible repeat first|apply qN|apply qD|apply qA); refine blk_put (cs := #[.slice none 0 0]) ?_ 0 _ rfl; (with_reducible repeat first|apply qN|apply qD|apply qA); exact BK280.out) Tryz.underlying30 rfl (by kernel_rfl)) rfl ?_
  exact ⟨_, by first | rfl | (simp [errW_none, errW_some] <;> rfl) | (simp only [← hji8]; first | rfl | (simp [errW_none, errW_some] <;> rfl)) | (simp [*, errW_none, errW_some] <;> rfl), by (with_reducible repeat first|apply sA|apply sN|apply sD); exact Kd.S_mono (Kd.S_far (p := ⟨gb280, 0, none⟩) (Kd.S_types HO284.out BK280.out (by decide)) (fun _ hk => hk.2) (.slice (some ad286) t282.length co20)) (fun _ hk => trivial), bq⟩
 ·rw [if_neg c4] at H
  have c4b0 := decide_eq_false c4
  clear c4
  have H' := aM H
  clear H
  go_enter Tryz.func115, Tryz.ntmps115
  go_wp2_with (first | ((with_reducible refine gate_dst (N := 2) rfl ?_); refine bE 2 30 #[.slice A0_0 l0_0.length c0_0] ?_; intro gb279 hg w30 hbox hb; have _ := aM (below_step bq hb); have _ := aM (hbox); have _ := aM ((gS hg)); have _ := aM ((gS hg)); clear HB; rename_i HB BK279 GW279 GE279; clear hb hbox hg) | ((with_reducible refine gate_dst (N := 4) rfl ?_); refine bE 4 30 #[.slice none 0 0] ?_; intro gb280 hg w31 hbox hb; have _ := aM (blk_below (qQ BK279) hb); have _ := aM (below_step bq hb); have _ := aM (hbox); have _ := aM ((gS hg)); have _ := aM ((gS hg)); have _ := aM ((by rw [hg]; exact Nat.ne_of_lt (blk_lt (g := gb279) (o := .cells #[.slice A0_0 l0_0.length c0_0] 30 (0, 0)) (qQ BK279)) : gb279 ≠ gb280)); have _ := aM ((by rw [hg]; exact Nat.ne_of_gt (blk_lt (g := gb279) (o := .cells #[.slice A0_0 l0_0.length c0_0] 30 (0, 0)) (qQ BK279)) : gb280 ≠ gb279)); clear BK279 HB; rename_i BK279 HB BK280 GW280 GE280 NB279_280 NB280_279; clear hb hbox hg; have hnb32 := NB279_280.out; have hnc32 := NB280_279.out; have hcz33_0 := c10 BK279; have hfz33_0 := blk_frozen BK279.out 0) | ((with_reducible refine gate_callee (f := 125) rfl ?_); refine gL (some 16) Tryz.func125 #[.agg #[.slice A0_0 l0_0.length c0_0]] ?_; (with_reducible refine (spec_maTop.calls k _ _ l0_0 t281 _ (cQ (Kd.C_below HR0_0.out HB.out)) HC0_0.out A3.out).mono ?_); rintro e w34 ⟨rfl, hb⟩; refine ⟨_, rfl, ?_⟩; have _ := aM (blk_below (qQ BK279) hb); have _ := aM (blk_below (qQ BK280) hb); have _ := aM (below_step bq hb); clear BK279 BK280 HB; rename_i BK279 BK280 HB; (try clear hb); (try clear hb2); (try clear hk); (try clear hi)) | ((with_reducible refine gate_dst (N := 7) rfl ?_); refine bE 7 30 #[.slice none 0 0] ?_; intro gb291 hg w35 hbox hb; have _ := aM (blk_below (qQ BK279) hb); have _ := aM (blk_below (qQ BK280) hb); have _ := aM (below_step bq hb); have _ := aM (hbox); have _ := aM ((gS hg)); have _ := aM ((gS hg)); have _ := aM ((by rw [hg]; exact Nat.ne_of_lt (blk_lt (g := gb279) (o := .cells #[.slice A0_0 l0_0.length c0_0] 30 (0, 0)) (qQ BK279)) : gb279 ≠ gb291)); have _ := aM ((by rw [hg]; exact Nat.ne_of_gt (blk_lt (g := gb279) (o := .cells #[.slice A0_0 l0_0.length c0_0] 30 (0, 0)) (qQ BK279)) : gb291 ≠ gb279)); have _ := aM ((by rw [hg]; exact Nat.ne_of_lt (blk_lt (g := gb280) (o := .cells #[.slice none 0 0] 30 (0, 0)) (qQ BK280)) : gb280 ≠ gb291)); have _ := aM ((by rw [hg]; exact Nat.ne_of_gt (blk_lt (g := gb280) (o := .cells #[.slice none 0 0] 30 (0, 0)) (qQ BK280)) : gb291 ≠ gb280)); clear BK279 BK280 HB; rename_i BK279 BK280 HB BK291 GW291 GE291 NB279_291 NB291_279 NB280_291 NB291_280; clear hb hbox hg; have hnb36 := NB291_279.out; have hnc36 := NB279_291.out; have hnb37 := NB291_280.out; have hnc37 := NB280_291.out; have hcz38_0 := c10 BK291; have hfz38_0 := blk_frozen BK291.out 0))
  go_loopg [8] k (fun kq v8 w' => ∃ (x8_1 : Int) (x292000_1 : List (List Int)) (u292000 : Value), v8 = .int .i64 x8_1 ∧ Aside0 (spec_maGrow.l0 kq a1 (l0_0.length : Int) x8_1 l0_0 x292000_1 = some r) ∧ Aside0 (kq ≤ k) ∧ Aside0 (Kd.S (Kd.slice 3 (Kd.int .i64)) 24 w' w.heap.size (fun _ => True) u292000 x292000_1) ∧ Aside0 (w'.heap[gb279]? = some (.cells #[(.slice A0_0 l0_0.length c0_0)] 30 (0, 0))) ∧ Aside0 (w'.heap[gb280]? = some (.cells #[(.slice none 0 0)] 30 (0, 0))) ∧ Aside0 (w'.heap[gb291]? = some (.cells #[u292000] 30 (0, 0))) ∧ Aside0 (Below w.heap.size w w'))
  case atStart => exact ⟨(0), (([] : List (List Int))), (.slice none 0 0), eR, H', ⟨Nat.le_refl _⟩, ⟨by first | exact Kd.S_nil _ _ _ _ _ | exact Kd.N_nil _ _ _ _ _ | exact Kd.V_nil _ _ _ _ _ | exact Kd.Q_nil _ _ _ _ _ | exact Kd.R_nil _ _ _ _ _⟩, ⟨by (with_reducible repeat first|apply qN|apply qD|apply qA); refine blk_far ?_ NB279_291.out _; (with_reducible repeat first|apply qN|apply qD|apply qA); exact BK279.out⟩, ⟨by (with_reducible repeat first|apply qN|apply qD|apply qA); refine blk_far ?_ NB280_291.out _; (with_reducible repeat first|apply qN|apply qD|apply qA); exact BK280.out⟩, ⟨by (with_reducible repeat first|apply qN|apply qD|apply qA); refine blk_put (cs := #[.slice none 0 0]) ?_ 0 _ rfl; (with_reducible repeat first|apply qN|apply qD|apply qA); exact BK291.out⟩, ⟨bq⟩⟩
  case round =>
   clear H'
   try clear c1
   try clear p1
   try clear q1
   try clear hx1
   try clear c2
   try clear p2
   try clear q2
   try clear hx2
   try clear c3
   try clear c4
   try clear c4b0
   try clear c6
   try clear c6b0
   try clear p6
   try clear c7
   try clear c7b0
   try clear c9
   try clear c9b0
   try clear c10
   try clear c10b0
   try clear c11
   try clear p11
   try clear q11
   try clear hx11
   try clear hf11
   try clear c12
   try clear c14
   try clear c21
   try clear c22
   try clear c26
   try clear q26
   try clear c28
   try clear p28
   try clear q28
   try clear hx28
   try clear c32
   try clear c36
   try clear c37
   try clear hcz15_0
   try clear hcz17_0
   try clear hcz23_0
   try clear hcz25_0
   try clear hcz28_0
   try clear hcz29_0
   try clear hcz33_0
   try clear hcz38_0
   try clear hfz15_0
   try clear hfz17_0
   try clear hfz23_0
   try clear hfz25_0
   try clear hfz28_0
   try clear hfz29_0
   try clear hfz33_0
   try clear hfz38_0
   try clear hx11_0
   try clear hx286_0
   try clear hx287_0
   try clear p11
   try clear p286
   try clear p287
   try clear q11
   try clear q286
   try clear q287
   obtain ⟨x8_1, x292000_1, u292000, rfl, HA, HK1, HO_292000, BK279, BK280, BK291, HB⟩ := hrel
   cases gk with
   | zero => exact absurd HA.out (by simp [spec_maGrow.l0])
   | succ k1 =>
    have H := HA.out
    clear HA
    simp only [spec_maGrow.l0] at H
    by_cases c39 : x8_1 ≤ (l0_0.length : Int)
    ·rw [if_pos c39] at H
     have c39b0 := decide_eq_true c39
     clear c39
     by_cases c40 : x8_1 = a1
     ·rw [if_pos c40] at H
      have c40b0 : (x8_1 == a1) = true := beq_iff_eq.mpr c40
      have c40b1 : (x8_1 != a1) = false := bne_eq_false_iff_eq.mpr c40
      clear c40
      obtain ⟨ji41, hji41⟩ : ∃ j_ : Int, (wrap64 ((l0_0.length : Int) + 1)) = j_ := ⟨_, rfl⟩
      replace H : (if 0 ≤ (ji41) then (if (ji41 : Int).toNat ≤ 35184372088832 then ((some (List.replicate (ji41 : Int).toNat 0 : List Int)).bind fun y292 => (if 0 ≤ (l0_0.length : Int) then (if (l0_0.length : Int) < (y292.length : Int) then (if x292000_1.length < 5864062014805 then (spec_maGrow.l0 k1 a1 (l0_0.length : Int) (wrap64 (x8_1 + 1)) l0_0 (x292000_1 ++ [(y292.set ((l0_0.length : Int) : Int).toNat 1)])) else (none)) else (none)) else (none))) else (none)) else (none)) = some r := by first | (rw [hji41] at H; exact H) | (simp only [hji41] at H ⊢; exact H)
      have hji41w : (IntKind.i64.wrap ((l0_0.length : Int) + 1)) = ji41 := (i64_w _).trans hji41
      replace H := iS H
      obtain ⟨c42, H⟩ := H
      have c42b0 := eq_true c42
      have c42b1 := decide_eq_true c42
      clear c42
      replace H := iS H
      obtain ⟨c43, H⟩ := H
      have c43b0 := eq_true c43
      have c43b1 := decide_eq_true c43
      clear c43
      obtain ⟨y292, hy292⟩ : ∃ y_ : List Int, y_ = (List.replicate (ji41 : Int).toNat 0) := ⟨_, rfl⟩
      replace H : (if 0 ≤ (l0_0.length : Int) then (if (l0_0.length : Int) < (y292.length : Int) then (if x292000_1.length < 5864062014805 then (spec_maGrow.l0 k1 a1 (l0_0.length : Int) (wrap64 (x8_1 + 1)) l0_0 (x292000_1 ++ [(y292.set ((l0_0.length : Int) : Int).toNat 1)])) else (none)) else (none)) else (none)) = some r := by first | (rw [hy292]; with_reducible exact H) | (have H2_ := (Option.bind_some _ _).symm.trans H; rw [hy292]; with_reducible exact H2_) | (have H2_ := (Option.bind_some _ _).symm.trans H; with_reducible exact H2_) | with_reducible exact H | (rw [hy292]; exact H) | exact H
      have Ny292 := aM hy292
      clear hy292
      replace H := iS H
      obtain ⟨c44, H⟩ := H
      have c44b0 := decide_eq_true c44
      have c44b1 : decide (0 ≤ l0_0.length) = true := decide_eq_true (by omega)
      clear c44
      replace H := iS H
      obtain ⟨c45, H⟩ := H
      have c45b0 := decide_eq_true c45
      have c45b1 : decide (l0_0.length < y292.length) = true := decide_eq_true (Int.ofNat_lt.mp c45)
      clear c45
      obtain ⟨y295, hy295⟩ : ∃ y_ : List Int, y_ = (y292.set ((l0_0.length : Int) : Int).toNat 1) := ⟨_, rfl⟩
      replace H : (if x292000_1.length < 5864062014805 then (spec_maGrow.l0 k1 a1 (l0_0.length : Int) (wrap64 (x8_1 + 1)) l0_0 (x292000_1 ++ [y295])) else (none)) = some r := by first | (rw [hy295]; with_reducible exact H) | (have H2_ := (Option.bind_some _ _).symm.trans H; rw [hy295]; with_reducible exact H2_) | (have H2_ := (Option.bind_some _ _).symm.trans H; with_reducible exact H2_) | with_reducible exact H | (rw [hy295]; exact H) | exact H
      have Ny295 := aM hy295
      clear hy295
      replace H := iS H
      obtain ⟨c47, H⟩ := H
      have LMc47 := aM c47
      clear c47
      obtain ⟨y296, hy296⟩ : ∃ y_ : List (List Int), y_ = (x292000_1 ++ [y295]) := ⟨_, rfl⟩
      replace H : (spec_maGrow.l0 k1 a1 (l0_0.length : Int) (wrap64 (x8_1 + 1)) l0_0 y296) = some r := by first | (rw [hy296]; with_reducible exact H) | (have H2_ := (Option.bind_some _ _).symm.trans H; rw [hy296]; with_reducible exact H2_) | (have H2_ := (Option.bind_some _ _).symm.trans H; with_reducible exact H2_) | with_reducible exact H | (rw [hy296]; exact H) | exact H
      have Ny296 := aM hy296
      clear hy296
      have H' := aM H
      clear H
      go_wp2_with (first | ((with_reducible refine gate_dst (N := 70) rfl ?_); refine Kd.R_make (Kd.int .i64) _ 3 rfl (N := 70) rfl 24 _ _ rfl ji41 rfl rfl Tryz.underlying24 (.int .i64 0) 8 info3 rfl (by decide) (by omega) 0 (ok := fun _ => True) (okp := fun _ => True) rfl (fun _ hk => hk) trivial (odt) (Nat.le_trans (Nat.mul_le_mul_right _ (odt : ji41.toNat ≤ 35184372088832)) (by omega)) (Below.refl _ _) (Nat.le_refl _) ?_; intro v293 w48 ho49 hb hg_ hnew_; clear hg_ hnew_; (first | rw [← Ny292.out] at ho49 | (simp only [Int.reduceToNat] at ho49; rw [← Ny292.out] at ho49)); have _ := aM (Kd.S_elder' (sQ HO_292000) (Kd.R_base ho49) hb); have _ := aM (Kd.R_lower ho49 (below_size bq)); have _ := aM (blk_below (qQ BK279) hb); have _ := aM (blk_below (qQ BK280) hb); have _ := aM (blk_below (qQ BK291) hb); have _ := aM (below_step bq hb); clear HO_292000 BK279 BK280 BK291 HB; rename_i HO_292000 HO294 BK279 BK280 BK291 HB; clear hb ho49; have p46 : 0 ≤ ((l0_0.length : Int) : Int) := odt; have q46 : ((l0_0.length : Int) : Int) < ((y292.length : Int) : Int) := odt; obtain ⟨go46, co46, eo46, gb46, gl46, cl46, HG46⟩ := Kd.R_form HO294.out (by omega); (first | cases eo46 | (injection eo46 with ea_ en_ ec_; (first | subst ea_ | (injection ea_ with ea_; subst ea_)); subst ec_; clear en_)); have GB46 := aM gb46; have GG46 := aM HG46; clear gb46 gl46 HG46; obtain ⟨hx46_0, hf46_0⟩ := Kd.R_celln 0 HO294.out ((l0_0.length : Int) : Int) p46 q46; replace p46 := eq_true p46; replace q46 := eq_true q46; obtain ⟨hy50_, hz50_⟩ := Kd.R_celln 0 HO294.out ((l0_0.length : Int) : Int) (odt) (odt); (try simp only [Go.IntWalk.toNatUp] at hy50_ hz50_); have HP50 := Kd.R_putg HO294.out ((l0_0.length : Int) : Int) 1) | ((with_reducible refine gate_store (t := 3) (p := 73) rfl ?_); refine sE (w48.setCell ⟨go46, ((l0_0.length : Int) : Int).toNat, none⟩ (.int .i64 1)) 3 73 ?_; intro w51 hw; have hg : w48.grownBy w51 (some go46) := (by rw [hw]; exact HP50.2); have hp_ : Kd.R (Kd.int .i64) 3 w51 w.heap.size (fun _ => True) (.slice (some ⟨go46, 0, none⟩) y292.length co46) y295 := (by rw [hw, Ny295.out]; exact HP50.1); clear HP50; have _ := aM (Kd.S_after (v := (.slice (some ⟨go46, 0, none⟩) y292.length co46)) (v1 := (.slice (some ⟨go46, 0, none⟩) y292.length co46)) (ok := (fun _ => True)) (sQ HO_292000) hg (.inl rfl)); have _ := aM (blk_grown (g := gb279) (o := .cells #[.slice A0_0 l0_0.length c0_0] 30 (0, 0)) (qQ BK279) hg (Kd.R_ne HO294.out BK279.out (by decide))); have _ := aM (blk_grown (g := gb280) (o := .cells #[.slice none 0 0] 30 (0, 0)) (qQ BK280) hg (Kd.R_ne HO294.out BK280.out (by decide))); have _ := aM (blk_grown (g := gb291) (o := .cells #[u292000] 30 (0, 0)) (qQ BK291) hg (Kd.R_ne HO294.out BK291.out (by decide))); have _ := aM (hp_); have _ := aM ((by rw [hw]; exact below_set (HB.out) GB46.out : Below w.heap.size w w51)); clear HO_292000 BK279 BK280 BK291 HO294 HB; rename_i HO_292000 BK279 BK280 BK291 HO294 HB; clear hg hw hp_; have hnb52 := NB291_279.out; have hnc52 := NB279_291.out; have hnb53 := NB291_280.out; have hnc53 := NB280_291.out; have hcz54_0 := c10 BK291; have hfz54_0 := blk_frozen BK291.out 0) | ((with_reducible refine gate_builtin (b := .append) (xs := #[.tmp 75, .tmp 77]) rfl ?_); at_builtin; refine Kd.S_append (Kd.slice 3 (Kd.int .i64)) (w0 := w) w.heap.size rfl (.tmp 75) (.tmp 77) 28 24 (.slice none 0 0) 24 rfl Tryz.underlying28 info24 rfl (by decide) (by omega) u292000 x292000_1 y295 [.slice (some ⟨go46, 0, none⟩) y292.length co46] (fun _ => True) (fun k_ => some k_ = (.slice (some ⟨go46, 0, none⟩) y292.length co46 : Value).ownBlock) rfl rfl ?aP (fun k_ hk_ => ((Kd.R_mono (ok' := fun k_ => ((fun _ => True)) k_ ∧ some k_ ≠ (u292000 : Value).ownBlock) (Kd.R_apart' (HO294.out) (Kd.S_typed HO_292000.out) (by decide)) (fun k_ hk => ⟨trivial, hk.2⟩))).1 k_ hk_.symm) ?aF ?aO ?aB ?aS ?aL ?_; (case aP => exact Kd.M_row (Kd.R_mono (Kd.R_tight rfl (Kd.R_mono (ok' := fun k_ => ((fun _ => True)) k_ ∧ some k_ ≠ (u292000 : Value).ownBlock) (Kd.R_apart' (HO294.out) (Kd.S_typed HO_292000.out) (by decide)) (fun k_ hk => ⟨trivial, hk.2⟩))) (fun _ h_ => h_))); (case aB => exact bq); (case aF => exact (fun _ _ => trivial)); (case aO => exact (by (with_reducible repeat first|apply sA|apply sN|apply sD); exact Kd.S_mono HO_292000.out (fun k_ hk => ⟨trivial, fun e_ => hk.2 e_⟩))); (case aS => exact (below_size bq)); (case aL => have := LMc47.out; omega); intro v297 w55 ho hb hg hat; rw [← Ny296.out] at ho; have _ := aM (blk_grown (g := gb279) (o := .cells #[.slice A0_0 l0_0.length c0_0] 30 (0, 0)) (qQ BK279) hg (Kd.S_ne HO_292000.out BK279.out (by decide))); have _ := aM (blk_grown (g := gb280) (o := .cells #[.slice none 0 0] 30 (0, 0)) (qQ BK280) hg (Kd.S_ne HO_292000.out BK280.out (by decide))); have _ := aM (blk_grown (g := gb291) (o := .cells #[u292000] 30 (0, 0)) (qQ BK291) hg (Kd.S_ne HO_292000.out BK291.out (by decide))); have _ := aM (hb); have _ := aM (ho); clear BK279 BK280 BK291 HB HO_292000 HO294; rename_i BK279 BK280 BK291 HB HO298; clear ho hb hg hat; obtain ⟨Ao56, co56, eo56⟩ := Kd.S_slice HO298.out; subst eo56; have hcz57_0 := c10 BK291; have hfz57_0 := blk_frozen BK291.out 0))
      go_roundg k1
      case measure => have := HK1.out; omega
      case rel => exact ⟨(wrap64 (x8_1 + 1)), (y296), (.slice Ao56 y296.length co56), eR, H', ⟨by have := HK1.out; omega⟩, ⟨by (with_reducible repeat first|apply sA|apply sN|apply sD); exact Kd.S_mono (Kd.S_far (p := ⟨gb291, 0, none⟩) (Kd.S_types HO298.out BK291.out (by decide)) (fun _ hk => hk.2) (.slice Ao56 y296.length co56)) (fun _ hk => trivial)⟩, ⟨by (with_reducible repeat first|apply qN|apply qD|apply qA); refine blk_far ?_ NB279_291.out _; (with_reducible repeat first|apply qN|apply qD|apply qA); exact BK279.out⟩, ⟨by (with_reducible repeat first|apply qN|apply qD|apply qA); refine blk_far ?_ NB280_291.out _; (with_reducible repeat first|apply qN|apply qD|apply qA); exact BK280.out⟩, ⟨by (with_reducible repeat first|apply qN|apply qD|apply qA); refine blk_put (cs := #[u292000]) ?_ 0 _ rfl; (with_reducible repeat first|apply qN|apply qD|apply qA); exact BK291.out⟩, ⟨bq⟩⟩
     ·rw [if_neg c40] at H
      have c40b0 : (x8_1 == a1) = false := beq_eq_false_iff_ne.mpr c40
      have c40b1 : (x8_1 != a1) = true := bne_iff_ne.mpr c40
      by_cases c58 : x8_1 > a1
      ·rw [if_pos c58] at H
       have c58b0 := decide_eq_true c58
       clear c58
       obtain ⟨ji59, hji59⟩ : ∃ j_ : Int, (wrap64 (x8_1 - 1)) = j_ := ⟨_, rfl⟩
       replace H : (if 0 ≤ (ji59) then (if (ji59) < (l0_0.length : Int) then ((spec_maWide.f (rd_L2 l0_0 (ji59)) a1).bind fun t300 => (if x292000_1.length < 5864062014805 then (spec_maGrow.l0 k1 a1 (l0_0.length : Int) (wrap64 (x8_1 + 1)) l0_0 (x292000_1 ++ [t300])) else (none))) else (none)) else (none)) = some r := by first | (rw [hji59] at H; exact H) | (simp only [hji59] at H ⊢; exact H)
       have hji59w : (IntKind.i64.wrap (x8_1 - 1)) = ji59 := (i64_w _).trans hji59
       replace H := iD2 H
       obtain ⟨c60b0, c61b0, H⟩ := H
       replace H := bS H
       obtain ⟨t300, A62, H⟩ := H
       try dsimp only at H
       replace H := iS H
       obtain ⟨c63, H⟩ := H
       have LMc63 := aM c63
       clear c63
       obtain ⟨y303, hy303⟩ : ∃ y_ : List (List Int), y_ = (x292000_1 ++ [t300]) := ⟨_, rfl⟩
       replace H : (spec_maGrow.l0 k1 a1 (l0_0.length : Int) (wrap64 (x8_1 + 1)) l0_0 y303) = some r := by first | (rw [hy303]; with_reducible exact H) | (have H2_ := (Option.bind_some _ _).symm.trans H; rw [hy303]; with_reducible exact H2_) | (have H2_ := (Option.bind_some _ _).symm.trans H; with_reducible exact H2_) | with_reducible exact H | (rw [hy303]; exact H) | exact H
       have Ny303 := aM hy303
       clear hy303
       have H' := aM H
       clear H
       try go_wp2
       have n0_ := aM (Kd.S_drew HO_292000.out)
       have n1_ := aM (blk_drew BK279.out)
       have n2_ := aM (blk_drew BK280.out)
       have n3_ := aM (blk_drew BK291.out)
       have n4_ := aM (below_drew1 HB.out)
       clear HO_292000
       clear BK279
       clear BK280
       clear BK291
       clear HB
       have HO_292000 := n0_
       have BK279 := n1_
       have BK280 := n2_
       have BK291 := n3_
       have HB := n4_
       clear n0_ n1_ n2_ n3_ n4_
       have p299 : 0 ≤ ((ji59) : Int) := odt
       have q299 : (ji59) < (l0_0.length : Int) := odt
       obtain ⟨ad299, A299_0, c299_0, e299, hx299_0, hl299_0, hi299_0⟩ := at_L2 HR0_0.out (ji59) p299 q299
       have hw299_0 := hx299_0
       cases e299
       replace hx299_0 := (HB.out.cell (World.block_lt_of_cell? w _ hx299_0)).trans hx299_0
       have HR299_0 := aM hi299_0
       have HC299_0 := aM hl299_0
       clear hi299_0 hl299_0
       replace p299 := eq_true p299
       replace q299 := eq_true q299
       refine start_ (n := 14) (S := fun w' => w'.cell? ⟨gb291, 0, none⟩ = some (u292000) ∧ w'.cell? ⟨gb279, 0, none⟩ = some (.slice (some ad299) l0_0.length c0_0) ∧ w'.cell? (ad299.add ((ji59)).toNat) = some (.slice A299_0 (rd_L2 l0_0 (ji59)).length c299_0)) (ds := [13]) #[false, false, false, false, false, false, false, false, false, false, false, false, false, false] (by kernel_rfl) rfl rfl ⟨(blk_cell BK291.out 0).trans rfl, (blk_cell BK279.out 0).trans rfl, ((HB.out.cell (World.block_lt_of_cell? w _ hw299_0)).trans hw299_0)⟩ (fun hHeld => ?_); refine with_tabW spec_maGrow.tab20 spec_maGrow.bits20 (fun HT_ HW_ => ?_)
       generalize wr.drew = w64 at HO_292000 BK279 BK280 BK291 HB HR299_0 hx299_0 hHeld ⊢
       refine pure_ (i := 0) (N := some 84) (v := ?_) (a' := ?_) #[true, false, false, false, false, false, false, false, false, false, false, false, false, false] rfl rfl (any_of HT_.out (by kernel_rfl)) (fun _ _ _ h => h) (Or.inl ⟨by rfl, ?_⟩) ?_ ?_
       rotate_left
       ·intro w'
        go_simp
        with_reducible rfl
       rotate_left
       ·simp only [Act.put, List.setIfInBounds_toArray, List.set_cons_zero, List.set_cons_succ, i64_w, i32_w]
        rfl
       refine pure_ (i := 2) (N := some 86) (v := ?_) (a' := ?_) #[true, false, true, false, false, false, false, false, false, false, false, false, false, false] rfl rfl (any_of HT_.out (by kernel_rfl)) (fun _ _ _ h => h) (Or.inl ⟨by rfl, ?_⟩) ?_ ?_
       rotate_left
       ·intro w'
        go_simp
        with_reducible rfl
       rotate_left
       ·simp only [Act.put, List.setIfInBounds_toArray, List.set_cons_zero, List.set_cons_succ, i64_w, i32_w]
        rfl
       refine pure_ (i := 4) (N := some 88) (v := ?_) (a' := ?_) #[true, false, true, false, true, false, false, false, false, false, false, false, false, false] rfl rfl (any_of HT_.out (by kernel_rfl)) (fun _ _ _ h => h) (Or.inl ⟨by rfl, ?_⟩) ?_ ?_
       rotate_left
       ·intro w'
        go_simp
        with_reducible rfl
       rotate_left
       ·simp only [Act.put, List.setIfInBounds_toArray, List.set_cons_zero, List.set_cons_succ, i64_w, i32_w]
        rfl
       refine pure_ (i := 5) (N := some 89) (v := ?_) (a' := ?_) #[true, false, true, false, true, true, false, false, false, false, false, false, false, false] rfl rfl (any_of HT_.out (by kernel_rfl)) (fun _ _ _ h => h) (Or.inl ⟨by rfl, ?_⟩) ?_ ?_
       rotate_left
       ·intro w'
        go_simp
        with_reducible rfl
       rotate_left
       ·simp only [Act.put, List.setIfInBounds_toArray, List.set_cons_zero, List.set_cons_succ, i64_w, i32_w]
        rfl
       refine pure_ (i := 8) (N := some 92) (v := ?_) (a' := ?_) #[true, false, true, false, true, true, false, false, true, false, false, false, false, false] rfl rfl (any_of HT_.out (by kernel_rfl)) (fun _ _ _ h => h) (Or.inl ⟨by rfl, ?_⟩) ?_ ?_
       rotate_left
       ·intro w'
        go_simp
        with_reducible rfl
       rotate_left
       ·simp only [Act.put, List.setIfInBounds_toArray, List.set_cons_zero, List.set_cons_succ, i64_w, i32_w]
        rfl
       refine take_ (i := 1) (N := some 85) (v := ?_) (a' := ?_) #[true, true, true, false, true, true, false, false, true, false, false, false, false, false] rfl rfl (take_ofW HT_.out HW_.out (by kernel_rfl)) (fun _ _ _ h => h) (Or.inl ⟨by rfl, ?_⟩) hHeld ?_ ?_
       rotate_left
       ·rintro w' ⟨s0, s1, s2⟩
        go_simp
        with_reducible rfl
       rotate_left
       ·simp only [Act.put, List.setIfInBounds_toArray, List.set_cons_zero, List.set_cons_succ, i64_w, i32_w]
        rfl
       refine take_ (i := 3) (N := some 87) (v := ?_) (a' := ?_) #[true, true, true, true, true, true, false, false, true, false, false, false, false, false] rfl rfl (take_ofW HT_.out HW_.out (by kernel_rfl)) (fun _ _ _ h => h) (Or.inl ⟨by rfl, ?_⟩) hHeld ?_ ?_
       rotate_left
       ·rintro w' ⟨s0, s1, s2⟩
        go_simp
        with_reducible rfl
       rotate_left
       ·simp only [Act.put, List.setIfInBounds_toArray, List.set_cons_zero, List.set_cons_succ, i64_w, i32_w]
        rfl
       refine pure_ (i := 6) (N := some 90) (v := ?_) (a' := ?_) #[true, true, true, true, true, true, true, false, true, false, false, false, false, false] rfl rfl (any_of HT_.out (by kernel_rfl)) (fun _ _ _ h => h) (Or.inl ⟨by rfl, ?_⟩) ?_ ?_
       rotate_left
       ·intro w'
        go_simp
        with_reducible rfl
       rotate_left
       ·simp only [Act.put, List.setIfInBounds_toArray, List.set_cons_zero, List.set_cons_succ, i64_w, i32_w]
        rfl
       refine take_ (i := 7) (N := some 91) (v := ?_) (a' := ?_) #[true, true, true, true, true, true, true, true, true, false, false, false, false, false] rfl rfl (take_ofW HT_.out HW_.out (by kernel_rfl)) (fun _ _ _ h => h) (Or.inl ⟨by rfl, ?_⟩) hHeld ?_ ?_
       rotate_left
       ·rintro w' ⟨s0, s1, s2⟩
        go_simp
        with_reducible rfl
       rotate_left
       ·simp only [Act.put, List.setIfInBounds_toArray, List.set_cons_zero, List.set_cons_succ, i64_w, i32_w]
        rfl
       refine one_ (i := 9) (N := some 93) #[true, true, true, true, true, true, true, true, true, true, false, false, false, false] rfl rfl (one_of HT_.out (by kernel_rfl)) (by decide) (fun K hK => ?_)
       refine goes_ Tryz.func143 (by kernel_rfl) rfl #[.slice A299_0 (rd_L2 l0_0 (ji59)).length c299_0, .int .i64 a1] (by rfl) rfl rfl (by (try simp only [List.map_toArray, List.map_cons, List.map_nil]); first | done | (simp only [hji59]; rfl) | rfl | (simp only [List.length_drop, List.length_take]; rfl)) ?_
       with_reducible refine (spec_maWide.calls _ _ (rd_L2 l0_0 (ji59)) a1 t300 _ ?side1 ?side2 A62.out).mono ?_
       (case side1 => repeat (first | exact (Kd.C_below HR299_0.out HB.out) | (with_reducible refine Kd.C_alloc ?_ _) | (with_reducible refine Kd.C_drewN ?_ _) | (with_reducible refine Kd.C_drew ?_)))
       (case side2 => exact HC299_0.out)
       rintro e w65 ⟨v301, rfl, ho0, hb⟩
       refine ⟨_, rfl, ?_⟩
       have n0_ := aM (Kd.S_elder' (sQ HO_292000) (Kd.R_base ho0) hb)
       have n1_ := aM (Kd.R_lower ho0 (below_size bq))
       have n2_ := aM (blk_below (qQ BK279) hb)
       have n3_ := aM (blk_below (qQ BK280) hb)
       have n4_ := aM (blk_below (qQ BK291) hb)
       have n5_ := aM (below_step bq hb)
       clear HO_292000
       clear BK279
       clear BK280
       clear BK291
       clear HB
       have HO_292000 := n0_
       have HO302 := n1_
       have BK279 := n2_
       have BK280 := n3_
       have BK291 := n4_
       have HB := n5_
       clear n0_ n1_ n2_ n3_ n4_ n5_
       (try clear hb)
       (try clear hb2)
       (try clear hk)
       (try clear hi)
       (try clear ho0)
       obtain ⟨Ao67, co67, eo67⟩ := Kd.R_slice HO302.out
       (first | subst eo67 | (injection eo67 with f1_ f2_ f3_; have f4_ := f1_.symm; have f5_ := f3_.symm; clear f1_ f2_ f3_; subst f4_; subst f5_))
       refine hK.out _ _ ⟨(blk_cell BK291.out 0).trans rfl, (blk_cell BK279.out 0).trans rfl, ((HB.out.cell (World.block_lt_of_cell? w _ hw299_0)).trans hw299_0)⟩ (fun hHeld => ?_)
       clear hK K
       refine norm_ (a' := ?_) ?_ ?_
       rotate_left
       ·show Act.put _ (some 93) _ = _
        simp only [Act.put, List.setIfInBounds_toArray, List.set_cons_zero, List.set_cons_succ, i64_w, i32_w]
        rfl
       refine one_ (i := 10) (N := some 94) #[true, true, true, true, true, true, true, true, true, true, true, false, false, false] rfl rfl (one_of HT_.out (by kernel_rfl)) (by decide) (fun K hK => ?_)
       refine value_ (w1 := ?_) (v := ?_) (by rfl) rfl ?_ ?_
       rotate_left 2
       ·go_simp
        constructor
        ·rfl
        ·rfl
       refine hK.out _ _ ⟨(blk_cell (blk_alloc BK291.out _) 0).trans rfl, (blk_cell (blk_alloc BK279.out _) 0).trans rfl, (World.cell?_alloc_lt _ _ _ (World.block_lt_of_cell? _ _ (((HB.out.cell (World.block_lt_of_cell? w _ hw299_0)).trans hw299_0)))).trans (((HB.out.cell (World.block_lt_of_cell? w _ hw299_0)).trans hw299_0))⟩ (fun hHeld => ?_)
       clear hK K
       refine norm_ (a' := ?_) ?_ ?_
       rotate_left
       ·show Act.put _ (some 94) _ = _
        simp only [Act.put, List.setIfInBounds_toArray, List.set_cons_zero, List.set_cons_succ, i64_w, i32_w]
        rfl
       refine one_ (i := 11) (N := some 95) #[true, true, true, true, true, true, true, true, true, true, true, true, false, false] rfl rfl (one_of HT_.out (by kernel_rfl)) (by decide) (fun K hK => ?_)
       refine Kd.S_append_step (Kd.slice 3 (Kd.int .i64)) (w0 := w) w.heap.size (by rfl) (.tmp 85) (.tmp 94) 28 24 (.slice none 0 0) 24 rfl Tryz.underlying28 info24 rfl (by decide) (by omega) u292000 x292000_1 t300 [.slice Ao67 t300.length co67] (fun _ => True) (fun k_ => some k_ = (.slice Ao67 t300.length co67 : Value).ownBlock) rfl rfl ?aP (fun k_ hk_ => ((Kd.R_mono (ok' := fun k_ => ((fun _ => True)) k_ ∧ some k_ ≠ (u292000 : Value).ownBlock) (Kd.R_apart' (HO302.out) (Kd.S_typed HO_292000.out) (by decide)) (fun k_ hk => ⟨trivial, hk.2⟩))).1 k_ hk_.symm) ?aF ?aO ?aB ?aS ?aL ?_
       (case aP => exact Kd.M_row (Kd.R_mono (Kd.R_tight rfl (Kd.R_mono (ok' := fun k_ => ((fun _ => True)) k_ ∧ some k_ ≠ (u292000 : Value).ownBlock) (Kd.R_apart' (HO302.out) (Kd.S_typed HO_292000.out) (by decide)) (fun k_ hk => ⟨trivial, hk.2⟩))) (fun _ h_ => h_)))
       (case aB => exact bq)
       (case aF => exact (fun _ _ => trivial))
       (case aO => exact (by (with_reducible repeat first|apply sA|apply sN|apply sD); exact Kd.S_mono HO_292000.out (fun k_ hk => ⟨trivial, fun e_ => hk.2 e_⟩)))
       (case aS => exact (below_size bq))
       (case aL => have := LMc63.out; omega)
       intro v304 w66 ho hb hg hat
       rw [← Ny303.out] at ho
       have n0_ := aM (blk_grown (g := gb279) (o := .cells #[.slice (some ad299) l0_0.length c0_0] 30 (0, 0)) (qQ BK279) hg (Kd.S_ne HO_292000.out BK279.out (by decide)))
       have n1_ := aM (blk_grown (g := gb280) (o := .cells #[.slice none 0 0] 30 (0, 0)) (qQ BK280) hg (Kd.S_ne HO_292000.out BK280.out (by decide)))
       have n2_ := aM (blk_grown (g := gb291) (o := .cells #[u292000] 30 (0, 0)) (qQ BK291) hg (Kd.S_ne HO_292000.out BK291.out (by decide)))
       have n3_ := aM (hb)
       have n4_ := aM (ho)
       clear BK279
       clear BK280
       clear BK291
       clear HB
       clear HO_292000
       clear HO302
       have BK279 := n0_
       have BK280 := n1_
       have BK291 := n2_
       have HB := n3_
       have HO305 := n4_
       clear n0_ n1_ n2_ n3_ n4_
       clear ho hb hg hat
       obtain ⟨Ao68, co68, eo68⟩ := Kd.S_slice HO305.out
       (first | subst eo68 | (injection eo68 with f1_ f2_ f3_; have f4_ := f1_.symm; have f5_ := f3_.symm; clear f1_ f2_ f3_; subst f4_; subst f5_))
       refine hK.out _ _ ⟨(blk_cell BK291.out 0).trans rfl, (blk_cell BK279.out 0).trans rfl, ((HB.out.cell (World.block_lt_of_cell? w _ hw299_0)).trans hw299_0)⟩ (fun hHeld => ?_)
       clear hK K
       refine norm_ (a' := ?_) ?_ ?_
       rotate_left
       ·show Act.put _ (some 95) _ = _
        simp only [Act.put, List.setIfInBounds_toArray, List.set_cons_zero, List.set_cons_succ, i64_w, i32_w]
        rfl
       refine pure_ (i := 12) (N := some 96) (v := ?_) (a' := ?_) #[true, true, true, true, true, true, true, true, true, true, true, true, true, false] rfl rfl (any_of HT_.out (by kernel_rfl)) (fun _ _ _ h => h) (Or.inl ⟨by rfl, ?_⟩) ?_ ?_
       rotate_left
       ·intro w'
        go_simp
        with_reducible rfl
       rotate_left
       ·simp only [Act.put, List.setIfInBounds_toArray, List.set_cons_zero, List.set_cons_succ, i64_w, i32_w]
        rfl
       refine last_ (i := 13) (N := none) #[true, true, true, true, true, true, true, true, true, true, true, true, true, true] rfl rfl (one_of HT_.out (by kernel_rfl)) (by decide) (fun K hK => ?_)
       have hs69 := c10 BK291
       have hfs69 := blk_frozen BK291.out 0
       have hns69_0 := NB279_291.out
       have hns69_1 := NB280_291.out
       have hms69_0 := NB291_279.out
       have hms69_1 := NB291_280.out
       refine skip_ (w1 := ?_) (by rfl) rfl ?_ ?_
       rotate_left
       ·go_simp
        rfl
       refine hK.out _ _ ?_
       clear hK K
       refine done_ (done_of HT_.out (by kernel_rfl)) ?_
       try go_wp2
       go_roundg k1
       case measure => have := HK1.out; omega
       case rel => exact ⟨(wrap64 (x8_1 + 1)), (y303), (.slice Ao68 y303.length co68), eR, H', ⟨by have := HK1.out; omega⟩, ⟨by (with_reducible repeat first|apply sA|apply sN|apply sD); exact Kd.S_mono (Kd.S_far (p := ⟨gb291, 0, none⟩) (Kd.S_types HO305.out BK291.out (by decide)) (fun _ hk => hk.2) (.slice Ao68 y303.length co68)) (fun _ hk => trivial)⟩, ⟨by (with_reducible repeat first|apply qN|apply qD|apply qA); refine blk_far ?_ NB279_291.out _; (with_reducible repeat first|apply qN|apply qD|apply qA); exact BK279.out⟩, ⟨by (with_reducible repeat first|apply qN|apply qD|apply qA); refine blk_far ?_ NB280_291.out _; (with_reducible repeat first|apply qN|apply qD|apply qA); exact BK280.out⟩, ⟨by (with_reducible repeat first|apply qN|apply qD|apply qA); refine blk_put (cs := #[u292000]) ?_ 0 _ rfl; (with_reducible repeat first|apply qN|apply qD|apply qA); exact BK291.out⟩, ⟨bq⟩⟩
      ·rw [if_neg c58] at H
       have c58b0 := decide_eq_false c58
       clear c58
       replace H := iD2 H
       obtain ⟨c70b0, c71b0, H⟩ := H
       replace H := bS H
       obtain ⟨t307, A72, H⟩ := H
       try dsimp only at H
       by_cases c73 : a1 < (l0_0.length : Int)
       ·rw [if_pos c73] at H
        have c73b0 := decide_eq_true c73
        clear c73
        replace H := iS H
        obtain ⟨c74, H⟩ := H
        have c74b0 := decide_eq_true c74
        have c74b1 : decide (0 ≤ l0_0.length) = true := decide_eq_true (by omega)
        clear c74
        replace H := iS H
        obtain ⟨c75, H⟩ := H
        have c75b0 := decide_eq_true c75
        have c75b1 : decide (l0_0.length < t307.length) = true := decide_eq_true (Int.ofNat_lt.mp c75)
        clear c75
        replace H := iD2 H
        obtain ⟨c76b0, c77b0, H⟩ := H
        obtain ⟨y311, hy311⟩ : ∃ y_ : List Int, y_ = (t307.set (a1 : Int).toNat (rd t307 (l0_0.length : Int))) := ⟨_, rfl⟩
        replace H : (if x292000_1.length < 5864062014805 then (spec_maGrow.l0 k1 a1 (l0_0.length : Int) (wrap64 (x8_1 + 1)) l0_0 (x292000_1 ++ [(y311.set ((l0_0.length : Int) : Int).toNat 0)])) else (none)) = some r := by first | (rw [hy311]; with_reducible exact H) | (have H2_ := (Option.bind_some _ _).symm.trans H; rw [hy311]; with_reducible exact H2_) | (have H2_ := (Option.bind_some _ _).symm.trans H; with_reducible exact H2_) | with_reducible exact H | (rw [hy311]; exact H) | exact H
        have Ny311 := aM hy311
        clear hy311
        obtain ⟨y312, hy312⟩ : ∃ y_ : List Int, y_ = (y311.set ((l0_0.length : Int) : Int).toNat 0) := ⟨_, rfl⟩
        replace H : (if x292000_1.length < 5864062014805 then (spec_maGrow.l0 k1 a1 (l0_0.length : Int) (wrap64 (x8_1 + 1)) l0_0 (x292000_1 ++ [y312])) else (none)) = some r := by first | (rw [hy312]; with_reducible exact H) | (have H2_ := (Option.bind_some _ _).symm.trans H; rw [hy312]; with_reducible exact H2_) | (have H2_ := (Option.bind_some _ _).symm.trans H; with_reducible exact H2_) | with_reducible exact H | (rw [hy312]; exact H) | exact H
        have Ny312 := aM hy312
        clear hy312
        replace H := iS H
        obtain ⟨c80, H⟩ := H
        have LMc80 := aM c80
        clear c80
        obtain ⟨y313, hy313⟩ : ∃ y_ : List (List Int), y_ = (x292000_1 ++ [y312]) := ⟨_, rfl⟩
        replace H : (spec_maGrow.l0 k1 a1 (l0_0.length : Int) (wrap64 (x8_1 + 1)) l0_0 y313) = some r := by first | (rw [hy313]; with_reducible exact H) | (have H2_ := (Option.bind_some _ _).symm.trans H; rw [hy313]; with_reducible exact H2_) | (have H2_ := (Option.bind_some _ _).symm.trans H; with_reducible exact H2_) | with_reducible exact H | (rw [hy313]; exact H) | exact H
        have Ny313 := aM hy313
        clear hy313
        have H' := aM H
        clear H
        have hnb81 := NB279_280.out
        have hnc81 := NB280_279.out
        have hnb82 := NB279_291.out
        have hnc82 := NB291_279.out
        have hcz83_0 := c10 BK279
        have hfz83_0 := blk_frozen BK279.out 0
        have p306 : 0 ≤ (x8_1 : Int) := odt
        have q306 : x8_1 < (l0_0.length : Int) := odt
        obtain ⟨ad306, A306_0, c306_0, e306, hx306_0, hl306_0, hi306_0⟩ := at_L2 HR0_0.out x8_1 p306 q306
        cases e306
        replace hx306_0 := (HB.out.cell (World.block_lt_of_cell? w _ hx306_0)).trans hx306_0
        have HR306_0 := aM hi306_0
        have HC306_0 := aM hl306_0
        clear hi306_0 hl306_0
        replace p306 := eq_true p306
        replace q306 := eq_true q306
        go_wp2_with (first | ((with_reducible refine gate_callee (f := 143) rfl ?_); refine gL (some 44) Tryz.func143 #[.slice A306_0 (rd_L2 l0_0 x8_1).length c306_0, .int .i64 a1] ?_; (with_reducible refine (spec_maWide.calls _ _ (rd_L2 l0_0 x8_1) a1 t307 _ (cQ (Kd.C_below HR306_0.out HB.out)) HC306_0.out A72.out).mono ?_); rintro e w84 ⟨v308, rfl, ho0, hb⟩; refine ⟨_, rfl, ?_⟩; have _ := aM (Kd.S_elder' (sQ HO_292000) (Kd.R_base ho0) hb); have _ := aM (Kd.R_lower ho0 (below_size bq)); have _ := aM (blk_below (qQ BK279) hb); have _ := aM (blk_below (qQ BK280) hb); have _ := aM (blk_below (qQ BK291) hb); have _ := aM (below_step bq hb); clear HO_292000 BK279 BK280 BK291 HB; rename_i HO_292000 HO309 BK279 BK280 BK291 HB; (try clear hb); (try clear hb2); (try clear hk); (try clear hi); (try clear ho0); obtain ⟨Ao85, co85, eo85⟩ := Kd.R_slice HO309.out; subst eo85; have p310 : 0 ≤ ((l0_0.length : Int) : Int) := odt; have q310 : (l0_0.length : Int) < (t307.length : Int) := odt; obtain ⟨ad310, e310, hx310_0⟩ := Kd.at_int (Kd.R_reads' HO309.out).2.2 (l0_0.length : Int) p310 q310; cases e310; (try simp only [Go.IntWalk.toNatUp] at hx310_0); replace p310 := eq_true p310; replace q310 := eq_true q310; have p78 : 0 ≤ (a1 : Int) := odt; have q78 : (a1 : Int) < ((t307.length : Int) : Int) := odt; obtain ⟨go78, co78, eo78, gb78, gl78, cl78, HG78⟩ := Kd.R_form HO309.out (by omega); (first | cases eo78 | (injection eo78 with ea_ en_ ec_; (first | subst ea_ | (injection ea_ with ea_; subst ea_)); subst ec_; clear en_)); have GB78 := aM gb78; have GG78 := aM HG78; clear gb78 gl78 HG78; (first | simp only [add_plain] at hx310_0 | skip); obtain ⟨hx78_0, hf78_0⟩ := Kd.R_celln 0 HO309.out (a1 : Int) p78 q78; replace p78 := eq_true p78; replace q78 := eq_true q78; obtain ⟨hy86_, hz86_⟩ := Kd.R_celln 0 HO309.out (a1 : Int) (odt) (odt); have HP86 := Kd.R_putg HO309.out (a1 : Int) (rd t307 (l0_0.length : Int))) | ((with_reducible refine gate_store (t := 3) (p := 54) rfl ?_); refine sE (w84.setCell ⟨go78, (a1 : Int).toNat, none⟩ (.int .i64 (rd t307 (l0_0.length : Int)))) 3 54 ?_; intro w87 hw; have hg : w84.grownBy w87 (some go78) := (by rw [hw]; exact HP86.2); have hp_ : Kd.R (Kd.int .i64) 3 w87 w.heap.size (fun _ => True) (.slice (some ⟨go78, 0, none⟩) t307.length co85) y311 := (by rw [hw, Ny311.out]; exact HP86.1); clear HP86; have _ := aM (Kd.S_after (v := (.slice (some ⟨go78, 0, none⟩) t307.length co85)) (v1 := (.slice (some ⟨go78, 0, none⟩) t307.length co85)) (ok := (fun _ => True)) (sQ HO_292000) hg (.inl rfl)); have _ := aM (blk_grown (g := gb279) (o := .cells #[.slice (some ad306) l0_0.length c0_0] 30 (0, 0)) (qQ BK279) hg (Kd.R_ne HO309.out BK279.out (by decide))); have _ := aM (blk_grown (g := gb280) (o := .cells #[.slice none 0 0] 30 (0, 0)) (qQ BK280) hg (Kd.R_ne HO309.out BK280.out (by decide))); have _ := aM (blk_grown (g := gb291) (o := .cells #[u292000] 30 (0, 0)) (qQ BK291) hg (Kd.R_ne HO309.out BK291.out (by decide))); have _ := aM (hp_); have _ := aM ((by rw [hw]; exact below_set (HB.out) GB78.out : Below w.heap.size w w87)); clear HO_292000 BK279 BK280 BK291 HO309 HB; rename_i HO_292000 BK279 BK280 BK291 HO309 HB; clear hg hw hp_; have p79 : 0 ≤ ((l0_0.length : Int) : Int) := odt; have q79 : ((l0_0.length : Int) : Int) < ((t307.length : Int) : Int) := odt; obtain ⟨hx79_0, hf79_0⟩ := Kd.R_celln 0 HO309.out ((l0_0.length : Int) : Int) p79 q79; replace p79 := eq_true p79; replace q79 := eq_true q79; obtain ⟨hy88_, hz88_⟩ := Kd.R_celln 0 HO309.out ((l0_0.length : Int) : Int) (odt) (odt); (try simp only [Go.IntWalk.toNatUp] at hy88_ hz88_); have HP88 := Kd.R_putg HO309.out ((l0_0.length : Int) : Int) 0) | ((with_reducible refine gate_store (t := 3) (p := 57) rfl ?_); refine sE (w87.setCell ⟨go78, ((l0_0.length : Int) : Int).toNat, none⟩ (.int .i64 0)) 3 57 ?_; intro w89 hw; have hg : w87.grownBy w89 (some go78) := (by rw [hw]; exact HP88.2); have hp_ : Kd.R (Kd.int .i64) 3 w89 w.heap.size (fun _ => True) (.slice (some ⟨go78, 0, none⟩) t307.length co85) y312 := (by rw [hw, Ny312.out]; exact HP88.1); clear HP88; have _ := aM (Kd.S_after (v := (.slice (some ⟨go78, 0, none⟩) t307.length co85)) (v1 := (.slice (some ⟨go78, 0, none⟩) t307.length co85)) (ok := (fun _ => True)) (sQ HO_292000) hg (.inl rfl)); have _ := aM (blk_grown (g := gb279) (o := .cells #[.slice (some ad306) l0_0.length c0_0] 30 (0, 0)) (qQ BK279) hg (Kd.R_ne HO309.out BK279.out (by decide))); have _ := aM (blk_grown (g := gb280) (o := .cells #[.slice none 0 0] 30 (0, 0)) (qQ BK280) hg (Kd.R_ne HO309.out BK280.out (by decide))); have _ := aM (blk_grown (g := gb291) (o := .cells #[u292000] 30 (0, 0)) (qQ BK291) hg (Kd.R_ne HO309.out BK291.out (by decide))); have _ := aM (hp_); have _ := aM ((by rw [hw]; exact below_set (HB.out) GB78.out : Below w.heap.size w w89)); clear HO_292000 BK279 BK280 BK291 HO309 HB; rename_i HO_292000 BK279 BK280 BK291 HO309 HB; clear hg hw hp_; have hnb90 := NB291_280.out; have hnc90 := NB280_291.out; have hcz91_0 := c10 BK291; have hfz91_0 := blk_frozen BK291.out 0) | ((with_reducible refine gate_builtin (b := .append) (xs := #[.tmp 59, .tmp 61]) rfl ?_); at_builtin; refine Kd.S_append (Kd.slice 3 (Kd.int .i64)) (w0 := w) w.heap.size rfl (.tmp 59) (.tmp 61) 28 24 (.slice none 0 0) 24 rfl Tryz.underlying28 info24 rfl (by decide) (by omega) u292000 x292000_1 y312 [.slice (some ⟨go78, 0, none⟩) t307.length co85] (fun _ => True) (fun k_ => some k_ = (.slice (some ⟨go78, 0, none⟩) t307.length co85 : Value).ownBlock) rfl rfl ?aP (fun k_ hk_ => ((Kd.R_mono (ok' := fun k_ => ((fun _ => True)) k_ ∧ some k_ ≠ (u292000 : Value).ownBlock) (Kd.R_apart' (HO309.out) (Kd.S_typed HO_292000.out) (by decide)) (fun k_ hk => ⟨trivial, hk.2⟩))).1 k_ hk_.symm) ?aF ?aO ?aB ?aS ?aL ?_; (case aP => exact Kd.M_row (Kd.R_mono (Kd.R_tight rfl (Kd.R_mono (ok' := fun k_ => ((fun _ => True)) k_ ∧ some k_ ≠ (u292000 : Value).ownBlock) (Kd.R_apart' (HO309.out) (Kd.S_typed HO_292000.out) (by decide)) (fun k_ hk => ⟨trivial, hk.2⟩))) (fun _ h_ => h_))); (case aB => exact bq); (case aF => exact (fun _ _ => trivial)); (case aO => exact (by (with_reducible repeat first|apply sA|apply sN|apply sD); exact Kd.S_mono HO_292000.out (fun k_ hk => ⟨trivial, fun e_ => hk.2 e_⟩))); (case aS => exact (below_size bq)); (case aL => have := LMc80.out; omega); intro v314 w92 ho hb hg hat; rw [← Ny313.out] at ho; have _ := aM (blk_grown (g := gb279) (o := .cells #[.slice (some ad306) l0_0.length c0_0] 30 (0, 0)) (qQ BK279) hg (Kd.S_ne HO_292000.out BK279.out (by decide))); have _ := aM (blk_grown (g := gb280) (o := .cells #[.slice none 0 0] 30 (0, 0)) (qQ BK280) hg (Kd.S_ne HO_292000.out BK280.out (by decide))); have _ := aM (blk_grown (g := gb291) (o := .cells #[u292000] 30 (0, 0)) (qQ BK291) hg (Kd.S_ne HO_292000.out BK291.out (by decide))); have _ := aM (hb); have _ := aM (ho); clear BK279 BK280 BK291 HB HO_292000 HO309; rename_i BK279 BK280 BK291 HB HO315; clear ho hb hg hat; obtain ⟨Ao93, co93, eo93⟩ := Kd.S_slice HO315.out; subst eo93; have hcz94_0 := c10 BK291; have hfz94_0 := blk_frozen BK291.out 0))
        go_roundg k1
        case measure => have := HK1.out; omega
        case rel => exact ⟨(wrap64 (x8_1 + 1)), (y313), (.slice Ao93 y313.length co93), eR, H', ⟨by have := HK1.out; omega⟩, ⟨by (with_reducible repeat first|apply sA|apply sN|apply sD); exact Kd.S_mono (Kd.S_far (p := ⟨gb291, 0, none⟩) (Kd.S_types HO315.out BK291.out (by decide)) (fun _ hk => hk.2) (.slice Ao93 y313.length co93)) (fun _ hk => trivial)⟩, ⟨by (with_reducible repeat first|apply qN|apply qD|apply qA); refine blk_far ?_ NB279_291.out _; (with_reducible repeat first|apply qN|apply qD|apply qA); exact BK279.out⟩, ⟨by (with_reducible repeat first|apply qN|apply qD|apply qA); refine blk_far ?_ NB280_291.out _; (with_reducible repeat first|apply qN|apply qD|apply qA); exact BK280.out⟩, ⟨by (with_reducible repeat first|apply qN|apply qD|apply qA); refine blk_put (cs := #[u292000]) ?_ 0 _ rfl; (with_reducible repeat first|apply qN|apply qD|apply qA); exact BK291.out⟩, ⟨bq⟩⟩
       ·rw [if_neg c73] at H
        have c73b0 := decide_eq_false c73
        clear c73
        replace H := iS H
        obtain ⟨c95, H⟩ := H
        have LMc95 := aM c95
        clear c95
        obtain ⟨y316, hy316⟩ : ∃ y_ : List (List Int), y_ = (x292000_1 ++ [t307]) := ⟨_, rfl⟩
        replace H : (spec_maGrow.l0 k1 a1 (l0_0.length : Int) (wrap64 (x8_1 + 1)) l0_0 y316) = some r := by first | (rw [hy316]; with_reducible exact H) | (have H2_ := (Option.bind_some _ _).symm.trans H; rw [hy316]; with_reducible exact H2_) | (have H2_ := (Option.bind_some _ _).symm.trans H; with_reducible exact H2_) | with_reducible exact H | (rw [hy316]; exact H) | exact H
        have Ny316 := aM hy316
        clear hy316
        have H' := aM H
        clear H
        have hnb96 := NB279_280.out
        have hnc96 := NB280_279.out
        have hnb97 := NB279_291.out
        have hnc97 := NB291_279.out
        have hcz98_0 := c10 BK279
        have hfz98_0 := blk_frozen BK279.out 0
        have p306 : 0 ≤ (x8_1 : Int) := odt
        have q306 : x8_1 < (l0_0.length : Int) := odt
        obtain ⟨ad306, A306_0, c306_0, e306, hx306_0, hl306_0, hi306_0⟩ := at_L2 HR0_0.out x8_1 p306 q306
        cases e306
        replace hx306_0 := (HB.out.cell (World.block_lt_of_cell? w _ hx306_0)).trans hx306_0
        have HR306_0 := aM hi306_0
        have HC306_0 := aM hl306_0
        clear hi306_0 hl306_0
        replace p306 := eq_true p306
        replace q306 := eq_true q306
        go_wp2_with (first | ((with_reducible refine gate_callee (f := 143) rfl ?_); refine gL (some 44) Tryz.func143 #[.slice A306_0 (rd_L2 l0_0 x8_1).length c306_0, .int .i64 a1] ?_; (with_reducible refine (spec_maWide.calls _ _ (rd_L2 l0_0 x8_1) a1 t307 _ (cQ (Kd.C_below HR306_0.out HB.out)) HC306_0.out A72.out).mono ?_); rintro e w99 ⟨v308, rfl, ho0, hb⟩; refine ⟨_, rfl, ?_⟩; have _ := aM (Kd.S_elder' (sQ HO_292000) (Kd.R_base ho0) hb); have _ := aM (Kd.R_lower ho0 (below_size bq)); have _ := aM (blk_below (qQ BK279) hb); have _ := aM (blk_below (qQ BK280) hb); have _ := aM (blk_below (qQ BK291) hb); have _ := aM (below_step bq hb); clear HO_292000 BK279 BK280 BK291 HB; rename_i HO_292000 HO309 BK279 BK280 BK291 HB; (try clear hb); (try clear hb2); (try clear hk); (try clear hi); (try clear ho0); have hnb100 := NB291_280.out; have hnc100 := NB280_291.out; have hcz101_0 := c10 BK291; have hfz101_0 := blk_frozen BK291.out 0; obtain ⟨Ao103, co103, eo103⟩ := Kd.R_slice HO309.out; subst eo103) | ((with_reducible refine gate_builtin (b := .append) (xs := #[.tmp 59, .tmp 61]) rfl ?_); at_builtin; refine Kd.S_append (Kd.slice 3 (Kd.int .i64)) (w0 := w) w.heap.size rfl (.tmp 59) (.tmp 61) 28 24 (.slice none 0 0) 24 rfl Tryz.underlying28 info24 rfl (by decide) (by omega) u292000 x292000_1 t307 [.slice Ao103 t307.length co103] (fun _ => True) (fun k_ => some k_ = (.slice Ao103 t307.length co103 : Value).ownBlock) rfl rfl ?aP (fun k_ hk_ => ((Kd.R_mono (ok' := fun k_ => ((fun _ => True)) k_ ∧ some k_ ≠ (u292000 : Value).ownBlock) (Kd.R_apart' (HO309.out) (Kd.S_typed HO_292000.out) (by decide)) (fun k_ hk => ⟨trivial, hk.2⟩))).1 k_ hk_.symm) ?aF ?aO ?aB ?aS ?aL ?_; (case aP => exact Kd.M_row (Kd.R_mono (Kd.R_tight rfl (Kd.R_mono (ok' := fun k_ => ((fun _ => True)) k_ ∧ some k_ ≠ (u292000 : Value).ownBlock) (Kd.R_apart' (HO309.out) (Kd.S_typed HO_292000.out) (by decide)) (fun k_ hk => ⟨trivial, hk.2⟩))) (fun _ h_ => h_))); (case aB => exact bq); (case aF => exact (fun _ _ => trivial)); (case aO => exact (by (with_reducible repeat first|apply sA|apply sN|apply sD); exact Kd.S_mono HO_292000.out (fun k_ hk => ⟨trivial, fun e_ => hk.2 e_⟩))); (case aS => exact (below_size bq)); (case aL => have := LMc95.out; omega); intro v317 w102 ho hb hg hat; rw [← Ny316.out] at ho; have _ := aM (blk_grown (g := gb279) (o := .cells #[.slice (some ad306) l0_0.length c0_0] 30 (0, 0)) (qQ BK279) hg (Kd.S_ne HO_292000.out BK279.out (by decide))); have _ := aM (blk_grown (g := gb280) (o := .cells #[.slice none 0 0] 30 (0, 0)) (qQ BK280) hg (Kd.S_ne HO_292000.out BK280.out (by decide))); have _ := aM (blk_grown (g := gb291) (o := .cells #[u292000] 30 (0, 0)) (qQ BK291) hg (Kd.S_ne HO_292000.out BK291.out (by decide))); have _ := aM (hb); have _ := aM (ho); clear BK279 BK280 BK291 HB HO_292000 HO309; rename_i BK279 BK280 BK291 HB HO318; clear ho hb hg hat; obtain ⟨Ao104, co104, eo104⟩ := Kd.S_slice HO318.out; subst eo104; have hcz105_0 := c10 BK291; have hfz105_0 := blk_frozen BK291.out 0))
        go_roundg k1
        case measure => have := HK1.out; omega
        case rel => exact ⟨(wrap64 (x8_1 + 1)), (y316), (.slice Ao104 y316.length co104), eR, H', ⟨by have := HK1.out; omega⟩, ⟨by (with_reducible repeat first|apply sA|apply sN|apply sD); exact Kd.S_mono (Kd.S_far (p := ⟨gb291, 0, none⟩) (Kd.S_types HO318.out BK291.out (by decide)) (fun _ hk => hk.2) (.slice Ao104 y316.length co104)) (fun _ hk => trivial)⟩, ⟨by (with_reducible repeat first|apply qN|apply qD|apply qA); refine blk_far ?_ NB279_291.out _; (with_reducible repeat first|apply qN|apply qD|apply qA); exact BK279.out⟩, ⟨by (with_reducible repeat first|apply qN|apply qD|apply qA); refine blk_far ?_ NB280_291.out _; (with_reducible repeat first|apply qN|apply qD|apply qA); exact BK280.out⟩, ⟨by (with_reducible repeat first|apply qN|apply qD|apply qA); refine blk_put (cs := #[u292000]) ?_ 0 _ rfl; (with_reducible repeat first|apply qN|apply qD|apply qA); exact BK291.out⟩, ⟨bq⟩⟩
    ·rw [if_neg c39] at H
     have c39b0 := decide_eq_false c39
     clear c39
     obtain rfl := Option.some.inj H
     have hnb106 := NB291_279.out
     have hnc106 := NB279_291.out
     have hnb107 := NB291_280.out
     have hnc107 := NB280_291.out
     have hcz108_0 := c10 BK291
     have hfz108_0 := blk_frozen BK291.out 0
     obtain ⟨Ao109, co109, eo109⟩ := Kd.S_slice HO_292000.out
     subst eo109
     have hnb110 := NB280_279.out
     have hnc110 := NB279_280.out
     have hcz111_0 := c10 BK280
     have hfz111_0 := blk_frozen BK280.out 0
     go_wp2
     refine bodyPost_ret (results_cell_row rfl _ _ gb280 30 #[.slice Ao109 x292000_1.length co109] (0, 0) _ rfl (by (with_reducible repeat first|apply qN|apply qD|apply qA); refine blk_put (cs := #[.slice none 0 0]) ?_ 0 _ rfl; (with_reducible repeat first|apply qN|apply qD|apply qA); exact BK280.out) Tryz.underlying30 rfl (by kernel_rfl)) rfl ?_
     exact ⟨_, eE, by (with_reducible repeat first|apply sA|apply sN|apply sD); exact Kd.S_mono (Kd.S_far (p := ⟨gb280, 0, none⟩) (Kd.S_types HO_292000.out BK280.out (by decide)) (fun _ hk => hk.2) (.slice Ao109 x292000_1.length co109)) (fun _ hk => trivial), bq⟩

end Go.Proofs.YtcodionjhcmfhaaGreatDoor.Ax
