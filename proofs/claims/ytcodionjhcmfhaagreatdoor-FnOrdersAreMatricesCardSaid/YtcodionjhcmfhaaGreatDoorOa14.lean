-- Written by hook.py (wip/), over the kit's print.py.
import Derived.Test.YtcodionjhcmfhaaGreatDoorOa2
import Derived.Test.YtcodionjhcmfhaaGreatDoorOa11
import Derived.Test.YtcodionjhcmfhaaGreatDoorOa13
import Derived.Test.YtcodionjhcmfhaaGreatDoorOaXSq
namespace Go.Proofs.YtcodionjhcmfhaaGreatDoor.Oa
open Go.RowKit Go.Proofs.YtcodionjhcmfhaaGreatDoorW.PrintWords Go.Proofs.YtcodionjhcmfhaaGreatDoorW.PrintLast Go.Proofs.YtcodionjhcmfhaaGreatDoorW.PrintMore Go.Proofs.YtcodionjhcmfhaaGreatDoor.Sq
attribute [local go_sem] max2_int min2_int max_two min_two max_three min_three max_four min_four
set_option linter.unusedVariables false
set_option linter.unusedSimpArgs false
def Y16.l0 : Nat → Int → Int → Int → List (List Int) → List (List Int) → Option ((List (List Int)))
 | 0, _, _, _, _, _ => none
 | k + 1, x1, x5, x8, x292000, x304000 => if x8 ≤ x5 then (if x8 = x1 then (if 0 ≤ (wrap64 (x5 + 1)) then (if (wrap64 (x5 + 1) : Int).toNat ≤ 35184372088832 then ((some (List.replicate (wrap64 (x5 + 1) : Int).toNat 0 : List Int)).bind fun y304 => (if 0 ≤ x5 then (if x5 < (y304.length : Int) then (if x304000.length < 5864062014805 then (Y16.l0 k x1 x5 (wrap64 (x8 + 1)) x292000 (x304000 ++ [(y304.set (x5 : Int).toNat 1)])) else (none)) else (none)) else (none))) else (none)) else (none)) else (if x8 > x1 then (if 0 ≤ (wrap64 (x8 - 1)) then (if (wrap64 (x8 - 1)) < (x292000.length : Int) then ((Y32.f (rd_L3 x292000 (wrap64 (x8 - 1))) x1).bind fun t312 => (if x304000.length < 5864062014805 then (Y16.l0 k x1 x5 (wrap64 (x8 + 1)) x292000 (x304000 ++ [t312])) else (none))) else (none)) else (none)) else (if 0 ≤ x8 then (if x8 < (x292000.length : Int) then ((Y32.f (rd_L3 x292000 x8) x1).bind fun t319 => (if x1 < x5 then (if 0 ≤ x5 then (if x5 < (t319.length : Int) then (if 0 ≤ x1 then (if x1 < (t319.length : Int) then (if x304000.length < 5864062014805 then (Y16.l0 k x1 x5 (wrap64 (x8 + 1)) x292000 (x304000 ++ [((t319.set (x1 : Int).toNat (rd t319 x5)).set (x5 : Int).toNat 0)])) else (none)) else (none)) else (none)) else (none)) else (none)) else (if x304000.length < 5864062014805 then (Y16.l0 k x1 x5 (wrap64 (x8 + 1)) x292000 (x304000 ++ [t319])) else (none)))) else (none)) else (none)))) else (some x304000)
def Y16.f (k : Nat) (l0_0 : List (List Int)) (a1 : Int) : Option ((List (List Int))) := (Y42.f k l0_0).bind fun t293 => (if a1 ≤ t293 then ((Y26.f k l0_0).bind fun t294 => (if 0 ≤ a1 then (if a1 < (t294.length : Int) then (if 0 ≤ (wrap64 ((l0_0.length : Int) - 1)) then (if (wrap64 ((l0_0.length : Int) - 1)) < ((rd_L3 t294 a1).length : Int) then (some (t294.set (a1 : Int).toNat ((rd_L3 t294 a1).set ((wrap64 ((l0_0.length : Int) - 1)) : Int).toNat (wrap64 ((rd (rd_L3 t294 a1) (wrap64 ((l0_0.length : Int) - 1))) + 1))))) else (none)) else (none)) else (none)) else (none))) else (Y16.l0 k a1 (l0_0.length : Int) 0 l0_0 ([] : List (List Int))))
def Y16.T20 : Bool × List (List Nat × List Nat) := (true, [([], []), ([0], [0]), ([], []), ([2], [2]), ([], []), ([4], [4]), ([3, 5], [3, 5]), ([6], [6]), ([], []), ([7, 8], [7, 8]), ([9], [9]), ([1, 10, 9], [1, 10]), ([0, 1, 2, 3, 4, 5, 6, 7, 8, 9, 10, 11], []), ([12, 11, 11, 0, 1, 2, 3, 4, 5, 6, 7, 8, 9, 10, 11], [11, 12])])
def Y16.B20 : List Nat := [0, 1, 0, 4, 0, 16, 60, 124, 0, 508, 1020, 2047, 4095, 8191]
theorem Y16.tab20 : rtab .any (opsOf Tryz.f115 20) = Y16.T20 := by kernel_rfl
theorem Y16.bits20 : waitsOk Y16.T20.2 Y16.B20 = true := by kernel_rfl
set_option maxHeartbeats 8000000 in
set_option maxRecDepth 100000 in
theorem Y16.calls (k : Nat) (A0_0 : Option Addr) (c0_0 : Nat) (l0_0 : List (List Int)) (a1 : Int) (r : List (List Int)) (w : World) (hr0_0 : Kd.C (Kd.slice 3 (Kd.int .i64)) w A0_0 l0_0.length l0_0) (hc0_0 : l0_0.length ≤ c0_0) (h : Y16.f k l0_0 a1 = some r) :
  Calls Tryz.prog 115 #[.agg #[.slice A0_0 l0_0.length c0_0], .int .i64 a1] w fun e w' => ∃ v0_ : Value, e = .returned (.agg #[v0_]) ∧ Kd.S (Kd.slice 3 (Kd.int .i64)) 24 w' w.heap.size (fun _ => True) v0_ r ∧ Below w.heap.size w w' := by
 have hu30 := Tryz.underlying30
 have HR0_0 := aM hr0_0
 have HC0_0 := aM hc0_0
 clear hr0_0 hc0_0
 have HB := aM (Below.refl w.heap.size w)
 unfold Y16.f at h
 have H := h
 clear h
 replace H := bS H
 obtain ⟨t293, A3, H⟩ := H
 try dsimp only at H
 by_cases c4 : a1 ≤ t293
 ·rw [if_pos c4] at H
  have c4b0 := decide_eq_true c4
  clear c4
  replace H := bS H
  obtain ⟨t294, A5, H⟩ := H
  try dsimp only at H
  replace H := iD2 H
  obtain ⟨c6b0, c7b0, H⟩ := H
  obtain ⟨ji8, hji8⟩ : ∃ j_ : Int, (wrap64 ((l0_0.length : Int) - 1)) = j_ := ⟨_, rfl⟩
  replace H : (if 0 ≤ (ji8) then (if (ji8) < ((rd_L3 t294 a1).length : Int) then (some (t294.set (a1 : Int).toNat ((rd_L3 t294 a1).set ((ji8) : Int).toNat (wrap64 ((rd (rd_L3 t294 a1) (ji8)) + 1))))) else (none)) else (none)) = some r := by first | (rw [hji8] at H; exact H) | (simp only [hji8] at H ⊢; exact H)
  (try rw [hji8] at A3)
  (try rw [hji8] at A5)
  have hji8w : (IntKind.i64.wrap ((l0_0.length : Int) - 1)) = ji8 := (i64_w _).trans hji8
  replace H := iD2 H
  obtain ⟨c9b0, c10b0, H⟩ := H
  obtain ⟨y300, hy300⟩ := nE (((rd_L3 t294 a1).set ((ji8) : Int).toNat (wrap64 ((rd (rd_L3 t294 a1) (ji8)) + 1))) : List Int)
  try rw [← hy300] at H
  try with_reducible replace H := (Option.bind_some _ _).symm.trans H
  try dsimp only at H
  have Ny300 := aM hy300
  clear hy300
  obtain ⟨y302, hy302⟩ := nE ((t294.set (a1 : Int).toNat y300) : List (List Int))
  try rw [← hy302] at H
  try with_reducible replace H := (Option.bind_some _ _).symm.trans H
  try dsimp only at H
  have Ny302 := aM hy302
  clear hy302
  obtain rfl := Option.some.inj H
  go_enter Tryz.func115, Tryz.ntmps115
  go_wp2_with (first | ((with_reducible refine gate_dst (N := 2) rfl ?_); refine bF 2 30 #[.slice A0_0 l0_0.length c0_0] bq ?_; intro gb291 w12 hg hb _ _ _ _; clear HB; rename_i HB BK291 GW291 GE291; clear hb hg) | ((with_reducible refine gate_dst (N := 4) rfl ?_); refine bE 4 30 #[.slice none 0 0] ?_; intro gb292 hg w13 hbox hb; have _ := bK BK291 hb; have _ := bB hb; have _ := aM (hbox); have _ := aM ((gS hg)); have _ := aM ((gS hg)); have _ := aM (nL hg BK291); have _ := aM (nG hg BK291); clear BK291 HB; rename_i BK291 HB BK292 GW292 GE292 NB291_292 NB292_291; clear hb hbox hg; have hnb14 := NB291_292.out; have hnc14 := NB292_291.out; have hcz15_0 := zc10 BK291; have hfz15_0 := blk_frozen BK291.out 0) | ((with_reducible refine gate_callee (f := 125) rfl ?_); refine gL (some 16) Tryz.func125 #[.agg #[.slice A0_0 l0_0.length c0_0]] ?_; (with_reducible refine (Y42.calls k _ _ l0_0 t293 _ (cQ (Kd.C_below HR0_0.out HB.out)) HC0_0.out A3.out).mono ?_); rintro e w16 ⟨rfl, hb⟩; refine ⟨_, rfl, ?_⟩; have _ := bK BK291 hb; have _ := bK BK292 hb; have _ := bB hb; clear BK291 BK292 HB; rename_i BK291 BK292 HB; (try clear hb); have hcz17_0 := zc10 BK291; have hfz17_0 := blk_frozen BK291.out 0) | ((with_reducible refine gate_callee (f := 126) rfl ?_); refine gL (some 19) Tryz.func126 #[.agg #[.slice A0_0 l0_0.length c0_0]] ?_; (with_reducible refine (Y26.calls k _ _ l0_0 t294 _ (cQ (Kd.C_below HR0_0.out HB.out)) HC0_0.out A5.out).mono ?_); rintro e w18 ⟨v295, rfl, ho0, hb⟩; refine ⟨_, rfl, ?_⟩; have _ := aM (Kd.S_lower ho0 (below_size bq)); have _ := bK BK291 hb; have _ := bK BK292 hb; have _ := bB hb; clear BK291 BK292 HB; rename_i HO296 BK291 BK292 HB; (try clear hb); (try clear ho0)) | ((with_reducible refine gate_dst (N := 6) rfl ?_); refine bE 6 30 #[.slice none 0 0] ?_; intro gb297 hg w19 hbox hb; have _ := aM (Kd.S_below (sQ HO296) hb); have _ := bK BK291 hb; have _ := bK BK292 hb; have _ := bB hb; have _ := aM (hbox); have _ := aM ((gS hg)); have _ := aM ((gS hg)); have _ := aM (nL hg BK291); have _ := aM (nG hg BK291); have _ := aM (nL hg BK292); have _ := aM (nG hg BK292); clear HO296 BK291 BK292 HB; rename_i HO296 BK291 BK292 HB BK297 GW297 GE297 NB291_297 NB297_291 NB292_297 NB297_292; clear hb hbox hg; obtain ⟨Ao20, co20, eo20⟩ := Kd.S_slice HO296.out; subst eo20; have hnb21 := NB297_291.out; have hnc21 := NB291_297.out; have hnb22 := NB297_292.out; have hnc22 := NB292_297.out; have hcz23_0 := zc10 BK297; have hfz23_0 := blk_frozen BK297.out 0) | ((with_reducible refine gate_store (t := 30) (p := 6) rfl ?_); refine sE (w19.setCell ⟨gb297, 0, none⟩ (.slice Ao20 t294.length co20)) 30 6 ?_; intro w24 hw; have _ : Aside0 (Kd.S (Kd.slice 3 (Kd.int .i64)) 24 w24 w.heap.size (fun _ => True) (.slice Ao20 t294.length co20) t294) := ⟨(by rw [hw]; exact (by (with_reducible repeat first|apply sA|apply sN|apply sD); exact Kd.S_mono (Kd.S_far (p := ⟨gb297, 0, none⟩) (Kd.S_types HO296.out BK297.out (by decide)) (fun _ hk => hk.2) (.slice Ao20 t294.length co20)) (fun _ hk => trivial)))⟩; have _ : Aside0 (w24.heap[gb291]? = some (.cells #[.slice A0_0 l0_0.length c0_0] 30 (0, 0))) := ⟨(by rw [hw]; exact (by (with_reducible repeat first|apply qN|apply qD|apply qA); refine blk_far ?_ NB291_297.out _; (with_reducible repeat first|apply qN|apply qD|apply qA); exact BK291.out))⟩; have _ : Aside0 (w24.heap[gb292]? = some (.cells #[.slice none 0 0] 30 (0, 0))) := ⟨(by rw [hw]; exact (by (with_reducible repeat first|apply qN|apply qD|apply qA); refine blk_far ?_ NB292_297.out _; (with_reducible repeat first|apply qN|apply qD|apply qA); exact BK292.out))⟩; have _ : Aside0 (w24.heap[gb297]? = some (.cells #[.slice Ao20 t294.length co20] 30 (0, 0))) := ⟨(by rw [hw]; exact (by (with_reducible repeat first|apply qN|apply qD|apply qA); refine blk_put (cs := #[.slice none 0 0]) ?_ 0 _ rfl; (with_reducible repeat first|apply qN|apply qD|apply qA); exact BK297.out))⟩; have _ : Aside0 (Below w.heap.size w w24) := ⟨(by rw [hw]; exact bq)⟩; clear hw HO296 BK291 BK292 BK297 HB; rename_i HO296 BK291 BK292 BK297 HB; have hcz25_0 := zc10 BK297; have hfz25_0 := blk_frozen BK297.out 0; have p298 : 0 ≤ (a1 : Int) := odt; have q298 : a1 < (t294.length : Int) := odt; obtain ⟨ad298, A298_0, c298_0, e298, hx298_0, hl298_0, hi298_0⟩ := at_L3 (Kd.S_reads' HO296.out).2.2 a1 p298 q298; cases e298; obtain ⟨ce298, hce298, hMe298, hcc298⟩ := Kd.S_get HO296.out [] a1 p298 (by first | exact q298 | exact odt | (have e_ := (Kd.S_reads' HO296.out).1; omega)); obtain ⟨ve298_0, rfl, ge298_0⟩ := hMe298; have hv298_0 := hcc298 0 _ rfl; rw [Nat.add_zero, show ((Kd.slice 3 (Kd.int .i64))).sz = 1 from rfl, Nat.mul_one] at hv298_0; replace hv298_0 := Option.some.inj (hv298_0.symm.trans hx298_0); rw [hv298_0] at ge298_0; have HL298_0 := aM (show Kd.R (Kd.int .i64) 3 _ _ _ _ (rd_L3 t294 a1) from ge298_0); clear hv298_0 ge298_0; have HX298_0 := aM hx298_0; clear hcc298 hce298; have HR298_0 := aM hi298_0; have HC298_0 := aM hl298_0; clear hi298_0 hl298_0; replace p298 := eq_true p298; replace q298 := eq_true q298; have p299 : 0 ≤ ((ji8) : Int) := odt; have q299 : (ji8) < ((rd_L3 t294 a1).length : Int) := odt; obtain ⟨ad299, e299, hx299_0⟩ := Kd.at_int (cQ HR298_0.out) (ji8) p299 q299; cases e299; replace p299 := eq_true p299; replace q299 := eq_true q299; have p11 : 0 ≤ ((ji8) : Int) := odt; have q11 : ((ji8) : Int) < (((rd_L3 t294 a1).length : Int) : Int) := odt; obtain ⟨go11, co11, eo11, gb11, gl11, cl11, HG11⟩ := Kd.R_form HL298_0.out (by omega); (first | cases eo11 | (injection eo11 with ea_ en_ ec_; (first | subst ea_ | (injection ea_ with ea_; subst ea_)); subst ec_; clear en_)); have GB11 := aM gb11; have GG11 := aM HG11; clear gb11 gl11 HG11; (first | simp only [add_plain] at hx299_0 | skip); obtain ⟨hx11_0, hf11_0⟩ := Kd.R_celln 0 HL298_0.out ((ji8) : Int) p11 q11; replace p11 := eq_true p11; replace q11 := eq_true q11; have hq26 : (a1 : Int) < (t294.length : Int) := (by have h_ : (a1 : Int) < ((t294.length : Int) : Int) := odt; first | exact h_ | (have e_ := (Kd.S_reads' HO296.out).1; omega) | simpa only [List.length_set, List.length_set] using h_); obtain ⟨oki26, ce26, hcl26, hM26, hcc26, hok26, hbk26⟩ := Kd.S_borrow HO296.out [] (a1 : Int) (odt) hq26; obtain ⟨ve26_0, rfl, ge26_0⟩ := hM26; have hv26 := hcc26 0 _ rfl; rw [Nat.add_zero, show ((Kd.slice 3 (Kd.int .i64))).sz = 1 from rfl, Nat.mul_one] at hv26; replace hv26 := Option.some.inj (hv26.symm.trans HX298_0.out); subst hv26; clear hcc26 hcl26; replace ge26_0 := (show Kd.R (Kd.int .i64) 3 _ _ _ _ (rd_L3 t294 a1) from ge26_0); have HP26 := Kd.R_putg ge26_0 ((ji8) : Int) (wrap64 ((rd (rd_L3 t294 a1) (ji8)) + 1))) | ((with_reducible refine gate_store (t := 3) (p := 30) rfl ?_); refine sE (w24.setCell ⟨go11, ((ji8) : Int).toNat, none⟩ (.int .i64 (wrap64 ((rd (rd_L3 t294 a1) (ji8)) + 1)))) 3 30 ?_; intro w27 hw; have hg : w24.grownBy w27 (some go11) := (by rw [hw]; exact HP26.2); have hz_ : Kd.R (Kd.int .i64) 3 w27 w.heap.size oki26 (.slice (some ⟨go11, 0, none⟩) (rd_L3 t294 a1).length c298_0) y300 := (by rw [hw, Ny300.out]; exact HP26.1); have hp_ : Kd.S (Kd.slice 3 (Kd.int .i64)) 24 w27 w.heap.size (fun _ => True) (.slice (some ad298) t294.length co20) y302 := (by rw [Ny302.out]; exact hbk26 hg (fun k_ e_ => by injection e_ with e_; subst e_; exact ge26_0.1 _ rfl) (Kd.M_row hz_)); have hm_ := Kd.R_mono hz_ hok26; clear HP26 hbk26; have _ := aM (blk_grown (g := gb291) (o := .cells #[.slice A0_0 l0_0.length c0_0] 30 (0, 0)) (qQ BK291) hg (Kd.R_ne HL298_0.out BK291.out (by decide))); have _ := aM (blk_grown (g := gb292) (o := .cells #[.slice none 0 0] 30 (0, 0)) (qQ BK292) hg (Kd.R_ne HL298_0.out BK292.out (by decide))); have _ := aM (hp_); have _ := aM (blk_grown (g := gb297) (o := .cells #[.slice (some ad298) t294.length co20] 30 (0, 0)) (qQ BK297) hg (Kd.R_ne HL298_0.out BK297.out (by decide))); have _ := aM ((by rw [hw]; exact below_set (HB.out) GB11.out : Below w.heap.size w w27)); have _ := aM (hm_); have _ := aM ((Kd.R_reads' hm_).2.1); clear BK291 BK292 HO296 BK297 HB HL298_0; rename_i BK291 BK292 HO296 BK297 HB HL331 HC301; clear hg hw hp_ hz_ hm_ hok26; have hcz28_0 := zc10 BK297; have hfz28_0 := blk_frozen BK297.out 0; have hcz29_0 := zc10 BK292; have hfz29_0 := blk_frozen BK292.out 0))
  refine bodyPost_ret (results_cell_row rfl _ _ gb292 30 #[.slice (some ad298) t294.length co20] (0, 0) _ rfl (by (with_reducible repeat first|apply qN|apply qD|apply qA); refine blk_put (cs := #[.slice none 0 0]) ?_ 0 _ rfl; (with_reducible repeat first|apply qN|apply qD|apply qA); exact BK292.out) Tryz.underlying30 rfl (by kernel_rfl)) rfl ?_
  exact ⟨_, by first | rfl | (simp [errW_none, errW_some] <;> rfl) | (simp only [← hji8]; first | rfl | (simp [errW_none, errW_some] <;> rfl)) | (simp [*, errW_none, errW_some] <;> rfl), by (with_reducible repeat first|apply sA|apply sN|apply sD); exact Kd.S_mono (Kd.S_far (p := ⟨gb292, 0, none⟩) (Kd.S_types HO296.out BK292.out (by decide)) (fun _ hk => hk.2) (.slice (some ad298) t294.length co20)) (fun _ hk => trivial), bq⟩
 ·rw [if_neg c4] at H
  have c4b0 := decide_eq_false c4
  clear c4
  have H' := aM H
  clear H
  go_enter Tryz.func115, Tryz.ntmps115
  go_wp2_with (first | ((with_reducible refine gate_dst (N := 2) rfl ?_); refine bF 2 30 #[.slice A0_0 l0_0.length c0_0] bq ?_; intro gb291 w30 hg hb _ _ _ _; clear HB; rename_i HB BK291 GW291 GE291; clear hb hg) | ((with_reducible refine gate_dst (N := 4) rfl ?_); refine bE 4 30 #[.slice none 0 0] ?_; intro gb292 hg w31 hbox hb; have _ := bK BK291 hb; have _ := bB hb; have _ := aM (hbox); have _ := aM ((gS hg)); have _ := aM ((gS hg)); have _ := aM (nL hg BK291); have _ := aM (nG hg BK291); clear BK291 HB; rename_i BK291 HB BK292 GW292 GE292 NB291_292 NB292_291; clear hb hbox hg; have hnb32 := NB291_292.out; have hnc32 := NB292_291.out; have hcz33_0 := zc10 BK291; have hfz33_0 := blk_frozen BK291.out 0) | ((with_reducible refine gate_callee (f := 125) rfl ?_); refine gL (some 16) Tryz.func125 #[.agg #[.slice A0_0 l0_0.length c0_0]] ?_; (with_reducible refine (Y42.calls k _ _ l0_0 t293 _ (cQ (Kd.C_below HR0_0.out HB.out)) HC0_0.out A3.out).mono ?_); rintro e w34 ⟨rfl, hb⟩; refine ⟨_, rfl, ?_⟩; have _ := bK BK291 hb; have _ := bK BK292 hb; have _ := bB hb; clear BK291 BK292 HB; rename_i BK291 BK292 HB; (try clear hb)) | ((with_reducible refine gate_dst (N := 7) rfl ?_); refine bE 7 30 #[.slice none 0 0] ?_; intro gb303 hg w35 hbox hb; have _ := bK BK291 hb; have _ := bK BK292 hb; have _ := bB hb; have _ := aM (hbox); have _ := aM ((gS hg)); have _ := aM ((gS hg)); have _ := aM (nL hg BK291); have _ := aM (nG hg BK291); have _ := aM (nL hg BK292); have _ := aM (nG hg BK292); clear BK291 BK292 HB; rename_i BK291 BK292 HB BK303 GW303 GE303 NB291_303 NB303_291 NB292_303 NB303_292; clear hb hbox hg; have hnb36 := NB303_291.out; have hnc36 := NB291_303.out; have hnb37 := NB303_292.out; have hnc37 := NB292_303.out; have hcz38_0 := zc10 BK303; have hfz38_0 := blk_frozen BK303.out 0))
  go_loopg [8] k (fun kq v8 w' => ∃ (x8_1 : Int) (x304000_1 : List (List Int)) (u304000 : Value), v8 = .int .i64 x8_1 ∧ Aside0 (Y16.l0 kq a1 (l0_0.length : Int) x8_1 l0_0 x304000_1 = some r) ∧ Aside0 (kq ≤ k) ∧ Aside0 (Kd.S (Kd.slice 3 (Kd.int .i64)) 24 w' w.heap.size (fun _ => True) u304000 x304000_1) ∧ Aside0 (w'.heap[gb291]? = some (.cells #[(.slice A0_0 l0_0.length c0_0)] 30 (0, 0))) ∧ Aside0 (w'.heap[gb292]? = some (.cells #[(.slice none 0 0)] 30 (0, 0))) ∧ Aside0 (w'.heap[gb303]? = some (.cells #[u304000] 30 (0, 0))) ∧ Aside0 (Below w.heap.size w w'))
  case atStart => exact ⟨(0), (([] : List (List Int))), (.slice none 0 0), eR, H', ⟨Nat.le_refl _⟩, ⟨by first | exact Kd.S_nil _ _ _ _ _ | exact Kd.N_nil _ _ _ _ _ | exact Kd.V_nil _ _ _ _ _ | exact Kd.Q_nil _ _ _ _ _ | exact Kd.R_nil _ _ _ _ _⟩, ⟨by (with_reducible repeat first|apply qN|apply qD|apply qA); refine blk_far ?_ NB291_303.out _; (with_reducible repeat first|apply qN|apply qD|apply qA); exact BK291.out⟩, ⟨by (with_reducible repeat first|apply qN|apply qD|apply qA); refine blk_far ?_ NB292_303.out _; (with_reducible repeat first|apply qN|apply qD|apply qA); exact BK292.out⟩, ⟨by (with_reducible repeat first|apply qN|apply qD|apply qA); refine blk_put (cs := #[.slice none 0 0]) ?_ 0 _ rfl; (with_reducible repeat first|apply qN|apply qD|apply qA); exact BK303.out⟩, ⟨bq⟩⟩
  case round =>
   clear H'
   try clear c4
   try clear c4b0
   try clear c6b0
   try clear c7b0
   try clear c9b0
   try clear c10b0
   try clear p11
   try clear q11
   try clear hcz15_0
   try clear hcz17_0
   try clear hcz23_0
   try clear hcz25_0
   try clear hcz28_0
   try clear hcz29_0
   try clear hcz33_0
   try clear hcz38_0
   try clear hfz15_0
   try clear hfz17_0
   try clear hfz23_0
   try clear hfz25_0
   try clear hfz28_0
   try clear hfz29_0
   try clear hfz33_0
   try clear hfz38_0
   try clear hx11_0
   try clear hx298_0
   try clear hx299_0
   try clear p11
   try clear p298
   try clear p299
   try clear q11
   try clear q298
   try clear q299
   obtain ⟨x8_1, x304000_1, u304000, rfl, HA, HK1, HO_304000, BK291, BK292, BK303, HB⟩ := hrel
   cases gk with
   | zero => exact absurd HA.out (by simp [Y16.l0])
   | succ k1 =>
    have H := HA.out
    clear HA
    simp only [Y16.l0] at H
    by_cases c39 : x8_1 ≤ (l0_0.length : Int)
    ·rw [if_pos c39] at H
     have c39b0 := decide_eq_true c39
     clear c39
     by_cases c40 : x8_1 = a1
     ·rw [if_pos c40] at H
      have c40b0 : (x8_1 == a1) = true := beq_iff_eq.mpr c40
      have c40b1 : (x8_1 != a1) = false := bne_eq_false_iff_eq.mpr c40
      clear c40
      obtain ⟨ji41, hji41⟩ : ∃ j_ : Int, (wrap64 ((l0_0.length : Int) + 1)) = j_ := ⟨_, rfl⟩
      replace H : (if 0 ≤ (ji41) then (if (ji41 : Int).toNat ≤ 35184372088832 then ((some (List.replicate (ji41 : Int).toNat 0 : List Int)).bind fun y304 => (if 0 ≤ (l0_0.length : Int) then (if (l0_0.length : Int) < (y304.length : Int) then (if x304000_1.length < 5864062014805 then (Y16.l0 k1 a1 (l0_0.length : Int) (wrap64 (x8_1 + 1)) l0_0 (x304000_1 ++ [(y304.set ((l0_0.length : Int) : Int).toNat 1)])) else (none)) else (none)) else (none))) else (none)) else (none)) = some r := by first | (rw [hji41] at H; exact H) | (simp only [hji41] at H ⊢; exact H)
      have hji41w : (IntKind.i64.wrap ((l0_0.length : Int) + 1)) = ji41 := (i64_w _).trans hji41
      replace H := iS H
      obtain ⟨c42, H⟩ := H
      have c42b0 := eq_true c42
      have c42b1 := decide_eq_true c42
      clear c42
      replace H := iS H
      obtain ⟨c43, H⟩ := H
      have c43b0 := eq_true c43
      have c43b1 := decide_eq_true c43
      clear c43
      obtain ⟨y304, hy304⟩ := nE ((List.replicate (ji41 : Int).toNat 0) : List Int)
      try rw [← hy304] at H
      try with_reducible replace H := (Option.bind_some _ _).symm.trans H
      try dsimp only at H
      have Ny304 := aM hy304
      clear hy304
      replace H := iS H
      obtain ⟨c44, H⟩ := H
      have c44b0 := decide_eq_true c44
      have c44b1 : decide (0 ≤ l0_0.length) = true := decide_eq_true (by omega)
      clear c44
      replace H := iS H
      obtain ⟨c45, H⟩ := H
      have c45b0 := decide_eq_true c45
      have c45b1 : decide (l0_0.length < y304.length) = true := decide_eq_true (Int.ofNat_lt.mp c45)
      clear c45
      obtain ⟨y307, hy307⟩ := nE ((y304.set ((l0_0.length : Int) : Int).toNat 1) : List Int)
      try rw [← hy307] at H
      try with_reducible replace H := (Option.bind_some _ _).symm.trans H
      try dsimp only at H
      have Ny307 := aM hy307
      clear hy307
      replace H := iS H
      obtain ⟨c47, H⟩ := H
      have LMc47 := aM c47
      clear c47
      obtain ⟨y308, hy308⟩ := nE ((x304000_1 ++ [y307]) : List (List Int))
      try rw [← hy308] at H
      try with_reducible replace H := (Option.bind_some _ _).symm.trans H
      try dsimp only at H
      have Ny308 := aM hy308
      clear hy308
      have H' := aM H
      clear H
      go_wp2_with (first | ((with_reducible refine gate_dst (N := 70) rfl ?_); refine Kd.R_make (Kd.int .i64) _ 3 rfl (N := 70) rfl 24 _ _ rfl ji41 rfl rfl Tryz.underlying24 (.int .i64 0) 8 info3 rfl (by decide) (by omega) 0 (ok := fun _ => True) (okp := fun _ => True) rfl (fun _ hk => hk) trivial (odt) (Nat.le_trans (Nat.mul_le_mul_right _ (odt : ji41.toNat ≤ 35184372088832)) (by omega)) (Below.refl _ _) (Nat.le_refl _) ?_; intro v305 w48 ho49 hb hg_ hnew_; clear hg_ hnew_; (first | rw [← Ny304.out] at ho49 | (simp only [Int.reduceToNat] at ho49; rw [← Ny304.out] at ho49)); have _ := aM (Kd.S_elder' (sQ HO_304000) (Kd.R_base ho49) hb); have _ := aM (Kd.R_lower ho49 (below_size bq)); have _ := bK BK291 hb; have _ := bK BK292 hb; have _ := bK BK303 hb; have _ := bB hb; clear HO_304000 BK291 BK292 BK303 HB; rename_i HO_304000 HO306 BK291 BK292 BK303 HB; clear hb ho49; have p46 : 0 ≤ ((l0_0.length : Int) : Int) := odt; have q46 : ((l0_0.length : Int) : Int) < ((y304.length : Int) : Int) := odt; obtain ⟨go46, co46, eo46, gb46, gl46, cl46, HG46⟩ := Kd.R_form HO306.out (by omega); (first | cases eo46 | (injection eo46 with ea_ en_ ec_; (first | subst ea_ | (injection ea_ with ea_; subst ea_)); subst ec_; clear en_)); have GB46 := aM gb46; have GG46 := aM HG46; clear gb46 gl46 HG46; obtain ⟨hx46_0, hf46_0⟩ := Kd.R_celln 0 HO306.out ((l0_0.length : Int) : Int) p46 q46; replace p46 := eq_true p46; replace q46 := eq_true q46; obtain ⟨hy50_, hz50_⟩ := Kd.R_celln 0 HO306.out ((l0_0.length : Int) : Int) (odt) (odt); (try simp only [Go.IntWalk.toNatUp] at hy50_ hz50_); have HP50 := Kd.R_putg HO306.out ((l0_0.length : Int) : Int) 1) | ((with_reducible refine gate_store (t := 3) (p := 73) rfl ?_); refine sE (w48.setCell ⟨go46, ((l0_0.length : Int) : Int).toNat, none⟩ (.int .i64 1)) 3 73 ?_; intro w51 hw; have hg : w48.grownBy w51 (some go46) := (by rw [hw]; exact HP50.2); have hp_ : Kd.R (Kd.int .i64) 3 w51 w.heap.size (fun _ => True) (.slice (some ⟨go46, 0, none⟩) y304.length co46) y307 := (by rw [hw, Ny307.out]; exact HP50.1); clear HP50; have _ := aM (Kd.S_after (v := (.slice (some ⟨go46, 0, none⟩) y304.length co46)) (v1 := (.slice (some ⟨go46, 0, none⟩) y304.length co46)) (ok := (fun _ => True)) (sQ HO_304000) hg (.inl rfl)); have _ := aM (blk_grown (g := gb291) (o := .cells #[.slice A0_0 l0_0.length c0_0] 30 (0, 0)) (qQ BK291) hg (Kd.R_ne HO306.out BK291.out (by decide))); have _ := aM (blk_grown (g := gb292) (o := .cells #[.slice none 0 0] 30 (0, 0)) (qQ BK292) hg (Kd.R_ne HO306.out BK292.out (by decide))); have _ := aM (blk_grown (g := gb303) (o := .cells #[u304000] 30 (0, 0)) (qQ BK303) hg (Kd.R_ne HO306.out BK303.out (by decide))); have _ := aM (hp_); have _ := aM ((by rw [hw]; exact below_set (HB.out) GB46.out : Below w.heap.size w w51)); clear HO_304000 BK291 BK292 BK303 HO306 HB; rename_i HO_304000 BK291 BK292 BK303 HO306 HB; clear hg hw hp_; have hnb52 := NB303_291.out; have hnc52 := NB291_303.out; have hnb53 := NB303_292.out; have hnc53 := NB292_303.out; have hcz54_0 := zc10 BK303; have hfz54_0 := blk_frozen BK303.out 0) | ((with_reducible refine gate_builtin (b := .append) (xs := #[.tmp 75, .tmp 77]) rfl ?_); at_builtin; refine Kd.S_append (Kd.slice 3 (Kd.int .i64)) (w0 := w) w.heap.size rfl (.tmp 75) (.tmp 77) 28 24 (.slice none 0 0) 24 rfl Tryz.underlying28 info24 rfl (by decide) (by omega) u304000 x304000_1 y307 [.slice (some ⟨go46, 0, none⟩) y304.length co46] (fun _ => True) (fun k_ => some k_ = (.slice (some ⟨go46, 0, none⟩) y304.length co46 : Value).ownBlock) rfl rfl ?aP (fun k_ hk_ => ((Kd.R_mono (ok' := fun k_ => ((fun _ => True)) k_ ∧ some k_ ≠ (u304000 : Value).ownBlock) (Kd.R_apart' (HO306.out) (Kd.S_typed HO_304000.out) (by decide)) (fun k_ hk => ⟨trivial, hk.2⟩))).1 k_ hk_.symm) ?aF ?aO ?aB ?aS ?aL ?_; (case aP => exact Kd.M_row (Kd.R_mono (Kd.R_tight rfl (Kd.R_mono (ok' := fun k_ => ((fun _ => True)) k_ ∧ some k_ ≠ (u304000 : Value).ownBlock) (Kd.R_apart' (HO306.out) (Kd.S_typed HO_304000.out) (by decide)) (fun k_ hk => ⟨trivial, hk.2⟩))) (fun _ h_ => h_))); (case aB => exact bq); (case aF => exact (fun _ _ => trivial)); (case aO => exact (by (with_reducible repeat first|apply sA|apply sN|apply sD); exact Kd.S_mono HO_304000.out (fun k_ hk => ⟨trivial, fun e_ => hk.2 e_⟩))); (case aS => exact (below_size bq)); (case aL => have := LMc47.out; omega); intro v309 w55 ho hb hg hat; rw [← Ny308.out] at ho; have _ := aM (blk_grown (g := gb291) (o := .cells #[.slice A0_0 l0_0.length c0_0] 30 (0, 0)) (qQ BK291) hg (Kd.S_ne HO_304000.out BK291.out (by decide))); have _ := aM (blk_grown (g := gb292) (o := .cells #[.slice none 0 0] 30 (0, 0)) (qQ BK292) hg (Kd.S_ne HO_304000.out BK292.out (by decide))); have _ := aM (blk_grown (g := gb303) (o := .cells #[u304000] 30 (0, 0)) (qQ BK303) hg (Kd.S_ne HO_304000.out BK303.out (by decide))); have _ := aM (hb); have _ := aM (ho); clear BK291 BK292 BK303 HB HO_304000 HO306; rename_i BK291 BK292 BK303 HB HO310; clear ho hb hg hat; obtain ⟨Ao56, co56, eo56⟩ := Kd.S_slice HO310.out; subst eo56; have hcz57_0 := zc10 BK303; have hfz57_0 := blk_frozen BK303.out 0))
      go_roundg k1
      case measure => have := HK1.out; omega
      case rel => exact ⟨(wrap64 (x8_1 + 1)), (y308), (.slice Ao56 y308.length co56), eR, H', ⟨by have := HK1.out; omega⟩, ⟨by (with_reducible repeat first|apply sA|apply sN|apply sD); exact Kd.S_mono (Kd.S_far (p := ⟨gb303, 0, none⟩) (Kd.S_types HO310.out BK303.out (by decide)) (fun _ hk => hk.2) (.slice Ao56 y308.length co56)) (fun _ hk => trivial)⟩, ⟨by (with_reducible repeat first|apply qN|apply qD|apply qA); refine blk_far ?_ NB291_303.out _; (with_reducible repeat first|apply qN|apply qD|apply qA); exact BK291.out⟩, ⟨by (with_reducible repeat first|apply qN|apply qD|apply qA); refine blk_far ?_ NB292_303.out _; (with_reducible repeat first|apply qN|apply qD|apply qA); exact BK292.out⟩, ⟨by (with_reducible repeat first|apply qN|apply qD|apply qA); refine blk_put (cs := #[u304000]) ?_ 0 _ rfl; (with_reducible repeat first|apply qN|apply qD|apply qA); exact BK303.out⟩, ⟨bq⟩⟩
     ·rw [if_neg c40] at H
      have c40b0 : (x8_1 == a1) = false := beq_eq_false_iff_ne.mpr c40
      have c40b1 : (x8_1 != a1) = true := bne_iff_ne.mpr c40
      by_cases c58 : x8_1 > a1
      ·rw [if_pos c58] at H
       have c58b0 := decide_eq_true c58
       clear c58
       obtain ⟨ji59, hji59⟩ : ∃ j_ : Int, (wrap64 (x8_1 - 1)) = j_ := ⟨_, rfl⟩
       replace H : (if 0 ≤ (ji59) then (if (ji59) < (l0_0.length : Int) then ((Y32.f (rd_L3 l0_0 (ji59)) a1).bind fun t312 => (if x304000_1.length < 5864062014805 then (Y16.l0 k1 a1 (l0_0.length : Int) (wrap64 (x8_1 + 1)) l0_0 (x304000_1 ++ [t312])) else (none))) else (none)) else (none)) = some r := by first | (rw [hji59] at H; exact H) | (simp only [hji59] at H ⊢; exact H)
       have hji59w : (IntKind.i64.wrap (x8_1 - 1)) = ji59 := (i64_w _).trans hji59
       replace H := iD2 H
       obtain ⟨c60b0, c61b0, H⟩ := H
       replace H := bS H
       obtain ⟨t312, A62, H⟩ := H
       try dsimp only at H
       replace H := iS H
       obtain ⟨c63, H⟩ := H
       have LMc63 := aM c63
       clear c63
       obtain ⟨y315, hy315⟩ := nE ((x304000_1 ++ [t312]) : List (List Int))
       try rw [← hy315] at H
       try with_reducible replace H := (Option.bind_some _ _).symm.trans H
       try dsimp only at H
       have Ny315 := aM hy315
       clear hy315
       have H' := aM H
       clear H
       try go_wp2
       have n0_ := aM (Kd.S_drew HO_304000.out)
       have n1_ := aM (blk_drew BK291.out)
       have n2_ := aM (blk_drew BK292.out)
       have n3_ := aM (blk_drew BK303.out)
       have n4_ := aM (below_drew1 HB.out)
       clear HO_304000
       clear BK291
       clear BK292
       clear BK303
       clear HB
       have HO_304000 := n0_
       have BK291 := n1_
       have BK292 := n2_
       have BK303 := n3_
       have HB := n4_
       clear n0_ n1_ n2_ n3_ n4_
       have p311 : 0 ≤ ((ji59) : Int) := odt
       have q311 : (ji59) < (l0_0.length : Int) := odt
       obtain ⟨ad311, A311_0, c311_0, e311, hx311_0, hl311_0, hi311_0⟩ := at_L3 HR0_0.out (ji59) p311 q311
       have hw311_0 := hx311_0
       cases e311
       replace hx311_0 := (HB.out.cell (World.block_lt_of_cell? w _ hx311_0)).trans hx311_0
       have HR311_0 := aM hi311_0
       have HC311_0 := aM hl311_0
       clear hi311_0 hl311_0
       replace p311 := eq_true p311
       replace q311 := eq_true q311
       refine start_ (n := 14) (S := fun w' => w'.cell? ⟨gb303, 0, none⟩ = some (u304000) ∧ w'.cell? ⟨gb291, 0, none⟩ = some (.slice (some ad311) l0_0.length c0_0) ∧ w'.cell? (ad311.add ((ji59)).toNat) = some (.slice A311_0 (rd_L3 l0_0 (ji59)).length c311_0)) (ds := [13]) #[false, false, false, false, false, false, false, false, false, false, false, false, false, false] (by kernel_rfl) rfl rfl ⟨(blk_cell BK303.out 0).trans rfl, (blk_cell BK291.out 0).trans rfl, ((HB.out.cell (World.block_lt_of_cell? w _ hw311_0)).trans hw311_0)⟩ (fun hHeld => ?_); refine with_tabW Y16.tab20 Y16.bits20 (fun HT_ HW_ => ?_)
       generalize wr.drew = w64 at HO_304000 BK291 BK292 BK303 HB HR311_0 hx311_0 hHeld ⊢
       refine pA 0 84 (h := ?_)
       refine pA 2 86 (h := ?_)
       refine pA 4 88 (h := ?_)
       refine pA 5 89 (h := ?_)
       refine pA 8 92 (h := ?_)
       refine tA 1 85 hHeld (h := ?_)
       refine tA 3 87 hHeld (h := ?_)
       refine pA 6 90 (h := ?_)
       refine tA 7 91 hHeld (h := ?_)
       refine one_ (i := 9) (N := some 93) #[true, true, true, true, true, true, true, true, true, true, false, false, false, false] rfl rfl (one_of HT_.out (by kernel_rfl)) (by decide) (fun K hK => ?_)
       refine goes_ Tryz.func143 (by kernel_rfl) rfl #[.slice A311_0 (rd_L3 l0_0 (ji59)).length c311_0, .int .i64 a1] (by rfl) rfl rfl (by (try simp only [List.map_toArray, List.map_cons, List.map_nil]); first | done | (simp only [hji59]; rfl) | rfl | (simp only [List.length_drop, List.length_take]; rfl)) ?_
       with_reducible refine (Y32.calls _ _ (rd_L3 l0_0 (ji59)) a1 t312 _ ?side1 ?side2 A62.out).mono ?_
       (case side1 => exact cQ (Kd.C_below HR311_0.out HB.out))
       (case side2 => exact HC311_0.out)
       rintro e w65 ⟨v313, rfl, ho0, hb⟩
       refine ⟨_, rfl, ?_⟩
       have n0_ := aM (Kd.S_elder' (sQ HO_304000) (Kd.R_base ho0) hb)
       have n1_ := aM (Kd.R_lower ho0 (below_size bq))
       have n2_ := aM (blk_below (qQ BK291) hb)
       have n3_ := aM (blk_below (qQ BK292) hb)
       have n4_ := aM (blk_below (qQ BK303) hb)
       have n5_ := aM (below_step bq hb)
       clear HO_304000
       clear BK291
       clear BK292
       clear BK303
       clear HB
       have HO_304000 := n0_
       have HO314 := n1_
       have BK291 := n2_
       have BK292 := n3_
       have BK303 := n4_
       have HB := n5_
       clear n0_ n1_ n2_ n3_ n4_ n5_
       (try clear hb)
       (try clear hb2)
       (try clear hk)
       (try clear hi)
       (try clear ho0)
       obtain ⟨Ao67, co67, eo67⟩ := Kd.R_slice HO314.out
       (first | subst eo67 | (injection eo67 with f1_ f2_ f3_; have f4_ := f1_.symm; have f5_ := f3_.symm; clear f1_ f2_ f3_; subst f4_; subst f5_))
       refine hK.out _ _ ⟨(blk_cell BK303.out 0).trans rfl, (blk_cell BK291.out 0).trans rfl, ((HB.out.cell (World.block_lt_of_cell? w _ hw311_0)).trans hw311_0)⟩ (fun hHeld => ?_)
       clear hK K
       refine nA 93 (h := ?_)
       refine one_ (i := 10) (N := some 94) #[true, true, true, true, true, true, true, true, true, true, true, false, false, false] rfl rfl (one_of HT_.out (by kernel_rfl)) (by decide) (fun K hK => ?_)
       refine value_ (w1 := ?_) (v := ?_) (by rfl) rfl ?_ ?_
       rotate_left 2
       ·go_simp
        constructor
        ·rfl
        ·rfl
       refine hK.out _ _ ⟨(blk_cell (blk_alloc BK303.out _) 0).trans rfl, (blk_cell (blk_alloc BK291.out _) 0).trans rfl, (World.cell?_alloc_lt _ _ _ (World.block_lt_of_cell? _ _ (((HB.out.cell (World.block_lt_of_cell? w _ hw311_0)).trans hw311_0)))).trans (((HB.out.cell (World.block_lt_of_cell? w _ hw311_0)).trans hw311_0))⟩ (fun hHeld => ?_)
       clear hK K
       refine nA 94 (h := ?_)
       refine one_ (i := 11) (N := some 95) #[true, true, true, true, true, true, true, true, true, true, true, true, false, false] rfl rfl (one_of HT_.out (by kernel_rfl)) (by decide) (fun K hK => ?_)
       refine Kd.S_append_step (Kd.slice 3 (Kd.int .i64)) (w0 := w) w.heap.size (by rfl) (.tmp 85) (.tmp 94) 28 24 (.slice none 0 0) 24 rfl Tryz.underlying28 info24 rfl (by decide) (by omega) u304000 x304000_1 t312 [.slice Ao67 t312.length co67] (fun _ => True) (fun k_ => some k_ = (.slice Ao67 t312.length co67 : Value).ownBlock) rfl rfl ?aP (fun k_ hk_ => ((Kd.R_mono (ok' := fun k_ => ((fun _ => True)) k_ ∧ some k_ ≠ (u304000 : Value).ownBlock) (Kd.R_apart' (HO314.out) (Kd.S_typed HO_304000.out) (by decide)) (fun k_ hk => ⟨trivial, hk.2⟩))).1 k_ hk_.symm) ?aF ?aO ?aB ?aS ?aL ?_
       (case aP => exact Kd.M_row (Kd.R_mono (Kd.R_tight rfl (Kd.R_mono (ok' := fun k_ => ((fun _ => True)) k_ ∧ some k_ ≠ (u304000 : Value).ownBlock) (Kd.R_apart' (HO314.out) (Kd.S_typed HO_304000.out) (by decide)) (fun k_ hk => ⟨trivial, hk.2⟩))) (fun _ h_ => h_)))
       (case aB => exact bq)
       (case aF => exact (fun _ _ => trivial))
       (case aO => exact (by (with_reducible repeat first|apply sA|apply sN|apply sD); exact Kd.S_mono HO_304000.out (fun k_ hk => ⟨trivial, fun e_ => hk.2 e_⟩)))
       (case aS => exact (below_size bq))
       (case aL => have := LMc63.out; omega)
       intro v316 w66 ho hb hg hat
       rw [← Ny315.out] at ho
       have n0_ := aM (blk_grown (g := gb291) (o := .cells #[.slice (some ad311) l0_0.length c0_0] 30 (0, 0)) (qQ BK291) hg (Kd.S_ne HO_304000.out BK291.out (by decide)))
       have n1_ := aM (blk_grown (g := gb292) (o := .cells #[.slice none 0 0] 30 (0, 0)) (qQ BK292) hg (Kd.S_ne HO_304000.out BK292.out (by decide)))
       have n2_ := aM (blk_grown (g := gb303) (o := .cells #[u304000] 30 (0, 0)) (qQ BK303) hg (Kd.S_ne HO_304000.out BK303.out (by decide)))
       have n3_ := aM (hb)
       have n4_ := aM (ho)
       clear BK291
       clear BK292
       clear BK303
       clear HB
       clear HO_304000
       clear HO314
       have BK291 := n0_
       have BK292 := n1_
       have BK303 := n2_
       have HB := n3_
       have HO317 := n4_
       clear n0_ n1_ n2_ n3_ n4_
       clear ho hb hg hat
       obtain ⟨Ao68, co68, eo68⟩ := Kd.S_slice HO317.out
       (first | subst eo68 | (injection eo68 with f1_ f2_ f3_; have f4_ := f1_.symm; have f5_ := f3_.symm; clear f1_ f2_ f3_; subst f4_; subst f5_))
       refine hK.out _ _ ⟨(blk_cell BK303.out 0).trans rfl, (blk_cell BK291.out 0).trans rfl, ((HB.out.cell (World.block_lt_of_cell? w _ hw311_0)).trans hw311_0)⟩ (fun hHeld => ?_)
       clear hK K
       refine nA 95 (h := ?_)
       refine pA 12 96 (h := ?_)
       refine last_ (i := 13) (N := none) #[true, true, true, true, true, true, true, true, true, true, true, true, true, true] rfl rfl (one_of HT_.out (by kernel_rfl)) (by decide) (fun K hK => ?_)
       have hs69 := zc10 BK303
       have hfs69 := blk_frozen BK303.out 0
       have hns69_0 := NB291_303.out
       have hns69_1 := NB292_303.out
       have hms69_0 := NB303_291.out
       have hms69_1 := NB303_292.out
       refine skip_ (w1 := ?_) (by rfl) rfl ?_ ?_
       rotate_left
       ·go_simp
        rfl
       refine hK.out _ _ ?_
       clear hK K
       refine done_ (done_of HT_.out (by kernel_rfl)) ?_
       try go_wp2
       go_roundg k1
       case measure => have := HK1.out; omega
       case rel => exact ⟨(wrap64 (x8_1 + 1)), (y315), (.slice Ao68 y315.length co68), eR, H', ⟨by have := HK1.out; omega⟩, ⟨by (with_reducible repeat first|apply sA|apply sN|apply sD); exact Kd.S_mono (Kd.S_far (p := ⟨gb303, 0, none⟩) (Kd.S_types HO317.out BK303.out (by decide)) (fun _ hk => hk.2) (.slice Ao68 y315.length co68)) (fun _ hk => trivial)⟩, ⟨by (with_reducible repeat first|apply qN|apply qD|apply qA); refine blk_far ?_ NB291_303.out _; (with_reducible repeat first|apply qN|apply qD|apply qA); exact BK291.out⟩, ⟨by (with_reducible repeat first|apply qN|apply qD|apply qA); refine blk_far ?_ NB292_303.out _; (with_reducible repeat first|apply qN|apply qD|apply qA); exact BK292.out⟩, ⟨by (with_reducible repeat first|apply qN|apply qD|apply qA); refine blk_put (cs := #[u304000]) ?_ 0 _ rfl; (with_reducible repeat first|apply qN|apply qD|apply qA); exact BK303.out⟩, ⟨bq⟩⟩
      ·rw [if_neg c58] at H
       have c58b0 := decide_eq_false c58
       clear c58
       replace H := iD2 H
       obtain ⟨c70b0, c71b0, H⟩ := H
       replace H := bS H
       obtain ⟨t319, A72, H⟩ := H
       try dsimp only at H
       by_cases c73 : a1 < (l0_0.length : Int)
       ·rw [if_pos c73] at H
        have c73b0 := decide_eq_true c73
        clear c73
        replace H := iS H
        obtain ⟨c74, H⟩ := H
        have c74b0 := decide_eq_true c74
        have c74b1 : decide (0 ≤ l0_0.length) = true := decide_eq_true (by omega)
        clear c74
        replace H := iS H
        obtain ⟨c75, H⟩ := H
        have c75b0 := decide_eq_true c75
        have c75b1 : decide (l0_0.length < t319.length) = true := decide_eq_true (Int.ofNat_lt.mp c75)
        clear c75
        replace H := iD2 H
        obtain ⟨c76b0, c77b0, H⟩ := H
        obtain ⟨y323, hy323⟩ := nE ((t319.set (a1 : Int).toNat (rd t319 (l0_0.length : Int))) : List Int)
        try rw [← hy323] at H
        try with_reducible replace H := (Option.bind_some _ _).symm.trans H
        try dsimp only at H
        have Ny323 := aM hy323
        clear hy323
        obtain ⟨y324, hy324⟩ := nE ((y323.set ((l0_0.length : Int) : Int).toNat 0) : List Int)
        try rw [← hy324] at H
        try with_reducible replace H := (Option.bind_some _ _).symm.trans H
        try dsimp only at H
        have Ny324 := aM hy324
        clear hy324
        replace H := iS H
        obtain ⟨c80, H⟩ := H
        have LMc80 := aM c80
        clear c80
        obtain ⟨y325, hy325⟩ := nE ((x304000_1 ++ [y324]) : List (List Int))
        try rw [← hy325] at H
        try with_reducible replace H := (Option.bind_some _ _).symm.trans H
        try dsimp only at H
        have Ny325 := aM hy325
        clear hy325
        have H' := aM H
        clear H
        have hnb81 := NB291_292.out
        have hnc81 := NB292_291.out
        have hnb82 := NB291_303.out
        have hnc82 := NB303_291.out
        have hcz83_0 := zc10 BK291
        have hfz83_0 := blk_frozen BK291.out 0
        have p318 : 0 ≤ (x8_1 : Int) := odt
        have q318 : x8_1 < (l0_0.length : Int) := odt
        obtain ⟨ad318, A318_0, c318_0, e318, hx318_0, hl318_0, hi318_0⟩ := at_L3 HR0_0.out x8_1 p318 q318
        cases e318
        replace hx318_0 := (HB.out.cell (World.block_lt_of_cell? w _ hx318_0)).trans hx318_0
        have HR318_0 := aM hi318_0
        have HC318_0 := aM hl318_0
        clear hi318_0 hl318_0
        replace p318 := eq_true p318
        replace q318 := eq_true q318
        go_wp2_with (first | ((with_reducible refine gate_callee (f := 143) rfl ?_); refine gL (some 44) Tryz.func143 #[.slice A318_0 (rd_L3 l0_0 x8_1).length c318_0, .int .i64 a1] ?_; (with_reducible refine (Y32.calls _ _ (rd_L3 l0_0 x8_1) a1 t319 _ (cQ (Kd.C_below HR318_0.out HB.out)) HC318_0.out A72.out).mono ?_); rintro e w84 ⟨v320, rfl, ho0, hb⟩; refine ⟨_, rfl, ?_⟩; have _ := aM (Kd.S_elder' (sQ HO_304000) (Kd.R_base ho0) hb); have _ := aM (Kd.R_lower ho0 (below_size bq)); have _ := bK BK291 hb; have _ := bK BK292 hb; have _ := bK BK303 hb; have _ := bB hb; clear HO_304000 BK291 BK292 BK303 HB; rename_i HO_304000 HO321 BK291 BK292 BK303 HB; (try clear hb); (try clear ho0); obtain ⟨Ao85, co85, eo85⟩ := Kd.R_slice HO321.out; subst eo85; have p322 : 0 ≤ ((l0_0.length : Int) : Int) := odt; have q322 : (l0_0.length : Int) < (t319.length : Int) := odt; obtain ⟨ad322, e322, hx322_0⟩ := Kd.at_int (Kd.R_reads' HO321.out).2.2 (l0_0.length : Int) p322 q322; cases e322; (try simp only [Go.IntWalk.toNatUp] at hx322_0); replace p322 := eq_true p322; replace q322 := eq_true q322; have p78 : 0 ≤ (a1 : Int) := odt; have q78 : (a1 : Int) < ((t319.length : Int) : Int) := odt; obtain ⟨go78, co78, eo78, gb78, gl78, cl78, HG78⟩ := Kd.R_form HO321.out (by omega); (first | cases eo78 | (injection eo78 with ea_ en_ ec_; (first | subst ea_ | (injection ea_ with ea_; subst ea_)); subst ec_; clear en_)); have GB78 := aM gb78; have GG78 := aM HG78; clear gb78 gl78 HG78; (first | simp only [add_plain] at hx322_0 | skip); obtain ⟨hx78_0, hf78_0⟩ := Kd.R_celln 0 HO321.out (a1 : Int) p78 q78; replace p78 := eq_true p78; replace q78 := eq_true q78; obtain ⟨hy86_, hz86_⟩ := Kd.R_celln 0 HO321.out (a1 : Int) (odt) (odt); have HP86 := Kd.R_putg HO321.out (a1 : Int) (rd t319 (l0_0.length : Int))) | ((with_reducible refine gate_store (t := 3) (p := 54) rfl ?_); refine sE (w84.setCell ⟨go78, (a1 : Int).toNat, none⟩ (.int .i64 (rd t319 (l0_0.length : Int)))) 3 54 ?_; intro w87 hw; have hg : w84.grownBy w87 (some go78) := (by rw [hw]; exact HP86.2); have hp_ : Kd.R (Kd.int .i64) 3 w87 w.heap.size (fun _ => True) (.slice (some ⟨go78, 0, none⟩) t319.length co85) y323 := (by rw [hw, Ny323.out]; exact HP86.1); clear HP86; have _ := aM (Kd.S_after (v := (.slice (some ⟨go78, 0, none⟩) t319.length co85)) (v1 := (.slice (some ⟨go78, 0, none⟩) t319.length co85)) (ok := (fun _ => True)) (sQ HO_304000) hg (.inl rfl)); have _ := aM (blk_grown (g := gb291) (o := .cells #[.slice (some ad318) l0_0.length c0_0] 30 (0, 0)) (qQ BK291) hg (Kd.R_ne HO321.out BK291.out (by decide))); have _ := aM (blk_grown (g := gb292) (o := .cells #[.slice none 0 0] 30 (0, 0)) (qQ BK292) hg (Kd.R_ne HO321.out BK292.out (by decide))); have _ := aM (blk_grown (g := gb303) (o := .cells #[u304000] 30 (0, 0)) (qQ BK303) hg (Kd.R_ne HO321.out BK303.out (by decide))); have _ := aM (hp_); have _ := aM ((by rw [hw]; exact below_set (HB.out) GB78.out : Below w.heap.size w w87)); clear HO_304000 BK291 BK292 BK303 HO321 HB; rename_i HO_304000 BK291 BK292 BK303 HO321 HB; clear hg hw hp_; have p79 : 0 ≤ ((l0_0.length : Int) : Int) := odt; have q79 : ((l0_0.length : Int) : Int) < ((t319.length : Int) : Int) := odt; obtain ⟨hx79_0, hf79_0⟩ := Kd.R_celln 0 HO321.out ((l0_0.length : Int) : Int) p79 q79; replace p79 := eq_true p79; replace q79 := eq_true q79; obtain ⟨hy88_, hz88_⟩ := Kd.R_celln 0 HO321.out ((l0_0.length : Int) : Int) (odt) (odt); (try simp only [Go.IntWalk.toNatUp] at hy88_ hz88_); have HP88 := Kd.R_putg HO321.out ((l0_0.length : Int) : Int) 0) | ((with_reducible refine gate_store (t := 3) (p := 57) rfl ?_); refine sE (w87.setCell ⟨go78, ((l0_0.length : Int) : Int).toNat, none⟩ (.int .i64 0)) 3 57 ?_; intro w89 hw; have hg : w87.grownBy w89 (some go78) := (by rw [hw]; exact HP88.2); have hp_ : Kd.R (Kd.int .i64) 3 w89 w.heap.size (fun _ => True) (.slice (some ⟨go78, 0, none⟩) t319.length co85) y324 := (by rw [hw, Ny324.out]; exact HP88.1); clear HP88; have _ := aM (Kd.S_after (v := (.slice (some ⟨go78, 0, none⟩) t319.length co85)) (v1 := (.slice (some ⟨go78, 0, none⟩) t319.length co85)) (ok := (fun _ => True)) (sQ HO_304000) hg (.inl rfl)); have _ := aM (blk_grown (g := gb291) (o := .cells #[.slice (some ad318) l0_0.length c0_0] 30 (0, 0)) (qQ BK291) hg (Kd.R_ne HO321.out BK291.out (by decide))); have _ := aM (blk_grown (g := gb292) (o := .cells #[.slice none 0 0] 30 (0, 0)) (qQ BK292) hg (Kd.R_ne HO321.out BK292.out (by decide))); have _ := aM (blk_grown (g := gb303) (o := .cells #[u304000] 30 (0, 0)) (qQ BK303) hg (Kd.R_ne HO321.out BK303.out (by decide))); have _ := aM (hp_); have _ := aM ((by rw [hw]; exact below_set (HB.out) GB78.out : Below w.heap.size w w89)); clear HO_304000 BK291 BK292 BK303 HO321 HB; rename_i HO_304000 BK291 BK292 BK303 HO321 HB; clear hg hw hp_; have hnb90 := NB303_292.out; have hnc90 := NB292_303.out; have hcz91_0 := zc10 BK303; have hfz91_0 := blk_frozen BK303.out 0) | ((with_reducible refine gate_builtin (b := .append) (xs := #[.tmp 59, .tmp 61]) rfl ?_); at_builtin; refine Kd.S_append (Kd.slice 3 (Kd.int .i64)) (w0 := w) w.heap.size rfl (.tmp 59) (.tmp 61) 28 24 (.slice none 0 0) 24 rfl Tryz.underlying28 info24 rfl (by decide) (by omega) u304000 x304000_1 y324 [.slice (some ⟨go78, 0, none⟩) t319.length co85] (fun _ => True) (fun k_ => some k_ = (.slice (some ⟨go78, 0, none⟩) t319.length co85 : Value).ownBlock) rfl rfl ?aP (fun k_ hk_ => ((Kd.R_mono (ok' := fun k_ => ((fun _ => True)) k_ ∧ some k_ ≠ (u304000 : Value).ownBlock) (Kd.R_apart' (HO321.out) (Kd.S_typed HO_304000.out) (by decide)) (fun k_ hk => ⟨trivial, hk.2⟩))).1 k_ hk_.symm) ?aF ?aO ?aB ?aS ?aL ?_; (case aP => exact Kd.M_row (Kd.R_mono (Kd.R_tight rfl (Kd.R_mono (ok' := fun k_ => ((fun _ => True)) k_ ∧ some k_ ≠ (u304000 : Value).ownBlock) (Kd.R_apart' (HO321.out) (Kd.S_typed HO_304000.out) (by decide)) (fun k_ hk => ⟨trivial, hk.2⟩))) (fun _ h_ => h_))); (case aB => exact bq); (case aF => exact (fun _ _ => trivial)); (case aO => exact (by (with_reducible repeat first|apply sA|apply sN|apply sD); exact Kd.S_mono HO_304000.out (fun k_ hk => ⟨trivial, fun e_ => hk.2 e_⟩))); (case aS => exact (below_size bq)); (case aL => have := LMc80.out; omega); intro v326 w92 ho hb hg hat; rw [← Ny325.out] at ho; have _ := aM (blk_grown (g := gb291) (o := .cells #[.slice (some ad318) l0_0.length c0_0] 30 (0, 0)) (qQ BK291) hg (Kd.S_ne HO_304000.out BK291.out (by decide))); have _ := aM (blk_grown (g := gb292) (o := .cells #[.slice none 0 0] 30 (0, 0)) (qQ BK292) hg (Kd.S_ne HO_304000.out BK292.out (by decide))); have _ := aM (blk_grown (g := gb303) (o := .cells #[u304000] 30 (0, 0)) (qQ BK303) hg (Kd.S_ne HO_304000.out BK303.out (by decide))); have _ := aM (hb); have _ := aM (ho); clear BK291 BK292 BK303 HB HO_304000 HO321; rename_i BK291 BK292 BK303 HB HO327; clear ho hb hg hat; obtain ⟨Ao93, co93, eo93⟩ := Kd.S_slice HO327.out; subst eo93; have hcz94_0 := zc10 BK303; have hfz94_0 := blk_frozen BK303.out 0))
        go_roundg k1
        case measure => have := HK1.out; omega
        case rel => exact ⟨(wrap64 (x8_1 + 1)), (y325), (.slice Ao93 y325.length co93), eR, H', ⟨by have := HK1.out; omega⟩, ⟨by (with_reducible repeat first|apply sA|apply sN|apply sD); exact Kd.S_mono (Kd.S_far (p := ⟨gb303, 0, none⟩) (Kd.S_types HO327.out BK303.out (by decide)) (fun _ hk => hk.2) (.slice Ao93 y325.length co93)) (fun _ hk => trivial)⟩, ⟨by (with_reducible repeat first|apply qN|apply qD|apply qA); refine blk_far ?_ NB291_303.out _; (with_reducible repeat first|apply qN|apply qD|apply qA); exact BK291.out⟩, ⟨by (with_reducible repeat first|apply qN|apply qD|apply qA); refine blk_far ?_ NB292_303.out _; (with_reducible repeat first|apply qN|apply qD|apply qA); exact BK292.out⟩, ⟨by (with_reducible repeat first|apply qN|apply qD|apply qA); refine blk_put (cs := #[u304000]) ?_ 0 _ rfl; (with_reducible repeat first|apply qN|apply qD|apply qA); exact BK303.out⟩, ⟨bq⟩⟩
       ·rw [if_neg c73] at H
        have c73b0 := decide_eq_false c73
        clear c73
        replace H := iS H
        obtain ⟨c95, H⟩ := H
        have LMc95 := aM c95
        clear c95
        obtain ⟨y328, hy328⟩ := nE ((x304000_1 ++ [t319]) : List (List Int))
        try rw [← hy328] at H
        try with_reducible replace H := (Option.bind_some _ _).symm.trans H
        try dsimp only at H
        have Ny328 := aM hy328
        clear hy328
        have H' := aM H
        clear H
        have hnb96 := NB291_292.out
        have hnc96 := NB292_291.out
        have hnb97 := NB291_303.out
        have hnc97 := NB303_291.out
        have hcz98_0 := zc10 BK291
        have hfz98_0 := blk_frozen BK291.out 0
        have p318 : 0 ≤ (x8_1 : Int) := odt
        have q318 : x8_1 < (l0_0.length : Int) := odt
        obtain ⟨ad318, A318_0, c318_0, e318, hx318_0, hl318_0, hi318_0⟩ := at_L3 HR0_0.out x8_1 p318 q318
        cases e318
        replace hx318_0 := (HB.out.cell (World.block_lt_of_cell? w _ hx318_0)).trans hx318_0
        have HR318_0 := aM hi318_0
        have HC318_0 := aM hl318_0
        clear hi318_0 hl318_0
        replace p318 := eq_true p318
        replace q318 := eq_true q318
        go_wp2_with (first | ((with_reducible refine gate_callee (f := 143) rfl ?_); refine gL (some 44) Tryz.func143 #[.slice A318_0 (rd_L3 l0_0 x8_1).length c318_0, .int .i64 a1] ?_; (with_reducible refine (Y32.calls _ _ (rd_L3 l0_0 x8_1) a1 t319 _ (cQ (Kd.C_below HR318_0.out HB.out)) HC318_0.out A72.out).mono ?_); rintro e w99 ⟨v320, rfl, ho0, hb⟩; refine ⟨_, rfl, ?_⟩; have _ := aM (Kd.S_elder' (sQ HO_304000) (Kd.R_base ho0) hb); have _ := aM (Kd.R_lower ho0 (below_size bq)); have _ := bK BK291 hb; have _ := bK BK292 hb; have _ := bK BK303 hb; have _ := bB hb; clear HO_304000 BK291 BK292 BK303 HB; rename_i HO_304000 HO321 BK291 BK292 BK303 HB; (try clear hb); (try clear ho0); have hnb100 := NB303_292.out; have hnc100 := NB292_303.out; have hcz101_0 := zc10 BK303; have hfz101_0 := blk_frozen BK303.out 0; obtain ⟨Ao103, co103, eo103⟩ := Kd.R_slice HO321.out; subst eo103) | ((with_reducible refine gate_builtin (b := .append) (xs := #[.tmp 59, .tmp 61]) rfl ?_); at_builtin; refine Kd.S_append (Kd.slice 3 (Kd.int .i64)) (w0 := w) w.heap.size rfl (.tmp 59) (.tmp 61) 28 24 (.slice none 0 0) 24 rfl Tryz.underlying28 info24 rfl (by decide) (by omega) u304000 x304000_1 t319 [.slice Ao103 t319.length co103] (fun _ => True) (fun k_ => some k_ = (.slice Ao103 t319.length co103 : Value).ownBlock) rfl rfl ?aP (fun k_ hk_ => ((Kd.R_mono (ok' := fun k_ => ((fun _ => True)) k_ ∧ some k_ ≠ (u304000 : Value).ownBlock) (Kd.R_apart' (HO321.out) (Kd.S_typed HO_304000.out) (by decide)) (fun k_ hk => ⟨trivial, hk.2⟩))).1 k_ hk_.symm) ?aF ?aO ?aB ?aS ?aL ?_; (case aP => exact Kd.M_row (Kd.R_mono (Kd.R_tight rfl (Kd.R_mono (ok' := fun k_ => ((fun _ => True)) k_ ∧ some k_ ≠ (u304000 : Value).ownBlock) (Kd.R_apart' (HO321.out) (Kd.S_typed HO_304000.out) (by decide)) (fun k_ hk => ⟨trivial, hk.2⟩))) (fun _ h_ => h_))); (case aB => exact bq); (case aF => exact (fun _ _ => trivial)); (case aO => exact (by (with_reducible repeat first|apply sA|apply sN|apply sD); exact Kd.S_mono HO_304000.out (fun k_ hk => ⟨trivial, fun e_ => hk.2 e_⟩))); (case aS => exact (below_size bq)); (case aL => have := LMc95.out; omega); intro v329 w102 ho hb hg hat; rw [← Ny328.out] at ho; have _ := aM (blk_grown (g := gb291) (o := .cells #[.slice (some ad318) l0_0.length c0_0] 30 (0, 0)) (qQ BK291) hg (Kd.S_ne HO_304000.out BK291.out (by decide))); have _ := aM (blk_grown (g := gb292) (o := .cells #[.slice none 0 0] 30 (0, 0)) (qQ BK292) hg (Kd.S_ne HO_304000.out BK292.out (by decide))); have _ := aM (blk_grown (g := gb303) (o := .cells #[u304000] 30 (0, 0)) (qQ BK303) hg (Kd.S_ne HO_304000.out BK303.out (by decide))); have _ := aM (hb); have _ := aM (ho); clear BK291 BK292 BK303 HB HO_304000 HO321; rename_i BK291 BK292 BK303 HB HO330; clear ho hb hg hat; obtain ⟨Ao104, co104, eo104⟩ := Kd.S_slice HO330.out; subst eo104; have hcz105_0 := zc10 BK303; have hfz105_0 := blk_frozen BK303.out 0))
        go_roundg k1
        case measure => have := HK1.out; omega
        case rel => exact ⟨(wrap64 (x8_1 + 1)), (y328), (.slice Ao104 y328.length co104), eR, H', ⟨by have := HK1.out; omega⟩, ⟨by (with_reducible repeat first|apply sA|apply sN|apply sD); exact Kd.S_mono (Kd.S_far (p := ⟨gb303, 0, none⟩) (Kd.S_types HO330.out BK303.out (by decide)) (fun _ hk => hk.2) (.slice Ao104 y328.length co104)) (fun _ hk => trivial)⟩, ⟨by (with_reducible repeat first|apply qN|apply qD|apply qA); refine blk_far ?_ NB291_303.out _; (with_reducible repeat first|apply qN|apply qD|apply qA); exact BK291.out⟩, ⟨by (with_reducible repeat first|apply qN|apply qD|apply qA); refine blk_far ?_ NB292_303.out _; (with_reducible repeat first|apply qN|apply qD|apply qA); exact BK292.out⟩, ⟨by (with_reducible repeat first|apply qN|apply qD|apply qA); refine blk_put (cs := #[u304000]) ?_ 0 _ rfl; (with_reducible repeat first|apply qN|apply qD|apply qA); exact BK303.out⟩, ⟨bq⟩⟩
    ·rw [if_neg c39] at H
     have c39b0 := decide_eq_false c39
     clear c39
     obtain rfl := Option.some.inj H
     have hnb106 := NB303_291.out
     have hnc106 := NB291_303.out
     have hnb107 := NB303_292.out
     have hnc107 := NB292_303.out
     have hcz108_0 := zc10 BK303
     have hfz108_0 := blk_frozen BK303.out 0
     obtain ⟨Ao109, co109, eo109⟩ := Kd.S_slice HO_304000.out
     subst eo109
     have hnb110 := NB292_291.out
     have hnc110 := NB291_292.out
     have hcz111_0 := zc10 BK292
     have hfz111_0 := blk_frozen BK292.out 0
     go_wp2
     refine bodyPost_ret (results_cell_row rfl _ _ gb292 30 #[.slice Ao109 x304000_1.length co109] (0, 0) _ rfl (by (with_reducible repeat first|apply qN|apply qD|apply qA); refine blk_put (cs := #[.slice none 0 0]) ?_ 0 _ rfl; (with_reducible repeat first|apply qN|apply qD|apply qA); exact BK292.out) Tryz.underlying30 rfl (by kernel_rfl)) rfl ?_
     exact ⟨_, eE, by (with_reducible repeat first|apply sA|apply sN|apply sD); exact Kd.S_mono (Kd.S_far (p := ⟨gb292, 0, none⟩) (Kd.S_types HO_304000.out BK292.out (by decide)) (fun _ hk => hk.2) (.slice Ao109 x304000_1.length co109)) (fun _ hk => trivial), bq⟩
end Go.Proofs.YtcodionjhcmfhaaGreatDoor.Oa
