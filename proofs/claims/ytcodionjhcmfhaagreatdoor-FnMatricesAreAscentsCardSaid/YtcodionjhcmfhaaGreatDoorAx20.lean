-- Written by hook.py, a program of this session (wip/), which runs the kit's print.py with its own parts; Lean checks it.
import Derived.Test.YtcodionjhcmfhaaGreatDoorAx0
import Derived.Test.YtcodionjhcmfhaaGreatDoorAx10
import Derived.Test.YtcodionjhcmfhaaGreatDoorAx11
import Derived.Test.YtcodionjhcmfhaaGreatDoorAx16
import Derived.Test.YtcodionjhcmfhaaGreatDoorAx19
import Derived.Test.YtcodionjhcmfhaaGreatDoorAxXSq
namespace Go.Proofs.YtcodionjhcmfhaaGreatDoor.Ax
open Go.RowKit Go.Proofs.YtcodionjhcmfhaaGreatDoorW.PrintWords Go.Proofs.YtcodionjhcmfhaaGreatDoorW.PrintLast Go.Proofs.YtcodionjhcmfhaaGreatDoorW.PrintMore Go.Proofs.YtcodionjhcmfhaaGreatDoor.Sq
attribute [local go_sem] max2_int min2_int max_two min_two max_three min_three max_four min_four   -- for this text's walks alone
set_option linter.unusedVariables false
set_option linter.unusedSimpArgs false

def spec_maShrink.l0 : Nat → Int → Int → List (List Int) → Int → Int → List (List Int) → Option ((List (List Int)) × Int)
 | 0, _, _, _, _, _, _ => none
 | k + 1, x4, x5, x40, x41, x42, x419000 => if x42 < x41 then (if 0 ≤ x42 then (if x42 < (x40.length : Int) then (if x42 = x5 then (spec_maShrink.l0 k x4 x5 x40 x41 (wrap64 (x42 + 1)) x419000) else ((spec_l1Own.f (rd_L2 x40 x42)).bind fun t420 => (if x42 < x5 then (if x5 < (wrap64 (x4 - 1)) then (if 0 ≤ x5 then (if x5 < (t420.length : Int) then (if 0 ≤ (wrap64 (x4 - 1)) then (if (wrap64 (x4 - 1)) < (t420.length : Int) then ((spec_maNarrow.f (t420.set ((wrap64 (x4 - 1)) : Int).toNat (rd t420 x5)) x5).bind fun t425 => (if x419000.length < 5864062014805 then (spec_maShrink.l0 k x4 x5 x40 x41 (wrap64 (x42 + 1)) (x419000 ++ [t425])) else (none))) else (none)) else (none)) else (none)) else (none)) else ((spec_maNarrow.f t420 x5).bind fun t431 => (if x419000.length < 5864062014805 then (spec_maShrink.l0 k x4 x5 x40 x41 (wrap64 (x42 + 1)) (x419000 ++ [t431])) else (none)))) else ((spec_maNarrow.f t420 x5).bind fun t437 => (if x419000.length < 5864062014805 then (spec_maShrink.l0 k x4 x5 x40 x41 (wrap64 (x42 + 1)) (x419000 ++ [t437])) else (none)))))) else (none)) else (none)) else (some (x419000, x5))
def spec_maShrink.f (k : Nat) (l0_0 : List (List Int)) : Option ((List (List Int)) × Int) := (spec_maTop.f k l0_0).bind fun t406 => (if 0 ≤ t406 then (if t406 < (l0_0.length : Int) then ((spec_maTotal.f k (rd_L2 l0_0 t406)).bind fun t408 => (if t408 > 1 then ((spec_maOwn.f k l0_0).bind fun t409 => (if t406 < (t409.length : Int) then (if 0 ≤ (wrap64 ((l0_0.length : Int) - 1)) then (if (wrap64 ((l0_0.length : Int) - 1)) < ((rd_L2 t409 t406).length : Int) then (some ((t409.set (t406 : Int).toNat ((rd_L2 t409 t406).set ((wrap64 ((l0_0.length : Int) - 1)) : Int).toNat (wrap64 ((rd (rd_L2 t409 t406) (wrap64 ((l0_0.length : Int) - 1))) - 1)))), t406)) else (none)) else (none)) else (none))) else (spec_maShrink.l0 k (l0_0.length : Int) t406 l0_0 (l0_0.length : Int) 0 ([] : List (List Int))))) else (none)) else (none))
def spec_maShrink.T15 : Bool × List (List Nat × List Nat) := (true, [([], []), ([0], [0]), ([], []), ([], []), ([2, 3], [2, 3]), ([4], [4]), ([1, 5, 4], [1, 5]), ([0, 1, 2, 3, 4, 5, 6], []), ([7, 6, 6, 0, 1, 2, 3, 4, 5, 6], [6, 7])])
def spec_maShrink.B15 : List Nat := [0, 1, 0, 0, 12, 28, 63, 127, 255]
theorem spec_maShrink.tab15 : rtab .any (opsOf Tryz.f94 15) = spec_maShrink.T15 := by kernel_rfl
theorem spec_maShrink.bits15 : waitsOk spec_maShrink.T15.2 spec_maShrink.B15 = true := by kernel_rfl
set_option maxHeartbeats 8000000 in
set_option maxRecDepth 100000 in
theorem spec_maShrink.calls (k : Nat) (A0_0 : Option Addr) (c0_0 : Nat) (l0_0 : List (List Int)) (r1 : List (List Int)) (r2 : Int) (w : World) (hr0_0 : Kd.C (Kd.slice 3 (Kd.int .i64)) w A0_0 l0_0.length l0_0) (hc0_0 : l0_0.length ≤ c0_0) (h : spec_maShrink.f k l0_0 = some (r1, r2)) :
  Calls Tryz.prog 94 #[.agg #[.slice A0_0 l0_0.length c0_0]] w fun e w' => ∃ v0_ : Value, e = .returned (.tuple #[.agg #[v0_], .int .i64 r2]) ∧ Kd.S (Kd.slice 3 (Kd.int .i64)) 24 w' w.heap.size (fun _ => True) v0_ r1 ∧ Below w.heap.size w w' := by
 have hu30 := Tryz.underlying30
 have HR0_0 := aM hr0_0
 have HC0_0 := aM hc0_0
 clear hr0_0 hc0_0
 have HB := aM (Below.refl w.heap.size w)
 have H : ((spec_maTop.f k l0_0).bind fun t406 => (if 0 ≤ t406 then (if t406 < (l0_0.length : Int) then ((spec_maTotal.f k (rd_L2 l0_0 t406)).bind fun t408 => (if t408 > 1 then ((spec_maOwn.f k l0_0).bind fun t409 => (if t406 < (t409.length : Int) then (if 0 ≤ (wrap64 ((l0_0.length : Int) - 1)) then (if (wrap64 ((l0_0.length : Int) - 1)) < ((rd_L2 t409 t406).length : Int) then (some ((t409.set (t406 : Int).toNat ((rd_L2 t409 t406).set ((wrap64 ((l0_0.length : Int) - 1)) : Int).toNat (wrap64 ((rd (rd_L2 t409 t406) (wrap64 ((l0_0.length : Int) - 1))) - 1)))), t406)) else (none)) else (none)) else (none))) else (spec_maShrink.l0 k (l0_0.length : Int) t406 l0_0 (l0_0.length : Int) 0 ([] : List (List Int))))) else (none)) else (none))) = some (r1, r2) := h
 clear h
 replace H := bS H
 obtain ⟨t406, A2, H⟩ := H
 try dsimp only at H
 replace H := iD2 H
 obtain ⟨c3b0, c4b0, H⟩ := H
 replace H := bS H
 obtain ⟨t408, A5, H⟩ := H
 try dsimp only at H
 by_cases c6 : t408 > 1
 ·rw [if_pos c6] at H
  have c6b0 := decide_eq_true c6
  clear c6
  replace H := bS H
  obtain ⟨t409, A7, H⟩ := H
  try dsimp only at H
  replace H := iD H
  obtain ⟨c8b0, H⟩ := H
  obtain ⟨ji9, hji9⟩ : ∃ j_ : Int, (wrap64 ((l0_0.length : Int) - 1)) = j_ := ⟨_, rfl⟩
  replace H : (if 0 ≤ (ji9) then (if (ji9) < ((rd_L2 t409 t406).length : Int) then (some ((t409.set (t406 : Int).toNat ((rd_L2 t409 t406).set ((ji9) : Int).toNat (wrap64 ((rd (rd_L2 t409 t406) (ji9)) - 1)))), t406)) else (none)) else (none)) = some (r1, r2) := by first | (rw [hji9] at H; exact H) | (simp only [hji9] at H ⊢; exact H)
  (try rw [hji9] at A2)
  (try rw [hji9] at A5)
  (try rw [hji9] at A7)
  have hji9w : (IntKind.i64.wrap ((l0_0.length : Int) - 1)) = ji9 := (i64_w _).trans hji9
  replace H := iD2 H
  obtain ⟨c10b0, c11b0, H⟩ := H
  obtain ⟨y415, hy415⟩ : ∃ y_ : List Int, y_ = ((rd_L2 t409 t406).set ((ji9) : Int).toNat (wrap64 ((rd (rd_L2 t409 t406) (ji9)) - 1))) := ⟨_, rfl⟩
  replace H : (some ((t409.set (t406 : Int).toNat y415), t406)) = some (r1, r2) := by first | (rw [hy415]; with_reducible exact H) | (have H2_ := (Option.bind_some _ _).symm.trans H; rw [hy415]; with_reducible exact H2_) | (have H2_ := (Option.bind_some _ _).symm.trans H; with_reducible exact H2_) | with_reducible exact H | (rw [hy415]; exact H) | exact H
  have Ny415 := aM hy415
  clear hy415
  obtain ⟨y417, hy417⟩ : ∃ y_ : List (List Int), y_ = (t409.set (t406 : Int).toNat y415) := ⟨_, rfl⟩
  replace H : (some (y417, t406)) = some (r1, r2) := by first | (rw [hy417]; with_reducible exact H) | (have H2_ := (Option.bind_some _ _).symm.trans H; rw [hy417]; with_reducible exact H2_) | (have H2_ := (Option.bind_some _ _).symm.trans H; with_reducible exact H2_) | with_reducible exact H | (rw [hy417]; exact H) | exact H
  have Ny417 := aM hy417
  clear hy417
  simp only [Option.some.injEq, Prod.mk.injEq] at H
  obtain ⟨rfl, rfl⟩ := H
  go_enter Tryz.func94, Tryz.ntmps94
  go_wp2_with (first | ((with_reducible refine gate_dst (N := 1) rfl ?_); refine bE 1 30 #[.slice A0_0 l0_0.length c0_0] ?_; intro gb404 hg w13 hbox hb; have _ := aM (below_step bq hb); have _ := aM (hbox); have _ := aM ((gS hg)); have _ := aM ((gS hg)); clear HB; rename_i HB BK404 GW404 GE404; clear hb hbox hg) | ((with_reducible refine gate_dst (N := 2) rfl ?_); refine bE 2 30 #[.slice none 0 0] ?_; intro gb405 hg w14 hbox hb; have _ := aM (blk_below (qQ BK404) hb); have _ := aM (below_step bq hb); have _ := aM (hbox); have _ := aM ((gS hg)); have _ := aM ((gS hg)); have _ := aM ((by rw [hg]; exact Nat.ne_of_lt (blk_lt (g := gb404) (o := .cells #[.slice A0_0 l0_0.length c0_0] 30 (0, 0)) (qQ BK404)) : gb404 ≠ gb405)); have _ := aM ((by rw [hg]; exact Nat.ne_of_gt (blk_lt (g := gb404) (o := .cells #[.slice A0_0 l0_0.length c0_0] 30 (0, 0)) (qQ BK404)) : gb405 ≠ gb404)); clear BK404 HB; rename_i BK404 HB BK405 GW405 GE405 NB404_405 NB405_404; clear hb hbox hg; have hnb15 := NB404_405.out; have hnc15 := NB405_404.out; have hcz16_0 := c10 BK404; have hfz16_0 := blk_frozen BK404.out 0) | ((with_reducible refine gate_callee (f := 125) rfl ?_); refine gL (some 15) Tryz.func125 #[.agg #[.slice A0_0 l0_0.length c0_0]] ?_; (with_reducible refine (spec_maTop.calls k _ _ l0_0 t406 _ (cQ (Kd.C_below HR0_0.out HB.out)) HC0_0.out A2.out).mono ?_); rintro e w17 ⟨rfl, hb⟩; refine ⟨_, rfl, ?_⟩; have _ := aM (blk_below (qQ BK404) hb); have _ := aM (blk_below (qQ BK405) hb); have _ := aM (below_step bq hb); clear BK404 BK405 HB; rename_i BK404 BK405 HB; (try clear hb); (try clear hb2); (try clear hk); (try clear hi); have hcz18_0 := c10 BK404; have hfz18_0 := blk_frozen BK404.out 0; have p407 : 0 ≤ (t406 : Int) := odt; have q407 : t406 < (l0_0.length : Int) := odt; obtain ⟨ad407, A407_0, c407_0, e407, hx407_0, hl407_0, hi407_0⟩ := at_L2 HR0_0.out t406 p407 q407; cases e407; replace hx407_0 := (HB.out.cell (World.block_lt_of_cell? w _ hx407_0)).trans hx407_0; have HR407_0 := aM hi407_0; have HC407_0 := aM hl407_0; clear hi407_0 hl407_0; replace p407 := eq_true p407; replace q407 := eq_true q407) | ((with_reducible refine gate_callee (f := 88) rfl ?_); refine gL (some 21) Tryz.func88 #[.slice A407_0 (rd_L2 l0_0 t406).length c407_0] ?_; (with_reducible refine (spec_maTotal.calls k _ _ (rd_L2 l0_0 t406) t408 _ (cQ (Kd.C_below HR407_0.out HB.out)) HC407_0.out A5.out).mono ?_); rintro e w' ⟨rfl, ⟨nd, rfl⟩⟩; refine ⟨_, rfl, ?_⟩; (try (rw [drewN_self w17]; generalize hq_ : World.drewN w17 _ = w17; have _ : Aside0 (w17.heap[gb404]? = some (.cells #[.slice (some ad407) l0_0.length c0_0] 30 (0, 0))) := ⟨by rw [← hq_]; exact (qQ BK404)⟩; have _ : Aside0 (w17.heap[gb405]? = some (.cells #[.slice none 0 0] 30 (0, 0))) := ⟨by rw [← hq_]; exact (qQ BK405)⟩; have _ : Aside0 (Below w.heap.size w w17) := ⟨by rw [← hq_]; exact bq⟩; clear BK404 BK405 HB hq_; rename_i BK404 BK405 HB; have hcq_404 : World.cell? w17 ⟨gb404, 0, none⟩ = some (.slice (some ad407) l0_0.length c0_0) := (blk_cell BK404.out 0).trans rfl; have hfq_404 := blk_frozen BK404.out 0; have hcq_405 : World.cell? w17 ⟨gb405, 0, none⟩ = some (.slice none 0 0) := (blk_cell BK405.out 0).trans rfl; have hfq_405 := blk_frozen BK405.out 0))) | ((with_reducible refine gate_callee (f := 126) rfl ?_); refine gL (some 24) Tryz.func126 #[.agg #[.slice (some ad407) l0_0.length c0_0]] ?_; (with_reducible refine (spec_maOwn.calls k _ _ l0_0 t409 _ (cQ (Kd.C_below HR0_0.out HB.out)) HC0_0.out A7.out).mono ?_); rintro e w19 ⟨v410, rfl, ho0, hb⟩; refine ⟨_, rfl, ?_⟩; have _ := aM (Kd.S_lower ho0 (below_size bq)); have _ := aM (blk_below (qQ BK404) hb); have _ := aM (blk_below (qQ BK405) hb); have _ := aM (below_step bq hb); clear BK404 BK405 HB; rename_i HO411 BK404 BK405 HB; (try clear hb); (try clear hb2); (try clear hk); (try clear hi); (try clear ho0)) | ((with_reducible refine gate_dst (N := 6) rfl ?_); refine bE 6 30 #[.slice none 0 0] ?_; intro gb412 hg w20 hbox hb; have _ := aM (Kd.S_below (sQ HO411) hb); have _ := aM (blk_below (qQ BK404) hb); have _ := aM (blk_below (qQ BK405) hb); have _ := aM (below_step bq hb); have _ := aM (hbox); have _ := aM ((gS hg)); have _ := aM ((gS hg)); have _ := aM ((by rw [hg]; exact Nat.ne_of_lt (blk_lt (g := gb404) (o := .cells #[.slice (some ad407) l0_0.length c0_0] 30 (0, 0)) (qQ BK404)) : gb404 ≠ gb412)); have _ := aM ((by rw [hg]; exact Nat.ne_of_gt (blk_lt (g := gb404) (o := .cells #[.slice (some ad407) l0_0.length c0_0] 30 (0, 0)) (qQ BK404)) : gb412 ≠ gb404)); have _ := aM ((by rw [hg]; exact Nat.ne_of_lt (blk_lt (g := gb405) (o := .cells #[.slice none 0 0] 30 (0, 0)) (qQ BK405)) : gb405 ≠ gb412)); have _ := aM ((by rw [hg]; exact Nat.ne_of_gt (blk_lt (g := gb405) (o := .cells #[.slice none 0 0] 30 (0, 0)) (qQ BK405)) : gb412 ≠ gb405)); clear HO411 BK404 BK405 HB; rename_i HO411 BK404 BK405 HB BK412 GW412 GE412 NB404_412 NB412_404 NB405_412 NB412_405; clear hb hbox hg; obtain ⟨Ao21, co21, eo21⟩ := Kd.S_slice HO411.out; subst eo21; have hnb22 := NB412_404.out; have hnc22 := NB404_412.out; have hnb23 := NB412_405.out; have hnc23 := NB405_412.out; have hcz24_0 := c10 BK412; have hfz24_0 := blk_frozen BK412.out 0) | ((with_reducible refine gate_store (t := 30) (p := 6) rfl ?_); refine sE (w20.setCell ⟨gb412, 0, none⟩ (.slice Ao21 t409.length co21)) 30 6 ?_; intro w25 hw; have _ : Aside0 (Kd.S (Kd.slice 3 (Kd.int .i64)) 24 w25 w.heap.size (fun _ => True) (.slice Ao21 t409.length co21) t409) := ⟨(by rw [hw]; exact (by (with_reducible repeat first|apply sA|apply sN|apply sD); exact Kd.S_mono (Kd.S_far (p := ⟨gb412, 0, none⟩) (Kd.S_types HO411.out BK412.out (by decide)) (fun _ hk => hk.2) (.slice Ao21 t409.length co21)) (fun _ hk => trivial)))⟩; have _ : Aside0 (w25.heap[gb404]? = some (.cells #[.slice (some ad407) l0_0.length c0_0] 30 (0, 0))) := ⟨(by rw [hw]; exact (by (with_reducible repeat first|apply qN|apply qD|apply qA); refine blk_far ?_ NB404_412.out _; (with_reducible repeat first|apply qN|apply qD|apply qA); exact BK404.out))⟩; have _ : Aside0 (w25.heap[gb405]? = some (.cells #[.slice none 0 0] 30 (0, 0))) := ⟨(by rw [hw]; exact (by (with_reducible repeat first|apply qN|apply qD|apply qA); refine blk_far ?_ NB405_412.out _; (with_reducible repeat first|apply qN|apply qD|apply qA); exact BK405.out))⟩; have _ : Aside0 (w25.heap[gb412]? = some (.cells #[.slice Ao21 t409.length co21] 30 (0, 0))) := ⟨(by rw [hw]; exact (by (with_reducible repeat first|apply qN|apply qD|apply qA); refine blk_put (cs := #[.slice none 0 0]) ?_ 0 _ rfl; (with_reducible repeat first|apply qN|apply qD|apply qA); exact BK412.out))⟩; have _ : Aside0 (Below w.heap.size w w25) := ⟨(by rw [hw]; exact bq)⟩; clear hw HO411 BK404 BK405 BK412 HB; rename_i HO411 BK404 BK405 BK412 HB; have hcz26_0 := c10 BK412; have hfz26_0 := blk_frozen BK412.out 0; have p413 : 0 ≤ (t406 : Int) := odt; have q413 : t406 < (t409.length : Int) := odt; obtain ⟨ad413, A413_0, c413_0, e413, hx413_0, hl413_0, hi413_0⟩ := at_L2 (Kd.S_reads' HO411.out).2.2 t406 p413 q413; cases e413; obtain ⟨ce413, hce413, hMe413, hcc413⟩ := Kd.S_get HO411.out [] t406 p413 (by first | exact q413 | exact odt | (have e_ := (Kd.S_reads' HO411.out).1; omega)); obtain ⟨ve413_0, rfl, ge413_0⟩ := hMe413; have hv413_0 := hcc413 0 _ rfl; rw [Nat.add_zero, show ((Kd.slice 3 (Kd.int .i64))).sz = 1 from rfl, Nat.mul_one] at hv413_0; replace hv413_0 := Option.some.inj (hv413_0.symm.trans hx413_0); rw [hv413_0] at ge413_0; have HL413_0 := aM (show Kd.R (Kd.int .i64) 3 _ _ _ _ (rd_L2 t409 t406) from ge413_0); clear hv413_0 ge413_0; have HX413_0 := aM hx413_0; clear hcc413 hce413; have HR413_0 := aM hi413_0; have HC413_0 := aM hl413_0; clear hi413_0 hl413_0; replace p413 := eq_true p413; replace q413 := eq_true q413; have p414 : 0 ≤ ((ji9) : Int) := odt; have q414 : (ji9) < ((rd_L2 t409 t406).length : Int) := odt; obtain ⟨ad414, e414, hx414_0⟩ := Kd.at_int (cQ HR413_0.out) (ji9) p414 q414; cases e414; replace p414 := eq_true p414; replace q414 := eq_true q414; have p12 : 0 ≤ ((ji9) : Int) := odt; have q12 : ((ji9) : Int) < (((rd_L2 t409 t406).length : Int) : Int) := odt; obtain ⟨go12, co12, eo12, gb12, gl12, cl12, HG12⟩ := Kd.R_form HL413_0.out (by omega); (first | cases eo12 | (injection eo12 with ea_ en_ ec_; (first | subst ea_ | (injection ea_ with ea_; subst ea_)); subst ec_; clear en_)); have GB12 := aM gb12; have GG12 := aM HG12; clear gb12 gl12 HG12; (first | simp only [add_plain] at hx414_0 | skip); obtain ⟨hx12_0, hf12_0⟩ := Kd.R_celln 0 HL413_0.out ((ji9) : Int) p12 q12; replace p12 := eq_true p12; replace q12 := eq_true q12; have hq27 : (t406 : Int) < (t409.length : Int) := (by have h_ : (t406 : Int) < ((t409.length : Int) : Int) := odt; first | exact h_ | (have e_ := (Kd.S_reads' HO411.out).1; omega) | simpa only [List.length_set, List.length_set] using h_); obtain ⟨oki27, ce27, hcl27, hM27, hcc27, hok27, hbk27⟩ := Kd.S_borrow HO411.out [] (t406 : Int) (odt) hq27; obtain ⟨ve27_0, rfl, ge27_0⟩ := hM27; have hv27 := hcc27 0 _ rfl; rw [Nat.add_zero, show ((Kd.slice 3 (Kd.int .i64))).sz = 1 from rfl, Nat.mul_one] at hv27; replace hv27 := Option.some.inj (hv27.symm.trans HX413_0.out); subst hv27; clear hcc27 hcl27; replace ge27_0 := (show Kd.R (Kd.int .i64) 3 _ _ _ _ (rd_L2 t409 t406) from ge27_0); have HP27 := Kd.R_putg ge27_0 ((ji9) : Int) (wrap64 ((rd (rd_L2 t409 t406) (ji9)) - 1))) | ((with_reducible refine gate_store (t := 3) (p := 35) rfl ?_); refine sE (w25.setCell ⟨go12, ((ji9) : Int).toNat, none⟩ (.int .i64 (wrap64 ((rd (rd_L2 t409 t406) (ji9)) - 1)))) 3 35 ?_; intro w28 hw; have hg : w25.grownBy w28 (some go12) := (by rw [hw]; exact HP27.2); have hz_ : Kd.R (Kd.int .i64) 3 w28 w.heap.size oki27 (.slice (some ⟨go12, 0, none⟩) (rd_L2 t409 t406).length c413_0) y415 := (by rw [hw, Ny415.out]; exact HP27.1); have hp_ : Kd.S (Kd.slice 3 (Kd.int .i64)) 24 w28 w.heap.size (fun _ => True) (.slice (some ad413) t409.length co21) y417 := (by rw [Ny417.out]; exact hbk27 hg (fun k_ e_ => by injection e_ with e_; subst e_; exact ge27_0.1 _ rfl) (Kd.M_row hz_)); have hm_ := Kd.R_mono hz_ hok27; clear HP27 hbk27; have _ := aM (blk_grown (g := gb404) (o := .cells #[.slice (some ad407) l0_0.length c0_0] 30 (0, 0)) (qQ BK404) hg (Kd.R_ne HL413_0.out BK404.out (by decide))); have _ := aM (blk_grown (g := gb405) (o := .cells #[.slice none 0 0] 30 (0, 0)) (qQ BK405) hg (Kd.R_ne HL413_0.out BK405.out (by decide))); have _ := aM (hp_); have _ := aM (blk_grown (g := gb412) (o := .cells #[.slice (some ad413) t409.length co21] 30 (0, 0)) (qQ BK412) hg (Kd.R_ne HL413_0.out BK412.out (by decide))); have _ := aM ((by rw [hw]; exact below_set (HB.out) GB12.out : Below w.heap.size w w28)); have _ := aM (hm_); have _ := aM ((Kd.R_reads' hm_).2.1); clear BK404 BK405 HO411 BK412 HB HL413_0; rename_i BK404 BK405 HO411 BK412 HB HL443 HC416; clear hg hw hp_ hz_ hm_ hok27; have hcz29_0 := c10 BK412; have hfz29_0 := blk_frozen BK412.out 0; have hcz30_0 := c10 BK405; have hfz30_0 := blk_frozen BK405.out 0))
  refine bodyPost_ret (results_ct rfl _ _ gb405 30 #[.slice (some ad413) t409.length co21] (0, 0) _ rfl (by (with_reducible repeat first|apply qN|apply qD|apply qA); refine blk_put (cs := #[.slice none 0 0]) ?_ 0 _ rfl; (with_reducible repeat first|apply qN|apply qD|apply qA); exact BK405.out) Tryz.underlying30 rfl (by kernel_rfl)) rfl ?_
  exact ⟨_, by first | rfl | (simp [errW_none, errW_some] <;> rfl) | (simp only [← hji9]; first | rfl | (simp [errW_none, errW_some] <;> rfl)) | (simp [*, errW_none, errW_some] <;> rfl), by (with_reducible repeat first|apply sA|apply sN|apply sD); exact Kd.S_mono (Kd.S_far (p := ⟨gb405, 0, none⟩) (Kd.S_types HO411.out BK405.out (by decide)) (fun _ hk => hk.2) (.slice (some ad413) t409.length co21)) (fun _ hk => trivial), bq⟩
 ·rw [if_neg c6] at H
  have c6b0 := decide_eq_false c6
  clear c6
  have H' := aM H
  clear H
  go_enter Tryz.func94, Tryz.ntmps94
  go_wp2_with (first | ((with_reducible refine gate_dst (N := 1) rfl ?_); refine bE 1 30 #[.slice A0_0 l0_0.length c0_0] ?_; intro gb404 hg w31 hbox hb; have _ := aM (below_step bq hb); have _ := aM (hbox); have _ := aM ((gS hg)); have _ := aM ((gS hg)); clear HB; rename_i HB BK404 GW404 GE404; clear hb hbox hg) | ((with_reducible refine gate_dst (N := 2) rfl ?_); refine bE 2 30 #[.slice none 0 0] ?_; intro gb405 hg w32 hbox hb; have _ := aM (blk_below (qQ BK404) hb); have _ := aM (below_step bq hb); have _ := aM (hbox); have _ := aM ((gS hg)); have _ := aM ((gS hg)); have _ := aM ((by rw [hg]; exact Nat.ne_of_lt (blk_lt (g := gb404) (o := .cells #[.slice A0_0 l0_0.length c0_0] 30 (0, 0)) (qQ BK404)) : gb404 ≠ gb405)); have _ := aM ((by rw [hg]; exact Nat.ne_of_gt (blk_lt (g := gb404) (o := .cells #[.slice A0_0 l0_0.length c0_0] 30 (0, 0)) (qQ BK404)) : gb405 ≠ gb404)); clear BK404 HB; rename_i BK404 HB BK405 GW405 GE405 NB404_405 NB405_404; clear hb hbox hg; have hnb33 := NB404_405.out; have hnc33 := NB405_404.out; have hcz34_0 := c10 BK404; have hfz34_0 := blk_frozen BK404.out 0) | ((with_reducible refine gate_callee (f := 125) rfl ?_); refine gL (some 15) Tryz.func125 #[.agg #[.slice A0_0 l0_0.length c0_0]] ?_; (with_reducible refine (spec_maTop.calls k _ _ l0_0 t406 _ (cQ (Kd.C_below HR0_0.out HB.out)) HC0_0.out A2.out).mono ?_); rintro e w35 ⟨rfl, hb⟩; refine ⟨_, rfl, ?_⟩; have _ := aM (blk_below (qQ BK404) hb); have _ := aM (blk_below (qQ BK405) hb); have _ := aM (below_step bq hb); clear BK404 BK405 HB; rename_i BK404 BK405 HB; (try clear hb); (try clear hb2); (try clear hk); (try clear hi); have hcz36_0 := c10 BK404; have hfz36_0 := blk_frozen BK404.out 0; have p407 : 0 ≤ (t406 : Int) := odt; have q407 : t406 < (l0_0.length : Int) := odt; obtain ⟨ad407, A407_0, c407_0, e407, hx407_0, hl407_0, hi407_0⟩ := at_L2 HR0_0.out t406 p407 q407; cases e407; replace hx407_0 := (HB.out.cell (World.block_lt_of_cell? w _ hx407_0)).trans hx407_0; have HR407_0 := aM hi407_0; have HC407_0 := aM hl407_0; clear hi407_0 hl407_0; replace p407 := eq_true p407; replace q407 := eq_true q407) | ((with_reducible refine gate_callee (f := 88) rfl ?_); refine gL (some 21) Tryz.func88 #[.slice A407_0 (rd_L2 l0_0 t406).length c407_0] ?_; (with_reducible refine (spec_maTotal.calls k _ _ (rd_L2 l0_0 t406) t408 _ (cQ (Kd.C_below HR407_0.out HB.out)) HC407_0.out A5.out).mono ?_); rintro e w' ⟨rfl, ⟨nd, rfl⟩⟩; refine ⟨_, rfl, ?_⟩; (try (rw [drewN_self w35]; generalize hq_ : World.drewN w35 _ = w35; have _ : Aside0 (w35.heap[gb404]? = some (.cells #[.slice (some ad407) l0_0.length c0_0] 30 (0, 0))) := ⟨by rw [← hq_]; exact (qQ BK404)⟩; have _ : Aside0 (w35.heap[gb405]? = some (.cells #[.slice none 0 0] 30 (0, 0))) := ⟨by rw [← hq_]; exact (qQ BK405)⟩; have _ : Aside0 (Below w.heap.size w w35) := ⟨by rw [← hq_]; exact bq⟩; clear BK404 BK405 HB hq_; rename_i BK404 BK405 HB; have hcq_404 : World.cell? w35 ⟨gb404, 0, none⟩ = some (.slice (some ad407) l0_0.length c0_0) := (blk_cell BK404.out 0).trans rfl; have hfq_404 := blk_frozen BK404.out 0; have hcq_405 : World.cell? w35 ⟨gb405, 0, none⟩ = some (.slice none 0 0) := (blk_cell BK405.out 0).trans rfl; have hfq_405 := blk_frozen BK405.out 0))) | ((with_reducible refine gate_dst (N := 7) rfl ?_); refine bE 7 30 #[.slice none 0 0] ?_; intro gb418 hg w37 hbox hb; have _ := aM (blk_below (qQ BK404) hb); have _ := aM (blk_below (qQ BK405) hb); have _ := aM (below_step bq hb); have _ := aM (hbox); have _ := aM ((gS hg)); have _ := aM ((gS hg)); have _ := aM ((by rw [hg]; exact Nat.ne_of_lt (blk_lt (g := gb404) (o := .cells #[.slice (some ad407) l0_0.length c0_0] 30 (0, 0)) (qQ BK404)) : gb404 ≠ gb418)); have _ := aM ((by rw [hg]; exact Nat.ne_of_gt (blk_lt (g := gb404) (o := .cells #[.slice (some ad407) l0_0.length c0_0] 30 (0, 0)) (qQ BK404)) : gb418 ≠ gb404)); have _ := aM ((by rw [hg]; exact Nat.ne_of_lt (blk_lt (g := gb405) (o := .cells #[.slice none 0 0] 30 (0, 0)) (qQ BK405)) : gb405 ≠ gb418)); have _ := aM ((by rw [hg]; exact Nat.ne_of_gt (blk_lt (g := gb405) (o := .cells #[.slice none 0 0] 30 (0, 0)) (qQ BK405)) : gb418 ≠ gb405)); clear BK404 BK405 HB; rename_i BK404 BK405 HB BK418 GW418 GE418 NB404_418 NB418_404 NB405_418 NB418_405; clear hb hbox hg; have hnb38 := NB418_404.out; have hnc38 := NB404_418.out; have hnb39 := NB418_405.out; have hnc39 := NB405_418.out; have hcz40_0 := c10 BK418; have hfz40_0 := blk_frozen BK418.out 0; have hcz41_0 := c10 BK404; have hfz41_0 := blk_frozen BK404.out 0))
  go_loopg [42] k (fun kq v42 w' => ∃ (x42_1 : Int) (x419000_1 : List (List Int)) (u419000 : Value), v42 = .int .i64 x42_1 ∧ Aside0 (spec_maShrink.l0 kq (l0_0.length : Int) t406 l0_0 (l0_0.length : Int) x42_1 x419000_1 = some (r1, r2)) ∧ Aside0 (kq ≤ k) ∧ Aside0 (Kd.S (Kd.slice 3 (Kd.int .i64)) 24 w' w.heap.size (fun _ => True) u419000 x419000_1) ∧ Aside0 (w'.heap[gb404]? = some (.cells #[(.slice (some ad407) l0_0.length c0_0)] 30 (0, 0))) ∧ Aside0 (w'.heap[gb405]? = some (.cells #[(.slice none 0 0)] 30 (0, 0))) ∧ Aside0 (w'.heap[gb418]? = some (.cells #[u419000] 30 (0, 0))) ∧ Aside0 (Below w.heap.size w w'))
  case atStart => exact ⟨(0), (([] : List (List Int))), (.slice none 0 0), eR, H', ⟨Nat.le_refl _⟩, ⟨by first | exact Kd.S_nil _ _ _ _ _ | exact Kd.N_nil _ _ _ _ _ | exact Kd.V_nil _ _ _ _ _ | exact Kd.Q_nil _ _ _ _ _ | exact Kd.R_nil _ _ _ _ _⟩, ⟨by (with_reducible repeat first|apply qN|apply qD|apply qA); refine blk_far ?_ NB404_418.out _; (with_reducible repeat first|apply qN|apply qD|apply qA); exact BK404.out⟩, ⟨by (with_reducible repeat first|apply qN|apply qD|apply qA); refine blk_far ?_ NB405_418.out _; (with_reducible repeat first|apply qN|apply qD|apply qA); exact BK405.out⟩, ⟨by (with_reducible repeat first|apply qN|apply qD|apply qA); refine blk_put (cs := #[.slice none 0 0]) ?_ 0 _ rfl; (with_reducible repeat first|apply qN|apply qD|apply qA); exact BK418.out⟩, ⟨bq⟩⟩
  case round =>
   clear H'
   try clear c1
   try clear p1
   try clear q1
   try clear hx1
   try clear hf1
   try clear c2
   try clear p2
   try clear q2
   try clear c3
   try clear c3b0
   try clear c4
   try clear c4b0
   try clear p4
   try clear q4
   try clear hx4
   try clear c6
   try clear c6b0
   try clear p6
   try clear c8
   try clear c8b0
   try clear c9
   try clear c10
   try clear c10b0
   try clear c11
   try clear c11b0
   try clear c12
   try clear p12
   try clear q12
   try clear hx12
   try clear hf12
   try clear c15
   try clear c22
   try clear c23
   try clear c27
   try clear q27
   try clear c33
   try clear c38
   try clear c39
   try clear c40
   try clear p40
   try clear q40
   try clear hx40
   try clear c41
   try clear p41
   try clear q41
   try clear hx41
   try clear hcz16_0
   try clear hcz18_0
   try clear hcz24_0
   try clear hcz26_0
   try clear hcz29_0
   try clear hcz30_0
   try clear hcz34_0
   try clear hcz36_0
   try clear hcz40_0
   try clear hcz41_0
   try clear hfz16_0
   try clear hfz18_0
   try clear hfz24_0
   try clear hfz26_0
   try clear hfz29_0
   try clear hfz30_0
   try clear hfz34_0
   try clear hfz36_0
   try clear hfz40_0
   try clear hfz41_0
   try clear hx12_0
   try clear hx407_0
   try clear hx413_0
   try clear hx414_0
   try clear p12
   try clear p407
   try clear p413
   try clear p414
   try clear q12
   try clear q407
   try clear q413
   try clear q414
   obtain ⟨x42_1, x419000_1, u419000, rfl, HA, HK1, HO_419000, BK404, BK405, BK418, HB⟩ := hrel
   cases gk with
   | zero => exact absurd HA.out (by simp [spec_maShrink.l0])
   | succ k1 =>
    have H := HA.out
    clear HA
    simp only [spec_maShrink.l0] at H
    by_cases c42 : x42_1 < (l0_0.length : Int)
    ·rw [if_pos c42] at H
     have c42b0 := decide_eq_true c42
     clear c42
     replace H := iD2 H
     obtain ⟨c43b0, c44b0, H⟩ := H
     by_cases c45 : x42_1 = t406
     ·rw [if_pos c45] at H
      have c45b0 : (x42_1 == t406) = true := beq_iff_eq.mpr c45
      have c45b1 : (x42_1 != t406) = false := bne_eq_false_iff_eq.mpr c45
      clear c45
      have H' := aM H
      clear H
      have p419 : 0 ≤ (x42_1 : Int) := odt
      have q419 : x42_1 < (l0_0.length : Int) := odt
      obtain ⟨ad419, A419_0, c419_0, e419, hx419_0, hl419_0, hi419_0⟩ := at_L2 HR0_0.out x42_1 p419 q419
      obtain rfl : ad407 = ad419 := (by injection e419)
      replace hx419_0 := (HB.out.cell (World.block_lt_of_cell? w _ hx419_0)).trans hx419_0
      have HR419_0 := aM hi419_0
      have HC419_0 := aM hl419_0
      clear hi419_0 hl419_0
      replace p419 := eq_true p419
      replace q419 := eq_true q419
      go_wp2
      go_roundg k1
      case measure => have := HK1.out; omega
      case rel => exact ⟨(wrap64 (x42_1 + 1)), (x419000_1), (u419000), eR, H', ⟨by have := HK1.out; omega⟩, ⟨by (with_reducible repeat first|apply sA|apply sN|apply sD); exact HO_419000.out⟩, ⟨qQ BK404⟩, ⟨qQ BK405⟩, ⟨qQ BK418⟩, ⟨bq⟩⟩
     ·rw [if_neg c45] at H
      have c45b0 : (x42_1 == t406) = false := beq_eq_false_iff_ne.mpr c45
      have c45b1 : (x42_1 != t406) = true := bne_iff_ne.mpr c45
      replace H := bS H
      obtain ⟨t420, A46, H⟩ := H
      try dsimp only at H
      by_cases c47 : x42_1 < t406
      ·rw [if_pos c47] at H
       have c47b0 := decide_eq_true c47
       clear c47
       by_cases c48 : t406 < (wrap64 ((l0_0.length : Int) - 1))
       ·rw [if_pos c48] at H
        have c48b0 := decide_eq_true c48
        clear c48
        replace H := iD2 H
        obtain ⟨c49b0, c50b0, H⟩ := H
        obtain ⟨ji51, hji51⟩ : ∃ j_ : Int, (wrap64 ((l0_0.length : Int) - 1)) = j_ := ⟨_, rfl⟩
        replace H : (if 0 ≤ (ji51) then (if (ji51) < (t420.length : Int) then ((spec_maNarrow.f (t420.set ((ji51) : Int).toNat (rd t420 t406)) t406).bind fun t425 => (if x419000_1.length < 5864062014805 then (spec_maShrink.l0 k1 (l0_0.length : Int) t406 l0_0 (l0_0.length : Int) (wrap64 (x42_1 + 1)) (x419000_1 ++ [t425])) else (none))) else (none)) else (none)) = some (r1, r2) := by first | (rw [hji51] at H; exact H) | (simp only [hji51] at H ⊢; exact H)
        (try rw [hji51] at c48b0)
        (try rw [hji51] at A46)
        have hji51w : (IntKind.i64.wrap ((l0_0.length : Int) - 1)) = ji51 := (i64_w _).trans hji51
        replace H := iD2 H
        obtain ⟨c52b0, c53b0, H⟩ := H
        obtain ⟨y424, hy424⟩ : ∃ y_ : List Int, y_ = (t420.set ((ji51) : Int).toNat (rd t420 t406)) := ⟨_, rfl⟩
        replace H : ((spec_maNarrow.f y424 t406).bind fun t425 => (if x419000_1.length < 5864062014805 then (spec_maShrink.l0 k1 (l0_0.length : Int) t406 l0_0 (l0_0.length : Int) (wrap64 (x42_1 + 1)) (x419000_1 ++ [t425])) else (none))) = some (r1, r2) := by first | (rw [hy424]; with_reducible exact H) | (have H2_ := (Option.bind_some _ _).symm.trans H; rw [hy424]; with_reducible exact H2_) | (have H2_ := (Option.bind_some _ _).symm.trans H; with_reducible exact H2_) | with_reducible exact H | (rw [hy424]; exact H) | exact H
        have Ny424 := aM hy424
        clear hy424
        replace H := bS H
        obtain ⟨t425, A55, H⟩ := H
        try dsimp only at H
        replace H := iS H
        obtain ⟨c56, H⟩ := H
        have LMc56 := aM c56
        clear c56
        obtain ⟨y428, hy428⟩ : ∃ y_ : List (List Int), y_ = (x419000_1 ++ [t425]) := ⟨_, rfl⟩
        replace H : (spec_maShrink.l0 k1 (l0_0.length : Int) t406 l0_0 (l0_0.length : Int) (wrap64 (x42_1 + 1)) y428) = some (r1, r2) := by first | (rw [hy428]; with_reducible exact H) | (have H2_ := (Option.bind_some _ _).symm.trans H; rw [hy428]; with_reducible exact H2_) | (have H2_ := (Option.bind_some _ _).symm.trans H; with_reducible exact H2_) | with_reducible exact H | (rw [hy428]; exact H) | exact H
        have Ny428 := aM hy428
        clear hy428
        have H' := aM H
        clear H
        have p419 : 0 ≤ (x42_1 : Int) := odt
        have q419 : x42_1 < (l0_0.length : Int) := odt
        obtain ⟨ad419, A419_0, c419_0, e419, hx419_0, hl419_0, hi419_0⟩ := at_L2 HR0_0.out x42_1 p419 q419
        obtain rfl : ad407 = ad419 := (by injection e419)
        replace hx419_0 := (HB.out.cell (World.block_lt_of_cell? w _ hx419_0)).trans hx419_0
        have HR419_0 := aM hi419_0
        have HC419_0 := aM hl419_0
        clear hi419_0 hl419_0
        replace p419 := eq_true p419
        replace q419 := eq_true q419
        try go_wp2_with (first | ((with_reducible refine gate_callee (f := 127) rfl ?_); refine gL (some 51) Tryz.func127 #[.slice A419_0 (rd_L2 l0_0 x42_1).length c419_0] ?_; (with_reducible refine (spec_l1Own.calls _ _ (rd_L2 l0_0 x42_1) t420 _ (cQ (Kd.C_below HR419_0.out HB.out)) HC419_0.out A46.out).mono ?_); rintro e w57 ⟨v421, rfl, ho0, hb⟩; refine ⟨_, rfl, ?_⟩; have _ := aM (Kd.S_elder' (sQ HO_419000) (Kd.R_base ho0) hb); have _ := aM (Kd.R_lower ho0 (below_size bq)); have _ := aM (blk_below (qQ BK404) hb); have _ := aM (blk_below (qQ BK405) hb); have _ := aM (blk_below (qQ BK418) hb); have _ := aM (below_step bq hb); clear HO_419000 BK404 BK405 BK418 HB; rename_i HO_419000 HO422 BK404 BK405 BK418 HB; (try clear hb); (try clear hb2); (try clear hk); (try clear hi); (try clear ho0); obtain ⟨Ao58, co58, eo58⟩ := Kd.R_slice HO422.out; subst eo58; have p423 : 0 ≤ (t406 : Int) := odt; have q423 : t406 < (t420.length : Int) := odt; obtain ⟨ad423, e423, hx423_0⟩ := Kd.at_int (Kd.R_reads' HO422.out).2.2 t406 p423 q423; cases e423; replace p423 := eq_true p423; replace q423 := eq_true q423; have p54 : 0 ≤ ((ji51) : Int) := odt; have q54 : ((ji51) : Int) < ((t420.length : Int) : Int) := odt; obtain ⟨go54, co54, eo54, gb54, gl54, cl54, HG54⟩ := Kd.R_form HO422.out (by omega); (first | cases eo54 | (injection eo54 with ea_ en_ ec_; (first | subst ea_ | (injection ea_ with ea_; subst ea_)); subst ec_; clear en_)); have GB54 := aM gb54; have GG54 := aM HG54; clear gb54 gl54 HG54; (first | simp only [add_plain] at hx423_0 | skip); obtain ⟨hx54_0, hf54_0⟩ := Kd.R_celln 0 HO422.out ((ji51) : Int) p54 q54; replace p54 := eq_true p54; replace q54 := eq_true q54; obtain ⟨hy59_, hz59_⟩ := Kd.R_celln 0 HO422.out ((ji51) : Int) (odt) (odt); have HP59 := Kd.R_putg HO422.out ((ji51) : Int) (rd t420 t406)) | ((with_reducible refine gate_store (t := 3) (p := 68) rfl ?_); refine sE (w57.setCell ⟨go54, ((ji51) : Int).toNat, none⟩ (.int .i64 (rd t420 t406))) 3 68 ?_; intro w60 hw; have hg : w57.grownBy w60 (some go54) := (by rw [hw]; exact HP59.2); have hp_ : Kd.R (Kd.int .i64) 3 w60 w.heap.size (fun _ => True) (.slice (some ⟨go54, 0, none⟩) t420.length co58) y424 := (by rw [hw, Ny424.out]; exact HP59.1); clear HP59; have _ := aM (Kd.S_after (v := (.slice (some ⟨go54, 0, none⟩) t420.length co58)) (v1 := (.slice (some ⟨go54, 0, none⟩) t420.length co58)) (ok := (fun _ => True)) (sQ HO_419000) hg (.inl rfl)); have _ := aM (blk_grown (g := gb404) (o := .cells #[.slice (some ad407) l0_0.length c0_0] 30 (0, 0)) (qQ BK404) hg (Kd.R_ne HO422.out BK404.out (by decide))); have _ := aM (blk_grown (g := gb405) (o := .cells #[.slice none 0 0] 30 (0, 0)) (qQ BK405) hg (Kd.R_ne HO422.out BK405.out (by decide))); have _ := aM (blk_grown (g := gb418) (o := .cells #[u419000] 30 (0, 0)) (qQ BK418) hg (Kd.R_ne HO422.out BK418.out (by decide))); have _ := aM (hp_); have _ := aM ((by rw [hw]; exact below_set (HB.out) GB54.out : Below w.heap.size w w60)); clear HO_419000 BK404 BK405 BK418 HO422 HB; rename_i HO_419000 BK404 BK405 BK418 HO422 HB; clear hg hw hp_))
        have n0_ := aM (Kd.S_drew HO_419000.out)
        have n1_ := aM (Kd.R_drew HO422.out)
        have n2_ := aM (blk_drew BK404.out)
        have n3_ := aM (blk_drew BK405.out)
        have n4_ := aM (blk_drew BK418.out)
        have n5_ := aM (below_drew1 HB.out)
        clear HO_419000
        clear HO422
        clear BK404
        clear BK405
        clear BK418
        clear HB
        have HO_419000 := n0_
        have HO422 := n1_
        have BK404 := n2_
        have BK405 := n3_
        have BK418 := n4_
        have HB := n5_
        clear n0_ n1_ n2_ n3_ n4_ n5_
        refine start_ (n := 9) (S := fun w' => w'.cell? ⟨gb418, 0, none⟩ = some (u419000)) (ds := [8]) #[false, false, false, false, false, false, false, false, false] (by kernel_rfl) rfl rfl ((blk_cell BK418.out 0).trans rfl) (fun hHeld => ?_); refine with_tabW spec_maShrink.tab15 spec_maShrink.bits15 (fun HT_ HW_ => ?_)
        generalize w60.drew = w61 at HO_419000 HO422 BK404 BK405 BK418 HB hHeld ⊢
        refine pure_ (i := 0) (N := some 69) (v := ?_) (a' := ?_) #[true, false, false, false, false, false, false, false, false] rfl rfl (any_of HT_.out (by kernel_rfl)) (fun _ _ _ h => h) (Or.inl ⟨by rfl, ?_⟩) ?_ ?_
        rotate_left
        ·intro w'
         go_simp
         with_reducible rfl
        rotate_left
        ·simp only [Act.put, List.setIfInBounds_toArray, List.set_cons_zero, List.set_cons_succ, i64_w, i32_w]
         rfl
        refine pure_ (i := 2) (N := some 71) (v := ?_) (a' := ?_) #[true, false, true, false, false, false, false, false, false] rfl rfl (any_of HT_.out (by kernel_rfl)) (fun _ _ _ h => h) (Or.inl ⟨by rfl, ?_⟩) ?_ ?_
        rotate_left
        ·intro w'
         go_simp
         with_reducible rfl
        rotate_left
        ·simp only [Act.put, List.setIfInBounds_toArray, List.set_cons_zero, List.set_cons_succ, i64_w, i32_w]
         rfl
        refine pure_ (i := 3) (N := some 72) (v := ?_) (a' := ?_) #[true, false, true, true, false, false, false, false, false] rfl rfl (any_of HT_.out (by kernel_rfl)) (fun _ _ _ h => h) (Or.inl ⟨by rfl, ?_⟩) ?_ ?_
        rotate_left
        ·intro w'
         go_simp
         with_reducible rfl
        rotate_left
        ·simp only [Act.put, List.setIfInBounds_toArray, List.set_cons_zero, List.set_cons_succ, i64_w, i32_w]
         rfl
        refine take_ (i := 1) (N := some 70) (v := ?_) (a' := ?_) #[true, true, true, true, false, false, false, false, false] rfl rfl (take_ofW HT_.out HW_.out (by kernel_rfl)) (fun _ _ _ h => h) (Or.inl ⟨by rfl, ?_⟩) hHeld ?_ ?_
        rotate_left
        ·intro w' s0
         go_simp
         with_reducible rfl
        rotate_left
        ·simp only [Act.put, List.setIfInBounds_toArray, List.set_cons_zero, List.set_cons_succ, i64_w, i32_w]
         rfl
        refine one_ (i := 4) (N := some 73) #[true, true, true, true, true, false, false, false, false] rfl rfl (one_of HT_.out (by kernel_rfl)) (by decide) (fun K hK => ?_)
        refine goes_ Tryz.func128 (by kernel_rfl) rfl #[.slice (some ⟨go54, 0, none⟩) y424.length co58, .int .i64 t406] (by rfl) rfl rfl (by (try simp only [List.map_toArray, List.map_cons, List.map_nil]); first | done | (rw [show y424.length = t420.length from (Kd.R_reads' HO422.out).1.symm] <;> rfl) | rfl | (simp only [List.length_drop, List.length_take]; rfl)) ?_
        with_reducible refine (spec_maNarrow.calls _ _ y424 t406 t425 _ ?side1 ?side2 A55.out).mono ?_
        (case side1 => repeat (first | exact (Kd.R_reads' HO422.out).2.2 | (with_reducible refine Kd.C_alloc ?_ _) | (with_reducible refine Kd.C_drewN ?_ _) | (with_reducible refine Kd.C_drew ?_)))
        (case side2 => rw [show y424.length = t420.length from (Kd.R_reads' HO422.out).1.symm]; exact (Kd.R_reads' HO422.out).2.1)
        rintro e w62 ⟨v426, rfl, ho0, hb⟩
        refine ⟨_, rfl, ?_⟩
        have n0_ := aM (Kd.S_elder' (sQ HO_419000) (Kd.R_base ho0) hb)
        have n1_ := aM (Kd.R_elder' (rQ HO422) (Kd.R_base ho0) hb)
        have n2_ := aM (Kd.R_lower (Kd.R_new' ho0 (Kd.R_lt (rQ HO422))) (below_size bq))
        have n3_ := aM (blk_below (qQ BK404) hb)
        have n4_ := aM (blk_below (qQ BK405) hb)
        have n5_ := aM (blk_below (qQ BK418) hb)
        have n6_ := aM (below_step bq hb)
        clear HO_419000
        clear HO422
        clear BK404
        clear BK405
        clear BK418
        clear HB
        have HO_419000 := n0_
        have HO422 := n1_
        have HO427 := n2_
        have BK404 := n3_
        have BK405 := n4_
        have BK418 := n5_
        have HB := n6_
        clear n0_ n1_ n2_ n3_ n4_ n5_ n6_
        (try clear hb)
        (try clear hb2)
        (try clear hk)
        (try clear hi)
        (try clear ho0)
        obtain ⟨Ao64, co64, eo64⟩ := Kd.R_slice HO427.out
        (first | subst eo64 | (injection eo64 with f1_ f2_ f3_; have f4_ := f1_.symm; have f5_ := f3_.symm; clear f1_ f2_ f3_; subst f4_; subst f5_))
        refine hK.out _ _ ((blk_cell BK418.out 0).trans rfl) (fun hHeld => ?_)
        clear hK K
        refine norm_ (a' := ?_) ?_ ?_
        rotate_left
        ·show Act.put _ (some 73) _ = _
         simp only [Act.put, List.setIfInBounds_toArray, List.set_cons_zero, List.set_cons_succ, i64_w, i32_w]
         rfl
        refine one_ (i := 5) (N := some 74) #[true, true, true, true, true, true, false, false, false] rfl rfl (one_of HT_.out (by kernel_rfl)) (by decide) (fun K hK => ?_)
        refine value_ (w1 := ?_) (v := ?_) (by rfl) rfl ?_ ?_
        rotate_left 2
        ·go_simp
         constructor
         ·rfl
         ·rfl
        refine hK.out _ _ ((blk_cell (blk_alloc BK418.out _) 0).trans rfl) (fun hHeld => ?_)
        clear hK K
        refine norm_ (a' := ?_) ?_ ?_
        rotate_left
        ·show Act.put _ (some 74) _ = _
         simp only [Act.put, List.setIfInBounds_toArray, List.set_cons_zero, List.set_cons_succ, i64_w, i32_w]
         rfl
        refine one_ (i := 6) (N := some 75) #[true, true, true, true, true, true, true, false, false] rfl rfl (one_of HT_.out (by kernel_rfl)) (by decide) (fun K hK => ?_)
        refine Kd.S_append_step (Kd.slice 3 (Kd.int .i64)) (w0 := w) w.heap.size (by rfl) (.tmp 70) (.tmp 74) 28 24 (.slice none 0 0) 24 rfl Tryz.underlying28 info24 rfl (by decide) (by omega) u419000 x419000_1 t425 [.slice Ao64 t425.length co64] (fun k_ => some k_ ≠ (.slice (some ⟨go54, 0, none⟩) t420.length co58 : Value).ownBlock) (fun k_ => some k_ = (.slice Ao64 t425.length co64 : Value).ownBlock) rfl rfl ?aP (fun k_ hk_ => ((Kd.R_mono (ok' := fun k_ => ((fun k_ => some k_ ≠ (.slice (some ⟨go54, 0, none⟩) t420.length co58 : Value).ownBlock)) k_ ∧ some k_ ≠ (u419000 : Value).ownBlock) (Kd.R_apart' (HO427.out) (Kd.S_typed HO_419000.out) (by decide)) (fun k_ hk => ⟨hk.1.2, hk.2⟩))).1 k_ hk_.symm) ?aF ?aO ?aB ?aS ?aL ?_
        (case aP => exact Kd.M_row (Kd.R_mono (Kd.R_tight rfl (Kd.R_mono (ok' := fun k_ => ((fun k_ => some k_ ≠ (.slice (some ⟨go54, 0, none⟩) t420.length co58 : Value).ownBlock)) k_ ∧ some k_ ≠ (u419000 : Value).ownBlock) (Kd.R_apart' (HO427.out) (Kd.S_typed HO_419000.out) (by decide)) (fun k_ hk => ⟨hk.1.2, hk.2⟩))) (fun _ h_ => h_)))
        (case aB => exact bq)
        (case aF => exact (fun k_ hk => Kd.fresh' (Kd.R_lt (rQ HO422)) k_ hk))
        (case aO => exact (by (with_reducible repeat first|apply sA|apply sN|apply sD); exact Kd.S_mono HO_419000.out (fun k_ hk => ⟨hk.1.2, fun e_ => hk.2 e_⟩)))
        (case aS => exact (below_size bq))
        (case aL => have := LMc56.out; omega)
        intro v429 w63 ho hb hg hat
        rw [← Ny428.out] at ho
        have n0_ := aM (blk_grown (g := gb404) (o := .cells #[.slice (some ad407) l0_0.length c0_0] 30 (0, 0)) (qQ BK404) hg (Kd.S_ne HO_419000.out BK404.out (by decide)))
        have n1_ := aM (blk_grown (g := gb405) (o := .cells #[.slice none 0 0] 30 (0, 0)) (qQ BK405) hg (Kd.S_ne HO_419000.out BK405.out (by decide)))
        have n2_ := aM (blk_grown (g := gb418) (o := .cells #[u419000] 30 (0, 0)) (qQ BK418) hg (Kd.S_ne HO_419000.out BK418.out (by decide)))
        have n3_ := aM (Kd.R_over' (rQ HO422) (Kd.S_typed (sQ HO_419000)) (by decide) hg)
        have n4_ := aM (hb)
        have n5_ := aM (ho)
        clear BK404
        clear BK405
        clear BK418
        clear HO422
        clear HB
        clear HO_419000
        clear HO427
        have BK404 := n0_
        have BK405 := n1_
        have BK418 := n2_
        have HO422 := n3_
        have HB := n4_
        have HO430 := n5_
        clear n0_ n1_ n2_ n3_ n4_ n5_
        clear ho hb hg hat
        obtain ⟨Ao65, co65, eo65⟩ := Kd.S_slice HO430.out
        (first | subst eo65 | (injection eo65 with f1_ f2_ f3_; have f4_ := f1_.symm; have f5_ := f3_.symm; clear f1_ f2_ f3_; subst f4_; subst f5_))
        refine hK.out _ _ ((blk_cell BK418.out 0).trans rfl) (fun hHeld => ?_)
        clear hK K
        refine norm_ (a' := ?_) ?_ ?_
        rotate_left
        ·show Act.put _ (some 75) _ = _
         simp only [Act.put, List.setIfInBounds_toArray, List.set_cons_zero, List.set_cons_succ, i64_w, i32_w]
         rfl
        refine pure_ (i := 7) (N := some 76) (v := ?_) (a' := ?_) #[true, true, true, true, true, true, true, true, false] rfl rfl (any_of HT_.out (by kernel_rfl)) (fun _ _ _ h => h) (Or.inl ⟨by rfl, ?_⟩) ?_ ?_
        rotate_left
        ·intro w'
         go_simp
         with_reducible rfl
        rotate_left
        ·simp only [Act.put, List.setIfInBounds_toArray, List.set_cons_zero, List.set_cons_succ, i64_w, i32_w]
         rfl
        refine last_ (i := 8) (N := none) #[true, true, true, true, true, true, true, true, true] rfl rfl (one_of HT_.out (by kernel_rfl)) (by decide) (fun K hK => ?_)
        have hs66 := c10 BK418
        have hfs66 := blk_frozen BK418.out 0
        have hns66_0 := NB404_418.out
        have hns66_1 := NB405_418.out
        have hms66_0 := NB418_404.out
        have hms66_1 := NB418_405.out
        refine skip_ (w1 := ?_) (by rfl) rfl ?_ ?_
        rotate_left
        ·go_simp
         rfl
        refine hK.out _ _ ?_
        clear hK K
        refine done_ (done_of HT_.out (by kernel_rfl)) ?_
        try go_wp2
        go_roundg k1
        case measure => have := HK1.out; omega
        case rel => exact ⟨(wrap64 (x42_1 + 1)), (y428), (.slice Ao65 y428.length co65), eR, H', ⟨by have := HK1.out; omega⟩, ⟨by (with_reducible repeat first|apply sA|apply sN|apply sD); exact Kd.S_mono (Kd.S_far (p := ⟨gb418, 0, none⟩) (Kd.S_types HO430.out BK418.out (by decide)) (fun _ hk => hk.2) (.slice Ao65 y428.length co65)) (fun _ hk => trivial)⟩, ⟨by (with_reducible repeat first|apply qN|apply qD|apply qA); refine blk_far ?_ NB404_418.out _; (with_reducible repeat first|apply qN|apply qD|apply qA); exact BK404.out⟩, ⟨by (with_reducible repeat first|apply qN|apply qD|apply qA); refine blk_far ?_ NB405_418.out _; (with_reducible repeat first|apply qN|apply qD|apply qA); exact BK405.out⟩, ⟨by (with_reducible repeat first|apply qN|apply qD|apply qA); refine blk_put (cs := #[u419000]) ?_ 0 _ rfl; (with_reducible repeat first|apply qN|apply qD|apply qA); exact BK418.out⟩, ⟨bq⟩⟩
       ·rw [if_neg c48] at H
        have c48b0 := decide_eq_false c48
        clear c48
        replace H := bS H
        obtain ⟨t431, A67, H⟩ := H
        try dsimp only at H
        replace H := iS H
        obtain ⟨c68, H⟩ := H
        have LMc68 := aM c68
        clear c68
        obtain ⟨y434, hy434⟩ : ∃ y_ : List (List Int), y_ = (x419000_1 ++ [t431]) := ⟨_, rfl⟩
        replace H : (spec_maShrink.l0 k1 (l0_0.length : Int) t406 l0_0 (l0_0.length : Int) (wrap64 (x42_1 + 1)) y434) = some (r1, r2) := by first | (rw [hy434]; with_reducible exact H) | (have H2_ := (Option.bind_some _ _).symm.trans H; rw [hy434]; with_reducible exact H2_) | (have H2_ := (Option.bind_some _ _).symm.trans H; with_reducible exact H2_) | with_reducible exact H | (rw [hy434]; exact H) | exact H
        have Ny434 := aM hy434
        clear hy434
        have H' := aM H
        clear H
        have p419 : 0 ≤ (x42_1 : Int) := odt
        have q419 : x42_1 < (l0_0.length : Int) := odt
        obtain ⟨ad419, A419_0, c419_0, e419, hx419_0, hl419_0, hi419_0⟩ := at_L2 HR0_0.out x42_1 p419 q419
        obtain rfl : ad407 = ad419 := (by injection e419)
        replace hx419_0 := (HB.out.cell (World.block_lt_of_cell? w _ hx419_0)).trans hx419_0
        have HR419_0 := aM hi419_0
        have HC419_0 := aM hl419_0
        clear hi419_0 hl419_0
        replace p419 := eq_true p419
        replace q419 := eq_true q419
        try go_wp2_with (first | ((with_reducible refine gate_callee (f := 127) rfl ?_); refine gL (some 51) Tryz.func127 #[.slice A419_0 (rd_L2 l0_0 x42_1).length c419_0] ?_; (with_reducible refine (spec_l1Own.calls _ _ (rd_L2 l0_0 x42_1) t420 _ (cQ (Kd.C_below HR419_0.out HB.out)) HC419_0.out A46.out).mono ?_); rintro e w69 ⟨v421, rfl, ho0, hb⟩; refine ⟨_, rfl, ?_⟩; have _ := aM (Kd.S_elder' (sQ HO_419000) (Kd.R_base ho0) hb); have _ := aM (Kd.R_lower ho0 (below_size bq)); have _ := aM (blk_below (qQ BK404) hb); have _ := aM (blk_below (qQ BK405) hb); have _ := aM (blk_below (qQ BK418) hb); have _ := aM (below_step bq hb); clear HO_419000 BK404 BK405 BK418 HB; rename_i HO_419000 HO422 BK404 BK405 BK418 HB; (try clear hb); (try clear hb2); (try clear hk); (try clear hi); (try clear ho0)))
        have n0_ := aM (Kd.S_drew HO_419000.out)
        have n1_ := aM (Kd.R_drew HO422.out)
        have n2_ := aM (blk_drew BK404.out)
        have n3_ := aM (blk_drew BK405.out)
        have n4_ := aM (blk_drew BK418.out)
        have n5_ := aM (below_drew1 HB.out)
        clear HO_419000
        clear HO422
        clear BK404
        clear BK405
        clear BK418
        clear HB
        have HO_419000 := n0_
        have HO422 := n1_
        have BK404 := n2_
        have BK405 := n3_
        have BK418 := n4_
        have HB := n5_
        clear n0_ n1_ n2_ n3_ n4_ n5_
        obtain ⟨Ao71, co71, eo71⟩ := Kd.R_slice HO422.out
        (first | subst eo71 | (injection eo71 with f1_ f2_ f3_; have f4_ := f1_.symm; have f5_ := f3_.symm; clear f1_ f2_ f3_; subst f4_; subst f5_))
        refine start_ (n := 9) (S := fun w' => w'.cell? ⟨gb418, 0, none⟩ = some (u419000)) (ds := [8]) #[false, false, false, false, false, false, false, false, false] (by kernel_rfl) rfl rfl ((blk_cell BK418.out 0).trans rfl) (fun hHeld => ?_); refine with_tabW spec_maShrink.tab15 spec_maShrink.bits15 (fun HT_ HW_ => ?_)
        generalize w69.drew = w70 at HO_419000 HO422 BK404 BK405 BK418 HB hHeld ⊢
        refine pure_ (i := 0) (N := some 69) (v := ?_) (a' := ?_) #[true, false, false, false, false, false, false, false, false] rfl rfl (any_of HT_.out (by kernel_rfl)) (fun _ _ _ h => h) (Or.inl ⟨by rfl, ?_⟩) ?_ ?_
        rotate_left
        ·intro w'
         go_simp
         with_reducible rfl
        rotate_left
        ·simp only [Act.put, List.setIfInBounds_toArray, List.set_cons_zero, List.set_cons_succ, i64_w, i32_w]
         rfl
        refine pure_ (i := 2) (N := some 71) (v := ?_) (a' := ?_) #[true, false, true, false, false, false, false, false, false] rfl rfl (any_of HT_.out (by kernel_rfl)) (fun _ _ _ h => h) (Or.inl ⟨by rfl, ?_⟩) ?_ ?_
        rotate_left
        ·intro w'
         go_simp
         with_reducible rfl
        rotate_left
        ·simp only [Act.put, List.setIfInBounds_toArray, List.set_cons_zero, List.set_cons_succ, i64_w, i32_w]
         rfl
        refine pure_ (i := 3) (N := some 72) (v := ?_) (a' := ?_) #[true, false, true, true, false, false, false, false, false] rfl rfl (any_of HT_.out (by kernel_rfl)) (fun _ _ _ h => h) (Or.inl ⟨by rfl, ?_⟩) ?_ ?_
        rotate_left
        ·intro w'
         go_simp
         with_reducible rfl
        rotate_left
        ·simp only [Act.put, List.setIfInBounds_toArray, List.set_cons_zero, List.set_cons_succ, i64_w, i32_w]
         rfl
        refine take_ (i := 1) (N := some 70) (v := ?_) (a' := ?_) #[true, true, true, true, false, false, false, false, false] rfl rfl (take_ofW HT_.out HW_.out (by kernel_rfl)) (fun _ _ _ h => h) (Or.inl ⟨by rfl, ?_⟩) hHeld ?_ ?_
        rotate_left
        ·intro w' s0
         go_simp
         with_reducible rfl
        rotate_left
        ·simp only [Act.put, List.setIfInBounds_toArray, List.set_cons_zero, List.set_cons_succ, i64_w, i32_w]
         rfl
        refine one_ (i := 4) (N := some 73) #[true, true, true, true, true, false, false, false, false] rfl rfl (one_of HT_.out (by kernel_rfl)) (by decide) (fun K hK => ?_)
        refine goes_ Tryz.func128 (by kernel_rfl) rfl #[.slice Ao71 t420.length co71, .int .i64 t406] (by rfl) rfl rfl (by (try simp only [List.map_toArray, List.map_cons, List.map_nil]); first | done | rfl | (simp only [List.length_drop, List.length_take]; rfl)) ?_
        with_reducible refine (spec_maNarrow.calls _ _ t420 t406 t431 _ ?side1 ?side2 A67.out).mono ?_
        (case side1 => repeat (first | exact (Kd.R_reads' HO422.out).2.2 | (with_reducible refine Kd.C_alloc ?_ _) | (with_reducible refine Kd.C_drewN ?_ _) | (with_reducible refine Kd.C_drew ?_)))
        (case side2 => exact (Kd.R_reads' HO422.out).2.1)
        rintro e w72 ⟨v432, rfl, ho0, hb⟩
        refine ⟨_, rfl, ?_⟩
        have n0_ := aM (Kd.S_elder' (sQ HO_419000) (Kd.R_base ho0) hb)
        have n1_ := aM (Kd.R_elder' (rQ HO422) (Kd.R_base ho0) hb)
        have n2_ := aM (Kd.R_lower (Kd.R_new' ho0 (Kd.R_lt (rQ HO422))) (below_size bq))
        have n3_ := aM (blk_below (qQ BK404) hb)
        have n4_ := aM (blk_below (qQ BK405) hb)
        have n5_ := aM (blk_below (qQ BK418) hb)
        have n6_ := aM (below_step bq hb)
        clear HO_419000
        clear HO422
        clear BK404
        clear BK405
        clear BK418
        clear HB
        have HO_419000 := n0_
        have HO422 := n1_
        have HO433 := n2_
        have BK404 := n3_
        have BK405 := n4_
        have BK418 := n5_
        have HB := n6_
        clear n0_ n1_ n2_ n3_ n4_ n5_ n6_
        (try clear hb)
        (try clear hb2)
        (try clear hk)
        (try clear hi)
        (try clear ho0)
        obtain ⟨Ao74, co74, eo74⟩ := Kd.R_slice HO433.out
        (first | subst eo74 | (injection eo74 with f1_ f2_ f3_; have f4_ := f1_.symm; have f5_ := f3_.symm; clear f1_ f2_ f3_; subst f4_; subst f5_))
        refine hK.out _ _ ((blk_cell BK418.out 0).trans rfl) (fun hHeld => ?_)
        clear hK K
        refine norm_ (a' := ?_) ?_ ?_
        rotate_left
        ·show Act.put _ (some 73) _ = _
         simp only [Act.put, List.setIfInBounds_toArray, List.set_cons_zero, List.set_cons_succ, i64_w, i32_w]
         rfl
        refine one_ (i := 5) (N := some 74) #[true, true, true, true, true, true, false, false, false] rfl rfl (one_of HT_.out (by kernel_rfl)) (by decide) (fun K hK => ?_)
        refine value_ (w1 := ?_) (v := ?_) (by rfl) rfl ?_ ?_
        rotate_left 2
        ·go_simp
         constructor
         ·rfl
         ·rfl
        refine hK.out _ _ ((blk_cell (blk_alloc BK418.out _) 0).trans rfl) (fun hHeld => ?_)
        clear hK K
        refine norm_ (a' := ?_) ?_ ?_
        rotate_left
        ·show Act.put _ (some 74) _ = _
         simp only [Act.put, List.setIfInBounds_toArray, List.set_cons_zero, List.set_cons_succ, i64_w, i32_w]
         rfl
        refine one_ (i := 6) (N := some 75) #[true, true, true, true, true, true, true, false, false] rfl rfl (one_of HT_.out (by kernel_rfl)) (by decide) (fun K hK => ?_)
        refine Kd.S_append_step (Kd.slice 3 (Kd.int .i64)) (w0 := w) w.heap.size (by rfl) (.tmp 70) (.tmp 74) 28 24 (.slice none 0 0) 24 rfl Tryz.underlying28 info24 rfl (by decide) (by omega) u419000 x419000_1 t431 [.slice Ao74 t431.length co74] (fun k_ => some k_ ≠ (.slice Ao71 t420.length co71 : Value).ownBlock) (fun k_ => some k_ = (.slice Ao74 t431.length co74 : Value).ownBlock) rfl rfl ?aP (fun k_ hk_ => ((Kd.R_mono (ok' := fun k_ => ((fun k_ => some k_ ≠ (.slice Ao71 t420.length co71 : Value).ownBlock)) k_ ∧ some k_ ≠ (u419000 : Value).ownBlock) (Kd.R_apart' (HO433.out) (Kd.S_typed HO_419000.out) (by decide)) (fun k_ hk => ⟨hk.1.2, hk.2⟩))).1 k_ hk_.symm) ?aF ?aO ?aB ?aS ?aL ?_
        (case aP => exact Kd.M_row (Kd.R_mono (Kd.R_tight rfl (Kd.R_mono (ok' := fun k_ => ((fun k_ => some k_ ≠ (.slice Ao71 t420.length co71 : Value).ownBlock)) k_ ∧ some k_ ≠ (u419000 : Value).ownBlock) (Kd.R_apart' (HO433.out) (Kd.S_typed HO_419000.out) (by decide)) (fun k_ hk => ⟨hk.1.2, hk.2⟩))) (fun _ h_ => h_)))
        (case aB => exact bq)
        (case aF => exact (fun k_ hk => Kd.fresh' (Kd.R_lt (rQ HO422)) k_ hk))
        (case aO => exact (by (with_reducible repeat first|apply sA|apply sN|apply sD); exact Kd.S_mono HO_419000.out (fun k_ hk => ⟨hk.1.2, fun e_ => hk.2 e_⟩)))
        (case aS => exact (below_size bq))
        (case aL => have := LMc68.out; omega)
        intro v435 w73 ho hb hg hat
        rw [← Ny434.out] at ho
        have n0_ := aM (blk_grown (g := gb404) (o := .cells #[.slice (some ad407) l0_0.length c0_0] 30 (0, 0)) (qQ BK404) hg (Kd.S_ne HO_419000.out BK404.out (by decide)))
        have n1_ := aM (blk_grown (g := gb405) (o := .cells #[.slice none 0 0] 30 (0, 0)) (qQ BK405) hg (Kd.S_ne HO_419000.out BK405.out (by decide)))
        have n2_ := aM (blk_grown (g := gb418) (o := .cells #[u419000] 30 (0, 0)) (qQ BK418) hg (Kd.S_ne HO_419000.out BK418.out (by decide)))
        have n3_ := aM (Kd.R_over' (rQ HO422) (Kd.S_typed (sQ HO_419000)) (by decide) hg)
        have n4_ := aM (hb)
        have n5_ := aM (ho)
        clear BK404
        clear BK405
        clear BK418
        clear HO422
        clear HB
        clear HO_419000
        clear HO433
        have BK404 := n0_
        have BK405 := n1_
        have BK418 := n2_
        have HO422 := n3_
        have HB := n4_
        have HO436 := n5_
        clear n0_ n1_ n2_ n3_ n4_ n5_
        clear ho hb hg hat
        obtain ⟨Ao75, co75, eo75⟩ := Kd.S_slice HO436.out
        (first | subst eo75 | (injection eo75 with f1_ f2_ f3_; have f4_ := f1_.symm; have f5_ := f3_.symm; clear f1_ f2_ f3_; subst f4_; subst f5_))
        refine hK.out _ _ ((blk_cell BK418.out 0).trans rfl) (fun hHeld => ?_)
        clear hK K
        refine norm_ (a' := ?_) ?_ ?_
        rotate_left
        ·show Act.put _ (some 75) _ = _
         simp only [Act.put, List.setIfInBounds_toArray, List.set_cons_zero, List.set_cons_succ, i64_w, i32_w]
         rfl
        refine pure_ (i := 7) (N := some 76) (v := ?_) (a' := ?_) #[true, true, true, true, true, true, true, true, false] rfl rfl (any_of HT_.out (by kernel_rfl)) (fun _ _ _ h => h) (Or.inl ⟨by rfl, ?_⟩) ?_ ?_
        rotate_left
        ·intro w'
         go_simp
         with_reducible rfl
        rotate_left
        ·simp only [Act.put, List.setIfInBounds_toArray, List.set_cons_zero, List.set_cons_succ, i64_w, i32_w]
         rfl
        refine last_ (i := 8) (N := none) #[true, true, true, true, true, true, true, true, true] rfl rfl (one_of HT_.out (by kernel_rfl)) (by decide) (fun K hK => ?_)
        have hs76 := c10 BK418
        have hfs76 := blk_frozen BK418.out 0
        have hns76_0 := NB404_418.out
        have hns76_1 := NB405_418.out
        have hms76_0 := NB418_404.out
        have hms76_1 := NB418_405.out
        refine skip_ (w1 := ?_) (by rfl) rfl ?_ ?_
        rotate_left
        ·go_simp
         rfl
        refine hK.out _ _ ?_
        clear hK K
        refine done_ (done_of HT_.out (by kernel_rfl)) ?_
        try go_wp2
        go_roundg k1
        case measure => have := HK1.out; omega
        case rel => exact ⟨(wrap64 (x42_1 + 1)), (y434), (.slice Ao75 y434.length co75), eR, H', ⟨by have := HK1.out; omega⟩, ⟨by (with_reducible repeat first|apply sA|apply sN|apply sD); exact Kd.S_mono (Kd.S_far (p := ⟨gb418, 0, none⟩) (Kd.S_types HO436.out BK418.out (by decide)) (fun _ hk => hk.2) (.slice Ao75 y434.length co75)) (fun _ hk => trivial)⟩, ⟨by (with_reducible repeat first|apply qN|apply qD|apply qA); refine blk_far ?_ NB404_418.out _; (with_reducible repeat first|apply qN|apply qD|apply qA); exact BK404.out⟩, ⟨by (with_reducible repeat first|apply qN|apply qD|apply qA); refine blk_far ?_ NB405_418.out _; (with_reducible repeat first|apply qN|apply qD|apply qA); exact BK405.out⟩, ⟨by (with_reducible repeat first|apply qN|apply qD|apply qA); refine blk_put (cs := #[u419000]) ?_ 0 _ rfl; (with_reducible repeat first|apply qN|apply qD|apply qA); exact BK418.out⟩, ⟨bq⟩⟩
      ·rw [if_neg c47] at H
       have c47b0 := decide_eq_false c47
       clear c47
       replace H := bS H
       obtain ⟨t437, A77, H⟩ := H
       try dsimp only at H
       replace H := iS H
       obtain ⟨c78, H⟩ := H
       have LMc78 := aM c78
       clear c78
       obtain ⟨y440, hy440⟩ : ∃ y_ : List (List Int), y_ = (x419000_1 ++ [t437]) := ⟨_, rfl⟩
       replace H : (spec_maShrink.l0 k1 (l0_0.length : Int) t406 l0_0 (l0_0.length : Int) (wrap64 (x42_1 + 1)) y440) = some (r1, r2) := by first | (rw [hy440]; with_reducible exact H) | (have H2_ := (Option.bind_some _ _).symm.trans H; rw [hy440]; with_reducible exact H2_) | (have H2_ := (Option.bind_some _ _).symm.trans H; with_reducible exact H2_) | with_reducible exact H | (rw [hy440]; exact H) | exact H
       have Ny440 := aM hy440
       clear hy440
       have H' := aM H
       clear H
       have p419 : 0 ≤ (x42_1 : Int) := odt
       have q419 : x42_1 < (l0_0.length : Int) := odt
       obtain ⟨ad419, A419_0, c419_0, e419, hx419_0, hl419_0, hi419_0⟩ := at_L2 HR0_0.out x42_1 p419 q419
       obtain rfl : ad407 = ad419 := (by injection e419)
       replace hx419_0 := (HB.out.cell (World.block_lt_of_cell? w _ hx419_0)).trans hx419_0
       have HR419_0 := aM hi419_0
       have HC419_0 := aM hl419_0
       clear hi419_0 hl419_0
       replace p419 := eq_true p419
       replace q419 := eq_true q419
       try go_wp2_with (first | ((with_reducible refine gate_callee (f := 127) rfl ?_); refine gL (some 51) Tryz.func127 #[.slice A419_0 (rd_L2 l0_0 x42_1).length c419_0] ?_; (with_reducible refine (spec_l1Own.calls _ _ (rd_L2 l0_0 x42_1) t420 _ (cQ (Kd.C_below HR419_0.out HB.out)) HC419_0.out A46.out).mono ?_); rintro e w79 ⟨v421, rfl, ho0, hb⟩; refine ⟨_, rfl, ?_⟩; have _ := aM (Kd.S_elder' (sQ HO_419000) (Kd.R_base ho0) hb); have _ := aM (Kd.R_lower ho0 (below_size bq)); have _ := aM (blk_below (qQ BK404) hb); have _ := aM (blk_below (qQ BK405) hb); have _ := aM (blk_below (qQ BK418) hb); have _ := aM (below_step bq hb); clear HO_419000 BK404 BK405 BK418 HB; rename_i HO_419000 HO422 BK404 BK405 BK418 HB; (try clear hb); (try clear hb2); (try clear hk); (try clear hi); (try clear ho0)))
       have n0_ := aM (Kd.S_drew HO_419000.out)
       have n1_ := aM (Kd.R_drew HO422.out)
       have n2_ := aM (blk_drew BK404.out)
       have n3_ := aM (blk_drew BK405.out)
       have n4_ := aM (blk_drew BK418.out)
       have n5_ := aM (below_drew1 HB.out)
       clear HO_419000
       clear HO422
       clear BK404
       clear BK405
       clear BK418
       clear HB
       have HO_419000 := n0_
       have HO422 := n1_
       have BK404 := n2_
       have BK405 := n3_
       have BK418 := n4_
       have HB := n5_
       clear n0_ n1_ n2_ n3_ n4_ n5_
       obtain ⟨Ao81, co81, eo81⟩ := Kd.R_slice HO422.out
       (first | subst eo81 | (injection eo81 with f1_ f2_ f3_; have f4_ := f1_.symm; have f5_ := f3_.symm; clear f1_ f2_ f3_; subst f4_; subst f5_))
       refine start_ (n := 9) (S := fun w' => w'.cell? ⟨gb418, 0, none⟩ = some (u419000)) (ds := [8]) #[false, false, false, false, false, false, false, false, false] (by kernel_rfl) rfl rfl ((blk_cell BK418.out 0).trans rfl) (fun hHeld => ?_); refine with_tabW spec_maShrink.tab15 spec_maShrink.bits15 (fun HT_ HW_ => ?_)
       generalize w79.drew = w80 at HO_419000 HO422 BK404 BK405 BK418 HB hHeld ⊢
       refine pure_ (i := 0) (N := some 69) (v := ?_) (a' := ?_) #[true, false, false, false, false, false, false, false, false] rfl rfl (any_of HT_.out (by kernel_rfl)) (fun _ _ _ h => h) (Or.inl ⟨by rfl, ?_⟩) ?_ ?_
       rotate_left
       ·intro w'
        go_simp
        with_reducible rfl
       rotate_left
       ·simp only [Act.put, List.setIfInBounds_toArray, List.set_cons_zero, List.set_cons_succ, i64_w, i32_w]
        rfl
       refine pure_ (i := 2) (N := some 71) (v := ?_) (a' := ?_) #[true, false, true, false, false, false, false, false, false] rfl rfl (any_of HT_.out (by kernel_rfl)) (fun _ _ _ h => h) (Or.inl ⟨by rfl, ?_⟩) ?_ ?_
       rotate_left
       ·intro w'
        go_simp
        with_reducible rfl
       rotate_left
       ·simp only [Act.put, List.setIfInBounds_toArray, List.set_cons_zero, List.set_cons_succ, i64_w, i32_w]
        rfl
       refine pure_ (i := 3) (N := some 72) (v := ?_) (a' := ?_) #[true, false, true, true, false, false, false, false, false] rfl rfl (any_of HT_.out (by kernel_rfl)) (fun _ _ _ h => h) (Or.inl ⟨by rfl, ?_⟩) ?_ ?_
       rotate_left
       ·intro w'
        go_simp
        with_reducible rfl
       rotate_left
       ·simp only [Act.put, List.setIfInBounds_toArray, List.set_cons_zero, List.set_cons_succ, i64_w, i32_w]
        rfl
       refine take_ (i := 1) (N := some 70) (v := ?_) (a' := ?_) #[true, true, true, true, false, false, false, false, false] rfl rfl (take_ofW HT_.out HW_.out (by kernel_rfl)) (fun _ _ _ h => h) (Or.inl ⟨by rfl, ?_⟩) hHeld ?_ ?_
       rotate_left
       ·intro w' s0
        go_simp
        with_reducible rfl
       rotate_left
       ·simp only [Act.put, List.setIfInBounds_toArray, List.set_cons_zero, List.set_cons_succ, i64_w, i32_w]
        rfl
       refine one_ (i := 4) (N := some 73) #[true, true, true, true, true, false, false, false, false] rfl rfl (one_of HT_.out (by kernel_rfl)) (by decide) (fun K hK => ?_)
       refine goes_ Tryz.func128 (by kernel_rfl) rfl #[.slice Ao81 t420.length co81, .int .i64 t406] (by rfl) rfl rfl (by (try simp only [List.map_toArray, List.map_cons, List.map_nil]); first | done | rfl | (simp only [List.length_drop, List.length_take]; rfl)) ?_
       with_reducible refine (spec_maNarrow.calls _ _ t420 t406 t437 _ ?side1 ?side2 A77.out).mono ?_
       (case side1 => repeat (first | exact (Kd.R_reads' HO422.out).2.2 | (with_reducible refine Kd.C_alloc ?_ _) | (with_reducible refine Kd.C_drewN ?_ _) | (with_reducible refine Kd.C_drew ?_)))
       (case side2 => exact (Kd.R_reads' HO422.out).2.1)
       rintro e w82 ⟨v438, rfl, ho0, hb⟩
       refine ⟨_, rfl, ?_⟩
       have n0_ := aM (Kd.S_elder' (sQ HO_419000) (Kd.R_base ho0) hb)
       have n1_ := aM (Kd.R_elder' (rQ HO422) (Kd.R_base ho0) hb)
       have n2_ := aM (Kd.R_lower (Kd.R_new' ho0 (Kd.R_lt (rQ HO422))) (below_size bq))
       have n3_ := aM (blk_below (qQ BK404) hb)
       have n4_ := aM (blk_below (qQ BK405) hb)
       have n5_ := aM (blk_below (qQ BK418) hb)
       have n6_ := aM (below_step bq hb)
       clear HO_419000
       clear HO422
       clear BK404
       clear BK405
       clear BK418
       clear HB
       have HO_419000 := n0_
       have HO422 := n1_
       have HO439 := n2_
       have BK404 := n3_
       have BK405 := n4_
       have BK418 := n5_
       have HB := n6_
       clear n0_ n1_ n2_ n3_ n4_ n5_ n6_
       (try clear hb)
       (try clear hb2)
       (try clear hk)
       (try clear hi)
       (try clear ho0)
       obtain ⟨Ao84, co84, eo84⟩ := Kd.R_slice HO439.out
       (first | subst eo84 | (injection eo84 with f1_ f2_ f3_; have f4_ := f1_.symm; have f5_ := f3_.symm; clear f1_ f2_ f3_; subst f4_; subst f5_))
       refine hK.out _ _ ((blk_cell BK418.out 0).trans rfl) (fun hHeld => ?_)
       clear hK K
       refine norm_ (a' := ?_) ?_ ?_
       rotate_left
       ·show Act.put _ (some 73) _ = _
        simp only [Act.put, List.setIfInBounds_toArray, List.set_cons_zero, List.set_cons_succ, i64_w, i32_w]
        rfl
       refine one_ (i := 5) (N := some 74) #[true, true, true, true, true, true, false, false, false] rfl rfl (one_of HT_.out (by kernel_rfl)) (by decide) (fun K hK => ?_)
       refine value_ (w1 := ?_) (v := ?_) (by rfl) rfl ?_ ?_
       rotate_left 2
       ·go_simp
        constructor
        ·rfl
        ·rfl
       refine hK.out _ _ ((blk_cell (blk_alloc BK418.out _) 0).trans rfl) (fun hHeld => ?_)
       clear hK K
       refine norm_ (a' := ?_) ?_ ?_
       rotate_left
       ·show Act.put _ (some 74) _ = _
        simp only [Act.put, List.setIfInBounds_toArray, List.set_cons_zero, List.set_cons_succ, i64_w, i32_w]
        rfl
       refine one_ (i := 6) (N := some 75) #[true, true, true, true, true, true, true, false, false] rfl rfl (one_of HT_.out (by kernel_rfl)) (by decide) (fun K hK => ?_)
       refine Kd.S_append_step (Kd.slice 3 (Kd.int .i64)) (w0 := w) w.heap.size (by rfl) (.tmp 70) (.tmp 74) 28 24 (.slice none 0 0) 24 rfl Tryz.underlying28 info24 rfl (by decide) (by omega) u419000 x419000_1 t437 [.slice Ao84 t437.length co84] (fun k_ => some k_ ≠ (.slice Ao81 t420.length co81 : Value).ownBlock) (fun k_ => some k_ = (.slice Ao84 t437.length co84 : Value).ownBlock) rfl rfl ?aP (fun k_ hk_ => ((Kd.R_mono (ok' := fun k_ => ((fun k_ => some k_ ≠ (.slice Ao81 t420.length co81 : Value).ownBlock)) k_ ∧ some k_ ≠ (u419000 : Value).ownBlock) (Kd.R_apart' (HO439.out) (Kd.S_typed HO_419000.out) (by decide)) (fun k_ hk => ⟨hk.1.2, hk.2⟩))).1 k_ hk_.symm) ?aF ?aO ?aB ?aS ?aL ?_
       (case aP => exact Kd.M_row (Kd.R_mono (Kd.R_tight rfl (Kd.R_mono (ok' := fun k_ => ((fun k_ => some k_ ≠ (.slice Ao81 t420.length co81 : Value).ownBlock)) k_ ∧ some k_ ≠ (u419000 : Value).ownBlock) (Kd.R_apart' (HO439.out) (Kd.S_typed HO_419000.out) (by decide)) (fun k_ hk => ⟨hk.1.2, hk.2⟩))) (fun _ h_ => h_)))
       (case aB => exact bq)
       (case aF => exact (fun k_ hk => Kd.fresh' (Kd.R_lt (rQ HO422)) k_ hk))
       (case aO => exact (by (with_reducible repeat first|apply sA|apply sN|apply sD); exact Kd.S_mono HO_419000.out (fun k_ hk => ⟨hk.1.2, fun e_ => hk.2 e_⟩)))
       (case aS => exact (below_size bq))
       (case aL => have := LMc78.out; omega)
       intro v441 w83 ho hb hg hat
       rw [← Ny440.out] at ho
       have n0_ := aM (blk_grown (g := gb404) (o := .cells #[.slice (some ad407) l0_0.length c0_0] 30 (0, 0)) (qQ BK404) hg (Kd.S_ne HO_419000.out BK404.out (by decide)))
       have n1_ := aM (blk_grown (g := gb405) (o := .cells #[.slice none 0 0] 30 (0, 0)) (qQ BK405) hg (Kd.S_ne HO_419000.out BK405.out (by decide)))
       have n2_ := aM (blk_grown (g := gb418) (o := .cells #[u419000] 30 (0, 0)) (qQ BK418) hg (Kd.S_ne HO_419000.out BK418.out (by decide)))
       have n3_ := aM (Kd.R_over' (rQ HO422) (Kd.S_typed (sQ HO_419000)) (by decide) hg)
       have n4_ := aM (hb)
       have n5_ := aM (ho)
       clear BK404
       clear BK405
       clear BK418
       clear HO422
       clear HB
       clear HO_419000
       clear HO439
       have BK404 := n0_
       have BK405 := n1_
       have BK418 := n2_
       have HO422 := n3_
       have HB := n4_
       have HO442 := n5_
       clear n0_ n1_ n2_ n3_ n4_ n5_
       clear ho hb hg hat
       obtain ⟨Ao85, co85, eo85⟩ := Kd.S_slice HO442.out
       (first | subst eo85 | (injection eo85 with f1_ f2_ f3_; have f4_ := f1_.symm; have f5_ := f3_.symm; clear f1_ f2_ f3_; subst f4_; subst f5_))
       refine hK.out _ _ ((blk_cell BK418.out 0).trans rfl) (fun hHeld => ?_)
       clear hK K
       refine norm_ (a' := ?_) ?_ ?_
       rotate_left
       ·show Act.put _ (some 75) _ = _
        simp only [Act.put, List.setIfInBounds_toArray, List.set_cons_zero, List.set_cons_succ, i64_w, i32_w]
        rfl
       refine pure_ (i := 7) (N := some 76) (v := ?_) (a' := ?_) #[true, true, true, true, true, true, true, true, false] rfl rfl (any_of HT_.out (by kernel_rfl)) (fun _ _ _ h => h) (Or.inl ⟨by rfl, ?_⟩) ?_ ?_
       rotate_left
       ·intro w'
        go_simp
        with_reducible rfl
       rotate_left
       ·simp only [Act.put, List.setIfInBounds_toArray, List.set_cons_zero, List.set_cons_succ, i64_w, i32_w]
        rfl
       refine last_ (i := 8) (N := none) #[true, true, true, true, true, true, true, true, true] rfl rfl (one_of HT_.out (by kernel_rfl)) (by decide) (fun K hK => ?_)
       have hs86 := c10 BK418
       have hfs86 := blk_frozen BK418.out 0
       have hns86_0 := NB404_418.out
       have hns86_1 := NB405_418.out
       have hms86_0 := NB418_404.out
       have hms86_1 := NB418_405.out
       refine skip_ (w1 := ?_) (by rfl) rfl ?_ ?_
       rotate_left
       ·go_simp
        rfl
       refine hK.out _ _ ?_
       clear hK K
       refine done_ (done_of HT_.out (by kernel_rfl)) ?_
       try go_wp2
       go_roundg k1
       case measure => have := HK1.out; omega
       case rel => exact ⟨(wrap64 (x42_1 + 1)), (y440), (.slice Ao85 y440.length co85), eR, H', ⟨by have := HK1.out; omega⟩, ⟨by (with_reducible repeat first|apply sA|apply sN|apply sD); exact Kd.S_mono (Kd.S_far (p := ⟨gb418, 0, none⟩) (Kd.S_types HO442.out BK418.out (by decide)) (fun _ hk => hk.2) (.slice Ao85 y440.length co85)) (fun _ hk => trivial)⟩, ⟨by (with_reducible repeat first|apply qN|apply qD|apply qA); refine blk_far ?_ NB404_418.out _; (with_reducible repeat first|apply qN|apply qD|apply qA); exact BK404.out⟩, ⟨by (with_reducible repeat first|apply qN|apply qD|apply qA); refine blk_far ?_ NB405_418.out _; (with_reducible repeat first|apply qN|apply qD|apply qA); exact BK405.out⟩, ⟨by (with_reducible repeat first|apply qN|apply qD|apply qA); refine blk_put (cs := #[u419000]) ?_ 0 _ rfl; (with_reducible repeat first|apply qN|apply qD|apply qA); exact BK418.out⟩, ⟨bq⟩⟩
    ·rw [if_neg c42] at H
     have c42b0 := decide_eq_false c42
     clear c42
     simp only [Option.some.injEq, Prod.mk.injEq] at H
     obtain ⟨rfl, rfl⟩ := H
     have hnb87 := NB418_404.out
     have hnc87 := NB404_418.out
     have hnb88 := NB418_405.out
     have hnc88 := NB405_418.out
     have hcz89_0 := c10 BK418
     have hfz89_0 := blk_frozen BK418.out 0
     obtain ⟨Ao90, co90, eo90⟩ := Kd.S_slice HO_419000.out
     subst eo90
     have hnb91 := NB405_404.out
     have hnc91 := NB404_405.out
     have hcz92_0 := c10 BK405
     have hfz92_0 := blk_frozen BK405.out 0
     go_wp2
     refine bodyPost_ret (results_ct rfl _ _ gb405 30 #[.slice Ao90 x419000_1.length co90] (0, 0) _ rfl (by (with_reducible repeat first|apply qN|apply qD|apply qA); refine blk_put (cs := #[.slice none 0 0]) ?_ 0 _ rfl; (with_reducible repeat first|apply qN|apply qD|apply qA); exact BK405.out) Tryz.underlying30 rfl (by kernel_rfl)) rfl ?_
     exact ⟨_, eE, by (with_reducible repeat first|apply sA|apply sN|apply sD); exact Kd.S_mono (Kd.S_far (p := ⟨gb405, 0, none⟩) (Kd.S_types HO_419000.out BK405.out (by decide)) (fun _ hk => hk.2) (.slice Ao90 x419000_1.length co90)) (fun _ hk => trivial), bq⟩

end Go.Proofs.YtcodionjhcmfhaaGreatDoor.Ax
