-- Written by hook.py, a program of this session (wip/), which runs the kit's print.py with its own parts; Lean checks it.
import Derived.Test.YtcodionjhcmfhaaDoorAo0
import Derived.Test.YtcodionjhcmfhaaDoorAo1
import Derived.Test.YtcodionjhcmfhaaDoorAo2
import Derived.Test.YtcodionjhcmfhaaDoorAo12
import Derived.Test.YtcodionjhcmfhaaDoorAo23
import Derived.Test.YtcodionjhcmfhaaDoorAo24
import Derived.Test.YtcodionjhcmfhaaDoorAoXSq
namespace Go.Proofs.YtcodionjhcmfhaaDoor.Ao
open Go.RowKit Go.Proofs.YtcodionjhcmfhaaDoorW.PrintWords Go.Proofs.YtcodionjhcmfhaaDoorW.PrintLast Go.Proofs.YtcodionjhcmfhaaDoorW.PrintMore Go.Proofs.YtcodionjhcmfhaaDoor.Sq
attribute [local go_sem] max2_int min2_int max_two min_two max_three min_three max_four min_four   -- for this text's walks alone
set_option linter.unusedVariables false
set_option linter.unusedSimpArgs false

mutual
def lw.j0 : Nat → List Int → Bool → List Int → Bool → Bool → Int → List Int → Int → List Int → Option (Bool)
 | 0, _, _, _, _, _, _, _, _, _ => none
 | k + 1, x4, x5, x7, x8, x40, x483000, x483001, x497000, x497001 => if x40 = true then (some false) else ((laws_toOrder.f k x483000 x483001).bind fun bt502 => ((laws_eqOrder.f k x497000 x497001 bt502.1 bt502.2).bind fun t506 => (if t506 = true then ((laws_markOrder.f k x497000 x497001 1).bind fun bt507 => (if bt507.1 < 0 then (lw.j1 k x4 x5 x7 true x483000 x483001) else ((laws_eqIntS.f k x7 x4).bind fun t509 => (if t509 = true then (lw.j1 k x4 x5 x7 (x8 != x5) x483000 x483001) else (lw.j1 k x4 x5 x7 true x483000 x483001))))) else (some false))))
def lw.j1 : Nat → List Int → Bool → List Int → Bool → Int → List Int → Option (Bool)
 | 0, _, _, _, _, _, _ => none
 | k + 1, x4, x5, x7, x61, x483000, x483001 => if x61 = true then (some false) else ((laws_markIntS.f k x7 1).bind fun bt510 => ((laws_heldIntS.f k bt510.2 1).bind fun t512 => (if t512 < 0 then (some false) else (if t512 = bt510.1 then ((laws_toOrder.f k x483000 x483001).bind fun bt513 => ((impl_AscentOfOrder.f k bt513.1 bt513.2).bind fun bt517 => ((laws_eqIntS.f k bt517.1 x4).bind fun t521 => (if t521 = true then (lw.j2 k bt510.2 bt510.1 (bt517.2 != x5)) else (lw.j2 k bt510.2 bt510.1 true))))) else (some false)))))
def lw.j2 : Nat → List Int → Int → Bool → Option (Bool)
 | 0, _, _, _ => none
 | k + 1, x7, x10, x87 => if x87 = true then (some false) else ((laws_heldIntS.f k x7 1).bind fun t522 => (if t522 < 0 then (some false) else (if t522 = x10 then (some true) else (some false))))
end
def laws_FnExactAscentOfOrder.f (k : Nat) (a0_0 : Int) (l0_1 : List Int) : Option (Bool) := (laws_szOrder.f a0_0 l0_1 1048576).bind fun t483 => (if t483 < 0 then (some true) else ((laws_toOrder.f k a0_0 l0_1).bind fun bt484 => ((spec_AscentOfOrder.f k bt484.1 bt484.2).bind fun bt488 => ((laws_toOrder.f k a0_0 l0_1).bind fun bt492 => ((impl_AscentOfOrder.f k bt492.1 bt492.2).bind fun bt497 => ((laws_eqIntS.f k bt497.1 bt488.1).bind fun t501 => (if t501 = true then (lw.j0 k bt488.1 bt488.2 bt497.1 bt497.2 (bt497.2 != bt488.2) a0_0 l0_1 bt492.1 bt492.2) else (lw.j0 k bt488.1 bt488.2 bt497.1 bt497.2 true a0_0 l0_1 bt492.1 bt492.2))))))))
theorem lw.mono_l : ∀ k, (∀ y0 y1 y2 y3 y4 y5 y6 y7 y8, LeO (lw.j0 k y0 y1 y2 y3 y4 y5 y6 y7 y8) (lw.j0 (k + 1) y0 y1 y2 y3 y4 y5 y6 y7 y8)) ∧ (∀ y0 y1 y2 y3 y4 y5, LeO (lw.j1 k y0 y1 y2 y3 y4 y5) (lw.j1 (k + 1) y0 y1 y2 y3 y4 y5)) ∧ (∀ y0 y1 y2, LeO (lw.j2 k y0 y1 y2) (lw.j2 (k + 1) y0 y1 y2))
 | 0 => ⟨fun _ _ _ _ _ _ _ _ _ r h => by simp [lw.j0] at h, fun _ _ _ _ _ _ r h => by simp [lw.j1] at h, fun _ _ _ r h => by simp [lw.j2] at h⟩
 | k + 1 => by
  obtain ⟨ih0, ih1, ih2⟩ := lw.mono_l k
  refine ⟨?_, ?_, ?_⟩
  ·intro y0 y1 y2 y3 y4 y5 y6 y7 y8
   unfold lw.j0
   repeat' first | with_reducible first | exact ih0 _ _ _ _ _ _ _ _ _ | exact ih1 _ _ _ _ _ _ | exact ih2 _ _ _ | exact impl_AscentOfOrder.mono _ _ _ | exact laws_eqIntS.mono _ _ _ | exact laws_eqOrder.mono _ _ _ _ _ | exact laws_heldIntS.mono _ _ _ | exact laws_markIntS.mono _ _ _ | exact laws_markOrder.mono _ _ _ _ | exact laws_toOrder.mono _ _ _ | exact spec_AscentOfOrder.mono _ _ _ | exact LeO.refl _ | exact LeO.none _ | refine LeO.ite ?_ ?_ | refine LeO.bind ?_ (fun _ => ?_)
  ·intro y0 y1 y2 y3 y4 y5
   unfold lw.j1
   repeat' first | with_reducible first | exact ih0 _ _ _ _ _ _ _ _ _ | exact ih1 _ _ _ _ _ _ | exact ih2 _ _ _ | exact impl_AscentOfOrder.mono _ _ _ | exact laws_eqIntS.mono _ _ _ | exact laws_eqOrder.mono _ _ _ _ _ | exact laws_heldIntS.mono _ _ _ | exact laws_markIntS.mono _ _ _ | exact laws_markOrder.mono _ _ _ _ | exact laws_toOrder.mono _ _ _ | exact spec_AscentOfOrder.mono _ _ _ | exact LeO.refl _ | exact LeO.none _ | refine LeO.ite ?_ ?_ | refine LeO.bind ?_ (fun _ => ?_)
  ·intro y0 y1 y2
   unfold lw.j2
   repeat' first | with_reducible first | exact ih0 _ _ _ _ _ _ _ _ _ | exact ih1 _ _ _ _ _ _ | exact ih2 _ _ _ | exact impl_AscentOfOrder.mono _ _ _ | exact laws_eqIntS.mono _ _ _ | exact laws_eqOrder.mono _ _ _ _ _ | exact laws_heldIntS.mono _ _ _ | exact laws_markIntS.mono _ _ _ | exact laws_markOrder.mono _ _ _ _ | exact laws_toOrder.mono _ _ _ | exact spec_AscentOfOrder.mono _ _ _ | exact LeO.refl _ | exact LeO.none _ | refine LeO.ite ?_ ?_ | refine LeO.bind ?_ (fun _ => ?_)
theorem laws_FnExactAscentOfOrder.mono : ∀ a0 a1 k, LeO (laws_FnExactAscentOfOrder.f k a0 a1) (laws_FnExactAscentOfOrder.f (k + 1) a0 a1) := by
 intro a0 a1 k
 obtain ⟨ih0, ih1, ih2⟩ := lw.mono_l k
 unfold laws_FnExactAscentOfOrder.f
 repeat' first | with_reducible first | exact ih0 _ _ _ _ _ _ _ _ _ | exact ih1 _ _ _ _ _ _ | exact ih2 _ _ _ | exact impl_AscentOfOrder.mono _ _ _ | exact laws_eqIntS.mono _ _ _ | exact laws_eqOrder.mono _ _ _ _ _ | exact laws_heldIntS.mono _ _ _ | exact laws_markIntS.mono _ _ _ | exact laws_markOrder.mono _ _ _ _ | exact laws_toOrder.mono _ _ _ | exact spec_AscentOfOrder.mono _ _ _ | exact LeO.refl _ | exact LeO.none _ | refine LeO.ite ?_ ?_ | refine LeO.bind ?_ (fun _ => ?_)
set_option maxHeartbeats 8000000 in
set_option maxRecDepth 100000 in
theorem laws_FnExactAscentOfOrder.calls (k : Nat) (a0_0 : Int) (A0_1 : Option Addr) (c0_1 : Nat) (l0_1 : List Int) (r : Bool) (w : World) (hV : TabZ w) (hr0_1 : Kd.C (Kd.int .i64) w A0_1 l0_1.length l0_1) (hc0_1 : l0_1.length ≤ c0_1) (h : laws_FnExactAscentOfOrder.f k a0_0 l0_1 = some r) :
  Calls Tryd.prog 4 #[.agg #[.int .i64 a0_0, .slice A0_1 l0_1.length c0_1]] w fun e w' => e = .returned (.bool r) ∧ Below w.heap.size w w' := by
 have hu24 := Tryd.underlying24
 have hu31 := Tryd.underlying31
 have HR0_1 := aM hr0_1
 have HC0_1 := aM hc0_1
 clear hr0_1 hc0_1
 have HB := aM (Below.refl w.heap.size w)
 have HVV := aM hV
 clear hV
 have H : ((laws_szOrder.f a0_0 l0_1 1048576).bind fun t483 => (if t483 < 0 then (some true) else ((laws_toOrder.f k a0_0 l0_1).bind fun bt484 => ((spec_AscentOfOrder.f k bt484.1 bt484.2).bind fun bt488 => ((laws_toOrder.f k a0_0 l0_1).bind fun bt492 => ((impl_AscentOfOrder.f k bt492.1 bt492.2).bind fun bt497 => ((laws_eqIntS.f k bt497.1 bt488.1).bind fun t501 => (if t501 = true then (lw.j0 k bt488.1 bt488.2 bt497.1 bt497.2 (bt497.2 != bt488.2) a0_0 l0_1 bt492.1 bt492.2) else (lw.j0 k bt488.1 bt488.2 bt497.1 bt497.2 true a0_0 l0_1 bt492.1 bt492.2))))))))) = some r := h
 clear h
 replace H := Option.bind_eq_some_iff.mp H
 obtain ⟨t483, A20, H⟩ := H
 replace H : (if t483 < 0 then (some true) else ((laws_toOrder.f k a0_0 l0_1).bind fun bt484 => ((spec_AscentOfOrder.f k bt484.1 bt484.2).bind fun bt488 => ((laws_toOrder.f k a0_0 l0_1).bind fun bt492 => ((impl_AscentOfOrder.f k bt492.1 bt492.2).bind fun bt497 => ((laws_eqIntS.f k bt497.1 bt488.1).bind fun t501 => (if t501 = true then (lw.j0 k bt488.1 bt488.2 bt497.1 bt497.2 (bt497.2 != bt488.2) a0_0 l0_1 bt492.1 bt492.2) else (lw.j0 k bt488.1 bt488.2 bt497.1 bt497.2 true a0_0 l0_1 bt492.1 bt492.2)))))))) = some r := H
 have A2 := aM A20
 clear A20
 by_cases c3 : t483 < 0
 ·rw [if_pos c3] at H
  have c3b0 : decide (t483 < 0) = true := decide_eq_true c3
  clear c3
  obtain rfl := Option.some.inj H
  go_enter Tryd.func4, Tryd.ntmps4
  go_wp2_with (first | ((with_reducible refine gate_dst (N := 1) rfl ?_); refine bE 1 24 #[.int .i64 a0_0, .slice A0_1 l0_1.length c0_1] ?_; intro gb482 hg w4 hbox hb; have _ := aM (below_step bq hb); have _ := aM (hbox); have _ := aM ((gS hg)); have _ := aM ((gS hg)); clear HB; rename_i HB BK482 GW482 GE482; clear hb hbox hg; have hcz5_0 : w4.cell? ⟨gb482, 0, none⟩ = some (.int .i64 a0_0) := (blk_cell BK482.out 0).trans rfl; have hcz5_1 : w4.cell? ⟨gb482, 1, none⟩ = some (.slice A0_1 l0_1.length c0_1) := (blk_cell BK482.out 1).trans rfl; have hfz5_0 := blk_frozen BK482.out 0; have hfz5_1 := blk_frozen BK482.out 1) | ((with_reducible refine gate_callee (f := 7) rfl ?_); refine gL (some 16) Tryd.func7 #[.agg #[.int .i64 a0_0, .slice A0_1 l0_1.length c0_1], .int .i64 1048576] ?_; (with_reducible refine (laws_szOrder.calls a0_0 _ _ l0_1 1048576 t483 _ (cQ (Kd.C_below HR0_1.out HB.out)) HC0_1.out A2.out).mono ?_); rintro e w6 ⟨rfl, hb⟩; refine ⟨_, rfl, ?_⟩; have _ := aM (blk_below (g := gb482) (o := .cells #[.int .i64 a0_0, .slice A0_1 l0_1.length c0_1] 24 (0, 0)) (qQ BK482) hb); have _ := aM (below_step bq hb); clear BK482 HB; rename_i BK482 HB; (try clear hb); (try clear hb2); (try clear hk); (try clear hi)))
  go_ret
  exact ⟨by first | rfl | (simp [errW_none, errW_some] <;> rfl) | (simp [*, errW_none, errW_some] <;> rfl), by exact bq⟩
 ·rw [if_neg c3] at H
  have c3b0 : decide (t483 < 0) = false := decide_eq_false c3
  clear c3
  replace H := Option.bind_eq_some_iff.mp H
  obtain ⟨⟨t484, t485⟩, A70, H⟩ := H
  replace H : ((spec_AscentOfOrder.f k t484 t485).bind fun bt488 => ((laws_toOrder.f k a0_0 l0_1).bind fun bt492 => ((impl_AscentOfOrder.f k bt492.1 bt492.2).bind fun bt497 => ((laws_eqIntS.f k bt497.1 bt488.1).bind fun t501 => (if t501 = true then (lw.j0 k bt488.1 bt488.2 bt497.1 bt497.2 (bt497.2 != bt488.2) a0_0 l0_1 bt492.1 bt492.2) else (lw.j0 k bt488.1 bt488.2 bt497.1 bt497.2 true a0_0 l0_1 bt492.1 bt492.2)))))) = some r := H
  have A7 := aM A70
  clear A70
  replace H := Option.bind_eq_some_iff.mp H
  obtain ⟨⟨t488, t491⟩, A80, H⟩ := H
  replace H : ((laws_toOrder.f k a0_0 l0_1).bind fun bt492 => ((impl_AscentOfOrder.f k bt492.1 bt492.2).bind fun bt497 => ((laws_eqIntS.f k bt497.1 t488).bind fun t501 => (if t501 = true then (lw.j0 k t488 t491 bt497.1 bt497.2 (bt497.2 != t491) a0_0 l0_1 bt492.1 bt492.2) else (lw.j0 k t488 t491 bt497.1 bt497.2 true a0_0 l0_1 bt492.1 bt492.2))))) = some r := H
  have A8 := aM A80
  clear A80
  replace H := Option.bind_eq_some_iff.mp H
  obtain ⟨⟨t492, t493⟩, A90, H⟩ := H
  replace H : ((impl_AscentOfOrder.f k t492 t493).bind fun bt497 => ((laws_eqIntS.f k bt497.1 t488).bind fun t501 => (if t501 = true then (lw.j0 k t488 t491 bt497.1 bt497.2 (bt497.2 != t491) a0_0 l0_1 t492 t493) else (lw.j0 k t488 t491 bt497.1 bt497.2 true a0_0 l0_1 t492 t493)))) = some r := H
  have A9 := aM A90
  clear A90
  replace H := Option.bind_eq_some_iff.mp H
  obtain ⟨⟨t497, t500⟩, A100, H⟩ := H
  replace H : ((laws_eqIntS.f k t497 t488).bind fun t501 => (if t501 = true then (lw.j0 k t488 t491 t497 t500 (t500 != t491) a0_0 l0_1 t492 t493) else (lw.j0 k t488 t491 t497 t500 true a0_0 l0_1 t492 t493))) = some r := H
  have A10 := aM A100
  clear A100
  have HC11 := aM H
  clear H
  go_enter Tryd.func4, Tryd.ntmps4
  go_upto_region 8 with (first | ((with_reducible refine gate_dst (N := 1) rfl ?_); refine bE 1 24 #[.int .i64 a0_0, .slice A0_1 l0_1.length c0_1] ?_; intro gb482 hg w12 hbox hb; have _ := aM (below_step bq hb); have _ := aM (hbox); have _ := aM ((gS hg)); have _ := aM ((gS hg)); clear HB; rename_i HB BK482 GW482 GE482; clear hb hbox hg; have hcz13_0 : w12.cell? ⟨gb482, 0, none⟩ = some (.int .i64 a0_0) := (blk_cell BK482.out 0).trans rfl; have hcz13_1 : w12.cell? ⟨gb482, 1, none⟩ = some (.slice A0_1 l0_1.length c0_1) := (blk_cell BK482.out 1).trans rfl; have hfz13_0 := blk_frozen BK482.out 0; have hfz13_1 := blk_frozen BK482.out 1) | ((with_reducible refine gate_callee (f := 7) rfl ?_); refine gL (some 16) Tryd.func7 #[.agg #[.int .i64 a0_0, .slice A0_1 l0_1.length c0_1], .int .i64 1048576] ?_; (with_reducible refine (laws_szOrder.calls a0_0 _ _ l0_1 1048576 t483 _ (cQ (Kd.C_below HR0_1.out HB.out)) HC0_1.out A2.out).mono ?_); rintro e w14 ⟨rfl, hb⟩; refine ⟨_, rfl, ?_⟩; have _ := aM (blk_below (g := gb482) (o := .cells #[.int .i64 a0_0, .slice A0_1 l0_1.length c0_1] 24 (0, 0)) (qQ BK482) hb); have _ := aM (below_step bq hb); clear BK482 HB; rename_i BK482 HB; (try clear hb); (try clear hb2); (try clear hk); (try clear hi); have hcz15_0 : w14.cell? ⟨gb482, 0, none⟩ = some (.int .i64 a0_0) := (blk_cell BK482.out 0).trans rfl; have hcz15_1 : w14.cell? ⟨gb482, 1, none⟩ = some (.slice A0_1 l0_1.length c0_1) := (blk_cell BK482.out 1).trans rfl; have hfz15_0 := blk_frozen BK482.out 0; have hfz15_1 := blk_frozen BK482.out 1) | ((with_reducible refine gate_callee (f := 9) rfl ?_); refine gL (some 21) Tryd.func9 #[.agg #[.int .i64 a0_0, .slice A0_1 l0_1.length c0_1]] ?_; (with_reducible refine (laws_toOrder.calls k a0_0 _ _ l0_1 t484 t485 _ (cQ (Kd.C_below HR0_1.out HB.out)) HC0_1.out A7.out).mono ?_); rintro e w16 ⟨v486, rfl, ho0, hb⟩; refine ⟨_, rfl, ?_⟩; have _ := aM (Kd.R_lower ho0 (below_size bq)); have _ := aM (blk_below (g := gb482) (o := .cells #[.int .i64 a0_0, .slice A0_1 l0_1.length c0_1] 24 (0, 0)) (qQ BK482) hb); have _ := aM (below_step bq hb); clear BK482 HB; rename_i HO487 BK482 HB; (try clear hb); (try clear hb2); (try clear hk); (try clear hi); (try clear ho0); obtain ⟨Ao17, co17, eo17⟩ := Kd.R_slice HO487.out; subst eo17) | ((with_reducible refine gate_callee (f := 16) rfl ?_); refine gL (some 22) Tryd.func16 #[.agg #[.int .i64 t484, .slice Ao17 t485.length co17]] ?_; (with_reducible refine (spec_AscentOfOrder.calls k t484 _ _ t485 t488 t491 _ (cQ ((Kd.R_reads' HO487.out).2.2)) ((Kd.R_reads' HO487.out).2.1) A8.out).mono ?_); rintro e w18 ⟨v489, rfl, ho0, hb⟩; refine ⟨_, rfl, ?_⟩; have _ := aM (Kd.R_elder' (rQ HO487) (Kd.R_base ho0) hb); have _ := aM (Kd.R_lower (Kd.R_new' ho0 (Kd.R_lt (rQ HO487))) (below_size bq)); have _ := aM (blk_below (g := gb482) (o := .cells #[.int .i64 a0_0, .slice A0_1 l0_1.length c0_1] 24 (0, 0)) (qQ BK482) hb); have _ := aM (below_step bq hb); clear HO487 BK482 HB; rename_i HO487 HO490 BK482 HB; (try clear hb); (try clear hb2); (try clear hk); (try clear hi); (try clear ho0); have hcz19_0 : w18.cell? ⟨gb482, 0, none⟩ = some (.int .i64 a0_0) := (blk_cell BK482.out 0).trans rfl; have hcz19_1 : w18.cell? ⟨gb482, 1, none⟩ = some (.slice A0_1 l0_1.length c0_1) := (blk_cell BK482.out 1).trans rfl; have hfz19_0 := blk_frozen BK482.out 0; have hfz19_1 := blk_frozen BK482.out 1) | ((with_reducible refine gate_callee (f := 9) rfl ?_); refine gL (some 26) Tryd.func9 #[.agg #[.int .i64 a0_0, .slice A0_1 l0_1.length c0_1]] ?_; (with_reducible refine (laws_toOrder.calls k a0_0 _ _ l0_1 t492 t493 _ (cQ (Kd.C_below HR0_1.out HB.out)) HC0_1.out A9.out).mono ?_); rintro e w20 ⟨v494, rfl, ho0, hb⟩; refine ⟨_, rfl, ?_⟩; have _ := aM (Kd.R_elder' (rQ HO487) (Kd.R_base ho0) hb); have _ := aM (Kd.R_elder' (rQ HO490) (Kd.R_base ho0) hb); have _ := aM (Kd.R_lower (Kd.R_new' (Kd.R_new' ho0 (Kd.R_lt (rQ HO487))) (Kd.R_lt (rQ HO490))) (below_size bq)); have _ := aM (blk_below (g := gb482) (o := .cells #[.int .i64 a0_0, .slice A0_1 l0_1.length c0_1] 24 (0, 0)) (qQ BK482) hb); have _ := aM (below_step bq hb); clear HO487 HO490 BK482 HB; rename_i HO487 HO490 HO495 BK482 HB; (try clear hb); (try clear hb2); (try clear hk); (try clear hi); (try clear ho0)) | ((with_reducible refine gate_dst (N := 6) rfl ?_); refine bE 6 31 #[.int .i64 0, .slice none 0 0] ?_; intro gb496 hg w21 hbox hb; have _ := aM (Kd.R_below (rQ HO487) hb); have _ := aM (Kd.R_below (rQ HO490) hb); have _ := aM (Kd.R_below (rQ HO495) hb); have _ := aM (blk_below (g := gb482) (o := .cells #[.int .i64 a0_0, .slice A0_1 l0_1.length c0_1] 24 (0, 0)) (qQ BK482) hb); have _ := aM (below_step bq hb); have _ := aM (hbox); have _ := aM ((gS hg)); have _ := aM ((gS hg)); have _ := aM ((by rw [hg]; exact Nat.ne_of_lt (blk_lt (g := gb482) (o := .cells #[.int .i64 a0_0, .slice A0_1 l0_1.length c0_1] 24 (0, 0)) (qQ BK482)) : gb482 ≠ gb496)); have _ := aM ((by rw [hg]; exact Nat.ne_of_gt (blk_lt (g := gb482) (o := .cells #[.int .i64 a0_0, .slice A0_1 l0_1.length c0_1] 24 (0, 0)) (qQ BK482)) : gb496 ≠ gb482)); clear HO487 HO490 HO495 BK482 HB; rename_i HO487 HO490 HO495 BK482 HB BK496 GW496 GE496 NB482_496 NB496_482; clear hb hbox hg; have hnb22 := NB496_482.out; have hnc22 := NB482_496.out; have hcz23_0 : w21.cell? ⟨gb496, 0, none⟩ = some (.int .i64 0) := (blk_cell BK496.out 0).trans rfl; have hcz23_1 : w21.cell? ⟨gb496, 1, none⟩ = some (.slice none 0 0) := (blk_cell BK496.out 1).trans rfl; have hfz23_0 := blk_frozen BK496.out 0; have hfz23_1 := blk_frozen BK496.out 1; obtain ⟨Ao24, co24, eo24⟩ := Kd.R_slice HO495.out; subst eo24) | ((with_reducible refine gate_callee (f := 17) rfl ?_); refine gL (some 29) Tryd.func17 #[.agg #[.int .i64 t492, .slice Ao24 t493.length co24]] ?_; (with_reducible refine (impl_AscentOfOrder.calls k t492 _ _ t493 t497 t500 _ (HVV.out.below bq) ?side1 ?side2 A10.out).mono ?_); (case side1 => refine (Kd.R_reads' (e := 3) (base := w.heap.size) (ok := fun k_ => ((True ∧ some k_ ≠ (.slice Ao17 t485.length co17 : Value).ownBlock) ∧ some k_ ≠ (v489 : Value).ownBlock)) (n := t493.length) (c := co24) ?_).2.2; exact (by (with_reducible repeat first|apply rA|apply rN|apply rD); exact (Kd.R_mono (Kd.R_far (p := ⟨gb496, 1, none⟩) (Kd.R_far (p := ⟨gb496, 0, none⟩) (Kd.R_types HO495.out BK496.out (by decide)) (fun _ hk => hk.2) (.int .i64 t492)) (fun _ hk => hk.2) (.slice Ao24 t493.length co24)) (fun _ h_ => h_.1)))); (case side2 => exact (Kd.R_reads' HO495.out).2.1); rintro e w25 ⟨v498, rfl, ho0, hb⟩; refine ⟨_, rfl, ?_⟩; have _ := aM (Kd.R_elder' (by (with_reducible repeat first|apply rA|apply rN|apply rD); exact (Kd.R_mono (Kd.R_far (p := ⟨gb496, 1, none⟩) (Kd.R_far (p := ⟨gb496, 0, none⟩) (Kd.R_types HO487.out BK496.out (by decide)) (fun _ hk => hk.2) (.int .i64 t492)) (fun _ hk => hk.2) (.slice Ao24 t493.length co24)) (fun _ h_ => h_.1))) (Kd.R_base ho0) hb); have _ := aM (Kd.R_elder' (by (with_reducible repeat first|apply rA|apply rN|apply rD); exact (Kd.R_mono (Kd.R_far (p := ⟨gb496, 1, none⟩) (Kd.R_far (p := ⟨gb496, 0, none⟩) (Kd.R_types HO490.out BK496.out (by decide)) (fun _ hk => hk.2) (.int .i64 t492)) (fun _ hk => hk.2) (.slice Ao24 t493.length co24)) (fun _ h_ => h_.1))) (Kd.R_base ho0) hb); have _ := aM (Kd.R_elder' (by (with_reducible repeat first|apply rA|apply rN|apply rD); exact (Kd.R_mono (Kd.R_far (p := ⟨gb496, 1, none⟩) (Kd.R_far (p := ⟨gb496, 0, none⟩) (Kd.R_types HO495.out BK496.out (by decide)) (fun _ hk => hk.2) (.int .i64 t492)) (fun _ hk => hk.2) (.slice Ao24 t493.length co24)) (fun _ h_ => h_.1))) (Kd.R_base ho0) hb); have _ := aM (Kd.R_lower (Kd.R_new' (Kd.R_new' (Kd.R_new' ho0 (Kd.R_lt (by (with_reducible repeat first|apply rA|apply rN|apply rD); exact (Kd.R_mono (Kd.R_far (p := ⟨gb496, 1, none⟩) (Kd.R_far (p := ⟨gb496, 0, none⟩) (Kd.R_types HO487.out BK496.out (by decide)) (fun _ hk => hk.2) (.int .i64 t492)) (fun _ hk => hk.2) (.slice Ao24 t493.length co24)) (fun _ h_ => h_.1))))) (Kd.R_lt (by (with_reducible repeat first|apply rA|apply rN|apply rD); exact (Kd.R_mono (Kd.R_far (p := ⟨gb496, 1, none⟩) (Kd.R_far (p := ⟨gb496, 0, none⟩) (Kd.R_types HO490.out BK496.out (by decide)) (fun _ hk => hk.2) (.int .i64 t492)) (fun _ hk => hk.2) (.slice Ao24 t493.length co24)) (fun _ h_ => h_.1))))) (Kd.R_lt (by (with_reducible repeat first|apply rA|apply rN|apply rD); exact (Kd.R_mono (Kd.R_far (p := ⟨gb496, 1, none⟩) (Kd.R_far (p := ⟨gb496, 0, none⟩) (Kd.R_types HO495.out BK496.out (by decide)) (fun _ hk => hk.2) (.int .i64 t492)) (fun _ hk => hk.2) (.slice Ao24 t493.length co24)) (fun _ h_ => h_.1))))) (below_size bq)); have _ := aM (blk_below (g := gb482) (o := .cells #[.int .i64 a0_0, .slice A0_1 l0_1.length c0_1] 24 (0, 0)) (by (with_reducible repeat first|apply qN|apply qD|apply qA); refine blk_far ?_ NB482_496.out _; (with_reducible repeat first|apply qN|apply qD|apply qA); refine blk_far ?_ NB482_496.out _; (with_reducible repeat first|apply qN|apply qD|apply qA); exact BK482.out) hb); have _ := aM (blk_below (g := gb496) (o := .cells #[.int .i64 t492, .slice Ao24 t493.length co24] 31 (0, 0)) (by (with_reducible repeat first|apply qN|apply qD|apply qA); refine blk_put (cs := #[.int .i64 t492, .slice none 0 0]) ?_ 1 _ rfl; (with_reducible repeat first|apply qN|apply qD|apply qA); refine blk_put (cs := #[.int .i64 0, .slice none 0 0]) ?_ 0 _ rfl; (with_reducible repeat first|apply qN|apply qD|apply qA); exact BK496.out) hb); have _ := aM (below_step bq hb); clear HO487 HO490 HO495 BK482 BK496 HB; rename_i HO487 HO490 HO495 HO499 BK482 BK496 HB; (try clear hb); (try clear hb2); (try clear hk); (try clear hi); (try clear ho0)))
  (try simp only [Act.put, List.setIfInBounds_toArray, List.set_cons_zero, List.set_cons_succ])
  go_cut [40] (fun v40 wc => ∃ (kq : Nat) (x40_10 : Bool), v40 = .bool x40_10 ∧ Aside0 (lw.j0 kq t488 t491 t497 t500 x40_10 a0_0 l0_1 t492 t493 = some r) ∧ Aside0 (kq ≤ k) ∧ Aside0 (Kd.R (Kd.int .i64) 3 wc w.heap.size (fun k_ => some k_ ≠ (v498 : Value).ownBlock ∧ some k_ ≠ ((.slice Ao24 t493.length co24) : Value).ownBlock) v489 t488) ∧ Aside0 (Kd.R (Kd.int .i64) 3 wc w.heap.size (fun k_ => some k_ ≠ (v489 : Value).ownBlock ∧ some k_ ≠ ((.slice Ao24 t493.length co24) : Value).ownBlock) v498 t497) ∧ Aside0 (Kd.R (Kd.int .i64) 3 wc w.heap.size (fun k_ => some k_ ≠ (v489 : Value).ownBlock ∧ some k_ ≠ (v498 : Value).ownBlock) (.slice Ao24 t493.length co24) t493) ∧ Aside0 (wc.heap[gb482]? = some (.cells #[.int .i64 a0_0, (.slice A0_1 l0_1.length c0_1)] 24 (0, 0))) ∧ Aside0 (wc.heap[gb496]? = some (.cells #[.int .i64 t492, (.slice Ao24 t493.length co24)] 31 (0, 0))) ∧ Aside0 (Below w.heap.size w wc))
  case first =>
   have H := HC11.out
   clear HC11
   replace H := Option.bind_eq_some_iff.mp H
   obtain ⟨t501, A260, H⟩ := H
   replace H : (if t501 = true then (lw.j0 k t488 t491 t497 t500 (t500 != t491) a0_0 l0_1 t492 t493) else (lw.j0 k t488 t491 t497 t500 true a0_0 l0_1 t492 t493)) = some r := H
   have A26 := aM A260
   clear A260
   by_cases c27 : t501 = true
   ·subst c27
    have H1 : (lw.j0 k t488 t491 t497 t500 (t500 != t491) a0_0 l0_1 t492 t493) = some r := by rw [if_pos rfl] at H; exact H
    clear H
    have H := H1
    clear H1
    have H' := aM H
    clear H
    obtain ⟨Ao28, co28, eo28⟩ := Kd.R_slice HO499.out
    subst eo28
    obtain ⟨Ao29, co29, eo29⟩ := Kd.R_slice HO490.out
    subst eo29
    go_wp2_with (first | ((with_reducible refine gate_callee (f := 18) rfl ?_); refine gL (some 34) Tryd.func18 #[.slice Ao28 t497.length co28, .slice Ao29 t488.length co29] ?_; (with_reducible refine (laws_eqIntS.calls k _ _ t497 _ _ t488 true _ (cQ ((Kd.R_reads' HO499.out).2.2)) ((Kd.R_reads' HO499.out).2.1) ?side3 ?side4 A26.out).mono ?_); (case side3 => repeat (first | exact (Kd.R_reads' HO490.out).2.2 | (with_reducible refine Kd.C_alloc ?_ _) | (with_reducible refine Kd.C_drewN ?_ _) | (with_reducible refine Kd.C_drew ?_))); (case side4 => exact (Kd.R_reads' HO490.out).2.1); rintro e w' ⟨rfl, ⟨nd, rfl⟩⟩; refine ⟨_, rfl, ?_⟩))
    go_meet
    case rel => exact ⟨_, ((t500 != t491)), (by first | rfl | (simp; done) | (simp [*]; done)), H', ⟨by first | omega | exact Nat.le_refl _⟩, ⟨by (with_reducible repeat first|apply rA|apply rN|apply rD); exact Kd.R_mono HO490.out (fun _ hk => ⟨hk.2, hk.1.2⟩)⟩, ⟨by (with_reducible repeat first|apply rA|apply rN|apply rD); exact Kd.R_mono HO499.out (fun _ hk => ⟨hk.1.2, hk.2⟩)⟩, ⟨by (with_reducible repeat first|apply rA|apply rN|apply rD); exact Kd.R_mono HO495.out (fun _ hk => ⟨hk.1.2, hk.2⟩)⟩, ⟨by (with_reducible repeat first|apply qN|apply qD|apply qA); exact BK482.out⟩, ⟨by (with_reducible repeat first|apply qN|apply qD|apply qA); exact BK496.out⟩, ⟨by exact bq⟩⟩
   ·replace c27 := Bool.eq_false_iff.mpr c27
    subst c27
    have H1 : (lw.j0 k t488 t491 t497 t500 true a0_0 l0_1 t492 t493) = some r := by rw [if_neg (show ¬ (false = true) by decide)] at H; exact H
    clear H
    have H := H1
    clear H1
    have H' := aM H
    clear H
    obtain ⟨Ao30, co30, eo30⟩ := Kd.R_slice HO499.out
    subst eo30
    obtain ⟨Ao31, co31, eo31⟩ := Kd.R_slice HO490.out
    subst eo31
    go_wp2_with (first | ((with_reducible refine gate_callee (f := 18) rfl ?_); refine gL (some 34) Tryd.func18 #[.slice Ao30 t497.length co30, .slice Ao31 t488.length co31] ?_; (with_reducible refine (laws_eqIntS.calls k _ _ t497 _ _ t488 false _ (cQ ((Kd.R_reads' HO499.out).2.2)) ((Kd.R_reads' HO499.out).2.1) ?side3 ?side4 A26.out).mono ?_); (case side3 => repeat (first | exact (Kd.R_reads' HO490.out).2.2 | (with_reducible refine Kd.C_alloc ?_ _) | (with_reducible refine Kd.C_drewN ?_ _) | (with_reducible refine Kd.C_drew ?_))); (case side4 => exact (Kd.R_reads' HO490.out).2.1); rintro e w' ⟨rfl, ⟨nd, rfl⟩⟩; refine ⟨_, rfl, ?_⟩))
    go_meet
    case rel => exact ⟨_, (true), (by first | rfl | (simp; done) | (simp [*]; done)), H', ⟨by first | omega | exact Nat.le_refl _⟩, ⟨by (with_reducible repeat first|apply rA|apply rN|apply rD); exact Kd.R_mono HO490.out (fun _ hk => ⟨hk.2, hk.1.2⟩)⟩, ⟨by (with_reducible repeat first|apply rA|apply rN|apply rD); exact Kd.R_mono HO499.out (fun _ hk => ⟨hk.1.2, hk.2⟩)⟩, ⟨by (with_reducible repeat first|apply rA|apply rN|apply rD); exact Kd.R_mono HO495.out (fun _ hk => ⟨hk.1.2, hk.2⟩)⟩, ⟨by (with_reducible repeat first|apply qN|apply qD|apply qA); exact BK482.out⟩, ⟨by (with_reducible repeat first|apply qN|apply qD|apply qA); exact BK496.out⟩, ⟨by exact bq⟩⟩
  case rest =>
   clear HC11
   try clear c1
   try clear c2
   try clear p2
   try clear c3
   try clear c3b0
   try clear c4
   try clear c7
   try clear c9
   try clear c16
   try clear c17
   try clear c18
   try clear c22
   try clear c27
   try clear hcz13_0
   try clear hcz13_1
   try clear hcz15_0
   try clear hcz15_1
   try clear hcz19_0
   try clear hcz19_1
   try clear hcz23_0
   try clear hcz23_1
   try clear hcz5_0
   try clear hcz5_1
   try clear hfz13_0
   try clear hfz13_1
   try clear hfz15_0
   try clear hfz15_1
   try clear hfz19_0
   try clear hfz19_1
   try clear hfz23_0
   try clear hfz23_1
   try clear hfz5_0
   try clear hfz5_1
   obtain ⟨kq, x40_10, rfl, HA, HJ10, HO_4, HO_7, HO_497001, BK482, BK496, HB⟩ := hcut
   cases kq with
   | zero => exact absurd HA.out (by simp [lw.j0])
   | succ kj10 =>
    have H := HA.out
    clear HA
    simp only [lw.j0] at H
    by_cases c32 : x40_10 = true
    ·subst c32
     have H1 : (some false) = some r := by rw [if_pos rfl] at H; exact H
     clear H
     have H := H1
     clear H1
     obtain rfl := Option.some.inj H
     go_wp2
     go_ret
     exact ⟨by first | rfl | (simp [errW_none, errW_some] <;> rfl) | (simp [*, errW_none, errW_some] <;> rfl), by exact bq⟩
    ·replace c32 := Bool.eq_false_iff.mpr c32
     subst c32
     have H1 : ((laws_toOrder.f kj10 a0_0 l0_1).bind fun bt502 => ((laws_eqOrder.f kj10 t492 t493 bt502.1 bt502.2).bind fun t506 => (if t506 = true then ((laws_markOrder.f kj10 t492 t493 1).bind fun bt507 => (if bt507.1 < 0 then (lw.j1 kj10 t488 t491 t497 true a0_0 l0_1) else ((laws_eqIntS.f kj10 t497 t488).bind fun t509 => (if t509 = true then (lw.j1 kj10 t488 t491 t497 (t500 != t491) a0_0 l0_1) else (lw.j1 kj10 t488 t491 t497 true a0_0 l0_1))))) else (some false)))) = some r := by rw [if_neg (show ¬ (false = true) by decide)] at H; exact H
     clear H
     have H := H1
     clear H1
     replace H := Option.bind_eq_some_iff.mp H
     obtain ⟨⟨t502, t503⟩, A330, H⟩ := H
     replace H : ((laws_eqOrder.f kj10 t492 t493 t502 t503).bind fun t506 => (if t506 = true then ((laws_markOrder.f kj10 t492 t493 1).bind fun bt507 => (if bt507.1 < 0 then (lw.j1 kj10 t488 t491 t497 true a0_0 l0_1) else ((laws_eqIntS.f kj10 t497 t488).bind fun t509 => (if t509 = true then (lw.j1 kj10 t488 t491 t497 (t500 != t491) a0_0 l0_1) else (lw.j1 kj10 t488 t491 t497 true a0_0 l0_1))))) else (some false))) = some r := H
     have A33 := aM A330
     clear A330
     replace H := Option.bind_eq_some_iff.mp H
     obtain ⟨t506, A340, H⟩ := H
     replace H : (if t506 = true then ((laws_markOrder.f kj10 t492 t493 1).bind fun bt507 => (if bt507.1 < 0 then (lw.j1 kj10 t488 t491 t497 true a0_0 l0_1) else ((laws_eqIntS.f kj10 t497 t488).bind fun t509 => (if t509 = true then (lw.j1 kj10 t488 t491 t497 (t500 != t491) a0_0 l0_1) else (lw.j1 kj10 t488 t491 t497 true a0_0 l0_1))))) else (some false)) = some r := H
     have A34 := aM A340
     clear A340
     by_cases c35 : t506 = true
     ·subst c35
      have H1 : ((laws_markOrder.f kj10 t492 t493 1).bind fun bt507 => (if bt507.1 < 0 then (lw.j1 kj10 t488 t491 t497 true a0_0 l0_1) else ((laws_eqIntS.f kj10 t497 t488).bind fun t509 => (if t509 = true then (lw.j1 kj10 t488 t491 t497 (t500 != t491) a0_0 l0_1) else (lw.j1 kj10 t488 t491 t497 true a0_0 l0_1))))) = some r := by rw [if_pos rfl] at H; exact H
      clear H
      have H := H1
      clear H1
      replace H := Option.bind_eq_some_iff.mp H
      obtain ⟨⟨t507, t508⟩, A360, H⟩ := H
      replace H : (if t507 < 0 then (lw.j1 kj10 t488 t491 t497 true a0_0 l0_1) else ((laws_eqIntS.f kj10 t497 t488).bind fun t509 => (if t509 = true then (lw.j1 kj10 t488 t491 t497 (t500 != t491) a0_0 l0_1) else (lw.j1 kj10 t488 t491 t497 true a0_0 l0_1)))) = some r := H
      have A36 := aM A360
      clear A360
      have HC37 := aM H
      clear H
      try go_wp2
      have n0_ := aM (Kd.R_drew HO_4.out)
      have n1_ := aM (Kd.R_drew HO_7.out)
      have n2_ := aM (Kd.R_drew HO_497001.out)
      have n3_ := aM (blk_drew BK482.out)
      have n4_ := aM (blk_drew BK496.out)
      have n5_ := aM (below_drew1 HB.out)
      clear HO_4
      clear HO_7
      clear HO_497001
      clear BK482
      clear BK496
      clear HB
      have HO_4 := n0_
      have HO_7 := n1_
      have HO_497001 := n2_
      have BK482 := n3_
      have BK496 := n4_
      have HB := n5_
      clear n0_ n1_ n2_ n3_ n4_ n5_
      refine start_ (n := 5) (S := fun w' => w'.cell? ⟨gb496, 0, none⟩ = some (.int .i64 t492) ∧ w'.cell? ⟨gb496, 1, none⟩ = some (.slice Ao24 t493.length co24) ∧ w'.cell? ⟨gb482, 0, none⟩ = some (.int .i64 a0_0) ∧ w'.cell? ⟨gb482, 1, none⟩ = some (.slice A0_1 l0_1.length c0_1)) (ds := []) #[false, false, false, false, false] (by kernel_rfl) rfl rfl ⟨(blk_cell BK496.out 0).trans rfl, (blk_cell BK496.out 1).trans rfl, (blk_cell BK482.out 0).trans rfl, (blk_cell BK482.out 1).trans rfl⟩ (fun hHeld => ?_)
      generalize wc.drew = w38 at HO_4 HO_7 HO_497001 BK482 BK496 HB hHeld ⊢
      refine take_ (i := 0) (N := some 41) (v := ?_) (a' := ?_) #[true, false, false, false, false] rfl rfl (by kernel_rfl) (fun _ _ _ h => h) (Or.inl ⟨by rfl, ?_⟩) hHeld ?_ ?_
      rotate_left
      ·rintro w' ⟨s0, s1, s2, s3⟩
       go_simp
       with_reducible rfl
      rotate_left
      ·simp only [Act.put, List.setIfInBounds_toArray, List.set_cons_zero, List.set_cons_succ, i64_w, i32_w]
       rfl
      refine take_ (i := 1) (N := some 42) (v := ?_) (a' := ?_) #[true, true, false, false, false] rfl rfl (by kernel_rfl) (fun _ _ _ h => h) (Or.inl ⟨by rfl, ?_⟩) hHeld ?_ ?_
      rotate_left
      ·rintro w' ⟨s0, s1, s2, s3⟩
       go_simp
       with_reducible rfl
      rotate_left
      ·simp only [Act.put, List.setIfInBounds_toArray, List.set_cons_zero, List.set_cons_succ, i64_w, i32_w]
       rfl
      refine one_ (i := 2) (N := some 43) #[true, true, true, false, false] rfl rfl (by kernel_rfl) (by decide) (fun K hK => ?_)
      refine goes_ Tryd.func9 (by kernel_rfl) rfl #[.agg #[.int .i64 a0_0, .slice A0_1 l0_1.length c0_1]] (by rfl) rfl rfl (by (try simp only [List.map_toArray, List.map_cons, List.map_nil]); first | done | rfl | (simp only [List.length_drop, List.length_take]; rfl)) ?_
      with_reducible refine (laws_toOrder.calls kj10 a0_0 _ _ l0_1 t502 t503 _ ?side1 ?side2 A33.out).mono ?_
      (case side1 => repeat (first | exact (Kd.C_below HR0_1.out HB.out) | (with_reducible refine Kd.C_alloc ?_ _) | (with_reducible refine Kd.C_drewN ?_ _) | (with_reducible refine Kd.C_drew ?_)))
      (case side2 => exact HC0_1.out)
      rintro e w39 ⟨v504, rfl, ho0, hb⟩
      refine ⟨_, rfl, ?_⟩
      have n0_ := aM (Kd.R_elder' (rQ HO_4) (Kd.R_base ho0) hb)
      have n1_ := aM (Kd.R_elder' (rQ HO_7) (Kd.R_base ho0) hb)
      have n2_ := aM (Kd.R_elder' (rQ HO_497001) (Kd.R_base ho0) hb)
      have n3_ := aM (Kd.R_lower (Kd.R_new' (Kd.R_new' (Kd.R_new' ho0 (Kd.R_lt (rQ HO_4))) (Kd.R_lt (rQ HO_7))) (Kd.R_lt (rQ HO_497001))) (below_size bq))
      have n4_ := aM (blk_below (g := gb482) (o := .cells #[.int .i64 a0_0, .slice A0_1 l0_1.length c0_1] 24 (0, 0)) (qQ BK482) hb)
      have n5_ := aM (blk_below (g := gb496) (o := .cells #[.int .i64 t492, .slice Ao24 t493.length co24] 31 (0, 0)) (qQ BK496) hb)
      have n6_ := aM (below_step bq hb)
      clear HO_4
      clear HO_7
      clear HO_497001
      clear BK482
      clear BK496
      clear HB
      have HO_4 := n0_
      have HO_7 := n1_
      have HO_497001 := n2_
      have HO505 := n3_
      have BK482 := n4_
      have BK496 := n5_
      have HB := n6_
      clear n0_ n1_ n2_ n3_ n4_ n5_ n6_
      (try clear hb)
      (try clear hb2)
      (try clear hk)
      (try clear hi)
      (try clear ho0)
      obtain ⟨Ao40, co40, eo40⟩ := Kd.R_slice HO505.out
      (first | subst eo40 | (injection eo40 with f1_ f2_ f3_; have f4_ := f1_.symm; have f5_ := f3_.symm; clear f1_ f2_ f3_; subst f4_; subst f5_))
      refine hK.out _ _ ⟨(blk_cell BK496.out 0).trans rfl, (blk_cell BK496.out 1).trans rfl, (blk_cell BK482.out 0).trans rfl, (blk_cell BK482.out 1).trans rfl⟩ (fun hHeld => ?_)
      clear hK K
      refine norm_ (a' := ?_) ?_ ?_
      rotate_left
      ·show Act.put _ (some 43) _ = _
       simp only [Act.put, List.setIfInBounds_toArray, List.set_cons_zero, List.set_cons_succ, i64_w, i32_w]
       rfl
      refine one_ (i := 3) (N := some 44) #[true, true, true, true, false] rfl rfl (by kernel_rfl) (by decide) (fun K hK => ?_)
      refine goes_ Tryd.func12 (by kernel_rfl) rfl #[.agg #[.int .i64 t492, .slice Ao24 t493.length co24], .agg #[.int .i64 t502, .slice Ao40 t503.length co40]] (by rfl) rfl rfl (by (try simp only [List.map_toArray, List.map_cons, List.map_nil]); first | done | rfl | (simp only [List.length_drop, List.length_take]; rfl)) ?_
      with_reducible refine (laws_eqOrder.calls kj10 t492 _ _ t493 t502 _ _ t503 true _ ?side1 ?side2 ?side3 ?side4 A34.out).mono ?_
      (case side1 => repeat (first | exact (Kd.R_reads' HO_497001.out).2.2 | (with_reducible refine Kd.C_alloc ?_ _) | (with_reducible refine Kd.C_drewN ?_ _) | (with_reducible refine Kd.C_drew ?_)))
      (case side2 => exact (Kd.R_reads' HO_497001.out).2.1)
      (case side3 => repeat (first | exact (Kd.R_reads' HO505.out).2.2 | (with_reducible refine Kd.C_alloc ?_ _) | (with_reducible refine Kd.C_drewN ?_ _) | (with_reducible refine Kd.C_drew ?_)))
      (case side4 => exact (Kd.R_reads' HO505.out).2.1)
      rintro e w41 ⟨rfl, hb⟩
      refine ⟨_, rfl, ?_⟩
      have n0_ := aM (Kd.R_below (rQ HO_4) hb)
      have n1_ := aM (Kd.R_below (rQ HO_7) hb)
      have n2_ := aM (Kd.R_below (rQ HO_497001) hb)
      have n3_ := aM (Kd.R_below (rQ HO505) hb)
      have n4_ := aM (blk_below (g := gb482) (o := .cells #[.int .i64 a0_0, .slice A0_1 l0_1.length c0_1] 24 (0, 0)) (qQ BK482) hb)
      have n5_ := aM (blk_below (g := gb496) (o := .cells #[.int .i64 t492, .slice Ao24 t493.length co24] 31 (0, 0)) (qQ BK496) hb)
      have n6_ := aM (below_step bq hb)
      clear HO_4
      clear HO_7
      clear HO_497001
      clear HO505
      clear BK482
      clear BK496
      clear HB
      have HO_4 := n0_
      have HO_7 := n1_
      have HO_497001 := n2_
      have HO505 := n3_
      have BK482 := n4_
      have BK496 := n5_
      have HB := n6_
      clear n0_ n1_ n2_ n3_ n4_ n5_ n6_
      (try clear hb)
      (try clear hb2)
      (try clear hk)
      (try clear hi)
      refine hK.out _ _ ⟨(blk_cell BK496.out 0).trans rfl, (blk_cell BK496.out 1).trans rfl, (blk_cell BK482.out 0).trans rfl, (blk_cell BK482.out 1).trans rfl⟩ (fun hHeld => ?_)
      clear hK K
      refine norm_ (a' := ?_) ?_ ?_
      rotate_left
      ·show Act.put _ (some 44) _ = _
       simp only [Act.put, List.setIfInBounds_toArray, List.set_cons_zero, List.set_cons_succ, i64_w, i32_w]
       rfl
      refine pure_ (i := 4) (N := some 45) (v := ?_) (a' := ?_) #[true, true, true, true, true] rfl rfl (by kernel_rfl) (fun _ _ _ h => h) (Or.inl ⟨by rfl, ?_⟩) ?_ ?_
      rotate_left
      ·intro w'
       go_simp
       with_reducible rfl
      rotate_left
      ·simp only [Act.put, List.setIfInBounds_toArray, List.set_cons_zero, List.set_cons_succ, i64_w, i32_w]
       rfl
      refine done_ (by kernel_rfl) ?_
      have hnb42 := NB496_482.out
      have hnc42 := NB482_496.out
      have hcz43_0 : w41.cell? ⟨gb496, 0, none⟩ = some (.int .i64 t492) := (blk_cell BK496.out 0).trans rfl
      have hcz43_1 : w41.cell? ⟨gb496, 1, none⟩ = some (.slice Ao24 t493.length co24) := (blk_cell BK496.out 1).trans rfl
      have hfz43_0 := blk_frozen BK496.out 0
      have hfz43_1 := blk_frozen BK496.out 1
      go_upto_region 14 with (first | ((with_reducible refine gate_callee (f := 13) rfl ?_); refine gL (some 48) Tryd.func13 #[.agg #[.int .i64 t492, .slice Ao24 t493.length co24], .int .i64 1] ?_; (with_reducible refine (laws_markOrder.calls kj10 t492 (fun k_ => some k_ = (.slice Ao24 t493.length co24 : Value).ownBlock) (.slice Ao24 t493.length co24) t493 1 t507 t508 w _ ?side1 ?side2 A36.out).mono ?_); (case side1 => exact bq); (case side2 => exact Kd.R_tight rfl HO_497001.out); rintro e w44 ⟨rfl, hy0, hb, hkp⟩; refine ⟨_, rfl, ?_⟩; have _ := aM (Kd.R_mono (ok' := fun k_ => some k_ ≠ (v498 : Value).ownBlock ∧ some k_ ≠ (.slice Ao24 t493.length co24 : Value).ownBlock ∧ some k_ ≠ (.slice Ao40 t503.length co40 : Value).ownBlock) (Kd.R_keptB (HO_4.out) hkp (fun k_ hk_ hs_ => (hk_.1.2) hs_)) (fun k_ hk_ => ⟨hk_.1.1.1, hk_.1.1.2, hk_.1.2⟩)); have _ := aM (Kd.R_mono (ok' := fun k_ => some k_ ≠ (v489 : Value).ownBlock ∧ some k_ ≠ (.slice Ao24 t493.length co24 : Value).ownBlock ∧ some k_ ≠ (.slice Ao40 t503.length co40 : Value).ownBlock) (Kd.R_keptB (HO_7.out) hkp (fun k_ hk_ hs_ => (hk_.1.2) hs_)) (fun k_ hk_ => ⟨hk_.1.1.1, hk_.1.1.2, hk_.1.2⟩)); have _ := aM (Kd.R_reok rfl hy0 (fun k_ e_ => HO_497001.out.1 k_ e_)); have _ := aM (blk_kept (qQ BK482) hkp (fun hs_ => (fun e_ => (Kd.R_ne HO_497001.out BK482.out (by decide)) e_) hs_)); have _ := aM (blk_kept (qQ BK496) hkp (fun hs_ => (fun e_ => (Kd.R_ne HO_497001.out BK496.out (by decide)) e_) hs_)); have _ := aM (Kd.R_mono (ok' := fun k_ => some k_ ≠ (v489 : Value).ownBlock ∧ some k_ ≠ (v498 : Value).ownBlock ∧ some k_ ≠ (.slice Ao24 t493.length co24 : Value).ownBlock) (Kd.R_keptB (HO505.out) hkp (fun k_ hk_ hs_ => (hk_.2) hs_)) (fun k_ hk_ => ⟨hk_.1.1.1.2, hk_.1.1.2, hk_.1.2⟩)); have _ := aM (hb); clear HO_4 HO_7 HO_497001 BK482 BK496 HO505 HB; rename_i HO_4 HO_7 HO_497001 BK482 BK496 HO505 HB; (try clear hb); (try clear hkp); (try clear hy0)))
      (try simp only [Act.put, List.setIfInBounds_toArray, List.set_cons_zero, List.set_cons_succ])
      go_cut [61] (fun v61 wc => ∃ (kq : Nat) (x61_36 : Bool), v61 = .bool x61_36 ∧ Aside0 (lw.j1 kq t488 t491 t497 x61_36 a0_0 l0_1 = some r) ∧ Aside0 (kq ≤ kj10) ∧ Aside0 (Kd.R (Kd.int .i64) 3 wc w.heap.size (fun k_ => some k_ ≠ (v498 : Value).ownBlock ∧ some k_ ≠ ((.slice Ao24 t493.length co24) : Value).ownBlock) v489 t488) ∧ Aside0 (Kd.R (Kd.int .i64) 3 wc w.heap.size (fun k_ => some k_ ≠ (v489 : Value).ownBlock ∧ some k_ ≠ ((.slice Ao24 t493.length co24) : Value).ownBlock) v498 t497) ∧ Aside0 (Kd.R (Kd.int .i64) 3 wc w.heap.size (fun k_ => some k_ ≠ (v489 : Value).ownBlock ∧ some k_ ≠ (v498 : Value).ownBlock) (.slice Ao24 t493.length co24) t508) ∧ Aside0 (wc.heap[gb482]? = some (.cells #[.int .i64 a0_0, (.slice A0_1 l0_1.length c0_1)] 24 (0, 0))) ∧ Aside0 (wc.heap[gb496]? = some (.cells #[.int .i64 t492, (.slice Ao24 t493.length co24)] 31 (0, 0))) ∧ Aside0 (Below w.heap.size w wc))
      case first =>
       have H := HC37.out
       clear HC37
       by_cases c45 : t507 < 0
       ·rw [if_pos c45] at H
        have c45b0 : decide (t507 < 0) = true := decide_eq_true c45
        clear c45
        (first | rw [c45b0] | (simp only [i64_w, i32_w]; rw [c45b0]) | skip)
        have H' := aM H
        clear H
        go_wp2
        go_meet
        case rel => exact ⟨_, (true), (by first | rfl | (simp; done) | (simp [*]; done)), H', ⟨by have := HJ10.out; first | omega | exact Nat.le_refl _⟩, ⟨by (with_reducible repeat first|apply rA|apply rN|apply rD); exact Kd.R_mono HO_4.out (fun _ hk => ⟨hk.1, hk.2.1⟩)⟩, ⟨by (with_reducible repeat first|apply rA|apply rN|apply rD); exact Kd.R_mono HO_7.out (fun _ hk => ⟨hk.1, hk.2.1⟩)⟩, ⟨by (with_reducible repeat first|apply rA|apply rN|apply rD); exact Kd.R_mono HO_497001.out (fun _ hk => ⟨hk.1.1, hk.1.2⟩)⟩, ⟨by (with_reducible repeat first|apply qN|apply qD|apply qA); exact BK482.out⟩, ⟨by (with_reducible repeat first|apply qN|apply qD|apply qA); exact BK496.out⟩, ⟨by exact bq⟩⟩
       ·rw [if_neg c45] at H
        have c45b0 : decide (t507 < 0) = false := decide_eq_false c45
        clear c45
        (first | rw [c45b0] | (simp only [i64_w, i32_w]; rw [c45b0]) | skip)
        replace H := Option.bind_eq_some_iff.mp H
        obtain ⟨t509, A460, H⟩ := H
        replace H : (if t509 = true then (lw.j1 kj10 t488 t491 t497 (t500 != t491) a0_0 l0_1) else (lw.j1 kj10 t488 t491 t497 true a0_0 l0_1)) = some r := H
        have A46 := aM A460
        clear A460
        by_cases c47 : t509 = true
        ·subst c47
         have H1 : (lw.j1 kj10 t488 t491 t497 (t500 != t491) a0_0 l0_1) = some r := by rw [if_pos rfl] at H; exact H
         clear H
         have H := H1
         clear H1
         have H' := aM H
         clear H
         obtain ⟨Ao48, co48, eo48⟩ := Kd.R_slice HO_7.out
         subst eo48
         obtain ⟨Ao49, co49, eo49⟩ := Kd.R_slice HO_4.out
         subst eo49
         go_wp2_with (first | (go_at_call 18; (with_reducible refine (laws_eqIntS.calls kj10 _ _ t497 _ _ t488 true _ (cQ ((Kd.R_reads' HO_7.out).2.2)) ((Kd.R_reads' HO_7.out).2.1) ?side3 ?side4 A46.out).mono ?_); (case side3 => repeat (first | exact (Kd.R_reads' HO_4.out).2.2 | (with_reducible refine Kd.C_alloc ?_ _) | (with_reducible refine Kd.C_drewN ?_ _) | (with_reducible refine Kd.C_drew ?_))); (case side4 => exact (Kd.R_reads' HO_4.out).2.1); rintro e w' ⟨rfl, ⟨nd, rfl⟩⟩))
         go_meet
         case rel => exact ⟨_, ((t500 != t491)), (by first | rfl | (simp; done) | (simp [*]; done)), H', ⟨by have := HJ10.out; first | omega | exact Nat.le_refl _⟩, ⟨by (with_reducible repeat first|apply rA|apply rN|apply rD); exact Kd.R_mono HO_4.out (fun _ hk => ⟨hk.1, hk.2.1⟩)⟩, ⟨by (with_reducible repeat first|apply rA|apply rN|apply rD); exact Kd.R_mono HO_7.out (fun _ hk => ⟨hk.1, hk.2.1⟩)⟩, ⟨by (with_reducible repeat first|apply rA|apply rN|apply rD); exact Kd.R_mono HO_497001.out (fun _ hk => ⟨hk.1.1, hk.1.2⟩)⟩, ⟨by (with_reducible repeat first|apply qN|apply qD|apply qA); exact BK482.out⟩, ⟨by (with_reducible repeat first|apply qN|apply qD|apply qA); exact BK496.out⟩, ⟨by exact bq⟩⟩
        ·replace c47 := Bool.eq_false_iff.mpr c47
         subst c47
         have H1 : (lw.j1 kj10 t488 t491 t497 true a0_0 l0_1) = some r := by rw [if_neg (show ¬ (false = true) by decide)] at H; exact H
         clear H
         have H := H1
         clear H1
         have H' := aM H
         clear H
         obtain ⟨Ao50, co50, eo50⟩ := Kd.R_slice HO_7.out
         subst eo50
         obtain ⟨Ao51, co51, eo51⟩ := Kd.R_slice HO_4.out
         subst eo51
         go_wp2_with (first | (go_at_call 18; (with_reducible refine (laws_eqIntS.calls kj10 _ _ t497 _ _ t488 false _ (cQ ((Kd.R_reads' HO_7.out).2.2)) ((Kd.R_reads' HO_7.out).2.1) ?side3 ?side4 A46.out).mono ?_); (case side3 => repeat (first | exact (Kd.R_reads' HO_4.out).2.2 | (with_reducible refine Kd.C_alloc ?_ _) | (with_reducible refine Kd.C_drewN ?_ _) | (with_reducible refine Kd.C_drew ?_))); (case side4 => exact (Kd.R_reads' HO_4.out).2.1); rintro e w' ⟨rfl, ⟨nd, rfl⟩⟩))
         go_meet
         case rel => exact ⟨_, (true), (by first | rfl | (simp; done) | (simp [*]; done)), H', ⟨by have := HJ10.out; first | omega | exact Nat.le_refl _⟩, ⟨by (with_reducible repeat first|apply rA|apply rN|apply rD); exact Kd.R_mono HO_4.out (fun _ hk => ⟨hk.1, hk.2.1⟩)⟩, ⟨by (with_reducible repeat first|apply rA|apply rN|apply rD); exact Kd.R_mono HO_7.out (fun _ hk => ⟨hk.1, hk.2.1⟩)⟩, ⟨by (with_reducible repeat first|apply rA|apply rN|apply rD); exact Kd.R_mono HO_497001.out (fun _ hk => ⟨hk.1.1, hk.1.2⟩)⟩, ⟨by (with_reducible repeat first|apply qN|apply qD|apply qA); exact BK482.out⟩, ⟨by (with_reducible repeat first|apply qN|apply qD|apply qA); exact BK496.out⟩, ⟨by exact bq⟩⟩
      case rest =>
       clear HC37
       try clear c1
       try clear c2
       try clear p2
       try clear c3
       try clear c3b0
       try clear c4
       try clear c7
       try clear c9
       try clear c12
       try clear c13
       try clear c16
       try clear c17
       try clear c18
       try clear c22
       try clear c27
       try clear c32
       try clear c35
       try clear c42
       try clear c45
       try clear c45b0
       try clear c47
       try clear hcz13_0
       try clear hcz13_1
       try clear hcz15_0
       try clear hcz15_1
       try clear hcz19_0
       try clear hcz19_1
       try clear hcz23_0
       try clear hcz23_1
       try clear hcz43_0
       try clear hcz43_1
       try clear hcz5_0
       try clear hcz5_1
       try clear hfz13_0
       try clear hfz13_1
       try clear hfz15_0
       try clear hfz15_1
       try clear hfz19_0
       try clear hfz19_1
       try clear hfz23_0
       try clear hfz23_1
       try clear hfz43_0
       try clear hfz43_1
       try clear hfz5_0
       try clear hfz5_1
       try clear p2
       obtain ⟨kq, x61_36, rfl, HA, HJ36, HO_4, HO_7, HO_497001, BK482, BK496, HB⟩ := hcut
       have hl497001_36 := (Kd.R_reads' HO_497001.out).1
       rw [hl497001_36] at HO_497001
       (try simp only [hl497001_36])
       (try simp only [hl497001_36] at BK482)
       (try simp only [hl497001_36] at BK496)
       (try simp only [hl497001_36] at HO_4)
       (try simp only [hl497001_36] at HO_7)
       cases kq with
       | zero => exact absurd HA.out (by simp [lw.j1])
       | succ kj36 =>
        have H := HA.out
        clear HA
        simp only [lw.j1] at H
        by_cases c52 : x61_36 = true
        ·subst c52
         have H1 : (some false) = some r := by rw [if_pos rfl] at H; exact H
         clear H
         have H := H1
         clear H1
         obtain rfl := Option.some.inj H
         go_wp2
         go_ret
         exact ⟨by first | rfl | (simp [errW_none, errW_some] <;> rfl) | (simp [*, errW_none, errW_some] <;> rfl), by exact bq⟩
        ·replace c52 := Bool.eq_false_iff.mpr c52
         subst c52
         have H1 : ((laws_markIntS.f kj36 t497 1).bind fun bt510 => ((laws_heldIntS.f kj36 bt510.2 1).bind fun t512 => (if t512 < 0 then (some false) else (if t512 = bt510.1 then ((laws_toOrder.f kj36 a0_0 l0_1).bind fun bt513 => ((impl_AscentOfOrder.f kj36 bt513.1 bt513.2).bind fun bt517 => ((laws_eqIntS.f kj36 bt517.1 t488).bind fun t521 => (if t521 = true then (lw.j2 kj36 bt510.2 bt510.1 (bt517.2 != t491)) else (lw.j2 kj36 bt510.2 bt510.1 true))))) else (some false))))) = some r := by rw [if_neg (show ¬ (false = true) by decide)] at H; exact H
         clear H
         have H := H1
         clear H1
         replace H := Option.bind_eq_some_iff.mp H
         obtain ⟨⟨t510, t511⟩, A530, H⟩ := H
         replace H : ((laws_heldIntS.f kj36 t511 1).bind fun t512 => (if t512 < 0 then (some false) else (if t512 = t510 then ((laws_toOrder.f kj36 a0_0 l0_1).bind fun bt513 => ((impl_AscentOfOrder.f kj36 bt513.1 bt513.2).bind fun bt517 => ((laws_eqIntS.f kj36 bt517.1 t488).bind fun t521 => (if t521 = true then (lw.j2 kj36 t511 t510 (bt517.2 != t491)) else (lw.j2 kj36 t511 t510 true))))) else (some false)))) = some r := H
         have A53 := aM A530
         clear A530
         replace H := Option.bind_eq_some_iff.mp H
         obtain ⟨t512, A540, H⟩ := H
         replace H : (if t512 < 0 then (some false) else (if t512 = t510 then ((laws_toOrder.f kj36 a0_0 l0_1).bind fun bt513 => ((impl_AscentOfOrder.f kj36 bt513.1 bt513.2).bind fun bt517 => ((laws_eqIntS.f kj36 bt517.1 t488).bind fun t521 => (if t521 = true then (lw.j2 kj36 t511 t510 (bt517.2 != t491)) else (lw.j2 kj36 t511 t510 true))))) else (some false))) = some r := H
         have A54 := aM A540
         clear A540
         by_cases c55 : t512 < 0
         ·rw [if_pos c55] at H
          have c55b0 : decide (t512 < 0) = true := decide_eq_true c55
          clear c55
          obtain rfl := Option.some.inj H
          obtain ⟨Ao56, co56, eo56⟩ := Kd.R_slice HO_7.out
          subst eo56
          go_wp2_with (first | ((with_reducible refine gate_callee (f := 19) rfl ?_); refine gL (some 64) Tryd.func19 #[.slice Ao56 t497.length co56, .int .i64 1] ?_; (with_reducible refine (laws_markIntS.calls kj36 (fun k_ => some k_ = (.slice Ao56 t497.length co56 : Value).ownBlock) (.slice Ao56 t497.length co56) t497 1 t510 t511 w _ ?side1 ?side2 A53.out).mono ?_); (case side1 => exact bq); (case side2 => exact Kd.R_tight rfl HO_7.out); rintro e w57 ⟨rfl, hy0, hb, hkp⟩; refine ⟨_, rfl, ?_⟩; have _ := aM (Kd.R_mono (ok' := fun k_ => some k_ ≠ (.slice Ao56 t497.length co56 : Value).ownBlock ∧ some k_ ≠ (.slice Ao24 t508.length co24 : Value).ownBlock) (Kd.R_keptB (HO_4.out) hkp (fun k_ hk_ hs_ => (hk_.1) hs_)) (fun k_ hk_ => ⟨hk_.1.1, hk_.1.2⟩)); have _ := aM (Kd.R_reok rfl hy0 (fun k_ e_ => HO_7.out.1 k_ e_)); have _ := aM (Kd.R_mono (ok' := fun k_ => some k_ ≠ (v489 : Value).ownBlock ∧ some k_ ≠ (.slice Ao56 t497.length co56 : Value).ownBlock) (Kd.R_keptB (HO_497001.out) hkp (fun k_ hk_ hs_ => (hk_.2) hs_)) (fun k_ hk_ => ⟨hk_.1.1, hk_.1.2⟩)); have _ := aM (blk_kept (qQ BK482) hkp (fun hs_ => (fun e_ => (Kd.R_ne HO_7.out BK482.out (by decide)) e_) hs_)); have _ := aM (blk_kept (qQ BK496) hkp (fun hs_ => (fun e_ => (Kd.R_ne HO_7.out BK496.out (by decide)) e_) hs_)); have _ := aM (hb); clear HO_4 HO_7 HO_497001 BK482 BK496 HB; rename_i HO_4 HO_7 HO_497001 BK482 BK496 HB; (try clear hb); (try clear hkp); (try clear hy0)) | ((with_reducible refine gate_callee (f := 20) rfl ?_); refine goesL_ (some 67) rfl rfl Tryd.func20 (by kernel_rfl) rfl #[.slice Ao56 t511.length co56, .int .i64 1] rfl (by (try simp only [List.map_toArray, List.map_cons, List.map_nil]); first | done | (rw [show t511.length = t497.length from (Kd.R_reads' HO_7.out).1.symm] <;> rfl) | rfl | (simp only [List.length_drop, List.length_take]; rfl)) ?_; (with_reducible refine (laws_heldIntS.calls kj36 _ _ t511 1 t512 _ ?side1 ?side2 A54.out).mono ?_); (case side1 => repeat (first | exact (Kd.R_reads' HO_7.out).2.2 | (with_reducible refine Kd.C_alloc ?_ _) | (with_reducible refine Kd.C_drewN ?_ _) | (with_reducible refine Kd.C_drew ?_))); (case side2 => rw [show t511.length = t497.length from (Kd.R_reads' HO_7.out).1.symm]; exact (Kd.R_reads' HO_7.out).2.1); rintro e w' ⟨rfl, ⟨nd, rfl⟩⟩; refine ⟨_, rfl, ?_⟩))
          go_ret
          exact ⟨by first | rfl | (simp [errW_none, errW_some] <;> rfl) | (simp [*, errW_none, errW_some] <;> rfl), by exact bq⟩
         ·rw [if_neg c55] at H
          have c55b0 : decide (t512 < 0) = false := decide_eq_false c55
          clear c55
          by_cases c58 : t512 = t510
          ·rw [if_pos c58] at H
           have c58b0 : (t512 == t510) = true := beq_iff_eq.mpr c58
           have c58b1 : (t512 != t510) = false := bne_eq_false_iff_eq.mpr c58
           clear c58
           replace H := Option.bind_eq_some_iff.mp H
           obtain ⟨⟨t513, t514⟩, A590, H⟩ := H
           replace H : ((impl_AscentOfOrder.f kj36 t513 t514).bind fun bt517 => ((laws_eqIntS.f kj36 bt517.1 t488).bind fun t521 => (if t521 = true then (lw.j2 kj36 t511 t510 (bt517.2 != t491)) else (lw.j2 kj36 t511 t510 true)))) = some r := H
           have A59 := aM A590
           clear A590
           replace H := Option.bind_eq_some_iff.mp H
           obtain ⟨⟨t517, t520⟩, A600, H⟩ := H
           replace H : ((laws_eqIntS.f kj36 t517 t488).bind fun t521 => (if t521 = true then (lw.j2 kj36 t511 t510 (t520 != t491)) else (lw.j2 kj36 t511 t510 true))) = some r := H
           have A60 := aM A600
           clear A600
           have HC61 := aM H
           clear H
           obtain ⟨Ao62, co62, eo62⟩ := Kd.R_slice HO_7.out
           subst eo62
           go_upto_region 25 with (first | ((with_reducible refine gate_callee (f := 19) rfl ?_); refine gL (some 64) Tryd.func19 #[.slice Ao62 t497.length co62, .int .i64 1] ?_; (with_reducible refine (laws_markIntS.calls kj36 (fun k_ => some k_ = (.slice Ao62 t497.length co62 : Value).ownBlock) (.slice Ao62 t497.length co62) t497 1 t510 t511 w _ ?side1 ?side2 A53.out).mono ?_); (case side1 => exact bq); (case side2 => exact Kd.R_tight rfl HO_7.out); rintro e w63 ⟨rfl, hy0, hb, hkp⟩; refine ⟨_, rfl, ?_⟩; have _ := aM (Kd.R_mono (ok' := fun k_ => some k_ ≠ (.slice Ao62 t497.length co62 : Value).ownBlock ∧ some k_ ≠ (.slice Ao24 t508.length co24 : Value).ownBlock) (Kd.R_keptB (HO_4.out) hkp (fun k_ hk_ hs_ => (hk_.1) hs_)) (fun k_ hk_ => ⟨hk_.1.1, hk_.1.2⟩)); have _ := aM (Kd.R_reok rfl hy0 (fun k_ e_ => HO_7.out.1 k_ e_)); have _ := aM (Kd.R_mono (ok' := fun k_ => some k_ ≠ (v489 : Value).ownBlock ∧ some k_ ≠ (.slice Ao62 t497.length co62 : Value).ownBlock) (Kd.R_keptB (HO_497001.out) hkp (fun k_ hk_ hs_ => (hk_.2) hs_)) (fun k_ hk_ => ⟨hk_.1.1, hk_.1.2⟩)); have _ := aM (blk_kept (qQ BK482) hkp (fun hs_ => (fun e_ => (Kd.R_ne HO_7.out BK482.out (by decide)) e_) hs_)); have _ := aM (blk_kept (qQ BK496) hkp (fun hs_ => (fun e_ => (Kd.R_ne HO_7.out BK496.out (by decide)) e_) hs_)); have _ := aM (hb); clear HO_4 HO_7 HO_497001 BK482 BK496 HB; rename_i HO_4 HO_7 HO_497001 BK482 BK496 HB; (try clear hb); (try clear hkp); (try clear hy0)) | ((with_reducible refine gate_callee (f := 20) rfl ?_); refine goesL_ (some 67) rfl rfl Tryd.func20 (by kernel_rfl) rfl #[.slice Ao62 t511.length co62, .int .i64 1] rfl (by (try simp only [List.map_toArray, List.map_cons, List.map_nil]); first | done | (rw [show t511.length = t497.length from (Kd.R_reads' HO_7.out).1.symm] <;> rfl) | rfl | (simp only [List.length_drop, List.length_take]; rfl)) ?_; (with_reducible refine (laws_heldIntS.calls kj36 _ _ t511 1 t512 _ ?side1 ?side2 A54.out).mono ?_); (case side1 => repeat (first | exact (Kd.R_reads' HO_7.out).2.2 | (with_reducible refine Kd.C_alloc ?_ _) | (with_reducible refine Kd.C_drewN ?_ _) | (with_reducible refine Kd.C_drew ?_))); (case side2 => rw [show t511.length = t497.length from (Kd.R_reads' HO_7.out).1.symm]; exact (Kd.R_reads' HO_7.out).2.1); rintro e w' ⟨rfl, ⟨nd, rfl⟩⟩; refine ⟨_, rfl, ?_⟩; have hnb64 := NB482_496.out; have hnc64 := NB496_482.out; have hcz65_0 : w63.cell? ⟨gb482, 0, none⟩ = some (.int .i64 a0_0) := (blk_cell BK482.out 0).trans rfl; have hcz65_1 : w63.cell? ⟨gb482, 1, none⟩ = some (.slice A0_1 l0_1.length c0_1) := (blk_cell BK482.out 1).trans rfl; have hfz65_0 := blk_frozen BK482.out 0; have hfz65_1 := blk_frozen BK482.out 1) | ((with_reducible refine gate_callee (f := 9) rfl ?_); refine gL (some 75) Tryd.func9 #[.agg #[.int .i64 a0_0, .slice A0_1 l0_1.length c0_1]] ?_; (with_reducible refine (laws_toOrder.calls kj36 a0_0 _ _ l0_1 t513 t514 _ (cQ (Kd.C_below HR0_1.out bq)) HC0_1.out A59.out).mono ?_); rintro e w66 ⟨v515, rfl, ho0, hb⟩; refine ⟨_, rfl, ?_⟩; have _ := aM (Kd.R_elder' (rQ HO_4) (Kd.R_base ho0) hb); have _ := aM (Kd.R_elder' (rQ HO_7) (Kd.R_base ho0) hb); have _ := aM (Kd.R_elder' (rQ HO_497001) (Kd.R_base ho0) hb); have _ := aM (Kd.R_lower (Kd.R_new' (Kd.R_new' (Kd.R_new' ho0 (Kd.R_lt (rQ HO_4))) (Kd.R_lt (rQ HO_7))) (Kd.R_lt (rQ HO_497001))) (below_size bq)); have _ := aM (blk_below (g := gb482) (o := .cells #[.int .i64 a0_0, .slice A0_1 l0_1.length c0_1] 24 (0, 0)) (qQ BK482) hb); have _ := aM (blk_below (g := gb496) (o := .cells #[.int .i64 t492, .slice Ao24 t508.length co24] 31 (0, 0)) (qQ BK496) hb); have _ := aM (below_step bq hb); clear HO_4 HO_7 HO_497001 BK482 BK496 HB; rename_i HO_4 HO_7 HO_497001 HO516 BK482 BK496 HB; (try clear hb); (try clear hb2); (try clear hk); (try clear hi); (try clear ho0); obtain ⟨Ao67, co67, eo67⟩ := Kd.R_slice HO516.out; subst eo67) | ((with_reducible refine gate_callee (f := 17) rfl ?_); refine gL (some 76) Tryd.func17 #[.agg #[.int .i64 t513, .slice Ao67 t514.length co67]] ?_; (with_reducible refine (impl_AscentOfOrder.calls kj36 t513 _ _ t514 t517 t520 _ (HVV.out.below bq) (cQ ((Kd.R_reads' HO516.out).2.2)) ((Kd.R_reads' HO516.out).2.1) A60.out).mono ?_); rintro e w68 ⟨v518, rfl, ho0, hb⟩; refine ⟨_, rfl, ?_⟩; have _ := aM (Kd.R_elder' (rQ HO_4) (Kd.R_base ho0) hb); have _ := aM (Kd.R_elder' (rQ HO_7) (Kd.R_base ho0) hb); have _ := aM (Kd.R_elder' (rQ HO_497001) (Kd.R_base ho0) hb); have _ := aM (Kd.R_elder' (rQ HO516) (Kd.R_base ho0) hb); have _ := aM (Kd.R_lower (Kd.R_new' (Kd.R_new' (Kd.R_new' (Kd.R_new' ho0 (Kd.R_lt (rQ HO_4))) (Kd.R_lt (rQ HO_7))) (Kd.R_lt (rQ HO_497001))) (Kd.R_lt (rQ HO516))) (below_size bq)); have _ := aM (blk_below (g := gb482) (o := .cells #[.int .i64 a0_0, .slice A0_1 l0_1.length c0_1] 24 (0, 0)) (qQ BK482) hb); have _ := aM (blk_below (g := gb496) (o := .cells #[.int .i64 t492, .slice Ao24 t508.length co24] 31 (0, 0)) (qQ BK496) hb); have _ := aM (below_step bq hb); clear HO_4 HO_7 HO_497001 HO516 BK482 BK496 HB; rename_i HO_4 HO_7 HO_497001 HO516 HO519 BK482 BK496 HB; (try clear hb); (try clear hb2); (try clear hk); (try clear hi); (try clear ho0)))
           (try simp only [Act.put, List.setIfInBounds_toArray, List.set_cons_zero, List.set_cons_succ])
           go_cut [87] (fun v87 wc => ∃ (kq : Nat) (x87_60 : Bool), v87 = .bool x87_60 ∧ Aside0 (lw.j2 kq t511 t510 x87_60 = some r) ∧ Aside0 (kq ≤ kj36) ∧ Aside0 (Kd.R (Kd.int .i64) 3 wc w.heap.size (fun k_ => some k_ ≠ ((.slice Ao24 t508.length co24) : Value).ownBlock) (.slice Ao62 t497.length co62) t511) ∧ Aside0 (Kd.R (Kd.int .i64) 3 wc w.heap.size (fun k_ => some k_ ≠ ((.slice Ao62 t497.length co62) : Value).ownBlock) (.slice Ao24 t508.length co24) t508) ∧ Aside0 (wc.heap[gb482]? = some (.cells #[.int .i64 a0_0, (.slice A0_1 l0_1.length c0_1)] 24 (0, 0))) ∧ Aside0 (wc.heap[gb496]? = some (.cells #[.int .i64 t492, (.slice Ao24 t508.length co24)] 31 (0, 0))) ∧ Aside0 (Below w.heap.size w wc))
           case first =>
            have H := HC61.out
            clear HC61
            replace H := Option.bind_eq_some_iff.mp H
            obtain ⟨t521, A690, H⟩ := H
            replace H : (if t521 = true then (lw.j2 kj36 t511 t510 (t520 != t491)) else (lw.j2 kj36 t511 t510 true)) = some r := H
            have A69 := aM A690
            clear A690
            by_cases c70 : t521 = true
            ·subst c70
             have H1 : (lw.j2 kj36 t511 t510 (t520 != t491)) = some r := by rw [if_pos rfl] at H; exact H
             clear H
             have H := H1
             clear H1
             have H' := aM H
             clear H
             obtain ⟨Ao71, co71, eo71⟩ := Kd.R_slice HO519.out
             subst eo71
             obtain ⟨Ao72, co72, eo72⟩ := Kd.R_slice HO_4.out
             subst eo72
             go_wp2_with (first | ((with_reducible refine gate_callee (f := 18) rfl ?_); refine gL (some 81) Tryd.func18 #[.slice Ao71 t517.length co71, .slice Ao72 t488.length co72] ?_; (with_reducible refine (laws_eqIntS.calls kj36 _ _ t517 _ _ t488 true _ (cQ ((Kd.R_reads' HO519.out).2.2)) ((Kd.R_reads' HO519.out).2.1) ?side3 ?side4 A69.out).mono ?_); (case side3 => repeat (first | exact (Kd.R_reads' HO_4.out).2.2 | (with_reducible refine Kd.C_alloc ?_ _) | (with_reducible refine Kd.C_drewN ?_ _) | (with_reducible refine Kd.C_drew ?_))); (case side4 => exact (Kd.R_reads' HO_4.out).2.1); rintro e w' ⟨rfl, ⟨nd, rfl⟩⟩; refine ⟨_, rfl, ?_⟩))
             go_meet
             case rel => exact ⟨_, ((t520 != t491)), (by first | rfl | (simp; done) | (simp [*]; done)), H', ⟨by have := HJ10.out; have := HJ36.out; first | omega | exact Nat.le_refl _⟩, ⟨by (try simp only [hl497001_36]); (with_reducible repeat first|apply rA|apply rN|apply rD); exact Kd.R_mono HO_7.out (fun _ hk => hk.1.1.2)⟩, ⟨by (try simp only [hl497001_36]); (with_reducible repeat first|apply rA|apply rN|apply rD); exact Kd.R_mono HO_497001.out (fun _ hk => hk.1.1.2)⟩, ⟨by (try simp only [hl497001_36]); (with_reducible repeat first|apply qN|apply qD|apply qA); exact BK482.out⟩, ⟨by (try simp only [hl497001_36]); (with_reducible repeat first|apply qN|apply qD|apply qA); exact BK496.out⟩, ⟨by exact bq⟩⟩
            ·replace c70 := Bool.eq_false_iff.mpr c70
             subst c70
             have H1 : (lw.j2 kj36 t511 t510 true) = some r := by rw [if_neg (show ¬ (false = true) by decide)] at H; exact H
             clear H
             have H := H1
             clear H1
             have H' := aM H
             clear H
             obtain ⟨Ao73, co73, eo73⟩ := Kd.R_slice HO519.out
             subst eo73
             obtain ⟨Ao74, co74, eo74⟩ := Kd.R_slice HO_4.out
             subst eo74
             go_wp2_with (first | ((with_reducible refine gate_callee (f := 18) rfl ?_); refine gL (some 81) Tryd.func18 #[.slice Ao73 t517.length co73, .slice Ao74 t488.length co74] ?_; (with_reducible refine (laws_eqIntS.calls kj36 _ _ t517 _ _ t488 false _ (cQ ((Kd.R_reads' HO519.out).2.2)) ((Kd.R_reads' HO519.out).2.1) ?side3 ?side4 A69.out).mono ?_); (case side3 => repeat (first | exact (Kd.R_reads' HO_4.out).2.2 | (with_reducible refine Kd.C_alloc ?_ _) | (with_reducible refine Kd.C_drewN ?_ _) | (with_reducible refine Kd.C_drew ?_))); (case side4 => exact (Kd.R_reads' HO_4.out).2.1); rintro e w' ⟨rfl, ⟨nd, rfl⟩⟩; refine ⟨_, rfl, ?_⟩))
             go_meet
             case rel => exact ⟨_, (true), (by first | rfl | (simp; done) | (simp [*]; done)), H', ⟨by have := HJ10.out; have := HJ36.out; first | omega | exact Nat.le_refl _⟩, ⟨by (try simp only [hl497001_36]); (with_reducible repeat first|apply rA|apply rN|apply rD); exact Kd.R_mono HO_7.out (fun _ hk => hk.1.1.2)⟩, ⟨by (try simp only [hl497001_36]); (with_reducible repeat first|apply rA|apply rN|apply rD); exact Kd.R_mono HO_497001.out (fun _ hk => hk.1.1.2)⟩, ⟨by (try simp only [hl497001_36]); (with_reducible repeat first|apply qN|apply qD|apply qA); exact BK482.out⟩, ⟨by (try simp only [hl497001_36]); (with_reducible repeat first|apply qN|apply qD|apply qA); exact BK496.out⟩, ⟨by exact bq⟩⟩
           case rest =>
            clear HC61
            try clear c1
            try clear c2
            try clear p2
            try clear c3
            try clear c3b0
            try clear c4
            try clear c5
            try clear c6
            try clear c7
            try clear c9
            try clear c12
            try clear c13
            try clear c16
            try clear c17
            try clear c18
            try clear c19
            try clear c20
            try clear c22
            try clear c27
            try clear c32
            try clear c35
            try clear c42
            try clear c45
            try clear c45b0
            try clear c47
            try clear c52
            try clear c55
            try clear c55b0
            try clear c58
            try clear c58b0
            try clear c58b1
            try clear c64
            try clear c70
            try clear hcz13_0
            try clear hcz13_1
            try clear hcz15_0
            try clear hcz15_1
            try clear hcz19_0
            try clear hcz19_1
            try clear hcz23_0
            try clear hcz23_1
            try clear hcz43_0
            try clear hcz43_1
            try clear hcz5_0
            try clear hcz5_1
            try clear hcz65_0
            try clear hcz65_1
            try clear hfz13_0
            try clear hfz13_1
            try clear hfz15_0
            try clear hfz15_1
            try clear hfz19_0
            try clear hfz19_1
            try clear hfz23_0
            try clear hfz23_1
            try clear hfz43_0
            try clear hfz43_1
            try clear hfz5_0
            try clear hfz5_1
            try clear hfz65_0
            try clear hfz65_1
            try clear p2
            obtain ⟨kq, x87_60, rfl, HA, HJ60, HO_7, HO_497001, BK482, BK496, HB⟩ := hcut
            have hl7_60 := (Kd.R_reads' HO_7.out).1
            rw [hl7_60] at HO_7
            (try simp only [hl7_60])
            (try simp only [hl7_60] at BK482)
            (try simp only [hl7_60] at BK496)
            (try simp only [hl7_60] at HO_497001)
            cases kq with
            | zero => exact absurd HA.out (by simp [lw.j2])
            | succ kj60 =>
             have H := HA.out
             clear HA
             simp only [lw.j2] at H
             by_cases c75 : x87_60 = true
             ·subst c75
              have H1 : (some false) = some r := by rw [if_pos rfl] at H; exact H
              clear H
              have H := H1
              clear H1
              obtain rfl := Option.some.inj H
              go_wp2
              go_ret
              exact ⟨by first | rfl | (simp [errW_none, errW_some] <;> rfl) | (simp [*, errW_none, errW_some] <;> rfl), by exact bq⟩
             ·replace c75 := Bool.eq_false_iff.mpr c75
              subst c75
              have H1 : ((laws_heldIntS.f kj60 t511 1).bind fun t522 => (if t522 < 0 then (some false) else (if t522 = t510 then (some true) else (some false)))) = some r := by rw [if_neg (show ¬ (false = true) by decide)] at H; exact H
              clear H
              have H := H1
              clear H1
              replace H := Option.bind_eq_some_iff.mp H
              obtain ⟨t522, A760, H⟩ := H
              replace H : (if t522 < 0 then (some false) else (if t522 = t510 then (some true) else (some false))) = some r := H
              have A76 := aM A760
              clear A760
              by_cases c77 : t522 < 0
              ·rw [if_pos c77] at H
               have c77b0 : decide (t522 < 0) = true := decide_eq_true c77
               clear c77
               obtain rfl := Option.some.inj H
               go_wp2_with (first | ((with_reducible refine gate_callee (f := 20) rfl ?_); refine gL (some 90) Tryd.func20 #[.slice Ao62 t511.length co62, .int .i64 1] ?_; (with_reducible refine (laws_heldIntS.calls kj60 _ _ t511 1 t522 _ (cQ ((Kd.R_reads' HO_7.out).2.2)) ((Kd.R_reads' HO_7.out).2.1) A76.out).mono ?_); rintro e w' ⟨rfl, ⟨nd, rfl⟩⟩; refine ⟨_, rfl, ?_⟩))
               go_ret
               exact ⟨by first | rfl | (simp [errW_none, errW_some] <;> rfl) | (simp [*, errW_none, errW_some] <;> rfl), by exact bq⟩
              ·rw [if_neg c77] at H
               have c77b0 : decide (t522 < 0) = false := decide_eq_false c77
               clear c77
               by_cases c78 : t522 = t510
               ·rw [if_pos c78] at H
                have c78b0 : (t522 == t510) = true := beq_iff_eq.mpr c78
                have c78b1 : (t522 != t510) = false := bne_eq_false_iff_eq.mpr c78
                clear c78
                obtain rfl := Option.some.inj H
                go_wp2_with (first | ((with_reducible refine gate_callee (f := 20) rfl ?_); refine gL (some 90) Tryd.func20 #[.slice Ao62 t511.length co62, .int .i64 1] ?_; (with_reducible refine (laws_heldIntS.calls kj60 _ _ t511 1 t522 _ (cQ ((Kd.R_reads' HO_7.out).2.2)) ((Kd.R_reads' HO_7.out).2.1) A76.out).mono ?_); rintro e w' ⟨rfl, ⟨nd, rfl⟩⟩; refine ⟨_, rfl, ?_⟩))
                go_ret
                exact ⟨by first | rfl | (simp [errW_none, errW_some] <;> rfl) | (simp [*, errW_none, errW_some] <;> rfl), by exact bq⟩
               ·rw [if_neg c78] at H
                have c78b0 : (t522 == t510) = false := beq_eq_false_iff_ne.mpr c78
                have c78b1 : (t522 != t510) = true := bne_iff_ne.mpr c78
                obtain rfl := Option.some.inj H
                go_wp2_with (first | ((with_reducible refine gate_callee (f := 20) rfl ?_); refine gL (some 90) Tryd.func20 #[.slice Ao62 t511.length co62, .int .i64 1] ?_; (with_reducible refine (laws_heldIntS.calls kj60 _ _ t511 1 t522 _ (cQ ((Kd.R_reads' HO_7.out).2.2)) ((Kd.R_reads' HO_7.out).2.1) A76.out).mono ?_); rintro e w' ⟨rfl, ⟨nd, rfl⟩⟩; refine ⟨_, rfl, ?_⟩))
                go_ret
                exact ⟨by first | rfl | (simp [errW_none, errW_some] <;> rfl) | (simp [*, errW_none, errW_some] <;> rfl), by exact bq⟩
          ·rw [if_neg c58] at H
           have c58b0 : (t512 == t510) = false := beq_eq_false_iff_ne.mpr c58
           have c58b1 : (t512 != t510) = true := bne_iff_ne.mpr c58
           obtain rfl := Option.some.inj H
           obtain ⟨Ao79, co79, eo79⟩ := Kd.R_slice HO_7.out
           subst eo79
           go_wp2_with (first | ((with_reducible refine gate_callee (f := 19) rfl ?_); refine gL (some 64) Tryd.func19 #[.slice Ao79 t497.length co79, .int .i64 1] ?_; (with_reducible refine (laws_markIntS.calls kj36 (fun k_ => some k_ = (.slice Ao79 t497.length co79 : Value).ownBlock) (.slice Ao79 t497.length co79) t497 1 t510 t511 w _ ?side1 ?side2 A53.out).mono ?_); (case side1 => exact bq); (case side2 => exact Kd.R_tight rfl HO_7.out); rintro e w80 ⟨rfl, hy0, hb, hkp⟩; refine ⟨_, rfl, ?_⟩; have _ := aM (Kd.R_mono (ok' := fun k_ => some k_ ≠ (.slice Ao79 t497.length co79 : Value).ownBlock ∧ some k_ ≠ (.slice Ao24 t508.length co24 : Value).ownBlock) (Kd.R_keptB (HO_4.out) hkp (fun k_ hk_ hs_ => (hk_.1) hs_)) (fun k_ hk_ => ⟨hk_.1.1, hk_.1.2⟩)); have _ := aM (Kd.R_reok rfl hy0 (fun k_ e_ => HO_7.out.1 k_ e_)); have _ := aM (Kd.R_mono (ok' := fun k_ => some k_ ≠ (v489 : Value).ownBlock ∧ some k_ ≠ (.slice Ao79 t497.length co79 : Value).ownBlock) (Kd.R_keptB (HO_497001.out) hkp (fun k_ hk_ hs_ => (hk_.2) hs_)) (fun k_ hk_ => ⟨hk_.1.1, hk_.1.2⟩)); have _ := aM (blk_kept (qQ BK482) hkp (fun hs_ => (fun e_ => (Kd.R_ne HO_7.out BK482.out (by decide)) e_) hs_)); have _ := aM (blk_kept (qQ BK496) hkp (fun hs_ => (fun e_ => (Kd.R_ne HO_7.out BK496.out (by decide)) e_) hs_)); have _ := aM (hb); clear HO_4 HO_7 HO_497001 BK482 BK496 HB; rename_i HO_4 HO_7 HO_497001 BK482 BK496 HB; (try clear hb); (try clear hkp); (try clear hy0)) | ((with_reducible refine gate_callee (f := 20) rfl ?_); refine goesL_ (some 67) rfl rfl Tryd.func20 (by kernel_rfl) rfl #[.slice Ao79 t511.length co79, .int .i64 1] rfl (by (try simp only [List.map_toArray, List.map_cons, List.map_nil]); first | done | (rw [show t511.length = t497.length from (Kd.R_reads' HO_7.out).1.symm] <;> rfl) | rfl | (simp only [List.length_drop, List.length_take]; rfl)) ?_; (with_reducible refine (laws_heldIntS.calls kj36 _ _ t511 1 t512 _ ?side1 ?side2 A54.out).mono ?_); (case side1 => repeat (first | exact (Kd.R_reads' HO_7.out).2.2 | (with_reducible refine Kd.C_alloc ?_ _) | (with_reducible refine Kd.C_drewN ?_ _) | (with_reducible refine Kd.C_drew ?_))); (case side2 => rw [show t511.length = t497.length from (Kd.R_reads' HO_7.out).1.symm]; exact (Kd.R_reads' HO_7.out).2.1); rintro e w' ⟨rfl, ⟨nd, rfl⟩⟩; refine ⟨_, rfl, ?_⟩))
           go_ret
           exact ⟨by first | rfl | (simp [errW_none, errW_some] <;> rfl) | (simp [*, errW_none, errW_some] <;> rfl), by exact bq⟩
     ·replace c35 := Bool.eq_false_iff.mpr c35
      subst c35
      have H1 : (some false) = some r := by rw [if_neg (show ¬ (false = true) by decide)] at H; exact H
      clear H
      have H := H1
      clear H1
      obtain rfl := Option.some.inj H
      try go_wp2
      have n0_ := aM (Kd.R_drew HO_4.out)
      have n1_ := aM (Kd.R_drew HO_7.out)
      have n2_ := aM (Kd.R_drew HO_497001.out)
      have n3_ := aM (blk_drew BK482.out)
      have n4_ := aM (blk_drew BK496.out)
      have n5_ := aM (below_drew1 HB.out)
      clear HO_4
      clear HO_7
      clear HO_497001
      clear BK482
      clear BK496
      clear HB
      have HO_4 := n0_
      have HO_7 := n1_
      have HO_497001 := n2_
      have BK482 := n3_
      have BK496 := n4_
      have HB := n5_
      clear n0_ n1_ n2_ n3_ n4_ n5_
      refine start_ (n := 5) (S := fun w' => w'.cell? ⟨gb496, 0, none⟩ = some (.int .i64 t492) ∧ w'.cell? ⟨gb496, 1, none⟩ = some (.slice Ao24 t493.length co24) ∧ w'.cell? ⟨gb482, 0, none⟩ = some (.int .i64 a0_0) ∧ w'.cell? ⟨gb482, 1, none⟩ = some (.slice A0_1 l0_1.length c0_1)) (ds := []) #[false, false, false, false, false] (by kernel_rfl) rfl rfl ⟨(blk_cell BK496.out 0).trans rfl, (blk_cell BK496.out 1).trans rfl, (blk_cell BK482.out 0).trans rfl, (blk_cell BK482.out 1).trans rfl⟩ (fun hHeld => ?_)
      generalize wc.drew = w81 at HO_4 HO_7 HO_497001 BK482 BK496 HB hHeld ⊢
      refine take_ (i := 0) (N := some 41) (v := ?_) (a' := ?_) #[true, false, false, false, false] rfl rfl (by kernel_rfl) (fun _ _ _ h => h) (Or.inl ⟨by rfl, ?_⟩) hHeld ?_ ?_
      rotate_left
      ·rintro w' ⟨s0, s1, s2, s3⟩
       go_simp
       with_reducible rfl
      rotate_left
      ·simp only [Act.put, List.setIfInBounds_toArray, List.set_cons_zero, List.set_cons_succ, i64_w, i32_w]
       rfl
      refine take_ (i := 1) (N := some 42) (v := ?_) (a' := ?_) #[true, true, false, false, false] rfl rfl (by kernel_rfl) (fun _ _ _ h => h) (Or.inl ⟨by rfl, ?_⟩) hHeld ?_ ?_
      rotate_left
      ·rintro w' ⟨s0, s1, s2, s3⟩
       go_simp
       with_reducible rfl
      rotate_left
      ·simp only [Act.put, List.setIfInBounds_toArray, List.set_cons_zero, List.set_cons_succ, i64_w, i32_w]
       rfl
      refine one_ (i := 2) (N := some 43) #[true, true, true, false, false] rfl rfl (by kernel_rfl) (by decide) (fun K hK => ?_)
      refine goes_ Tryd.func9 (by kernel_rfl) rfl #[.agg #[.int .i64 a0_0, .slice A0_1 l0_1.length c0_1]] (by rfl) rfl rfl (by (try simp only [List.map_toArray, List.map_cons, List.map_nil]); first | done | rfl | (simp only [List.length_drop, List.length_take]; rfl)) ?_
      with_reducible refine (laws_toOrder.calls kj10 a0_0 _ _ l0_1 t502 t503 _ ?side1 ?side2 A33.out).mono ?_
      (case side1 => repeat (first | exact (Kd.C_below HR0_1.out HB.out) | (with_reducible refine Kd.C_alloc ?_ _) | (with_reducible refine Kd.C_drewN ?_ _) | (with_reducible refine Kd.C_drew ?_)))
      (case side2 => exact HC0_1.out)
      rintro e w82 ⟨v504, rfl, ho0, hb⟩
      refine ⟨_, rfl, ?_⟩
      have n0_ := aM (Kd.R_elder' (rQ HO_4) (Kd.R_base ho0) hb)
      have n1_ := aM (Kd.R_elder' (rQ HO_7) (Kd.R_base ho0) hb)
      have n2_ := aM (Kd.R_elder' (rQ HO_497001) (Kd.R_base ho0) hb)
      have n3_ := aM (Kd.R_lower (Kd.R_new' (Kd.R_new' (Kd.R_new' ho0 (Kd.R_lt (rQ HO_4))) (Kd.R_lt (rQ HO_7))) (Kd.R_lt (rQ HO_497001))) (below_size bq))
      have n4_ := aM (blk_below (g := gb482) (o := .cells #[.int .i64 a0_0, .slice A0_1 l0_1.length c0_1] 24 (0, 0)) (qQ BK482) hb)
      have n5_ := aM (blk_below (g := gb496) (o := .cells #[.int .i64 t492, .slice Ao24 t493.length co24] 31 (0, 0)) (qQ BK496) hb)
      have n6_ := aM (below_step bq hb)
      clear HO_4
      clear HO_7
      clear HO_497001
      clear BK482
      clear BK496
      clear HB
      have HO_4 := n0_
      have HO_7 := n1_
      have HO_497001 := n2_
      have HO505 := n3_
      have BK482 := n4_
      have BK496 := n5_
      have HB := n6_
      clear n0_ n1_ n2_ n3_ n4_ n5_ n6_
      (try clear hb)
      (try clear hb2)
      (try clear hk)
      (try clear hi)
      (try clear ho0)
      obtain ⟨Ao83, co83, eo83⟩ := Kd.R_slice HO505.out
      (first | subst eo83 | (injection eo83 with f1_ f2_ f3_; have f4_ := f1_.symm; have f5_ := f3_.symm; clear f1_ f2_ f3_; subst f4_; subst f5_))
      refine hK.out _ _ ⟨(blk_cell BK496.out 0).trans rfl, (blk_cell BK496.out 1).trans rfl, (blk_cell BK482.out 0).trans rfl, (blk_cell BK482.out 1).trans rfl⟩ (fun hHeld => ?_)
      clear hK K
      refine norm_ (a' := ?_) ?_ ?_
      rotate_left
      ·show Act.put _ (some 43) _ = _
       simp only [Act.put, List.setIfInBounds_toArray, List.set_cons_zero, List.set_cons_succ, i64_w, i32_w]
       rfl
      refine one_ (i := 3) (N := some 44) #[true, true, true, true, false] rfl rfl (by kernel_rfl) (by decide) (fun K hK => ?_)
      refine goes_ Tryd.func12 (by kernel_rfl) rfl #[.agg #[.int .i64 t492, .slice Ao24 t493.length co24], .agg #[.int .i64 t502, .slice Ao83 t503.length co83]] (by rfl) rfl rfl (by (try simp only [List.map_toArray, List.map_cons, List.map_nil]); first | done | rfl | (simp only [List.length_drop, List.length_take]; rfl)) ?_
      with_reducible refine (laws_eqOrder.calls kj10 t492 _ _ t493 t502 _ _ t503 false _ ?side1 ?side2 ?side3 ?side4 A34.out).mono ?_
      (case side1 => repeat (first | exact (Kd.R_reads' HO_497001.out).2.2 | (with_reducible refine Kd.C_alloc ?_ _) | (with_reducible refine Kd.C_drewN ?_ _) | (with_reducible refine Kd.C_drew ?_)))
      (case side2 => exact (Kd.R_reads' HO_497001.out).2.1)
      (case side3 => repeat (first | exact (Kd.R_reads' HO505.out).2.2 | (with_reducible refine Kd.C_alloc ?_ _) | (with_reducible refine Kd.C_drewN ?_ _) | (with_reducible refine Kd.C_drew ?_)))
      (case side4 => exact (Kd.R_reads' HO505.out).2.1)
      rintro e w84 ⟨rfl, hb⟩
      refine ⟨_, rfl, ?_⟩
      have n0_ := aM (Kd.R_below (rQ HO_4) hb)
      have n1_ := aM (Kd.R_below (rQ HO_7) hb)
      have n2_ := aM (Kd.R_below (rQ HO_497001) hb)
      have n3_ := aM (Kd.R_below (rQ HO505) hb)
      have n4_ := aM (blk_below (g := gb482) (o := .cells #[.int .i64 a0_0, .slice A0_1 l0_1.length c0_1] 24 (0, 0)) (qQ BK482) hb)
      have n5_ := aM (blk_below (g := gb496) (o := .cells #[.int .i64 t492, .slice Ao24 t493.length co24] 31 (0, 0)) (qQ BK496) hb)
      have n6_ := aM (below_step bq hb)
      clear HO_4
      clear HO_7
      clear HO_497001
      clear HO505
      clear BK482
      clear BK496
      clear HB
      have HO_4 := n0_
      have HO_7 := n1_
      have HO_497001 := n2_
      have HO505 := n3_
      have BK482 := n4_
      have BK496 := n5_
      have HB := n6_
      clear n0_ n1_ n2_ n3_ n4_ n5_ n6_
      (try clear hb)
      (try clear hb2)
      (try clear hk)
      (try clear hi)
      refine hK.out _ _ ⟨(blk_cell BK496.out 0).trans rfl, (blk_cell BK496.out 1).trans rfl, (blk_cell BK482.out 0).trans rfl, (blk_cell BK482.out 1).trans rfl⟩ (fun hHeld => ?_)
      clear hK K
      refine norm_ (a' := ?_) ?_ ?_
      rotate_left
      ·show Act.put _ (some 44) _ = _
       simp only [Act.put, List.setIfInBounds_toArray, List.set_cons_zero, List.set_cons_succ, i64_w, i32_w]
       rfl
      refine pure_ (i := 4) (N := some 45) (v := ?_) (a' := ?_) #[true, true, true, true, true] rfl rfl (by kernel_rfl) (fun _ _ _ h => h) (Or.inl ⟨by rfl, ?_⟩) ?_ ?_
      rotate_left
      ·intro w'
       go_simp
       with_reducible rfl
      rotate_left
      ·simp only [Act.put, List.setIfInBounds_toArray, List.set_cons_zero, List.set_cons_succ, i64_w, i32_w]
       rfl
      refine done_ (by kernel_rfl) ?_
      try go_wp2
      go_ret
      exact ⟨by first | rfl | (simp [errW_none, errW_some] <;> rfl) | (simp [*, errW_none, errW_some] <;> rfl), by exact bq⟩

end Go.Proofs.YtcodionjhcmfhaaDoor.Ao
