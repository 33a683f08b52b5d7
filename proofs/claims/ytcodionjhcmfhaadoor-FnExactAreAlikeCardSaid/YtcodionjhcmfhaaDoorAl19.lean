-- Written by hook.py, a program of this session (wip/), which runs the kit's print.py with its own parts; Lean checks it.
import Derived.Test.YtcodionjhcmfhaaDoorAl0
import Derived.Test.YtcodionjhcmfhaaDoorAl1
import Derived.Test.YtcodionjhcmfhaaDoorAl9
import Derived.Test.YtcodionjhcmfhaaDoorAl10
import Derived.Test.YtcodionjhcmfhaaDoorAl18
import Derived.Test.YtcodionjhcmfhaaDoorAlXSq
namespace Go.Proofs.YtcodionjhcmfhaaDoor.Al
open Go.RowKit Go.Proofs.YtcodionjhcmfhaaDoorW.PrintWords Go.Proofs.YtcodionjhcmfhaaDoorW.PrintLast Go.Proofs.YtcodionjhcmfhaaDoorW.PrintMore Go.Proofs.YtcodionjhcmfhaaDoor.Sq
attribute [local go_sem] max2_int min2_int max_two min_two max_three min_three max_four min_four   -- for this text's walks alone
set_option linter.unusedVariables false
set_option linter.unusedSimpArgs false

def lw.j0 : Nat → Bool → Int → List Int → Int → List Int → Int → List Int → Int → List Int → Option (Bool)
 | 0, _, _, _, _, _, _, _, _, _ => none
 | k + 1, x47, x385000, x385001, x386000, x386001, x403000, x403001, x408000, x408001 => if x47 = true then (some false) else ((laws_toOrder.f k x385000 x385001).bind fun bt410 => ((laws_eqOrder.f k x403000 x403001 bt410.1 bt410.2).bind fun t414 => (if t414 = true then ((laws_toOrder.f k x386000 x386001).bind fun bt415 => ((laws_eqOrder.f k x408000 x408001 bt415.1 bt415.2).bind fun t419 => (if t419 = true then (some true) else (some false)))) else (some false))))
def laws_FnExactAreAlike.f (k : Nat) (a0_0 : Int) (l0_1 : List Int) (a1_0 : Int) (l1_1 : List Int) : Option (Bool) := (laws_szOrder.f a0_0 l0_1 1048576).bind fun t386 => (if t386 < 0 then (some true) else ((laws_szOrder.f a1_0 l1_1 t386).bind fun t387 => (if t387 < 0 then (some true) else ((laws_toOrder.f k a0_0 l0_1).bind fun bt388 => ((laws_toOrder.f k a1_0 l1_1).bind fun bt392 => ((spec_AreAlike.f k bt388.1 bt388.2 bt392.1 bt392.2).bind fun bt396 => ((laws_toOrder.f k a0_0 l0_1).bind fun bt398 => ((laws_toOrder.f k a1_0 l1_1).bind fun bt403 => ((impl_AreAlike.f k bt398.1 bt398.2 bt403.1 bt403.2).bind fun bt408 => (if (bt408.1 != bt396.1) = true then (lw.j0 k true a0_0 l0_1 a1_0 l1_1 bt398.1 bt398.2 bt403.1 bt403.2) else (lw.j0 k (bt408.2 != bt396.2) a0_0 l0_1 a1_0 l1_1 bt398.1 bt398.2 bt403.1 bt403.2)))))))))))
theorem lw.mono_l : ∀ k, (∀ y0 y1 y2 y3 y4 y5 y6 y7 y8, LeO (lw.j0 k y0 y1 y2 y3 y4 y5 y6 y7 y8) (lw.j0 (k + 1) y0 y1 y2 y3 y4 y5 y6 y7 y8))
 | 0 => fun _ _ _ _ _ _ _ _ _ r h => by simp [lw.j0] at h
 | k + 1 => by
  have ih0 := lw.mono_l k
  ·intro y0 y1 y2 y3 y4 y5 y6 y7 y8
   unfold lw.j0
   repeat' first | with_reducible first | exact ih0 _ _ _ _ _ _ _ _ _ | exact impl_AreAlike.mono _ _ _ _ _ | exact laws_eqOrder.mono _ _ _ _ _ | exact laws_toOrder.mono _ _ _ | exact spec_AreAlike.mono _ _ _ _ _ | exact LeO.refl _ | exact LeO.none _ | refine LeO.ite ?_ ?_ | refine LeO.bind ?_ (fun _ => ?_)
theorem laws_FnExactAreAlike.mono : ∀ a0 a1 a2 a3 k, LeO (laws_FnExactAreAlike.f k a0 a1 a2 a3) (laws_FnExactAreAlike.f (k + 1) a0 a1 a2 a3) := by
 intro a0 a1 a2 a3 k
 have ih0 := lw.mono_l k
 unfold laws_FnExactAreAlike.f
 repeat' first | with_reducible first | exact ih0 _ _ _ _ _ _ _ _ _ | exact impl_AreAlike.mono _ _ _ _ _ | exact laws_eqOrder.mono _ _ _ _ _ | exact laws_toOrder.mono _ _ _ | exact spec_AreAlike.mono _ _ _ _ _ | exact LeO.refl _ | exact LeO.none _ | refine LeO.ite ?_ ?_ | refine LeO.bind ?_ (fun _ => ?_)
def laws_FnExactAreAlike.T8 : Bool × List (List Nat × List Nat) := (true, [([], []), ([0], [0]), ([], []), ([2, 1], [2]), ([1, 3, 3], [1, 3]), ([4], [4]), ([5], [5]), ([5], [5]), ([6, 4, 0, 1, 2, 3, 4, 5, 6], [6]), ([7, 8, 0, 1, 2, 3, 4, 5, 6, 7, 8], [7])])
def laws_FnExactAreAlike.B8 : List Nat := [0, 1, 0, 7, 15, 31, 63, 63, 127, 511]
theorem laws_FnExactAreAlike.tab8 : rtab .any (opsOf Tryd.f5 8) = laws_FnExactAreAlike.T8 := by kernel_rfl
theorem laws_FnExactAreAlike.bits8 : waitsOk laws_FnExactAreAlike.T8.2 laws_FnExactAreAlike.B8 = true := by kernel_rfl
set_option maxHeartbeats 8000000 in
set_option maxRecDepth 100000 in
theorem laws_FnExactAreAlike.calls (k : Nat) (a0_0 : Int) (A0_1 : Option Addr) (c0_1 : Nat) (l0_1 : List Int) (a1_0 : Int) (A1_1 : Option Addr) (c1_1 : Nat) (l1_1 : List Int) (r : Bool) (w : World) (hV : TabZ w) (hr0_1 : Kd.C (Kd.int .i64) w A0_1 l0_1.length l0_1) (hc0_1 : l0_1.length ≤ c0_1) (hr1_1 : Kd.C (Kd.int .i64) w A1_1 l1_1.length l1_1) (hc1_1 : l1_1.length ≤ c1_1) (h : laws_FnExactAreAlike.f k a0_0 l0_1 a1_0 l1_1 = some r) :
  Calls Tryd.prog 5 #[.agg #[.int .i64 a0_0, .slice A0_1 l0_1.length c0_1], .agg #[.int .i64 a1_0, .slice A1_1 l1_1.length c1_1]] w fun e w' => e = .returned (.bool r) ∧ Below w.heap.size w w' := by
 have hu24 := Tryd.underlying24
 have hu31 := Tryd.underlying31
 have HR0_1 := aM hr0_1
 have HC0_1 := aM hc0_1
 clear hr0_1 hc0_1
 have HR1_1 := aM hr1_1
 have HC1_1 := aM hc1_1
 clear hr1_1 hc1_1
 have HB := aM (Below.refl w.heap.size w)
 have HVV := aM hV
 clear hV
 have H : ((laws_szOrder.f a0_0 l0_1 1048576).bind fun t386 => (if t386 < 0 then (some true) else ((laws_szOrder.f a1_0 l1_1 t386).bind fun t387 => (if t387 < 0 then (some true) else ((laws_toOrder.f k a0_0 l0_1).bind fun bt388 => ((laws_toOrder.f k a1_0 l1_1).bind fun bt392 => ((spec_AreAlike.f k bt388.1 bt388.2 bt392.1 bt392.2).bind fun bt396 => ((laws_toOrder.f k a0_0 l0_1).bind fun bt398 => ((laws_toOrder.f k a1_0 l1_1).bind fun bt403 => ((impl_AreAlike.f k bt398.1 bt398.2 bt403.1 bt403.2).bind fun bt408 => (if (bt408.1 != bt396.1) = true then (lw.j0 k true a0_0 l0_1 a1_0 l1_1 bt398.1 bt398.2 bt403.1 bt403.2) else (lw.j0 k (bt408.2 != bt396.2) a0_0 l0_1 a1_0 l1_1 bt398.1 bt398.2 bt403.1 bt403.2)))))))))))) = some r := h
 clear h
 replace H := Option.bind_eq_some_iff.mp H
 obtain ⟨t386, A30, H⟩ := H
 replace H : (if t386 < 0 then (some true) else ((laws_szOrder.f a1_0 l1_1 t386).bind fun t387 => (if t387 < 0 then (some true) else ((laws_toOrder.f k a0_0 l0_1).bind fun bt388 => ((laws_toOrder.f k a1_0 l1_1).bind fun bt392 => ((spec_AreAlike.f k bt388.1 bt388.2 bt392.1 bt392.2).bind fun bt396 => ((laws_toOrder.f k a0_0 l0_1).bind fun bt398 => ((laws_toOrder.f k a1_0 l1_1).bind fun bt403 => ((impl_AreAlike.f k bt398.1 bt398.2 bt403.1 bt403.2).bind fun bt408 => (if (bt408.1 != bt396.1) = true then (lw.j0 k true a0_0 l0_1 a1_0 l1_1 bt398.1 bt398.2 bt403.1 bt403.2) else (lw.j0 k (bt408.2 != bt396.2) a0_0 l0_1 a1_0 l1_1 bt398.1 bt398.2 bt403.1 bt403.2))))))))))) = some r := H
 have A3 := aM A30
 clear A30
 by_cases c4 : t386 < 0
 ·rw [if_pos c4] at H
  have c4b0 : decide (t386 < 0) = true := decide_eq_true c4
  clear c4
  obtain rfl := Option.some.inj H
  go_enter Tryd.func5, Tryd.ntmps5
  go_wp2_with (first | ((with_reducible refine gate_dst (N := 2) rfl ?_); refine bE 2 24 #[.int .i64 a0_0, .slice A0_1 l0_1.length c0_1] ?_; intro gb384 hg w5 hbox hb; have _ := aM (below_step bq hb); have _ := aM (hbox); have _ := aM ((gS hg)); have _ := aM ((gS hg)); clear HB; rename_i HB BK384 GW384 GE384; clear hb hbox hg) | ((with_reducible refine gate_dst (N := 3) rfl ?_); refine bE 3 24 #[.int .i64 a1_0, .slice A1_1 l1_1.length c1_1] ?_; intro gb385 hg w6 hbox hb; have _ := aM (blk_below (g := gb384) (o := .cells #[.int .i64 a0_0, .slice A0_1 l0_1.length c0_1] 24 (0, 0)) (qQ BK384) hb); have _ := aM (below_step bq hb); have _ := aM (hbox); have _ := aM ((gS hg)); have _ := aM ((gS hg)); have _ := aM ((by rw [hg]; exact Nat.ne_of_lt (blk_lt (g := gb384) (o := .cells #[.int .i64 a0_0, .slice A0_1 l0_1.length c0_1] 24 (0, 0)) (qQ BK384)) : gb384 ≠ gb385)); have _ := aM ((by rw [hg]; exact Nat.ne_of_gt (blk_lt (g := gb384) (o := .cells #[.int .i64 a0_0, .slice A0_1 l0_1.length c0_1] 24 (0, 0)) (qQ BK384)) : gb385 ≠ gb384)); clear BK384 HB; rename_i BK384 HB BK385 GW385 GE385 NB384_385 NB385_384; clear hb hbox hg; have hnb7 := NB384_385.out; have hnc7 := NB385_384.out; have hcz8_0 : w6.cell? ⟨gb384, 0, none⟩ = some (.int .i64 a0_0) := (blk_cell BK384.out 0).trans rfl; have hcz8_1 : w6.cell? ⟨gb384, 1, none⟩ = some (.slice A0_1 l0_1.length c0_1) := (blk_cell BK384.out 1).trans rfl; have hfz8_0 := blk_frozen BK384.out 0; have hfz8_1 := blk_frozen BK384.out 1) | ((with_reducible refine gate_callee (f := 7) rfl ?_); refine gL (some 14) Tryd.func7 #[.agg #[.int .i64 a0_0, .slice A0_1 l0_1.length c0_1], .int .i64 1048576] ?_; (with_reducible refine (laws_szOrder.calls a0_0 _ _ l0_1 1048576 t386 _ (cQ (Kd.C_below HR0_1.out HB.out)) HC0_1.out A3.out).mono ?_); rintro e w9 ⟨rfl, hb⟩; refine ⟨_, rfl, ?_⟩; have _ := aM (blk_below (g := gb384) (o := .cells #[.int .i64 a0_0, .slice A0_1 l0_1.length c0_1] 24 (0, 0)) (qQ BK384) hb); have _ := aM (blk_below (g := gb385) (o := .cells #[.int .i64 a1_0, .slice A1_1 l1_1.length c1_1] 24 (0, 0)) (qQ BK385) hb); have _ := aM (below_step bq hb); clear BK384 BK385 HB; rename_i BK384 BK385 HB; (try clear hb); (try clear hb2); (try clear hk); (try clear hi)))
  go_ret
  exact ⟨by first | rfl | (simp [errW_none, errW_some] <;> rfl) | (simp [*, errW_none, errW_some] <;> rfl), by exact bq⟩
 ·rw [if_neg c4] at H
  have c4b0 : decide (t386 < 0) = false := decide_eq_false c4
  clear c4
  replace H := Option.bind_eq_some_iff.mp H
  obtain ⟨t387, A100, H⟩ := H
  replace H : (if t387 < 0 then (some true) else ((laws_toOrder.f k a0_0 l0_1).bind fun bt388 => ((laws_toOrder.f k a1_0 l1_1).bind fun bt392 => ((spec_AreAlike.f k bt388.1 bt388.2 bt392.1 bt392.2).bind fun bt396 => ((laws_toOrder.f k a0_0 l0_1).bind fun bt398 => ((laws_toOrder.f k a1_0 l1_1).bind fun bt403 => ((impl_AreAlike.f k bt398.1 bt398.2 bt403.1 bt403.2).bind fun bt408 => (if (bt408.1 != bt396.1) = true then (lw.j0 k true a0_0 l0_1 a1_0 l1_1 bt398.1 bt398.2 bt403.1 bt403.2) else (lw.j0 k (bt408.2 != bt396.2) a0_0 l0_1 a1_0 l1_1 bt398.1 bt398.2 bt403.1 bt403.2))))))))) = some r := H
  have A10 := aM A100
  clear A100
  by_cases c11 : t387 < 0
  ·rw [if_pos c11] at H
   have c11b0 : decide (t387 < 0) = true := decide_eq_true c11
   clear c11
   obtain rfl := Option.some.inj H
   go_enter Tryd.func5, Tryd.ntmps5
   go_wp2_with (first | ((with_reducible refine gate_dst (N := 2) rfl ?_); refine bE 2 24 #[.int .i64 a0_0, .slice A0_1 l0_1.length c0_1] ?_; intro gb384 hg w12 hbox hb; have _ := aM (below_step bq hb); have _ := aM (hbox); have _ := aM ((gS hg)); have _ := aM ((gS hg)); clear HB; rename_i HB BK384 GW384 GE384; clear hb hbox hg) | ((with_reducible refine gate_dst (N := 3) rfl ?_); refine bE 3 24 #[.int .i64 a1_0, .slice A1_1 l1_1.length c1_1] ?_; intro gb385 hg w13 hbox hb; have _ := aM (blk_below (g := gb384) (o := .cells #[.int .i64 a0_0, .slice A0_1 l0_1.length c0_1] 24 (0, 0)) (qQ BK384) hb); have _ := aM (below_step bq hb); have _ := aM (hbox); have _ := aM ((gS hg)); have _ := aM ((gS hg)); have _ := aM ((by rw [hg]; exact Nat.ne_of_lt (blk_lt (g := gb384) (o := .cells #[.int .i64 a0_0, .slice A0_1 l0_1.length c0_1] 24 (0, 0)) (qQ BK384)) : gb384 ≠ gb385)); have _ := aM ((by rw [hg]; exact Nat.ne_of_gt (blk_lt (g := gb384) (o := .cells #[.int .i64 a0_0, .slice A0_1 l0_1.length c0_1] 24 (0, 0)) (qQ BK384)) : gb385 ≠ gb384)); clear BK384 HB; rename_i BK384 HB BK385 GW385 GE385 NB384_385 NB385_384; clear hb hbox hg; have hnb14 := NB384_385.out; have hnc14 := NB385_384.out; have hcz15_0 : w13.cell? ⟨gb384, 0, none⟩ = some (.int .i64 a0_0) := (blk_cell BK384.out 0).trans rfl; have hcz15_1 : w13.cell? ⟨gb384, 1, none⟩ = some (.slice A0_1 l0_1.length c0_1) := (blk_cell BK384.out 1).trans rfl; have hfz15_0 := blk_frozen BK384.out 0; have hfz15_1 := blk_frozen BK384.out 1) | ((with_reducible refine gate_callee (f := 7) rfl ?_); refine gL (some 14) Tryd.func7 #[.agg #[.int .i64 a0_0, .slice A0_1 l0_1.length c0_1], .int .i64 1048576] ?_; (with_reducible refine (laws_szOrder.calls a0_0 _ _ l0_1 1048576 t386 _ (cQ (Kd.C_below HR0_1.out HB.out)) HC0_1.out A3.out).mono ?_); rintro e w16 ⟨rfl, hb⟩; refine ⟨_, rfl, ?_⟩; have _ := aM (blk_below (g := gb384) (o := .cells #[.int .i64 a0_0, .slice A0_1 l0_1.length c0_1] 24 (0, 0)) (qQ BK384) hb); have _ := aM (blk_below (g := gb385) (o := .cells #[.int .i64 a1_0, .slice A1_1 l1_1.length c1_1] 24 (0, 0)) (qQ BK385) hb); have _ := aM (below_step bq hb); clear BK384 BK385 HB; rename_i BK384 BK385 HB; (try clear hb); (try clear hb2); (try clear hk); (try clear hi); have hcz17_0 : w16.cell? ⟨gb385, 0, none⟩ = some (.int .i64 a1_0) := (blk_cell BK385.out 0).trans rfl; have hcz17_1 : w16.cell? ⟨gb385, 1, none⟩ = some (.slice A1_1 l1_1.length c1_1) := (blk_cell BK385.out 1).trans rfl; have hfz17_0 := blk_frozen BK385.out 0; have hfz17_1 := blk_frozen BK385.out 1) | ((with_reducible refine gate_callee (f := 7) rfl ?_); refine gL (some 19) Tryd.func7 #[.agg #[.int .i64 a1_0, .slice A1_1 l1_1.length c1_1], .int .i64 t386] ?_; (with_reducible refine (laws_szOrder.calls a1_0 _ _ l1_1 t386 t387 _ (cQ (Kd.C_below HR1_1.out HB.out)) HC1_1.out A10.out).mono ?_); rintro e w18 ⟨rfl, hb⟩; refine ⟨_, rfl, ?_⟩; have _ := aM (blk_below (g := gb384) (o := .cells #[.int .i64 a0_0, .slice A0_1 l0_1.length c0_1] 24 (0, 0)) (qQ BK384) hb); have _ := aM (blk_below (g := gb385) (o := .cells #[.int .i64 a1_0, .slice A1_1 l1_1.length c1_1] 24 (0, 0)) (qQ BK385) hb); have _ := aM (below_step bq hb); clear BK384 BK385 HB; rename_i BK384 BK385 HB; (try clear hb); (try clear hb2); (try clear hk); (try clear hi)))
   go_ret
   exact ⟨by first | rfl | (simp [errW_none, errW_some] <;> rfl) | (simp [*, errW_none, errW_some] <;> rfl), by exact bq⟩
  ·rw [if_neg c11] at H
   have c11b0 : decide (t387 < 0) = false := decide_eq_false c11
   clear c11
   replace H := Option.bind_eq_some_iff.mp H
   obtain ⟨⟨t388, t389⟩, A190, H⟩ := H
   replace H : ((laws_toOrder.f k a1_0 l1_1).bind fun bt392 => ((spec_AreAlike.f k t388 t389 bt392.1 bt392.2).bind fun bt396 => ((laws_toOrder.f k a0_0 l0_1).bind fun bt398 => ((laws_toOrder.f k a1_0 l1_1).bind fun bt403 => ((impl_AreAlike.f k bt398.1 bt398.2 bt403.1 bt403.2).bind fun bt408 => (if (bt408.1 != bt396.1) = true then (lw.j0 k true a0_0 l0_1 a1_0 l1_1 bt398.1 bt398.2 bt403.1 bt403.2) else (lw.j0 k (bt408.2 != bt396.2) a0_0 l0_1 a1_0 l1_1 bt398.1 bt398.2 bt403.1 bt403.2))))))) = some r := H
   have A19 := aM A190
   clear A190
   replace H := Option.bind_eq_some_iff.mp H
   obtain ⟨⟨t392, t393⟩, A200, H⟩ := H
   replace H : ((spec_AreAlike.f k t388 t389 t392 t393).bind fun bt396 => ((laws_toOrder.f k a0_0 l0_1).bind fun bt398 => ((laws_toOrder.f k a1_0 l1_1).bind fun bt403 => ((impl_AreAlike.f k bt398.1 bt398.2 bt403.1 bt403.2).bind fun bt408 => (if (bt408.1 != bt396.1) = true then (lw.j0 k true a0_0 l0_1 a1_0 l1_1 bt398.1 bt398.2 bt403.1 bt403.2) else (lw.j0 k (bt408.2 != bt396.2) a0_0 l0_1 a1_0 l1_1 bt398.1 bt398.2 bt403.1 bt403.2)))))) = some r := H
   have A20 := aM A200
   clear A200
   replace H := Option.bind_eq_some_iff.mp H
   obtain ⟨⟨t396, t397⟩, A210, H⟩ := H
   replace H : ((laws_toOrder.f k a0_0 l0_1).bind fun bt398 => ((laws_toOrder.f k a1_0 l1_1).bind fun bt403 => ((impl_AreAlike.f k bt398.1 bt398.2 bt403.1 bt403.2).bind fun bt408 => (if (bt408.1 != t396) = true then (lw.j0 k true a0_0 l0_1 a1_0 l1_1 bt398.1 bt398.2 bt403.1 bt403.2) else (lw.j0 k (bt408.2 != t397) a0_0 l0_1 a1_0 l1_1 bt398.1 bt398.2 bt403.1 bt403.2))))) = some r := H
   have A21 := aM A210
   clear A210
   replace H := Option.bind_eq_some_iff.mp H
   obtain ⟨⟨t398, t399⟩, A220, H⟩ := H
   replace H : ((laws_toOrder.f k a1_0 l1_1).bind fun bt403 => ((impl_AreAlike.f k t398 t399 bt403.1 bt403.2).bind fun bt408 => (if (bt408.1 != t396) = true then (lw.j0 k true a0_0 l0_1 a1_0 l1_1 t398 t399 bt403.1 bt403.2) else (lw.j0 k (bt408.2 != t397) a0_0 l0_1 a1_0 l1_1 t398 t399 bt403.1 bt403.2)))) = some r := H
   have A22 := aM A220
   clear A220
   replace H := Option.bind_eq_some_iff.mp H
   obtain ⟨⟨t403, t404⟩, A230, H⟩ := H
   replace H : ((impl_AreAlike.f k t398 t399 t403 t404).bind fun bt408 => (if (bt408.1 != t396) = true then (lw.j0 k true a0_0 l0_1 a1_0 l1_1 t398 t399 t403 t404) else (lw.j0 k (bt408.2 != t397) a0_0 l0_1 a1_0 l1_1 t398 t399 t403 t404))) = some r := H
   have A23 := aM A230
   clear A230
   replace H := Option.bind_eq_some_iff.mp H
   obtain ⟨⟨t408, t409⟩, A240, H⟩ := H
   replace H : (if (t408 != t396) = true then (lw.j0 k true a0_0 l0_1 a1_0 l1_1 t398 t399 t403 t404) else (lw.j0 k (t409 != t397) a0_0 l0_1 a1_0 l1_1 t398 t399 t403 t404)) = some r := H
   have A24 := aM A240
   clear A240
   have HC25 := aM H
   clear H
   go_enter Tryd.func5, Tryd.ntmps5
   try go_wp2_with (first | ((with_reducible refine gate_dst (N := 2) rfl ?_); refine bE 2 24 #[.int .i64 a0_0, .slice A0_1 l0_1.length c0_1] ?_; intro gb384 hg w26 hbox hb; have _ := aM (below_step bq hb); have _ := aM (hbox); have _ := aM ((gS hg)); have _ := aM ((gS hg)); clear HB; rename_i HB BK384 GW384 GE384; clear hb hbox hg) | ((with_reducible refine gate_dst (N := 3) rfl ?_); refine bE 3 24 #[.int .i64 a1_0, .slice A1_1 l1_1.length c1_1] ?_; intro gb385 hg w27 hbox hb; have _ := aM (blk_below (g := gb384) (o := .cells #[.int .i64 a0_0, .slice A0_1 l0_1.length c0_1] 24 (0, 0)) (qQ BK384) hb); have _ := aM (below_step bq hb); have _ := aM (hbox); have _ := aM ((gS hg)); have _ := aM ((gS hg)); have _ := aM ((by rw [hg]; exact Nat.ne_of_lt (blk_lt (g := gb384) (o := .cells #[.int .i64 a0_0, .slice A0_1 l0_1.length c0_1] 24 (0, 0)) (qQ BK384)) : gb384 ≠ gb385)); have _ := aM ((by rw [hg]; exact Nat.ne_of_gt (blk_lt (g := gb384) (o := .cells #[.int .i64 a0_0, .slice A0_1 l0_1.length c0_1] 24 (0, 0)) (qQ BK384)) : gb385 ≠ gb384)); clear BK384 HB; rename_i BK384 HB BK385 GW385 GE385 NB384_385 NB385_384; clear hb hbox hg; have hnb28 := NB384_385.out; have hnc28 := NB385_384.out; have hcz29_0 : w27.cell? ⟨gb384, 0, none⟩ = some (.int .i64 a0_0) := (blk_cell BK384.out 0).trans rfl; have hcz29_1 : w27.cell? ⟨gb384, 1, none⟩ = some (.slice A0_1 l0_1.length c0_1) := (blk_cell BK384.out 1).trans rfl; have hfz29_0 := blk_frozen BK384.out 0; have hfz29_1 := blk_frozen BK384.out 1) | ((with_reducible refine gate_callee (f := 7) rfl ?_); refine gL (some 14) Tryd.func7 #[.agg #[.int .i64 a0_0, .slice A0_1 l0_1.length c0_1], .int .i64 1048576] ?_; (with_reducible refine (laws_szOrder.calls a0_0 _ _ l0_1 1048576 t386 _ (cQ (Kd.C_below HR0_1.out HB.out)) HC0_1.out A3.out).mono ?_); rintro e w30 ⟨rfl, hb⟩; refine ⟨_, rfl, ?_⟩; have _ := aM (blk_below (g := gb384) (o := .cells #[.int .i64 a0_0, .slice A0_1 l0_1.length c0_1] 24 (0, 0)) (qQ BK384) hb); have _ := aM (blk_below (g := gb385) (o := .cells #[.int .i64 a1_0, .slice A1_1 l1_1.length c1_1] 24 (0, 0)) (qQ BK385) hb); have _ := aM (below_step bq hb); clear BK384 BK385 HB; rename_i BK384 BK385 HB; (try clear hb); (try clear hb2); (try clear hk); (try clear hi); have hcz31_0 : w30.cell? ⟨gb385, 0, none⟩ = some (.int .i64 a1_0) := (blk_cell BK385.out 0).trans rfl; have hcz31_1 : w30.cell? ⟨gb385, 1, none⟩ = some (.slice A1_1 l1_1.length c1_1) := (blk_cell BK385.out 1).trans rfl; have hfz31_0 := blk_frozen BK385.out 0; have hfz31_1 := blk_frozen BK385.out 1) | ((with_reducible refine gate_callee (f := 7) rfl ?_); refine gL (some 19) Tryd.func7 #[.agg #[.int .i64 a1_0, .slice A1_1 l1_1.length c1_1], .int .i64 t386] ?_; (with_reducible refine (laws_szOrder.calls a1_0 _ _ l1_1 t386 t387 _ (cQ (Kd.C_below HR1_1.out HB.out)) HC1_1.out A10.out).mono ?_); rintro e w32 ⟨rfl, hb⟩; refine ⟨_, rfl, ?_⟩; have _ := aM (blk_below (g := gb384) (o := .cells #[.int .i64 a0_0, .slice A0_1 l0_1.length c0_1] 24 (0, 0)) (qQ BK384) hb); have _ := aM (blk_below (g := gb385) (o := .cells #[.int .i64 a1_0, .slice A1_1 l1_1.length c1_1] 24 (0, 0)) (qQ BK385) hb); have _ := aM (below_step bq hb); clear BK384 BK385 HB; rename_i BK384 BK385 HB; (try clear hb); (try clear hb2); (try clear hk); (try clear hi)))
   have n0_ := aM (blk_drew BK384.out)
   have n1_ := aM (blk_drew BK385.out)
   have n2_ := aM (below_drew1 HB.out)
   clear BK384
   clear BK385
   clear HB
   have BK384 := n0_
   have BK385 := n1_
   have HB := n2_
   clear n0_ n1_ n2_
   refine start_ (n := 10) (S := fun w' => w'.cell? ⟨gb384, 0, none⟩ = some (.int .i64 a0_0) ∧ w'.cell? ⟨gb384, 1, none⟩ = some (.slice A0_1 l0_1.length c0_1) ∧ w'.cell? ⟨gb385, 0, none⟩ = some (.int .i64 a1_0) ∧ w'.cell? ⟨gb385, 1, none⟩ = some (.slice A1_1 l1_1.length c1_1)) (ds := []) #[false, false, false, false, false, false, false, false, false, false] (by kernel_rfl) rfl rfl ⟨(blk_cell BK384.out 0).trans rfl, (blk_cell BK384.out 1).trans rfl, (blk_cell BK385.out 0).trans rfl, (blk_cell BK385.out 1).trans rfl⟩ (fun hHeld => ?_); refine with_tabW laws_FnExactAreAlike.tab8 laws_FnExactAreAlike.bits8 (fun HT_ HW_ => ?_)
   generalize w32.drew = w33 at BK384 BK385 HB hHeld ⊢
   refine take_ (i := 0) (N := some 23) (v := ?_) (a' := ?_) #[true, false, false, false, false, false, false, false, false, false] rfl rfl (take_ofW HT_.out HW_.out (by kernel_rfl)) (fun _ _ _ h => h) (Or.inl ⟨by rfl, ?_⟩) hHeld ?_ ?_
   rotate_left
   ·rintro w' ⟨s0, s1, s2, s3⟩
    go_simp
    with_reducible rfl
   rotate_left
   ·simp only [Act.put, List.setIfInBounds_toArray, List.set_cons_zero, List.set_cons_succ, i64_w, i32_w]
    rfl
   refine take_ (i := 2) (N := some 25) (v := ?_) (a' := ?_) #[true, false, true, false, false, false, false, false, false, false] rfl rfl (take_ofW HT_.out HW_.out (by kernel_rfl)) (fun _ _ _ h => h) (Or.inl ⟨by rfl, ?_⟩) hHeld ?_ ?_
   rotate_left
   ·rintro w' ⟨s0, s1, s2, s3⟩
    go_simp
    with_reducible rfl
   rotate_left
   ·simp only [Act.put, List.setIfInBounds_toArray, List.set_cons_zero, List.set_cons_succ, i64_w, i32_w]
    rfl
   refine one_ (i := 1) (N := some 24) #[true, true, true, false, false, false, false, false, false, false] rfl rfl (one_of HT_.out (by kernel_rfl)) (by decide) (fun K hK => ?_)
   refine goes_ Tryd.func9 (by kernel_rfl) rfl #[.agg #[.int .i64 a0_0, .slice A0_1 l0_1.length c0_1]] (by rfl) rfl rfl (by (try simp only [List.map_toArray, List.map_cons, List.map_nil]); first | done | rfl | (simp only [List.length_drop, List.length_take]; rfl)) ?_
   with_reducible refine (laws_toOrder.calls k a0_0 _ _ l0_1 t388 t389 _ ?side1 ?side2 A19.out).mono ?_
   (case side1 => repeat (first | exact (Kd.C_below HR0_1.out HB.out) | (with_reducible refine Kd.C_alloc ?_ _) | (with_reducible refine Kd.C_drewN ?_ _) | (with_reducible refine Kd.C_drew ?_)))
   (case side2 => exact HC0_1.out)
   rintro e w34 ⟨v390, rfl, ho0, hb⟩
   refine ⟨_, rfl, ?_⟩
   have n0_ := aM (Kd.R_lower ho0 (below_size bq))
   have n1_ := aM (blk_below (g := gb384) (o := .cells #[.int .i64 a0_0, .slice A0_1 l0_1.length c0_1] 24 (0, 0)) (qQ BK384) hb)
   have n2_ := aM (blk_below (g := gb385) (o := .cells #[.int .i64 a1_0, .slice A1_1 l1_1.length c1_1] 24 (0, 0)) (qQ BK385) hb)
   have n3_ := aM (below_step bq hb)
   clear BK384
   clear BK385
   clear HB
   have HO391 := n0_
   have BK384 := n1_
   have BK385 := n2_
   have HB := n3_
   clear n0_ n1_ n2_ n3_
   (try clear hb)
   (try clear hb2)
   (try clear hk)
   (try clear hi)
   (try clear ho0)
   refine hK.out _ _ ⟨(blk_cell BK384.out 0).trans rfl, (blk_cell BK384.out 1).trans rfl, (blk_cell BK385.out 0).trans rfl, (blk_cell BK385.out 1).trans rfl⟩ (fun hHeld => ?_)
   clear hK K
   refine norm_ (a' := ?_) ?_ ?_
   rotate_left
   ·show Act.put _ (some 24) _ = _
    simp only [Act.put, List.setIfInBounds_toArray, List.set_cons_zero, List.set_cons_succ, i64_w, i32_w]
    rfl
   refine one_ (i := 3) (N := some 26) #[true, true, true, true, false, false, false, false, false, false] rfl rfl (one_of HT_.out (by kernel_rfl)) (by decide) (fun K hK => ?_)
   refine goes_ Tryd.func9 (by kernel_rfl) rfl #[.agg #[.int .i64 a1_0, .slice A1_1 l1_1.length c1_1]] (by rfl) rfl rfl (by (try simp only [List.map_toArray, List.map_cons, List.map_nil]); first | done | rfl | (simp only [List.length_drop, List.length_take]; rfl)) ?_
   with_reducible refine (laws_toOrder.calls k a1_0 _ _ l1_1 t392 t393 _ ?side1 ?side2 A20.out).mono ?_
   (case side1 => repeat (first | exact (Kd.C_below HR1_1.out HB.out) | (with_reducible refine Kd.C_alloc ?_ _) | (with_reducible refine Kd.C_drewN ?_ _) | (with_reducible refine Kd.C_drew ?_)))
   (case side2 => exact HC1_1.out)
   rintro e w35 ⟨v394, rfl, ho0, hb⟩
   refine ⟨_, rfl, ?_⟩
   have n0_ := aM (Kd.R_elder' (rQ HO391) (Kd.R_base ho0) hb)
   have n1_ := aM (Kd.R_lower (Kd.R_new' ho0 (Kd.R_lt (rQ HO391))) (below_size bq))
   have n2_ := aM (blk_below (g := gb384) (o := .cells #[.int .i64 a0_0, .slice A0_1 l0_1.length c0_1] 24 (0, 0)) (qQ BK384) hb)
   have n3_ := aM (blk_below (g := gb385) (o := .cells #[.int .i64 a1_0, .slice A1_1 l1_1.length c1_1] 24 (0, 0)) (qQ BK385) hb)
   have n4_ := aM (below_step bq hb)
   clear HO391
   clear BK384
   clear BK385
   clear HB
   have HO391 := n0_
   have HO395 := n1_
   have BK384 := n2_
   have BK385 := n3_
   have HB := n4_
   clear n0_ n1_ n2_ n3_ n4_
   (try clear hb)
   (try clear hb2)
   (try clear hk)
   (try clear hi)
   (try clear ho0)
   obtain ⟨Ao36, co36, eo36⟩ := Kd.R_slice HO391.out
   (first | subst eo36 | (injection eo36 with f1_ f2_ f3_; have f4_ := f1_.symm; have f5_ := f3_.symm; clear f1_ f2_ f3_; subst f4_; subst f5_))
   obtain ⟨Ao37, co37, eo37⟩ := Kd.R_slice HO395.out
   (first | subst eo37 | (injection eo37 with f1_ f2_ f3_; have f4_ := f1_.symm; have f5_ := f3_.symm; clear f1_ f2_ f3_; subst f4_; subst f5_))
   refine hK.out _ _ ⟨(blk_cell BK384.out 0).trans rfl, (blk_cell BK384.out 1).trans rfl, (blk_cell BK385.out 0).trans rfl, (blk_cell BK385.out 1).trans rfl⟩ (fun hHeld => ?_)
   clear hK K
   refine norm_ (a' := ?_) ?_ ?_
   rotate_left
   ·show Act.put _ (some 26) _ = _
    simp only [Act.put, List.setIfInBounds_toArray, List.set_cons_zero, List.set_cons_succ, i64_w, i32_w]
    rfl
   refine one_ (i := 4) (N := some 27) #[true, true, true, true, true, false, false, false, false, false] rfl rfl (one_of HT_.out (by kernel_rfl)) (by decide) (fun K hK => ?_)
   refine goes_ Tryd.func21 (by kernel_rfl) rfl #[.agg #[.int .i64 t388, .slice Ao36 t389.length co36], .agg #[.int .i64 t392, .slice Ao37 t393.length co37]] (by rfl) rfl rfl (by (try simp only [List.map_toArray, List.map_cons, List.map_nil]); first | done | rfl | (simp only [List.length_drop, List.length_take]; rfl)) ?_
   with_reducible refine (spec_AreAlike.calls k t388 _ _ t389 t392 _ _ t393 t396 t397 _ ?side1 ?side2 ?side3 ?side4 A21.out).mono ?_
   (case side1 => repeat (first | exact (Kd.R_reads' HO391.out).2.2 | (with_reducible refine Kd.C_alloc ?_ _) | (with_reducible refine Kd.C_drewN ?_ _) | (with_reducible refine Kd.C_drew ?_)))
   (case side2 => exact (Kd.R_reads' HO391.out).2.1)
   (case side3 => repeat (first | exact (Kd.R_reads' HO395.out).2.2 | (with_reducible refine Kd.C_alloc ?_ _) | (with_reducible refine Kd.C_drewN ?_ _) | (with_reducible refine Kd.C_drew ?_)))
   (case side4 => exact (Kd.R_reads' HO395.out).2.1)
   rintro e w38 ⟨rfl, hb⟩
   refine ⟨_, rfl, ?_⟩
   have n0_ := aM (Kd.R_below (rQ HO391) hb)
   have n1_ := aM (Kd.R_below (rQ HO395) hb)
   have n2_ := aM (blk_below (g := gb384) (o := .cells #[.int .i64 a0_0, .slice A0_1 l0_1.length c0_1] 24 (0, 0)) (qQ BK384) hb)
   have n3_ := aM (blk_below (g := gb385) (o := .cells #[.int .i64 a1_0, .slice A1_1 l1_1.length c1_1] 24 (0, 0)) (qQ BK385) hb)
   have n4_ := aM (below_step bq hb)
   clear HO391
   clear HO395
   clear BK384
   clear BK385
   clear HB
   have HO391 := n0_
   have HO395 := n1_
   have BK384 := n2_
   have BK385 := n3_
   have HB := n4_
   clear n0_ n1_ n2_ n3_ n4_
   (try clear hb)
   (try clear hb2)
   (try clear hk)
   (try clear hi)
   refine hK.out _ _ ⟨(blk_cell BK384.out 0).trans rfl, (blk_cell BK384.out 1).trans rfl, (blk_cell BK385.out 0).trans rfl, (blk_cell BK385.out 1).trans rfl⟩ (fun hHeld => ?_)
   clear hK K
   refine norm_ (a' := ?_) ?_ ?_
   rotate_left
   ·show Act.put _ (some 27) _ = _
    simp only [Act.put, List.setIfInBounds_toArray, List.set_cons_zero, List.set_cons_succ, i64_w, i32_w]
    rfl
   refine pure_ (i := 5) (N := some 22) (v := ?_) (a' := ?_) #[true, true, true, true, true, true, false, false, false, false] rfl rfl (any_of HT_.out (by kernel_rfl)) (fun _ _ _ h => h) (Or.inl ⟨by rfl, ?_⟩) ?_ ?_
   rotate_left
   ·intro w'
    go_simp
    with_reducible rfl
   rotate_left
   ·simp only [Act.put, List.setIfInBounds_toArray, List.set_cons_zero, List.set_cons_succ, i64_w, i32_w]
    rfl
   refine pure_ (i := 6) (N := some 28) (v := ?_) (a' := ?_) #[true, true, true, true, true, true, true, false, false, false] rfl rfl (any_of HT_.out (by kernel_rfl)) (fun _ _ _ h => h) (Or.inl ⟨by rfl, ?_⟩) ?_ ?_
   rotate_left
   ·intro w'
    go_simp
    with_reducible rfl
   rotate_left
   ·simp only [Act.put, List.setIfInBounds_toArray, List.set_cons_zero, List.set_cons_succ, i64_w, i32_w]
    rfl
   refine pure_ (i := 7) (N := some 29) (v := ?_) (a' := ?_) #[true, true, true, true, true, true, true, true, false, false] rfl rfl (any_of HT_.out (by kernel_rfl)) (fun _ _ _ h => h) (Or.inl ⟨by rfl, ?_⟩) ?_ ?_
   rotate_left
   ·intro w'
    go_simp
    with_reducible rfl
   rotate_left
   ·simp only [Act.put, List.setIfInBounds_toArray, List.set_cons_zero, List.set_cons_succ, i64_w, i32_w]
    rfl
   refine pure_ (i := 8) (N := some 6) (v := ?_) (a' := ?_) #[true, true, true, true, true, true, true, true, true, false] rfl rfl (any_of HT_.out (by kernel_rfl)) (fun _ _ _ h => h) (Or.inl ⟨by rfl, ?_⟩) ?_ ?_
   rotate_left
   ·intro w'
    go_simp
    with_reducible rfl
   rotate_left
   ·simp only [Act.put, List.setIfInBounds_toArray, List.set_cons_zero, List.set_cons_succ, i64_w, i32_w]
    rfl
   refine pure_ (i := 9) (N := some 7) (v := ?_) (a' := ?_) #[true, true, true, true, true, true, true, true, true, true] rfl rfl (any_of HT_.out (by kernel_rfl)) (fun _ _ _ h => h) (Or.inl ⟨by rfl, ?_⟩) ?_ ?_
   rotate_left
   ·intro w'
    go_simp
    with_reducible rfl
   rotate_left
   ·simp only [Act.put, List.setIfInBounds_toArray, List.set_cons_zero, List.set_cons_succ, i64_w, i32_w]
    rfl
   refine done_ (done_of HT_.out (by kernel_rfl)) ?_
   have hcz39_0 : w38.cell? ⟨gb384, 0, none⟩ = some (.int .i64 a0_0) := (blk_cell BK384.out 0).trans rfl
   have hcz39_1 : w38.cell? ⟨gb384, 1, none⟩ = some (.slice A0_1 l0_1.length c0_1) := (blk_cell BK384.out 1).trans rfl
   have hfz39_0 := blk_frozen BK384.out 0
   have hfz39_1 := blk_frozen BK384.out 1
   go_upto_region 12 with (first | ((with_reducible refine gate_callee (f := 9) rfl ?_); refine gL (some 31) Tryd.func9 #[.agg #[.int .i64 a0_0, .slice A0_1 l0_1.length c0_1]] ?_; (with_reducible refine (laws_toOrder.calls k a0_0 _ _ l0_1 t398 t399 _ (cQ (Kd.C_below HR0_1.out HB.out)) HC0_1.out A22.out).mono ?_); rintro e w40 ⟨v400, rfl, ho0, hb⟩; refine ⟨_, rfl, ?_⟩; have _ := aM (Kd.R_elder' (rQ HO391) (Kd.R_base ho0) hb); have _ := aM (Kd.R_elder' (rQ HO395) (Kd.R_base ho0) hb); have _ := aM (Kd.R_lower (Kd.R_new' (Kd.R_new' ho0 (Kd.R_lt (rQ HO391))) (Kd.R_lt (rQ HO395))) (below_size bq)); have _ := aM (blk_below (g := gb384) (o := .cells #[.int .i64 a0_0, .slice A0_1 l0_1.length c0_1] 24 (0, 0)) (qQ BK384) hb); have _ := aM (blk_below (g := gb385) (o := .cells #[.int .i64 a1_0, .slice A1_1 l1_1.length c1_1] 24 (0, 0)) (qQ BK385) hb); have _ := aM (below_step bq hb); clear HO391 HO395 BK384 BK385 HB; rename_i HO391 HO395 HO401 BK384 BK385 HB; (try clear hb); (try clear hb2); (try clear hk); (try clear hi); (try clear ho0)) | ((with_reducible refine gate_dst (N := 8) rfl ?_); refine bE 8 31 #[.int .i64 0, .slice none 0 0] ?_; intro gb402 hg w41 hbox hb; have _ := aM (Kd.R_below (rQ HO391) hb); have _ := aM (Kd.R_below (rQ HO395) hb); have _ := aM (Kd.R_below (rQ HO401) hb); have _ := aM (blk_below (g := gb384) (o := .cells #[.int .i64 a0_0, .slice A0_1 l0_1.length c0_1] 24 (0, 0)) (qQ BK384) hb); have _ := aM (blk_below (g := gb385) (o := .cells #[.int .i64 a1_0, .slice A1_1 l1_1.length c1_1] 24 (0, 0)) (qQ BK385) hb); have _ := aM (below_step bq hb); have _ := aM (hbox); have _ := aM ((gS hg)); have _ := aM ((gS hg)); have _ := aM ((by rw [hg]; exact Nat.ne_of_lt (blk_lt (g := gb384) (o := .cells #[.int .i64 a0_0, .slice A0_1 l0_1.length c0_1] 24 (0, 0)) (qQ BK384)) : gb384 ≠ gb402)); have _ := aM ((by rw [hg]; exact Nat.ne_of_gt (blk_lt (g := gb384) (o := .cells #[.int .i64 a0_0, .slice A0_1 l0_1.length c0_1] 24 (0, 0)) (qQ BK384)) : gb402 ≠ gb384)); have _ := aM ((by rw [hg]; exact Nat.ne_of_lt (blk_lt (g := gb385) (o := .cells #[.int .i64 a1_0, .slice A1_1 l1_1.length c1_1] 24 (0, 0)) (qQ BK385)) : gb385 ≠ gb402)); have _ := aM ((by rw [hg]; exact Nat.ne_of_gt (blk_lt (g := gb385) (o := .cells #[.int .i64 a1_0, .slice A1_1 l1_1.length c1_1] 24 (0, 0)) (qQ BK385)) : gb402 ≠ gb385)); clear HO391 HO395 HO401 BK384 BK385 HB; rename_i HO391 HO395 HO401 BK384 BK385 HB BK402 GW402 GE402 NB384_402 NB402_384 NB385_402 NB402_385; clear hb hbox hg; have hnb42 := NB402_384.out; have hnc42 := NB384_402.out; have hnb43 := NB402_385.out; have hnc43 := NB385_402.out; have hcz44_0 : w41.cell? ⟨gb402, 0, none⟩ = some (.int .i64 0) := (blk_cell BK402.out 0).trans rfl; have hcz44_1 : w41.cell? ⟨gb402, 1, none⟩ = some (.slice none 0 0) := (blk_cell BK402.out 1).trans rfl; have hfz44_0 := blk_frozen BK402.out 0; have hfz44_1 := blk_frozen BK402.out 1; obtain ⟨Ao45, co45, eo45⟩ := Kd.R_slice HO401.out; subst eo45; have hcz46_0 : w41.cell? ⟨gb385, 0, none⟩ = some (.int .i64 a1_0) := (blk_cell BK385.out 0).trans rfl; have hcz46_1 : w41.cell? ⟨gb385, 1, none⟩ = some (.slice A1_1 l1_1.length c1_1) := (blk_cell BK385.out 1).trans rfl; have hfz46_0 := blk_frozen BK385.out 0; have hfz46_1 := blk_frozen BK385.out 1) | ((with_reducible refine gate_callee (f := 9) rfl ?_); refine gL (some 33) Tryd.func9 #[.agg #[.int .i64 a1_0, .slice A1_1 l1_1.length c1_1]] ?_; (with_reducible refine (laws_toOrder.calls k a1_0 _ _ l1_1 t403 t404 _ ?side1 ?side2 A23.out).mono ?_); (case side1 => exact Kd.C_below HR1_1.out bq); (case side2 => exact HC1_1.out); rintro e w47 ⟨v405, rfl, ho0, hb⟩; refine ⟨_, rfl, ?_⟩; have _ := aM (Kd.R_elder' (by (with_reducible repeat first|apply rA|apply rN|apply rD); exact (Kd.R_mono (Kd.R_far (p := ⟨gb402, 1, none⟩) (Kd.R_far (p := ⟨gb402, 0, none⟩) (Kd.R_types HO391.out BK402.out (by decide)) (fun _ hk => hk.2) (.int .i64 t398)) (fun _ hk => hk.2) (.slice Ao45 t399.length co45)) (fun _ h_ => h_.1))) (Kd.R_base ho0) hb); have _ := aM (Kd.R_elder' (by (with_reducible repeat first|apply rA|apply rN|apply rD); exact (Kd.R_mono (Kd.R_far (p := ⟨gb402, 1, none⟩) (Kd.R_far (p := ⟨gb402, 0, none⟩) (Kd.R_types HO395.out BK402.out (by decide)) (fun _ hk => hk.2) (.int .i64 t398)) (fun _ hk => hk.2) (.slice Ao45 t399.length co45)) (fun _ h_ => h_.1))) (Kd.R_base ho0) hb); have _ := aM (Kd.R_elder' (by (with_reducible repeat first|apply rA|apply rN|apply rD); exact (Kd.R_mono (Kd.R_far (p := ⟨gb402, 1, none⟩) (Kd.R_far (p := ⟨gb402, 0, none⟩) (Kd.R_types HO401.out BK402.out (by decide)) (fun _ hk => hk.2) (.int .i64 t398)) (fun _ hk => hk.2) (.slice Ao45 t399.length co45)) (fun _ h_ => h_.1))) (Kd.R_base ho0) hb); have _ := aM (Kd.R_lower (Kd.R_new' (Kd.R_new' (Kd.R_new' ho0 (Kd.R_lt (by (with_reducible repeat first|apply rA|apply rN|apply rD); exact (Kd.R_mono (Kd.R_far (p := ⟨gb402, 1, none⟩) (Kd.R_far (p := ⟨gb402, 0, none⟩) (Kd.R_types HO391.out BK402.out (by decide)) (fun _ hk => hk.2) (.int .i64 t398)) (fun _ hk => hk.2) (.slice Ao45 t399.length co45)) (fun _ h_ => h_.1))))) (Kd.R_lt (by (with_reducible repeat first|apply rA|apply rN|apply rD); exact (Kd.R_mono (Kd.R_far (p := ⟨gb402, 1, none⟩) (Kd.R_far (p := ⟨gb402, 0, none⟩) (Kd.R_types HO395.out BK402.out (by decide)) (fun _ hk => hk.2) (.int .i64 t398)) (fun _ hk => hk.2) (.slice Ao45 t399.length co45)) (fun _ h_ => h_.1))))) (Kd.R_lt (by (with_reducible repeat first|apply rA|apply rN|apply rD); exact (Kd.R_mono (Kd.R_far (p := ⟨gb402, 1, none⟩) (Kd.R_far (p := ⟨gb402, 0, none⟩) (Kd.R_types HO401.out BK402.out (by decide)) (fun _ hk => hk.2) (.int .i64 t398)) (fun _ hk => hk.2) (.slice Ao45 t399.length co45)) (fun _ h_ => h_.1))))) (below_size bq)); have _ := aM (blk_below (g := gb384) (o := .cells #[.int .i64 a0_0, .slice A0_1 l0_1.length c0_1] 24 (0, 0)) (by (with_reducible repeat first|apply qN|apply qD|apply qA); refine blk_far ?_ NB384_402.out _; (with_reducible repeat first|apply qN|apply qD|apply qA); refine blk_far ?_ NB384_402.out _; (with_reducible repeat first|apply qN|apply qD|apply qA); exact BK384.out) hb); have _ := aM (blk_below (g := gb385) (o := .cells #[.int .i64 a1_0, .slice A1_1 l1_1.length c1_1] 24 (0, 0)) (by (with_reducible repeat first|apply qN|apply qD|apply qA); refine blk_far ?_ NB385_402.out _; (with_reducible repeat first|apply qN|apply qD|apply qA); refine blk_far ?_ NB385_402.out _; (with_reducible repeat first|apply qN|apply qD|apply qA); exact BK385.out) hb); have _ := aM (blk_below (g := gb402) (o := .cells #[.int .i64 t398, .slice Ao45 t399.length co45] 31 (0, 0)) (by (with_reducible repeat first|apply qN|apply qD|apply qA); refine blk_put (cs := #[.int .i64 t398, .slice none 0 0]) ?_ 1 _ rfl; (with_reducible repeat first|apply qN|apply qD|apply qA); refine blk_put (cs := #[.int .i64 0, .slice none 0 0]) ?_ 0 _ rfl; (with_reducible repeat first|apply qN|apply qD|apply qA); exact BK402.out) hb); have _ := aM (below_step bq hb); clear HO391 HO395 HO401 BK384 BK385 BK402 HB; rename_i HO391 HO395 HO401 HO406 BK384 BK385 BK402 HB; (try clear hb); (try clear hb2); (try clear hk); (try clear hi); (try clear ho0)) | ((with_reducible refine gate_dst (N := 9) rfl ?_); refine bE 9 31 #[.int .i64 0, .slice none 0 0] ?_; intro gb407 hg w48 hbox hb; have _ := aM (Kd.R_below (rQ HO391) hb); have _ := aM (Kd.R_below (rQ HO395) hb); have _ := aM (Kd.R_below (rQ HO401) hb); have _ := aM (Kd.R_below (rQ HO406) hb); have _ := aM (blk_below (g := gb384) (o := .cells #[.int .i64 a0_0, .slice A0_1 l0_1.length c0_1] 24 (0, 0)) (qQ BK384) hb); have _ := aM (blk_below (g := gb385) (o := .cells #[.int .i64 a1_0, .slice A1_1 l1_1.length c1_1] 24 (0, 0)) (qQ BK385) hb); have _ := aM (blk_below (g := gb402) (o := .cells #[.int .i64 t398, .slice Ao45 t399.length co45] 31 (0, 0)) (qQ BK402) hb); have _ := aM (below_step bq hb); have _ := aM (hbox); have _ := aM ((gS hg)); have _ := aM ((gS hg)); have _ := aM ((by rw [hg]; exact Nat.ne_of_lt (blk_lt (g := gb384) (o := .cells #[.int .i64 a0_0, .slice A0_1 l0_1.length c0_1] 24 (0, 0)) (qQ BK384)) : gb384 ≠ gb407)); have _ := aM ((by rw [hg]; exact Nat.ne_of_gt (blk_lt (g := gb384) (o := .cells #[.int .i64 a0_0, .slice A0_1 l0_1.length c0_1] 24 (0, 0)) (qQ BK384)) : gb407 ≠ gb384)); have _ := aM ((by rw [hg]; exact Nat.ne_of_lt (blk_lt (g := gb385) (o := .cells #[.int .i64 a1_0, .slice A1_1 l1_1.length c1_1] 24 (0, 0)) (qQ BK385)) : gb385 ≠ gb407)); have _ := aM ((by rw [hg]; exact Nat.ne_of_gt (blk_lt (g := gb385) (o := .cells #[.int .i64 a1_0, .slice A1_1 l1_1.length c1_1] 24 (0, 0)) (qQ BK385)) : gb407 ≠ gb385)); have _ := aM ((by rw [hg]; exact Nat.ne_of_lt (blk_lt (g := gb402) (o := .cells #[.int .i64 t398, .slice Ao45 t399.length co45] 31 (0, 0)) (qQ BK402)) : gb402 ≠ gb407)); have _ := aM ((by rw [hg]; exact Nat.ne_of_gt (blk_lt (g := gb402) (o := .cells #[.int .i64 t398, .slice Ao45 t399.length co45] 31 (0, 0)) (qQ BK402)) : gb407 ≠ gb402)); clear HO391 HO395 HO401 HO406 BK384 BK385 BK402 HB; rename_i HO391 HO395 HO401 HO406 BK384 BK385 BK402 HB BK407 GW407 GE407 NB384_407 NB407_384 NB385_407 NB407_385 NB402_407 NB407_402; clear hb hbox hg; have hnb49 := NB407_384.out; have hnc49 := NB384_407.out; have hnb50 := NB407_385.out; have hnc50 := NB385_407.out; have hnb51 := NB407_402.out; have hnc51 := NB402_407.out; have hcz52_0 : w48.cell? ⟨gb407, 0, none⟩ = some (.int .i64 0) := (blk_cell BK407.out 0).trans rfl; have hcz52_1 : w48.cell? ⟨gb407, 1, none⟩ = some (.slice none 0 0) := (blk_cell BK407.out 1).trans rfl; have hfz52_0 := blk_frozen BK407.out 0; have hfz52_1 := blk_frozen BK407.out 1; obtain ⟨Ao53, co53, eo53⟩ := Kd.R_slice HO406.out; subst eo53; have hcz54_0 : w48.cell? ⟨gb402, 0, none⟩ = some (.int .i64 t398) := (blk_cell BK402.out 0).trans rfl; have hcz54_1 : w48.cell? ⟨gb402, 1, none⟩ = some (.slice Ao45 t399.length co45) := (blk_cell BK402.out 1).trans rfl; have hfz54_0 := blk_frozen BK402.out 0; have hfz54_1 := blk_frozen BK402.out 1) | ((with_reducible refine gate_callee (f := 22) rfl ?_); refine gL (some 37) Tryd.func22 #[.agg #[.int .i64 t398, .slice Ao45 t399.length co45], .agg #[.int .i64 t403, .slice Ao53 t404.length co53]] ?_; (with_reducible refine (impl_AreAlike.calls k t398 _ _ t399 t403 _ _ t404 t408 t409 _ (HVV.out.below (by repeat (first | (with_reducible first | exact HB.out | apply bA | apply bN | apply bD) | exact HB.out | (refine Below.setCell ?_ ?_ _; rotate_left; first | exact GW384.out | exact GW385.out | exact GW402.out | exact GW407.out)))) ?side1 ?side2 ?side3 ?side4 A24.out).mono ?_); (case side1 => refine (Kd.R_reads' (e := 3) (base := w.heap.size) (ok := fun k_ => (((True ∧ some k_ ≠ (.slice Ao36 t389.length co36 : Value).ownBlock) ∧ some k_ ≠ (.slice Ao37 t393.length co37 : Value).ownBlock) ∧ some k_ ≠ (.slice Ao53 t404.length co53 : Value).ownBlock)) (n := t399.length) (c := co45) ?_).2.2; exact (by (with_reducible repeat first|apply rA|apply rN|apply rD); exact (Kd.R_mono (Kd.R_far (p := ⟨gb407, 1, none⟩) (Kd.R_far (p := ⟨gb407, 0, none⟩) (Kd.R_types HO401.out BK407.out (by decide)) (fun _ hk => hk.2) (.int .i64 t403)) (fun _ hk => hk.2) (.slice Ao53 t404.length co53)) (fun _ h_ => h_.1)))); (case side2 => exact (Kd.R_reads' HO401.out).2.1); (case side3 => refine (Kd.R_reads' (e := 3) (base := w.heap.size) (ok := fun k_ => (((True ∧ some k_ ≠ (.slice Ao36 t389.length co36 : Value).ownBlock) ∧ some k_ ≠ (.slice Ao37 t393.length co37 : Value).ownBlock) ∧ some k_ ≠ (.slice Ao45 t399.length co45 : Value).ownBlock)) (n := t404.length) (c := co53) ?_).2.2; exact (by (with_reducible repeat first|apply rA|apply rN|apply rD); exact (Kd.R_mono (Kd.R_far (p := ⟨gb407, 1, none⟩) (Kd.R_far (p := ⟨gb407, 0, none⟩) (Kd.R_types HO406.out BK407.out (by decide)) (fun _ hk => hk.2) (.int .i64 t403)) (fun _ hk => hk.2) (.slice Ao53 t404.length co53)) (fun _ h_ => h_.1)))); (case side4 => exact (Kd.R_reads' HO406.out).2.1); rintro e w55 ⟨rfl, hb⟩; refine ⟨_, rfl, ?_⟩; have _ := aM (Kd.R_below (by (with_reducible repeat first|apply rA|apply rN|apply rD); exact (Kd.R_mono (Kd.R_far (p := ⟨gb407, 1, none⟩) (Kd.R_far (p := ⟨gb407, 0, none⟩) (Kd.R_types HO391.out BK407.out (by decide)) (fun _ hk => hk.2) (.int .i64 t403)) (fun _ hk => hk.2) (.slice Ao53 t404.length co53)) (fun _ h_ => h_.1))) hb); have _ := aM (Kd.R_below (by (with_reducible repeat first|apply rA|apply rN|apply rD); exact (Kd.R_mono (Kd.R_far (p := ⟨gb407, 1, none⟩) (Kd.R_far (p := ⟨gb407, 0, none⟩) (Kd.R_types HO395.out BK407.out (by decide)) (fun _ hk => hk.2) (.int .i64 t403)) (fun _ hk => hk.2) (.slice Ao53 t404.length co53)) (fun _ h_ => h_.1))) hb); have _ := aM (Kd.R_below (by (with_reducible repeat first|apply rA|apply rN|apply rD); exact (Kd.R_mono (Kd.R_far (p := ⟨gb407, 1, none⟩) (Kd.R_far (p := ⟨gb407, 0, none⟩) (Kd.R_types HO401.out BK407.out (by decide)) (fun _ hk => hk.2) (.int .i64 t403)) (fun _ hk => hk.2) (.slice Ao53 t404.length co53)) (fun _ h_ => h_.1))) hb); have _ := aM (Kd.R_below (by (with_reducible repeat first|apply rA|apply rN|apply rD); exact (Kd.R_mono (Kd.R_far (p := ⟨gb407, 1, none⟩) (Kd.R_far (p := ⟨gb407, 0, none⟩) (Kd.R_types HO406.out BK407.out (by decide)) (fun _ hk => hk.2) (.int .i64 t403)) (fun _ hk => hk.2) (.slice Ao53 t404.length co53)) (fun _ h_ => h_.1))) hb); have _ := aM (blk_below (g := gb384) (o := .cells #[.int .i64 a0_0, .slice A0_1 l0_1.length c0_1] 24 (0, 0)) (by (with_reducible repeat first|apply qN|apply qD|apply qA); refine blk_far ?_ NB384_407.out _; (with_reducible repeat first|apply qN|apply qD|apply qA); refine blk_far ?_ NB384_407.out _; (with_reducible repeat first|apply qN|apply qD|apply qA); exact BK384.out) hb); have _ := aM (blk_below (g := gb385) (o := .cells #[.int .i64 a1_0, .slice A1_1 l1_1.length c1_1] 24 (0, 0)) (by (with_reducible repeat first|apply qN|apply qD|apply qA); refine blk_far ?_ NB385_407.out _; (with_reducible repeat first|apply qN|apply qD|apply qA); refine blk_far ?_ NB385_407.out _; (with_reducible repeat first|apply qN|apply qD|apply qA); exact BK385.out) hb); have _ := aM (blk_below (g := gb402) (o := .cells #[.int .i64 t398, .slice Ao45 t399.length co45] 31 (0, 0)) (by (with_reducible repeat first|apply qN|apply qD|apply qA); refine blk_far ?_ NB402_407.out _; (with_reducible repeat first|apply qN|apply qD|apply qA); refine blk_far ?_ NB402_407.out _; (with_reducible repeat first|apply qN|apply qD|apply qA); exact BK402.out) hb); have _ := aM (blk_below (g := gb407) (o := .cells #[.int .i64 t403, .slice Ao53 t404.length co53] 31 (0, 0)) (by (with_reducible repeat first|apply qN|apply qD|apply qA); refine blk_put (cs := #[.int .i64 t403, .slice none 0 0]) ?_ 1 _ rfl; (with_reducible repeat first|apply qN|apply qD|apply qA); refine blk_put (cs := #[.int .i64 0, .slice none 0 0]) ?_ 0 _ rfl; (with_reducible repeat first|apply qN|apply qD|apply qA); exact BK407.out) hb); have _ := aM (below_step bq hb); clear HO391 HO395 HO401 HO406 BK384 BK385 BK402 BK407 HB; rename_i HO391 HO395 HO401 HO406 BK384 BK385 BK402 BK407 HB; (try clear hb); (try clear hb2); (try clear hk); (try clear hi)))
   (try simp only [Act.put, List.setIfInBounds_toArray, List.set_cons_zero, List.set_cons_succ])
   go_cut [47] (fun v47 wc => ∃ (kq : Nat) (x47_24 : Bool), v47 = .bool x47_24 ∧ Aside0 (lw.j0 kq x47_24 a0_0 l0_1 a1_0 l1_1 t398 t399 t403 t404 = some r) ∧ Aside0 (kq ≤ k) ∧ Aside0 (Kd.R (Kd.int .i64) 3 wc w.heap.size (fun k_ => some k_ ≠ ((.slice Ao53 t404.length co53) : Value).ownBlock) (.slice Ao45 t399.length co45) t399) ∧ Aside0 (Kd.R (Kd.int .i64) 3 wc w.heap.size (fun k_ => some k_ ≠ ((.slice Ao45 t399.length co45) : Value).ownBlock) (.slice Ao53 t404.length co53) t404) ∧ Aside0 (wc.heap[gb384]? = some (.cells #[.int .i64 a0_0, (.slice A0_1 l0_1.length c0_1)] 24 (0, 0))) ∧ Aside0 (wc.heap[gb385]? = some (.cells #[.int .i64 a1_0, (.slice A1_1 l1_1.length c1_1)] 24 (0, 0))) ∧ Aside0 (wc.heap[gb402]? = some (.cells #[.int .i64 t398, (.slice Ao45 t399.length co45)] 31 (0, 0))) ∧ Aside0 (wc.heap[gb407]? = some (.cells #[.int .i64 t403, (.slice Ao53 t404.length co53)] 31 (0, 0))) ∧ Aside0 (Below w.heap.size w wc))
   case first =>
    have H := HC25.out
    clear HC25
    by_cases c56 : (t408 != t396) = true
    ·rw [if_pos c56] at H
     have c56b0 : (t408 != t396) = true := c56
     (try (have c56b1 : decide (t408 = t396) = false := by simpa using c56))
     (try (have c56b2 : (t408 == t396) = false := by simpa using c56))
     (try (have c56b3 : ¬ (t408 = t396) := by simpa using c56))
     clear c56
     (first | rw [c56b0] | (simp only [i64_w, i32_w]; rw [c56b0]) | skip)
     have H' := aM H
     clear H
     go_wp2
     go_meet
     case rel => exact ⟨_, (true), (by first | rfl | (simp; done) | (simp [*]; done)), H', ⟨by first | omega | exact Nat.le_refl _⟩, ⟨by (with_reducible repeat first|apply rA|apply rN|apply rD); exact Kd.R_mono HO401.out (fun _ hk => hk.2)⟩, ⟨by (with_reducible repeat first|apply rA|apply rN|apply rD); exact Kd.R_mono HO406.out (fun _ hk => hk.2)⟩, ⟨by (with_reducible repeat first|apply qN|apply qD|apply qA); exact BK384.out⟩, ⟨by (with_reducible repeat first|apply qN|apply qD|apply qA); exact BK385.out⟩, ⟨by (with_reducible repeat first|apply qN|apply qD|apply qA); exact BK402.out⟩, ⟨by (with_reducible repeat first|apply qN|apply qD|apply qA); exact BK407.out⟩, ⟨by exact bq⟩⟩
    ·rw [if_neg c56] at H
     have c56b0 : (t408 != t396) = false := by simpa using c56
     (try (have c56b1 : decide (t408 = t396) = true := by simpa using c56))
     (try (have c56b2 : (t408 == t396) = true := by simpa using c56))
     clear c56
     (first | rw [c56b0] | (simp only [i64_w, i32_w]; rw [c56b0]) | skip)
     have H' := aM H
     clear H
     go_wp2
     go_meet
     case rel => exact ⟨_, ((t409 != t397)), (by first | rfl | (simp; done) | (simp [*]; done)), H', ⟨by first | omega | exact Nat.le_refl _⟩, ⟨by (with_reducible repeat first|apply rA|apply rN|apply rD); exact Kd.R_mono HO401.out (fun _ hk => hk.2)⟩, ⟨by (with_reducible repeat first|apply rA|apply rN|apply rD); exact Kd.R_mono HO406.out (fun _ hk => hk.2)⟩, ⟨by (with_reducible repeat first|apply qN|apply qD|apply qA); exact BK384.out⟩, ⟨by (with_reducible repeat first|apply qN|apply qD|apply qA); exact BK385.out⟩, ⟨by (with_reducible repeat first|apply qN|apply qD|apply qA); exact BK402.out⟩, ⟨by (with_reducible repeat first|apply qN|apply qD|apply qA); exact BK407.out⟩, ⟨by exact bq⟩⟩
   case rest =>
    clear HC25
    try clear c1
    try clear c2
    try clear p2
    try clear c4
    try clear c4b0
    try clear c5
    try clear c7
    try clear c9
    try clear c11
    try clear c11b0
    try clear c14
    try clear c21
    try clear c22
    try clear c28
    try clear c42
    try clear c43
    try clear c49
    try clear c50
    try clear c51
    try clear c56
    try clear c56b0
    try clear c56b1
    try clear c56b2
    try clear hcz15_0
    try clear hcz15_1
    try clear hcz17_0
    try clear hcz17_1
    try clear hcz29_0
    try clear hcz29_1
    try clear hcz31_0
    try clear hcz31_1
    try clear hcz39_0
    try clear hcz39_1
    try clear hcz44_0
    try clear hcz44_1
    try clear hcz46_0
    try clear hcz46_1
    try clear hcz52_0
    try clear hcz52_1
    try clear hcz54_0
    try clear hcz54_1
    try clear hcz8_0
    try clear hcz8_1
    try clear hfz15_0
    try clear hfz15_1
    try clear hfz17_0
    try clear hfz17_1
    try clear hfz29_0
    try clear hfz29_1
    try clear hfz31_0
    try clear hfz31_1
    try clear hfz39_0
    try clear hfz39_1
    try clear hfz44_0
    try clear hfz44_1
    try clear hfz46_0
    try clear hfz46_1
    try clear hfz52_0
    try clear hfz52_1
    try clear hfz54_0
    try clear hfz54_1
    try clear hfz8_0
    try clear hfz8_1
    obtain ⟨kq, x47_24, rfl, HA, HJ24, HO_403001, HO_408001, BK384, BK385, BK402, BK407, HB⟩ := hcut
    cases kq with
    | zero => exact absurd HA.out (by simp [lw.j0])
    | succ kj24 =>
     have H := HA.out
     clear HA
     simp only [lw.j0] at H
     by_cases c57 : x47_24 = true
     ·subst c57
      have H1 : (some false) = some r := by rw [if_pos rfl] at H; exact H
      clear H
      have H := H1
      clear H1
      obtain rfl := Option.some.inj H
      go_wp2
      go_ret
      exact ⟨by first | rfl | (simp [errW_none, errW_some] <;> rfl) | (simp [*, errW_none, errW_some] <;> rfl), by exact bq⟩
     ·replace c57 := Bool.eq_false_iff.mpr c57
      subst c57
      have H1 : ((laws_toOrder.f kj24 a0_0 l0_1).bind fun bt410 => ((laws_eqOrder.f kj24 t398 t399 bt410.1 bt410.2).bind fun t414 => (if t414 = true then ((laws_toOrder.f kj24 a1_0 l1_1).bind fun bt415 => ((laws_eqOrder.f kj24 t403 t404 bt415.1 bt415.2).bind fun t419 => (if t419 = true then (some true) else (some false)))) else (some false)))) = some r := by rw [if_neg (show ¬ (false = true) by decide)] at H; exact H
      clear H
      have H := H1
      clear H1
      replace H := Option.bind_eq_some_iff.mp H
      obtain ⟨⟨t410, t411⟩, A580, H⟩ := H
      replace H : ((laws_eqOrder.f kj24 t398 t399 t410 t411).bind fun t414 => (if t414 = true then ((laws_toOrder.f kj24 a1_0 l1_1).bind fun bt415 => ((laws_eqOrder.f kj24 t403 t404 bt415.1 bt415.2).bind fun t419 => (if t419 = true then (some true) else (some false)))) else (some false))) = some r := H
      have A58 := aM A580
      clear A580
      replace H := Option.bind_eq_some_iff.mp H
      obtain ⟨t414, A590, H⟩ := H
      replace H : (if t414 = true then ((laws_toOrder.f kj24 a1_0 l1_1).bind fun bt415 => ((laws_eqOrder.f kj24 t403 t404 bt415.1 bt415.2).bind fun t419 => (if t419 = true then (some true) else (some false)))) else (some false)) = some r := H
      have A59 := aM A590
      clear A590
      by_cases c60 : t414 = true
      ·subst c60
       have H1 : ((laws_toOrder.f kj24 a1_0 l1_1).bind fun bt415 => ((laws_eqOrder.f kj24 t403 t404 bt415.1 bt415.2).bind fun t419 => (if t419 = true then (some true) else (some false)))) = some r := by rw [if_pos rfl] at H; exact H
       clear H
       have H := H1
       clear H1
       replace H := Option.bind_eq_some_iff.mp H
       obtain ⟨⟨t415, t416⟩, A610, H⟩ := H
       replace H : ((laws_eqOrder.f kj24 t403 t404 t415 t416).bind fun t419 => (if t419 = true then (some true) else (some false))) = some r := H
       have A61 := aM A610
       clear A610
       replace H := Option.bind_eq_some_iff.mp H
       obtain ⟨t419, A620, H⟩ := H
       replace H : (if t419 = true then (some true) else (some false)) = some r := H
       have A62 := aM A620
       clear A620
       by_cases c63 : t419 = true
       ·subst c63
        have H1 : (some true) = some r := by rw [if_pos rfl] at H; exact H
        clear H
        have H := H1
        clear H1
        obtain rfl := Option.some.inj H
        try go_wp2
        have n0_ := aM (Kd.R_drew HO_403001.out)
        have n1_ := aM (Kd.R_drew HO_408001.out)
        have n2_ := aM (blk_drew BK384.out)
        have n3_ := aM (blk_drew BK385.out)
        have n4_ := aM (blk_drew BK402.out)
        have n5_ := aM (blk_drew BK407.out)
        have n6_ := aM (below_drew1 HB.out)
        clear HO_403001
        clear HO_408001
        clear BK384
        clear BK385
        clear BK402
        clear BK407
        clear HB
        have HO_403001 := n0_
        have HO_408001 := n1_
        have BK384 := n2_
        have BK385 := n3_
        have BK402 := n4_
        have BK407 := n5_
        have HB := n6_
        clear n0_ n1_ n2_ n3_ n4_ n5_ n6_
        refine start_ (n := 5) (S := fun w' => w'.cell? ⟨gb402, 0, none⟩ = some (.int .i64 t398) ∧ w'.cell? ⟨gb402, 1, none⟩ = some (.slice Ao45 t399.length co45) ∧ w'.cell? ⟨gb384, 0, none⟩ = some (.int .i64 a0_0) ∧ w'.cell? ⟨gb384, 1, none⟩ = some (.slice A0_1 l0_1.length c0_1)) (ds := []) #[false, false, false, false, false] (by kernel_rfl) rfl rfl ⟨(blk_cell BK402.out 0).trans rfl, (blk_cell BK402.out 1).trans rfl, (blk_cell BK384.out 0).trans rfl, (blk_cell BK384.out 1).trans rfl⟩ (fun hHeld => ?_)
        generalize wc.drew = w64 at HO_403001 HO_408001 BK384 BK385 BK402 BK407 HB hHeld ⊢
        refine take_ (i := 0) (N := some 48) (v := ?_) (a' := ?_) #[true, false, false, false, false] rfl rfl (by kernel_rfl) (fun _ _ _ h => h) (Or.inl ⟨by rfl, ?_⟩) hHeld ?_ ?_
        rotate_left
        ·rintro w' ⟨s0, s1, s2, s3⟩
         go_simp
         with_reducible rfl
        rotate_left
        ·simp only [Act.put, List.setIfInBounds_toArray, List.set_cons_zero, List.set_cons_succ, i64_w, i32_w]
         rfl
        refine take_ (i := 1) (N := some 49) (v := ?_) (a' := ?_) #[true, true, false, false, false] rfl rfl (by kernel_rfl) (fun _ _ _ h => h) (Or.inl ⟨by rfl, ?_⟩) hHeld ?_ ?_
        rotate_left
        ·rintro w' ⟨s0, s1, s2, s3⟩
         go_simp
         with_reducible rfl
        rotate_left
        ·simp only [Act.put, List.setIfInBounds_toArray, List.set_cons_zero, List.set_cons_succ, i64_w, i32_w]
         rfl
        refine one_ (i := 2) (N := some 50) #[true, true, true, false, false] rfl rfl (by kernel_rfl) (by decide) (fun K hK => ?_)
        refine goes_ Tryd.func9 (by kernel_rfl) rfl #[.agg #[.int .i64 a0_0, .slice A0_1 l0_1.length c0_1]] (by rfl) rfl rfl (by (try simp only [List.map_toArray, List.map_cons, List.map_nil]); first | done | rfl | (simp only [List.length_drop, List.length_take]; rfl)) ?_
        with_reducible refine (laws_toOrder.calls kj24 a0_0 _ _ l0_1 t410 t411 _ ?side1 ?side2 A58.out).mono ?_
        (case side1 => repeat (first | exact (Kd.C_below HR0_1.out HB.out) | (with_reducible refine Kd.C_alloc ?_ _) | (with_reducible refine Kd.C_drewN ?_ _) | (with_reducible refine Kd.C_drew ?_)))
        (case side2 => exact HC0_1.out)
        rintro e w65 ⟨v412, rfl, ho0, hb⟩
        refine ⟨_, rfl, ?_⟩
        have n0_ := aM (Kd.R_elder' (rQ HO_403001) (Kd.R_base ho0) hb)
        have n1_ := aM (Kd.R_elder' (rQ HO_408001) (Kd.R_base ho0) hb)
        have n2_ := aM (Kd.R_lower (Kd.R_new' (Kd.R_new' ho0 (Kd.R_lt (rQ HO_403001))) (Kd.R_lt (rQ HO_408001))) (below_size bq))
        have n3_ := aM (blk_below (g := gb384) (o := .cells #[.int .i64 a0_0, .slice A0_1 l0_1.length c0_1] 24 (0, 0)) (qQ BK384) hb)
        have n4_ := aM (blk_below (g := gb385) (o := .cells #[.int .i64 a1_0, .slice A1_1 l1_1.length c1_1] 24 (0, 0)) (qQ BK385) hb)
        have n5_ := aM (blk_below (g := gb402) (o := .cells #[.int .i64 t398, .slice Ao45 t399.length co45] 31 (0, 0)) (qQ BK402) hb)
        have n6_ := aM (blk_below (g := gb407) (o := .cells #[.int .i64 t403, .slice Ao53 t404.length co53] 31 (0, 0)) (qQ BK407) hb)
        have n7_ := aM (below_step bq hb)
        clear HO_403001
        clear HO_408001
        clear BK384
        clear BK385
        clear BK402
        clear BK407
        clear HB
        have HO_403001 := n0_
        have HO_408001 := n1_
        have HO413 := n2_
        have BK384 := n3_
        have BK385 := n4_
        have BK402 := n5_
        have BK407 := n6_
        have HB := n7_
        clear n0_ n1_ n2_ n3_ n4_ n5_ n6_ n7_
        (try clear hb)
        (try clear hb2)
        (try clear hk)
        (try clear hi)
        (try clear ho0)
        obtain ⟨Ao66, co66, eo66⟩ := Kd.R_slice HO413.out
        (first | subst eo66 | (injection eo66 with f1_ f2_ f3_; have f4_ := f1_.symm; have f5_ := f3_.symm; clear f1_ f2_ f3_; subst f4_; subst f5_))
        refine hK.out _ _ ⟨(blk_cell BK402.out 0).trans rfl, (blk_cell BK402.out 1).trans rfl, (blk_cell BK384.out 0).trans rfl, (blk_cell BK384.out 1).trans rfl⟩ (fun hHeld => ?_)
        clear hK K
        refine norm_ (a' := ?_) ?_ ?_
        rotate_left
        ·show Act.put _ (some 50) _ = _
         simp only [Act.put, List.setIfInBounds_toArray, List.set_cons_zero, List.set_cons_succ, i64_w, i32_w]
         rfl
        refine one_ (i := 3) (N := some 51) #[true, true, true, true, false] rfl rfl (by kernel_rfl) (by decide) (fun K hK => ?_)
        refine goes_ Tryd.func12 (by kernel_rfl) rfl #[.agg #[.int .i64 t398, .slice Ao45 t399.length co45], .agg #[.int .i64 t410, .slice Ao66 t411.length co66]] (by rfl) rfl rfl (by (try simp only [List.map_toArray, List.map_cons, List.map_nil]); first | done | rfl | (simp only [List.length_drop, List.length_take]; rfl)) ?_
        with_reducible refine (laws_eqOrder.calls kj24 t398 _ _ t399 t410 _ _ t411 true _ ?side1 ?side2 ?side3 ?side4 A59.out).mono ?_
        (case side1 => repeat (first | exact (Kd.R_reads' HO_403001.out).2.2 | (with_reducible refine Kd.C_alloc ?_ _) | (with_reducible refine Kd.C_drewN ?_ _) | (with_reducible refine Kd.C_drew ?_)))
        (case side2 => exact (Kd.R_reads' HO_403001.out).2.1)
        (case side3 => repeat (first | exact (Kd.R_reads' HO413.out).2.2 | (with_reducible refine Kd.C_alloc ?_ _) | (with_reducible refine Kd.C_drewN ?_ _) | (with_reducible refine Kd.C_drew ?_)))
        (case side4 => exact (Kd.R_reads' HO413.out).2.1)
        rintro e w67 ⟨rfl, hb⟩
        refine ⟨_, rfl, ?_⟩
        have n0_ := aM (Kd.R_below (rQ HO_403001) hb)
        have n1_ := aM (Kd.R_below (rQ HO_408001) hb)
        have n2_ := aM (Kd.R_below (rQ HO413) hb)
        have n3_ := aM (blk_below (g := gb384) (o := .cells #[.int .i64 a0_0, .slice A0_1 l0_1.length c0_1] 24 (0, 0)) (qQ BK384) hb)
        have n4_ := aM (blk_below (g := gb385) (o := .cells #[.int .i64 a1_0, .slice A1_1 l1_1.length c1_1] 24 (0, 0)) (qQ BK385) hb)
        have n5_ := aM (blk_below (g := gb402) (o := .cells #[.int .i64 t398, .slice Ao45 t399.length co45] 31 (0, 0)) (qQ BK402) hb)
        have n6_ := aM (blk_below (g := gb407) (o := .cells #[.int .i64 t403, .slice Ao53 t404.length co53] 31 (0, 0)) (qQ BK407) hb)
        have n7_ := aM (below_step bq hb)
        clear HO_403001
        clear HO_408001
        clear HO413
        clear BK384
        clear BK385
        clear BK402
        clear BK407
        clear HB
        have HO_403001 := n0_
        have HO_408001 := n1_
        have HO413 := n2_
        have BK384 := n3_
        have BK385 := n4_
        have BK402 := n5_
        have BK407 := n6_
        have HB := n7_
        clear n0_ n1_ n2_ n3_ n4_ n5_ n6_ n7_
        (try clear hb)
        (try clear hb2)
        (try clear hk)
        (try clear hi)
        refine hK.out _ _ ⟨(blk_cell BK402.out 0).trans rfl, (blk_cell BK402.out 1).trans rfl, (blk_cell BK384.out 0).trans rfl, (blk_cell BK384.out 1).trans rfl⟩ (fun hHeld => ?_)
        clear hK K
        refine norm_ (a' := ?_) ?_ ?_
        rotate_left
        ·show Act.put _ (some 51) _ = _
         simp only [Act.put, List.setIfInBounds_toArray, List.set_cons_zero, List.set_cons_succ, i64_w, i32_w]
         rfl
        refine pure_ (i := 4) (N := some 52) (v := ?_) (a' := ?_) #[true, true, true, true, true] rfl rfl (by kernel_rfl) (fun _ _ _ h => h) (Or.inl ⟨by rfl, ?_⟩) ?_ ?_
        rotate_left
        ·intro w'
         go_simp
         with_reducible rfl
        rotate_left
        ·simp only [Act.put, List.setIfInBounds_toArray, List.set_cons_zero, List.set_cons_succ, i64_w, i32_w]
         rfl
        refine done_ (by kernel_rfl) ?_
        try go_wp2
        have n0_ := aM (Kd.R_drew HO_403001.out)
        have n1_ := aM (Kd.R_drew HO_408001.out)
        have n2_ := aM (Kd.R_drew HO413.out)
        have n3_ := aM (blk_drew BK384.out)
        have n4_ := aM (blk_drew BK385.out)
        have n5_ := aM (blk_drew BK402.out)
        have n6_ := aM (blk_drew BK407.out)
        have n7_ := aM (below_drew1 HB.out)
        clear HO_403001
        clear HO_408001
        clear HO413
        clear BK384
        clear BK385
        clear BK402
        clear BK407
        clear HB
        have HO_403001 := n0_
        have HO_408001 := n1_
        have HO413 := n2_
        have BK384 := n3_
        have BK385 := n4_
        have BK402 := n5_
        have BK407 := n6_
        have HB := n7_
        clear n0_ n1_ n2_ n3_ n4_ n5_ n6_ n7_
        refine start_ (n := 5) (S := fun w' => w'.cell? ⟨gb407, 0, none⟩ = some (.int .i64 t403) ∧ w'.cell? ⟨gb407, 1, none⟩ = some (.slice Ao53 t404.length co53) ∧ w'.cell? ⟨gb385, 0, none⟩ = some (.int .i64 a1_0) ∧ w'.cell? ⟨gb385, 1, none⟩ = some (.slice A1_1 l1_1.length c1_1)) (ds := []) #[false, false, false, false, false] (by kernel_rfl) rfl rfl ⟨(blk_cell BK407.out 0).trans rfl, (blk_cell BK407.out 1).trans rfl, (blk_cell BK385.out 0).trans rfl, (blk_cell BK385.out 1).trans rfl⟩ (fun hHeld => ?_)
        generalize w67.drew = w68 at HO_403001 HO_408001 HO413 BK384 BK385 BK402 BK407 HB hHeld ⊢
        refine take_ (i := 0) (N := some 53) (v := ?_) (a' := ?_) #[true, false, false, false, false] rfl rfl (by kernel_rfl) (fun _ _ _ h => h) (Or.inl ⟨by rfl, ?_⟩) hHeld ?_ ?_
        rotate_left
        ·rintro w' ⟨s0, s1, s2, s3⟩
         go_simp
         with_reducible rfl
        rotate_left
        ·simp only [Act.put, List.setIfInBounds_toArray, List.set_cons_zero, List.set_cons_succ, i64_w, i32_w]
         rfl
        refine take_ (i := 1) (N := some 54) (v := ?_) (a' := ?_) #[true, true, false, false, false] rfl rfl (by kernel_rfl) (fun _ _ _ h => h) (Or.inl ⟨by rfl, ?_⟩) hHeld ?_ ?_
        rotate_left
        ·rintro w' ⟨s0, s1, s2, s3⟩
         go_simp
         with_reducible rfl
        rotate_left
        ·simp only [Act.put, List.setIfInBounds_toArray, List.set_cons_zero, List.set_cons_succ, i64_w, i32_w]
         rfl
        refine one_ (i := 2) (N := some 55) #[true, true, true, false, false] rfl rfl (by kernel_rfl) (by decide) (fun K hK => ?_)
        refine goes_ Tryd.func9 (by kernel_rfl) rfl #[.agg #[.int .i64 a1_0, .slice A1_1 l1_1.length c1_1]] (by rfl) rfl rfl (by (try simp only [List.map_toArray, List.map_cons, List.map_nil]); first | done | rfl | (simp only [List.length_drop, List.length_take]; rfl)) ?_
        with_reducible refine (laws_toOrder.calls kj24 a1_0 _ _ l1_1 t415 t416 _ ?side1 ?side2 A61.out).mono ?_
        (case side1 => repeat (first | exact (Kd.C_below HR1_1.out HB.out) | (with_reducible refine Kd.C_alloc ?_ _) | (with_reducible refine Kd.C_drewN ?_ _) | (with_reducible refine Kd.C_drew ?_)))
        (case side2 => exact HC1_1.out)
        rintro e w69 ⟨v417, rfl, ho0, hb⟩
        refine ⟨_, rfl, ?_⟩
        have n0_ := aM (Kd.R_elder' (rQ HO_403001) (Kd.R_base ho0) hb)
        have n1_ := aM (Kd.R_elder' (rQ HO_408001) (Kd.R_base ho0) hb)
        have n2_ := aM (Kd.R_elder' (rQ HO413) (Kd.R_base ho0) hb)
        have n3_ := aM (Kd.R_lower (Kd.R_new' (Kd.R_new' (Kd.R_new' ho0 (Kd.R_lt (rQ HO_403001))) (Kd.R_lt (rQ HO_408001))) (Kd.R_lt (rQ HO413))) (below_size bq))
        have n4_ := aM (blk_below (g := gb384) (o := .cells #[.int .i64 a0_0, .slice A0_1 l0_1.length c0_1] 24 (0, 0)) (qQ BK384) hb)
        have n5_ := aM (blk_below (g := gb385) (o := .cells #[.int .i64 a1_0, .slice A1_1 l1_1.length c1_1] 24 (0, 0)) (qQ BK385) hb)
        have n6_ := aM (blk_below (g := gb402) (o := .cells #[.int .i64 t398, .slice Ao45 t399.length co45] 31 (0, 0)) (qQ BK402) hb)
        have n7_ := aM (blk_below (g := gb407) (o := .cells #[.int .i64 t403, .slice Ao53 t404.length co53] 31 (0, 0)) (qQ BK407) hb)
        have n8_ := aM (below_step bq hb)
        clear HO_403001
        clear HO_408001
        clear HO413
        clear BK384
        clear BK385
        clear BK402
        clear BK407
        clear HB
        have HO_403001 := n0_
        have HO_408001 := n1_
        have HO413 := n2_
        have HO418 := n3_
        have BK384 := n4_
        have BK385 := n5_
        have BK402 := n6_
        have BK407 := n7_
        have HB := n8_
        clear n0_ n1_ n2_ n3_ n4_ n5_ n6_ n7_ n8_
        (try clear hb)
        (try clear hb2)
        (try clear hk)
        (try clear hi)
        (try clear ho0)
        obtain ⟨Ao70, co70, eo70⟩ := Kd.R_slice HO418.out
        (first | subst eo70 | (injection eo70 with f1_ f2_ f3_; have f4_ := f1_.symm; have f5_ := f3_.symm; clear f1_ f2_ f3_; subst f4_; subst f5_))
        refine hK.out _ _ ⟨(blk_cell BK407.out 0).trans rfl, (blk_cell BK407.out 1).trans rfl, (blk_cell BK385.out 0).trans rfl, (blk_cell BK385.out 1).trans rfl⟩ (fun hHeld => ?_)
        clear hK K
        refine norm_ (a' := ?_) ?_ ?_
        rotate_left
        ·show Act.put _ (some 55) _ = _
         simp only [Act.put, List.setIfInBounds_toArray, List.set_cons_zero, List.set_cons_succ, i64_w, i32_w]
         rfl
        refine one_ (i := 3) (N := some 56) #[true, true, true, true, false] rfl rfl (by kernel_rfl) (by decide) (fun K hK => ?_)
        refine goes_ Tryd.func12 (by kernel_rfl) rfl #[.agg #[.int .i64 t403, .slice Ao53 t404.length co53], .agg #[.int .i64 t415, .slice Ao70 t416.length co70]] (by rfl) rfl rfl (by (try simp only [List.map_toArray, List.map_cons, List.map_nil]); first | done | rfl | (simp only [List.length_drop, List.length_take]; rfl)) ?_
        with_reducible refine (laws_eqOrder.calls kj24 t403 _ _ t404 t415 _ _ t416 true _ ?side1 ?side2 ?side3 ?side4 A62.out).mono ?_
        (case side1 => repeat (first | exact (Kd.R_reads' HO_408001.out).2.2 | (with_reducible refine Kd.C_alloc ?_ _) | (with_reducible refine Kd.C_drewN ?_ _) | (with_reducible refine Kd.C_drew ?_)))
        (case side2 => exact (Kd.R_reads' HO_408001.out).2.1)
        (case side3 => repeat (first | exact (Kd.R_reads' HO418.out).2.2 | (with_reducible refine Kd.C_alloc ?_ _) | (with_reducible refine Kd.C_drewN ?_ _) | (with_reducible refine Kd.C_drew ?_)))
        (case side4 => exact (Kd.R_reads' HO418.out).2.1)
        rintro e w71 ⟨rfl, hb⟩
        refine ⟨_, rfl, ?_⟩
        have n0_ := aM (Kd.R_below (rQ HO_403001) hb)
        have n1_ := aM (Kd.R_below (rQ HO_408001) hb)
        have n2_ := aM (Kd.R_below (rQ HO413) hb)
        have n3_ := aM (Kd.R_below (rQ HO418) hb)
        have n4_ := aM (blk_below (g := gb384) (o := .cells #[.int .i64 a0_0, .slice A0_1 l0_1.length c0_1] 24 (0, 0)) (qQ BK384) hb)
        have n5_ := aM (blk_below (g := gb385) (o := .cells #[.int .i64 a1_0, .slice A1_1 l1_1.length c1_1] 24 (0, 0)) (qQ BK385) hb)
        have n6_ := aM (blk_below (g := gb402) (o := .cells #[.int .i64 t398, .slice Ao45 t399.length co45] 31 (0, 0)) (qQ BK402) hb)
        have n7_ := aM (blk_below (g := gb407) (o := .cells #[.int .i64 t403, .slice Ao53 t404.length co53] 31 (0, 0)) (qQ BK407) hb)
        have n8_ := aM (below_step bq hb)
        clear HO_403001
        clear HO_408001
        clear HO413
        clear HO418
        clear BK384
        clear BK385
        clear BK402
        clear BK407
        clear HB
        have HO_403001 := n0_
        have HO_408001 := n1_
        have HO413 := n2_
        have HO418 := n3_
        have BK384 := n4_
        have BK385 := n5_
        have BK402 := n6_
        have BK407 := n7_
        have HB := n8_
        clear n0_ n1_ n2_ n3_ n4_ n5_ n6_ n7_ n8_
        (try clear hb)
        (try clear hb2)
        (try clear hk)
        (try clear hi)
        refine hK.out _ _ ⟨(blk_cell BK407.out 0).trans rfl, (blk_cell BK407.out 1).trans rfl, (blk_cell BK385.out 0).trans rfl, (blk_cell BK385.out 1).trans rfl⟩ (fun hHeld => ?_)
        clear hK K
        refine norm_ (a' := ?_) ?_ ?_
        rotate_left
        ·show Act.put _ (some 56) _ = _
         simp only [Act.put, List.setIfInBounds_toArray, List.set_cons_zero, List.set_cons_succ, i64_w, i32_w]
         rfl
        refine pure_ (i := 4) (N := some 57) (v := ?_) (a' := ?_) #[true, true, true, true, true] rfl rfl (by kernel_rfl) (fun _ _ _ h => h) (Or.inl ⟨by rfl, ?_⟩) ?_ ?_
        rotate_left
        ·intro w'
         go_simp
         with_reducible rfl
        rotate_left
        ·simp only [Act.put, List.setIfInBounds_toArray, List.set_cons_zero, List.set_cons_succ, i64_w, i32_w]
         rfl
        refine done_ (by kernel_rfl) ?_
        try go_wp2
        go_ret
        exact ⟨by first | rfl | (simp [errW_none, errW_some] <;> rfl) | (simp [*, errW_none, errW_some] <;> rfl), by exact bq⟩
       ·replace c63 := Bool.eq_false_iff.mpr c63
        subst c63
        have H1 : (some false) = some r := by rw [if_neg (show ¬ (false = true) by decide)] at H; exact H
        clear H
        have H := H1
        clear H1
        obtain rfl := Option.some.inj H
        try go_wp2
        have n0_ := aM (Kd.R_drew HO_403001.out)
        have n1_ := aM (Kd.R_drew HO_408001.out)
        have n2_ := aM (blk_drew BK384.out)
        have n3_ := aM (blk_drew BK385.out)
        have n4_ := aM (blk_drew BK402.out)
        have n5_ := aM (blk_drew BK407.out)
        have n6_ := aM (below_drew1 HB.out)
        clear HO_403001
        clear HO_408001
        clear BK384
        clear BK385
        clear BK402
        clear BK407
        clear HB
        have HO_403001 := n0_
        have HO_408001 := n1_
        have BK384 := n2_
        have BK385 := n3_
        have BK402 := n4_
        have BK407 := n5_
        have HB := n6_
        clear n0_ n1_ n2_ n3_ n4_ n5_ n6_
        refine start_ (n := 5) (S := fun w' => w'.cell? ⟨gb402, 0, none⟩ = some (.int .i64 t398) ∧ w'.cell? ⟨gb402, 1, none⟩ = some (.slice Ao45 t399.length co45) ∧ w'.cell? ⟨gb384, 0, none⟩ = some (.int .i64 a0_0) ∧ w'.cell? ⟨gb384, 1, none⟩ = some (.slice A0_1 l0_1.length c0_1)) (ds := []) #[false, false, false, false, false] (by kernel_rfl) rfl rfl ⟨(blk_cell BK402.out 0).trans rfl, (blk_cell BK402.out 1).trans rfl, (blk_cell BK384.out 0).trans rfl, (blk_cell BK384.out 1).trans rfl⟩ (fun hHeld => ?_)
        generalize wc.drew = w72 at HO_403001 HO_408001 BK384 BK385 BK402 BK407 HB hHeld ⊢
        refine take_ (i := 0) (N := some 48) (v := ?_) (a' := ?_) #[true, false, false, false, false] rfl rfl (by kernel_rfl) (fun _ _ _ h => h) (Or.inl ⟨by rfl, ?_⟩) hHeld ?_ ?_
        rotate_left
        ·rintro w' ⟨s0, s1, s2, s3⟩
         go_simp
         with_reducible rfl
        rotate_left
        ·simp only [Act.put, List.setIfInBounds_toArray, List.set_cons_zero, List.set_cons_succ, i64_w, i32_w]
         rfl
        refine take_ (i := 1) (N := some 49) (v := ?_) (a' := ?_) #[true, true, false, false, false] rfl rfl (by kernel_rfl) (fun _ _ _ h => h) (Or.inl ⟨by rfl, ?_⟩) hHeld ?_ ?_
        rotate_left
        ·rintro w' ⟨s0, s1, s2, s3⟩
         go_simp
         with_reducible rfl
        rotate_left
        ·simp only [Act.put, List.setIfInBounds_toArray, List.set_cons_zero, List.set_cons_succ, i64_w, i32_w]
         rfl
        refine one_ (i := 2) (N := some 50) #[true, true, true, false, false] rfl rfl (by kernel_rfl) (by decide) (fun K hK => ?_)
        refine goes_ Tryd.func9 (by kernel_rfl) rfl #[.agg #[.int .i64 a0_0, .slice A0_1 l0_1.length c0_1]] (by rfl) rfl rfl (by (try simp only [List.map_toArray, List.map_cons, List.map_nil]); first | done | rfl | (simp only [List.length_drop, List.length_take]; rfl)) ?_
        with_reducible refine (laws_toOrder.calls kj24 a0_0 _ _ l0_1 t410 t411 _ ?side1 ?side2 A58.out).mono ?_
        (case side1 => repeat (first | exact (Kd.C_below HR0_1.out HB.out) | (with_reducible refine Kd.C_alloc ?_ _) | (with_reducible refine Kd.C_drewN ?_ _) | (with_reducible refine Kd.C_drew ?_)))
        (case side2 => exact HC0_1.out)
        rintro e w73 ⟨v412, rfl, ho0, hb⟩
        refine ⟨_, rfl, ?_⟩
        have n0_ := aM (Kd.R_elder' (rQ HO_403001) (Kd.R_base ho0) hb)
        have n1_ := aM (Kd.R_elder' (rQ HO_408001) (Kd.R_base ho0) hb)
        have n2_ := aM (Kd.R_lower (Kd.R_new' (Kd.R_new' ho0 (Kd.R_lt (rQ HO_403001))) (Kd.R_lt (rQ HO_408001))) (below_size bq))
        have n3_ := aM (blk_below (g := gb384) (o := .cells #[.int .i64 a0_0, .slice A0_1 l0_1.length c0_1] 24 (0, 0)) (qQ BK384) hb)
        have n4_ := aM (blk_below (g := gb385) (o := .cells #[.int .i64 a1_0, .slice A1_1 l1_1.length c1_1] 24 (0, 0)) (qQ BK385) hb)
        have n5_ := aM (blk_below (g := gb402) (o := .cells #[.int .i64 t398, .slice Ao45 t399.length co45] 31 (0, 0)) (qQ BK402) hb)
        have n6_ := aM (blk_below (g := gb407) (o := .cells #[.int .i64 t403, .slice Ao53 t404.length co53] 31 (0, 0)) (qQ BK407) hb)
        have n7_ := aM (below_step bq hb)
        clear HO_403001
        clear HO_408001
        clear BK384
        clear BK385
        clear BK402
        clear BK407
        clear HB
        have HO_403001 := n0_
        have HO_408001 := n1_
        have HO413 := n2_
        have BK384 := n3_
        have BK385 := n4_
        have BK402 := n5_
        have BK407 := n6_
        have HB := n7_
        clear n0_ n1_ n2_ n3_ n4_ n5_ n6_ n7_
        (try clear hb)
        (try clear hb2)
        (try clear hk)
        (try clear hi)
        (try clear ho0)
        obtain ⟨Ao74, co74, eo74⟩ := Kd.R_slice HO413.out
        (first | subst eo74 | (injection eo74 with f1_ f2_ f3_; have f4_ := f1_.symm; have f5_ := f3_.symm; clear f1_ f2_ f3_; subst f4_; subst f5_))
        refine hK.out _ _ ⟨(blk_cell BK402.out 0).trans rfl, (blk_cell BK402.out 1).trans rfl, (blk_cell BK384.out 0).trans rfl, (blk_cell BK384.out 1).trans rfl⟩ (fun hHeld => ?_)
        clear hK K
        refine norm_ (a' := ?_) ?_ ?_
        rotate_left
        ·show Act.put _ (some 50) _ = _
         simp only [Act.put, List.setIfInBounds_toArray, List.set_cons_zero, List.set_cons_succ, i64_w, i32_w]
         rfl
        refine one_ (i := 3) (N := some 51) #[true, true, true, true, false] rfl rfl (by kernel_rfl) (by decide) (fun K hK => ?_)
        refine goes_ Tryd.func12 (by kernel_rfl) rfl #[.agg #[.int .i64 t398, .slice Ao45 t399.length co45], .agg #[.int .i64 t410, .slice Ao74 t411.length co74]] (by rfl) rfl rfl (by (try simp only [List.map_toArray, List.map_cons, List.map_nil]); first | done | rfl | (simp only [List.length_drop, List.length_take]; rfl)) ?_
        with_reducible refine (laws_eqOrder.calls kj24 t398 _ _ t399 t410 _ _ t411 true _ ?side1 ?side2 ?side3 ?side4 A59.out).mono ?_
        (case side1 => repeat (first | exact (Kd.R_reads' HO_403001.out).2.2 | (with_reducible refine Kd.C_alloc ?_ _) | (with_reducible refine Kd.C_drewN ?_ _) | (with_reducible refine Kd.C_drew ?_)))
        (case side2 => exact (Kd.R_reads' HO_403001.out).2.1)
        (case side3 => repeat (first | exact (Kd.R_reads' HO413.out).2.2 | (with_reducible refine Kd.C_alloc ?_ _) | (with_reducible refine Kd.C_drewN ?_ _) | (with_reducible refine Kd.C_drew ?_)))
        (case side4 => exact (Kd.R_reads' HO413.out).2.1)
        rintro e w75 ⟨rfl, hb⟩
        refine ⟨_, rfl, ?_⟩
        have n0_ := aM (Kd.R_below (rQ HO_403001) hb)
        have n1_ := aM (Kd.R_below (rQ HO_408001) hb)
        have n2_ := aM (Kd.R_below (rQ HO413) hb)
        have n3_ := aM (blk_below (g := gb384) (o := .cells #[.int .i64 a0_0, .slice A0_1 l0_1.length c0_1] 24 (0, 0)) (qQ BK384) hb)
        have n4_ := aM (blk_below (g := gb385) (o := .cells #[.int .i64 a1_0, .slice A1_1 l1_1.length c1_1] 24 (0, 0)) (qQ BK385) hb)
        have n5_ := aM (blk_below (g := gb402) (o := .cells #[.int .i64 t398, .slice Ao45 t399.length co45] 31 (0, 0)) (qQ BK402) hb)
        have n6_ := aM (blk_below (g := gb407) (o := .cells #[.int .i64 t403, .slice Ao53 t404.length co53] 31 (0, 0)) (qQ BK407) hb)
        have n7_ := aM (below_step bq hb)
        clear HO_403001
        clear HO_408001
        clear HO413
        clear BK384
        clear BK385
        clear BK402
        clear BK407
        clear HB
        have HO_403001 := n0_
        have HO_408001 := n1_
        have HO413 := n2_
        have BK384 := n3_
        have BK385 := n4_
        have BK402 := n5_
        have BK407 := n6_
        have HB := n7_
        clear n0_ n1_ n2_ n3_ n4_ n5_ n6_ n7_
        (try clear hb)
        (try clear hb2)
        (try clear hk)
        (try clear hi)
        refine hK.out _ _ ⟨(blk_cell BK402.out 0).trans rfl, (blk_cell BK402.out 1).trans rfl, (blk_cell BK384.out 0).trans rfl, (blk_cell BK384.out 1).trans rfl⟩ (fun hHeld => ?_)
        clear hK K
        refine norm_ (a' := ?_) ?_ ?_
        rotate_left
        ·show Act.put _ (some 51) _ = _
         simp only [Act.put, List.setIfInBounds_toArray, List.set_cons_zero, List.set_cons_succ, i64_w, i32_w]
         rfl
        refine pure_ (i := 4) (N := some 52) (v := ?_) (a' := ?_) #[true, true, true, true, true] rfl rfl (by kernel_rfl) (fun _ _ _ h => h) (Or.inl ⟨by rfl, ?_⟩) ?_ ?_
        rotate_left
        ·intro w'
         go_simp
         with_reducible rfl
        rotate_left
        ·simp only [Act.put, List.setIfInBounds_toArray, List.set_cons_zero, List.set_cons_succ, i64_w, i32_w]
         rfl
        refine done_ (by kernel_rfl) ?_
        try go_wp2
        have n0_ := aM (Kd.R_drew HO_403001.out)
        have n1_ := aM (Kd.R_drew HO_408001.out)
        have n2_ := aM (Kd.R_drew HO413.out)
        have n3_ := aM (blk_drew BK384.out)
        have n4_ := aM (blk_drew BK385.out)
        have n5_ := aM (blk_drew BK402.out)
        have n6_ := aM (blk_drew BK407.out)
        have n7_ := aM (below_drew1 HB.out)
        clear HO_403001
        clear HO_408001
        clear HO413
        clear BK384
        clear BK385
        clear BK402
        clear BK407
        clear HB
        have HO_403001 := n0_
        have HO_408001 := n1_
        have HO413 := n2_
        have BK384 := n3_
        have BK385 := n4_
        have BK402 := n5_
        have BK407 := n6_
        have HB := n7_
        clear n0_ n1_ n2_ n3_ n4_ n5_ n6_ n7_
        refine start_ (n := 5) (S := fun w' => w'.cell? ⟨gb407, 0, none⟩ = some (.int .i64 t403) ∧ w'.cell? ⟨gb407, 1, none⟩ = some (.slice Ao53 t404.length co53) ∧ w'.cell? ⟨gb385, 0, none⟩ = some (.int .i64 a1_0) ∧ w'.cell? ⟨gb385, 1, none⟩ = some (.slice A1_1 l1_1.length c1_1)) (ds := []) #[false, false, false, false, false] (by kernel_rfl) rfl rfl ⟨(blk_cell BK407.out 0).trans rfl, (blk_cell BK407.out 1).trans rfl, (blk_cell BK385.out 0).trans rfl, (blk_cell BK385.out 1).trans rfl⟩ (fun hHeld => ?_)
        generalize w75.drew = w76 at HO_403001 HO_408001 HO413 BK384 BK385 BK402 BK407 HB hHeld ⊢
        refine take_ (i := 0) (N := some 53) (v := ?_) (a' := ?_) #[true, false, false, false, false] rfl rfl (by kernel_rfl) (fun _ _ _ h => h) (Or.inl ⟨by rfl, ?_⟩) hHeld ?_ ?_
        rotate_left
        ·rintro w' ⟨s0, s1, s2, s3⟩
         go_simp
         with_reducible rfl
        rotate_left
        ·simp only [Act.put, List.setIfInBounds_toArray, List.set_cons_zero, List.set_cons_succ, i64_w, i32_w]
         rfl
        refine take_ (i := 1) (N := some 54) (v := ?_) (a' := ?_) #[true, true, false, false, false] rfl rfl (by kernel_rfl) (fun _ _ _ h => h) (Or.inl ⟨by rfl, ?_⟩) hHeld ?_ ?_
        rotate_left
        ·rintro w' ⟨s0, s1, s2, s3⟩
         go_simp
         with_reducible rfl
        rotate_left
        ·simp only [Act.put, List.setIfInBounds_toArray, List.set_cons_zero, List.set_cons_succ, i64_w, i32_w]
         rfl
        refine one_ (i := 2) (N := some 55) #[true, true, true, false, false] rfl rfl (by kernel_rfl) (by decide) (fun K hK => ?_)
        refine goes_ Tryd.func9 (by kernel_rfl) rfl #[.agg #[.int .i64 a1_0, .slice A1_1 l1_1.length c1_1]] (by rfl) rfl rfl (by (try simp only [List.map_toArray, List.map_cons, List.map_nil]); first | done | rfl | (simp only [List.length_drop, List.length_take]; rfl)) ?_
        with_reducible refine (laws_toOrder.calls kj24 a1_0 _ _ l1_1 t415 t416 _ ?side1 ?side2 A61.out).mono ?_
        (case side1 => repeat (first | exact (Kd.C_below HR1_1.out HB.out) | (with_reducible refine Kd.C_alloc ?_ _) | (with_reducible refine Kd.C_drewN ?_ _) | (with_reducible refine Kd.C_drew ?_)))
        (case side2 => exact HC1_1.out)
        rintro e w77 ⟨v417, rfl, ho0, hb⟩
        refine ⟨_, rfl, ?_⟩
        have n0_ := aM (Kd.R_elder' (rQ HO_403001) (Kd.R_base ho0) hb)
        have n1_ := aM (Kd.R_elder' (rQ HO_408001) (Kd.R_base ho0) hb)
        have n2_ := aM (Kd.R_elder' (rQ HO413) (Kd.R_base ho0) hb)
        have n3_ := aM (Kd.R_lower (Kd.R_new' (Kd.R_new' (Kd.R_new' ho0 (Kd.R_lt (rQ HO_403001))) (Kd.R_lt (rQ HO_408001))) (Kd.R_lt (rQ HO413))) (below_size bq))
        have n4_ := aM (blk_below (g := gb384) (o := .cells #[.int .i64 a0_0, .slice A0_1 l0_1.length c0_1] 24 (0, 0)) (qQ BK384) hb)
        have n5_ := aM (blk_below (g := gb385) (o := .cells #[.int .i64 a1_0, .slice A1_1 l1_1.length c1_1] 24 (0, 0)) (qQ BK385) hb)
        have n6_ := aM (blk_below (g := gb402) (o := .cells #[.int .i64 t398, .slice Ao45 t399.length co45] 31 (0, 0)) (qQ BK402) hb)
        have n7_ := aM (blk_below (g := gb407) (o := .cells #[.int .i64 t403, .slice Ao53 t404.length co53] 31 (0, 0)) (qQ BK407) hb)
        have n8_ := aM (below_step bq hb)
        clear HO_403001
        clear HO_408001
        clear HO413
        clear BK384
        clear BK385
        clear BK402
        clear BK407
        clear HB
        have HO_403001 := n0_
        have HO_408001 := n1_
        have HO413 := n2_
        have HO418 := n3_
        have BK384 := n4_
        have BK385 := n5_
        have BK402 := n6_
        have BK407 := n7_
        have HB := n8_
        clear n0_ n1_ n2_ n3_ n4_ n5_ n6_ n7_ n8_
        (try clear hb)
        (try clear hb2)
        (try clear hk)
        (try clear hi)
        (try clear ho0)
        obtain ⟨Ao78, co78, eo78⟩ := Kd.R_slice HO418.out
        (first | subst eo78 | (injection eo78 with f1_ f2_ f3_; have f4_ := f1_.symm; have f5_ := f3_.symm; clear f1_ f2_ f3_; subst f4_; subst f5_))
        refine hK.out _ _ ⟨(blk_cell BK407.out 0).trans rfl, (blk_cell BK407.out 1).trans rfl, (blk_cell BK385.out 0).trans rfl, (blk_cell BK385.out 1).trans rfl⟩ (fun hHeld => ?_)
        clear hK K
        refine norm_ (a' := ?_) ?_ ?_
        rotate_left
        ·show Act.put _ (some 55) _ = _
         simp only [Act.put, List.setIfInBounds_toArray, List.set_cons_zero, List.set_cons_succ, i64_w, i32_w]
         rfl
        refine one_ (i := 3) (N := some 56) #[true, true, true, true, false] rfl rfl (by kernel_rfl) (by decide) (fun K hK => ?_)
        refine goes_ Tryd.func12 (by kernel_rfl) rfl #[.agg #[.int .i64 t403, .slice Ao53 t404.length co53], .agg #[.int .i64 t415, .slice Ao78 t416.length co78]] (by rfl) rfl rfl (by (try simp only [List.map_toArray, List.map_cons, List.map_nil]); first | done | rfl | (simp only [List.length_drop, List.length_take]; rfl)) ?_
        with_reducible refine (laws_eqOrder.calls kj24 t403 _ _ t404 t415 _ _ t416 false _ ?side1 ?side2 ?side3 ?side4 A62.out).mono ?_
        (case side1 => repeat (first | exact (Kd.R_reads' HO_408001.out).2.2 | (with_reducible refine Kd.C_alloc ?_ _) | (with_reducible refine Kd.C_drewN ?_ _) | (with_reducible refine Kd.C_drew ?_)))
        (case side2 => exact (Kd.R_reads' HO_408001.out).2.1)
        (case side3 => repeat (first | exact (Kd.R_reads' HO418.out).2.2 | (with_reducible refine Kd.C_alloc ?_ _) | (with_reducible refine Kd.C_drewN ?_ _) | (with_reducible refine Kd.C_drew ?_)))
        (case side4 => exact (Kd.R_reads' HO418.out).2.1)
        rintro e w79 ⟨rfl, hb⟩
        refine ⟨_, rfl, ?_⟩
        have n0_ := aM (Kd.R_below (rQ HO_403001) hb)
        have n1_ := aM (Kd.R_below (rQ HO_408001) hb)
        have n2_ := aM (Kd.R_below (rQ HO413) hb)
        have n3_ := aM (Kd.R_below (rQ HO418) hb)
        have n4_ := aM (blk_below (g := gb384) (o := .cells #[.int .i64 a0_0, .slice A0_1 l0_1.length c0_1] 24 (0, 0)) (qQ BK384) hb)
        have n5_ := aM (blk_below (g := gb385) (o := .cells #[.int .i64 a1_0, .slice A1_1 l1_1.length c1_1] 24 (0, 0)) (qQ BK385) hb)
        have n6_ := aM (blk_below (g := gb402) (o := .cells #[.int .i64 t398, .slice Ao45 t399.length co45] 31 (0, 0)) (qQ BK402) hb)
        have n7_ := aM (blk_below (g := gb407) (o := .cells #[.int .i64 t403, .slice Ao53 t404.length co53] 31 (0, 0)) (qQ BK407) hb)
        have n8_ := aM (below_step bq hb)
        clear HO_403001
        clear HO_408001
        clear HO413
        clear HO418
        clear BK384
        clear BK385
        clear BK402
        clear BK407
        clear HB
        have HO_403001 := n0_
        have HO_408001 := n1_
        have HO413 := n2_
        have HO418 := n3_
        have BK384 := n4_
        have BK385 := n5_
        have BK402 := n6_
        have BK407 := n7_
        have HB := n8_
        clear n0_ n1_ n2_ n3_ n4_ n5_ n6_ n7_ n8_
        (try clear hb)
        (try clear hb2)
        (try clear hk)
        (try clear hi)
        refine hK.out _ _ ⟨(blk_cell BK407.out 0).trans rfl, (blk_cell BK407.out 1).trans rfl, (blk_cell BK385.out 0).trans rfl, (blk_cell BK385.out 1).trans rfl⟩ (fun hHeld => ?_)
        clear hK K
        refine norm_ (a' := ?_) ?_ ?_
        rotate_left
        ·show Act.put _ (some 56) _ = _
         simp only [Act.put, List.setIfInBounds_toArray, List.set_cons_zero, List.set_cons_succ, i64_w, i32_w]
         rfl
        refine pure_ (i := 4) (N := some 57) (v := ?_) (a' := ?_) #[true, true, true, true, true] rfl rfl (by kernel_rfl) (fun _ _ _ h => h) (Or.inl ⟨by rfl, ?_⟩) ?_ ?_
        rotate_left
        ·intro w'
         go_simp
         with_reducible rfl
        rotate_left
        ·simp only [Act.put, List.setIfInBounds_toArray, List.set_cons_zero, List.set_cons_succ, i64_w, i32_w]
         rfl
        refine done_ (by kernel_rfl) ?_
        try go_wp2
        go_ret
        exact ⟨by first | rfl | (simp [errW_none, errW_some] <;> rfl) | (simp [*, errW_none, errW_some] <;> rfl), by exact bq⟩
      ·replace c60 := Bool.eq_false_iff.mpr c60
       subst c60
       have H1 : (some false) = some r := by rw [if_neg (show ¬ (false = true) by decide)] at H; exact H
       clear H
       have H := H1
       clear H1
       obtain rfl := Option.some.inj H
       try go_wp2
       have n0_ := aM (Kd.R_drew HO_403001.out)
       have n1_ := aM (Kd.R_drew HO_408001.out)
       have n2_ := aM (blk_drew BK384.out)
       have n3_ := aM (blk_drew BK385.out)
       have n4_ := aM (blk_drew BK402.out)
       have n5_ := aM (blk_drew BK407.out)
       have n6_ := aM (below_drew1 HB.out)
       clear HO_403001
       clear HO_408001
       clear BK384
       clear BK385
       clear BK402
       clear BK407
       clear HB
       have HO_403001 := n0_
       have HO_408001 := n1_
       have BK384 := n2_
       have BK385 := n3_
       have BK402 := n4_
       have BK407 := n5_
       have HB := n6_
       clear n0_ n1_ n2_ n3_ n4_ n5_ n6_
       refine start_ (n := 5) (S := fun w' => w'.cell? ⟨gb402, 0, none⟩ = some (.int .i64 t398) ∧ w'.cell? ⟨gb402, 1, none⟩ = some (.slice Ao45 t399.length co45) ∧ w'.cell? ⟨gb384, 0, none⟩ = some (.int .i64 a0_0) ∧ w'.cell? ⟨gb384, 1, none⟩ = some (.slice A0_1 l0_1.length c0_1)) (ds := []) #[false, false, false, false, false] (by kernel_rfl) rfl rfl ⟨(blk_cell BK402.out 0).trans rfl, (blk_cell BK402.out 1).trans rfl, (blk_cell BK384.out 0).trans rfl, (blk_cell BK384.out 1).trans rfl⟩ (fun hHeld => ?_)
       generalize wc.drew = w80 at HO_403001 HO_408001 BK384 BK385 BK402 BK407 HB hHeld ⊢
       refine take_ (i := 0) (N := some 48) (v := ?_) (a' := ?_) #[true, false, false, false, false] rfl rfl (by kernel_rfl) (fun _ _ _ h => h) (Or.inl ⟨by rfl, ?_⟩) hHeld ?_ ?_
       rotate_left
       ·rintro w' ⟨s0, s1, s2, s3⟩
        go_simp
        with_reducible rfl
       rotate_left
       ·simp only [Act.put, List.setIfInBounds_toArray, List.set_cons_zero, List.set_cons_succ, i64_w, i32_w]
        rfl
       refine take_ (i := 1) (N := some 49) (v := ?_) (a' := ?_) #[true, true, false, false, false] rfl rfl (by kernel_rfl) (fun _ _ _ h => h) (Or.inl ⟨by rfl, ?_⟩) hHeld ?_ ?_
       rotate_left
       ·rintro w' ⟨s0, s1, s2, s3⟩
        go_simp
        with_reducible rfl
       rotate_left
       ·simp only [Act.put, List.setIfInBounds_toArray, List.set_cons_zero, List.set_cons_succ, i64_w, i32_w]
        rfl
       refine one_ (i := 2) (N := some 50) #[true, true, true, false, false] rfl rfl (by kernel_rfl) (by decide) (fun K hK => ?_)
       refine goes_ Tryd.func9 (by kernel_rfl) rfl #[.agg #[.int .i64 a0_0, .slice A0_1 l0_1.length c0_1]] (by rfl) rfl rfl (by (try simp only [List.map_toArray, List.map_cons, List.map_nil]); first | done | rfl | (simp only [List.length_drop, List.length_take]; rfl)) ?_
       with_reducible refine (laws_toOrder.calls kj24 a0_0 _ _ l0_1 t410 t411 _ ?side1 ?side2 A58.out).mono ?_
       (case side1 => repeat (first | exact (Kd.C_below HR0_1.out HB.out) | (with_reducible refine Kd.C_alloc ?_ _) | (with_reducible refine Kd.C_drewN ?_ _) | (with_reducible refine Kd.C_drew ?_)))
       (case side2 => exact HC0_1.out)
       rintro e w81 ⟨v412, rfl, ho0, hb⟩
       refine ⟨_, rfl, ?_⟩
       have n0_ := aM (Kd.R_elder' (rQ HO_403001) (Kd.R_base ho0) hb)
       have n1_ := aM (Kd.R_elder' (rQ HO_408001) (Kd.R_base ho0) hb)
       have n2_ := aM (Kd.R_lower (Kd.R_new' (Kd.R_new' ho0 (Kd.R_lt (rQ HO_403001))) (Kd.R_lt (rQ HO_408001))) (below_size bq))
       have n3_ := aM (blk_below (g := gb384) (o := .cells #[.int .i64 a0_0, .slice A0_1 l0_1.length c0_1] 24 (0, 0)) (qQ BK384) hb)
       have n4_ := aM (blk_below (g := gb385) (o := .cells #[.int .i64 a1_0, .slice A1_1 l1_1.length c1_1] 24 (0, 0)) (qQ BK385) hb)
       have n5_ := aM (blk_below (g := gb402) (o := .cells #[.int .i64 t398, .slice Ao45 t399.length co45] 31 (0, 0)) (qQ BK402) hb)
       have n6_ := aM (blk_below (g := gb407) (o := .cells #[.int .i64 t403, .slice Ao53 t404.length co53] 31 (0, 0)) (qQ BK407) hb)
       have n7_ := aM (below_step bq hb)
       clear HO_403001
       clear HO_408001
       clear BK384
       clear BK385
       clear BK402
       clear BK407
       clear HB
       have HO_403001 := n0_
       have HO_408001 := n1_
       have HO413 := n2_
       have BK384 := n3_
       have BK385 := n4_
       have BK402 := n5_
       have BK407 := n6_
       have HB := n7_
       clear n0_ n1_ n2_ n3_ n4_ n5_ n6_ n7_
       (try clear hb)
       (try clear hb2)
       (try clear hk)
       (try clear hi)
       (try clear ho0)
       obtain ⟨Ao82, co82, eo82⟩ := Kd.R_slice HO413.out
       (first | subst eo82 | (injection eo82 with f1_ f2_ f3_; have f4_ := f1_.symm; have f5_ := f3_.symm; clear f1_ f2_ f3_; subst f4_; subst f5_))
       refine hK.out _ _ ⟨(blk_cell BK402.out 0).trans rfl, (blk_cell BK402.out 1).trans rfl, (blk_cell BK384.out 0).trans rfl, (blk_cell BK384.out 1).trans rfl⟩ (fun hHeld => ?_)
       clear hK K
       refine norm_ (a' := ?_) ?_ ?_
       rotate_left
       ·show Act.put _ (some 50) _ = _
        simp only [Act.put, List.setIfInBounds_toArray, List.set_cons_zero, List.set_cons_succ, i64_w, i32_w]
        rfl
       refine one_ (i := 3) (N := some 51) #[true, true, true, true, false] rfl rfl (by kernel_rfl) (by decide) (fun K hK => ?_)
       refine goes_ Tryd.func12 (by kernel_rfl) rfl #[.agg #[.int .i64 t398, .slice Ao45 t399.length co45], .agg #[.int .i64 t410, .slice Ao82 t411.length co82]] (by rfl) rfl rfl (by (try simp only [List.map_toArray, List.map_cons, List.map_nil]); first | done | rfl | (simp only [List.length_drop, List.length_take]; rfl)) ?_
       with_reducible refine (laws_eqOrder.calls kj24 t398 _ _ t399 t410 _ _ t411 false _ ?side1 ?side2 ?side3 ?side4 A59.out).mono ?_
       (case side1 => repeat (first | exact (Kd.R_reads' HO_403001.out).2.2 | (with_reducible refine Kd.C_alloc ?_ _) | (with_reducible refine Kd.C_drewN ?_ _) | (with_reducible refine Kd.C_drew ?_)))
       (case side2 => exact (Kd.R_reads' HO_403001.out).2.1)
       (case side3 => repeat (first | exact (Kd.R_reads' HO413.out).2.2 | (with_reducible refine Kd.C_alloc ?_ _) | (with_reducible refine Kd.C_drewN ?_ _) | (with_reducible refine Kd.C_drew ?_)))
       (case side4 => exact (Kd.R_reads' HO413.out).2.1)
       rintro e w83 ⟨rfl, hb⟩
       refine ⟨_, rfl, ?_⟩
       have n0_ := aM (Kd.R_below (rQ HO_403001) hb)
       have n1_ := aM (Kd.R_below (rQ HO_408001) hb)
       have n2_ := aM (Kd.R_below (rQ HO413) hb)
       have n3_ := aM (blk_below (g := gb384) (o := .cells #[.int .i64 a0_0, .slice A0_1 l0_1.length c0_1] 24 (0, 0)) (qQ BK384) hb)
       have n4_ := aM (blk_below (g := gb385) (o := .cells #[.int .i64 a1_0, .slice A1_1 l1_1.length c1_1] 24 (0, 0)) (qQ BK385) hb)
       have n5_ := aM (blk_below (g := gb402) (o := .cells #[.int .i64 t398, .slice Ao45 t399.length co45] 31 (0, 0)) (qQ BK402) hb)
       have n6_ := aM (blk_below (g := gb407) (o := .cells #[.int .i64 t403, .slice Ao53 t404.length co53] 31 (0, 0)) (qQ BK407) hb)
       have n7_ := aM (below_step bq hb)
       clear HO_403001
       clear HO_408001
       clear HO413
       clear BK384
       clear BK385
       clear BK402
       clear BK407
       clear HB
       have HO_403001 := n0_
       have HO_408001 := n1_
       have HO413 := n2_
       have BK384 := n3_
       have BK385 := n4_
       have BK402 := n5_
       have BK407 := n6_
       have HB := n7_
       clear n0_ n1_ n2_ n3_ n4_ n5_ n6_ n7_
       (try clear hb)
       (try clear hb2)
       (try clear hk)
       (try clear hi)
       refine hK.out _ _ ⟨(blk_cell BK402.out 0).trans rfl, (blk_cell BK402.out 1).trans rfl, (blk_cell BK384.out 0).trans rfl, (blk_cell BK384.out 1).trans rfl⟩ (fun hHeld => ?_)
       clear hK K
       refine norm_ (a' := ?_) ?_ ?_
       rotate_left
       ·show Act.put _ (some 51) _ = _
        simp only [Act.put, List.setIfInBounds_toArray, List.set_cons_zero, List.set_cons_succ, i64_w, i32_w]
        rfl
       refine pure_ (i := 4) (N := some 52) (v := ?_) (a' := ?_) #[true, true, true, true, true] rfl rfl (by kernel_rfl) (fun _ _ _ h => h) (Or.inl ⟨by rfl, ?_⟩) ?_ ?_
       rotate_left
       ·intro w'
        go_simp
        with_reducible rfl
       rotate_left
       ·simp only [Act.put, List.setIfInBounds_toArray, List.set_cons_zero, List.set_cons_succ, i64_w, i32_w]
        rfl
       refine done_ (by kernel_rfl) ?_
       try go_wp2
       go_ret
       exact ⟨by first | rfl | (simp [errW_none, errW_some] <;> rfl) | (simp [*, errW_none, errW_some] <;> rfl), by exact bq⟩

end Go.Proofs.YtcodionjhcmfhaaDoor.Al
