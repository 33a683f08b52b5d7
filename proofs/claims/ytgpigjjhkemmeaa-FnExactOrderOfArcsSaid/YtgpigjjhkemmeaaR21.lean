-- Written by hook.py, a program of this session (wip/), which runs the kit's print.py with its own parts; Lean checks it.
import Derived.Test.YtgpigjjhkemmeaaR0
import Derived.Test.YtgpigjjhkemmeaaR1
import Derived.Test.YtgpigjjhkemmeaaR3
import Derived.Test.YtgpigjjhkemmeaaR6
import Derived.Test.YtgpigjjhkemmeaaR19
import Derived.Test.YtgpigjjhkemmeaaR20
namespace Go.Proofs.Ytgpigjjhkemmeaa.R
open Go.RowKit Go.Proofs.YtgpigjjhkemmeaaW.PrintWords Go.Proofs.YtgpigjjhkemmeaaW.PrintLast Go.Proofs.YtgpigjjhkemmeaaW.PrintMore
attribute [local go_sem] max2_int min2_int max_two min_two max_three min_three max_four min_four   -- for this text's walks alone
set_option linter.unusedVariables false
set_option linter.unusedSimpArgs false

/-! ### laws_FnExactOrderOfArcs: function 11 -/
mutual
def laws_FnExactOrderOfArcs.j0 : Nat → List Int → Bool → List Int → Bool → Bool → Int → List Int → Int → List Int → Option (Bool)
  | 0, _, _, _, _, _, _, _, _, _ => none
  | k + 1, x0, x4, x5, x7, x37, x479000, x479001, x488000, x488001 => if x37 = true then (some false) else ((laws_toIntS.f k x0).bind fun t489 => ((laws_eqIntS.f k x5 t489).bind fun t492 => (if t492 = true then ((laws_markIntS.f k x5 1).bind fun bt493 => (if bt493.1 < 0 then (laws_FnExactOrderOfArcs.j1 k x0 x4 true x479000 x479001 x488000 x488001) else ((laws_eqOrder.f k x488000 x488001 x479000 x479001).bind fun t495 => (if t495 = true then (laws_FnExactOrderOfArcs.j1 k x0 x4 (x7 != x4) x479000 x479001 x488000 x488001) else (laws_FnExactOrderOfArcs.j1 k x0 x4 true x479000 x479001 x488000 x488001))))) else (some false))))
def laws_FnExactOrderOfArcs.j1 : Nat → List Int → Bool → Bool → Int → List Int → Int → List Int → Option (Bool)
  | 0, _, _, _, _, _, _, _ => none
  | k + 1, x0, x4, x58, x479000, x479001, x488000, x488001 => if x58 = true then (some false) else ((laws_markOrder.f k x488000 x488001 1).bind fun bt496 => ((laws_heldOrder.f k x488000 bt496.2 1).bind fun t498 => (if t498 < 0 then (some false) else (if t498 = bt496.1 then ((laws_toIntS.f k x0).bind fun t499 => ((impl_OrderOfArcs.f k t499).bind fun bt502 => ((laws_eqOrder.f k bt502.1 bt502.2.1 x479000 x479001).bind fun t508 => (if t508 = true then (laws_FnExactOrderOfArcs.j2 k bt496.1 (bt502.2.2 != x4) x488000 bt496.2) else (laws_FnExactOrderOfArcs.j2 k bt496.1 true x488000 bt496.2))))) else (some false)))))
def laws_FnExactOrderOfArcs.j2 : Nat → Int → Bool → Int → List Int → Option (Bool)
  | 0, _, _, _, _ => none
  | k + 1, x9, x84, x488000, x488001 => if x84 = true then (some false) else ((laws_heldOrder.f k x488000 x488001 1).bind fun t509 => (if t509 < 0 then (some false) else (if t509 = x9 then (some true) else (some false))))
end
def laws_FnExactOrderOfArcs.f (k : Nat) (l0 : List Int) : Option (Bool) := if (l0.length : Int) > 1048576 then (some true) else ((laws_toIntS.f k l0).bind fun t470 => ((spec_OrderOfArcs.f k t470).bind fun bt473 => ((laws_toIntS.f k l0).bind fun t479 => ((impl_OrderOfArcs.f k t479).bind fun bt482 => ((laws_eqOrder.f k bt482.1 bt482.2.1 bt473.1 bt473.2.1).bind fun t488 => (if t488 = true then (laws_FnExactOrderOfArcs.j0 k l0 bt473.2.2 t479 bt482.2.2 (bt482.2.2 != bt473.2.2) bt473.1 bt473.2.1 bt482.1 bt482.2.1) else (laws_FnExactOrderOfArcs.j0 k l0 bt473.2.2 t479 bt482.2.2 true bt473.1 bt473.2.1 bt482.1 bt482.2.1)))))))
theorem laws_FnExactOrderOfArcs.mono_l : ∀ k, (∀ y0 y1 y2 y3 y4 y5 y6 y7 y8, LeO (laws_FnExactOrderOfArcs.j0 k y0 y1 y2 y3 y4 y5 y6 y7 y8) (laws_FnExactOrderOfArcs.j0 (k + 1) y0 y1 y2 y3 y4 y5 y6 y7 y8)) ∧ (∀ y0 y1 y2 y3 y4 y5 y6, LeO (laws_FnExactOrderOfArcs.j1 k y0 y1 y2 y3 y4 y5 y6) (laws_FnExactOrderOfArcs.j1 (k + 1) y0 y1 y2 y3 y4 y5 y6)) ∧ (∀ y0 y1 y2 y3, LeO (laws_FnExactOrderOfArcs.j2 k y0 y1 y2 y3) (laws_FnExactOrderOfArcs.j2 (k + 1) y0 y1 y2 y3))
  | 0 => ⟨fun _ _ _ _ _ _ _ _ _ r h => by simp [laws_FnExactOrderOfArcs.j0] at h, fun _ _ _ _ _ _ _ r h => by simp [laws_FnExactOrderOfArcs.j1] at h, fun _ _ _ _ r h => by simp [laws_FnExactOrderOfArcs.j2] at h⟩
  | k + 1 => by
    obtain ⟨ih0, ih1, ih2⟩ := laws_FnExactOrderOfArcs.mono_l k
    refine ⟨?_, ?_, ?_⟩
    · intro y0 y1 y2 y3 y4 y5 y6 y7 y8
      unfold laws_FnExactOrderOfArcs.j0
      repeat' first
      | (with_reducible exact ih0 _ _ _ _ _ _ _ _ _)
      | (with_reducible exact ih1 _ _ _ _ _ _ _)
      | (with_reducible exact ih2 _ _ _ _)
      | (with_reducible exact impl_OrderOfArcs.mono _ _)
      | (with_reducible exact laws_eqIntS.mono _ _ _)
      | (with_reducible exact laws_eqOrder.mono _ _ _ _ _)
      | (with_reducible exact laws_heldOrder.mono _ _ _ _)
      | (with_reducible exact laws_markIntS.mono _ _ _)
      | (with_reducible exact laws_markOrder.mono _ _ _ _)
      | (with_reducible exact laws_toIntS.mono _ _)
      | (with_reducible exact spec_OrderOfArcs.mono _ _)
      | (with_reducible exact LeO.refl _)
      | (with_reducible exact LeO.none _)
      | (with_reducible refine LeO.ite ?_ ?_)
      | (with_reducible refine LeO.bind ?_ (fun _ => ?_))
      | exact ih0 _ _ _ _ _ _ _ _ _
      | exact ih1 _ _ _ _ _ _ _
      | exact ih2 _ _ _ _
      | exact impl_OrderOfArcs.mono _ _
      | exact laws_eqIntS.mono _ _ _
      | exact laws_eqOrder.mono _ _ _ _ _
      | exact laws_heldOrder.mono _ _ _ _
      | exact laws_markIntS.mono _ _ _
      | exact laws_markOrder.mono _ _ _ _
      | exact laws_toIntS.mono _ _
      | exact spec_OrderOfArcs.mono _ _
      | exact LeO.none _
      | refine LeO.ite ?_ ?_
      | refine LeO.bind ?_ (fun _ => ?_)
    · intro y0 y1 y2 y3 y4 y5 y6
      unfold laws_FnExactOrderOfArcs.j1
      repeat' first
      | (with_reducible exact ih0 _ _ _ _ _ _ _ _ _)
      | (with_reducible exact ih1 _ _ _ _ _ _ _)
      | (with_reducible exact ih2 _ _ _ _)
      | (with_reducible exact impl_OrderOfArcs.mono _ _)
      | (with_reducible exact laws_eqIntS.mono _ _ _)
      | (with_reducible exact laws_eqOrder.mono _ _ _ _ _)
      | (with_reducible exact laws_heldOrder.mono _ _ _ _)
      | (with_reducible exact laws_markIntS.mono _ _ _)
      | (with_reducible exact laws_markOrder.mono _ _ _ _)
      | (with_reducible exact laws_toIntS.mono _ _)
      | (with_reducible exact spec_OrderOfArcs.mono _ _)
      | (with_reducible exact LeO.refl _)
      | (with_reducible exact LeO.none _)
      | (with_reducible refine LeO.ite ?_ ?_)
      | (with_reducible refine LeO.bind ?_ (fun _ => ?_))
      | exact ih0 _ _ _ _ _ _ _ _ _
      | exact ih1 _ _ _ _ _ _ _
      | exact ih2 _ _ _ _
      | exact impl_OrderOfArcs.mono _ _
      | exact laws_eqIntS.mono _ _ _
      | exact laws_eqOrder.mono _ _ _ _ _
      | exact laws_heldOrder.mono _ _ _ _
      | exact laws_markIntS.mono _ _ _
      | exact laws_markOrder.mono _ _ _ _
      | exact laws_toIntS.mono _ _
      | exact spec_OrderOfArcs.mono _ _
      | exact LeO.none _
      | refine LeO.ite ?_ ?_
      | refine LeO.bind ?_ (fun _ => ?_)
    · intro y0 y1 y2 y3
      unfold laws_FnExactOrderOfArcs.j2
      repeat' first
      | (with_reducible exact ih0 _ _ _ _ _ _ _ _ _)
      | (with_reducible exact ih1 _ _ _ _ _ _ _)
      | (with_reducible exact ih2 _ _ _ _)
      | (with_reducible exact impl_OrderOfArcs.mono _ _)
      | (with_reducible exact laws_eqIntS.mono _ _ _)
      | (with_reducible exact laws_eqOrder.mono _ _ _ _ _)
      | (with_reducible exact laws_heldOrder.mono _ _ _ _)
      | (with_reducible exact laws_markIntS.mono _ _ _)
      | (with_reducible exact laws_markOrder.mono _ _ _ _)
      | (with_reducible exact laws_toIntS.mono _ _)
      | (with_reducible exact spec_OrderOfArcs.mono _ _)
      | (with_reducible exact LeO.refl _)
      | (with_reducible exact LeO.none _)
      | (with_reducible refine LeO.ite ?_ ?_)
      | (with_reducible refine LeO.bind ?_ (fun _ => ?_))
      | exact ih0 _ _ _ _ _ _ _ _ _
      | exact ih1 _ _ _ _ _ _ _
      | exact ih2 _ _ _ _
      | exact impl_OrderOfArcs.mono _ _
      | exact laws_eqIntS.mono _ _ _
      | exact laws_eqOrder.mono _ _ _ _ _
      | exact laws_heldOrder.mono _ _ _ _
      | exact laws_markIntS.mono _ _ _
      | exact laws_markOrder.mono _ _ _ _
      | exact laws_toIntS.mono _ _
      | exact spec_OrderOfArcs.mono _ _
      | exact LeO.none _
      | refine LeO.ite ?_ ?_
      | refine LeO.bind ?_ (fun _ => ?_)
theorem laws_FnExactOrderOfArcs.mono : ∀ a0 k, LeO (laws_FnExactOrderOfArcs.f k a0) (laws_FnExactOrderOfArcs.f (k + 1) a0) := by
  intro a0 k
  obtain ⟨ih0, ih1, ih2⟩ := laws_FnExactOrderOfArcs.mono_l k
  unfold laws_FnExactOrderOfArcs.f
  repeat' first
      | (with_reducible exact ih0 _ _ _ _ _ _ _ _ _)
      | (with_reducible exact ih1 _ _ _ _ _ _ _)
      | (with_reducible exact ih2 _ _ _ _)
      | (with_reducible exact impl_OrderOfArcs.mono _ _)
      | (with_reducible exact laws_eqIntS.mono _ _ _)
      | (with_reducible exact laws_eqOrder.mono _ _ _ _ _)
      | (with_reducible exact laws_heldOrder.mono _ _ _ _)
      | (with_reducible exact laws_markIntS.mono _ _ _)
      | (with_reducible exact laws_markOrder.mono _ _ _ _)
      | (with_reducible exact laws_toIntS.mono _ _)
      | (with_reducible exact spec_OrderOfArcs.mono _ _)
      | (with_reducible exact LeO.refl _)
      | (with_reducible exact LeO.none _)
      | (with_reducible refine LeO.ite ?_ ?_)
      | (with_reducible refine LeO.bind ?_ (fun _ => ?_))
      | exact ih0 _ _ _ _ _ _ _ _ _
      | exact ih1 _ _ _ _ _ _ _
      | exact ih2 _ _ _ _
      | exact impl_OrderOfArcs.mono _ _
      | exact laws_eqIntS.mono _ _ _
      | exact laws_eqOrder.mono _ _ _ _ _
      | exact laws_heldOrder.mono _ _ _ _
      | exact laws_markIntS.mono _ _ _
      | exact laws_markOrder.mono _ _ _ _
      | exact laws_toIntS.mono _ _
      | exact spec_OrderOfArcs.mono _ _
      | exact LeO.none _
      | refine LeO.ite ?_ ?_
      | refine LeO.bind ?_ (fun _ => ?_)
set_option maxHeartbeats 8000000 in
set_option maxRecDepth 100000 in
theorem laws_FnExactOrderOfArcs.calls (k : Nat) (A0 : Option Addr) (c0 : Nat) (l0 : List Int) (r : Bool) (w : World) (hr0 : Kd.C (Kd.int .i64) w A0 l0.length l0) (hc0 : l0.length ≤ c0) (h : laws_FnExactOrderOfArcs.f k l0 = some r) :
    Calls Try.prog 11 #[.slice A0 l0.length c0] w fun e w' => e = .returned (.bool r) ∧ Below w.heap.size w w' := by
  have hu41 := Try.underlying41
  have HR0 := Aside0.mk hr0
  have HC0 := Aside0.mk hc0
  clear hr0 hc0
  have HB := Aside0.mk (Below.refl w.heap.size w)
  have H : (if (l0.length : Int) > 1048576 then (some true) else ((laws_toIntS.f k l0).bind fun t470 => ((spec_OrderOfArcs.f k t470).bind fun bt473 => ((laws_toIntS.f k l0).bind fun t479 => ((impl_OrderOfArcs.f k t479).bind fun bt482 => ((laws_eqOrder.f k bt482.1 bt482.2.1 bt473.1 bt473.2.1).bind fun t488 => (if t488 = true then (laws_FnExactOrderOfArcs.j0 k l0 bt473.2.2 t479 bt482.2.2 (bt482.2.2 != bt473.2.2) bt473.1 bt473.2.1 bt482.1 bt482.2.1) else (laws_FnExactOrderOfArcs.j0 k l0 bt473.2.2 t479 bt482.2.2 true bt473.1 bt473.2.1 bt482.1 bt482.2.1)))))))) = some r := h
  clear h
  by_cases c2 : (l0.length : Int) > 1048576
  · rw [if_pos c2] at H
    have c2b0 : decide (1048576 < (l0.length : Int)) = true := decide_eq_true c2
    have c2b1 : decide (1048576 < l0.length) = true := decide_eq_true (by omega)
    clear c2
    obtain rfl := Option.some.inj H
    go_enter Try.func11, Try.ntmps11
    go_wp2
    go_ret
    exact ⟨by first | rfl | (simp [errW_none, errW_some] <;> rfl) | (simp [*, errW_none, errW_some] <;> rfl), by repeat (first | (with_reducible first | exact HB.out | apply below_alloc | apply pw_below_drewN | apply below_drew1) | exact HB.out)⟩
  · rw [if_neg c2] at H
    have c2b0 : decide (1048576 < (l0.length : Int)) = false := decide_eq_false c2
    have c2b1 : decide (1048576 < l0.length) = false := decide_eq_false (by omega)
    clear c2
    replace H := Option.bind_eq_some_iff.mp H
    obtain ⟨t470, A30, H⟩ := H
    replace H : ((spec_OrderOfArcs.f k t470).bind fun bt473 => ((laws_toIntS.f k l0).bind fun t479 => ((impl_OrderOfArcs.f k t479).bind fun bt482 => ((laws_eqOrder.f k bt482.1 bt482.2.1 bt473.1 bt473.2.1).bind fun t488 => (if t488 = true then (laws_FnExactOrderOfArcs.j0 k l0 bt473.2.2 t479 bt482.2.2 (bt482.2.2 != bt473.2.2) bt473.1 bt473.2.1 bt482.1 bt482.2.1) else (laws_FnExactOrderOfArcs.j0 k l0 bt473.2.2 t479 bt482.2.2 true bt473.1 bt473.2.1 bt482.1 bt482.2.1)))))) = some r := H
    have A3 := Aside0.mk A30
    clear A30
    replace H := Option.bind_eq_some_iff.mp H
    obtain ⟨⟨t473, t474, t477⟩, A40, H⟩ := H
    replace H : ((laws_toIntS.f k l0).bind fun t479 => ((impl_OrderOfArcs.f k t479).bind fun bt482 => ((laws_eqOrder.f k bt482.1 bt482.2.1 t473 t474).bind fun t488 => (if t488 = true then (laws_FnExactOrderOfArcs.j0 k l0 t477 t479 bt482.2.2 (bt482.2.2 != t477) t473 t474 bt482.1 bt482.2.1) else (laws_FnExactOrderOfArcs.j0 k l0 t477 t479 bt482.2.2 true t473 t474 bt482.1 bt482.2.1))))) = some r := H
    have A4 := Aside0.mk A40
    clear A40
    replace H := Option.bind_eq_some_iff.mp H
    obtain ⟨t479, A50, H⟩ := H
    replace H : ((impl_OrderOfArcs.f k t479).bind fun bt482 => ((laws_eqOrder.f k bt482.1 bt482.2.1 t473 t474).bind fun t488 => (if t488 = true then (laws_FnExactOrderOfArcs.j0 k l0 t477 t479 bt482.2.2 (bt482.2.2 != t477) t473 t474 bt482.1 bt482.2.1) else (laws_FnExactOrderOfArcs.j0 k l0 t477 t479 bt482.2.2 true t473 t474 bt482.1 bt482.2.1)))) = some r := H
    have A5 := Aside0.mk A50
    clear A50
    replace H := Option.bind_eq_some_iff.mp H
    obtain ⟨⟨t482, t483, t486⟩, A60, H⟩ := H
    replace H : ((laws_eqOrder.f k t482 t483 t473 t474).bind fun t488 => (if t488 = true then (laws_FnExactOrderOfArcs.j0 k l0 t477 t479 t486 (t486 != t477) t473 t474 t482 t483) else (laws_FnExactOrderOfArcs.j0 k l0 t477 t479 t486 true t473 t474 t482 t483))) = some r := H
    have A6 := Aside0.mk A60
    clear A60
    have HC7 := Aside0.mk H
    clear H
    go_enter Try.func11, Try.ntmps11
    go_upto_region 6 with (first | ((with_reducible refine gate_callee (f := 16) rfl ?_); refine goesL_ (some 18) rfl rfl Try.func16 (by kernel_rfl) rfl #[.slice A0 l0.length c0] rfl (by (try simp only [List.map_toArray, List.map_cons, List.map_nil]); first | done | rfl | (simp only [List.length_drop, List.length_take]; rfl)) ?_; (with_reducible refine (laws_toIntS.calls k _ _ l0 t470 _ ?side1 ?side2 A3.out).mono ?_); (case side1 => repeat (first | exact HR0.out | (with_reducible refine Kd.C_alloc ?_ _) | (with_reducible refine Kd.C_drewN ?_ _) | (with_reducible refine Kd.C_drew ?_))); (case side2 => exact HC0.out); rintro e w8 ⟨v471, rfl, ho0, hb⟩; refine ⟨_, rfl, ?_⟩; have n0_ := Aside0.mk (Kd.R_lower ho0 (below_size (by repeat (first | (with_reducible first | exact HB.out | apply below_alloc | apply pw_below_drewN | apply below_drew1) | exact HB.out)))); have n1_ := Aside0.mk (below_step (by repeat (first | (with_reducible first | exact HB.out | apply below_alloc | apply pw_below_drewN | apply below_drew1) | exact HB.out)) hb); clear HB; have HO472 := n0_; have HB := n1_; clear n0_ n1_; (try clear hb); (try clear hb2); (try clear hk); (try clear hi); (try clear ho0); obtain ⟨Ao9, co9, eo9⟩ := Kd.R_slice HO472.out; subst eo9) | ((with_reducible refine gate_callee (f := 38) rfl ?_); refine goesL_ (some 19) rfl rfl Try.func38 (by kernel_rfl) rfl #[.slice Ao9 t470.length co9] rfl (by (try simp only [List.map_toArray, List.map_cons, List.map_nil]); first | done | rfl | (simp only [List.length_drop, List.length_take]; rfl)) ?_; (with_reducible refine (spec_OrderOfArcs.calls k _ _ t470 t473 t474 t477 _ ?side1 ?side2 A4.out).mono ?_); (case side1 => repeat (first | exact (Kd.R_reads' HO472.out).2.2 | (with_reducible refine Kd.C_alloc ?_ _) | (with_reducible refine Kd.C_drewN ?_ _) | (with_reducible refine Kd.C_drew ?_))); (case side2 => exact (Kd.R_reads' HO472.out).2.1); rintro e w10 ⟨v475, rfl, ho0, hb⟩; refine ⟨_, rfl, ?_⟩; have n0_ := Aside0.mk (Kd.R_elder' (by (with_reducible repeat (first | apply Kd.R_alloc | apply Kd.R_drewN | apply Kd.R_drew)); exact HO472.out) (Kd.R_base ho0) hb); have n1_ := Aside0.mk (Kd.R_lower (Kd.R_new' ho0 (Kd.R_lt (by (with_reducible repeat (first | apply Kd.R_alloc | apply Kd.R_drewN | apply Kd.R_drew)); exact HO472.out))) (below_size (by repeat (first | (with_reducible first | exact HB.out | apply below_alloc | apply pw_below_drewN | apply below_drew1) | exact HB.out)))); have n2_ := Aside0.mk (below_step (by repeat (first | (with_reducible first | exact HB.out | apply below_alloc | apply pw_below_drewN | apply below_drew1) | exact HB.out)) hb); clear HO472; clear HB; have HO472 := n0_; have HO476 := n1_; have HB := n2_; clear n0_ n1_ n2_; (try clear hb); (try clear hb2); (try clear hk); (try clear hi); (try clear ho0)) | ((with_reducible refine gate_dst (N := 3) rfl ?_); refine box_event ?hg (N := 3) ?hd (cs := #[.int .i64 0, .slice none 0 0]) (t := 41) ?hr ?_; (case hd => rfl); (case hg => rfl); (case hr => first | (go_simp; done) | (go_simp; rfl)); intro gb478 hg w11 hbox hb; have n0_ := Aside0.mk (Kd.R_below (by (with_reducible repeat (first | apply Kd.R_alloc | apply Kd.R_drewN | apply Kd.R_drew)); exact HO472.out) hb); have n1_ := Aside0.mk (Kd.R_below (by (with_reducible repeat (first | apply Kd.R_alloc | apply Kd.R_drewN | apply Kd.R_drew)); exact HO476.out) hb); have n2_ := Aside0.mk (below_step (by repeat (first | (with_reducible first | exact HB.out | apply below_alloc | apply pw_below_drewN | apply below_drew1) | exact HB.out)) hb); have n3_ := Aside0.mk (hbox); have n4_ := Aside0.mk ((by rw [hg]; exact (below_size (by repeat (first | (with_reducible first | exact HB.out | apply below_alloc | apply pw_below_drewN | apply below_drew1) | exact HB.out))) : w.heap.size ≤ gb478)); have n5_ := Aside0.mk ((by rw [hg]; exact (below_size (by repeat (first | (with_reducible first | exact HB.out | apply below_alloc | apply pw_below_drewN | apply below_drew1) | exact HB.out))) : w.heap.size ≤ gb478)); clear HO472; clear HO476; clear HB; have HO472 := n0_; have HO476 := n1_; have HB := n2_; have BK478 := n3_; have GW478 := n4_; have GE478 := n5_; clear n0_ n1_ n2_ n3_ n4_ n5_; clear hb hbox hg; have hcz12_0 : w11.cell? ⟨gb478, 0, none⟩ = some (.int .i64 0) := (blk_cell BK478.out 0).trans rfl; have hcz12_1 : w11.cell? ⟨gb478, 1, none⟩ = some (.slice none 0 0) := (blk_cell BK478.out 1).trans rfl; have hfz12_0 := blk_frozen BK478.out 0; have hfz12_1 := blk_frozen BK478.out 1; obtain ⟨Ao13, co13, eo13⟩ := Kd.R_slice HO476.out; subst eo13) | ((with_reducible refine gate_callee (f := 16) rfl ?_); refine goesL_ (some 23) rfl rfl Try.func16 (by kernel_rfl) rfl #[.slice A0 l0.length c0] rfl (by (try simp only [List.map_toArray, List.map_cons, List.map_nil]); first | done | rfl | (simp only [List.length_drop, List.length_take]; rfl)) ?_; (with_reducible refine (laws_toIntS.calls k _ _ l0 t479 _ ?side1 ?side2 A5.out).mono ?_); (case side1 => exact Kd.C_below HR0.out (by repeat (first | (with_reducible first | exact HB.out | apply below_alloc | apply pw_below_drewN | apply below_drew1 | refine below_set ?_ GE478.out) | exact HB.out))); (case side2 => exact HC0.out); rintro e w14 ⟨v480, rfl, ho0, hb⟩; refine ⟨_, rfl, ?_⟩; have n0_ := Aside0.mk (Kd.R_elder' (by (with_reducible repeat (first | apply Kd.R_alloc | apply Kd.R_drewN | apply Kd.R_drew)); exact (Kd.R_mono (Kd.R_far (p := ⟨gb478, 1, none⟩) (Kd.R_far (p := ⟨gb478, 0, none⟩) (Kd.R_types HO472.out BK478.out (by decide)) (fun _ hk => hk.2) (.int .i64 t473)) (fun _ hk => hk.2) (.slice Ao13 t474.length co13)) (fun _ h_ => h_.1))) (Kd.R_base ho0) hb); have n1_ := Aside0.mk (Kd.R_elder' (by (with_reducible repeat (first | apply Kd.R_alloc | apply Kd.R_drewN | apply Kd.R_drew)); exact (Kd.R_mono (Kd.R_far (p := ⟨gb478, 1, none⟩) (Kd.R_far (p := ⟨gb478, 0, none⟩) (Kd.R_types HO476.out BK478.out (by decide)) (fun _ hk => hk.2) (.int .i64 t473)) (fun _ hk => hk.2) (.slice Ao13 t474.length co13)) (fun _ h_ => h_.1))) (Kd.R_base ho0) hb); have n2_ := Aside0.mk (Kd.R_lower (Kd.R_new' (Kd.R_new' ho0 (Kd.R_lt (by (with_reducible repeat (first | apply Kd.R_alloc | apply Kd.R_drewN | apply Kd.R_drew)); exact (Kd.R_mono (Kd.R_far (p := ⟨gb478, 1, none⟩) (Kd.R_far (p := ⟨gb478, 0, none⟩) (Kd.R_types HO472.out BK478.out (by decide)) (fun _ hk => hk.2) (.int .i64 t473)) (fun _ hk => hk.2) (.slice Ao13 t474.length co13)) (fun _ h_ => h_.1))))) (Kd.R_lt (by (with_reducible repeat (first | apply Kd.R_alloc | apply Kd.R_drewN | apply Kd.R_drew)); exact (Kd.R_mono (Kd.R_far (p := ⟨gb478, 1, none⟩) (Kd.R_far (p := ⟨gb478, 0, none⟩) (Kd.R_types HO476.out BK478.out (by decide)) (fun _ hk => hk.2) (.int .i64 t473)) (fun _ hk => hk.2) (.slice Ao13 t474.length co13)) (fun _ h_ => h_.1))))) (below_size (by repeat (first | (with_reducible first | exact HB.out | apply below_alloc | apply pw_below_drewN | apply below_drew1 | refine below_set ?_ GE478.out) | exact HB.out)))); have n3_ := Aside0.mk (blk_below (g := gb478) (o := .cells #[.int .i64 t473, .slice Ao13 t474.length co13] 41 (0, 0)) (by (with_reducible repeat (first | refine blk_drewN ?_ _ | refine blk_drew ?_ | refine blk_alloc ?_ _)); refine blk_put (cs := #[.int .i64 t473, .slice none 0 0]) ?_ 1 _ rfl; (with_reducible repeat (first | refine blk_drewN ?_ _ | refine blk_drew ?_ | refine blk_alloc ?_ _)); refine blk_put (cs := #[.int .i64 0, .slice none 0 0]) ?_ 0 _ rfl; (with_reducible repeat (first | refine blk_drewN ?_ _ | refine blk_drew ?_ | refine blk_alloc ?_ _)); exact BK478.out) hb); have n4_ := Aside0.mk (below_step (by repeat (first | (with_reducible first | exact HB.out | apply below_alloc | apply pw_below_drewN | apply below_drew1 | refine below_set ?_ GE478.out) | exact HB.out)) hb); clear HO472; clear HO476; clear BK478; clear HB; have HO472 := n0_; have HO476 := n1_; have HO481 := n2_; have BK478 := n3_; have HB := n4_; clear n0_ n1_ n2_ n3_ n4_; (try clear hb); (try clear hb2); (try clear hk); (try clear hi); (try clear ho0); obtain ⟨Ao15, co15, eo15⟩ := Kd.R_slice HO481.out; subst eo15) | ((with_reducible refine gate_callee (f := 39) rfl ?_); refine goesL_ (some 26) rfl rfl Try.func39 (by kernel_rfl) rfl #[.slice Ao15 t479.length co15] rfl (by (try simp only [List.map_toArray, List.map_cons, List.map_nil]); first | done | rfl | (simp only [List.length_drop, List.length_take]; rfl)) ?_; (with_reducible refine (impl_OrderOfArcs.calls k _ _ t479 t482 t483 t486 _ ?side1 ?side2 A6.out).mono ?_); (case side1 => repeat (first | exact (Kd.R_reads' HO481.out).2.2 | (with_reducible refine Kd.C_alloc ?_ _) | (with_reducible refine Kd.C_drewN ?_ _) | (with_reducible refine Kd.C_drew ?_))); (case side2 => exact (Kd.R_reads' HO481.out).2.1); rintro e w16 ⟨v484, rfl, ho0, hb⟩; refine ⟨_, rfl, ?_⟩; have n0_ := Aside0.mk (Kd.R_elder' (by (with_reducible repeat (first | apply Kd.R_alloc | apply Kd.R_drewN | apply Kd.R_drew)); exact HO472.out) (Kd.R_base ho0) hb); have n1_ := Aside0.mk (Kd.R_elder' (by (with_reducible repeat (first | apply Kd.R_alloc | apply Kd.R_drewN | apply Kd.R_drew)); exact HO476.out) (Kd.R_base ho0) hb); have n2_ := Aside0.mk (Kd.R_elder' (by (with_reducible repeat (first | apply Kd.R_alloc | apply Kd.R_drewN | apply Kd.R_drew)); exact HO481.out) (Kd.R_base ho0) hb); have n3_ := Aside0.mk (Kd.R_lower (Kd.R_new' (Kd.R_new' (Kd.R_new' ho0 (Kd.R_lt (by (with_reducible repeat (first | apply Kd.R_alloc | apply Kd.R_drewN | apply Kd.R_drew)); exact HO472.out))) (Kd.R_lt (by (with_reducible repeat (first | apply Kd.R_alloc | apply Kd.R_drewN | apply Kd.R_drew)); exact HO476.out))) (Kd.R_lt (by (with_reducible repeat (first | apply Kd.R_alloc | apply Kd.R_drewN | apply Kd.R_drew)); exact HO481.out))) (below_size (by repeat (first | (with_reducible first | exact HB.out | apply below_alloc | apply pw_below_drewN | apply below_drew1 | refine below_set ?_ GE478.out) | exact HB.out)))); have n4_ := Aside0.mk (blk_below (g := gb478) (o := .cells #[.int .i64 t473, .slice Ao13 t474.length co13] 41 (0, 0)) (by (with_reducible repeat (first | refine blk_drewN ?_ _ | refine blk_drew ?_ | refine blk_alloc ?_ _)); exact BK478.out) hb); have n5_ := Aside0.mk (below_step (by repeat (first | (with_reducible first | exact HB.out | apply below_alloc | apply pw_below_drewN | apply below_drew1 | refine below_set ?_ GE478.out) | exact HB.out)) hb); clear HO472; clear HO476; clear HO481; clear BK478; clear HB; have HO472 := n0_; have HO476 := n1_; have HO481 := n2_; have HO485 := n3_; have BK478 := n4_; have HB := n5_; clear n0_ n1_ n2_ n3_ n4_ n5_; (try clear hb); (try clear hb2); (try clear hk); (try clear hi); (try clear ho0)) | ((with_reducible refine gate_dst (N := 6) rfl ?_); refine box_event ?hg (N := 6) ?hd (cs := #[.int .i64 0, .slice none 0 0]) (t := 41) ?hr ?_; (case hd => rfl); (case hg => rfl); (case hr => first | (go_simp; done) | (go_simp; rfl)); intro gb487 hg w17 hbox hb; have n0_ := Aside0.mk (Kd.R_below (by (with_reducible repeat (first | apply Kd.R_alloc | apply Kd.R_drewN | apply Kd.R_drew)); exact HO472.out) hb); have n1_ := Aside0.mk (Kd.R_below (by (with_reducible repeat (first | apply Kd.R_alloc | apply Kd.R_drewN | apply Kd.R_drew)); exact HO476.out) hb); have n2_ := Aside0.mk (Kd.R_below (by (with_reducible repeat (first | apply Kd.R_alloc | apply Kd.R_drewN | apply Kd.R_drew)); exact HO481.out) hb); have n3_ := Aside0.mk (Kd.R_below (by (with_reducible repeat (first | apply Kd.R_alloc | apply Kd.R_drewN | apply Kd.R_drew)); exact HO485.out) hb); have n4_ := Aside0.mk (blk_below (g := gb478) (o := .cells #[.int .i64 t473, .slice Ao13 t474.length co13] 41 (0, 0)) (by (with_reducible repeat (first | refine blk_drewN ?_ _ | refine blk_drew ?_ | refine blk_alloc ?_ _)); exact BK478.out) hb); have n5_ := Aside0.mk (below_step (by repeat (first | (with_reducible first | exact HB.out | apply below_alloc | apply pw_below_drewN | apply below_drew1 | refine below_set ?_ GE478.out) | exact HB.out)) hb); have n6_ := Aside0.mk (hbox); have n7_ := Aside0.mk ((by rw [hg]; exact (below_size (by repeat (first | (with_reducible first | exact HB.out | apply below_alloc | apply pw_below_drewN | apply below_drew1 | refine below_set ?_ GE478.out) | exact HB.out))) : w.heap.size ≤ gb487)); have n8_ := Aside0.mk ((by rw [hg]; exact (below_size (by repeat (first | (with_reducible first | exact HB.out | apply below_alloc | apply pw_below_drewN | apply below_drew1 | refine below_set ?_ GE478.out) | exact HB.out))) : w.heap.size ≤ gb487)); have n9_ := Aside0.mk ((by rw [hg]; exact Nat.ne_of_lt (blk_lt (g := gb478) (o := .cells #[.int .i64 t473, .slice Ao13 t474.length co13] 41 (0, 0)) (by (with_reducible repeat (first | refine blk_drewN ?_ _ | refine blk_drew ?_ | refine blk_alloc ?_ _)); exact BK478.out)) : gb478 ≠ gb487)); have n10_ := Aside0.mk ((by rw [hg]; exact Nat.ne_of_gt (blk_lt (g := gb478) (o := .cells #[.int .i64 t473, .slice Ao13 t474.length co13] 41 (0, 0)) (by (with_reducible repeat (first | refine blk_drewN ?_ _ | refine blk_drew ?_ | refine blk_alloc ?_ _)); exact BK478.out)) : gb487 ≠ gb478)); clear HO472; clear HO476; clear HO481; clear HO485; clear BK478; clear HB; have HO472 := n0_; have HO476 := n1_; have HO481 := n2_; have HO485 := n3_; have BK478 := n4_; have HB := n5_; have BK487 := n6_; have GW487 := n7_; have GE487 := n8_; have NB478_487 := n9_; have NB487_478 := n10_; clear n0_ n1_ n2_ n3_ n4_ n5_ n6_ n7_ n8_ n9_ n10_; clear hb hbox hg; have hnb18 := NB487_478.out; have hnc18 := NB478_487.out; have hcz19_0 : w17.cell? ⟨gb487, 0, none⟩ = some (.int .i64 0) := (blk_cell BK487.out 0).trans rfl; have hcz19_1 : w17.cell? ⟨gb487, 1, none⟩ = some (.slice none 0 0) := (blk_cell BK487.out 1).trans rfl; have hfz19_0 := blk_frozen BK487.out 0; have hfz19_1 := blk_frozen BK487.out 1; obtain ⟨Ao20, co20, eo20⟩ := Kd.R_slice HO485.out; subst eo20))
    (try simp only [Act.put, List.setIfInBounds_toArray, List.set_cons_zero, List.set_cons_succ])
    go_cut [37] (fun v37 wc => ∃ (kq : Nat) (x37_6 : Bool), v37 = .bool x37_6 ∧ Aside0 (laws_FnExactOrderOfArcs.j0 kq l0 t477 t479 t486 x37_6 t473 t474 t482 t483 = some r) ∧ Aside0 (kq ≤ k) ∧ Aside0 (Kd.R (Kd.int .i64) 3 wc w.heap.size (fun k_ => some k_ ≠ ((.slice Ao13 t474.length co13) : Value).ownBlock ∧ some k_ ≠ ((.slice Ao20 t483.length co20) : Value).ownBlock) (.slice Ao15 t479.length co15) t479) ∧ Aside0 (Kd.R (Kd.int .i64) 3 wc w.heap.size (fun k_ => some k_ ≠ ((.slice Ao15 t479.length co15) : Value).ownBlock ∧ some k_ ≠ ((.slice Ao20 t483.length co20) : Value).ownBlock) (.slice Ao13 t474.length co13) t474) ∧ Aside0 (Kd.R (Kd.int .i64) 3 wc w.heap.size (fun k_ => some k_ ≠ ((.slice Ao15 t479.length co15) : Value).ownBlock ∧ some k_ ≠ ((.slice Ao13 t474.length co13) : Value).ownBlock) (.slice Ao20 t483.length co20) t483) ∧ Aside0 (wc.heap[gb478]? = some (.cells #[.int .i64 t473, (.slice Ao13 t474.length co13)] 41 (0, 0))) ∧ Aside0 (wc.heap[gb487]? = some (.cells #[.int .i64 t482, (.slice Ao20 t483.length co20)] 41 (0, 0))) ∧ Aside0 (Below w.heap.size w wc))
    case first =>
      have H := HC7.out
      clear HC7
      replace H := Option.bind_eq_some_iff.mp H
      obtain ⟨t488, A210, H⟩ := H
      replace H : (if t488 = true then (laws_FnExactOrderOfArcs.j0 k l0 t477 t479 t486 (t486 != t477) t473 t474 t482 t483) else (laws_FnExactOrderOfArcs.j0 k l0 t477 t479 t486 true t473 t474 t482 t483)) = some r := H
      have A21 := Aside0.mk A210
      clear A210
      by_cases c22 : t488 = true
      · subst c22
        have H1 : (laws_FnExactOrderOfArcs.j0 k l0 t477 t479 t486 (t486 != t477) t473 t474 t482 t483) = some r := by rw [if_pos rfl] at H; exact H
        clear H
        have H := H1
        clear H1
        have H' := Aside0.mk H
        clear H
        have hnb23 := NB487_478.out
        have hnc23 := NB478_487.out
        have hcz24_0 : w17.cell? ⟨gb487, 0, none⟩ = some (.int .i64 0) := (blk_cell BK487.out 0).trans rfl
        have hcz24_1 : w17.cell? ⟨gb487, 1, none⟩ = some (.slice none 0 0) := (blk_cell BK487.out 1).trans rfl
        have hfz24_0 := blk_frozen BK487.out 0
        have hfz24_1 := blk_frozen BK487.out 1
        have hcz25_0 : w17.cell? ⟨gb478, 0, none⟩ = some (.int .i64 t473) := (blk_cell BK478.out 0).trans rfl
        have hcz25_1 : w17.cell? ⟨gb478, 1, none⟩ = some (.slice Ao13 t474.length co13) := (blk_cell BK478.out 1).trans rfl
        have hfz25_0 := blk_frozen BK478.out 0
        have hfz25_1 := blk_frozen BK478.out 1
        go_wp2_with (first | ((with_reducible refine gate_callee (f := 40) rfl ?_); refine goesL_ (some 31) rfl rfl Try.func40 (by kernel_rfl) rfl #[.agg #[.int .i64 t482, .slice Ao20 t483.length co20], .agg #[.int .i64 t473, .slice Ao13 t474.length co13]] rfl (by (try simp only [List.map_toArray, List.map_cons, List.map_nil]); first | done | rfl | (simp only [List.length_drop, List.length_take]; rfl)) ?_; (with_reducible refine (laws_eqOrder.calls k t482 _ _ t483 t473 _ _ t474 true _ ?side1 ?side2 ?side3 ?side4 A21.out).mono ?_); (case side1 => refine (Kd.R_reads' (e := 3) (base := w.heap.size) (ok := fun k_ => (((True ∧ some k_ ≠ (.slice Ao9 t470.length co9 : Value).ownBlock) ∧ some k_ ≠ (.slice Ao13 t474.length co13 : Value).ownBlock) ∧ some k_ ≠ (.slice Ao15 t479.length co15 : Value).ownBlock)) (n := t483.length) (c := co20) ?_).2.2; exact (by (with_reducible repeat (first | apply Kd.R_alloc | apply Kd.R_drewN | apply Kd.R_drew)); exact (Kd.R_mono (Kd.R_far (p := ⟨gb487, 1, none⟩) (Kd.R_far (p := ⟨gb487, 0, none⟩) (Kd.R_types HO485.out BK487.out (by decide)) (fun _ hk => hk.2) (.int .i64 t482)) (fun _ hk => hk.2) (.slice Ao20 t483.length co20)) (fun _ h_ => h_.1)))); (case side2 => exact (Kd.R_reads' HO485.out).2.1); (case side3 => refine (Kd.R_reads' (e := 3) (base := w.heap.size) (ok := fun k_ => (((True ∧ some k_ ≠ (.slice Ao9 t470.length co9 : Value).ownBlock) ∧ some k_ ≠ (.slice Ao15 t479.length co15 : Value).ownBlock) ∧ some k_ ≠ (.slice Ao20 t483.length co20 : Value).ownBlock)) (n := t474.length) (c := co13) ?_).2.2; exact (by (with_reducible repeat (first | apply Kd.R_alloc | apply Kd.R_drewN | apply Kd.R_drew)); exact (Kd.R_mono (Kd.R_far (p := ⟨gb487, 1, none⟩) (Kd.R_far (p := ⟨gb487, 0, none⟩) (Kd.R_types HO476.out BK487.out (by decide)) (fun _ hk => hk.2) (.int .i64 t482)) (fun _ hk => hk.2) (.slice Ao20 t483.length co20)) (fun _ h_ => h_.1)))); (case side4 => exact (Kd.R_reads' HO476.out).2.1); rintro e w26 ⟨rfl, hb⟩; refine ⟨_, rfl, ?_⟩; have n0_ := Aside0.mk (Kd.R_below (by (with_reducible repeat (first | apply Kd.R_alloc | apply Kd.R_drewN | apply Kd.R_drew)); exact (Kd.R_mono (Kd.R_far (p := ⟨gb487, 1, none⟩) (Kd.R_far (p := ⟨gb487, 0, none⟩) (Kd.R_types HO472.out BK487.out (by decide)) (fun _ hk => hk.2) (.int .i64 t482)) (fun _ hk => hk.2) (.slice Ao20 t483.length co20)) (fun _ h_ => h_.1))) hb); have n1_ := Aside0.mk (Kd.R_below (by (with_reducible repeat (first | apply Kd.R_alloc | apply Kd.R_drewN | apply Kd.R_drew)); exact (Kd.R_mono (Kd.R_far (p := ⟨gb487, 1, none⟩) (Kd.R_far (p := ⟨gb487, 0, none⟩) (Kd.R_types HO476.out BK487.out (by decide)) (fun _ hk => hk.2) (.int .i64 t482)) (fun _ hk => hk.2) (.slice Ao20 t483.length co20)) (fun _ h_ => h_.1))) hb); have n2_ := Aside0.mk (Kd.R_below (by (with_reducible repeat (first | apply Kd.R_alloc | apply Kd.R_drewN | apply Kd.R_drew)); exact (Kd.R_mono (Kd.R_far (p := ⟨gb487, 1, none⟩) (Kd.R_far (p := ⟨gb487, 0, none⟩) (Kd.R_types HO481.out BK487.out (by decide)) (fun _ hk => hk.2) (.int .i64 t482)) (fun _ hk => hk.2) (.slice Ao20 t483.length co20)) (fun _ h_ => h_.1))) hb); have n3_ := Aside0.mk (Kd.R_below (by (with_reducible repeat (first | apply Kd.R_alloc | apply Kd.R_drewN | apply Kd.R_drew)); exact (Kd.R_mono (Kd.R_far (p := ⟨gb487, 1, none⟩) (Kd.R_far (p := ⟨gb487, 0, none⟩) (Kd.R_types HO485.out BK487.out (by decide)) (fun _ hk => hk.2) (.int .i64 t482)) (fun _ hk => hk.2) (.slice Ao20 t483.length co20)) (fun _ h_ => h_.1))) hb); have n4_ := Aside0.mk (blk_below (g := gb478) (o := .cells #[.int .i64 t473, .slice Ao13 t474.length co13] 41 (0, 0)) (by (with_reducible repeat (first | refine blk_drewN ?_ _ | refine blk_drew ?_ | refine blk_alloc ?_ _)); refine blk_far ?_ NB478_487.out _; (with_reducible repeat (first | refine blk_drewN ?_ _ | refine blk_drew ?_ | refine blk_alloc ?_ _)); refine blk_far ?_ NB478_487.out _; (with_reducible repeat (first | refine blk_drewN ?_ _ | refine blk_drew ?_ | refine blk_alloc ?_ _)); exact BK478.out) hb); have n5_ := Aside0.mk (blk_below (g := gb487) (o := .cells #[.int .i64 t482, .slice Ao20 t483.length co20] 41 (0, 0)) (by (with_reducible repeat (first | refine blk_drewN ?_ _ | refine blk_drew ?_ | refine blk_alloc ?_ _)); refine blk_put (cs := #[.int .i64 t482, .slice none 0 0]) ?_ 1 _ rfl; (with_reducible repeat (first | refine blk_drewN ?_ _ | refine blk_drew ?_ | refine blk_alloc ?_ _)); refine blk_put (cs := #[.int .i64 0, .slice none 0 0]) ?_ 0 _ rfl; (with_reducible repeat (first | refine blk_drewN ?_ _ | refine blk_drew ?_ | refine blk_alloc ?_ _)); exact BK487.out) hb); have n6_ := Aside0.mk (below_step (by repeat (first | (with_reducible first | exact HB.out | apply below_alloc | apply pw_below_drewN | apply below_drew1 | refine below_set ?_ GE478.out | refine below_set ?_ GE487.out) | exact HB.out)) hb); clear HO472; clear HO476; clear HO481; clear HO485; clear BK478; clear BK487; clear HB; have HO472 := n0_; have HO476 := n1_; have HO481 := n2_; have HO485 := n3_; have BK478 := n4_; have BK487 := n5_; have HB := n6_; clear n0_ n1_ n2_ n3_ n4_ n5_ n6_; (try clear hb); (try clear hb2); (try clear hk); (try clear hi)))
        go_meet
        case rel => exact ⟨_, ((t486 != t477)), (by first | rfl | (simp; done) | (simp [*]; done)), H', ⟨by first | omega | exact Nat.le_refl _⟩, ⟨by (with_reducible repeat (first | apply Kd.R_alloc | apply Kd.R_drewN | apply Kd.R_drew)); exact Kd.R_mono HO481.out (fun _ hk => ⟨hk.1.2, hk.2⟩)⟩, ⟨by (with_reducible repeat (first | apply Kd.R_alloc | apply Kd.R_drewN | apply Kd.R_drew)); exact Kd.R_mono HO476.out (fun _ hk => ⟨hk.1.2, hk.2⟩)⟩, ⟨by (with_reducible repeat (first | apply Kd.R_alloc | apply Kd.R_drewN | apply Kd.R_drew)); exact Kd.R_mono HO485.out (fun _ hk => ⟨hk.2, hk.1.2⟩)⟩, ⟨by (with_reducible repeat (first | refine blk_drewN ?_ _ | refine blk_drew ?_ | refine blk_alloc ?_ _)); exact BK478.out⟩, ⟨by (with_reducible repeat (first | refine blk_drewN ?_ _ | refine blk_drew ?_ | refine blk_alloc ?_ _)); exact BK487.out⟩, ⟨by repeat (first | (with_reducible first | exact HB.out | apply below_alloc | apply pw_below_drewN | apply below_drew1 | refine below_set ?_ GE478.out | refine below_set ?_ GE487.out) | exact HB.out)⟩⟩
      · replace c22 := Bool.eq_false_iff.mpr c22
        subst c22
        have H1 : (laws_FnExactOrderOfArcs.j0 k l0 t477 t479 t486 true t473 t474 t482 t483) = some r := by rw [if_neg (show ¬ (false = true) by decide)] at H; exact H
        clear H
        have H := H1
        clear H1
        have H' := Aside0.mk H
        clear H
        have hnb27 := NB487_478.out
        have hnc27 := NB478_487.out
        have hcz28_0 : w17.cell? ⟨gb487, 0, none⟩ = some (.int .i64 0) := (blk_cell BK487.out 0).trans rfl
        have hcz28_1 : w17.cell? ⟨gb487, 1, none⟩ = some (.slice none 0 0) := (blk_cell BK487.out 1).trans rfl
        have hfz28_0 := blk_frozen BK487.out 0
        have hfz28_1 := blk_frozen BK487.out 1
        have hcz29_0 : w17.cell? ⟨gb478, 0, none⟩ = some (.int .i64 t473) := (blk_cell BK478.out 0).trans rfl
        have hcz29_1 : w17.cell? ⟨gb478, 1, none⟩ = some (.slice Ao13 t474.length co13) := (blk_cell BK478.out 1).trans rfl
        have hfz29_0 := blk_frozen BK478.out 0
        have hfz29_1 := blk_frozen BK478.out 1
        go_wp2_with (first | ((with_reducible refine gate_callee (f := 40) rfl ?_); refine goesL_ (some 31) rfl rfl Try.func40 (by kernel_rfl) rfl #[.agg #[.int .i64 t482, .slice Ao20 t483.length co20], .agg #[.int .i64 t473, .slice Ao13 t474.length co13]] rfl (by (try simp only [List.map_toArray, List.map_cons, List.map_nil]); first | done | rfl | (simp only [List.length_drop, List.length_take]; rfl)) ?_; (with_reducible refine (laws_eqOrder.calls k t482 _ _ t483 t473 _ _ t474 false _ ?side1 ?side2 ?side3 ?side4 A21.out).mono ?_); (case side1 => refine (Kd.R_reads' (e := 3) (base := w.heap.size) (ok := fun k_ => (((True ∧ some k_ ≠ (.slice Ao9 t470.length co9 : Value).ownBlock) ∧ some k_ ≠ (.slice Ao13 t474.length co13 : Value).ownBlock) ∧ some k_ ≠ (.slice Ao15 t479.length co15 : Value).ownBlock)) (n := t483.length) (c := co20) ?_).2.2; exact (by (with_reducible repeat (first | apply Kd.R_alloc | apply Kd.R_drewN | apply Kd.R_drew)); exact (Kd.R_mono (Kd.R_far (p := ⟨gb487, 1, none⟩) (Kd.R_far (p := ⟨gb487, 0, none⟩) (Kd.R_types HO485.out BK487.out (by decide)) (fun _ hk => hk.2) (.int .i64 t482)) (fun _ hk => hk.2) (.slice Ao20 t483.length co20)) (fun _ h_ => h_.1)))); (case side2 => exact (Kd.R_reads' HO485.out).2.1); (case side3 => refine (Kd.R_reads' (e := 3) (base := w.heap.size) (ok := fun k_ => (((True ∧ some k_ ≠ (.slice Ao9 t470.length co9 : Value).ownBlock) ∧ some k_ ≠ (.slice Ao15 t479.length co15 : Value).ownBlock) ∧ some k_ ≠ (.slice Ao20 t483.length co20 : Value).ownBlock)) (n := t474.length) (c := co13) ?_).2.2; exact (by (with_reducible repeat (first | apply Kd.R_alloc | apply Kd.R_drewN | apply Kd.R_drew)); exact (Kd.R_mono (Kd.R_far (p := ⟨gb487, 1, none⟩) (Kd.R_far (p := ⟨gb487, 0, none⟩) (Kd.R_types HO476.out BK487.out (by decide)) (fun _ hk => hk.2) (.int .i64 t482)) (fun _ hk => hk.2) (.slice Ao20 t483.length co20)) (fun _ h_ => h_.1)))); (case side4 => exact (Kd.R_reads' HO476.out).2.1); rintro e w30 ⟨rfl, hb⟩; refine ⟨_, rfl, ?_⟩; have n0_ := Aside0.mk (Kd.R_below (by (with_reducible repeat (first | apply Kd.R_alloc | apply Kd.R_drewN | apply Kd.R_drew)); exact (Kd.R_mono (Kd.R_far (p := ⟨gb487, 1, none⟩) (Kd.R_far (p := ⟨gb487, 0, none⟩) (Kd.R_types HO472.out BK487.out (by decide)) (fun _ hk => hk.2) (.int .i64 t482)) (fun _ hk => hk.2) (.slice Ao20 t483.length co20)) (fun _ h_ => h_.1))) hb); have n1_ := Aside0.mk (Kd.R_below (by (with_reducible repeat (first | apply Kd.R_alloc | apply Kd.R_drewN | apply Kd.R_drew)); exact (Kd.R_mono (Kd.R_far (p := ⟨gb487, 1, none⟩) (Kd.R_far (p := ⟨gb487, 0, none⟩) (Kd.R_types HO476.out BK487.out (by decide)) (fun _ hk => hk.2) (.int .i64 t482)) (fun _ hk => hk.2) (.slice Ao20 t483.length co20)) (fun _ h_ => h_.1))) hb); have n2_ := Aside0.mk (Kd.R_below (by (with_reducible repeat (first | apply Kd.R_alloc | apply Kd.R_drewN | apply Kd.R_drew)); exact (Kd.R_mono (Kd.R_far (p := ⟨gb487, 1, none⟩) (Kd.R_far (p := ⟨gb487, 0, none⟩) (Kd.R_types HO481.out BK487.out (by decide)) (fun _ hk => hk.2) (.int .i64 t482)) (fun _ hk => hk.2) (.slice Ao20 t483.length co20)) (fun _ h_ => h_.1))) hb); have n3_ := Aside0.mk (Kd.R_below (by (with_reducible repeat (first | apply Kd.R_alloc | apply Kd.R_drewN | apply Kd.R_drew)); exact (Kd.R_mono (Kd.R_far (p := ⟨gb487, 1, none⟩) (Kd.R_far (p := ⟨gb487, 0, none⟩) (Kd.R_types HO485.out BK487.out (by decide)) (fun _ hk => hk.2) (.int .i64 t482)) (fun _ hk => hk.2) (.slice Ao20 t483.length co20)) (fun _ h_ => h_.1))) hb); have n4_ := Aside0.mk (blk_below (g := gb478) (o := .cells #[.int .i64 t473, .slice Ao13 t474.length co13] 41 (0, 0)) (by (with_reducible repeat (first | refine blk_drewN ?_ _ | refine blk_drew ?_ | refine blk_alloc ?_ _)); refine blk_far ?_ NB478_487.out _; (with_reducible repeat (first | refine blk_drewN ?_ _ | refine blk_drew ?_ | refine blk_alloc ?_ _)); refine blk_far ?_ NB478_487.out _; (with_reducible repeat (first | refine blk_drewN ?_ _ | refine blk_drew ?_ | refine blk_alloc ?_ _)); exact BK478.out) hb); have n5_ := Aside0.mk (blk_below (g := gb487) (o := .cells #[.int .i64 t482, .slice Ao20 t483.length co20] 41 (0, 0)) (by (with_reducible repeat (first | refine blk_drewN ?_ _ | refine blk_drew ?_ | refine blk_alloc ?_ _)); refine blk_put (cs := #[.int .i64 t482, .slice none 0 0]) ?_ 1 _ rfl; (with_reducible repeat (first | refine blk_drewN ?_ _ | refine blk_drew ?_ | refine blk_alloc ?_ _)); refine blk_put (cs := #[.int .i64 0, .slice none 0 0]) ?_ 0 _ rfl; (with_reducible repeat (first | refine blk_drewN ?_ _ | refine blk_drew ?_ | refine blk_alloc ?_ _)); exact BK487.out) hb); have n6_ := Aside0.mk (below_step (by repeat (first | (with_reducible first | exact HB.out | apply below_alloc | apply pw_below_drewN | apply below_drew1 | refine below_set ?_ GE478.out | refine below_set ?_ GE487.out) | exact HB.out)) hb); clear HO472; clear HO476; clear HO481; clear HO485; clear BK478; clear BK487; clear HB; have HO472 := n0_; have HO476 := n1_; have HO481 := n2_; have HO485 := n3_; have BK478 := n4_; have BK487 := n5_; have HB := n6_; clear n0_ n1_ n2_ n3_ n4_ n5_ n6_; (try clear hb); (try clear hb2); (try clear hk); (try clear hi)))
        go_meet
        case rel => exact ⟨_, (true), (by first | rfl | (simp; done) | (simp [*]; done)), H', ⟨by first | omega | exact Nat.le_refl _⟩, ⟨by (with_reducible repeat (first | apply Kd.R_alloc | apply Kd.R_drewN | apply Kd.R_drew)); exact Kd.R_mono HO481.out (fun _ hk => ⟨hk.1.2, hk.2⟩)⟩, ⟨by (with_reducible repeat (first | apply Kd.R_alloc | apply Kd.R_drewN | apply Kd.R_drew)); exact Kd.R_mono HO476.out (fun _ hk => ⟨hk.1.2, hk.2⟩)⟩, ⟨by (with_reducible repeat (first | apply Kd.R_alloc | apply Kd.R_drewN | apply Kd.R_drew)); exact Kd.R_mono HO485.out (fun _ hk => ⟨hk.2, hk.1.2⟩)⟩, ⟨by (with_reducible repeat (first | refine blk_drewN ?_ _ | refine blk_drew ?_ | refine blk_alloc ?_ _)); exact BK478.out⟩, ⟨by (with_reducible repeat (first | refine blk_drewN ?_ _ | refine blk_drew ?_ | refine blk_alloc ?_ _)); exact BK487.out⟩, ⟨by repeat (first | (with_reducible first | exact HB.out | apply below_alloc | apply pw_below_drewN | apply below_drew1 | refine below_set ?_ GE478.out | refine below_set ?_ GE487.out) | exact HB.out)⟩⟩
    case rest =>
      clear HC7
      try clear c1
      try clear c2
      try clear c2b0
      try clear c2b1
      try clear p2
      try clear c3
      try clear c4
      try clear c11
      try clear c16
      try clear c18
      try clear c22
      try clear c23
      try clear c27
      try clear hcz12_0
      try clear hcz12_1
      try clear hcz19_0
      try clear hcz19_1
      try clear hcz24_0
      try clear hcz24_1
      try clear hcz25_0
      try clear hcz25_1
      try clear hcz28_0
      try clear hcz28_1
      try clear hcz29_0
      try clear hcz29_1
      try clear hfz12_0
      try clear hfz12_1
      try clear hfz19_0
      try clear hfz19_1
      try clear hfz24_0
      try clear hfz24_1
      try clear hfz25_0
      try clear hfz25_1
      try clear hfz28_0
      try clear hfz28_1
      try clear hfz29_0
      try clear hfz29_1
      obtain ⟨kq, x37_6, rfl, HA, HJ6, HO_5, HO_479001, HO_488001, BK478, BK487, HB⟩ := hcut
      cases kq with
      | zero => exact absurd HA.out (by simp [laws_FnExactOrderOfArcs.j0])
      | succ kj6 =>
        have H := HA.out
        clear HA
        simp only [laws_FnExactOrderOfArcs.j0] at H
        by_cases c31 : x37_6 = true
        · subst c31
          have H1 : (some false) = some r := by rw [if_pos rfl] at H; exact H
          clear H
          have H := H1
          clear H1
          obtain rfl := Option.some.inj H
          go_wp2
          go_ret
          exact ⟨by first | rfl | (simp [errW_none, errW_some] <;> rfl) | (simp [*, errW_none, errW_some] <;> rfl), by repeat (first | (with_reducible first | exact HB.out | apply below_alloc | apply pw_below_drewN | apply below_drew1 | refine below_set ?_ GE478.out | refine below_set ?_ GE487.out) | exact HB.out)⟩
        · replace c31 := Bool.eq_false_iff.mpr c31
          subst c31
          have H1 : ((laws_toIntS.f kj6 l0).bind fun t489 => ((laws_eqIntS.f kj6 t479 t489).bind fun t492 => (if t492 = true then ((laws_markIntS.f kj6 t479 1).bind fun bt493 => (if bt493.1 < 0 then (laws_FnExactOrderOfArcs.j1 kj6 l0 t477 true t473 t474 t482 t483) else ((laws_eqOrder.f kj6 t482 t483 t473 t474).bind fun t495 => (if t495 = true then (laws_FnExactOrderOfArcs.j1 kj6 l0 t477 (t486 != t477) t473 t474 t482 t483) else (laws_FnExactOrderOfArcs.j1 kj6 l0 t477 true t473 t474 t482 t483))))) else (some false)))) = some r := by rw [if_neg (show ¬ (false = true) by decide)] at H; exact H
          clear H
          have H := H1
          clear H1
          replace H := Option.bind_eq_some_iff.mp H
          obtain ⟨t489, A320, H⟩ := H
          replace H : ((laws_eqIntS.f kj6 t479 t489).bind fun t492 => (if t492 = true then ((laws_markIntS.f kj6 t479 1).bind fun bt493 => (if bt493.1 < 0 then (laws_FnExactOrderOfArcs.j1 kj6 l0 t477 true t473 t474 t482 t483) else ((laws_eqOrder.f kj6 t482 t483 t473 t474).bind fun t495 => (if t495 = true then (laws_FnExactOrderOfArcs.j1 kj6 l0 t477 (t486 != t477) t473 t474 t482 t483) else (laws_FnExactOrderOfArcs.j1 kj6 l0 t477 true t473 t474 t482 t483))))) else (some false))) = some r := H
          have A32 := Aside0.mk A320
          clear A320
          replace H := Option.bind_eq_some_iff.mp H
          obtain ⟨t492, A330, H⟩ := H
          replace H : (if t492 = true then ((laws_markIntS.f kj6 t479 1).bind fun bt493 => (if bt493.1 < 0 then (laws_FnExactOrderOfArcs.j1 kj6 l0 t477 true t473 t474 t482 t483) else ((laws_eqOrder.f kj6 t482 t483 t473 t474).bind fun t495 => (if t495 = true then (laws_FnExactOrderOfArcs.j1 kj6 l0 t477 (t486 != t477) t473 t474 t482 t483) else (laws_FnExactOrderOfArcs.j1 kj6 l0 t477 true t473 t474 t482 t483))))) else (some false)) = some r := H
          have A33 := Aside0.mk A330
          clear A330
          by_cases c34 : t492 = true
          · subst c34
            have H1 : ((laws_markIntS.f kj6 t479 1).bind fun bt493 => (if bt493.1 < 0 then (laws_FnExactOrderOfArcs.j1 kj6 l0 t477 true t473 t474 t482 t483) else ((laws_eqOrder.f kj6 t482 t483 t473 t474).bind fun t495 => (if t495 = true then (laws_FnExactOrderOfArcs.j1 kj6 l0 t477 (t486 != t477) t473 t474 t482 t483) else (laws_FnExactOrderOfArcs.j1 kj6 l0 t477 true t473 t474 t482 t483))))) = some r := by rw [if_pos rfl] at H; exact H
            clear H
            have H := H1
            clear H1
            replace H := Option.bind_eq_some_iff.mp H
            obtain ⟨⟨t493, t494⟩, A350, H⟩ := H
            replace H : (if t493 < 0 then (laws_FnExactOrderOfArcs.j1 kj6 l0 t477 true t473 t474 t482 t483) else ((laws_eqOrder.f kj6 t482 t483 t473 t474).bind fun t495 => (if t495 = true then (laws_FnExactOrderOfArcs.j1 kj6 l0 t477 (t486 != t477) t473 t474 t482 t483) else (laws_FnExactOrderOfArcs.j1 kj6 l0 t477 true t473 t474 t482 t483)))) = some r := H
            have A35 := Aside0.mk A350
            clear A350
            have HC36 := Aside0.mk H
            clear H
            go_upto_region 12 with (first | ((with_reducible refine gate_callee (f := 16) rfl ?_); refine goesL_ (some 40) rfl rfl Try.func16 (by kernel_rfl) rfl #[.slice A0 l0.length c0] rfl (by (try simp only [List.map_toArray, List.map_cons, List.map_nil]); first | done | rfl | (simp only [List.length_drop, List.length_take]; rfl)) ?_; (with_reducible refine (laws_toIntS.calls kj6 _ _ l0 t489 _ ?side1 ?side2 A32.out).mono ?_); (case side1 => repeat (first | exact (Kd.C_below HR0.out HB.out) | (with_reducible refine Kd.C_alloc ?_ _) | (with_reducible refine Kd.C_drewN ?_ _) | (with_reducible refine Kd.C_drew ?_))); (case side2 => exact HC0.out); rintro e w37 ⟨v490, rfl, ho0, hb⟩; refine ⟨_, rfl, ?_⟩; have n0_ := Aside0.mk (Kd.R_elder' (by (with_reducible repeat (first | apply Kd.R_alloc | apply Kd.R_drewN | apply Kd.R_drew)); exact HO_5.out) (Kd.R_base ho0) hb); have n1_ := Aside0.mk (Kd.R_elder' (by (with_reducible repeat (first | apply Kd.R_alloc | apply Kd.R_drewN | apply Kd.R_drew)); exact HO_479001.out) (Kd.R_base ho0) hb); have n2_ := Aside0.mk (Kd.R_elder' (by (with_reducible repeat (first | apply Kd.R_alloc | apply Kd.R_drewN | apply Kd.R_drew)); exact HO_488001.out) (Kd.R_base ho0) hb); have n3_ := Aside0.mk (Kd.R_lower (Kd.R_new' (Kd.R_new' (Kd.R_new' ho0 (Kd.R_lt (by (with_reducible repeat (first | apply Kd.R_alloc | apply Kd.R_drewN | apply Kd.R_drew)); exact HO_5.out))) (Kd.R_lt (by (with_reducible repeat (first | apply Kd.R_alloc | apply Kd.R_drewN | apply Kd.R_drew)); exact HO_479001.out))) (Kd.R_lt (by (with_reducible repeat (first | apply Kd.R_alloc | apply Kd.R_drewN | apply Kd.R_drew)); exact HO_488001.out))) (below_size (by repeat (first | (with_reducible first | exact HB.out | apply below_alloc | apply pw_below_drewN | apply below_drew1 | refine below_set ?_ GE478.out | refine below_set ?_ GE487.out) | exact HB.out)))); have n4_ := Aside0.mk (blk_below (g := gb478) (o := .cells #[.int .i64 t473, .slice Ao13 t474.length co13] 41 (0, 0)) (by (with_reducible repeat (first | refine blk_drewN ?_ _ | refine blk_drew ?_ | refine blk_alloc ?_ _)); exact BK478.out) hb); have n5_ := Aside0.mk (blk_below (g := gb487) (o := .cells #[.int .i64 t482, .slice Ao20 t483.length co20] 41 (0, 0)) (by (with_reducible repeat (first | refine blk_drewN ?_ _ | refine blk_drew ?_ | refine blk_alloc ?_ _)); exact BK487.out) hb); have n6_ := Aside0.mk (below_step (by repeat (first | (with_reducible first | exact HB.out | apply below_alloc | apply pw_below_drewN | apply below_drew1 | refine below_set ?_ GE478.out | refine below_set ?_ GE487.out) | exact HB.out)) hb); clear HO_5; clear HO_479001; clear HO_488001; clear BK478; clear BK487; clear HB; have HO_5 := n0_; have HO_479001 := n1_; have HO_488001 := n2_; have HO491 := n3_; have BK478 := n4_; have BK487 := n5_; have HB := n6_; clear n0_ n1_ n2_ n3_ n4_ n5_ n6_; (try clear hb); (try clear hb2); (try clear hk); (try clear hi); (try clear ho0); obtain ⟨Ao38, co38, eo38⟩ := Kd.R_slice HO491.out; subst eo38) | ((with_reducible refine gate_callee (f := 18) rfl ?_); refine goesL_ (some 41) rfl rfl Try.func18 (by kernel_rfl) rfl #[.slice Ao15 t479.length co15, .slice Ao38 t489.length co38] rfl (by (try simp only [List.map_toArray, List.map_cons, List.map_nil]); first | done | rfl | (simp only [List.length_drop, List.length_take]; rfl)) ?_; (with_reducible refine (laws_eqIntS.calls kj6 _ _ t479 _ _ t489 true _ ?side1 ?side2 ?side3 ?side4 A33.out).mono ?_); (case side1 => repeat (first | exact (Kd.R_reads' HO_5.out).2.2 | (with_reducible refine Kd.C_alloc ?_ _) | (with_reducible refine Kd.C_drewN ?_ _) | (with_reducible refine Kd.C_drew ?_))); (case side2 => exact (Kd.R_reads' HO_5.out).2.1); (case side3 => repeat (first | exact (Kd.R_reads' HO491.out).2.2 | (with_reducible refine Kd.C_alloc ?_ _) | (with_reducible refine Kd.C_drewN ?_ _) | (with_reducible refine Kd.C_drew ?_))); (case side4 => exact (Kd.R_reads' HO491.out).2.1); rintro e w' ⟨rfl, ⟨nd, rfl⟩⟩; refine ⟨_, rfl, ?_⟩) | ((with_reducible refine gate_callee (f := 23) rfl ?_); refine goesL_ (some 45) rfl rfl Try.func23 (by kernel_rfl) rfl #[.slice Ao15 t479.length co15, .int .i64 1] rfl (by (try simp only [List.map_toArray, List.map_cons, List.map_nil]); first | done | rfl | (simp only [List.length_drop, List.length_take]; rfl)) ?_; (with_reducible refine (laws_markIntS.calls kj6 (fun k_ => some k_ = (.slice Ao15 t479.length co15 : Value).ownBlock) (.slice Ao15 t479.length co15) t479 1 t493 t494 w _ ?side1 ?side2 A35.out).mono ?_); (case side1 => repeat (first | (with_reducible first | exact HB.out | apply below_alloc | apply pw_below_drewN | apply below_drew1 | refine below_set ?_ GE478.out | refine below_set ?_ GE487.out) | exact HB.out)); (case side2 => exact Kd.R_tight rfl HO_5.out); rintro e w39 ⟨rfl, hy0, hb, hkp⟩; refine ⟨_, rfl, ?_⟩; have n0_ := Aside0.mk (Kd.R_reok rfl hy0 (fun k_ e_ => HO_5.out.1 k_ e_)); have n1_ := Aside0.mk (Kd.R_mono (ok' := fun k_ => some k_ ≠ (.slice Ao15 t479.length co15 : Value).ownBlock ∧ some k_ ≠ (.slice Ao20 t483.length co20 : Value).ownBlock ∧ some k_ ≠ (.slice Ao38 t489.length co38 : Value).ownBlock) (Kd.R_keptB (HO_479001.out) hkp (fun k_ hk_ hs_ => (hk_.1.1) hs_)) (fun k_ hk_ => ⟨hk_.1.1.1, hk_.1.1.2, hk_.1.2⟩)); have n2_ := Aside0.mk (Kd.R_mono (ok' := fun k_ => some k_ ≠ (.slice Ao15 t479.length co15 : Value).ownBlock ∧ some k_ ≠ (.slice Ao13 t474.length co13 : Value).ownBlock ∧ some k_ ≠ (.slice Ao38 t489.length co38 : Value).ownBlock) (Kd.R_keptB (HO_488001.out) hkp (fun k_ hk_ hs_ => (hk_.1.1) hs_)) (fun k_ hk_ => ⟨hk_.1.1.1, hk_.1.1.2, hk_.1.2⟩)); have n3_ := Aside0.mk (blk_kept (by (with_reducible repeat (first | refine blk_drewN ?_ _ | refine blk_drew ?_ | refine blk_alloc ?_ _)); exact BK478.out) hkp (fun hs_ => (fun e_ => (Kd.R_ne HO_5.out BK478.out (by decide)) e_) hs_)); have n4_ := Aside0.mk (blk_kept (by (with_reducible repeat (first | refine blk_drewN ?_ _ | refine blk_drew ?_ | refine blk_alloc ?_ _)); exact BK487.out) hkp (fun hs_ => (fun e_ => (Kd.R_ne HO_5.out BK487.out (by decide)) e_) hs_)); have n5_ := Aside0.mk (Kd.R_mono (ok' := fun k_ => some k_ ≠ (.slice Ao15 t479.length co15 : Value).ownBlock ∧ some k_ ≠ (.slice Ao13 t474.length co13 : Value).ownBlock ∧ some k_ ≠ (.slice Ao20 t483.length co20 : Value).ownBlock) (Kd.R_keptB (HO491.out) hkp (fun k_ hk_ hs_ => (hk_.1.1.2) hs_)) (fun k_ hk_ => ⟨hk_.1.1.1.2, hk_.1.1.2, hk_.1.2⟩)); have n6_ := Aside0.mk (hb); clear HO_5; clear HO_479001; clear HO_488001; clear BK478; clear BK487; clear HO491; clear HB; have HO_5 := n0_; have HO_479001 := n1_; have HO_488001 := n2_; have BK478 := n3_; have BK487 := n4_; have HO491 := n5_; have HB := n6_; clear n0_ n1_ n2_ n3_ n4_ n5_ n6_; (try clear hb); (try clear hkp); (try clear hy0)))
            (try simp only [Act.put, List.setIfInBounds_toArray, List.set_cons_zero, List.set_cons_succ])
            go_cut [58] (fun v58 wc => ∃ (kq : Nat) (x58_35 : Bool), v58 = .bool x58_35 ∧ Aside0 (laws_FnExactOrderOfArcs.j1 kq l0 t477 x58_35 t473 t474 t482 t483 = some r) ∧ Aside0 (kq ≤ kj6) ∧ Aside0 (Kd.R (Kd.int .i64) 3 wc w.heap.size (fun k_ => some k_ ≠ ((.slice Ao20 t483.length co20) : Value).ownBlock) (.slice Ao13 t474.length co13) t474) ∧ Aside0 (Kd.R (Kd.int .i64) 3 wc w.heap.size (fun k_ => some k_ ≠ ((.slice Ao13 t474.length co13) : Value).ownBlock) (.slice Ao20 t483.length co20) t483) ∧ Aside0 (wc.heap[gb478]? = some (.cells #[.int .i64 t473, (.slice Ao13 t474.length co13)] 41 (0, 0))) ∧ Aside0 (wc.heap[gb487]? = some (.cells #[.int .i64 t482, (.slice Ao20 t483.length co20)] 41 (0, 0))) ∧ Aside0 (Below w.heap.size w wc))
            case first =>
              have H := HC36.out
              clear HC36
              by_cases c40 : t493 < 0
              · rw [if_pos c40] at H
                have c40b0 : decide (t493 < 0) = true := decide_eq_true c40
                clear c40
                (first | rw [c40b0] | (simp only [i64_w, i32_w]; rw [c40b0]) | skip)
                have H' := Aside0.mk H
                clear H
                go_wp2
                go_meet
                case rel => exact ⟨_, (true), (by first | rfl | (simp; done) | (simp [*]; done)), H', ⟨by have := HJ6.out; first | omega | exact Nat.le_refl _⟩, ⟨by (with_reducible repeat (first | apply Kd.R_alloc | apply Kd.R_drewN | apply Kd.R_drew)); exact Kd.R_mono HO_479001.out (fun _ hk => hk.2.1)⟩, ⟨by (with_reducible repeat (first | apply Kd.R_alloc | apply Kd.R_drewN | apply Kd.R_drew)); exact Kd.R_mono HO_488001.out (fun _ hk => hk.2.1)⟩, ⟨by (with_reducible repeat (first | refine blk_drewN ?_ _ | refine blk_drew ?_ | refine blk_alloc ?_ _)); exact BK478.out⟩, ⟨by (with_reducible repeat (first | refine blk_drewN ?_ _ | refine blk_drew ?_ | refine blk_alloc ?_ _)); exact BK487.out⟩, ⟨by repeat (first | (with_reducible first | exact HB.out | apply below_alloc | apply pw_below_drewN | apply below_drew1 | refine below_set ?_ GE478.out | refine below_set ?_ GE487.out) | exact HB.out)⟩⟩
              · rw [if_neg c40] at H
                have c40b0 : decide (t493 < 0) = false := decide_eq_false c40
                clear c40
                (first | rw [c40b0] | (simp only [i64_w, i32_w]; rw [c40b0]) | skip)
                replace H := Option.bind_eq_some_iff.mp H
                obtain ⟨t495, A410, H⟩ := H
                replace H : (if t495 = true then (laws_FnExactOrderOfArcs.j1 kj6 l0 t477 (t486 != t477) t473 t474 t482 t483) else (laws_FnExactOrderOfArcs.j1 kj6 l0 t477 true t473 t474 t482 t483)) = some r := H
                have A41 := Aside0.mk A410
                clear A410
                by_cases c42 : t495 = true
                · subst c42
                  have H1 : (laws_FnExactOrderOfArcs.j1 kj6 l0 t477 (t486 != t477) t473 t474 t482 t483) = some r := by rw [if_pos rfl] at H; exact H
                  clear H
                  have H := H1
                  clear H1
                  have H' := Aside0.mk H
                  clear H
                  have hnb43 := NB487_478.out
                  have hnc43 := NB478_487.out
                  have hcz44_0 : w39.cell? ⟨gb487, 0, none⟩ = some (.int .i64 t482) := (blk_cell BK487.out 0).trans rfl
                  have hcz44_1 : w39.cell? ⟨gb487, 1, none⟩ = some (.slice Ao20 t483.length co20) := (blk_cell BK487.out 1).trans rfl
                  have hfz44_0 := blk_frozen BK487.out 0
                  have hfz44_1 := blk_frozen BK487.out 1
                  have hcz45_0 : w39.cell? ⟨gb478, 0, none⟩ = some (.int .i64 t473) := (blk_cell BK478.out 0).trans rfl
                  have hcz45_1 : w39.cell? ⟨gb478, 1, none⟩ = some (.slice Ao13 t474.length co13) := (blk_cell BK478.out 1).trans rfl
                  have hfz45_0 := blk_frozen BK478.out 0
                  have hfz45_1 := blk_frozen BK478.out 1
                  go_wp2_with (first | (go_at_call 40; (with_reducible refine (laws_eqOrder.calls kj6 t482 _ _ t483 t473 _ _ t474 true _ ?side1 ?side2 ?side3 ?side4 A41.out).mono ?_); (case side1 => repeat (first | exact (Kd.R_reads' HO_488001.out).2.2 | (with_reducible refine Kd.C_alloc ?_ _) | (with_reducible refine Kd.C_drewN ?_ _) | (with_reducible refine Kd.C_drew ?_))); (case side2 => exact (Kd.R_reads' HO_488001.out).2.1); (case side3 => repeat (first | exact (Kd.R_reads' HO_479001.out).2.2 | (with_reducible refine Kd.C_alloc ?_ _) | (with_reducible refine Kd.C_drewN ?_ _) | (with_reducible refine Kd.C_drew ?_))); (case side4 => exact (Kd.R_reads' HO_479001.out).2.1); rintro e w46 ⟨rfl, hb⟩; have n0_ := Aside0.mk (Kd.R_below (by (with_reducible repeat (first | apply Kd.R_alloc | apply Kd.R_drewN | apply Kd.R_drew)); exact HO_5.out) hb); have n1_ := Aside0.mk (Kd.R_below (by (with_reducible repeat (first | apply Kd.R_alloc | apply Kd.R_drewN | apply Kd.R_drew)); exact HO_479001.out) hb); have n2_ := Aside0.mk (Kd.R_below (by (with_reducible repeat (first | apply Kd.R_alloc | apply Kd.R_drewN | apply Kd.R_drew)); exact HO_488001.out) hb); have n3_ := Aside0.mk (Kd.R_below (by (with_reducible repeat (first | apply Kd.R_alloc | apply Kd.R_drewN | apply Kd.R_drew)); exact HO491.out) hb); have n4_ := Aside0.mk (blk_below (g := gb478) (o := .cells #[.int .i64 t473, .slice Ao13 t474.length co13] 41 (0, 0)) (by (with_reducible repeat (first | refine blk_drewN ?_ _ | refine blk_drew ?_ | refine blk_alloc ?_ _)); exact BK478.out) hb); have n5_ := Aside0.mk (blk_below (g := gb487) (o := .cells #[.int .i64 t482, .slice Ao20 t483.length co20] 41 (0, 0)) (by (with_reducible repeat (first | refine blk_drewN ?_ _ | refine blk_drew ?_ | refine blk_alloc ?_ _)); exact BK487.out) hb); have n6_ := Aside0.mk (below_step (by repeat (first | (with_reducible first | exact HB.out | apply below_alloc | apply pw_below_drewN | apply below_drew1 | refine below_set ?_ GE478.out | refine below_set ?_ GE487.out) | exact HB.out)) hb); clear HO_5; clear HO_479001; clear HO_488001; clear HO491; clear BK478; clear BK487; clear HB; have HO_5 := n0_; have HO_479001 := n1_; have HO_488001 := n2_; have HO491 := n3_; have BK478 := n4_; have BK487 := n5_; have HB := n6_; clear n0_ n1_ n2_ n3_ n4_ n5_ n6_; (try clear hb); (try clear hb2); (try clear hk); (try clear hi)))
                  go_meet
                  case rel => exact ⟨_, ((t486 != t477)), (by first | rfl | (simp; done) | (simp [*]; done)), H', ⟨by have := HJ6.out; first | omega | exact Nat.le_refl _⟩, ⟨by (with_reducible repeat (first | apply Kd.R_alloc | apply Kd.R_drewN | apply Kd.R_drew)); exact Kd.R_mono HO_479001.out (fun _ hk => hk.2.1)⟩, ⟨by (with_reducible repeat (first | apply Kd.R_alloc | apply Kd.R_drewN | apply Kd.R_drew)); exact Kd.R_mono HO_488001.out (fun _ hk => hk.2.1)⟩, ⟨by (with_reducible repeat (first | refine blk_drewN ?_ _ | refine blk_drew ?_ | refine blk_alloc ?_ _)); exact BK478.out⟩, ⟨by (with_reducible repeat (first | refine blk_drewN ?_ _ | refine blk_drew ?_ | refine blk_alloc ?_ _)); exact BK487.out⟩, ⟨by repeat (first | (with_reducible first | exact HB.out | apply below_alloc | apply pw_below_drewN | apply below_drew1 | refine below_set ?_ GE478.out | refine below_set ?_ GE487.out) | exact HB.out)⟩⟩
                · replace c42 := Bool.eq_false_iff.mpr c42
                  subst c42
                  have H1 : (laws_FnExactOrderOfArcs.j1 kj6 l0 t477 true t473 t474 t482 t483) = some r := by rw [if_neg (show ¬ (false = true) by decide)] at H; exact H
                  clear H
                  have H := H1
                  clear H1
                  have H' := Aside0.mk H
                  clear H
                  have hnb47 := NB487_478.out
                  have hnc47 := NB478_487.out
                  have hcz48_0 : w39.cell? ⟨gb487, 0, none⟩ = some (.int .i64 t482) := (blk_cell BK487.out 0).trans rfl
                  have hcz48_1 : w39.cell? ⟨gb487, 1, none⟩ = some (.slice Ao20 t483.length co20) := (blk_cell BK487.out 1).trans rfl
                  have hfz48_0 := blk_frozen BK487.out 0
                  have hfz48_1 := blk_frozen BK487.out 1
                  have hcz49_0 : w39.cell? ⟨gb478, 0, none⟩ = some (.int .i64 t473) := (blk_cell BK478.out 0).trans rfl
                  have hcz49_1 : w39.cell? ⟨gb478, 1, none⟩ = some (.slice Ao13 t474.length co13) := (blk_cell BK478.out 1).trans rfl
                  have hfz49_0 := blk_frozen BK478.out 0
                  have hfz49_1 := blk_frozen BK478.out 1
                  go_wp2_with (first | (go_at_call 40; (with_reducible refine (laws_eqOrder.calls kj6 t482 _ _ t483 t473 _ _ t474 false _ ?side1 ?side2 ?side3 ?side4 A41.out).mono ?_); (case side1 => repeat (first | exact (Kd.R_reads' HO_488001.out).2.2 | (with_reducible refine Kd.C_alloc ?_ _) | (with_reducible refine Kd.C_drewN ?_ _) | (with_reducible refine Kd.C_drew ?_))); (case side2 => exact (Kd.R_reads' HO_488001.out).2.1); (case side3 => repeat (first | exact (Kd.R_reads' HO_479001.out).2.2 | (with_reducible refine Kd.C_alloc ?_ _) | (with_reducible refine Kd.C_drewN ?_ _) | (with_reducible refine Kd.C_drew ?_))); (case side4 => exact (Kd.R_reads' HO_479001.out).2.1); rintro e w50 ⟨rfl, hb⟩; have n0_ := Aside0.mk (Kd.R_below (by (with_reducible repeat (first | apply Kd.R_alloc | apply Kd.R_drewN | apply Kd.R_drew)); exact HO_5.out) hb); have n1_ := Aside0.mk (Kd.R_below (by (with_reducible repeat (first | apply Kd.R_alloc | apply Kd.R_drewN | apply Kd.R_drew)); exact HO_479001.out) hb); have n2_ := Aside0.mk (Kd.R_below (by (with_reducible repeat (first | apply Kd.R_alloc | apply Kd.R_drewN | apply Kd.R_drew)); exact HO_488001.out) hb); have n3_ := Aside0.mk (Kd.R_below (by (with_reducible repeat (first | apply Kd.R_alloc | apply Kd.R_drewN | apply Kd.R_drew)); exact HO491.out) hb); have n4_ := Aside0.mk (blk_below (g := gb478) (o := .cells #[.int .i64 t473, .slice Ao13 t474.length co13] 41 (0, 0)) (by (with_reducible repeat (first | refine blk_drewN ?_ _ | refine blk_drew ?_ | refine blk_alloc ?_ _)); exact BK478.out) hb); have n5_ := Aside0.mk (blk_below (g := gb487) (o := .cells #[.int .i64 t482, .slice Ao20 t483.length co20] 41 (0, 0)) (by (with_reducible repeat (first | refine blk_drewN ?_ _ | refine blk_drew ?_ | refine blk_alloc ?_ _)); exact BK487.out) hb); have n6_ := Aside0.mk (below_step (by repeat (first | (with_reducible first | exact HB.out | apply below_alloc | apply pw_below_drewN | apply below_drew1 | refine below_set ?_ GE478.out | refine below_set ?_ GE487.out) | exact HB.out)) hb); clear HO_5; clear HO_479001; clear HO_488001; clear HO491; clear BK478; clear BK487; clear HB; have HO_5 := n0_; have HO_479001 := n1_; have HO_488001 := n2_; have HO491 := n3_; have BK478 := n4_; have BK487 := n5_; have HB := n6_; clear n0_ n1_ n2_ n3_ n4_ n5_ n6_; (try clear hb); (try clear hb2); (try clear hk); (try clear hi)))
                  go_meet
                  case rel => exact ⟨_, (true), (by first | rfl | (simp; done) | (simp [*]; done)), H', ⟨by have := HJ6.out; first | omega | exact Nat.le_refl _⟩, ⟨by (with_reducible repeat (first | apply Kd.R_alloc | apply Kd.R_drewN | apply Kd.R_drew)); exact Kd.R_mono HO_479001.out (fun _ hk => hk.2.1)⟩, ⟨by (with_reducible repeat (first | apply Kd.R_alloc | apply Kd.R_drewN | apply Kd.R_drew)); exact Kd.R_mono HO_488001.out (fun _ hk => hk.2.1)⟩, ⟨by (with_reducible repeat (first | refine blk_drewN ?_ _ | refine blk_drew ?_ | refine blk_alloc ?_ _)); exact BK478.out⟩, ⟨by (with_reducible repeat (first | refine blk_drewN ?_ _ | refine blk_drew ?_ | refine blk_alloc ?_ _)); exact BK487.out⟩, ⟨by repeat (first | (with_reducible first | exact HB.out | apply below_alloc | apply pw_below_drewN | apply below_drew1 | refine below_set ?_ GE478.out | refine below_set ?_ GE487.out) | exact HB.out)⟩⟩
            case rest =>
              clear HC36
              try clear c1
              try clear c2
              try clear c2b0
              try clear c2b1
              try clear p2
              try clear c3
              try clear c4
              try clear c11
              try clear c16
              try clear c18
              try clear c22
              try clear c23
              try clear c27
              try clear c31
              try clear c34
              try clear c38
              try clear c39
              try clear c40
              try clear c40b0
              try clear c42
              try clear c43
              try clear c47
              try clear hcz12_0
              try clear hcz12_1
              try clear hcz19_0
              try clear hcz19_1
              try clear hcz24_0
              try clear hcz24_1
              try clear hcz25_0
              try clear hcz25_1
              try clear hcz28_0
              try clear hcz28_1
              try clear hcz29_0
              try clear hcz29_1
              try clear hcz44_0
              try clear hcz44_1
              try clear hcz45_0
              try clear hcz45_1
              try clear hcz48_0
              try clear hcz48_1
              try clear hcz49_0
              try clear hcz49_1
              try clear hfz12_0
              try clear hfz12_1
              try clear hfz19_0
              try clear hfz19_1
              try clear hfz24_0
              try clear hfz24_1
              try clear hfz25_0
              try clear hfz25_1
              try clear hfz28_0
              try clear hfz28_1
              try clear hfz29_0
              try clear hfz29_1
              try clear hfz44_0
              try clear hfz44_1
              try clear hfz45_0
              try clear hfz45_1
              try clear hfz48_0
              try clear hfz48_1
              try clear hfz49_0
              try clear hfz49_1
              try clear p2
              obtain ⟨kq, x58_35, rfl, HA, HJ35, HO_479001, HO_488001, BK478, BK487, HB⟩ := hcut
              cases kq with
              | zero => exact absurd HA.out (by simp [laws_FnExactOrderOfArcs.j1])
              | succ kj35 =>
                have H := HA.out
                clear HA
                simp only [laws_FnExactOrderOfArcs.j1] at H
                by_cases c51 : x58_35 = true
                · subst c51
                  have H1 : (some false) = some r := by rw [if_pos rfl] at H; exact H
                  clear H
                  have H := H1
                  clear H1
                  obtain rfl := Option.some.inj H
                  go_wp2
                  go_ret
                  exact ⟨by first | rfl | (simp [errW_none, errW_some] <;> rfl) | (simp [*, errW_none, errW_some] <;> rfl), by repeat (first | (with_reducible first | exact HB.out | apply below_alloc | apply pw_below_drewN | apply below_drew1 | refine below_set ?_ GE478.out | refine below_set ?_ GE487.out) | exact HB.out)⟩
                · replace c51 := Bool.eq_false_iff.mpr c51
                  subst c51
                  have H1 : ((laws_markOrder.f kj35 t482 t483 1).bind fun bt496 => ((laws_heldOrder.f kj35 t482 bt496.2 1).bind fun t498 => (if t498 < 0 then (some false) else (if t498 = bt496.1 then ((laws_toIntS.f kj35 l0).bind fun t499 => ((impl_OrderOfArcs.f kj35 t499).bind fun bt502 => ((laws_eqOrder.f kj35 bt502.1 bt502.2.1 t473 t474).bind fun t508 => (if t508 = true then (laws_FnExactOrderOfArcs.j2 kj35 bt496.1 (bt502.2.2 != t477) t482 bt496.2) else (laws_FnExactOrderOfArcs.j2 kj35 bt496.1 true t482 bt496.2))))) else (some false))))) = some r := by rw [if_neg (show ¬ (false = true) by decide)] at H; exact H
                  clear H
                  have H := H1
                  clear H1
                  replace H := Option.bind_eq_some_iff.mp H
                  obtain ⟨⟨t496, t497⟩, A520, H⟩ := H
                  replace H : ((laws_heldOrder.f kj35 t482 t497 1).bind fun t498 => (if t498 < 0 then (some false) else (if t498 = t496 then ((laws_toIntS.f kj35 l0).bind fun t499 => ((impl_OrderOfArcs.f kj35 t499).bind fun bt502 => ((laws_eqOrder.f kj35 bt502.1 bt502.2.1 t473 t474).bind fun t508 => (if t508 = true then (laws_FnExactOrderOfArcs.j2 kj35 t496 (bt502.2.2 != t477) t482 t497) else (laws_FnExactOrderOfArcs.j2 kj35 t496 true t482 t497))))) else (some false)))) = some r := H
                  have A52 := Aside0.mk A520
                  clear A520
                  replace H := Option.bind_eq_some_iff.mp H
                  obtain ⟨t498, A530, H⟩ := H
                  replace H : (if t498 < 0 then (some false) else (if t498 = t496 then ((laws_toIntS.f kj35 l0).bind fun t499 => ((impl_OrderOfArcs.f kj35 t499).bind fun bt502 => ((laws_eqOrder.f kj35 bt502.1 bt502.2.1 t473 t474).bind fun t508 => (if t508 = true then (laws_FnExactOrderOfArcs.j2 kj35 t496 (bt502.2.2 != t477) t482 t497) else (laws_FnExactOrderOfArcs.j2 kj35 t496 true t482 t497))))) else (some false))) = some r := H
                  have A53 := Aside0.mk A530
                  clear A530
                  by_cases c54 : t498 < 0
                  · rw [if_pos c54] at H
                    have c54b0 : decide (t498 < 0) = true := decide_eq_true c54
                    clear c54
                    obtain rfl := Option.some.inj H
                    have hnb55 := NB487_478.out
                    have hnc55 := NB478_487.out
                    have hcz56_0 : wc.cell? ⟨gb487, 0, none⟩ = some (.int .i64 t482) := (blk_cell BK487.out 0).trans rfl
                    have hcz56_1 : wc.cell? ⟨gb487, 1, none⟩ = some (.slice Ao20 t483.length co20) := (blk_cell BK487.out 1).trans rfl
                    have hfz56_0 := blk_frozen BK487.out 0
                    have hfz56_1 := blk_frozen BK487.out 1
                    go_wp2_with (first | ((with_reducible refine gate_callee (f := 41) rfl ?_); refine goesL_ (some 61) rfl rfl Try.func41 (by kernel_rfl) rfl #[.agg #[.int .i64 t482, .slice Ao20 t483.length co20], .int .i64 1] rfl (by (try simp only [List.map_toArray, List.map_cons, List.map_nil]); first | done | rfl | (simp only [List.length_drop, List.length_take]; rfl)) ?_; (with_reducible refine (laws_markOrder.calls kj35 t482 (fun k_ => some k_ = (.slice Ao20 t483.length co20 : Value).ownBlock) (.slice Ao20 t483.length co20) t483 1 t496 t497 w _ ?side1 ?side2 A52.out).mono ?_); (case side1 => repeat (first | (with_reducible first | exact HB.out | apply below_alloc | apply pw_below_drewN | apply below_drew1 | refine below_set ?_ GE478.out | refine below_set ?_ GE487.out) | exact HB.out)); (case side2 => exact Kd.R_tight rfl HO_488001.out); rintro e w57 ⟨rfl, hy0, hb, hkp⟩; refine ⟨_, rfl, ?_⟩; have n0_ := Aside0.mk (Kd.R_mono (ok' := fun k_ => some k_ ≠ (.slice Ao20 t483.length co20 : Value).ownBlock) (Kd.R_keptB (HO_479001.out) hkp (fun k_ hk_ hs_ => (hk_) hs_)) (fun k_ hk_ => hk_.1)); have n1_ := Aside0.mk (Kd.R_reok rfl hy0 (fun k_ e_ => HO_488001.out.1 k_ e_)); have n2_ := Aside0.mk (blk_kept (by (with_reducible repeat (first | refine blk_drewN ?_ _ | refine blk_drew ?_ | refine blk_alloc ?_ _)); exact BK478.out) hkp (fun hs_ => (fun e_ => (Kd.R_ne HO_488001.out BK478.out (by decide)) e_) hs_)); have n3_ := Aside0.mk (blk_kept (by (with_reducible repeat (first | refine blk_drewN ?_ _ | refine blk_drew ?_ | refine blk_alloc ?_ _)); exact BK487.out) hkp (fun hs_ => (fun e_ => (Kd.R_ne HO_488001.out BK487.out (by decide)) e_) hs_)); have n4_ := Aside0.mk (hb); clear HO_479001; clear HO_488001; clear BK478; clear BK487; clear HB; have HO_479001 := n0_; have HO_488001 := n1_; have BK478 := n2_; have BK487 := n3_; have HB := n4_; clear n0_ n1_ n2_ n3_ n4_; (try clear hb); (try clear hkp); (try clear hy0); have hcz58_0 : w57.cell? ⟨gb487, 0, none⟩ = some (.int .i64 t482) := (blk_cell BK487.out 0).trans rfl; have hcz58_1 : w57.cell? ⟨gb487, 1, none⟩ = some (.slice Ao20 t483.length co20) := (blk_cell BK487.out 1).trans rfl; have hfz58_0 := blk_frozen BK487.out 0; have hfz58_1 := blk_frozen BK487.out 1) | ((with_reducible refine gate_callee (f := 42) rfl ?_); refine goesL_ (some 64) rfl rfl Try.func42 (by kernel_rfl) rfl #[.agg #[.int .i64 t482, .slice Ao20 t497.length co20], .int .i64 1] rfl (by (try simp only [List.map_toArray, List.map_cons, List.map_nil]); first | done | (rw [show t497.length = t483.length from (Kd.R_reads' HO_488001.out).1.symm] <;> rfl) | rfl | (simp only [List.length_drop, List.length_take]; rfl)) ?_; (with_reducible refine (laws_heldOrder.calls kj35 t482 _ _ t497 1 t498 _ ?side1 ?side2 A53.out).mono ?_); (case side1 => repeat (first | exact (Kd.R_reads' HO_488001.out).2.2 | (with_reducible refine Kd.C_alloc ?_ _) | (with_reducible refine Kd.C_drewN ?_ _) | (with_reducible refine Kd.C_drew ?_))); (case side2 => rw [show t497.length = t483.length from (Kd.R_reads' HO_488001.out).1.symm]; exact (Kd.R_reads' HO_488001.out).2.1); rintro e w59 ⟨rfl, hb⟩; refine ⟨_, rfl, ?_⟩; have n0_ := Aside0.mk (Kd.R_below (by (with_reducible repeat (first | apply Kd.R_alloc | apply Kd.R_drewN | apply Kd.R_drew)); exact HO_479001.out) hb); have n1_ := Aside0.mk (Kd.R_below (by (with_reducible repeat (first | apply Kd.R_alloc | apply Kd.R_drewN | apply Kd.R_drew)); exact HO_488001.out) hb); have n2_ := Aside0.mk (blk_below (g := gb478) (o := .cells #[.int .i64 t473, .slice Ao13 t474.length co13] 41 (0, 0)) (by (with_reducible repeat (first | refine blk_drewN ?_ _ | refine blk_drew ?_ | refine blk_alloc ?_ _)); exact BK478.out) hb); have n3_ := Aside0.mk (blk_below (g := gb487) (o := .cells #[.int .i64 t482, .slice Ao20 t483.length co20] 41 (0, 0)) (by (with_reducible repeat (first | refine blk_drewN ?_ _ | refine blk_drew ?_ | refine blk_alloc ?_ _)); exact BK487.out) hb); have n4_ := Aside0.mk (below_step (by repeat (first | (with_reducible first | exact HB.out | apply below_alloc | apply pw_below_drewN | apply below_drew1 | refine below_set ?_ GE478.out | refine below_set ?_ GE487.out) | exact HB.out)) hb); clear HO_479001; clear HO_488001; clear BK478; clear BK487; clear HB; have HO_479001 := n0_; have HO_488001 := n1_; have BK478 := n2_; have BK487 := n3_; have HB := n4_; clear n0_ n1_ n2_ n3_ n4_; (try clear hb); (try clear hb2); (try clear hk); (try clear hi)))
                    go_ret
                    exact ⟨by first | rfl | (simp [errW_none, errW_some] <;> rfl) | (simp [*, errW_none, errW_some] <;> rfl), by repeat (first | (with_reducible first | exact HB.out | apply below_alloc | apply pw_below_drewN | apply below_drew1 | refine below_set ?_ GE478.out | refine below_set ?_ GE487.out) | exact HB.out)⟩
                  · rw [if_neg c54] at H
                    have c54b0 : decide (t498 < 0) = false := decide_eq_false c54
                    clear c54
                    by_cases c60 : t498 = t496
                    · rw [if_pos c60] at H
                      have c60b0 : (t498 == t496) = true := beq_iff_eq.mpr c60
                      have c60b1 : (t498 != t496) = false := bne_eq_false_iff_eq.mpr c60
                      clear c60
                      replace H := Option.bind_eq_some_iff.mp H
                      obtain ⟨t499, A610, H⟩ := H
                      replace H : ((impl_OrderOfArcs.f kj35 t499).bind fun bt502 => ((laws_eqOrder.f kj35 bt502.1 bt502.2.1 t473 t474).bind fun t508 => (if t508 = true then (laws_FnExactOrderOfArcs.j2 kj35 t496 (bt502.2.2 != t477) t482 t497) else (laws_FnExactOrderOfArcs.j2 kj35 t496 true t482 t497)))) = some r := H
                      have A61 := Aside0.mk A610
                      clear A610
                      replace H := Option.bind_eq_some_iff.mp H
                      obtain ⟨⟨t502, t503, t506⟩, A620, H⟩ := H
                      replace H : ((laws_eqOrder.f kj35 t502 t503 t473 t474).bind fun t508 => (if t508 = true then (laws_FnExactOrderOfArcs.j2 kj35 t496 (t506 != t477) t482 t497) else (laws_FnExactOrderOfArcs.j2 kj35 t496 true t482 t497))) = some r := H
                      have A62 := Aside0.mk A620
                      clear A620
                      have HC63 := Aside0.mk H
                      clear H
                      have hnb64 := NB487_478.out
                      have hnc64 := NB478_487.out
                      have hcz65_0 : wc.cell? ⟨gb487, 0, none⟩ = some (.int .i64 t482) := (blk_cell BK487.out 0).trans rfl
                      have hcz65_1 : wc.cell? ⟨gb487, 1, none⟩ = some (.slice Ao20 t483.length co20) := (blk_cell BK487.out 1).trans rfl
                      have hfz65_0 := blk_frozen BK487.out 0
                      have hfz65_1 := blk_frozen BK487.out 1
                      go_upto_region 23 with (first | ((with_reducible refine gate_callee (f := 41) rfl ?_); refine goesL_ (some 61) rfl rfl Try.func41 (by kernel_rfl) rfl #[.agg #[.int .i64 t482, .slice Ao20 t483.length co20], .int .i64 1] rfl (by (try simp only [List.map_toArray, List.map_cons, List.map_nil]); first | done | rfl | (simp only [List.length_drop, List.length_take]; rfl)) ?_; (with_reducible refine (laws_markOrder.calls kj35 t482 (fun k_ => some k_ = (.slice Ao20 t483.length co20 : Value).ownBlock) (.slice Ao20 t483.length co20) t483 1 t496 t497 w _ ?side1 ?side2 A52.out).mono ?_); (case side1 => repeat (first | (with_reducible first | exact HB.out | apply below_alloc | apply pw_below_drewN | apply below_drew1 | refine below_set ?_ GE478.out | refine below_set ?_ GE487.out) | exact HB.out)); (case side2 => exact Kd.R_tight rfl HO_488001.out); rintro e w66 ⟨rfl, hy0, hb, hkp⟩; refine ⟨_, rfl, ?_⟩; have n0_ := Aside0.mk (Kd.R_mono (ok' := fun k_ => some k_ ≠ (.slice Ao20 t483.length co20 : Value).ownBlock) (Kd.R_keptB (HO_479001.out) hkp (fun k_ hk_ hs_ => (hk_) hs_)) (fun k_ hk_ => hk_.1)); have n1_ := Aside0.mk (Kd.R_reok rfl hy0 (fun k_ e_ => HO_488001.out.1 k_ e_)); have n2_ := Aside0.mk (blk_kept (by (with_reducible repeat (first | refine blk_drewN ?_ _ | refine blk_drew ?_ | refine blk_alloc ?_ _)); exact BK478.out) hkp (fun hs_ => (fun e_ => (Kd.R_ne HO_488001.out BK478.out (by decide)) e_) hs_)); have n3_ := Aside0.mk (blk_kept (by (with_reducible repeat (first | refine blk_drewN ?_ _ | refine blk_drew ?_ | refine blk_alloc ?_ _)); exact BK487.out) hkp (fun hs_ => (fun e_ => (Kd.R_ne HO_488001.out BK487.out (by decide)) e_) hs_)); have n4_ := Aside0.mk (hb); clear HO_479001; clear HO_488001; clear BK478; clear BK487; clear HB; have HO_479001 := n0_; have HO_488001 := n1_; have BK478 := n2_; have BK487 := n3_; have HB := n4_; clear n0_ n1_ n2_ n3_ n4_; (try clear hb); (try clear hkp); (try clear hy0); have hcz67_0 : w66.cell? ⟨gb487, 0, none⟩ = some (.int .i64 t482) := (blk_cell BK487.out 0).trans rfl; have hcz67_1 : w66.cell? ⟨gb487, 1, none⟩ = some (.slice Ao20 t483.length co20) := (blk_cell BK487.out 1).trans rfl; have hfz67_0 := blk_frozen BK487.out 0; have hfz67_1 := blk_frozen BK487.out 1) | ((with_reducible refine gate_callee (f := 42) rfl ?_); refine goesL_ (some 64) rfl rfl Try.func42 (by kernel_rfl) rfl #[.agg #[.int .i64 t482, .slice Ao20 t497.length co20], .int .i64 1] rfl (by (try simp only [List.map_toArray, List.map_cons, List.map_nil]); first | done | (rw [show t497.length = t483.length from (Kd.R_reads' HO_488001.out).1.symm] <;> rfl) | rfl | (simp only [List.length_drop, List.length_take]; rfl)) ?_; (with_reducible refine (laws_heldOrder.calls kj35 t482 _ _ t497 1 t498 _ ?side1 ?side2 A53.out).mono ?_); (case side1 => repeat (first | exact (Kd.R_reads' HO_488001.out).2.2 | (with_reducible refine Kd.C_alloc ?_ _) | (with_reducible refine Kd.C_drewN ?_ _) | (with_reducible refine Kd.C_drew ?_))); (case side2 => rw [show t497.length = t483.length from (Kd.R_reads' HO_488001.out).1.symm]; exact (Kd.R_reads' HO_488001.out).2.1); rintro e w68 ⟨rfl, hb⟩; refine ⟨_, rfl, ?_⟩; have n0_ := Aside0.mk (Kd.R_below (by (with_reducible repeat (first | apply Kd.R_alloc | apply Kd.R_drewN | apply Kd.R_drew)); exact HO_479001.out) hb); have n1_ := Aside0.mk (Kd.R_below (by (with_reducible repeat (first | apply Kd.R_alloc | apply Kd.R_drewN | apply Kd.R_drew)); exact HO_488001.out) hb); have n2_ := Aside0.mk (blk_below (g := gb478) (o := .cells #[.int .i64 t473, .slice Ao13 t474.length co13] 41 (0, 0)) (by (with_reducible repeat (first | refine blk_drewN ?_ _ | refine blk_drew ?_ | refine blk_alloc ?_ _)); exact BK478.out) hb); have n3_ := Aside0.mk (blk_below (g := gb487) (o := .cells #[.int .i64 t482, .slice Ao20 t483.length co20] 41 (0, 0)) (by (with_reducible repeat (first | refine blk_drewN ?_ _ | refine blk_drew ?_ | refine blk_alloc ?_ _)); exact BK487.out) hb); have n4_ := Aside0.mk (below_step (by repeat (first | (with_reducible first | exact HB.out | apply below_alloc | apply pw_below_drewN | apply below_drew1 | refine below_set ?_ GE478.out | refine below_set ?_ GE487.out) | exact HB.out)) hb); clear HO_479001; clear HO_488001; clear BK478; clear BK487; clear HB; have HO_479001 := n0_; have HO_488001 := n1_; have BK478 := n2_; have BK487 := n3_; have HB := n4_; clear n0_ n1_ n2_ n3_ n4_; (try clear hb); (try clear hb2); (try clear hk); (try clear hi)) | ((with_reducible refine gate_callee (f := 16) rfl ?_); refine goesL_ (some 72) rfl rfl Try.func16 (by kernel_rfl) rfl #[.slice A0 l0.length c0] rfl (by (try simp only [List.map_toArray, List.map_cons, List.map_nil]); first | done | rfl | (simp only [List.length_drop, List.length_take]; rfl)) ?_; (with_reducible refine (laws_toIntS.calls kj35 _ _ l0 t499 _ ?side1 ?side2 A61.out).mono ?_); (case side1 => repeat (first | exact (Kd.C_below HR0.out HB.out) | (with_reducible refine Kd.C_alloc ?_ _) | (with_reducible refine Kd.C_drewN ?_ _) | (with_reducible refine Kd.C_drew ?_))); (case side2 => exact HC0.out); rintro e w69 ⟨v500, rfl, ho0, hb⟩; refine ⟨_, rfl, ?_⟩; have n0_ := Aside0.mk (Kd.R_elder' (by (with_reducible repeat (first | apply Kd.R_alloc | apply Kd.R_drewN | apply Kd.R_drew)); exact HO_479001.out) (Kd.R_base ho0) hb); have n1_ := Aside0.mk (Kd.R_elder' (by (with_reducible repeat (first | apply Kd.R_alloc | apply Kd.R_drewN | apply Kd.R_drew)); exact HO_488001.out) (Kd.R_base ho0) hb); have n2_ := Aside0.mk (Kd.R_lower (Kd.R_new' (Kd.R_new' ho0 (Kd.R_lt (by (with_reducible repeat (first | apply Kd.R_alloc | apply Kd.R_drewN | apply Kd.R_drew)); exact HO_479001.out))) (Kd.R_lt (by (with_reducible repeat (first | apply Kd.R_alloc | apply Kd.R_drewN | apply Kd.R_drew)); exact HO_488001.out))) (below_size (by repeat (first | (with_reducible first | exact HB.out | apply below_alloc | apply pw_below_drewN | apply below_drew1 | refine below_set ?_ GE478.out | refine below_set ?_ GE487.out) | exact HB.out)))); have n3_ := Aside0.mk (blk_below (g := gb478) (o := .cells #[.int .i64 t473, .slice Ao13 t474.length co13] 41 (0, 0)) (by (with_reducible repeat (first | refine blk_drewN ?_ _ | refine blk_drew ?_ | refine blk_alloc ?_ _)); exact BK478.out) hb); have n4_ := Aside0.mk (blk_below (g := gb487) (o := .cells #[.int .i64 t482, .slice Ao20 t483.length co20] 41 (0, 0)) (by (with_reducible repeat (first | refine blk_drewN ?_ _ | refine blk_drew ?_ | refine blk_alloc ?_ _)); exact BK487.out) hb); have n5_ := Aside0.mk (below_step (by repeat (first | (with_reducible first | exact HB.out | apply below_alloc | apply pw_below_drewN | apply below_drew1 | refine below_set ?_ GE478.out | refine below_set ?_ GE487.out) | exact HB.out)) hb); clear HO_479001; clear HO_488001; clear BK478; clear BK487; clear HB; have HO_479001 := n0_; have HO_488001 := n1_; have HO501 := n2_; have BK478 := n3_; have BK487 := n4_; have HB := n5_; clear n0_ n1_ n2_ n3_ n4_ n5_; (try clear hb); (try clear hb2); (try clear hk); (try clear hi); (try clear ho0); obtain ⟨Ao70, co70, eo70⟩ := Kd.R_slice HO501.out; subst eo70) | ((with_reducible refine gate_callee (f := 39) rfl ?_); refine goesL_ (some 73) rfl rfl Try.func39 (by kernel_rfl) rfl #[.slice Ao70 t499.length co70] rfl (by (try simp only [List.map_toArray, List.map_cons, List.map_nil]); first | done | rfl | (simp only [List.length_drop, List.length_take]; rfl)) ?_; (with_reducible refine (impl_OrderOfArcs.calls kj35 _ _ t499 t502 t503 t506 _ ?side1 ?side2 A62.out).mono ?_); (case side1 => repeat (first | exact (Kd.R_reads' HO501.out).2.2 | (with_reducible refine Kd.C_alloc ?_ _) | (with_reducible refine Kd.C_drewN ?_ _) | (with_reducible refine Kd.C_drew ?_))); (case side2 => exact (Kd.R_reads' HO501.out).2.1); rintro e w71 ⟨v504, rfl, ho0, hb⟩; refine ⟨_, rfl, ?_⟩; have n0_ := Aside0.mk (Kd.R_elder' (by (with_reducible repeat (first | apply Kd.R_alloc | apply Kd.R_drewN | apply Kd.R_drew)); exact HO_479001.out) (Kd.R_base ho0) hb); have n1_ := Aside0.mk (Kd.R_elder' (by (with_reducible repeat (first | apply Kd.R_alloc | apply Kd.R_drewN | apply Kd.R_drew)); exact HO_488001.out) (Kd.R_base ho0) hb); have n2_ := Aside0.mk (Kd.R_elder' (by (with_reducible repeat (first | apply Kd.R_alloc | apply Kd.R_drewN | apply Kd.R_drew)); exact HO501.out) (Kd.R_base ho0) hb); have n3_ := Aside0.mk (Kd.R_lower (Kd.R_new' (Kd.R_new' (Kd.R_new' ho0 (Kd.R_lt (by (with_reducible repeat (first | apply Kd.R_alloc | apply Kd.R_drewN | apply Kd.R_drew)); exact HO_479001.out))) (Kd.R_lt (by (with_reducible repeat (first | apply Kd.R_alloc | apply Kd.R_drewN | apply Kd.R_drew)); exact HO_488001.out))) (Kd.R_lt (by (with_reducible repeat (first | apply Kd.R_alloc | apply Kd.R_drewN | apply Kd.R_drew)); exact HO501.out))) (below_size (by repeat (first | (with_reducible first | exact HB.out | apply below_alloc | apply pw_below_drewN | apply below_drew1 | refine below_set ?_ GE478.out | refine below_set ?_ GE487.out) | exact HB.out)))); have n4_ := Aside0.mk (blk_below (g := gb478) (o := .cells #[.int .i64 t473, .slice Ao13 t474.length co13] 41 (0, 0)) (by (with_reducible repeat (first | refine blk_drewN ?_ _ | refine blk_drew ?_ | refine blk_alloc ?_ _)); exact BK478.out) hb); have n5_ := Aside0.mk (blk_below (g := gb487) (o := .cells #[.int .i64 t482, .slice Ao20 t483.length co20] 41 (0, 0)) (by (with_reducible repeat (first | refine blk_drewN ?_ _ | refine blk_drew ?_ | refine blk_alloc ?_ _)); exact BK487.out) hb); have n6_ := Aside0.mk (below_step (by repeat (first | (with_reducible first | exact HB.out | apply below_alloc | apply pw_below_drewN | apply below_drew1 | refine below_set ?_ GE478.out | refine below_set ?_ GE487.out) | exact HB.out)) hb); clear HO_479001; clear HO_488001; clear HO501; clear BK478; clear BK487; clear HB; have HO_479001 := n0_; have HO_488001 := n1_; have HO501 := n2_; have HO505 := n3_; have BK478 := n4_; have BK487 := n5_; have HB := n6_; clear n0_ n1_ n2_ n3_ n4_ n5_ n6_; (try clear hb); (try clear hb2); (try clear hk); (try clear hi); (try clear ho0)) | ((with_reducible refine gate_dst (N := 11) rfl ?_); refine box_event ?hg (N := 11) ?hd (cs := #[.int .i64 0, .slice none 0 0]) (t := 41) ?hr ?_; (case hd => rfl); (case hg => rfl); (case hr => first | (go_simp; done) | (go_simp; rfl)); intro gb507 hg w72 hbox hb; have n0_ := Aside0.mk (Kd.R_below (by (with_reducible repeat (first | apply Kd.R_alloc | apply Kd.R_drewN | apply Kd.R_drew)); exact HO_479001.out) hb); have n1_ := Aside0.mk (Kd.R_below (by (with_reducible repeat (first | apply Kd.R_alloc | apply Kd.R_drewN | apply Kd.R_drew)); exact HO_488001.out) hb); have n2_ := Aside0.mk (Kd.R_below (by (with_reducible repeat (first | apply Kd.R_alloc | apply Kd.R_drewN | apply Kd.R_drew)); exact HO501.out) hb); have n3_ := Aside0.mk (Kd.R_below (by (with_reducible repeat (first | apply Kd.R_alloc | apply Kd.R_drewN | apply Kd.R_drew)); exact HO505.out) hb); have n4_ := Aside0.mk (blk_below (g := gb478) (o := .cells #[.int .i64 t473, .slice Ao13 t474.length co13] 41 (0, 0)) (by (with_reducible repeat (first | refine blk_drewN ?_ _ | refine blk_drew ?_ | refine blk_alloc ?_ _)); exact BK478.out) hb); have n5_ := Aside0.mk (blk_below (g := gb487) (o := .cells #[.int .i64 t482, .slice Ao20 t483.length co20] 41 (0, 0)) (by (with_reducible repeat (first | refine blk_drewN ?_ _ | refine blk_drew ?_ | refine blk_alloc ?_ _)); exact BK487.out) hb); have n6_ := Aside0.mk (below_step (by repeat (first | (with_reducible first | exact HB.out | apply below_alloc | apply pw_below_drewN | apply below_drew1 | refine below_set ?_ GE478.out | refine below_set ?_ GE487.out) | exact HB.out)) hb); have n7_ := Aside0.mk (hbox); have n8_ := Aside0.mk ((by rw [hg]; exact (below_size (by repeat (first | (with_reducible first | exact HB.out | apply below_alloc | apply pw_below_drewN | apply below_drew1 | refine below_set ?_ GE478.out | refine below_set ?_ GE487.out) | exact HB.out))) : w.heap.size ≤ gb507)); have n9_ := Aside0.mk ((by rw [hg]; exact (below_size (by repeat (first | (with_reducible first | exact HB.out | apply below_alloc | apply pw_below_drewN | apply below_drew1 | refine below_set ?_ GE478.out | refine below_set ?_ GE487.out) | exact HB.out))) : w.heap.size ≤ gb507)); have n10_ := Aside0.mk ((by rw [hg]; exact Nat.ne_of_lt (blk_lt (g := gb478) (o := .cells #[.int .i64 t473, .slice Ao13 t474.length co13] 41 (0, 0)) (by (with_reducible repeat (first | refine blk_drewN ?_ _ | refine blk_drew ?_ | refine blk_alloc ?_ _)); exact BK478.out)) : gb478 ≠ gb507)); have n11_ := Aside0.mk ((by rw [hg]; exact Nat.ne_of_gt (blk_lt (g := gb478) (o := .cells #[.int .i64 t473, .slice Ao13 t474.length co13] 41 (0, 0)) (by (with_reducible repeat (first | refine blk_drewN ?_ _ | refine blk_drew ?_ | refine blk_alloc ?_ _)); exact BK478.out)) : gb507 ≠ gb478)); have n12_ := Aside0.mk ((by rw [hg]; exact Nat.ne_of_lt (blk_lt (g := gb487) (o := .cells #[.int .i64 t482, .slice Ao20 t483.length co20] 41 (0, 0)) (by (with_reducible repeat (first | refine blk_drewN ?_ _ | refine blk_drew ?_ | refine blk_alloc ?_ _)); exact BK487.out)) : gb487 ≠ gb507)); have n13_ := Aside0.mk ((by rw [hg]; exact Nat.ne_of_gt (blk_lt (g := gb487) (o := .cells #[.int .i64 t482, .slice Ao20 t483.length co20] 41 (0, 0)) (by (with_reducible repeat (first | refine blk_drewN ?_ _ | refine blk_drew ?_ | refine blk_alloc ?_ _)); exact BK487.out)) : gb507 ≠ gb487)); clear HO_479001; clear HO_488001; clear HO501; clear HO505; clear BK478; clear BK487; clear HB; have HO_479001 := n0_; have HO_488001 := n1_; have HO501 := n2_; have HO505 := n3_; have BK478 := n4_; have BK487 := n5_; have HB := n6_; have BK507 := n7_; have GW507 := n8_; have GE507 := n9_; have NB478_507 := n10_; have NB507_478 := n11_; have NB487_507 := n12_; have NB507_487 := n13_; clear n0_ n1_ n2_ n3_ n4_ n5_ n6_ n7_ n8_ n9_ n10_ n11_ n12_ n13_; clear hb hbox hg; have hnb73 := NB507_478.out; have hnc73 := NB478_507.out; have hnb74 := NB507_487.out; have hnc74 := NB487_507.out; have hcz75_0 : w72.cell? ⟨gb507, 0, none⟩ = some (.int .i64 0) := (blk_cell BK507.out 0).trans rfl; have hcz75_1 : w72.cell? ⟨gb507, 1, none⟩ = some (.slice none 0 0) := (blk_cell BK507.out 1).trans rfl; have hfz75_0 := blk_frozen BK507.out 0; have hfz75_1 := blk_frozen BK507.out 1; obtain ⟨Ao76, co76, eo76⟩ := Kd.R_slice HO505.out; subst eo76))
                      (try simp only [Act.put, List.setIfInBounds_toArray, List.set_cons_zero, List.set_cons_succ])
                      go_cut [84] (fun v84 wc => ∃ (kq : Nat) (x84_62 : Bool), v84 = .bool x84_62 ∧ Aside0 (laws_FnExactOrderOfArcs.j2 kq t496 x84_62 t482 t497 = some r) ∧ Aside0 (kq ≤ kj35) ∧ Aside0 (Kd.R (Kd.int .i64) 3 wc w.heap.size (fun k_ => some k_ ≠ ((.slice Ao20 t483.length co20) : Value).ownBlock ∧ some k_ ≠ ((.slice Ao76 t503.length co76) : Value).ownBlock) (.slice Ao13 t474.length co13) t474) ∧ Aside0 (Kd.R (Kd.int .i64) 3 wc w.heap.size (fun k_ => some k_ ≠ ((.slice Ao13 t474.length co13) : Value).ownBlock ∧ some k_ ≠ ((.slice Ao76 t503.length co76) : Value).ownBlock) (.slice Ao20 t483.length co20) t497) ∧ Aside0 (Kd.R (Kd.int .i64) 3 wc w.heap.size (fun k_ => some k_ ≠ ((.slice Ao13 t474.length co13) : Value).ownBlock ∧ some k_ ≠ ((.slice Ao20 t483.length co20) : Value).ownBlock) (.slice Ao76 t503.length co76) t503) ∧ Aside0 (wc.heap[gb478]? = some (.cells #[.int .i64 t473, (.slice Ao13 t474.length co13)] 41 (0, 0))) ∧ Aside0 (wc.heap[gb487]? = some (.cells #[.int .i64 t482, (.slice Ao20 t483.length co20)] 41 (0, 0))) ∧ Aside0 (wc.heap[gb507]? = some (.cells #[.int .i64 t502, (.slice Ao76 t503.length co76)] 41 (0, 0))) ∧ Aside0 (Below w.heap.size w wc))
                      case first =>
                        have H := HC63.out
                        clear HC63
                        replace H := Option.bind_eq_some_iff.mp H
                        obtain ⟨t508, A770, H⟩ := H
                        replace H : (if t508 = true then (laws_FnExactOrderOfArcs.j2 kj35 t496 (t506 != t477) t482 t497) else (laws_FnExactOrderOfArcs.j2 kj35 t496 true t482 t497)) = some r := H
                        have A77 := Aside0.mk A770
                        clear A770
                        by_cases c78 : t508 = true
                        · subst c78
                          have H1 : (laws_FnExactOrderOfArcs.j2 kj35 t496 (t506 != t477) t482 t497) = some r := by rw [if_pos rfl] at H; exact H
                          clear H
                          have H := H1
                          clear H1
                          have H' := Aside0.mk H
                          clear H
                          have hnb79 := NB507_478.out
                          have hnc79 := NB478_507.out
                          have hnb80 := NB507_487.out
                          have hnc80 := NB487_507.out
                          have hcz81_0 : w72.cell? ⟨gb507, 0, none⟩ = some (.int .i64 0) := (blk_cell BK507.out 0).trans rfl
                          have hcz81_1 : w72.cell? ⟨gb507, 1, none⟩ = some (.slice none 0 0) := (blk_cell BK507.out 1).trans rfl
                          have hfz81_0 := blk_frozen BK507.out 0
                          have hfz81_1 := blk_frozen BK507.out 1
                          have hnb82 := NB478_487.out
                          have hnc82 := NB487_478.out
                          have hcz83_0 : w72.cell? ⟨gb478, 0, none⟩ = some (.int .i64 t473) := (blk_cell BK478.out 0).trans rfl
                          have hcz83_1 : w72.cell? ⟨gb478, 1, none⟩ = some (.slice Ao13 t474.length co13) := (blk_cell BK478.out 1).trans rfl
                          have hfz83_0 := blk_frozen BK478.out 0
                          have hfz83_1 := blk_frozen BK478.out 1
                          go_wp2_with (first | ((with_reducible refine gate_callee (f := 40) rfl ?_); refine goesL_ (some 78) rfl rfl Try.func40 (by kernel_rfl) rfl #[.agg #[.int .i64 t502, .slice Ao76 t503.length co76], .agg #[.int .i64 t473, .slice Ao13 t474.length co13]] rfl (by (try simp only [List.map_toArray, List.map_cons, List.map_nil]); first | done | rfl | (simp only [List.length_drop, List.length_take]; rfl)) ?_; (with_reducible refine (laws_eqOrder.calls kj35 t502 _ _ t503 t473 _ _ t474 true _ ?side1 ?side2 ?side3 ?side4 A77.out).mono ?_); (case side1 => refine (Kd.R_reads' (e := 3) (base := w.heap.size) (ok := fun k_ => (((True ∧ some k_ ≠ (.slice Ao13 t474.length co13 : Value).ownBlock) ∧ some k_ ≠ (.slice Ao20 t483.length co20 : Value).ownBlock) ∧ some k_ ≠ (.slice Ao70 t499.length co70 : Value).ownBlock)) (n := t503.length) (c := co76) ?_).2.2; exact (by (with_reducible repeat (first | apply Kd.R_alloc | apply Kd.R_drewN | apply Kd.R_drew)); exact (Kd.R_mono (Kd.R_far (p := ⟨gb507, 1, none⟩) (Kd.R_far (p := ⟨gb507, 0, none⟩) (Kd.R_types HO505.out BK507.out (by decide)) (fun _ hk => hk.2) (.int .i64 t502)) (fun _ hk => hk.2) (.slice Ao76 t503.length co76)) (fun _ h_ => h_.1)))); (case side2 => exact (Kd.R_reads' HO505.out).2.1); (case side3 => refine (Kd.R_reads' (e := 3) (base := w.heap.size) (ok := fun k_ => ((some k_ ≠ (.slice Ao20 t483.length co20 : Value).ownBlock ∧ some k_ ≠ (.slice Ao70 t499.length co70 : Value).ownBlock) ∧ some k_ ≠ (.slice Ao76 t503.length co76 : Value).ownBlock)) (n := t474.length) (c := co13) ?_).2.2; exact (by (with_reducible repeat (first | apply Kd.R_alloc | apply Kd.R_drewN | apply Kd.R_drew)); exact (Kd.R_mono (Kd.R_far (p := ⟨gb507, 1, none⟩) (Kd.R_far (p := ⟨gb507, 0, none⟩) (Kd.R_types HO_479001.out BK507.out (by decide)) (fun _ hk => hk.2) (.int .i64 t502)) (fun _ hk => hk.2) (.slice Ao76 t503.length co76)) (fun _ h_ => h_.1)))); (case side4 => exact (Kd.R_reads' HO_479001.out).2.1); rintro e w84 ⟨rfl, hb⟩; refine ⟨_, rfl, ?_⟩; have n0_ := Aside0.mk (Kd.R_below (by (with_reducible repeat (first | apply Kd.R_alloc | apply Kd.R_drewN | apply Kd.R_drew)); exact (Kd.R_mono (Kd.R_far (p := ⟨gb507, 1, none⟩) (Kd.R_far (p := ⟨gb507, 0, none⟩) (Kd.R_types HO_479001.out BK507.out (by decide)) (fun _ hk => hk.2) (.int .i64 t502)) (fun _ hk => hk.2) (.slice Ao76 t503.length co76)) (fun _ h_ => h_.1))) hb); have n1_ := Aside0.mk (Kd.R_below (by (with_reducible repeat (first | apply Kd.R_alloc | apply Kd.R_drewN | apply Kd.R_drew)); exact (Kd.R_mono (Kd.R_far (p := ⟨gb507, 1, none⟩) (Kd.R_far (p := ⟨gb507, 0, none⟩) (Kd.R_types HO_488001.out BK507.out (by decide)) (fun _ hk => hk.2) (.int .i64 t502)) (fun _ hk => hk.2) (.slice Ao76 t503.length co76)) (fun _ h_ => h_.1))) hb); have n2_ := Aside0.mk (Kd.R_below (by (with_reducible repeat (first | apply Kd.R_alloc | apply Kd.R_drewN | apply Kd.R_drew)); exact (Kd.R_mono (Kd.R_far (p := ⟨gb507, 1, none⟩) (Kd.R_far (p := ⟨gb507, 0, none⟩) (Kd.R_types HO501.out BK507.out (by decide)) (fun _ hk => hk.2) (.int .i64 t502)) (fun _ hk => hk.2) (.slice Ao76 t503.length co76)) (fun _ h_ => h_.1))) hb); have n3_ := Aside0.mk (Kd.R_below (by (with_reducible repeat (first | apply Kd.R_alloc | apply Kd.R_drewN | apply Kd.R_drew)); exact (Kd.R_mono (Kd.R_far (p := ⟨gb507, 1, none⟩) (Kd.R_far (p := ⟨gb507, 0, none⟩) (Kd.R_types HO505.out BK507.out (by decide)) (fun _ hk => hk.2) (.int .i64 t502)) (fun _ hk => hk.2) (.slice Ao76 t503.length co76)) (fun _ h_ => h_.1))) hb); have n4_ := Aside0.mk (blk_below (g := gb478) (o := .cells #[.int .i64 t473, .slice Ao13 t474.length co13] 41 (0, 0)) (by (with_reducible repeat (first | refine blk_drewN ?_ _ | refine blk_drew ?_ | refine blk_alloc ?_ _)); refine blk_far ?_ NB478_507.out _; (with_reducible repeat (first | refine blk_drewN ?_ _ | refine blk_drew ?_ | refine blk_alloc ?_ _)); refine blk_far ?_ NB478_507.out _; (with_reducible repeat (first | refine blk_drewN ?_ _ | refine blk_drew ?_ | refine blk_alloc ?_ _)); exact BK478.out) hb); have n5_ := Aside0.mk (blk_below (g := gb487) (o := .cells #[.int .i64 t482, .slice Ao20 t483.length co20] 41 (0, 0)) (by (with_reducible repeat (first | refine blk_drewN ?_ _ | refine blk_drew ?_ | refine blk_alloc ?_ _)); refine blk_far ?_ NB487_507.out _; (with_reducible repeat (first | refine blk_drewN ?_ _ | refine blk_drew ?_ | refine blk_alloc ?_ _)); refine blk_far ?_ NB487_507.out _; (with_reducible repeat (first | refine blk_drewN ?_ _ | refine blk_drew ?_ | refine blk_alloc ?_ _)); exact BK487.out) hb); have n6_ := Aside0.mk (blk_below (g := gb507) (o := .cells #[.int .i64 t502, .slice Ao76 t503.length co76] 41 (0, 0)) (by (with_reducible repeat (first | refine blk_drewN ?_ _ | refine blk_drew ?_ | refine blk_alloc ?_ _)); refine blk_put (cs := #[.int .i64 t502, .slice none 0 0]) ?_ 1 _ rfl; (with_reducible repeat (first | refine blk_drewN ?_ _ | refine blk_drew ?_ | refine blk_alloc ?_ _)); refine blk_put (cs := #[.int .i64 0, .slice none 0 0]) ?_ 0 _ rfl; (with_reducible repeat (first | refine blk_drewN ?_ _ | refine blk_drew ?_ | refine blk_alloc ?_ _)); exact BK507.out) hb); have n7_ := Aside0.mk (below_step (by repeat (first | (with_reducible first | exact HB.out | apply below_alloc | apply pw_below_drewN | apply below_drew1 | refine below_set ?_ GE478.out | refine below_set ?_ GE487.out | refine below_set ?_ GE507.out) | exact HB.out)) hb); clear HO_479001; clear HO_488001; clear HO501; clear HO505; clear BK478; clear BK487; clear BK507; clear HB; have HO_479001 := n0_; have HO_488001 := n1_; have HO501 := n2_; have HO505 := n3_; have BK478 := n4_; have BK487 := n5_; have BK507 := n6_; have HB := n7_; clear n0_ n1_ n2_ n3_ n4_ n5_ n6_ n7_; (try clear hb); (try clear hb2); (try clear hk); (try clear hi)))
                          go_meet
                          case rel => exact ⟨_, ((t506 != t477)), (by first | rfl | (simp; done) | (simp [*]; done)), H', ⟨by have := HJ6.out; have := HJ35.out; first | omega | exact Nat.le_refl _⟩, ⟨by (with_reducible repeat (first | apply Kd.R_alloc | apply Kd.R_drewN | apply Kd.R_drew)); exact Kd.R_mono HO_479001.out (fun _ hk => ⟨hk.1.1, hk.2⟩)⟩, ⟨by (with_reducible repeat (first | apply Kd.R_alloc | apply Kd.R_drewN | apply Kd.R_drew)); exact Kd.R_mono HO_488001.out (fun _ hk => ⟨hk.1.1, hk.2⟩)⟩, ⟨by (with_reducible repeat (first | apply Kd.R_alloc | apply Kd.R_drewN | apply Kd.R_drew)); exact Kd.R_mono HO505.out (fun _ hk => ⟨hk.1.1.2, hk.1.2⟩)⟩, ⟨by (with_reducible repeat (first | refine blk_drewN ?_ _ | refine blk_drew ?_ | refine blk_alloc ?_ _)); exact BK478.out⟩, ⟨by (with_reducible repeat (first | refine blk_drewN ?_ _ | refine blk_drew ?_ | refine blk_alloc ?_ _)); exact BK487.out⟩, ⟨by (with_reducible repeat (first | refine blk_drewN ?_ _ | refine blk_drew ?_ | refine blk_alloc ?_ _)); exact BK507.out⟩, ⟨by repeat (first | (with_reducible first | exact HB.out | apply below_alloc | apply pw_below_drewN | apply below_drew1 | refine below_set ?_ GE478.out | refine below_set ?_ GE487.out | refine below_set ?_ GE507.out) | exact HB.out)⟩⟩
                        · replace c78 := Bool.eq_false_iff.mpr c78
                          subst c78
                          have H1 : (laws_FnExactOrderOfArcs.j2 kj35 t496 true t482 t497) = some r := by rw [if_neg (show ¬ (false = true) by decide)] at H; exact H
                          clear H
                          have H := H1
                          clear H1
                          have H' := Aside0.mk H
                          clear H
                          have hnb85 := NB507_478.out
                          have hnc85 := NB478_507.out
                          have hnb86 := NB507_487.out
                          have hnc86 := NB487_507.out
                          have hcz87_0 : w72.cell? ⟨gb507, 0, none⟩ = some (.int .i64 0) := (blk_cell BK507.out 0).trans rfl
                          have hcz87_1 : w72.cell? ⟨gb507, 1, none⟩ = some (.slice none 0 0) := (blk_cell BK507.out 1).trans rfl
                          have hfz87_0 := blk_frozen BK507.out 0
                          have hfz87_1 := blk_frozen BK507.out 1
                          have hnb88 := NB478_487.out
                          have hnc88 := NB487_478.out
                          have hcz89_0 : w72.cell? ⟨gb478, 0, none⟩ = some (.int .i64 t473) := (blk_cell BK478.out 0).trans rfl
                          have hcz89_1 : w72.cell? ⟨gb478, 1, none⟩ = some (.slice Ao13 t474.length co13) := (blk_cell BK478.out 1).trans rfl
                          have hfz89_0 := blk_frozen BK478.out 0
                          have hfz89_1 := blk_frozen BK478.out 1
                          go_wp2_with (first | ((with_reducible refine gate_callee (f := 40) rfl ?_); refine goesL_ (some 78) rfl rfl Try.func40 (by kernel_rfl) rfl #[.agg #[.int .i64 t502, .slice Ao76 t503.length co76], .agg #[.int .i64 t473, .slice Ao13 t474.length co13]] rfl (by (try simp only [List.map_toArray, List.map_cons, List.map_nil]); first | done | rfl | (simp only [List.length_drop, List.length_take]; rfl)) ?_; (with_reducible refine (laws_eqOrder.calls kj35 t502 _ _ t503 t473 _ _ t474 false _ ?side1 ?side2 ?side3 ?side4 A77.out).mono ?_); (case side1 => refine (Kd.R_reads' (e := 3) (base := w.heap.size) (ok := fun k_ => (((True ∧ some k_ ≠ (.slice Ao13 t474.length co13 : Value).ownBlock) ∧ some k_ ≠ (.slice Ao20 t483.length co20 : Value).ownBlock) ∧ some k_ ≠ (.slice Ao70 t499.length co70 : Value).ownBlock)) (n := t503.length) (c := co76) ?_).2.2; exact (by (with_reducible repeat (first | apply Kd.R_alloc | apply Kd.R_drewN | apply Kd.R_drew)); exact (Kd.R_mono (Kd.R_far (p := ⟨gb507, 1, none⟩) (Kd.R_far (p := ⟨gb507, 0, none⟩) (Kd.R_types HO505.out BK507.out (by decide)) (fun _ hk => hk.2) (.int .i64 t502)) (fun _ hk => hk.2) (.slice Ao76 t503.length co76)) (fun _ h_ => h_.1)))); (case side2 => exact (Kd.R_reads' HO505.out).2.1); (case side3 => refine (Kd.R_reads' (e := 3) (base := w.heap.size) (ok := fun k_ => ((some k_ ≠ (.slice Ao20 t483.length co20 : Value).ownBlock ∧ some k_ ≠ (.slice Ao70 t499.length co70 : Value).ownBlock) ∧ some k_ ≠ (.slice Ao76 t503.length co76 : Value).ownBlock)) (n := t474.length) (c := co13) ?_).2.2; exact (by (with_reducible repeat (first | apply Kd.R_alloc | apply Kd.R_drewN | apply Kd.R_drew)); exact (Kd.R_mono (Kd.R_far (p := ⟨gb507, 1, none⟩) (Kd.R_far (p := ⟨gb507, 0, none⟩) (Kd.R_types HO_479001.out BK507.out (by decide)) (fun _ hk => hk.2) (.int .i64 t502)) (fun _ hk => hk.2) (.slice Ao76 t503.length co76)) (fun _ h_ => h_.1)))); (case side4 => exact (Kd.R_reads' HO_479001.out).2.1); rintro e w90 ⟨rfl, hb⟩; refine ⟨_, rfl, ?_⟩; have n0_ := Aside0.mk (Kd.R_below (by (with_reducible repeat (first | apply Kd.R_alloc | apply Kd.R_drewN | apply Kd.R_drew)); exact (Kd.R_mono (Kd.R_far (p := ⟨gb507, 1, none⟩) (Kd.R_far (p := ⟨gb507, 0, none⟩) (Kd.R_types HO_479001.out BK507.out (by decide)) (fun _ hk => hk.2) (.int .i64 t502)) (fun _ hk => hk.2) (.slice Ao76 t503.length co76)) (fun _ h_ => h_.1))) hb); have n1_ := Aside0.mk (Kd.R_below (by (with_reducible repeat (first | apply Kd.R_alloc | apply Kd.R_drewN | apply Kd.R_drew)); exact (Kd.R_mono (Kd.R_far (p := ⟨gb507, 1, none⟩) (Kd.R_far (p := ⟨gb507, 0, none⟩) (Kd.R_types HO_488001.out BK507.out (by decide)) (fun _ hk => hk.2) (.int .i64 t502)) (fun _ hk => hk.2) (.slice Ao76 t503.length co76)) (fun _ h_ => h_.1))) hb); have n2_ := Aside0.mk (Kd.R_below (by (with_reducible repeat (first | apply Kd.R_alloc | apply Kd.R_drewN | apply Kd.R_drew)); exact (Kd.R_mono (Kd.R_far (p := ⟨gb507, 1, none⟩) (Kd.R_far (p := ⟨gb507, 0, none⟩) (Kd.R_types HO501.out BK507.out (by decide)) (fun _ hk => hk.2) (.int .i64 t502)) (fun _ hk => hk.2) (.slice Ao76 t503.length co76)) (fun _ h_ => h_.1))) hb); have n3_ := Aside0.mk (Kd.R_below (by (with_reducible repeat (first | apply Kd.R_alloc | apply Kd.R_drewN | apply Kd.R_drew)); exact (Kd.R_mono (Kd.R_far (p := ⟨gb507, 1, none⟩) (Kd.R_far (p := ⟨gb507, 0, none⟩) (Kd.R_types HO505.out BK507.out (by decide)) (fun _ hk => hk.2) (.int .i64 t502)) (fun _ hk => hk.2) (.slice Ao76 t503.length co76)) (fun _ h_ => h_.1))) hb); have n4_ := Aside0.mk (blk_below (g := gb478) (o := .cells #[.int .i64 t473, .slice Ao13 t474.length co13] 41 (0, 0)) (by (with_reducible repeat (first | refine blk_drewN ?_ _ | refine blk_drew ?_ | refine blk_alloc ?_ _)); refine blk_far ?_ NB478_507.out _; (with_reducible repeat (first | refine blk_drewN ?_ _ | refine blk_drew ?_ | refine blk_alloc ?_ _)); refine blk_far ?_ NB478_507.out _; (with_reducible repeat (first | refine blk_drewN ?_ _ | refine blk_drew ?_ | refine blk_alloc ?_ _)); exact BK478.out) hb); have n5_ := Aside0.mk (blk_below (g := gb487) (o := .cells #[.int .i64 t482, .slice Ao20 t483.length co20] 41 (0, 0)) (by (with_reducible repeat (first | refine blk_drewN ?_ _ | refine blk_drew ?_ | refine blk_alloc ?_ _)); refine blk_far ?_ NB487_507.out _; (with_reducible repeat (first | refine blk_drewN ?_ _ | refine blk_drew ?_ | refine blk_alloc ?_ _)); refine blk_far ?_ NB487_507.out _; (with_reducible repeat (first | refine blk_drewN ?_ _ | refine blk_drew ?_ | refine blk_alloc ?_ _)); exact BK487.out) hb); have n6_ := Aside0.mk (blk_below (g := gb507) (o := .cells #[.int .i64 t502, .slice Ao76 t503.length co76] 41 (0, 0)) (by (with_reducible repeat (first | refine blk_drewN ?_ _ | refine blk_drew ?_ | refine blk_alloc ?_ _)); refine blk_put (cs := #[.int .i64 t502, .slice none 0 0]) ?_ 1 _ rfl; (with_reducible repeat (first | refine blk_drewN ?_ _ | refine blk_drew ?_ | refine blk_alloc ?_ _)); refine blk_put (cs := #[.int .i64 0, .slice none 0 0]) ?_ 0 _ rfl; (with_reducible repeat (first | refine blk_drewN ?_ _ | refine blk_drew ?_ | refine blk_alloc ?_ _)); exact BK507.out) hb); have n7_ := Aside0.mk (below_step (by repeat (first | (with_reducible first | exact HB.out | apply below_alloc | apply pw_below_drewN | apply below_drew1 | refine below_set ?_ GE478.out | refine below_set ?_ GE487.out | refine below_set ?_ GE507.out) | exact HB.out)) hb); clear HO_479001; clear HO_488001; clear HO501; clear HO505; clear BK478; clear BK487; clear BK507; clear HB; have HO_479001 := n0_; have HO_488001 := n1_; have HO501 := n2_; have HO505 := n3_; have BK478 := n4_; have BK487 := n5_; have BK507 := n6_; have HB := n7_; clear n0_ n1_ n2_ n3_ n4_ n5_ n6_ n7_; (try clear hb); (try clear hb2); (try clear hk); (try clear hi)))
                          go_meet
                          case rel => exact ⟨_, (true), (by first | rfl | (simp; done) | (simp [*]; done)), H', ⟨by have := HJ6.out; have := HJ35.out; first | omega | exact Nat.le_refl _⟩, ⟨by (with_reducible repeat (first | apply Kd.R_alloc | apply Kd.R_drewN | apply Kd.R_drew)); exact Kd.R_mono HO_479001.out (fun _ hk => ⟨hk.1.1, hk.2⟩)⟩, ⟨by (with_reducible repeat (first | apply Kd.R_alloc | apply Kd.R_drewN | apply Kd.R_drew)); exact Kd.R_mono HO_488001.out (fun _ hk => ⟨hk.1.1, hk.2⟩)⟩, ⟨by (with_reducible repeat (first | apply Kd.R_alloc | apply Kd.R_drewN | apply Kd.R_drew)); exact Kd.R_mono HO505.out (fun _ hk => ⟨hk.1.1.2, hk.1.2⟩)⟩, ⟨by (with_reducible repeat (first | refine blk_drewN ?_ _ | refine blk_drew ?_ | refine blk_alloc ?_ _)); exact BK478.out⟩, ⟨by (with_reducible repeat (first | refine blk_drewN ?_ _ | refine blk_drew ?_ | refine blk_alloc ?_ _)); exact BK487.out⟩, ⟨by (with_reducible repeat (first | refine blk_drewN ?_ _ | refine blk_drew ?_ | refine blk_alloc ?_ _)); exact BK507.out⟩, ⟨by repeat (first | (with_reducible first | exact HB.out | apply below_alloc | apply pw_below_drewN | apply below_drew1 | refine below_set ?_ GE478.out | refine below_set ?_ GE487.out | refine below_set ?_ GE507.out) | exact HB.out)⟩⟩
                      case rest =>
                        clear HC63
                        try clear c1
                        try clear c2
                        try clear c2b0
                        try clear c2b1
                        try clear p2
                        try clear c3
                        try clear c4
                        try clear c5
                        try clear c6
                        try clear c7
                        try clear c8
                        try clear c11
                        try clear c16
                        try clear c18
                        try clear c22
                        try clear c23
                        try clear c27
                        try clear c31
                        try clear c34
                        try clear c38
                        try clear c39
                        try clear c40
                        try clear c40b0
                        try clear c41
                        try clear c42
                        try clear c43
                        try clear c47
                        try clear c51
                        try clear c54
                        try clear c54b0
                        try clear c55
                        try clear c60
                        try clear c60b0
                        try clear c60b1
                        try clear c64
                        try clear c73
                        try clear c74
                        try clear c78
                        try clear c79
                        try clear c80
                        try clear c82
                        try clear c85
                        try clear c86
                        try clear c88
                        try clear hcz12_0
                        try clear hcz12_1
                        try clear hcz19_0
                        try clear hcz19_1
                        try clear hcz24_0
                        try clear hcz24_1
                        try clear hcz25_0
                        try clear hcz25_1
                        try clear hcz28_0
                        try clear hcz28_1
                        try clear hcz29_0
                        try clear hcz29_1
                        try clear hcz44_0
                        try clear hcz44_1
                        try clear hcz45_0
                        try clear hcz45_1
                        try clear hcz48_0
                        try clear hcz48_1
                        try clear hcz49_0
                        try clear hcz49_1
                        try clear hcz56_0
                        try clear hcz56_1
                        try clear hcz58_0
                        try clear hcz58_1
                        try clear hcz65_0
                        try clear hcz65_1
                        try clear hcz67_0
                        try clear hcz67_1
                        try clear hcz75_0
                        try clear hcz75_1
                        try clear hcz81_0
                        try clear hcz81_1
                        try clear hcz83_0
                        try clear hcz83_1
                        try clear hcz87_0
                        try clear hcz87_1
                        try clear hcz89_0
                        try clear hcz89_1
                        try clear hfz12_0
                        try clear hfz12_1
                        try clear hfz19_0
                        try clear hfz19_1
                        try clear hfz24_0
                        try clear hfz24_1
                        try clear hfz25_0
                        try clear hfz25_1
                        try clear hfz28_0
                        try clear hfz28_1
                        try clear hfz29_0
                        try clear hfz29_1
                        try clear hfz44_0
                        try clear hfz44_1
                        try clear hfz45_0
                        try clear hfz45_1
                        try clear hfz48_0
                        try clear hfz48_1
                        try clear hfz49_0
                        try clear hfz49_1
                        try clear hfz56_0
                        try clear hfz56_1
                        try clear hfz58_0
                        try clear hfz58_1
                        try clear hfz65_0
                        try clear hfz65_1
                        try clear hfz67_0
                        try clear hfz67_1
                        try clear hfz75_0
                        try clear hfz75_1
                        try clear hfz81_0
                        try clear hfz81_1
                        try clear hfz83_0
                        try clear hfz83_1
                        try clear hfz87_0
                        try clear hfz87_1
                        try clear hfz89_0
                        try clear hfz89_1
                        try clear p2
                        obtain ⟨kq, x84_62, rfl, HA, HJ62, HO_479001, HO_488001, HO_508001, BK478, BK487, BK507, HB⟩ := hcut
                        have hl488001_62 := (Kd.R_reads' HO_488001.out).1
                        rw [hl488001_62] at HO_488001
                        (try simp only [hl488001_62])
                        (try simp only [hl488001_62] at BK478)
                        (try simp only [hl488001_62] at BK487)
                        (try simp only [hl488001_62] at BK507)
                        (try simp only [hl488001_62] at HO_479001)
                        (try simp only [hl488001_62] at HO_508001)
                        cases kq with
                        | zero => exact absurd HA.out (by simp [laws_FnExactOrderOfArcs.j2])
                        | succ kj62 =>
                          have H := HA.out
                          clear HA
                          simp only [laws_FnExactOrderOfArcs.j2] at H
                          by_cases c91 : x84_62 = true
                          · subst c91
                            have H1 : (some false) = some r := by rw [if_pos rfl] at H; exact H
                            clear H
                            have H := H1
                            clear H1
                            obtain rfl := Option.some.inj H
                            go_wp2
                            go_ret
                            exact ⟨by first | rfl | (simp [errW_none, errW_some] <;> rfl) | (simp [*, errW_none, errW_some] <;> rfl), by repeat (first | (with_reducible first | exact HB.out | apply below_alloc | apply pw_below_drewN | apply below_drew1 | refine below_set ?_ GE478.out | refine below_set ?_ GE487.out | refine below_set ?_ GE507.out) | exact HB.out)⟩
                          · replace c91 := Bool.eq_false_iff.mpr c91
                            subst c91
                            have H1 : ((laws_heldOrder.f kj62 t482 t497 1).bind fun t509 => (if t509 < 0 then (some false) else (if t509 = t496 then (some true) else (some false)))) = some r := by rw [if_neg (show ¬ (false = true) by decide)] at H; exact H
                            clear H
                            have H := H1
                            clear H1
                            replace H := Option.bind_eq_some_iff.mp H
                            obtain ⟨t509, A920, H⟩ := H
                            replace H : (if t509 < 0 then (some false) else (if t509 = t496 then (some true) else (some false))) = some r := H
                            have A92 := Aside0.mk A920
                            clear A920
                            by_cases c93 : t509 < 0
                            · rw [if_pos c93] at H
                              have c93b0 : decide (t509 < 0) = true := decide_eq_true c93
                              clear c93
                              obtain rfl := Option.some.inj H
                              have hnb94 := NB487_478.out
                              have hnc94 := NB478_487.out
                              have hnb95 := NB487_507.out
                              have hnc95 := NB507_487.out
                              have hcz96_0 : wc.cell? ⟨gb487, 0, none⟩ = some (.int .i64 t482) := (blk_cell BK487.out 0).trans rfl
                              have hcz96_1 : wc.cell? ⟨gb487, 1, none⟩ = some (.slice Ao20 t497.length co20) := (blk_cell BK487.out 1).trans rfl
                              have hfz96_0 := blk_frozen BK487.out 0
                              have hfz96_1 := blk_frozen BK487.out 1
                              go_wp2_with (first | ((with_reducible refine gate_callee (f := 42) rfl ?_); refine goesL_ (some 87) rfl rfl Try.func42 (by kernel_rfl) rfl #[.agg #[.int .i64 t482, .slice Ao20 t497.length co20], .int .i64 1] rfl (by (try simp only [List.map_toArray, List.map_cons, List.map_nil]); first | done | rfl | (simp only [List.length_drop, List.length_take]; rfl)) ?_; (with_reducible refine (laws_heldOrder.calls kj62 t482 _ _ t497 1 t509 _ ?side1 ?side2 A92.out).mono ?_); (case side1 => repeat (first | exact (Kd.R_reads' HO_488001.out).2.2 | (with_reducible refine Kd.C_alloc ?_ _) | (with_reducible refine Kd.C_drewN ?_ _) | (with_reducible refine Kd.C_drew ?_))); (case side2 => exact (Kd.R_reads' HO_488001.out).2.1); rintro e w97 ⟨rfl, hb⟩; refine ⟨_, rfl, ?_⟩; have n0_ := Aside0.mk (Kd.R_below (by (with_reducible repeat (first | apply Kd.R_alloc | apply Kd.R_drewN | apply Kd.R_drew)); exact HO_479001.out) hb); have n1_ := Aside0.mk (Kd.R_below (by (with_reducible repeat (first | apply Kd.R_alloc | apply Kd.R_drewN | apply Kd.R_drew)); exact HO_488001.out) hb); have n2_ := Aside0.mk (Kd.R_below (by (with_reducible repeat (first | apply Kd.R_alloc | apply Kd.R_drewN | apply Kd.R_drew)); exact HO_508001.out) hb); have n3_ := Aside0.mk (blk_below (g := gb478) (o := .cells #[.int .i64 t473, .slice Ao13 t474.length co13] 41 (0, 0)) (by (with_reducible repeat (first | refine blk_drewN ?_ _ | refine blk_drew ?_ | refine blk_alloc ?_ _)); exact BK478.out) hb); have n4_ := Aside0.mk (blk_below (g := gb487) (o := .cells #[.int .i64 t482, .slice Ao20 t497.length co20] 41 (0, 0)) (by (with_reducible repeat (first | refine blk_drewN ?_ _ | refine blk_drew ?_ | refine blk_alloc ?_ _)); exact BK487.out) hb); have n5_ := Aside0.mk (blk_below (g := gb507) (o := .cells #[.int .i64 t502, .slice Ao76 t503.length co76] 41 (0, 0)) (by (with_reducible repeat (first | refine blk_drewN ?_ _ | refine blk_drew ?_ | refine blk_alloc ?_ _)); exact BK507.out) hb); have n6_ := Aside0.mk (below_step (by repeat (first | (with_reducible first | exact HB.out | apply below_alloc | apply pw_below_drewN | apply below_drew1 | refine below_set ?_ GE478.out | refine below_set ?_ GE487.out | refine below_set ?_ GE507.out) | exact HB.out)) hb); clear HO_479001; clear HO_488001; clear HO_508001; clear BK478; clear BK487; clear BK507; clear HB; have HO_479001 := n0_; have HO_488001 := n1_; have HO_508001 := n2_; have BK478 := n3_; have BK487 := n4_; have BK507 := n5_; have HB := n6_; clear n0_ n1_ n2_ n3_ n4_ n5_ n6_; (try clear hb); (try clear hb2); (try clear hk); (try clear hi)))
                              go_ret
                              exact ⟨by first | rfl | (simp [errW_none, errW_some] <;> rfl) | (simp [*, errW_none, errW_some] <;> rfl), by repeat (first | (with_reducible first | exact HB.out | apply below_alloc | apply pw_below_drewN | apply below_drew1 | refine below_set ?_ GE478.out | refine below_set ?_ GE487.out | refine below_set ?_ GE507.out) | exact HB.out)⟩
                            · rw [if_neg c93] at H
                              have c93b0 : decide (t509 < 0) = false := decide_eq_false c93
                              clear c93
                              by_cases c98 : t509 = t496
                              · rw [if_pos c98] at H
                                have c98b0 : (t509 == t496) = true := beq_iff_eq.mpr c98
                                have c98b1 : (t509 != t496) = false := bne_eq_false_iff_eq.mpr c98
                                clear c98
                                obtain rfl := Option.some.inj H
                                have hnb99 := NB487_478.out
                                have hnc99 := NB478_487.out
                                have hnb100 := NB487_507.out
                                have hnc100 := NB507_487.out
                                have hcz101_0 : wc.cell? ⟨gb487, 0, none⟩ = some (.int .i64 t482) := (blk_cell BK487.out 0).trans rfl
                                have hcz101_1 : wc.cell? ⟨gb487, 1, none⟩ = some (.slice Ao20 t497.length co20) := (blk_cell BK487.out 1).trans rfl
                                have hfz101_0 := blk_frozen BK487.out 0
                                have hfz101_1 := blk_frozen BK487.out 1
                                go_wp2_with (first | ((with_reducible refine gate_callee (f := 42) rfl ?_); refine goesL_ (some 87) rfl rfl Try.func42 (by kernel_rfl) rfl #[.agg #[.int .i64 t482, .slice Ao20 t497.length co20], .int .i64 1] rfl (by (try simp only [List.map_toArray, List.map_cons, List.map_nil]); first | done | rfl | (simp only [List.length_drop, List.length_take]; rfl)) ?_; (with_reducible refine (laws_heldOrder.calls kj62 t482 _ _ t497 1 t509 _ ?side1 ?side2 A92.out).mono ?_); (case side1 => repeat (first | exact (Kd.R_reads' HO_488001.out).2.2 | (with_reducible refine Kd.C_alloc ?_ _) | (with_reducible refine Kd.C_drewN ?_ _) | (with_reducible refine Kd.C_drew ?_))); (case side2 => exact (Kd.R_reads' HO_488001.out).2.1); rintro e w102 ⟨rfl, hb⟩; refine ⟨_, rfl, ?_⟩; have n0_ := Aside0.mk (Kd.R_below (by (with_reducible repeat (first | apply Kd.R_alloc | apply Kd.R_drewN | apply Kd.R_drew)); exact HO_479001.out) hb); have n1_ := Aside0.mk (Kd.R_below (by (with_reducible repeat (first | apply Kd.R_alloc | apply Kd.R_drewN | apply Kd.R_drew)); exact HO_488001.out) hb); have n2_ := Aside0.mk (Kd.R_below (by (with_reducible repeat (first | apply Kd.R_alloc | apply Kd.R_drewN | apply Kd.R_drew)); exact HO_508001.out) hb); have n3_ := Aside0.mk (blk_below (g := gb478) (o := .cells #[.int .i64 t473, .slice Ao13 t474.length co13] 41 (0, 0)) (by (with_reducible repeat (first | refine blk_drewN ?_ _ | refine blk_drew ?_ | refine blk_alloc ?_ _)); exact BK478.out) hb); have n4_ := Aside0.mk (blk_below (g := gb487) (o := .cells #[.int .i64 t482, .slice Ao20 t497.length co20] 41 (0, 0)) (by (with_reducible repeat (first | refine blk_drewN ?_ _ | refine blk_drew ?_ | refine blk_alloc ?_ _)); exact BK487.out) hb); have n5_ := Aside0.mk (blk_below (g := gb507) (o := .cells #[.int .i64 t502, .slice Ao76 t503.length co76] 41 (0, 0)) (by (with_reducible repeat (first | refine blk_drewN ?_ _ | refine blk_drew ?_ | refine blk_alloc ?_ _)); exact BK507.out) hb); have n6_ := Aside0.mk (below_step (by repeat (first | (with_reducible first | exact HB.out | apply below_alloc | apply pw_below_drewN | apply below_drew1 | refine below_set ?_ GE478.out | refine below_set ?_ GE487.out | refine below_set ?_ GE507.out) | exact HB.out)) hb); clear HO_479001; clear HO_488001; clear HO_508001; clear BK478; clear BK487; clear BK507; clear HB; have HO_479001 := n0_; have HO_488001 := n1_; have HO_508001 := n2_; have BK478 := n3_; have BK487 := n4_; have BK507 := n5_; have HB := n6_; clear n0_ n1_ n2_ n3_ n4_ n5_ n6_; (try clear hb); (try clear hb2); (try clear hk); (try clear hi)))
                                go_ret
                                exact ⟨by first | rfl | (simp [errW_none, errW_some] <;> rfl) | (simp [*, errW_none, errW_some] <;> rfl), by repeat (first | (with_reducible first | exact HB.out | apply below_alloc | apply pw_below_drewN | apply below_drew1 | refine below_set ?_ GE478.out | refine below_set ?_ GE487.out | refine below_set ?_ GE507.out) | exact HB.out)⟩
                              · rw [if_neg c98] at H
                                have c98b0 : (t509 == t496) = false := beq_eq_false_iff_ne.mpr c98
                                have c98b1 : (t509 != t496) = true := bne_iff_ne.mpr c98
                                obtain rfl := Option.some.inj H
                                have hnb103 := NB487_478.out
                                have hnc103 := NB478_487.out
                                have hnb104 := NB487_507.out
                                have hnc104 := NB507_487.out
                                have hcz105_0 : wc.cell? ⟨gb487, 0, none⟩ = some (.int .i64 t482) := (blk_cell BK487.out 0).trans rfl
                                have hcz105_1 : wc.cell? ⟨gb487, 1, none⟩ = some (.slice Ao20 t497.length co20) := (blk_cell BK487.out 1).trans rfl
                                have hfz105_0 := blk_frozen BK487.out 0
                                have hfz105_1 := blk_frozen BK487.out 1
                                go_wp2_with (first | ((with_reducible refine gate_callee (f := 42) rfl ?_); refine goesL_ (some 87) rfl rfl Try.func42 (by kernel_rfl) rfl #[.agg #[.int .i64 t482, .slice Ao20 t497.length co20], .int .i64 1] rfl (by (try simp only [List.map_toArray, List.map_cons, List.map_nil]); first | done | rfl | (simp only [List.length_drop, List.length_take]; rfl)) ?_; (with_reducible refine (laws_heldOrder.calls kj62 t482 _ _ t497 1 t509 _ ?side1 ?side2 A92.out).mono ?_); (case side1 => repeat (first | exact (Kd.R_reads' HO_488001.out).2.2 | (with_reducible refine Kd.C_alloc ?_ _) | (with_reducible refine Kd.C_drewN ?_ _) | (with_reducible refine Kd.C_drew ?_))); (case side2 => exact (Kd.R_reads' HO_488001.out).2.1); rintro e w106 ⟨rfl, hb⟩; refine ⟨_, rfl, ?_⟩; have n0_ := Aside0.mk (Kd.R_below (by (with_reducible repeat (first | apply Kd.R_alloc | apply Kd.R_drewN | apply Kd.R_drew)); exact HO_479001.out) hb); have n1_ := Aside0.mk (Kd.R_below (by (with_reducible repeat (first | apply Kd.R_alloc | apply Kd.R_drewN | apply Kd.R_drew)); exact HO_488001.out) hb); have n2_ := Aside0.mk (Kd.R_below (by (with_reducible repeat (first | apply Kd.R_alloc | apply Kd.R_drewN | apply Kd.R_drew)); exact HO_508001.out) hb); have n3_ := Aside0.mk (blk_below (g := gb478) (o := .cells #[.int .i64 t473, .slice Ao13 t474.length co13] 41 (0, 0)) (by (with_reducible repeat (first | refine blk_drewN ?_ _ | refine blk_drew ?_ | refine blk_alloc ?_ _)); exact BK478.out) hb); have n4_ := Aside0.mk (blk_below (g := gb487) (o := .cells #[.int .i64 t482, .slice Ao20 t497.length co20] 41 (0, 0)) (by (with_reducible repeat (first | refine blk_drewN ?_ _ | refine blk_drew ?_ | refine blk_alloc ?_ _)); exact BK487.out) hb); have n5_ := Aside0.mk (blk_below (g := gb507) (o := .cells #[.int .i64 t502, .slice Ao76 t503.length co76] 41 (0, 0)) (by (with_reducible repeat (first | refine blk_drewN ?_ _ | refine blk_drew ?_ | refine blk_alloc ?_ _)); exact BK507.out) hb); have n6_ := Aside0.mk (below_step (by repeat (first | (with_reducible first | exact HB.out | apply below_alloc | apply pw_below_drewN | apply below_drew1 | refine below_set ?_ GE478.out | refine below_set ?_ GE487.out | refine below_set ?_ GE507.out) | exact HB.out)) hb); clear HO_479001; clear HO_488001; clear HO_508001; clear BK478; clear BK487; clear BK507; clear HB; have HO_479001 := n0_; have HO_488001 := n1_; have HO_508001 := n2_; have BK478 := n3_; have BK487 := n4_; have BK507 := n5_; have HB := n6_; clear n0_ n1_ n2_ n3_ n4_ n5_ n6_; (try clear hb); (try clear hb2); (try clear hk); (try clear hi)))
                                go_ret
                                exact ⟨by first | rfl | (simp [errW_none, errW_some] <;> rfl) | (simp [*, errW_none, errW_some] <;> rfl), by repeat (first | (with_reducible first | exact HB.out | apply below_alloc | apply pw_below_drewN | apply below_drew1 | refine below_set ?_ GE478.out | refine below_set ?_ GE487.out | refine below_set ?_ GE507.out) | exact HB.out)⟩
                    · rw [if_neg c60] at H
                      have c60b0 : (t498 == t496) = false := beq_eq_false_iff_ne.mpr c60
                      have c60b1 : (t498 != t496) = true := bne_iff_ne.mpr c60
                      obtain rfl := Option.some.inj H
                      have hnb107 := NB487_478.out
                      have hnc107 := NB478_487.out
                      have hcz108_0 : wc.cell? ⟨gb487, 0, none⟩ = some (.int .i64 t482) := (blk_cell BK487.out 0).trans rfl
                      have hcz108_1 : wc.cell? ⟨gb487, 1, none⟩ = some (.slice Ao20 t483.length co20) := (blk_cell BK487.out 1).trans rfl
                      have hfz108_0 := blk_frozen BK487.out 0
                      have hfz108_1 := blk_frozen BK487.out 1
                      go_wp2_with (first | ((with_reducible refine gate_callee (f := 41) rfl ?_); refine goesL_ (some 61) rfl rfl Try.func41 (by kernel_rfl) rfl #[.agg #[.int .i64 t482, .slice Ao20 t483.length co20], .int .i64 1] rfl (by (try simp only [List.map_toArray, List.map_cons, List.map_nil]); first | done | rfl | (simp only [List.length_drop, List.length_take]; rfl)) ?_; (with_reducible refine (laws_markOrder.calls kj35 t482 (fun k_ => some k_ = (.slice Ao20 t483.length co20 : Value).ownBlock) (.slice Ao20 t483.length co20) t483 1 t496 t497 w _ ?side1 ?side2 A52.out).mono ?_); (case side1 => repeat (first | (with_reducible first | exact HB.out | apply below_alloc | apply pw_below_drewN | apply below_drew1 | refine below_set ?_ GE478.out | refine below_set ?_ GE487.out) | exact HB.out)); (case side2 => exact Kd.R_tight rfl HO_488001.out); rintro e w109 ⟨rfl, hy0, hb, hkp⟩; refine ⟨_, rfl, ?_⟩; have n0_ := Aside0.mk (Kd.R_mono (ok' := fun k_ => some k_ ≠ (.slice Ao20 t483.length co20 : Value).ownBlock) (Kd.R_keptB (HO_479001.out) hkp (fun k_ hk_ hs_ => (hk_) hs_)) (fun k_ hk_ => hk_.1)); have n1_ := Aside0.mk (Kd.R_reok rfl hy0 (fun k_ e_ => HO_488001.out.1 k_ e_)); have n2_ := Aside0.mk (blk_kept (by (with_reducible repeat (first | refine blk_drewN ?_ _ | refine blk_drew ?_ | refine blk_alloc ?_ _)); exact BK478.out) hkp (fun hs_ => (fun e_ => (Kd.R_ne HO_488001.out BK478.out (by decide)) e_) hs_)); have n3_ := Aside0.mk (blk_kept (by (with_reducible repeat (first | refine blk_drewN ?_ _ | refine blk_drew ?_ | refine blk_alloc ?_ _)); exact BK487.out) hkp (fun hs_ => (fun e_ => (Kd.R_ne HO_488001.out BK487.out (by decide)) e_) hs_)); have n4_ := Aside0.mk (hb); clear HO_479001; clear HO_488001; clear BK478; clear BK487; clear HB; have HO_479001 := n0_; have HO_488001 := n1_; have BK478 := n2_; have BK487 := n3_; have HB := n4_; clear n0_ n1_ n2_ n3_ n4_; (try clear hb); (try clear hkp); (try clear hy0); have hcz110_0 : w109.cell? ⟨gb487, 0, none⟩ = some (.int .i64 t482) := (blk_cell BK487.out 0).trans rfl; have hcz110_1 : w109.cell? ⟨gb487, 1, none⟩ = some (.slice Ao20 t483.length co20) := (blk_cell BK487.out 1).trans rfl; have hfz110_0 := blk_frozen BK487.out 0; have hfz110_1 := blk_frozen BK487.out 1) | ((with_reducible refine gate_callee (f := 42) rfl ?_); refine goesL_ (some 64) rfl rfl Try.func42 (by kernel_rfl) rfl #[.agg #[.int .i64 t482, .slice Ao20 t497.length co20], .int .i64 1] rfl (by (try simp only [List.map_toArray, List.map_cons, List.map_nil]); first | done | (rw [show t497.length = t483.length from (Kd.R_reads' HO_488001.out).1.symm] <;> rfl) | rfl | (simp only [List.length_drop, List.length_take]; rfl)) ?_; (with_reducible refine (laws_heldOrder.calls kj35 t482 _ _ t497 1 t498 _ ?side1 ?side2 A53.out).mono ?_); (case side1 => repeat (first | exact (Kd.R_reads' HO_488001.out).2.2 | (with_reducible refine Kd.C_alloc ?_ _) | (with_reducible refine Kd.C_drewN ?_ _) | (with_reducible refine Kd.C_drew ?_))); (case side2 => rw [show t497.length = t483.length from (Kd.R_reads' HO_488001.out).1.symm]; exact (Kd.R_reads' HO_488001.out).2.1); rintro e w111 ⟨rfl, hb⟩; refine ⟨_, rfl, ?_⟩; have n0_ := Aside0.mk (Kd.R_below (by (with_reducible repeat (first | apply Kd.R_alloc | apply Kd.R_drewN | apply Kd.R_drew)); exact HO_479001.out) hb); have n1_ := Aside0.mk (Kd.R_below (by (with_reducible repeat (first | apply Kd.R_alloc | apply Kd.R_drewN | apply Kd.R_drew)); exact HO_488001.out) hb); have n2_ := Aside0.mk (blk_below (g := gb478) (o := .cells #[.int .i64 t473, .slice Ao13 t474.length co13] 41 (0, 0)) (by (with_reducible repeat (first | refine blk_drewN ?_ _ | refine blk_drew ?_ | refine blk_alloc ?_ _)); exact BK478.out) hb); have n3_ := Aside0.mk (blk_below (g := gb487) (o := .cells #[.int .i64 t482, .slice Ao20 t483.length co20] 41 (0, 0)) (by (with_reducible repeat (first | refine blk_drewN ?_ _ | refine blk_drew ?_ | refine blk_alloc ?_ _)); exact BK487.out) hb); have n4_ := Aside0.mk (below_step (by repeat (first | (with_reducible first | exact HB.out | apply below_alloc | apply pw_below_drewN | apply below_drew1 | refine below_set ?_ GE478.out | refine below_set ?_ GE487.out) | exact HB.out)) hb); clear HO_479001; clear HO_488001; clear BK478; clear BK487; clear HB; have HO_479001 := n0_; have HO_488001 := n1_; have BK478 := n2_; have BK487 := n3_; have HB := n4_; clear n0_ n1_ n2_ n3_ n4_; (try clear hb); (try clear hb2); (try clear hk); (try clear hi)))
                      go_ret
                      exact ⟨by first | rfl | (simp [errW_none, errW_some] <;> rfl) | (simp [*, errW_none, errW_some] <;> rfl), by repeat (first | (with_reducible first | exact HB.out | apply below_alloc | apply pw_below_drewN | apply below_drew1 | refine below_set ?_ GE478.out | refine below_set ?_ GE487.out) | exact HB.out)⟩
          · replace c34 := Bool.eq_false_iff.mpr c34
            subst c34
            have H1 : (some false) = some r := by rw [if_neg (show ¬ (false = true) by decide)] at H; exact H
            clear H
            have H := H1
            clear H1
            obtain rfl := Option.some.inj H
            go_wp2_with (first | ((with_reducible refine gate_callee (f := 16) rfl ?_); refine goesL_ (some 40) rfl rfl Try.func16 (by kernel_rfl) rfl #[.slice A0 l0.length c0] rfl (by (try simp only [List.map_toArray, List.map_cons, List.map_nil]); first | done | rfl | (simp only [List.length_drop, List.length_take]; rfl)) ?_; (with_reducible refine (laws_toIntS.calls kj6 _ _ l0 t489 _ ?side1 ?side2 A32.out).mono ?_); (case side1 => repeat (first | exact (Kd.C_below HR0.out HB.out) | (with_reducible refine Kd.C_alloc ?_ _) | (with_reducible refine Kd.C_drewN ?_ _) | (with_reducible refine Kd.C_drew ?_))); (case side2 => exact HC0.out); rintro e w112 ⟨v490, rfl, ho0, hb⟩; refine ⟨_, rfl, ?_⟩; have n0_ := Aside0.mk (Kd.R_elder' (by (with_reducible repeat (first | apply Kd.R_alloc | apply Kd.R_drewN | apply Kd.R_drew)); exact HO_5.out) (Kd.R_base ho0) hb); have n1_ := Aside0.mk (Kd.R_elder' (by (with_reducible repeat (first | apply Kd.R_alloc | apply Kd.R_drewN | apply Kd.R_drew)); exact HO_479001.out) (Kd.R_base ho0) hb); have n2_ := Aside0.mk (Kd.R_elder' (by (with_reducible repeat (first | apply Kd.R_alloc | apply Kd.R_drewN | apply Kd.R_drew)); exact HO_488001.out) (Kd.R_base ho0) hb); have n3_ := Aside0.mk (Kd.R_lower (Kd.R_new' (Kd.R_new' (Kd.R_new' ho0 (Kd.R_lt (by (with_reducible repeat (first | apply Kd.R_alloc | apply Kd.R_drewN | apply Kd.R_drew)); exact HO_5.out))) (Kd.R_lt (by (with_reducible repeat (first | apply Kd.R_alloc | apply Kd.R_drewN | apply Kd.R_drew)); exact HO_479001.out))) (Kd.R_lt (by (with_reducible repeat (first | apply Kd.R_alloc | apply Kd.R_drewN | apply Kd.R_drew)); exact HO_488001.out))) (below_size (by repeat (first | (with_reducible first | exact HB.out | apply below_alloc | apply pw_below_drewN | apply below_drew1 | refine below_set ?_ GE478.out | refine below_set ?_ GE487.out) | exact HB.out)))); have n4_ := Aside0.mk (blk_below (g := gb478) (o := .cells #[.int .i64 t473, .slice Ao13 t474.length co13] 41 (0, 0)) (by (with_reducible repeat (first | refine blk_drewN ?_ _ | refine blk_drew ?_ | refine blk_alloc ?_ _)); exact BK478.out) hb); have n5_ := Aside0.mk (blk_below (g := gb487) (o := .cells #[.int .i64 t482, .slice Ao20 t483.length co20] 41 (0, 0)) (by (with_reducible repeat (first | refine blk_drewN ?_ _ | refine blk_drew ?_ | refine blk_alloc ?_ _)); exact BK487.out) hb); have n6_ := Aside0.mk (below_step (by repeat (first | (with_reducible first | exact HB.out | apply below_alloc | apply pw_below_drewN | apply below_drew1 | refine below_set ?_ GE478.out | refine below_set ?_ GE487.out) | exact HB.out)) hb); clear HO_5; clear HO_479001; clear HO_488001; clear BK478; clear BK487; clear HB; have HO_5 := n0_; have HO_479001 := n1_; have HO_488001 := n2_; have HO491 := n3_; have BK478 := n4_; have BK487 := n5_; have HB := n6_; clear n0_ n1_ n2_ n3_ n4_ n5_ n6_; (try clear hb); (try clear hb2); (try clear hk); (try clear hi); (try clear ho0); obtain ⟨Ao113, co113, eo113⟩ := Kd.R_slice HO491.out; subst eo113) | ((with_reducible refine gate_callee (f := 18) rfl ?_); refine goesL_ (some 41) rfl rfl Try.func18 (by kernel_rfl) rfl #[.slice Ao15 t479.length co15, .slice Ao113 t489.length co113] rfl (by (try simp only [List.map_toArray, List.map_cons, List.map_nil]); first | done | rfl | (simp only [List.length_drop, List.length_take]; rfl)) ?_; (with_reducible refine (laws_eqIntS.calls kj6 _ _ t479 _ _ t489 false _ ?side1 ?side2 ?side3 ?side4 A33.out).mono ?_); (case side1 => repeat (first | exact (Kd.R_reads' HO_5.out).2.2 | (with_reducible refine Kd.C_alloc ?_ _) | (with_reducible refine Kd.C_drewN ?_ _) | (with_reducible refine Kd.C_drew ?_))); (case side2 => exact (Kd.R_reads' HO_5.out).2.1); (case side3 => repeat (first | exact (Kd.R_reads' HO491.out).2.2 | (with_reducible refine Kd.C_alloc ?_ _) | (with_reducible refine Kd.C_drewN ?_ _) | (with_reducible refine Kd.C_drew ?_))); (case side4 => exact (Kd.R_reads' HO491.out).2.1); rintro e w' ⟨rfl, ⟨nd, rfl⟩⟩; refine ⟨_, rfl, ?_⟩))
            go_ret
            exact ⟨by first | rfl | (simp [errW_none, errW_some] <;> rfl) | (simp [*, errW_none, errW_some] <;> rfl), by repeat (first | (with_reducible first | exact HB.out | apply below_alloc | apply pw_below_drewN | apply below_drew1 | refine below_set ?_ GE478.out | refine below_set ?_ GE487.out) | exact HB.out)⟩

/-- THE ONE PURE STATEMENT of laws_FnExactOrderOfArcs: yours. -/
def laws_FnExactOrderOfArcs.Pure : Prop := ∀ (l0 : List Int), l0.length ≤ maxLen → l0.length * 8 ≤ 140737488351232 → (∀ x ∈ l0, (Lit.int .i64 x).wf = true) → ∃ k, laws_FnExactOrderOfArcs.f k l0 = some true
theorem laws_FnExactOrderOfArcs.walk (P : laws_FnExactOrderOfArcs.Pure) (a0 : Option Addr) (len0 cap0 : Nat) (z0 : List Int) (w : World) (w0 : (a0 = none ∧ len0 = 0 ∧ cap0 = 0 ∧ z0 = []) ∨ ∃ x, a0 = some x ∧ len0 ≤ cap0 ∧ cap0 ≤ maxLen ∧ z0.length = cap0 ∧ (∀ i, i < z0.length → w.cell? (x.add i) = some (.int .i64 (z0.getD i 0))) ∧ ∀ n ∈ z0, (Lit.int .i64 n).wf = true) (y0 : len0 * 8 ≤ 140737488351232) :
    Calls Try.prog 11 #[.slice a0 len0 cap0] w fun e w' => e = .returned (.bool true) ∧ Below w.heap.size w w' := by
  obtain ⟨l0, rfl, hr0, hm0, hw0, hc0⟩ := ReadsInt.ofRowC w0
  obtain ⟨k, h⟩ := P l0 hm0 y0 hw0
  refine (laws_FnExactOrderOfArcs.calls k _ _ l0 true w (Kd.C_of_reads (d := (0 : Int)) (h1 := fun _ => rfl) hr0) hc0 h).mono ?_
  rintro e w' ⟨rfl, hd⟩
  exact ⟨rfl, hd⟩

end Go.Proofs.Ytgpigjjhkemmeaa.R
