-- Written by hook.py, a program of this session (wip/), which runs the kit's print.py with its own parts; Lean checks it.
import Derived.Test.YtacdlipojhoilaaBx0
import Derived.Test.YtacdlipojhoilaaBx1
import Derived.Test.YtacdlipojhoilaaBx2
import Derived.Test.YtacdlipojhoilaaBx6
import Derived.Test.YtacdlipojhoilaaBx7
import Derived.Test.YtacdlipojhoilaaBx11
import Derived.Test.YtacdlipojhoilaaBx16
import Derived.Test.YtacdlipojhoilaaBx17
namespace Go.Proofs.Ytacdlipojhoilaa.Bx
open Go.RowKit Go.Proofs.YtacdlipojhoilaaW.PrintWords Go.Proofs.YtacdlipojhoilaaW.PrintLast Go.Proofs.YtacdlipojhoilaaW.PrintMore
attribute [local go_sem] max2_int min2_int max_two min_two max_three min_three max_four min_four   -- for this text's walks alone
set_option linter.unusedVariables false
set_option linter.unusedSimpArgs false

/-! ### laws_FnAscentsAreMatrices: function 6 -/
mutual
def laws_FnAscentsAreMatrices.j0 : Nat → List Int → Bool → Bool → List (List Int) → Option (Bool)
  | 0, _, _, _, _ => none
  | k + 1, x5, x9, x47, x375000 => if x47 = true then (some false) else (if x9 = true then ((impl_AscentOfMatrix.f k x375000).bind fun bt381 => ((impl_SumOfMatrix.f k x375000).bind fun bt385 => ((impl_RowSums.f k x375000).bind fun bt387 => ((impl_AscentsOf.f k x5).bind fun bt394 => ((impl_TopOfMatrix.f k x375000).bind fun bt396 => (if bt381.2 = true then (if bt385.2 = true then (if bt387.2.2 = true then (if bt394.2 = true then ((laws_pSame.f k bt381.1 x5).bind fun t398 => (if t398 = true then (if bt385.1 = (x5.length : Int) then ((laws_pSum.f k bt387.1).bind fun t399 => (if t399 = bt385.1 then ((laws_pSum.f k bt387.2.1).bind fun t400 => (if t400 = bt385.1 then (laws_FnAscentsAreMatrices.j1 k x5 bt387.1 bt394.1 bt396.1 bt396.2 (bt396.2 != (decide ((x5.length : Int) > 0))) x375000) else (laws_FnAscentsAreMatrices.j1 k x5 bt387.1 bt394.1 bt396.1 bt396.2 true x375000))) else (laws_FnAscentsAreMatrices.j1 k x5 bt387.1 bt394.1 bt396.1 bt396.2 true x375000))) else (laws_FnAscentsAreMatrices.j1 k x5 bt387.1 bt394.1 bt396.1 bt396.2 true x375000)) else (laws_FnAscentsAreMatrices.j1 k x5 bt387.1 bt394.1 bt396.1 bt396.2 true x375000))) else (laws_FnAscentsAreMatrices.j1 k x5 bt387.1 bt394.1 bt396.1 bt396.2 true x375000)) else (laws_FnAscentsAreMatrices.j1 k x5 bt387.1 bt394.1 bt396.1 bt396.2 true x375000)) else (laws_FnAscentsAreMatrices.j1 k x5 bt387.1 bt394.1 bt396.1 bt396.2 true x375000)) else (laws_FnAscentsAreMatrices.j1 k x5 bt387.1 bt394.1 bt396.1 bt396.2 true x375000))))))) else (some true))
def laws_FnAscentsAreMatrices.j1 : Nat → List Int → List Int → Int → Int → Bool → Bool → List (List Int) → Option (Bool)
  | 0, _, _, _, _, _, _, _ => none
  | k + 1, x5, x14, x17, x19, x20, x120, x375000 => if x120 = true then (some false) else (if x20 = true then (laws_FnAscentsAreMatrices.l0 k x5 x14 x17 x19 0 x5 (x5.length : Int) 0 x375000) else (some ((x375000.length : Int) == 0)))
def laws_FnAscentsAreMatrices.l0 : Nat → List Int → List Int → Int → Int → Int → List Int → Int → Int → List (List Int) → Option (Bool)
  | 0, _, _, _, _, _, _, _, _, _ => none
  | k + 1, x5, x14, x17, x19, x21, x127, x128, x129, x375000 => if x129 < x128 then (if 0 ≤ x129 then (if x129 < (x127.length : Int) then (if (rd x127 x129) = 0 then (laws_FnAscentsAreMatrices.l0 k x5 x14 x17 x19 (wrap64 (x21 + 1)) x127 x128 (wrap64 (x129 + 1)) x375000) else (laws_FnAscentsAreMatrices.l0 k x5 x14 x17 x19 x21 x127 x128 (wrap64 (x129 + 1)) x375000)) else (none)) else (none)) else (if 0 ≤ (wrap64 ((x5.length : Int) - 1)) then (if (wrap64 ((x5.length : Int) - 1)) < (x5.length : Int) then (if x19 = (rd x5 (wrap64 ((x5.length : Int) - 1))) then (if (x375000.length : Int) = (wrap64 (x17 + 1)) then (if 0 < (x14.length : Int) then (some ((rd x14 0) == x21)) else (none)) else (some false)) else (some false)) else (none)) else (none))
end
def laws_FnAscentsAreMatrices.f (k : Nat) (l0 : List Int) (l1 : List Int) : Option (Bool) := (laws_big.f l0 l1).bind fun t366 => (if t366 = true then (some true) else ((spec_DrawMatrixOfAscent.f k l0).bind fun t367 => ((impl_MatrixOfAscent.f k t367).bind fun bt370 => ((spec_MatrixOfAscent.f k t367).bind fun bt375 => (if (bt370.2 != bt375.2) = true then (laws_FnAscentsAreMatrices.j0 k t367 bt375.2 true bt370.1) else ((laws_pSameMatrix.f k bt370.1 bt375.1).bind fun t380 => (laws_FnAscentsAreMatrices.j0 k t367 bt375.2 (!t380) bt370.1)))))))
theorem laws_FnAscentsAreMatrices.mono_l : ∀ k, (∀ y0 y1 y2 y3, LeO (laws_FnAscentsAreMatrices.j0 k y0 y1 y2 y3) (laws_FnAscentsAreMatrices.j0 (k + 1) y0 y1 y2 y3)) ∧ (∀ y0 y1 y2 y3 y4 y5 y6, LeO (laws_FnAscentsAreMatrices.j1 k y0 y1 y2 y3 y4 y5 y6) (laws_FnAscentsAreMatrices.j1 (k + 1) y0 y1 y2 y3 y4 y5 y6)) ∧ (∀ y0 y1 y2 y3 y4 y5 y6 y7 y8, LeO (laws_FnAscentsAreMatrices.l0 k y0 y1 y2 y3 y4 y5 y6 y7 y8) (laws_FnAscentsAreMatrices.l0 (k + 1) y0 y1 y2 y3 y4 y5 y6 y7 y8))
  | 0 => ⟨fun _ _ _ _ r h => by simp [laws_FnAscentsAreMatrices.j0] at h, fun _ _ _ _ _ _ _ r h => by simp [laws_FnAscentsAreMatrices.j1] at h, fun _ _ _ _ _ _ _ _ _ r h => by simp [laws_FnAscentsAreMatrices.l0] at h⟩
  | k + 1 => by
    obtain ⟨ih0, ih1, ih2⟩ := laws_FnAscentsAreMatrices.mono_l k
    refine ⟨?_, ?_, ?_⟩
    · intro y0 y1 y2 y3
      unfold laws_FnAscentsAreMatrices.j0
      repeat' first | with_reducible first | exact ih0 _ _ _ _ | exact ih1 _ _ _ _ _ _ _ | exact ih2 _ _ _ _ _ _ _ _ _ | exact impl_AscentOfMatrix.mono _ _ | exact impl_AscentsOf.mono _ _ | exact impl_MatrixOfAscent.mono _ _ | exact impl_RowSums.mono _ _ | exact impl_SumOfMatrix.mono _ _ | exact impl_TopOfMatrix.mono _ _ | exact laws_pSame.mono _ _ _ | exact laws_pSameMatrix.mono _ _ _ | exact laws_pSum.mono _ _ | exact spec_DrawMatrixOfAscent.mono _ _ | exact spec_MatrixOfAscent.mono _ _ | exact LeO.refl _ | exact LeO.none _ | refine LeO.ite ?_ ?_ | refine LeO.bind ?_ (fun _ => ?_)
    · intro y0 y1 y2 y3 y4 y5 y6
      unfold laws_FnAscentsAreMatrices.j1
      repeat' first | with_reducible first | exact ih0 _ _ _ _ | exact ih1 _ _ _ _ _ _ _ | exact ih2 _ _ _ _ _ _ _ _ _ | exact impl_AscentOfMatrix.mono _ _ | exact impl_AscentsOf.mono _ _ | exact impl_MatrixOfAscent.mono _ _ | exact impl_RowSums.mono _ _ | exact impl_SumOfMatrix.mono _ _ | exact impl_TopOfMatrix.mono _ _ | exact laws_pSame.mono _ _ _ | exact laws_pSameMatrix.mono _ _ _ | exact laws_pSum.mono _ _ | exact spec_DrawMatrixOfAscent.mono _ _ | exact spec_MatrixOfAscent.mono _ _ | exact LeO.refl _ | exact LeO.none _ | refine LeO.ite ?_ ?_ | refine LeO.bind ?_ (fun _ => ?_)
    · intro y0 y1 y2 y3 y4 y5 y6 y7 y8
      unfold laws_FnAscentsAreMatrices.l0
      repeat' first | with_reducible first | exact ih0 _ _ _ _ | exact ih1 _ _ _ _ _ _ _ | exact ih2 _ _ _ _ _ _ _ _ _ | exact impl_AscentOfMatrix.mono _ _ | exact impl_AscentsOf.mono _ _ | exact impl_MatrixOfAscent.mono _ _ | exact impl_RowSums.mono _ _ | exact impl_SumOfMatrix.mono _ _ | exact impl_TopOfMatrix.mono _ _ | exact laws_pSame.mono _ _ _ | exact laws_pSameMatrix.mono _ _ _ | exact laws_pSum.mono _ _ | exact spec_DrawMatrixOfAscent.mono _ _ | exact spec_MatrixOfAscent.mono _ _ | exact LeO.refl _ | exact LeO.none _ | refine LeO.ite ?_ ?_ | refine LeO.bind ?_ (fun _ => ?_)
theorem laws_FnAscentsAreMatrices.mono : ∀ a0 a1 k, LeO (laws_FnAscentsAreMatrices.f k a0 a1) (laws_FnAscentsAreMatrices.f (k + 1) a0 a1) := by
  intro a0 a1 k
  obtain ⟨ih0, ih1, ih2⟩ := laws_FnAscentsAreMatrices.mono_l k
  unfold laws_FnAscentsAreMatrices.f
  repeat' first | with_reducible first | exact ih0 _ _ _ _ | exact ih1 _ _ _ _ _ _ _ | exact ih2 _ _ _ _ _ _ _ _ _ | exact impl_AscentOfMatrix.mono _ _ | exact impl_AscentsOf.mono _ _ | exact impl_MatrixOfAscent.mono _ _ | exact impl_RowSums.mono _ _ | exact impl_SumOfMatrix.mono _ _ | exact impl_TopOfMatrix.mono _ _ | exact laws_pSame.mono _ _ _ | exact laws_pSameMatrix.mono _ _ _ | exact laws_pSum.mono _ _ | exact spec_DrawMatrixOfAscent.mono _ _ | exact spec_MatrixOfAscent.mono _ _ | exact LeO.refl _ | exact LeO.none _ | refine LeO.ite ?_ ?_ | refine LeO.bind ?_ (fun _ => ?_)
set_option maxHeartbeats 8000000 in
set_option maxRecDepth 100000 in
theorem laws_FnAscentsAreMatrices.calls (k : Nat) (A0 : Option Addr) (c0 : Nat) (l0 : List Int) (A1 : Option Addr) (c1 : Nat) (l1 : List Int) (r : Bool) (w : World) (hr0 : Kd.C (Kd.int .u8) w A0 l0.length l0) (hc0 : l0.length ≤ c0) (hr1 : Kd.C (Kd.int .u8) w A1 l1.length l1) (hc1 : l1.length ≤ c1) (h : laws_FnAscentsAreMatrices.f k l0 l1 = some r) :
    Calls Try.prog 6 #[.slice A0 l0.length c0, .slice A1 l1.length c1] w fun e w' => e = .returned (.bool r) ∧ Below w.heap.size w w' := by
  have hu36 := Try.underlying36
  have HR0 := Aside0.mk hr0
  have HC0 := Aside0.mk hc0
  clear hr0 hc0
  have HR1 := Aside0.mk hr1
  have HC1 := Aside0.mk hc1
  clear hr1 hc1
  have HB := Aside0.mk (Below.refl w.heap.size w)
  have H : ((laws_big.f l0 l1).bind fun t366 => (if t366 = true then (some true) else ((spec_DrawMatrixOfAscent.f k l0).bind fun t367 => ((impl_MatrixOfAscent.f k t367).bind fun bt370 => ((spec_MatrixOfAscent.f k t367).bind fun bt375 => (if (bt370.2 != bt375.2) = true then (laws_FnAscentsAreMatrices.j0 k t367 bt375.2 true bt370.1) else ((laws_pSameMatrix.f k bt370.1 bt375.1).bind fun t380 => (laws_FnAscentsAreMatrices.j0 k t367 bt375.2 (!t380) bt370.1)))))))) = some r := h
  clear h
  replace H := Option.bind_eq_some_iff.mp H
  obtain ⟨t366, A30, H⟩ := H
  replace H : (if t366 = true then (some true) else ((spec_DrawMatrixOfAscent.f k l0).bind fun t367 => ((impl_MatrixOfAscent.f k t367).bind fun bt370 => ((spec_MatrixOfAscent.f k t367).bind fun bt375 => (if (bt370.2 != bt375.2) = true then (laws_FnAscentsAreMatrices.j0 k t367 bt375.2 true bt370.1) else ((laws_pSameMatrix.f k bt370.1 bt375.1).bind fun t380 => (laws_FnAscentsAreMatrices.j0 k t367 bt375.2 (!t380) bt370.1))))))) = some r := H
  have A3 := Aside0.mk A30
  clear A30
  by_cases c4 : t366 = true
  · subst c4
    have H1 : (some true) = some r := by rw [if_pos rfl] at H; exact H
    clear H
    have H := H1
    clear H1
    obtain rfl := Option.some.inj H
    go_enter Try.func6, Try.ntmps6
    go_wp2_with (first | ((with_reducible refine gate_callee (f := 11) rfl ?_); refine goesL_ (some 26) rfl rfl Try.func11 (by kernel_rfl) rfl #[.slice A0 l0.length c0, .slice A1 l1.length c1] rfl (by (try simp only [List.map_toArray, List.map_cons, List.map_nil]); first | done | rfl | (simp only [List.length_drop, List.length_take]; rfl)) ?_; (with_reducible refine (laws_big.calls _ _ l0 _ _ l1 true _ ?side1 ?side2 ?side3 ?side4 A3.out).mono ?_); (case side1 => repeat (first | exact HR0.out | (with_reducible refine Kd.C_alloc ?_ _) | (with_reducible refine Kd.C_drewN ?_ _) | (with_reducible refine Kd.C_drew ?_))); (case side2 => exact HC0.out); (case side3 => repeat (first | exact HR1.out | (with_reducible refine Kd.C_alloc ?_ _) | (with_reducible refine Kd.C_drewN ?_ _) | (with_reducible refine Kd.C_drew ?_))); (case side4 => exact HC1.out); rintro e w' ⟨rfl, ⟨nd, rfl⟩⟩; refine ⟨_, rfl, ?_⟩))
    go_ret
    exact ⟨by first | rfl | (simp [errW_none, errW_some] <;> rfl) | (simp [*, errW_none, errW_some] <;> rfl), by repeat (first | (with_reducible first | exact HB.out | apply bA | apply bN | apply bD) | exact HB.out)⟩
  · replace c4 := Bool.eq_false_iff.mpr c4
    subst c4
    have H1 : ((spec_DrawMatrixOfAscent.f k l0).bind fun t367 => ((impl_MatrixOfAscent.f k t367).bind fun bt370 => ((spec_MatrixOfAscent.f k t367).bind fun bt375 => (if (bt370.2 != bt375.2) = true then (laws_FnAscentsAreMatrices.j0 k t367 bt375.2 true bt370.1) else ((laws_pSameMatrix.f k bt370.1 bt375.1).bind fun t380 => (laws_FnAscentsAreMatrices.j0 k t367 bt375.2 (!t380) bt370.1)))))) = some r := by rw [if_neg (show ¬ (false = true) by decide)] at H; exact H
    clear H
    have H := H1
    clear H1
    replace H := Option.bind_eq_some_iff.mp H
    obtain ⟨t367, A50, H⟩ := H
    replace H : ((impl_MatrixOfAscent.f k t367).bind fun bt370 => ((spec_MatrixOfAscent.f k t367).bind fun bt375 => (if (bt370.2 != bt375.2) = true then (laws_FnAscentsAreMatrices.j0 k t367 bt375.2 true bt370.1) else ((laws_pSameMatrix.f k bt370.1 bt375.1).bind fun t380 => (laws_FnAscentsAreMatrices.j0 k t367 bt375.2 (!t380) bt370.1))))) = some r := H
    have A5 := Aside0.mk A50
    clear A50
    replace H := Option.bind_eq_some_iff.mp H
    obtain ⟨⟨t370, t373⟩, A60, H⟩ := H
    replace H : ((spec_MatrixOfAscent.f k t367).bind fun bt375 => (if (t373 != bt375.2) = true then (laws_FnAscentsAreMatrices.j0 k t367 bt375.2 true t370) else ((laws_pSameMatrix.f k t370 bt375.1).bind fun t380 => (laws_FnAscentsAreMatrices.j0 k t367 bt375.2 (!t380) t370)))) = some r := H
    have A6 := Aside0.mk A60
    clear A60
    replace H := Option.bind_eq_some_iff.mp H
    obtain ⟨⟨t375, t378⟩, A70, H⟩ := H
    replace H : (if (t373 != t378) = true then (laws_FnAscentsAreMatrices.j0 k t367 t378 true t370) else ((laws_pSameMatrix.f k t370 t375).bind fun t380 => (laws_FnAscentsAreMatrices.j0 k t367 t378 (!t380) t370))) = some r := H
    have A7 := Aside0.mk A70
    clear A70
    have HC8 := Aside0.mk H
    clear H
    go_enter Try.func6, Try.ntmps6
    go_upto_region 6 with (first | ((with_reducible refine gate_callee (f := 11) rfl ?_); refine goesL_ (some 26) rfl rfl Try.func11 (by kernel_rfl) rfl #[.slice A0 l0.length c0, .slice A1 l1.length c1] rfl (by (try simp only [List.map_toArray, List.map_cons, List.map_nil]); first | done | rfl | (simp only [List.length_drop, List.length_take]; rfl)) ?_; (with_reducible refine (laws_big.calls _ _ l0 _ _ l1 false _ ?side1 ?side2 ?side3 ?side4 A3.out).mono ?_); (case side1 => repeat (first | exact HR0.out | (with_reducible refine Kd.C_alloc ?_ _) | (with_reducible refine Kd.C_drewN ?_ _) | (with_reducible refine Kd.C_drew ?_))); (case side2 => exact HC0.out); (case side3 => repeat (first | exact HR1.out | (with_reducible refine Kd.C_alloc ?_ _) | (with_reducible refine Kd.C_drewN ?_ _) | (with_reducible refine Kd.C_drew ?_))); (case side4 => exact HC1.out); rintro e w' ⟨rfl, ⟨nd, rfl⟩⟩; refine ⟨_, rfl, ?_⟩) | ((with_reducible refine gate_callee (f := 34) rfl ?_); refine goesL_ (some 28) rfl rfl Try.func34 (by kernel_rfl) rfl #[.slice A0 l0.length c0] rfl (by (try simp only [List.map_toArray, List.map_cons, List.map_nil]); first | done | rfl | (simp only [List.length_drop, List.length_take]; rfl)) ?_; (with_reducible refine (spec_DrawMatrixOfAscent.calls k _ _ l0 t367 _ ?side1 ?side2 A5.out).mono ?_); (case side1 => repeat (first | exact HR0.out | (with_reducible refine Kd.C_alloc ?_ _) | (with_reducible refine Kd.C_drewN ?_ _) | (with_reducible refine Kd.C_drew ?_))); (case side2 => exact HC0.out); rintro e w9 ⟨v368, rfl, ho0, hb⟩; refine ⟨_, rfl, ?_⟩; have n0_ := Aside0.mk (Kd.R_lower ho0 (below_size (by repeat (first | (with_reducible first | exact HB.out | apply bA | apply bN | apply bD) | exact HB.out)))); have n1_ := Aside0.mk (below_step (by repeat (first | (with_reducible first | exact HB.out | apply bA | apply bN | apply bD) | exact HB.out)) hb); clear HB; have HO369 := n0_; have HB := n1_; clear n0_ n1_; (try clear hb); (try clear hb2); (try clear hk); (try clear hi); (try clear ho0); obtain ⟨Ao10, co10, eo10⟩ := Kd.R_slice HO369.out; subst eo10) | ((with_reducible refine gate_callee (f := 32) rfl ?_); refine goesL_ (some 31) rfl rfl Try.func32 (by kernel_rfl) rfl #[.slice Ao10 t367.length co10] rfl (by (try simp only [List.map_toArray, List.map_cons, List.map_nil]); first | done | rfl | (simp only [List.length_drop, List.length_take]; rfl)) ?_; (with_reducible refine (impl_MatrixOfAscent.calls k _ _ t367 t370 t373 _ ?side1 ?side2 A6.out).mono ?_); (case side1 => repeat (first | exact (Kd.R_reads' HO369.out).2.2 | (with_reducible refine Kd.C_alloc ?_ _) | (with_reducible refine Kd.C_drewN ?_ _) | (with_reducible refine Kd.C_drew ?_))); (case side2 => exact (Kd.R_reads' HO369.out).2.1); rintro e w11 ⟨v371, rfl, ho0, hb⟩; refine ⟨_, rfl, ?_⟩; have n0_ := Aside0.mk (Kd.R_below (by (with_reducible repeat (first | apply Kd.R_alloc | apply Kd.R_drewN | apply Kd.R_drew)); exact HO369.out) hb); have n1_ := Aside0.mk (Kd.S_lower (Kd.S_new' ho0 (Kd.R_lt (by (with_reducible repeat (first | apply Kd.R_alloc | apply Kd.R_drewN | apply Kd.R_drew)); exact HO369.out))) (below_size (by repeat (first | (with_reducible first | exact HB.out | apply bA | apply bN | apply bD) | exact HB.out)))); have n2_ := Aside0.mk (below_step (by repeat (first | (with_reducible first | exact HB.out | apply bA | apply bN | apply bD) | exact HB.out)) hb); clear HO369; clear HB; have HO369 := n0_; have HO372 := n1_; have HB := n2_; clear n0_ n1_ n2_; (try clear hb); (try clear hb2); (try clear hk); (try clear hi); (try clear ho0)) | ((with_reducible refine gate_dst (N := 6) rfl ?_); (try (refine gate_guard (by rfl) ?_; dsimp only)); refine box_event ?hg (N := 6) ?hd (cs := #[.slice none 0 0]) (t := 36) ?hr ?_; (case hd => rfl); (case hg => rfl); (case hr => first | (go_simp; done) | (go_simp; rfl)); intro gb374 hg w12 hbox hb; have n0_ := Aside0.mk (Kd.R_below (by (with_reducible repeat (first | apply Kd.R_alloc | apply Kd.R_drewN | apply Kd.R_drew)); exact HO369.out) hb); have n1_ := Aside0.mk (Kd.S_below (by (with_reducible repeat (first | apply Kd.S_alloc | apply Kd.S_drewN | apply Kd.S_drew)); exact HO372.out) hb); have n2_ := Aside0.mk (below_step (by repeat (first | (with_reducible first | exact HB.out | apply bA | apply bN | apply bD) | exact HB.out)) hb); have n3_ := Aside0.mk (hbox); have n4_ := Aside0.mk ((by rw [hg]; exact (below_size (by repeat (first | (with_reducible first | exact HB.out | apply bA | apply bN | apply bD) | exact HB.out))) : w.heap.size ≤ gb374)); have n5_ := Aside0.mk ((by rw [hg]; exact (below_size (by repeat (first | (with_reducible first | exact HB.out | apply bA | apply bN | apply bD) | exact HB.out))) : w.heap.size ≤ gb374)); clear HO369; clear HO372; clear HB; have HO369 := n0_; have HO372 := n1_; have HB := n2_; have BK374 := n3_; have GW374 := n4_; have GE374 := n5_; clear n0_ n1_ n2_ n3_ n4_ n5_; clear hb hbox hg; obtain ⟨Ao13, co13, eo13⟩ := Kd.S_slice HO372.out; subst eo13; have hcz14_0 : w12.cell? ⟨gb374, 0, none⟩ = some (.slice none 0 0) := (blk_cell BK374.out 0).trans rfl; have hfz14_0 := blk_frozen BK374.out 0) | ((with_reducible refine gate_callee (f := 35) rfl ?_); refine goesL_ (some 36) rfl rfl Try.func35 (by kernel_rfl) rfl #[.slice Ao10 t367.length co10] rfl (by (try simp only [List.map_toArray, List.map_cons, List.map_nil]); first | done | rfl | (simp only [List.length_drop, List.length_take]; rfl)) ?_; (with_reducible refine (spec_MatrixOfAscent.calls k _ _ t367 t375 t378 _ ?side1 ?side2 A7.out).mono ?_); (case side1 => refine (Kd.R_reads' (e := 3) (base := w.heap.size) (ok := fun k_ => True) (n := t367.length) (c := co10) ?_).2.2; exact (by (with_reducible repeat (first | apply Kd.R_alloc | apply Kd.R_drewN | apply Kd.R_drew)); exact (Kd.R_mono (Kd.R_far (p := ⟨gb374, 0, none⟩) (Kd.R_types HO369.out BK374.out (by decide)) (fun _ hk => hk.2) (.slice Ao13 t370.length co13)) (fun _ h_ => h_.1)))); (case side2 => exact (Kd.R_reads' HO369.out).2.1); rintro e w15 ⟨v376, rfl, ho0, hb⟩; refine ⟨_, rfl, ?_⟩; have n0_ := Aside0.mk (Kd.R_below (by (with_reducible repeat (first | apply Kd.R_alloc | apply Kd.R_drewN | apply Kd.R_drew)); exact (Kd.R_mono (Kd.R_far (p := ⟨gb374, 0, none⟩) (Kd.R_types HO369.out BK374.out (by decide)) (fun _ hk => hk.2) (.slice Ao13 t370.length co13)) (fun _ h_ => h_.1))) hb); have n1_ := Aside0.mk (Kd.S_elder' (by (with_reducible repeat (first | apply Kd.S_alloc | apply Kd.S_drewN | apply Kd.S_drew)); exact (Kd.S_mono (Kd.S_far (p := ⟨gb374, 0, none⟩) (Kd.S_types HO372.out BK374.out (by decide)) (fun _ hk => hk.2) (.slice Ao13 t370.length co13)) (fun _ h_ => h_.1))) (Kd.S_base ho0) hb); have n2_ := Aside0.mk (Kd.S_lower (Kd.S_new' (Kd.S_new' ho0 (Kd.R_lt (by (with_reducible repeat (first | apply Kd.R_alloc | apply Kd.R_drewN | apply Kd.R_drew)); exact (Kd.R_mono (Kd.R_far (p := ⟨gb374, 0, none⟩) (Kd.R_types HO369.out BK374.out (by decide)) (fun _ hk => hk.2) (.slice Ao13 t370.length co13)) (fun _ h_ => h_.1))))) (Kd.S_lt (by (with_reducible repeat (first | apply Kd.S_alloc | apply Kd.S_drewN | apply Kd.S_drew)); exact (Kd.S_mono (Kd.S_far (p := ⟨gb374, 0, none⟩) (Kd.S_types HO372.out BK374.out (by decide)) (fun _ hk => hk.2) (.slice Ao13 t370.length co13)) (fun _ h_ => h_.1))))) (below_size (by repeat (first | (with_reducible first | exact HB.out | apply bA | apply bN | apply bD | refine below_set ?_ GE374.out) | exact HB.out)))); have n3_ := Aside0.mk (blk_below (g := gb374) (o := .cells #[.slice Ao13 t370.length co13] 36 (0, 0)) (by (with_reducible repeat (first | apply qN | apply qD | apply qA)); refine blk_put (cs := #[.slice none 0 0]) ?_ 0 _ rfl; (with_reducible repeat (first | apply qN | apply qD | apply qA)); exact BK374.out) hb); have n4_ := Aside0.mk (below_step (by repeat (first | (with_reducible first | exact HB.out | apply bA | apply bN | apply bD | refine below_set ?_ GE374.out) | exact HB.out)) hb); clear HO369; clear HO372; clear BK374; clear HB; have HO369 := n0_; have HO372 := n1_; have HO377 := n2_; have BK374 := n3_; have HB := n4_; clear n0_ n1_ n2_ n3_ n4_; (try clear hb); (try clear hb2); (try clear hk); (try clear hi); (try clear ho0)) | ((with_reducible refine gate_dst (N := 8) rfl ?_); (try (refine gate_guard (by rfl) ?_; dsimp only)); refine box_event ?hg (N := 8) ?hd (cs := #[.slice none 0 0]) (t := 36) ?hr ?_; (case hd => rfl); (case hg => rfl); (case hr => first | (go_simp; done) | (go_simp; rfl)); intro gb379 hg w16 hbox hb; have n0_ := Aside0.mk (Kd.R_below (by (with_reducible repeat (first | apply Kd.R_alloc | apply Kd.R_drewN | apply Kd.R_drew)); exact HO369.out) hb); have n1_ := Aside0.mk (Kd.S_below (by (with_reducible repeat (first | apply Kd.S_alloc | apply Kd.S_drewN | apply Kd.S_drew)); exact HO372.out) hb); have n2_ := Aside0.mk (Kd.S_below (by (with_reducible repeat (first | apply Kd.S_alloc | apply Kd.S_drewN | apply Kd.S_drew)); exact HO377.out) hb); have n3_ := Aside0.mk (blk_below (g := gb374) (o := .cells #[.slice Ao13 t370.length co13] 36 (0, 0)) (by (with_reducible repeat (first | apply qN | apply qD | apply qA)); exact BK374.out) hb); have n4_ := Aside0.mk (below_step (by repeat (first | (with_reducible first | exact HB.out | apply bA | apply bN | apply bD | refine below_set ?_ GE374.out) | exact HB.out)) hb); have n5_ := Aside0.mk (hbox); have n6_ := Aside0.mk ((by rw [hg]; exact (below_size (by repeat (first | (with_reducible first | exact HB.out | apply bA | apply bN | apply bD | refine below_set ?_ GE374.out) | exact HB.out))) : w.heap.size ≤ gb379)); have n7_ := Aside0.mk ((by rw [hg]; exact (below_size (by repeat (first | (with_reducible first | exact HB.out | apply bA | apply bN | apply bD | refine below_set ?_ GE374.out) | exact HB.out))) : w.heap.size ≤ gb379)); have n8_ := Aside0.mk ((by rw [hg]; exact Nat.ne_of_lt (blk_lt (g := gb374) (o := .cells #[.slice Ao13 t370.length co13] 36 (0, 0)) (by (with_reducible repeat (first | apply qN | apply qD | apply qA)); exact BK374.out)) : gb374 ≠ gb379)); have n9_ := Aside0.mk ((by rw [hg]; exact Nat.ne_of_gt (blk_lt (g := gb374) (o := .cells #[.slice Ao13 t370.length co13] 36 (0, 0)) (by (with_reducible repeat (first | apply qN | apply qD | apply qA)); exact BK374.out)) : gb379 ≠ gb374)); clear HO369; clear HO372; clear HO377; clear BK374; clear HB; have HO369 := n0_; have HO372 := n1_; have HO377 := n2_; have BK374 := n3_; have HB := n4_; have BK379 := n5_; have GW379 := n6_; have GE379 := n7_; have NB374_379 := n8_; have NB379_374 := n9_; clear n0_ n1_ n2_ n3_ n4_ n5_ n6_ n7_ n8_ n9_; clear hb hbox hg; obtain ⟨Ao17, co17, eo17⟩ := Kd.S_slice HO377.out; subst eo17; have hnb18 := NB379_374.out; have hnc18 := NB374_379.out; have hcz19_0 : w16.cell? ⟨gb379, 0, none⟩ = some (.slice none 0 0) := (blk_cell BK379.out 0).trans rfl; have hfz19_0 := blk_frozen BK379.out 0))
    (try simp only [Act.put, List.setIfInBounds_toArray, List.set_cons_zero, List.set_cons_succ])
    go_cut [47] (fun v47 wc => ∃ (kq : Nat) (x47_7 : Bool), v47 = .bool x47_7 ∧ Aside0 (laws_FnAscentsAreMatrices.j0 kq t367 t378 x47_7 t370 = some r) ∧ Aside0 (kq ≤ k) ∧ Aside0 (Kd.R (Kd.int .i64) 3 wc w.heap.size (fun _ => True) (.slice Ao10 t367.length co10) t367) ∧ Aside0 (Kd.S (Kd.slice 3 (Kd.int .i64)) 24 wc w.heap.size (fun k_ => some k_ ≠ ((.slice Ao10 t367.length co10) : Value).ownBlock ∧ some k_ ≠ ((.slice Ao17 t375.length co17) : Value).ownBlock) (.slice Ao13 t370.length co13) t370) ∧ Aside0 (Kd.S (Kd.slice 3 (Kd.int .i64)) 24 wc w.heap.size (fun k_ => some k_ ≠ ((.slice Ao10 t367.length co10) : Value).ownBlock ∧ some k_ ≠ ((.slice Ao13 t370.length co13) : Value).ownBlock) (.slice Ao17 t375.length co17) t375) ∧ Aside0 (wc.heap[gb374]? = some (.cells #[(.slice Ao13 t370.length co13)] 36 (0, 0))) ∧ Aside0 (wc.heap[gb379]? = some (.cells #[(.slice Ao17 t375.length co17)] 36 (0, 0))) ∧ Aside0 (Below w.heap.size w wc))
    case first =>
      have H := HC8.out
      clear HC8
      by_cases c20 : (t373 != t378) = true
      · rw [if_pos c20] at H
        have c20b0 : (t373 != t378) = true := c20
        (try (have c20b1 : decide (t373 = t378) = false := by simpa using c20))
        (try (have c20b2 : (t373 == t378) = false := by simpa using c20))
        (try (have c20b3 : ¬ (t373 = t378) := by simpa using c20))
        clear c20
        (first | rw [c20b0] | (simp only [i64_w, i32_w]; rw [c20b0]) | skip)
        have H' := Aside0.mk H
        clear H
        go_wp2
        go_meet
        case rel => exact ⟨_, (true), (by first | rfl | (simp; done) | (simp [*]; done)), H', ⟨by first | omega | exact Nat.le_refl _⟩, ⟨by (with_reducible repeat (first | apply Kd.R_alloc | apply Kd.R_drewN | apply Kd.R_drew)); exact Kd.R_mono (Kd.R_far (p := ⟨gb379, 0, none⟩) (Kd.R_types HO369.out BK379.out (by decide)) (fun _ hk => hk.2) (.slice Ao17 t375.length co17)) (fun _ hk => trivial)⟩, ⟨by (with_reducible repeat (first | apply Kd.S_alloc | apply Kd.S_drewN | apply Kd.S_drew)); exact Kd.S_mono (Kd.S_far (p := ⟨gb379, 0, none⟩) (Kd.S_types HO372.out BK379.out (by decide)) (fun _ hk => hk.2) (.slice Ao17 t375.length co17)) (fun _ hk => ⟨hk.1.1.2, hk.1.2⟩)⟩, ⟨by (with_reducible repeat (first | apply Kd.S_alloc | apply Kd.S_drewN | apply Kd.S_drew)); exact Kd.S_mono (Kd.S_far (p := ⟨gb379, 0, none⟩) (Kd.S_types HO377.out BK379.out (by decide)) (fun _ hk => hk.2) (.slice Ao17 t375.length co17)) (fun _ hk => ⟨hk.1.1.2, hk.1.2⟩)⟩, ⟨by (with_reducible repeat (first | apply qN | apply qD | apply qA)); refine blk_far ?_ NB374_379.out _; (with_reducible repeat (first | apply qN | apply qD | apply qA)); exact BK374.out⟩, ⟨by (with_reducible repeat (first | apply qN | apply qD | apply qA)); refine blk_put (cs := #[.slice none 0 0]) ?_ 0 _ rfl; (with_reducible repeat (first | apply qN | apply qD | apply qA)); exact BK379.out⟩, ⟨by repeat (first | (with_reducible first | exact HB.out | apply bA | apply bN | apply bD | refine below_set ?_ GE374.out | refine below_set ?_ GE379.out) | exact HB.out)⟩⟩
      · rw [if_neg c20] at H
        have c20b0 : (t373 != t378) = false := by simpa using c20
        (try (have c20b1 : decide (t373 = t378) = true := by simpa using c20))
        (try (have c20b2 : (t373 == t378) = true := by simpa using c20))
        clear c20
        (first | rw [c20b0] | (simp only [i64_w, i32_w]; rw [c20b0]) | skip)
        replace H := Option.bind_eq_some_iff.mp H
        obtain ⟨t380, A210, H⟩ := H
        replace H : (laws_FnAscentsAreMatrices.j0 k t367 t378 (!t380) t370) = some r := H
        have A21 := Aside0.mk A210
        clear A210
        have H' := Aside0.mk H
        clear H
        have hnb22 := NB374_379.out
        have hnc22 := NB379_374.out
        have hcz23_0 : w16.cell? ⟨gb374, 0, none⟩ = some (.slice Ao13 t370.length co13) := (blk_cell BK374.out 0).trans rfl
        have hfz23_0 := blk_frozen BK374.out 0
        have hcz24_0 : w16.cell? ⟨gb379, 0, none⟩ = some (.slice none 0 0) := (blk_cell BK379.out 0).trans rfl
        have hfz24_0 := blk_frozen BK379.out 0
        go_wp2_with (first | (go_at_call 26; (with_reducible refine (laws_pSameMatrix.calls k _ _ t370 _ _ t375 t380 _ ?side1 ?side2 ?side3 ?side4 A21.out).mono ?_); (case side1 => refine (Kd.S_reads' (e := 24) (base := w.heap.size) (ok := fun k_ => ((True ∧ some k_ ≠ (.slice Ao10 t367.length co10 : Value).ownBlock) ∧ some k_ ≠ (.slice Ao17 t375.length co17 : Value).ownBlock)) (n := t370.length) (c := co13) ?_).2.2; exact (by (with_reducible repeat (first | apply Kd.S_alloc | apply Kd.S_drewN | apply Kd.S_drew)); exact (Kd.S_mono (Kd.S_far (p := ⟨gb379, 0, none⟩) (Kd.S_types HO372.out BK379.out (by decide)) (fun _ hk => hk.2) (.slice Ao17 t375.length co17)) (fun _ h_ => h_.1)))); (case side2 => exact (Kd.S_reads' HO372.out).2.1); (case side3 => refine (Kd.S_reads' (e := 24) (base := w.heap.size) (ok := fun k_ => ((True ∧ some k_ ≠ (.slice Ao10 t367.length co10 : Value).ownBlock) ∧ some k_ ≠ (.slice Ao13 t370.length co13 : Value).ownBlock)) (n := t375.length) (c := co17) ?_).2.2; exact (by (with_reducible repeat (first | apply Kd.S_alloc | apply Kd.S_drewN | apply Kd.S_drew)); exact (Kd.S_mono (Kd.S_far (p := ⟨gb379, 0, none⟩) (Kd.S_types HO377.out BK379.out (by decide)) (fun _ hk => hk.2) (.slice Ao17 t375.length co17)) (fun _ h_ => h_.1)))); (case side4 => exact (Kd.S_reads' HO377.out).2.1); rintro e w25 ⟨rfl, hb⟩; have n0_ := Aside0.mk (Kd.R_below (by (with_reducible repeat (first | apply Kd.R_alloc | apply Kd.R_drewN | apply Kd.R_drew)); exact (Kd.R_mono (Kd.R_far (p := ⟨gb379, 0, none⟩) (Kd.R_types HO369.out BK379.out (by decide)) (fun _ hk => hk.2) (.slice Ao17 t375.length co17)) (fun _ h_ => h_.1))) hb); have n1_ := Aside0.mk (Kd.S_below (by (with_reducible repeat (first | apply Kd.S_alloc | apply Kd.S_drewN | apply Kd.S_drew)); exact (Kd.S_mono (Kd.S_far (p := ⟨gb379, 0, none⟩) (Kd.S_types HO372.out BK379.out (by decide)) (fun _ hk => hk.2) (.slice Ao17 t375.length co17)) (fun _ h_ => h_.1))) hb); have n2_ := Aside0.mk (Kd.S_below (by (with_reducible repeat (first | apply Kd.S_alloc | apply Kd.S_drewN | apply Kd.S_drew)); exact (Kd.S_mono (Kd.S_far (p := ⟨gb379, 0, none⟩) (Kd.S_types HO377.out BK379.out (by decide)) (fun _ hk => hk.2) (.slice Ao17 t375.length co17)) (fun _ h_ => h_.1))) hb); have n3_ := Aside0.mk (blk_below (g := gb374) (o := .cells #[.slice Ao13 t370.length co13] 36 (0, 0)) (by (with_reducible repeat (first | apply qN | apply qD | apply qA)); refine blk_far ?_ NB374_379.out _; (with_reducible repeat (first | apply qN | apply qD | apply qA)); exact BK374.out) hb); have n4_ := Aside0.mk (blk_below (g := gb379) (o := .cells #[.slice Ao17 t375.length co17] 36 (0, 0)) (by (with_reducible repeat (first | apply qN | apply qD | apply qA)); refine blk_put (cs := #[.slice none 0 0]) ?_ 0 _ rfl; (with_reducible repeat (first | apply qN | apply qD | apply qA)); exact BK379.out) hb); have n5_ := Aside0.mk (below_step (by repeat (first | (with_reducible first | exact HB.out | apply bA | apply bN | apply bD | refine below_set ?_ GE374.out | refine below_set ?_ GE379.out) | exact HB.out)) hb); clear HO369; clear HO372; clear HO377; clear BK374; clear BK379; clear HB; have HO369 := n0_; have HO372 := n1_; have HO377 := n2_; have BK374 := n3_; have BK379 := n4_; have HB := n5_; clear n0_ n1_ n2_ n3_ n4_ n5_; (try clear hb); (try clear hb2); (try clear hk); (try clear hi)))
        go_meet
        case rel => exact ⟨_, (!t380), (by first | rfl | (simp; done) | (simp [*]; done)), H', ⟨by first | omega | exact Nat.le_refl _⟩, ⟨by (with_reducible repeat (first | apply Kd.R_alloc | apply Kd.R_drewN | apply Kd.R_drew)); exact HO369.out⟩, ⟨by (with_reducible repeat (first | apply Kd.S_alloc | apply Kd.S_drewN | apply Kd.S_drew)); exact Kd.S_mono HO372.out (fun _ hk => ⟨hk.1.2, hk.2⟩)⟩, ⟨by (with_reducible repeat (first | apply Kd.S_alloc | apply Kd.S_drewN | apply Kd.S_drew)); exact Kd.S_mono HO377.out (fun _ hk => ⟨hk.1.2, hk.2⟩)⟩, ⟨by (with_reducible repeat (first | apply qN | apply qD | apply qA)); exact BK374.out⟩, ⟨by (with_reducible repeat (first | apply qN | apply qD | apply qA)); exact BK379.out⟩, ⟨by repeat (first | (with_reducible first | exact HB.out | apply bA | apply bN | apply bD | refine below_set ?_ GE374.out | refine below_set ?_ GE379.out) | exact HB.out)⟩⟩
    case rest =>
      clear HC8
      try clear c1
      try clear c2
      try clear p2
      try clear c3
      try clear c4
      try clear c6
      try clear c11
      try clear c18
      try clear c20
      try clear c20b0
      try clear c20b1
      try clear c20b2
      try clear c22
      try clear hcz14_0
      try clear hcz19_0
      try clear hcz23_0
      try clear hcz24_0
      try clear hfz14_0
      try clear hfz19_0
      try clear hfz23_0
      try clear hfz24_0
      obtain ⟨kq, x47_7, rfl, HA, HJ7, HO_5, HO_375000, HO_380000, BK374, BK379, HB⟩ := hcut
      cases kq with
      | zero => exact absurd HA.out (by simp [laws_FnAscentsAreMatrices.j0])
      | succ kj7 =>
        have H := HA.out
        clear HA
        simp only [laws_FnAscentsAreMatrices.j0] at H
        by_cases c26 : x47_7 = true
        · subst c26
          have H1 : (some false) = some r := by rw [if_pos rfl] at H; exact H
          clear H
          have H := H1
          clear H1
          obtain rfl := Option.some.inj H
          go_wp2
          go_ret
          exact ⟨by first | rfl | (simp [errW_none, errW_some] <;> rfl) | (simp [*, errW_none, errW_some] <;> rfl), by repeat (first | (with_reducible first | exact HB.out | apply bA | apply bN | apply bD | refine below_set ?_ GE374.out | refine below_set ?_ GE379.out) | exact HB.out)⟩
        · replace c26 := Bool.eq_false_iff.mpr c26
          subst c26
          have H1 : (if t378 = true then ((impl_AscentOfMatrix.f kj7 t370).bind fun bt381 => ((impl_SumOfMatrix.f kj7 t370).bind fun bt385 => ((impl_RowSums.f kj7 t370).bind fun bt387 => ((impl_AscentsOf.f kj7 t367).bind fun bt394 => ((impl_TopOfMatrix.f kj7 t370).bind fun bt396 => (if bt381.2 = true then (if bt385.2 = true then (if bt387.2.2 = true then (if bt394.2 = true then ((laws_pSame.f kj7 bt381.1 t367).bind fun t398 => (if t398 = true then (if bt385.1 = (t367.length : Int) then ((laws_pSum.f kj7 bt387.1).bind fun t399 => (if t399 = bt385.1 then ((laws_pSum.f kj7 bt387.2.1).bind fun t400 => (if t400 = bt385.1 then (laws_FnAscentsAreMatrices.j1 kj7 t367 bt387.1 bt394.1 bt396.1 bt396.2 (bt396.2 != (decide ((t367.length : Int) > 0))) t370) else (laws_FnAscentsAreMatrices.j1 kj7 t367 bt387.1 bt394.1 bt396.1 bt396.2 true t370))) else (laws_FnAscentsAreMatrices.j1 kj7 t367 bt387.1 bt394.1 bt396.1 bt396.2 true t370))) else (laws_FnAscentsAreMatrices.j1 kj7 t367 bt387.1 bt394.1 bt396.1 bt396.2 true t370)) else (laws_FnAscentsAreMatrices.j1 kj7 t367 bt387.1 bt394.1 bt396.1 bt396.2 true t370))) else (laws_FnAscentsAreMatrices.j1 kj7 t367 bt387.1 bt394.1 bt396.1 bt396.2 true t370)) else (laws_FnAscentsAreMatrices.j1 kj7 t367 bt387.1 bt394.1 bt396.1 bt396.2 true t370)) else (laws_FnAscentsAreMatrices.j1 kj7 t367 bt387.1 bt394.1 bt396.1 bt396.2 true t370)) else (laws_FnAscentsAreMatrices.j1 kj7 t367 bt387.1 bt394.1 bt396.1 bt396.2 true t370))))))) else (some true)) = some r := by rw [if_neg (show ¬ (false = true) by decide)] at H; exact H
          clear H
          have H := H1
          clear H1
          by_cases c27 : t378 = true
          · subst c27
            have H1 : ((impl_AscentOfMatrix.f kj7 t370).bind fun bt381 => ((impl_SumOfMatrix.f kj7 t370).bind fun bt385 => ((impl_RowSums.f kj7 t370).bind fun bt387 => ((impl_AscentsOf.f kj7 t367).bind fun bt394 => ((impl_TopOfMatrix.f kj7 t370).bind fun bt396 => (if bt381.2 = true then (if bt385.2 = true then (if bt387.2.2 = true then (if bt394.2 = true then ((laws_pSame.f kj7 bt381.1 t367).bind fun t398 => (if t398 = true then (if bt385.1 = (t367.length : Int) then ((laws_pSum.f kj7 bt387.1).bind fun t399 => (if t399 = bt385.1 then ((laws_pSum.f kj7 bt387.2.1).bind fun t400 => (if t400 = bt385.1 then (laws_FnAscentsAreMatrices.j1 kj7 t367 bt387.1 bt394.1 bt396.1 bt396.2 (bt396.2 != (decide ((t367.length : Int) > 0))) t370) else (laws_FnAscentsAreMatrices.j1 kj7 t367 bt387.1 bt394.1 bt396.1 bt396.2 true t370))) else (laws_FnAscentsAreMatrices.j1 kj7 t367 bt387.1 bt394.1 bt396.1 bt396.2 true t370))) else (laws_FnAscentsAreMatrices.j1 kj7 t367 bt387.1 bt394.1 bt396.1 bt396.2 true t370)) else (laws_FnAscentsAreMatrices.j1 kj7 t367 bt387.1 bt394.1 bt396.1 bt396.2 true t370))) else (laws_FnAscentsAreMatrices.j1 kj7 t367 bt387.1 bt394.1 bt396.1 bt396.2 true t370)) else (laws_FnAscentsAreMatrices.j1 kj7 t367 bt387.1 bt394.1 bt396.1 bt396.2 true t370)) else (laws_FnAscentsAreMatrices.j1 kj7 t367 bt387.1 bt394.1 bt396.1 bt396.2 true t370)) else (laws_FnAscentsAreMatrices.j1 kj7 t367 bt387.1 bt394.1 bt396.1 bt396.2 true t370))))))) = some r := by rw [if_pos rfl] at H; exact H
            clear H
            have H := H1
            clear H1
            replace H := Option.bind_eq_some_iff.mp H
            obtain ⟨⟨t381, t384⟩, A280, H⟩ := H
            replace H : ((impl_SumOfMatrix.f kj7 t370).bind fun bt385 => ((impl_RowSums.f kj7 t370).bind fun bt387 => ((impl_AscentsOf.f kj7 t367).bind fun bt394 => ((impl_TopOfMatrix.f kj7 t370).bind fun bt396 => (if t384 = true then (if bt385.2 = true then (if bt387.2.2 = true then (if bt394.2 = true then ((laws_pSame.f kj7 t381 t367).bind fun t398 => (if t398 = true then (if bt385.1 = (t367.length : Int) then ((laws_pSum.f kj7 bt387.1).bind fun t399 => (if t399 = bt385.1 then ((laws_pSum.f kj7 bt387.2.1).bind fun t400 => (if t400 = bt385.1 then (laws_FnAscentsAreMatrices.j1 kj7 t367 bt387.1 bt394.1 bt396.1 bt396.2 (bt396.2 != (decide ((t367.length : Int) > 0))) t370) else (laws_FnAscentsAreMatrices.j1 kj7 t367 bt387.1 bt394.1 bt396.1 bt396.2 true t370))) else (laws_FnAscentsAreMatrices.j1 kj7 t367 bt387.1 bt394.1 bt396.1 bt396.2 true t370))) else (laws_FnAscentsAreMatrices.j1 kj7 t367 bt387.1 bt394.1 bt396.1 bt396.2 true t370)) else (laws_FnAscentsAreMatrices.j1 kj7 t367 bt387.1 bt394.1 bt396.1 bt396.2 true t370))) else (laws_FnAscentsAreMatrices.j1 kj7 t367 bt387.1 bt394.1 bt396.1 bt396.2 true t370)) else (laws_FnAscentsAreMatrices.j1 kj7 t367 bt387.1 bt394.1 bt396.1 bt396.2 true t370)) else (laws_FnAscentsAreMatrices.j1 kj7 t367 bt387.1 bt394.1 bt396.1 bt396.2 true t370)) else (laws_FnAscentsAreMatrices.j1 kj7 t367 bt387.1 bt394.1 bt396.1 bt396.2 true t370)))))) = some r := H
            have A28 := Aside0.mk A280
            clear A280
            replace H := Option.bind_eq_some_iff.mp H
            obtain ⟨⟨t385, t386⟩, A290, H⟩ := H
            replace H : ((impl_RowSums.f kj7 t370).bind fun bt387 => ((impl_AscentsOf.f kj7 t367).bind fun bt394 => ((impl_TopOfMatrix.f kj7 t370).bind fun bt396 => (if t384 = true then (if t386 = true then (if bt387.2.2 = true then (if bt394.2 = true then ((laws_pSame.f kj7 t381 t367).bind fun t398 => (if t398 = true then (if t385 = (t367.length : Int) then ((laws_pSum.f kj7 bt387.1).bind fun t399 => (if t399 = t385 then ((laws_pSum.f kj7 bt387.2.1).bind fun t400 => (if t400 = t385 then (laws_FnAscentsAreMatrices.j1 kj7 t367 bt387.1 bt394.1 bt396.1 bt396.2 (bt396.2 != (decide ((t367.length : Int) > 0))) t370) else (laws_FnAscentsAreMatrices.j1 kj7 t367 bt387.1 bt394.1 bt396.1 bt396.2 true t370))) else (laws_FnAscentsAreMatrices.j1 kj7 t367 bt387.1 bt394.1 bt396.1 bt396.2 true t370))) else (laws_FnAscentsAreMatrices.j1 kj7 t367 bt387.1 bt394.1 bt396.1 bt396.2 true t370)) else (laws_FnAscentsAreMatrices.j1 kj7 t367 bt387.1 bt394.1 bt396.1 bt396.2 true t370))) else (laws_FnAscentsAreMatrices.j1 kj7 t367 bt387.1 bt394.1 bt396.1 bt396.2 true t370)) else (laws_FnAscentsAreMatrices.j1 kj7 t367 bt387.1 bt394.1 bt396.1 bt396.2 true t370)) else (laws_FnAscentsAreMatrices.j1 kj7 t367 bt387.1 bt394.1 bt396.1 bt396.2 true t370)) else (laws_FnAscentsAreMatrices.j1 kj7 t367 bt387.1 bt394.1 bt396.1 bt396.2 true t370))))) = some r := H
            have A29 := Aside0.mk A290
            clear A290
            replace H := Option.bind_eq_some_iff.mp H
            obtain ⟨⟨t387, t390, t393⟩, A300, H⟩ := H
            replace H : ((impl_AscentsOf.f kj7 t367).bind fun bt394 => ((impl_TopOfMatrix.f kj7 t370).bind fun bt396 => (if t384 = true then (if t386 = true then (if t393 = true then (if bt394.2 = true then ((laws_pSame.f kj7 t381 t367).bind fun t398 => (if t398 = true then (if t385 = (t367.length : Int) then ((laws_pSum.f kj7 t387).bind fun t399 => (if t399 = t385 then ((laws_pSum.f kj7 t390).bind fun t400 => (if t400 = t385 then (laws_FnAscentsAreMatrices.j1 kj7 t367 t387 bt394.1 bt396.1 bt396.2 (bt396.2 != (decide ((t367.length : Int) > 0))) t370) else (laws_FnAscentsAreMatrices.j1 kj7 t367 t387 bt394.1 bt396.1 bt396.2 true t370))) else (laws_FnAscentsAreMatrices.j1 kj7 t367 t387 bt394.1 bt396.1 bt396.2 true t370))) else (laws_FnAscentsAreMatrices.j1 kj7 t367 t387 bt394.1 bt396.1 bt396.2 true t370)) else (laws_FnAscentsAreMatrices.j1 kj7 t367 t387 bt394.1 bt396.1 bt396.2 true t370))) else (laws_FnAscentsAreMatrices.j1 kj7 t367 t387 bt394.1 bt396.1 bt396.2 true t370)) else (laws_FnAscentsAreMatrices.j1 kj7 t367 t387 bt394.1 bt396.1 bt396.2 true t370)) else (laws_FnAscentsAreMatrices.j1 kj7 t367 t387 bt394.1 bt396.1 bt396.2 true t370)) else (laws_FnAscentsAreMatrices.j1 kj7 t367 t387 bt394.1 bt396.1 bt396.2 true t370)))) = some r := H
            have A30 := Aside0.mk A300
            clear A300
            replace H := Option.bind_eq_some_iff.mp H
            obtain ⟨⟨t394, t395⟩, A310, H⟩ := H
            replace H : ((impl_TopOfMatrix.f kj7 t370).bind fun bt396 => (if t384 = true then (if t386 = true then (if t393 = true then (if t395 = true then ((laws_pSame.f kj7 t381 t367).bind fun t398 => (if t398 = true then (if t385 = (t367.length : Int) then ((laws_pSum.f kj7 t387).bind fun t399 => (if t399 = t385 then ((laws_pSum.f kj7 t390).bind fun t400 => (if t400 = t385 then (laws_FnAscentsAreMatrices.j1 kj7 t367 t387 t394 bt396.1 bt396.2 (bt396.2 != (decide ((t367.length : Int) > 0))) t370) else (laws_FnAscentsAreMatrices.j1 kj7 t367 t387 t394 bt396.1 bt396.2 true t370))) else (laws_FnAscentsAreMatrices.j1 kj7 t367 t387 t394 bt396.1 bt396.2 true t370))) else (laws_FnAscentsAreMatrices.j1 kj7 t367 t387 t394 bt396.1 bt396.2 true t370)) else (laws_FnAscentsAreMatrices.j1 kj7 t367 t387 t394 bt396.1 bt396.2 true t370))) else (laws_FnAscentsAreMatrices.j1 kj7 t367 t387 t394 bt396.1 bt396.2 true t370)) else (laws_FnAscentsAreMatrices.j1 kj7 t367 t387 t394 bt396.1 bt396.2 true t370)) else (laws_FnAscentsAreMatrices.j1 kj7 t367 t387 t394 bt396.1 bt396.2 true t370)) else (laws_FnAscentsAreMatrices.j1 kj7 t367 t387 t394 bt396.1 bt396.2 true t370))) = some r := H
            have A31 := Aside0.mk A310
            clear A310
            replace H := Option.bind_eq_some_iff.mp H
            obtain ⟨⟨t396, t397⟩, A320, H⟩ := H
            replace H : (if t384 = true then (if t386 = true then (if t393 = true then (if t395 = true then ((laws_pSame.f kj7 t381 t367).bind fun t398 => (if t398 = true then (if t385 = (t367.length : Int) then ((laws_pSum.f kj7 t387).bind fun t399 => (if t399 = t385 then ((laws_pSum.f kj7 t390).bind fun t400 => (if t400 = t385 then (laws_FnAscentsAreMatrices.j1 kj7 t367 t387 t394 t396 t397 (t397 != (decide ((t367.length : Int) > 0))) t370) else (laws_FnAscentsAreMatrices.j1 kj7 t367 t387 t394 t396 t397 true t370))) else (laws_FnAscentsAreMatrices.j1 kj7 t367 t387 t394 t396 t397 true t370))) else (laws_FnAscentsAreMatrices.j1 kj7 t367 t387 t394 t396 t397 true t370)) else (laws_FnAscentsAreMatrices.j1 kj7 t367 t387 t394 t396 t397 true t370))) else (laws_FnAscentsAreMatrices.j1 kj7 t367 t387 t394 t396 t397 true t370)) else (laws_FnAscentsAreMatrices.j1 kj7 t367 t387 t394 t396 t397 true t370)) else (laws_FnAscentsAreMatrices.j1 kj7 t367 t387 t394 t396 t397 true t370)) else (laws_FnAscentsAreMatrices.j1 kj7 t367 t387 t394 t396 t397 true t370)) = some r := H
            have A32 := Aside0.mk A320
            clear A320
            have HC33 := Aside0.mk H
            clear H
            have hnb34 := NB374_379.out
            have hnc34 := NB379_374.out
            have hcz35_0 : wc.cell? ⟨gb374, 0, none⟩ = some (.slice Ao13 t370.length co13) := (blk_cell BK374.out 0).trans rfl
            have hfz35_0 := blk_frozen BK374.out 0
            go_upto_region 15 with (first | ((with_reducible refine gate_callee (f := 36) rfl ?_); refine goesL_ (some 52) rfl rfl Try.func36 (by kernel_rfl) rfl #[.agg #[.slice Ao13 t370.length co13]] rfl (by (try simp only [List.map_toArray, List.map_cons, List.map_nil]); first | done | rfl | (simp only [List.length_drop, List.length_take]; rfl)) ?_; (with_reducible refine (impl_AscentOfMatrix.calls kj7 _ _ t370 t381 t384 _ ?side1 ?side2 A28.out).mono ?_); (case side1 => repeat (first | exact (Kd.S_reads' HO_375000.out).2.2 | (with_reducible refine Kd.C_alloc ?_ _) | (with_reducible refine Kd.C_drewN ?_ _) | (with_reducible refine Kd.C_drew ?_))); (case side2 => exact (Kd.S_reads' HO_375000.out).2.1); rintro e w36 ⟨v382, rfl, ho0, hb⟩; refine ⟨_, rfl, ?_⟩; have n0_ := Aside0.mk (Kd.R_elder' (by (with_reducible repeat (first | apply Kd.R_alloc | apply Kd.R_drewN | apply Kd.R_drew)); exact HO_5.out) (Kd.R_base ho0) hb); have n1_ := Aside0.mk (Kd.S_elder' (by (with_reducible repeat (first | apply Kd.S_alloc | apply Kd.S_drewN | apply Kd.S_drew)); exact HO_375000.out) (Kd.R_base ho0) hb); have n2_ := Aside0.mk (Kd.S_elder' (by (with_reducible repeat (first | apply Kd.S_alloc | apply Kd.S_drewN | apply Kd.S_drew)); exact HO_380000.out) (Kd.R_base ho0) hb); have n3_ := Aside0.mk (Kd.R_lower (Kd.R_new' ho0 (Kd.R_lt (by (with_reducible repeat (first | apply Kd.R_alloc | apply Kd.R_drewN | apply Kd.R_drew)); exact HO_5.out))) (below_size (by repeat (first | (with_reducible first | exact HB.out | apply bA | apply bN | apply bD | refine below_set ?_ GE374.out | refine below_set ?_ GE379.out) | exact HB.out)))); have n4_ := Aside0.mk (blk_below (g := gb374) (o := .cells #[.slice Ao13 t370.length co13] 36 (0, 0)) (by (with_reducible repeat (first | apply qN | apply qD | apply qA)); exact BK374.out) hb); have n5_ := Aside0.mk (blk_below (g := gb379) (o := .cells #[.slice Ao17 t375.length co17] 36 (0, 0)) (by (with_reducible repeat (first | apply qN | apply qD | apply qA)); exact BK379.out) hb); have n6_ := Aside0.mk (below_step (by repeat (first | (with_reducible first | exact HB.out | apply bA | apply bN | apply bD | refine below_set ?_ GE374.out | refine below_set ?_ GE379.out) | exact HB.out)) hb); clear HO_5; clear HO_375000; clear HO_380000; clear BK374; clear BK379; clear HB; have HO_5 := n0_; have HO_375000 := n1_; have HO_380000 := n2_; have HO383 := n3_; have BK374 := n4_; have BK379 := n5_; have HB := n6_; clear n0_ n1_ n2_ n3_ n4_ n5_ n6_; (try clear hb); (try clear hb2); (try clear hk); (try clear hi); (try clear ho0); have hcz37_0 : w36.cell? ⟨gb374, 0, none⟩ = some (.slice Ao13 t370.length co13) := (blk_cell BK374.out 0).trans rfl; have hfz37_0 := blk_frozen BK374.out 0) | ((with_reducible refine gate_callee (f := 37) rfl ?_); refine goesL_ (some 57) rfl rfl Try.func37 (by kernel_rfl) rfl #[.agg #[.slice Ao13 t370.length co13]] rfl (by (try simp only [List.map_toArray, List.map_cons, List.map_nil]); first | done | rfl | (simp only [List.length_drop, List.length_take]; rfl)) ?_; (with_reducible refine (impl_SumOfMatrix.calls kj7 _ _ t370 t385 t386 _ ?side1 ?side2 A29.out).mono ?_); (case side1 => repeat (first | exact (Kd.S_reads' HO_375000.out).2.2 | (with_reducible refine Kd.C_alloc ?_ _) | (with_reducible refine Kd.C_drewN ?_ _) | (with_reducible refine Kd.C_drew ?_))); (case side2 => exact (Kd.S_reads' HO_375000.out).2.1); rintro e w38 ⟨rfl, hb⟩; refine ⟨_, rfl, ?_⟩; have n0_ := Aside0.mk (Kd.R_below (by (with_reducible repeat (first | apply Kd.R_alloc | apply Kd.R_drewN | apply Kd.R_drew)); exact HO_5.out) hb); have n1_ := Aside0.mk (Kd.S_below (by (with_reducible repeat (first | apply Kd.S_alloc | apply Kd.S_drewN | apply Kd.S_drew)); exact HO_375000.out) hb); have n2_ := Aside0.mk (Kd.S_below (by (with_reducible repeat (first | apply Kd.S_alloc | apply Kd.S_drewN | apply Kd.S_drew)); exact HO_380000.out) hb); have n3_ := Aside0.mk (Kd.R_below (by (with_reducible repeat (first | apply Kd.R_alloc | apply Kd.R_drewN | apply Kd.R_drew)); exact HO383.out) hb); have n4_ := Aside0.mk (blk_below (g := gb374) (o := .cells #[.slice Ao13 t370.length co13] 36 (0, 0)) (by (with_reducible repeat (first | apply qN | apply qD | apply qA)); exact BK374.out) hb); have n5_ := Aside0.mk (blk_below (g := gb379) (o := .cells #[.slice Ao17 t375.length co17] 36 (0, 0)) (by (with_reducible repeat (first | apply qN | apply qD | apply qA)); exact BK379.out) hb); have n6_ := Aside0.mk (below_step (by repeat (first | (with_reducible first | exact HB.out | apply bA | apply bN | apply bD | refine below_set ?_ GE374.out | refine below_set ?_ GE379.out) | exact HB.out)) hb); clear HO_5; clear HO_375000; clear HO_380000; clear HO383; clear BK374; clear BK379; clear HB; have HO_5 := n0_; have HO_375000 := n1_; have HO_380000 := n2_; have HO383 := n3_; have BK374 := n4_; have BK379 := n5_; have HB := n6_; clear n0_ n1_ n2_ n3_ n4_ n5_ n6_; (try clear hb); (try clear hb2); (try clear hk); (try clear hi); have hcz39_0 : w38.cell? ⟨gb374, 0, none⟩ = some (.slice Ao13 t370.length co13) := (blk_cell BK374.out 0).trans rfl; have hfz39_0 := blk_frozen BK374.out 0) | ((with_reducible refine gate_callee (f := 38) rfl ?_); refine goesL_ (some 62) rfl rfl Try.func38 (by kernel_rfl) rfl #[.agg #[.slice Ao13 t370.length co13]] rfl (by (try simp only [List.map_toArray, List.map_cons, List.map_nil]); first | done | rfl | (simp only [List.length_drop, List.length_take]; rfl)) ?_; (with_reducible refine (impl_RowSums.calls kj7 _ _ t370 t387 t390 t393 _ ?side1 ?side2 A30.out).mono ?_); (case side1 => repeat (first | exact (Kd.S_reads' HO_375000.out).2.2 | (with_reducible refine Kd.C_alloc ?_ _) | (with_reducible refine Kd.C_drewN ?_ _) | (with_reducible refine Kd.C_drew ?_))); (case side2 => exact (Kd.S_reads' HO_375000.out).2.1); rintro e w40 ⟨v388, v391, rfl, ho0, ho1, hb⟩; refine ⟨_, rfl, ?_⟩; have n0_ := Aside0.mk (Kd.R_mono (Kd.R_told (Kd.R_told (Kd.R_old (by (with_reducible repeat (first | apply Kd.R_alloc | apply Kd.R_drewN | apply Kd.R_drew)); exact HO_5.out) hb) (Kd.R_base ho0)) (Kd.R_base ho1)) (fun _ h_ => h_.1)); have n1_ := Aside0.mk (Kd.S_mono (Kd.S_told (Kd.S_told (Kd.S_old (by (with_reducible repeat (first | apply Kd.S_alloc | apply Kd.S_drewN | apply Kd.S_drew)); exact HO_375000.out) hb) (Kd.R_base ho0)) (Kd.R_base ho1)) (fun _ h_ => h_.1)); have n2_ := Aside0.mk (Kd.S_mono (Kd.S_told (Kd.S_told (Kd.S_old (by (with_reducible repeat (first | apply Kd.S_alloc | apply Kd.S_drewN | apply Kd.S_drew)); exact HO_380000.out) hb) (Kd.R_base ho0)) (Kd.R_base ho1)) (fun _ h_ => h_.1)); have n3_ := Aside0.mk (Kd.R_mono (Kd.R_told (Kd.R_told (Kd.R_old (by (with_reducible repeat (first | apply Kd.R_alloc | apply Kd.R_drewN | apply Kd.R_drew)); exact HO383.out) hb) (Kd.R_base ho0)) (Kd.R_base ho1)) (fun _ h_ => h_.1)); have n4_ := Aside0.mk (Kd.R_lower (Kd.R_new' (Kd.R_new' ho0 (Kd.R_lt (by (with_reducible repeat (first | apply Kd.R_alloc | apply Kd.R_drewN | apply Kd.R_drew)); exact HO_5.out))) (Kd.R_lt (by (with_reducible repeat (first | apply Kd.R_alloc | apply Kd.R_drewN | apply Kd.R_drew)); exact HO383.out))) (below_size (by repeat (first | (with_reducible first | exact HB.out | apply bA | apply bN | apply bD | refine below_set ?_ GE374.out | refine below_set ?_ GE379.out) | exact HB.out)))); have n5_ := Aside0.mk (Kd.R_lower (Kd.R_new' (Kd.R_new' ho1 (Kd.R_lt (by (with_reducible repeat (first | apply Kd.R_alloc | apply Kd.R_drewN | apply Kd.R_drew)); exact HO_5.out))) (Kd.R_lt (by (with_reducible repeat (first | apply Kd.R_alloc | apply Kd.R_drewN | apply Kd.R_drew)); exact HO383.out))) (below_size (by repeat (first | (with_reducible first | exact HB.out | apply bA | apply bN | apply bD | refine below_set ?_ GE374.out | refine below_set ?_ GE379.out) | exact HB.out)))); have n6_ := Aside0.mk (blk_below (g := gb374) (o := .cells #[.slice Ao13 t370.length co13] 36 (0, 0)) (by (with_reducible repeat (first | apply qN | apply qD | apply qA)); exact BK374.out) hb); have n7_ := Aside0.mk (blk_below (g := gb379) (o := .cells #[.slice Ao17 t375.length co17] 36 (0, 0)) (by (with_reducible repeat (first | apply qN | apply qD | apply qA)); exact BK379.out) hb); have n8_ := Aside0.mk (below_step (by repeat (first | (with_reducible first | exact HB.out | apply bA | apply bN | apply bD | refine below_set ?_ GE374.out | refine below_set ?_ GE379.out) | exact HB.out)) hb); clear HO_5; clear HO_375000; clear HO_380000; clear HO383; clear BK374; clear BK379; clear HB; have HO_5 := n0_; have HO_375000 := n1_; have HO_380000 := n2_; have HO383 := n3_; have HO389 := n4_; have HO392 := n5_; have BK374 := n6_; have BK379 := n7_; have HB := n8_; clear n0_ n1_ n2_ n3_ n4_ n5_ n6_ n7_ n8_; (try clear hb); (try clear hb2); (try clear hk); (try clear hi); (try clear ho0); (try clear ho1)) | ((with_reducible refine gate_callee (f := 30) rfl ?_); refine goesL_ (some 68) rfl rfl Try.func30 (by kernel_rfl) rfl #[.slice Ao10 t367.length co10] rfl (by (try simp only [List.map_toArray, List.map_cons, List.map_nil]); first | done | rfl | (simp only [List.length_drop, List.length_take]; rfl)) ?_; (with_reducible refine (impl_AscentsOf.calls kj7 _ _ t367 t394 t395 _ ?side1 ?side2 A31.out).mono ?_); (case side1 => repeat (first | exact (Kd.R_reads' HO_5.out).2.2 | (with_reducible refine Kd.C_alloc ?_ _) | (with_reducible refine Kd.C_drewN ?_ _) | (with_reducible refine Kd.C_drew ?_))); (case side2 => exact (Kd.R_reads' HO_5.out).2.1); rintro e w' ⟨rfl, ⟨nd, rfl⟩⟩; refine ⟨_, rfl, ?_⟩; have hcz41_0 : w40.cell? ⟨gb374, 0, none⟩ = some (.slice Ao13 t370.length co13) := (blk_cell BK374.out 0).trans rfl; have hfz41_0 := blk_frozen BK374.out 0) | ((with_reducible refine gate_callee (f := 39) rfl ?_); refine goesL_ (some 73) rfl rfl Try.func39 (by kernel_rfl) rfl #[.agg #[.slice Ao13 t370.length co13]] rfl (by (try simp only [List.map_toArray, List.map_cons, List.map_nil]); first | done | rfl | (simp only [List.length_drop, List.length_take]; rfl)) ?_; (with_reducible refine (impl_TopOfMatrix.calls kj7 _ _ t370 t396 t397 _ ?side1 ?side2 A32.out).mono ?_); (case side1 => repeat (first | exact (Kd.S_reads' HO_375000.out).2.2 | (with_reducible refine Kd.C_alloc ?_ _) | (with_reducible refine Kd.C_drewN ?_ _) | (with_reducible refine Kd.C_drew ?_))); (case side2 => exact (Kd.S_reads' HO_375000.out).2.1); rintro e w42 ⟨rfl, hb⟩; refine ⟨_, rfl, ?_⟩; have n0_ := Aside0.mk (Kd.R_below (by (with_reducible repeat (first | apply Kd.R_alloc | apply Kd.R_drewN | apply Kd.R_drew)); exact HO_5.out) hb); have n1_ := Aside0.mk (Kd.S_below (by (with_reducible repeat (first | apply Kd.S_alloc | apply Kd.S_drewN | apply Kd.S_drew)); exact HO_375000.out) hb); have n2_ := Aside0.mk (Kd.S_below (by (with_reducible repeat (first | apply Kd.S_alloc | apply Kd.S_drewN | apply Kd.S_drew)); exact HO_380000.out) hb); have n3_ := Aside0.mk (Kd.R_below (by (with_reducible repeat (first | apply Kd.R_alloc | apply Kd.R_drewN | apply Kd.R_drew)); exact HO383.out) hb); have n4_ := Aside0.mk (Kd.R_below (by (with_reducible repeat (first | apply Kd.R_alloc | apply Kd.R_drewN | apply Kd.R_drew)); exact HO389.out) hb); have n5_ := Aside0.mk (Kd.R_below (by (with_reducible repeat (first | apply Kd.R_alloc | apply Kd.R_drewN | apply Kd.R_drew)); exact HO392.out) hb); have n6_ := Aside0.mk (blk_below (g := gb374) (o := .cells #[.slice Ao13 t370.length co13] 36 (0, 0)) (by (with_reducible repeat (first | apply qN | apply qD | apply qA)); exact BK374.out) hb); have n7_ := Aside0.mk (blk_below (g := gb379) (o := .cells #[.slice Ao17 t375.length co17] 36 (0, 0)) (by (with_reducible repeat (first | apply qN | apply qD | apply qA)); exact BK379.out) hb); have n8_ := Aside0.mk (below_step (by repeat (first | (with_reducible first | exact HB.out | apply bA | apply bN | apply bD | refine below_set ?_ GE374.out | refine below_set ?_ GE379.out) | exact HB.out)) hb); clear HO_5; clear HO_375000; clear HO_380000; clear HO383; clear HO389; clear HO392; clear BK374; clear BK379; clear HB; have HO_5 := n0_; have HO_375000 := n1_; have HO_380000 := n2_; have HO383 := n3_; have HO389 := n4_; have HO392 := n5_; have BK374 := n6_; have BK379 := n7_; have HB := n8_; clear n0_ n1_ n2_ n3_ n4_ n5_ n6_ n7_ n8_; (try clear hb); (try clear hb2); (try clear hk); (try clear hi)))
            (try simp only [Act.put, List.setIfInBounds_toArray, List.set_cons_zero, List.set_cons_succ])
            go_cut [120] (fun v120 wc => ∃ (kq : Nat) (x120_32 : Bool), v120 = .bool x120_32 ∧ Aside0 (laws_FnAscentsAreMatrices.j1 kq t367 t387 t394 t396 t397 x120_32 t370 = some r) ∧ Aside0 (kq ≤ kj7) ∧ Aside0 (Kd.R (Kd.int .i64) 3 wc w.heap.size (fun k_ => some k_ ≠ (v388 : Value).ownBlock) (.slice Ao10 t367.length co10) t367) ∧ Aside0 (Kd.R (Kd.int .i64) 3 wc w.heap.size (fun k_ => some k_ ≠ ((.slice Ao10 t367.length co10) : Value).ownBlock) v388 t387) ∧ Aside0 (Kd.S (Kd.slice 3 (Kd.int .i64)) 24 wc w.heap.size (fun k_ => some k_ ≠ ((.slice Ao10 t367.length co10) : Value).ownBlock ∧ some k_ ≠ (v388 : Value).ownBlock ∧ some k_ ≠ ((.slice Ao17 t375.length co17) : Value).ownBlock) (.slice Ao13 t370.length co13) t370) ∧ Aside0 (Kd.S (Kd.slice 3 (Kd.int .i64)) 24 wc w.heap.size (fun k_ => some k_ ≠ ((.slice Ao10 t367.length co10) : Value).ownBlock ∧ some k_ ≠ (v388 : Value).ownBlock ∧ some k_ ≠ ((.slice Ao13 t370.length co13) : Value).ownBlock) (.slice Ao17 t375.length co17) t375) ∧ Aside0 (wc.heap[gb374]? = some (.cells #[(.slice Ao13 t370.length co13)] 36 (0, 0))) ∧ Aside0 (wc.heap[gb379]? = some (.cells #[(.slice Ao17 t375.length co17)] 36 (0, 0))) ∧ Aside0 (Below w.heap.size w wc))
            case first =>
              have H := HC33.out
              clear HC33
              by_cases c43 : t384 = true
              · subst c43
                have H1 : (if t386 = true then (if t393 = true then (if t395 = true then ((laws_pSame.f kj7 t381 t367).bind fun t398 => (if t398 = true then (if t385 = (t367.length : Int) then ((laws_pSum.f kj7 t387).bind fun t399 => (if t399 = t385 then ((laws_pSum.f kj7 t390).bind fun t400 => (if t400 = t385 then (laws_FnAscentsAreMatrices.j1 kj7 t367 t387 t394 t396 t397 (t397 != (decide ((t367.length : Int) > 0))) t370) else (laws_FnAscentsAreMatrices.j1 kj7 t367 t387 t394 t396 t397 true t370))) else (laws_FnAscentsAreMatrices.j1 kj7 t367 t387 t394 t396 t397 true t370))) else (laws_FnAscentsAreMatrices.j1 kj7 t367 t387 t394 t396 t397 true t370)) else (laws_FnAscentsAreMatrices.j1 kj7 t367 t387 t394 t396 t397 true t370))) else (laws_FnAscentsAreMatrices.j1 kj7 t367 t387 t394 t396 t397 true t370)) else (laws_FnAscentsAreMatrices.j1 kj7 t367 t387 t394 t396 t397 true t370)) else (laws_FnAscentsAreMatrices.j1 kj7 t367 t387 t394 t396 t397 true t370)) = some r := by rw [if_pos rfl] at H; exact H
                clear H
                have H := H1
                clear H1
                by_cases c44 : t386 = true
                · subst c44
                  have H1 : (if t393 = true then (if t395 = true then ((laws_pSame.f kj7 t381 t367).bind fun t398 => (if t398 = true then (if t385 = (t367.length : Int) then ((laws_pSum.f kj7 t387).bind fun t399 => (if t399 = t385 then ((laws_pSum.f kj7 t390).bind fun t400 => (if t400 = t385 then (laws_FnAscentsAreMatrices.j1 kj7 t367 t387 t394 t396 t397 (t397 != (decide ((t367.length : Int) > 0))) t370) else (laws_FnAscentsAreMatrices.j1 kj7 t367 t387 t394 t396 t397 true t370))) else (laws_FnAscentsAreMatrices.j1 kj7 t367 t387 t394 t396 t397 true t370))) else (laws_FnAscentsAreMatrices.j1 kj7 t367 t387 t394 t396 t397 true t370)) else (laws_FnAscentsAreMatrices.j1 kj7 t367 t387 t394 t396 t397 true t370))) else (laws_FnAscentsAreMatrices.j1 kj7 t367 t387 t394 t396 t397 true t370)) else (laws_FnAscentsAreMatrices.j1 kj7 t367 t387 t394 t396 t397 true t370)) = some r := by rw [if_pos rfl] at H; exact H
                  clear H
                  have H := H1
                  clear H1
                  by_cases c45 : t393 = true
                  · subst c45
                    have H1 : (if t395 = true then ((laws_pSame.f kj7 t381 t367).bind fun t398 => (if t398 = true then (if t385 = (t367.length : Int) then ((laws_pSum.f kj7 t387).bind fun t399 => (if t399 = t385 then ((laws_pSum.f kj7 t390).bind fun t400 => (if t400 = t385 then (laws_FnAscentsAreMatrices.j1 kj7 t367 t387 t394 t396 t397 (t397 != (decide ((t367.length : Int) > 0))) t370) else (laws_FnAscentsAreMatrices.j1 kj7 t367 t387 t394 t396 t397 true t370))) else (laws_FnAscentsAreMatrices.j1 kj7 t367 t387 t394 t396 t397 true t370))) else (laws_FnAscentsAreMatrices.j1 kj7 t367 t387 t394 t396 t397 true t370)) else (laws_FnAscentsAreMatrices.j1 kj7 t367 t387 t394 t396 t397 true t370))) else (laws_FnAscentsAreMatrices.j1 kj7 t367 t387 t394 t396 t397 true t370)) = some r := by rw [if_pos rfl] at H; exact H
                    clear H
                    have H := H1
                    clear H1
                    by_cases c46 : t395 = true
                    · subst c46
                      have H1 : ((laws_pSame.f kj7 t381 t367).bind fun t398 => (if t398 = true then (if t385 = (t367.length : Int) then ((laws_pSum.f kj7 t387).bind fun t399 => (if t399 = t385 then ((laws_pSum.f kj7 t390).bind fun t400 => (if t400 = t385 then (laws_FnAscentsAreMatrices.j1 kj7 t367 t387 t394 t396 t397 (t397 != (decide ((t367.length : Int) > 0))) t370) else (laws_FnAscentsAreMatrices.j1 kj7 t367 t387 t394 t396 t397 true t370))) else (laws_FnAscentsAreMatrices.j1 kj7 t367 t387 t394 t396 t397 true t370))) else (laws_FnAscentsAreMatrices.j1 kj7 t367 t387 t394 t396 t397 true t370)) else (laws_FnAscentsAreMatrices.j1 kj7 t367 t387 t394 t396 t397 true t370))) = some r := by rw [if_pos rfl] at H; exact H
                      clear H
                      have H := H1
                      clear H1
                      replace H := Option.bind_eq_some_iff.mp H
                      obtain ⟨t398, A470, H⟩ := H
                      replace H : (if t398 = true then (if t385 = (t367.length : Int) then ((laws_pSum.f kj7 t387).bind fun t399 => (if t399 = t385 then ((laws_pSum.f kj7 t390).bind fun t400 => (if t400 = t385 then (laws_FnAscentsAreMatrices.j1 kj7 t367 t387 t394 t396 t397 (t397 != (decide ((t367.length : Int) > 0))) t370) else (laws_FnAscentsAreMatrices.j1 kj7 t367 t387 t394 t396 t397 true t370))) else (laws_FnAscentsAreMatrices.j1 kj7 t367 t387 t394 t396 t397 true t370))) else (laws_FnAscentsAreMatrices.j1 kj7 t367 t387 t394 t396 t397 true t370)) else (laws_FnAscentsAreMatrices.j1 kj7 t367 t387 t394 t396 t397 true t370)) = some r := H
                      have A47 := Aside0.mk A470
                      clear A470
                      by_cases c48 : t398 = true
                      · subst c48
                        have H1 : (if t385 = (t367.length : Int) then ((laws_pSum.f kj7 t387).bind fun t399 => (if t399 = t385 then ((laws_pSum.f kj7 t390).bind fun t400 => (if t400 = t385 then (laws_FnAscentsAreMatrices.j1 kj7 t367 t387 t394 t396 t397 (t397 != (decide ((t367.length : Int) > 0))) t370) else (laws_FnAscentsAreMatrices.j1 kj7 t367 t387 t394 t396 t397 true t370))) else (laws_FnAscentsAreMatrices.j1 kj7 t367 t387 t394 t396 t397 true t370))) else (laws_FnAscentsAreMatrices.j1 kj7 t367 t387 t394 t396 t397 true t370)) = some r := by rw [if_pos rfl] at H; exact H
                        clear H
                        have H := H1
                        clear H1
                        by_cases c49 : t385 = (t367.length : Int)
                        · rw [if_pos c49] at H
                          have c49b0 : (t385 == (t367.length : Int)) = true := beq_iff_eq.mpr c49
                          have c49b1 : (t385 != (t367.length : Int)) = false := bne_eq_false_iff_eq.mpr c49
                          clear c49
                          (first | rw [c49b0] | (simp only [i64_w, i32_w]; rw [c49b0]) | skip)
                          replace H := Option.bind_eq_some_iff.mp H
                          obtain ⟨t399, A500, H⟩ := H
                          replace H : (if t399 = t385 then ((laws_pSum.f kj7 t390).bind fun t400 => (if t400 = t385 then (laws_FnAscentsAreMatrices.j1 kj7 t367 t387 t394 t396 t397 (t397 != (decide ((t367.length : Int) > 0))) t370) else (laws_FnAscentsAreMatrices.j1 kj7 t367 t387 t394 t396 t397 true t370))) else (laws_FnAscentsAreMatrices.j1 kj7 t367 t387 t394 t396 t397 true t370)) = some r := H
                          have A50 := Aside0.mk A500
                          clear A500
                          by_cases c51 : t399 = t385
                          · rw [if_pos c51] at H
                            have c51b0 : (t399 == t385) = true := beq_iff_eq.mpr c51
                            have c51b1 : (t399 != t385) = false := bne_eq_false_iff_eq.mpr c51
                            clear c51
                            replace H := Option.bind_eq_some_iff.mp H
                            obtain ⟨t400, A520, H⟩ := H
                            replace H : (if t400 = t385 then (laws_FnAscentsAreMatrices.j1 kj7 t367 t387 t394 t396 t397 (t397 != (decide ((t367.length : Int) > 0))) t370) else (laws_FnAscentsAreMatrices.j1 kj7 t367 t387 t394 t396 t397 true t370)) = some r := H
                            have A52 := Aside0.mk A520
                            clear A520
                            by_cases c53 : t400 = t385
                            · rw [if_pos c53] at H
                              have c53b0 : (t400 == t385) = true := beq_iff_eq.mpr c53
                              have c53b1 : (t400 != t385) = false := bne_eq_false_iff_eq.mpr c53
                              clear c53
                              have H' := Aside0.mk H
                              clear H
                              obtain ⟨Ao54, co54, eo54⟩ := Kd.R_slice HO383.out
                              subst eo54
                              go_wp2_with (first | (go_at_call 17; (with_reducible refine (laws_pSame.calls kj7 _ _ t381 _ _ t367 true _ ?side1 ?side2 ?side3 ?side4 A47.out).mono ?_); (case side1 => repeat (first | exact (Kd.R_reads' HO383.out).2.2 | (with_reducible refine Kd.C_alloc ?_ _) | (with_reducible refine Kd.C_drewN ?_ _) | (with_reducible refine Kd.C_drew ?_))); (case side2 => exact (Kd.R_reads' HO383.out).2.1); (case side3 => repeat (first | exact (Kd.R_reads' HO_5.out).2.2 | (with_reducible refine Kd.C_alloc ?_ _) | (with_reducible refine Kd.C_drewN ?_ _) | (with_reducible refine Kd.C_drew ?_))); (case side4 => exact (Kd.R_reads' HO_5.out).2.1); rintro e w' ⟨rfl, ⟨nd, rfl⟩⟩; obtain ⟨Ao55, co55, eo55⟩ := Kd.R_slice HO389.out; subst eo55) | (go_at_call 31; (with_reducible refine (laws_pSum.calls kj7 _ _ t387 t399 _ ?side1 ?side2 A50.out).mono ?_); (case side1 => repeat (first | exact (Kd.R_reads' HO389.out).2.2 | (with_reducible refine Kd.C_alloc ?_ _) | (with_reducible refine Kd.C_drewN ?_ _) | (with_reducible refine Kd.C_drew ?_))); (case side2 => exact (Kd.R_reads' HO389.out).2.1); rintro e w' ⟨rfl, ⟨nd, rfl⟩⟩; obtain ⟨Ao56, co56, eo56⟩ := Kd.R_slice HO392.out; subst eo56) | (go_at_call 31; (with_reducible refine (laws_pSum.calls kj7 _ _ t390 t400 _ ?side1 ?side2 A52.out).mono ?_); (case side1 => repeat (first | exact (Kd.R_reads' HO392.out).2.2 | (with_reducible refine Kd.C_alloc ?_ _) | (with_reducible refine Kd.C_drewN ?_ _) | (with_reducible refine Kd.C_drew ?_))); (case side2 => exact (Kd.R_reads' HO392.out).2.1); rintro e w' ⟨rfl, ⟨nd, rfl⟩⟩))
                              go_meet
                              case rel => exact ⟨_, ((t397 != (decide ((t367.length : Int) > 0)))), (by first | rfl | (simp; done) | (simp [*]; done) | (cases t397 <;> simp; done)), H', ⟨by have := HJ7.out; first | omega | exact Nat.le_refl _⟩, ⟨by (with_reducible repeat (first | apply Kd.R_alloc | apply Kd.R_drewN | apply Kd.R_drew)); exact Kd.R_mono HO_5.out (fun _ hk => hk.1.2)⟩, ⟨by (with_reducible repeat (first | apply Kd.R_alloc | apply Kd.R_drewN | apply Kd.R_drew)); exact Kd.R_mono HO389.out (fun _ hk => hk.1.2)⟩, ⟨by (with_reducible repeat (first | apply Kd.S_alloc | apply Kd.S_drewN | apply Kd.S_drew)); exact Kd.S_mono HO_375000.out (fun _ hk => ⟨hk.1.1.1.1, ⟨hk.1.2, hk.1.1.1.2⟩⟩)⟩, ⟨by (with_reducible repeat (first | apply Kd.S_alloc | apply Kd.S_drewN | apply Kd.S_drew)); exact Kd.S_mono HO_380000.out (fun _ hk => ⟨hk.1.1.1.1, ⟨hk.1.2, hk.1.1.1.2⟩⟩)⟩, ⟨by (with_reducible repeat (first | apply qN | apply qD | apply qA)); exact BK374.out⟩, ⟨by (with_reducible repeat (first | apply qN | apply qD | apply qA)); exact BK379.out⟩, ⟨by repeat (first | (with_reducible first | exact HB.out | apply bA | apply bN | apply bD | refine below_set ?_ GE374.out | refine below_set ?_ GE379.out) | exact HB.out)⟩⟩
                            · rw [if_neg c53] at H
                              have c53b0 : (t400 == t385) = false := beq_eq_false_iff_ne.mpr c53
                              have c53b1 : (t400 != t385) = true := bne_iff_ne.mpr c53
                              have H' := Aside0.mk H
                              clear H
                              obtain ⟨Ao57, co57, eo57⟩ := Kd.R_slice HO383.out
                              subst eo57
                              go_wp2_with (first | (go_at_call 17; (with_reducible refine (laws_pSame.calls kj7 _ _ t381 _ _ t367 true _ ?side1 ?side2 ?side3 ?side4 A47.out).mono ?_); (case side1 => repeat (first | exact (Kd.R_reads' HO383.out).2.2 | (with_reducible refine Kd.C_alloc ?_ _) | (with_reducible refine Kd.C_drewN ?_ _) | (with_reducible refine Kd.C_drew ?_))); (case side2 => exact (Kd.R_reads' HO383.out).2.1); (case side3 => repeat (first | exact (Kd.R_reads' HO_5.out).2.2 | (with_reducible refine Kd.C_alloc ?_ _) | (with_reducible refine Kd.C_drewN ?_ _) | (with_reducible refine Kd.C_drew ?_))); (case side4 => exact (Kd.R_reads' HO_5.out).2.1); rintro e w' ⟨rfl, ⟨nd, rfl⟩⟩; obtain ⟨Ao58, co58, eo58⟩ := Kd.R_slice HO389.out; subst eo58) | (go_at_call 31; (with_reducible refine (laws_pSum.calls kj7 _ _ t387 t399 _ ?side1 ?side2 A50.out).mono ?_); (case side1 => repeat (first | exact (Kd.R_reads' HO389.out).2.2 | (with_reducible refine Kd.C_alloc ?_ _) | (with_reducible refine Kd.C_drewN ?_ _) | (with_reducible refine Kd.C_drew ?_))); (case side2 => exact (Kd.R_reads' HO389.out).2.1); rintro e w' ⟨rfl, ⟨nd, rfl⟩⟩; obtain ⟨Ao59, co59, eo59⟩ := Kd.R_slice HO392.out; subst eo59) | (go_at_call 31; (with_reducible refine (laws_pSum.calls kj7 _ _ t390 t400 _ ?side1 ?side2 A52.out).mono ?_); (case side1 => repeat (first | exact (Kd.R_reads' HO392.out).2.2 | (with_reducible refine Kd.C_alloc ?_ _) | (with_reducible refine Kd.C_drewN ?_ _) | (with_reducible refine Kd.C_drew ?_))); (case side2 => exact (Kd.R_reads' HO392.out).2.1); rintro e w' ⟨rfl, ⟨nd, rfl⟩⟩))
                              go_meet
                              case rel => exact ⟨_, (true), (by first | rfl | (simp; done) | (simp [*]; done)), H', ⟨by have := HJ7.out; first | omega | exact Nat.le_refl _⟩, ⟨by (with_reducible repeat (first | apply Kd.R_alloc | apply Kd.R_drewN | apply Kd.R_drew)); exact Kd.R_mono HO_5.out (fun _ hk => hk.1.2)⟩, ⟨by (with_reducible repeat (first | apply Kd.R_alloc | apply Kd.R_drewN | apply Kd.R_drew)); exact Kd.R_mono HO389.out (fun _ hk => hk.1.2)⟩, ⟨by (with_reducible repeat (first | apply Kd.S_alloc | apply Kd.S_drewN | apply Kd.S_drew)); exact Kd.S_mono HO_375000.out (fun _ hk => ⟨hk.1.1.1.1, ⟨hk.1.2, hk.1.1.1.2⟩⟩)⟩, ⟨by (with_reducible repeat (first | apply Kd.S_alloc | apply Kd.S_drewN | apply Kd.S_drew)); exact Kd.S_mono HO_380000.out (fun _ hk => ⟨hk.1.1.1.1, ⟨hk.1.2, hk.1.1.1.2⟩⟩)⟩, ⟨by (with_reducible repeat (first | apply qN | apply qD | apply qA)); exact BK374.out⟩, ⟨by (with_reducible repeat (first | apply qN | apply qD | apply qA)); exact BK379.out⟩, ⟨by repeat (first | (with_reducible first | exact HB.out | apply bA | apply bN | apply bD | refine below_set ?_ GE374.out | refine below_set ?_ GE379.out) | exact HB.out)⟩⟩
                          · rw [if_neg c51] at H
                            have c51b0 : (t399 == t385) = false := beq_eq_false_iff_ne.mpr c51
                            have c51b1 : (t399 != t385) = true := bne_iff_ne.mpr c51
                            have H' := Aside0.mk H
                            clear H
                            obtain ⟨Ao60, co60, eo60⟩ := Kd.R_slice HO383.out
                            subst eo60
                            go_wp2_with (first | (go_at_call 17; (with_reducible refine (laws_pSame.calls kj7 _ _ t381 _ _ t367 true _ ?side1 ?side2 ?side3 ?side4 A47.out).mono ?_); (case side1 => repeat (first | exact (Kd.R_reads' HO383.out).2.2 | (with_reducible refine Kd.C_alloc ?_ _) | (with_reducible refine Kd.C_drewN ?_ _) | (with_reducible refine Kd.C_drew ?_))); (case side2 => exact (Kd.R_reads' HO383.out).2.1); (case side3 => repeat (first | exact (Kd.R_reads' HO_5.out).2.2 | (with_reducible refine Kd.C_alloc ?_ _) | (with_reducible refine Kd.C_drewN ?_ _) | (with_reducible refine Kd.C_drew ?_))); (case side4 => exact (Kd.R_reads' HO_5.out).2.1); rintro e w' ⟨rfl, ⟨nd, rfl⟩⟩; obtain ⟨Ao61, co61, eo61⟩ := Kd.R_slice HO389.out; subst eo61) | (go_at_call 31; (with_reducible refine (laws_pSum.calls kj7 _ _ t387 t399 _ ?side1 ?side2 A50.out).mono ?_); (case side1 => repeat (first | exact (Kd.R_reads' HO389.out).2.2 | (with_reducible refine Kd.C_alloc ?_ _) | (with_reducible refine Kd.C_drewN ?_ _) | (with_reducible refine Kd.C_drew ?_))); (case side2 => exact (Kd.R_reads' HO389.out).2.1); rintro e w' ⟨rfl, ⟨nd, rfl⟩⟩))
                            go_meet
                            case rel => exact ⟨_, (true), (by first | rfl | (simp; done) | (simp [*]; done)), H', ⟨by have := HJ7.out; first | omega | exact Nat.le_refl _⟩, ⟨by (with_reducible repeat (first | apply Kd.R_alloc | apply Kd.R_drewN | apply Kd.R_drew)); exact Kd.R_mono HO_5.out (fun _ hk => hk.1.2)⟩, ⟨by (with_reducible repeat (first | apply Kd.R_alloc | apply Kd.R_drewN | apply Kd.R_drew)); exact Kd.R_mono HO389.out (fun _ hk => hk.1.2)⟩, ⟨by (with_reducible repeat (first | apply Kd.S_alloc | apply Kd.S_drewN | apply Kd.S_drew)); exact Kd.S_mono HO_375000.out (fun _ hk => ⟨hk.1.1.1.1, ⟨hk.1.2, hk.1.1.1.2⟩⟩)⟩, ⟨by (with_reducible repeat (first | apply Kd.S_alloc | apply Kd.S_drewN | apply Kd.S_drew)); exact Kd.S_mono HO_380000.out (fun _ hk => ⟨hk.1.1.1.1, ⟨hk.1.2, hk.1.1.1.2⟩⟩)⟩, ⟨by (with_reducible repeat (first | apply qN | apply qD | apply qA)); exact BK374.out⟩, ⟨by (with_reducible repeat (first | apply qN | apply qD | apply qA)); exact BK379.out⟩, ⟨by repeat (first | (with_reducible first | exact HB.out | apply bA | apply bN | apply bD | refine below_set ?_ GE374.out | refine below_set ?_ GE379.out) | exact HB.out)⟩⟩
                        · rw [if_neg c49] at H
                          have c49b0 : (t385 == (t367.length : Int)) = false := beq_eq_false_iff_ne.mpr c49
                          have c49b1 : (t385 != (t367.length : Int)) = true := bne_iff_ne.mpr c49
                          (first | rw [c49b0] | (simp only [i64_w, i32_w]; rw [c49b0]) | skip)
                          have H' := Aside0.mk H
                          clear H
                          obtain ⟨Ao62, co62, eo62⟩ := Kd.R_slice HO383.out
                          subst eo62
                          go_wp2_with (first | (go_at_call 17; (with_reducible refine (laws_pSame.calls kj7 _ _ t381 _ _ t367 true _ ?side1 ?side2 ?side3 ?side4 A47.out).mono ?_); (case side1 => repeat (first | exact (Kd.R_reads' HO383.out).2.2 | (with_reducible refine Kd.C_alloc ?_ _) | (with_reducible refine Kd.C_drewN ?_ _) | (with_reducible refine Kd.C_drew ?_))); (case side2 => exact (Kd.R_reads' HO383.out).2.1); (case side3 => repeat (first | exact (Kd.R_reads' HO_5.out).2.2 | (with_reducible refine Kd.C_alloc ?_ _) | (with_reducible refine Kd.C_drewN ?_ _) | (with_reducible refine Kd.C_drew ?_))); (case side4 => exact (Kd.R_reads' HO_5.out).2.1); rintro e w' ⟨rfl, ⟨nd, rfl⟩⟩))
                          go_meet
                          case rel => exact ⟨_, (true), (by first | rfl | (simp; done) | (simp [*]; done)), H', ⟨by have := HJ7.out; first | omega | exact Nat.le_refl _⟩, ⟨by (with_reducible repeat (first | apply Kd.R_alloc | apply Kd.R_drewN | apply Kd.R_drew)); exact Kd.R_mono HO_5.out (fun _ hk => hk.1.2)⟩, ⟨by (with_reducible repeat (first | apply Kd.R_alloc | apply Kd.R_drewN | apply Kd.R_drew)); exact Kd.R_mono HO389.out (fun _ hk => hk.1.2)⟩, ⟨by (with_reducible repeat (first | apply Kd.S_alloc | apply Kd.S_drewN | apply Kd.S_drew)); exact Kd.S_mono HO_375000.out (fun _ hk => ⟨hk.1.1.1.1, ⟨hk.1.2, hk.1.1.1.2⟩⟩)⟩, ⟨by (with_reducible repeat (first | apply Kd.S_alloc | apply Kd.S_drewN | apply Kd.S_drew)); exact Kd.S_mono HO_380000.out (fun _ hk => ⟨hk.1.1.1.1, ⟨hk.1.2, hk.1.1.1.2⟩⟩)⟩, ⟨by (with_reducible repeat (first | apply qN | apply qD | apply qA)); exact BK374.out⟩, ⟨by (with_reducible repeat (first | apply qN | apply qD | apply qA)); exact BK379.out⟩, ⟨by repeat (first | (with_reducible first | exact HB.out | apply bA | apply bN | apply bD | refine below_set ?_ GE374.out | refine below_set ?_ GE379.out) | exact HB.out)⟩⟩
                      · replace c48 := Bool.eq_false_iff.mpr c48
                        subst c48
                        have H1 : (laws_FnAscentsAreMatrices.j1 kj7 t367 t387 t394 t396 t397 true t370) = some r := by rw [if_neg (show ¬ (false = true) by decide)] at H; exact H
                        clear H
                        have H := H1
                        clear H1
                        have H' := Aside0.mk H
                        clear H
                        obtain ⟨Ao63, co63, eo63⟩ := Kd.R_slice HO383.out
                        subst eo63
                        go_wp2_with (first | (go_at_call 17; (with_reducible refine (laws_pSame.calls kj7 _ _ t381 _ _ t367 false _ ?side1 ?side2 ?side3 ?side4 A47.out).mono ?_); (case side1 => repeat (first | exact (Kd.R_reads' HO383.out).2.2 | (with_reducible refine Kd.C_alloc ?_ _) | (with_reducible refine Kd.C_drewN ?_ _) | (with_reducible refine Kd.C_drew ?_))); (case side2 => exact (Kd.R_reads' HO383.out).2.1); (case side3 => repeat (first | exact (Kd.R_reads' HO_5.out).2.2 | (with_reducible refine Kd.C_alloc ?_ _) | (with_reducible refine Kd.C_drewN ?_ _) | (with_reducible refine Kd.C_drew ?_))); (case side4 => exact (Kd.R_reads' HO_5.out).2.1); rintro e w' ⟨rfl, ⟨nd, rfl⟩⟩))
                        go_meet
                        case rel => exact ⟨_, (true), (by first | rfl | (simp; done) | (simp [*]; done)), H', ⟨by have := HJ7.out; first | omega | exact Nat.le_refl _⟩, ⟨by (with_reducible repeat (first | apply Kd.R_alloc | apply Kd.R_drewN | apply Kd.R_drew)); exact Kd.R_mono HO_5.out (fun _ hk => hk.1.2)⟩, ⟨by (with_reducible repeat (first | apply Kd.R_alloc | apply Kd.R_drewN | apply Kd.R_drew)); exact Kd.R_mono HO389.out (fun _ hk => hk.1.2)⟩, ⟨by (with_reducible repeat (first | apply Kd.S_alloc | apply Kd.S_drewN | apply Kd.S_drew)); exact Kd.S_mono HO_375000.out (fun _ hk => ⟨hk.1.1.1.1, ⟨hk.1.2, hk.1.1.1.2⟩⟩)⟩, ⟨by (with_reducible repeat (first | apply Kd.S_alloc | apply Kd.S_drewN | apply Kd.S_drew)); exact Kd.S_mono HO_380000.out (fun _ hk => ⟨hk.1.1.1.1, ⟨hk.1.2, hk.1.1.1.2⟩⟩)⟩, ⟨by (with_reducible repeat (first | apply qN | apply qD | apply qA)); exact BK374.out⟩, ⟨by (with_reducible repeat (first | apply qN | apply qD | apply qA)); exact BK379.out⟩, ⟨by repeat (first | (with_reducible first | exact HB.out | apply bA | apply bN | apply bD | refine below_set ?_ GE374.out | refine below_set ?_ GE379.out) | exact HB.out)⟩⟩
                    · replace c46 := Bool.eq_false_iff.mpr c46
                      subst c46
                      have H1 : (laws_FnAscentsAreMatrices.j1 kj7 t367 t387 t394 t396 t397 true t370) = some r := by rw [if_neg (show ¬ (false = true) by decide)] at H; exact H
                      clear H
                      have H := H1
                      clear H1
                      have H' := Aside0.mk H
                      clear H
                      go_wp2
                      go_meet
                      case rel => exact ⟨_, (true), (by first | rfl | (simp; done) | (simp [*]; done)), H', ⟨by have := HJ7.out; first | omega | exact Nat.le_refl _⟩, ⟨by (with_reducible repeat (first | apply Kd.R_alloc | apply Kd.R_drewN | apply Kd.R_drew)); exact Kd.R_mono HO_5.out (fun _ hk => hk.1.2)⟩, ⟨by (with_reducible repeat (first | apply Kd.R_alloc | apply Kd.R_drewN | apply Kd.R_drew)); exact Kd.R_mono HO389.out (fun _ hk => hk.1.2)⟩, ⟨by (with_reducible repeat (first | apply Kd.S_alloc | apply Kd.S_drewN | apply Kd.S_drew)); exact Kd.S_mono HO_375000.out (fun _ hk => ⟨hk.1.1.1.1, ⟨hk.1.2, hk.1.1.1.2⟩⟩)⟩, ⟨by (with_reducible repeat (first | apply Kd.S_alloc | apply Kd.S_drewN | apply Kd.S_drew)); exact Kd.S_mono HO_380000.out (fun _ hk => ⟨hk.1.1.1.1, ⟨hk.1.2, hk.1.1.1.2⟩⟩)⟩, ⟨by (with_reducible repeat (first | apply qN | apply qD | apply qA)); exact BK374.out⟩, ⟨by (with_reducible repeat (first | apply qN | apply qD | apply qA)); exact BK379.out⟩, ⟨by repeat (first | (with_reducible first | exact HB.out | apply bA | apply bN | apply bD | refine below_set ?_ GE374.out | refine below_set ?_ GE379.out) | exact HB.out)⟩⟩
                  · replace c45 := Bool.eq_false_iff.mpr c45
                    subst c45
                    have H1 : (laws_FnAscentsAreMatrices.j1 kj7 t367 t387 t394 t396 t397 true t370) = some r := by rw [if_neg (show ¬ (false = true) by decide)] at H; exact H
                    clear H
                    have H := H1
                    clear H1
                    have H' := Aside0.mk H
                    clear H
                    go_wp2
                    go_meet
                    case rel => exact ⟨_, (true), (by first | rfl | (simp; done) | (simp [*]; done)), H', ⟨by have := HJ7.out; first | omega | exact Nat.le_refl _⟩, ⟨by (with_reducible repeat (first | apply Kd.R_alloc | apply Kd.R_drewN | apply Kd.R_drew)); exact Kd.R_mono HO_5.out (fun _ hk => hk.1.2)⟩, ⟨by (with_reducible repeat (first | apply Kd.R_alloc | apply Kd.R_drewN | apply Kd.R_drew)); exact Kd.R_mono HO389.out (fun _ hk => hk.1.2)⟩, ⟨by (with_reducible repeat (first | apply Kd.S_alloc | apply Kd.S_drewN | apply Kd.S_drew)); exact Kd.S_mono HO_375000.out (fun _ hk => ⟨hk.1.1.1.1, ⟨hk.1.2, hk.1.1.1.2⟩⟩)⟩, ⟨by (with_reducible repeat (first | apply Kd.S_alloc | apply Kd.S_drewN | apply Kd.S_drew)); exact Kd.S_mono HO_380000.out (fun _ hk => ⟨hk.1.1.1.1, ⟨hk.1.2, hk.1.1.1.2⟩⟩)⟩, ⟨by (with_reducible repeat (first | apply qN | apply qD | apply qA)); exact BK374.out⟩, ⟨by (with_reducible repeat (first | apply qN | apply qD | apply qA)); exact BK379.out⟩, ⟨by repeat (first | (with_reducible first | exact HB.out | apply bA | apply bN | apply bD | refine below_set ?_ GE374.out | refine below_set ?_ GE379.out) | exact HB.out)⟩⟩
                · replace c44 := Bool.eq_false_iff.mpr c44
                  subst c44
                  have H1 : (laws_FnAscentsAreMatrices.j1 kj7 t367 t387 t394 t396 t397 true t370) = some r := by rw [if_neg (show ¬ (false = true) by decide)] at H; exact H
                  clear H
                  have H := H1
                  clear H1
                  have H' := Aside0.mk H
                  clear H
                  go_wp2
                  go_meet
                  case rel => exact ⟨_, (true), (by first | rfl | (simp; done) | (simp [*]; done)), H', ⟨by have := HJ7.out; first | omega | exact Nat.le_refl _⟩, ⟨by (with_reducible repeat (first | apply Kd.R_alloc | apply Kd.R_drewN | apply Kd.R_drew)); exact Kd.R_mono HO_5.out (fun _ hk => hk.1.2)⟩, ⟨by (with_reducible repeat (first | apply Kd.R_alloc | apply Kd.R_drewN | apply Kd.R_drew)); exact Kd.R_mono HO389.out (fun _ hk => hk.1.2)⟩, ⟨by (with_reducible repeat (first | apply Kd.S_alloc | apply Kd.S_drewN | apply Kd.S_drew)); exact Kd.S_mono HO_375000.out (fun _ hk => ⟨hk.1.1.1.1, ⟨hk.1.2, hk.1.1.1.2⟩⟩)⟩, ⟨by (with_reducible repeat (first | apply Kd.S_alloc | apply Kd.S_drewN | apply Kd.S_drew)); exact Kd.S_mono HO_380000.out (fun _ hk => ⟨hk.1.1.1.1, ⟨hk.1.2, hk.1.1.1.2⟩⟩)⟩, ⟨by (with_reducible repeat (first | apply qN | apply qD | apply qA)); exact BK374.out⟩, ⟨by (with_reducible repeat (first | apply qN | apply qD | apply qA)); exact BK379.out⟩, ⟨by repeat (first | (with_reducible first | exact HB.out | apply bA | apply bN | apply bD | refine below_set ?_ GE374.out | refine below_set ?_ GE379.out) | exact HB.out)⟩⟩
              · replace c43 := Bool.eq_false_iff.mpr c43
                subst c43
                have H1 : (laws_FnAscentsAreMatrices.j1 kj7 t367 t387 t394 t396 t397 true t370) = some r := by rw [if_neg (show ¬ (false = true) by decide)] at H; exact H
                clear H
                have H := H1
                clear H1
                have H' := Aside0.mk H
                clear H
                go_wp2
                go_meet
                case rel => exact ⟨_, (true), (by first | rfl | (simp; done) | (simp [*]; done)), H', ⟨by have := HJ7.out; first | omega | exact Nat.le_refl _⟩, ⟨by (with_reducible repeat (first | apply Kd.R_alloc | apply Kd.R_drewN | apply Kd.R_drew)); exact Kd.R_mono HO_5.out (fun _ hk => hk.1.2)⟩, ⟨by (with_reducible repeat (first | apply Kd.R_alloc | apply Kd.R_drewN | apply Kd.R_drew)); exact Kd.R_mono HO389.out (fun _ hk => hk.1.2)⟩, ⟨by (with_reducible repeat (first | apply Kd.S_alloc | apply Kd.S_drewN | apply Kd.S_drew)); exact Kd.S_mono HO_375000.out (fun _ hk => ⟨hk.1.1.1.1, ⟨hk.1.2, hk.1.1.1.2⟩⟩)⟩, ⟨by (with_reducible repeat (first | apply Kd.S_alloc | apply Kd.S_drewN | apply Kd.S_drew)); exact Kd.S_mono HO_380000.out (fun _ hk => ⟨hk.1.1.1.1, ⟨hk.1.2, hk.1.1.1.2⟩⟩)⟩, ⟨by (with_reducible repeat (first | apply qN | apply qD | apply qA)); exact BK374.out⟩, ⟨by (with_reducible repeat (first | apply qN | apply qD | apply qA)); exact BK379.out⟩, ⟨by repeat (first | (with_reducible first | exact HB.out | apply bA | apply bN | apply bD | refine below_set ?_ GE374.out | refine below_set ?_ GE379.out) | exact HB.out)⟩⟩
            case rest =>
              clear HC33
              try clear c1
              try clear c2
              try clear p2
              try clear c3
              try clear c4
              try clear c5
              try clear c6
              try clear c11
              try clear c18
              try clear c20
              try clear c20b0
              try clear c20b1
              try clear c20b2
              try clear c22
              try clear c26
              try clear c27
              try clear c30
              try clear c32
              try clear c34
              try clear c35
              try clear c36
              try clear c37
              try clear c38
              try clear c39
              try clear c43
              try clear c44
              try clear c45
              try clear c46
              try clear c48
              try clear c49
              try clear c49b0
              try clear c49b1
              try clear c51
              try clear c51b0
              try clear c51b1
              try clear c53
              try clear c53b0
              try clear c53b1
              try clear hcz14_0
              try clear hcz19_0
              try clear hcz23_0
              try clear hcz24_0
              try clear hcz35_0
              try clear hcz37_0
              try clear hcz39_0
              try clear hcz41_0
              try clear hfz14_0
              try clear hfz19_0
              try clear hfz23_0
              try clear hfz24_0
              try clear hfz35_0
              try clear hfz37_0
              try clear hfz39_0
              try clear hfz41_0
              try clear p2
              obtain ⟨kq, x120_32, rfl, HA, HJ32, HO_5, HO_14, HO_375000, HO_380000, BK374, BK379, HB⟩ := hcut
              cases kq with
              | zero => exact absurd HA.out (by simp [laws_FnAscentsAreMatrices.j1])
              | succ kj32 =>
                have H := HA.out
                clear HA
                simp only [laws_FnAscentsAreMatrices.j1] at H
                by_cases c64 : x120_32 = true
                · subst c64
                  have H1 : (some false) = some r := by rw [if_pos rfl] at H; exact H
                  clear H
                  have H := H1
                  clear H1
                  obtain rfl := Option.some.inj H
                  go_wp2
                  go_ret
                  exact ⟨by first | rfl | (simp [errW_none, errW_some] <;> rfl) | (simp [*, errW_none, errW_some] <;> rfl), by repeat (first | (with_reducible first | exact HB.out | apply bA | apply bN | apply bD | refine below_set ?_ GE374.out | refine below_set ?_ GE379.out) | exact HB.out)⟩
                · replace c64 := Bool.eq_false_iff.mpr c64
                  subst c64
                  have H1 : (if t397 = true then (laws_FnAscentsAreMatrices.l0 kj32 t367 t387 t394 t396 0 t367 (t367.length : Int) 0 t370) else (some ((t370.length : Int) == 0))) = some r := by rw [if_neg (show ¬ (false = true) by decide)] at H; exact H
                  clear H
                  have H := H1
                  clear H1
                  by_cases c65 : t397 = true
                  · subst c65
                    have H1 : (laws_FnAscentsAreMatrices.l0 kj32 t367 t387 t394 t396 0 t367 (t367.length : Int) 0 t370) = some r := by rw [if_pos rfl] at H; exact H
                    clear H
                    have H := H1
                    clear H1
                    have H' := Aside0.mk H
                    clear H
                    go_wp2
                    go_loopg [21, 129] kj32 (fun kq v21 v129 w' => ∃ (x21_3 : Int) (x129_3 : Int), v21 = .int .i64 x21_3 ∧ v129 = .int .i64 x129_3 ∧ Aside0 (laws_FnAscentsAreMatrices.l0 kq t367 t387 t394 t396 x21_3 t367 (t367.length : Int) x129_3 t370 = some r) ∧ Aside0 (kq ≤ kj32) ∧ Aside0 (Kd.R (Kd.int .i64) 3 w' w.heap.size (fun k_ => some k_ ≠ (v388 : Value).ownBlock) (.slice Ao10 t367.length co10) t367) ∧ Aside0 (Kd.R (Kd.int .i64) 3 w' w.heap.size (fun k_ => some k_ ≠ ((.slice Ao10 t367.length co10) : Value).ownBlock ∧ some k_ ≠ ((.slice Ao10 t367.length co10) : Value).ownBlock) v388 t387) ∧ Aside0 (Kd.R (Kd.int .i64) 3 w' w.heap.size (fun k_ => some k_ ≠ (v388 : Value).ownBlock) (.slice Ao10 t367.length co10) t367) ∧ Aside0 (Kd.S (Kd.slice 3 (Kd.int .i64)) 24 w' w.heap.size (fun k_ => some k_ ≠ ((.slice Ao10 t367.length co10) : Value).ownBlock ∧ some k_ ≠ (v388 : Value).ownBlock ∧ some k_ ≠ ((.slice Ao10 t367.length co10) : Value).ownBlock ∧ some k_ ≠ ((.slice Ao17 t375.length co17) : Value).ownBlock) (.slice Ao13 t370.length co13) t370) ∧ Aside0 (Kd.S (Kd.slice 3 (Kd.int .i64)) 24 w' w.heap.size (fun k_ => some k_ ≠ ((.slice Ao10 t367.length co10) : Value).ownBlock ∧ some k_ ≠ (v388 : Value).ownBlock ∧ some k_ ≠ ((.slice Ao10 t367.length co10) : Value).ownBlock ∧ some k_ ≠ ((.slice Ao13 t370.length co13) : Value).ownBlock) (.slice Ao17 t375.length co17) t375) ∧ Aside0 (w'.heap[gb374]? = some (.cells #[(.slice Ao13 t370.length co13)] 36 (0, 0))) ∧ Aside0 (w'.heap[gb379]? = some (.cells #[(.slice Ao17 t375.length co17)] 36 (0, 0))) ∧ Aside0 (Below w.heap.size w w'))
                    case atStart => exact ⟨(0), (0), (by first | rfl | (simp; done) | (simp [*]; done)), (by first | rfl | (simp; done) | (simp [*]; done)), H', ⟨Nat.le_refl _⟩, ⟨by (with_reducible repeat (first | apply Kd.R_alloc | apply Kd.R_drewN | apply Kd.R_drew)); exact HO_5.out⟩, ⟨by (with_reducible repeat (first | apply Kd.R_alloc | apply Kd.R_drewN | apply Kd.R_drew)); exact Kd.R_mono HO_14.out (fun _ hk => ⟨hk, hk⟩)⟩, ⟨by (with_reducible repeat (first | apply Kd.R_alloc | apply Kd.R_drewN | apply Kd.R_drew)); exact HO_5.out⟩, ⟨by (with_reducible repeat (first | apply Kd.S_alloc | apply Kd.S_drewN | apply Kd.S_drew)); exact Kd.S_mono HO_375000.out (fun _ hk => ⟨hk.1, ⟨hk.2.1, ⟨hk.1, hk.2.2⟩⟩⟩)⟩, ⟨by (with_reducible repeat (first | apply Kd.S_alloc | apply Kd.S_drewN | apply Kd.S_drew)); exact Kd.S_mono HO_380000.out (fun _ hk => ⟨hk.1, ⟨hk.2.1, ⟨hk.1, hk.2.2⟩⟩⟩)⟩, ⟨by (with_reducible repeat (first | apply qN | apply qD | apply qA)); exact BK374.out⟩, ⟨by (with_reducible repeat (first | apply qN | apply qD | apply qA)); exact BK379.out⟩, ⟨by repeat (first | (with_reducible first | exact HB.out | apply bA | apply bN | apply bD | refine below_set ?_ GE374.out | refine below_set ?_ GE379.out) | exact HB.out)⟩⟩
                    case round =>
                      clear H'
                      try clear c1
                      try clear c2
                      try clear p2
                      try clear c3
                      try clear c4
                      try clear c5
                      try clear c6
                      try clear c11
                      try clear c18
                      try clear c20
                      try clear c20b0
                      try clear c20b1
                      try clear c20b2
                      try clear c22
                      try clear c26
                      try clear c27
                      try clear c30
                      try clear c32
                      try clear c34
                      try clear c35
                      try clear c36
                      try clear c37
                      try clear c38
                      try clear c39
                      try clear c43
                      try clear c44
                      try clear c45
                      try clear c46
                      try clear c48
                      try clear c49
                      try clear c49b0
                      try clear c49b1
                      try clear c51
                      try clear c51b0
                      try clear c51b1
                      try clear c53
                      try clear c53b0
                      try clear c53b1
                      try clear c64
                      try clear c65
                      try clear hcz14_0
                      try clear hcz19_0
                      try clear hcz23_0
                      try clear hcz24_0
                      try clear hcz35_0
                      try clear hcz37_0
                      try clear hcz39_0
                      try clear hcz41_0
                      try clear hfz14_0
                      try clear hfz19_0
                      try clear hfz23_0
                      try clear hfz24_0
                      try clear hfz35_0
                      try clear hfz37_0
                      try clear hfz39_0
                      try clear hfz41_0
                      try clear p2
                      obtain ⟨x21_3, x129_3, rfl, rfl, HA, HK3, HO_5, HO_14, HO_127, HO_375000, HO_380000, BK374, BK379, HB⟩ := hrel
                      cases gk with
                      | zero => exact absurd HA.out (by simp [laws_FnAscentsAreMatrices.l0])
                      | succ k3 =>
                        have H := HA.out
                        clear HA
                        simp only [laws_FnAscentsAreMatrices.l0] at H
                        by_cases c66 : x129_3 < (t367.length : Int)
                        · rw [if_pos c66] at H
                          have c66b0 : decide (x129_3 < (t367.length : Int)) = true := decide_eq_true c66
                          clear c66
                          by_cases c67 : 0 ≤ x129_3
                          · rw [if_pos c67] at H
                            have c67b0 : decide (0 ≤ x129_3) = true := decide_eq_true c67
                            clear c67
                            by_cases c68 : x129_3 < (t367.length : Int)
                            · rw [if_pos c68] at H
                              have c68b0 : decide (x129_3 < (t367.length : Int)) = true := decide_eq_true c68
                              clear c68
                              by_cases c69 : (rd t367 x129_3) = 0
                              · rw [if_pos c69] at H
                                have c69b0 : ((rd t367 x129_3) == 0) = true := beq_iff_eq.mpr c69
                                have c69b1 : ((rd t367 x129_3) != 0) = false := bne_eq_false_iff_eq.mpr c69
                                clear c69
                                have H' := Aside0.mk H
                                clear H
                                have p401 : 0 ≤ (x129_3 : Int) := of_decide_eq_true (by first | (with_reducible assumption) | assumption)
                                have q401 : x129_3 < (t367.length : Int) := of_decide_eq_true (by first | (with_reducible assumption) | assumption)
                                obtain ⟨ad401, e401, hx401_0⟩ := Kd.at_int (Kd.R_reads' HO_127.out).2.2 x129_3 p401 q401
                                cases e401
                                replace p401 := eq_true p401
                                replace q401 := eq_true q401
                                go_wp2
                                go_roundg k3
                                case measure => have := HJ7.out; have := HJ32.out; have := HK3.out; omega
                                case rel => exact ⟨(wrap64 (x21_3 + 1)), (wrap64 (x129_3 + 1)), (by first | rfl | (simp; done) | (simp [*]; done)), (by first | rfl | (simp; done) | (simp [*]; done)), H', ⟨by have := HJ7.out; have := HJ32.out; have := HK3.out; omega⟩, ⟨by (with_reducible repeat (first | apply Kd.R_alloc | apply Kd.R_drewN | apply Kd.R_drew)); exact HO_5.out⟩, ⟨by (with_reducible repeat (first | apply Kd.R_alloc | apply Kd.R_drewN | apply Kd.R_drew)); exact HO_14.out⟩, ⟨by (with_reducible repeat (first | apply Kd.R_alloc | apply Kd.R_drewN | apply Kd.R_drew)); exact HO_127.out⟩, ⟨by (with_reducible repeat (first | apply Kd.S_alloc | apply Kd.S_drewN | apply Kd.S_drew)); exact HO_375000.out⟩, ⟨by (with_reducible repeat (first | apply Kd.S_alloc | apply Kd.S_drewN | apply Kd.S_drew)); exact HO_380000.out⟩, ⟨by (with_reducible repeat (first | apply qN | apply qD | apply qA)); exact BK374.out⟩, ⟨by (with_reducible repeat (first | apply qN | apply qD | apply qA)); exact BK379.out⟩, ⟨by repeat (first | (with_reducible first | exact HB.out | apply bA | apply bN | apply bD | refine below_set ?_ GE374.out | refine below_set ?_ GE379.out) | exact HB.out)⟩⟩
                              · rw [if_neg c69] at H
                                have c69b0 : ((rd t367 x129_3) == 0) = false := beq_eq_false_iff_ne.mpr c69
                                have c69b1 : ((rd t367 x129_3) != 0) = true := bne_iff_ne.mpr c69
                                have H' := Aside0.mk H
                                clear H
                                have p401 : 0 ≤ (x129_3 : Int) := of_decide_eq_true (by first | (with_reducible assumption) | assumption)
                                have q401 : x129_3 < (t367.length : Int) := of_decide_eq_true (by first | (with_reducible assumption) | assumption)
                                obtain ⟨ad401, e401, hx401_0⟩ := Kd.at_int (Kd.R_reads' HO_127.out).2.2 x129_3 p401 q401
                                cases e401
                                replace p401 := eq_true p401
                                replace q401 := eq_true q401
                                go_wp2
                                go_roundg k3
                                case measure => have := HJ7.out; have := HJ32.out; have := HK3.out; omega
                                case rel => exact ⟨(x21_3), (wrap64 (x129_3 + 1)), (by first | rfl | (simp; done) | (simp [*]; done)), (by first | rfl | (simp; done) | (simp [*]; done)), H', ⟨by have := HJ7.out; have := HJ32.out; have := HK3.out; omega⟩, ⟨by (with_reducible repeat (first | apply Kd.R_alloc | apply Kd.R_drewN | apply Kd.R_drew)); exact HO_5.out⟩, ⟨by (with_reducible repeat (first | apply Kd.R_alloc | apply Kd.R_drewN | apply Kd.R_drew)); exact HO_14.out⟩, ⟨by (with_reducible repeat (first | apply Kd.R_alloc | apply Kd.R_drewN | apply Kd.R_drew)); exact HO_127.out⟩, ⟨by (with_reducible repeat (first | apply Kd.S_alloc | apply Kd.S_drewN | apply Kd.S_drew)); exact HO_375000.out⟩, ⟨by (with_reducible repeat (first | apply Kd.S_alloc | apply Kd.S_drewN | apply Kd.S_drew)); exact HO_380000.out⟩, ⟨by (with_reducible repeat (first | apply qN | apply qD | apply qA)); exact BK374.out⟩, ⟨by (with_reducible repeat (first | apply qN | apply qD | apply qA)); exact BK379.out⟩, ⟨by repeat (first | (with_reducible first | exact HB.out | apply bA | apply bN | apply bD | refine below_set ?_ GE374.out | refine below_set ?_ GE379.out) | exact HB.out)⟩⟩
                            · rw [if_neg c68] at H
                              exact absurd H (by simp)
                          · rw [if_neg c67] at H
                            exact absurd H (by simp)
                        · rw [if_neg c66] at H
                          have c66b0 : decide (x129_3 < (t367.length : Int)) = false := decide_eq_false c66
                          clear c66
                          obtain ⟨ji70, hji70⟩ : ∃ j_ : Int, (wrap64 ((t367.length : Int) - 1)) = j_ := ⟨_, rfl⟩
                          replace H : (if 0 ≤ (ji70) then (if (ji70) < (t367.length : Int) then (if t396 = (rd t367 (ji70)) then (if (t370.length : Int) = (wrap64 (t394 + 1)) then (if 0 < (t387.length : Int) then (some ((rd t387 0) == x21_3)) else (none)) else (some false)) else (some false)) else (none)) else (none)) = some r := by first | (rw [hji70] at H; exact H) | (simp only [hji70] at H ⊢; exact H)
                          have hji70w : (IntKind.i64.wrap ((t367.length : Int) - 1)) = ji70 := (i64_w _).trans hji70
                          by_cases c71 : 0 ≤ (ji70)
                          · rw [if_pos c71] at H
                            have c71b0 : decide (0 ≤ (ji70)) = true := decide_eq_true c71
                            clear c71
                            by_cases c72 : (ji70) < (t367.length : Int)
                            · rw [if_pos c72] at H
                              have c72b0 : decide ((ji70) < (t367.length : Int)) = true := decide_eq_true c72
                              clear c72
                              by_cases c73 : t396 = (rd t367 (ji70))
                              · rw [if_pos c73] at H
                                have c73b0 : (t396 == (rd t367 (ji70))) = true := beq_iff_eq.mpr c73
                                have c73b1 : (t396 != (rd t367 (ji70))) = false := bne_eq_false_iff_eq.mpr c73
                                clear c73
                                by_cases c74 : (t370.length : Int) = (wrap64 (t394 + 1))
                                · rw [if_pos c74] at H
                                  have c74b0 : ((t370.length : Int) == (wrap64 (t394 + 1))) = true := beq_iff_eq.mpr c74
                                  have c74b1 : ((t370.length : Int) != (wrap64 (t394 + 1))) = false := bne_eq_false_iff_eq.mpr c74
                                  clear c74
                                  by_cases c75 : 0 < (t387.length : Int)
                                  · rw [if_pos c75] at H
                                    have c75b0 : decide (0 < (t387.length : Int)) = true := decide_eq_true c75
                                    have c75b1 : decide (0 < t387.length) = true := decide_eq_true (by omega)
                                    clear c75
                                    obtain rfl := Option.some.inj H
                                    have p402 : 0 ≤ ((ji70) : Int) := of_decide_eq_true (by first | (with_reducible assumption) | assumption)
                                    have q402 : (ji70) < (t367.length : Int) := of_decide_eq_true (by first | (with_reducible assumption) | assumption)
                                    obtain ⟨ad402, e402, hx402_0⟩ := Kd.at_int (Kd.R_reads' HO_5.out).2.2 (ji70) p402 q402
                                    cases e402
                                    replace p402 := eq_true p402
                                    replace q402 := eq_true q402
                                    have hnb76 := NB374_379.out
                                    have hnc76 := NB379_374.out
                                    have hcz77_0 : wr.cell? ⟨gb374, 0, none⟩ = some (.slice Ao13 t370.length co13) := (blk_cell BK374.out 0).trans rfl
                                    have hfz77_0 := blk_frozen BK374.out 0
                                    obtain ⟨Ao78, co78, eo78⟩ := Kd.R_slice HO_14.out
                                    subst eo78
                                    have p403 : 0 ≤ (0 : Int) := (by omega)
                                    have q403 : 0 < (t387.length : Int) := of_decide_eq_true (by first | (with_reducible assumption) | assumption)
                                    obtain ⟨ad403, e403, hx403_0⟩ := Kd.at_int (Kd.R_reads' HO_14.out).2.2 0 p403 q403
                                    cases e403
                                    have qi403 : (0 < t387.length) = True := eq_true (by omega)
                                    (try rw [show ((0 : Int)).toNat = 0 from rfl] at hx403_0)
                                    (try rw [Addr.add_zero'] at hx403_0)
                                    replace p403 := eq_true p403
                                    replace q403 := eq_true q403
                                    go_wp2
                                    go_ret
                                    exact ⟨by first | rfl | (simp [errW_none, errW_some] <;> rfl) | (simp only [← hji70]; first | rfl | (simp [errW_none, errW_some] <;> rfl)) | (simp [*, errW_none, errW_some] <;> rfl), by repeat (first | (with_reducible first | exact HB.out | apply bA | apply bN | apply bD | refine below_set ?_ GE374.out | refine below_set ?_ GE379.out) | exact HB.out)⟩
                                  · rw [if_neg c75] at H
                                    exact absurd H (by simp)
                                · rw [if_neg c74] at H
                                  have c74b0 : ((t370.length : Int) == (wrap64 (t394 + 1))) = false := beq_eq_false_iff_ne.mpr c74
                                  have c74b1 : ((t370.length : Int) != (wrap64 (t394 + 1))) = true := bne_iff_ne.mpr c74
                                  obtain rfl := Option.some.inj H
                                  have p402 : 0 ≤ ((ji70) : Int) := of_decide_eq_true (by first | (with_reducible assumption) | assumption)
                                  have q402 : (ji70) < (t367.length : Int) := of_decide_eq_true (by first | (with_reducible assumption) | assumption)
                                  obtain ⟨ad402, e402, hx402_0⟩ := Kd.at_int (Kd.R_reads' HO_5.out).2.2 (ji70) p402 q402
                                  cases e402
                                  replace p402 := eq_true p402
                                  replace q402 := eq_true q402
                                  have hnb79 := NB374_379.out
                                  have hnc79 := NB379_374.out
                                  have hcz80_0 : wr.cell? ⟨gb374, 0, none⟩ = some (.slice Ao13 t370.length co13) := (blk_cell BK374.out 0).trans rfl
                                  have hfz80_0 := blk_frozen BK374.out 0
                                  go_wp2
                                  go_ret
                                  exact ⟨by first | rfl | (simp [errW_none, errW_some] <;> rfl) | (simp only [← hji70]; first | rfl | (simp [errW_none, errW_some] <;> rfl)) | (simp [*, errW_none, errW_some] <;> rfl), by repeat (first | (with_reducible first | exact HB.out | apply bA | apply bN | apply bD | refine below_set ?_ GE374.out | refine below_set ?_ GE379.out) | exact HB.out)⟩
                              · rw [if_neg c73] at H
                                have c73b0 : (t396 == (rd t367 (ji70))) = false := beq_eq_false_iff_ne.mpr c73
                                have c73b1 : (t396 != (rd t367 (ji70))) = true := bne_iff_ne.mpr c73
                                obtain rfl := Option.some.inj H
                                have p402 : 0 ≤ ((ji70) : Int) := of_decide_eq_true (by first | (with_reducible assumption) | assumption)
                                have q402 : (ji70) < (t367.length : Int) := of_decide_eq_true (by first | (with_reducible assumption) | assumption)
                                obtain ⟨ad402, e402, hx402_0⟩ := Kd.at_int (Kd.R_reads' HO_5.out).2.2 (ji70) p402 q402
                                cases e402
                                replace p402 := eq_true p402
                                replace q402 := eq_true q402
                                go_wp2
                                go_ret
                                exact ⟨by first | rfl | (simp [errW_none, errW_some] <;> rfl) | (simp only [← hji70]; first | rfl | (simp [errW_none, errW_some] <;> rfl)) | (simp [*, errW_none, errW_some] <;> rfl), by repeat (first | (with_reducible first | exact HB.out | apply bA | apply bN | apply bD | refine below_set ?_ GE374.out | refine below_set ?_ GE379.out) | exact HB.out)⟩
                            · rw [if_neg c72] at H
                              exact absurd H (by simp)
                          · rw [if_neg c71] at H
                            exact absurd H (by simp)
                  · replace c65 := Bool.eq_false_iff.mpr c65
                    subst c65
                    have H1 : (some ((t370.length : Int) == 0)) = some r := by rw [if_neg (show ¬ (false = true) by decide)] at H; exact H
                    clear H
                    have H := H1
                    clear H1
                    obtain rfl := Option.some.inj H
                    have hnb81 := NB374_379.out
                    have hnc81 := NB379_374.out
                    have hcz82_0 : wc.cell? ⟨gb374, 0, none⟩ = some (.slice Ao13 t370.length co13) := (blk_cell BK374.out 0).trans rfl
                    have hfz82_0 := blk_frozen BK374.out 0
                    go_wp2
                    go_ret
                    exact ⟨by first | rfl | (simp [errW_none, errW_some] <;> rfl) | (simp [*, errW_none, errW_some] <;> rfl), by repeat (first | (with_reducible first | exact HB.out | apply bA | apply bN | apply bD | refine below_set ?_ GE374.out | refine below_set ?_ GE379.out) | exact HB.out)⟩
          · replace c27 := Bool.eq_false_iff.mpr c27
            subst c27
            have H1 : (some true) = some r := by rw [if_neg (show ¬ (false = true) by decide)] at H; exact H
            clear H
            have H := H1
            clear H1
            obtain rfl := Option.some.inj H
            go_wp2
            go_ret
            exact ⟨by first | rfl | (simp [errW_none, errW_some] <;> rfl) | (simp [*, errW_none, errW_some] <;> rfl), by repeat (first | (with_reducible first | exact HB.out | apply bA | apply bN | apply bD | refine below_set ?_ GE374.out | refine below_set ?_ GE379.out) | exact HB.out)⟩

/-- THE ONE PURE STATEMENT of laws_FnAscentsAreMatrices: yours. -/
def laws_FnAscentsAreMatrices.Pure : Prop := ∀ (l0 : List Int) (l1 : List Int), l0.length ≤ maxLen → l0.length * 1 ≤ 140737488351232 → (∀ x ∈ l0, (Lit.int .u8 x).wf = true) → l1.length ≤ maxLen → l1.length * 1 ≤ 140737488351232 → (∀ x ∈ l1, (Lit.int .u8 x).wf = true) → ∃ k, laws_FnAscentsAreMatrices.f k l0 l1 = some true
theorem laws_FnAscentsAreMatrices.walk (P : laws_FnAscentsAreMatrices.Pure) (a0 : Option Addr) (len0 cap0 : Nat) (z0 : List Int) (a1 : Option Addr) (len1 cap1 : Nat) (z1 : List Int) (w : World) (w0 : (a0 = none ∧ len0 = 0 ∧ cap0 = 0 ∧ z0 = []) ∨ ∃ x, a0 = some x ∧ len0 ≤ cap0 ∧ cap0 ≤ maxLen ∧ z0.length = cap0 ∧ (∀ i, i < z0.length → w.cell? (x.add i) = some (.int .u8 (z0.getD i 0))) ∧ ∀ n ∈ z0, (Lit.int .u8 n).wf = true) (y0 : len0 * 1 ≤ 140737488351232) (w1 : (a1 = none ∧ len1 = 0 ∧ cap1 = 0 ∧ z1 = []) ∨ ∃ x, a1 = some x ∧ len1 ≤ cap1 ∧ cap1 ≤ maxLen ∧ z1.length = cap1 ∧ (∀ i, i < z1.length → w.cell? (x.add i) = some (.int .u8 (z1.getD i 0))) ∧ ∀ n ∈ z1, (Lit.int .u8 n).wf = true) (y1 : len1 * 1 ≤ 140737488351232) :
    Calls Try.prog 6 #[.slice a0 len0 cap0, .slice a1 len1 cap1] w fun e w' => e = .returned (.bool true) ∧ Below w.heap.size w w' := by
  obtain ⟨l0, rfl, hr0, hm0, hw0, hc0⟩ := ReadsInt.ofRowC w0
  obtain ⟨l1, rfl, hr1, hm1, hw1, hc1⟩ := ReadsInt.ofRowC w1
  obtain ⟨k, h⟩ := P l0 l1 hm0 y0 hw0 hm1 y1 hw1
  refine (laws_FnAscentsAreMatrices.calls k _ _ l0 _ _ l1 true w (Kd.C_of_reads (d := (0 : Int)) (h1 := fun _ => rfl) hr0) hc0 (Kd.C_of_reads (d := (0 : Int)) (h1 := fun _ => rfl) hr1) hc1 h).mono ?_
  rintro e w' ⟨rfl, hd⟩
  exact ⟨rfl, hd⟩

end Go.Proofs.Ytacdlipojhoilaa.Bx
