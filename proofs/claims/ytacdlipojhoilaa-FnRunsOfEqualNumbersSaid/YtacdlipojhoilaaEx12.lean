-- Written by hook.py, a program of this session (wip/), which runs the kit's print.py with its own parts; Lean checks it.
import Derived.Test.YtacdlipojhoilaaEx0
import Derived.Test.YtacdlipojhoilaaEx1
import Derived.Test.YtacdlipojhoilaaEx2
import Derived.Test.YtacdlipojhoilaaEx4
import Derived.Test.YtacdlipojhoilaaEx5
import Derived.Test.YtacdlipojhoilaaEx9
import Derived.Test.YtacdlipojhoilaaEx11
namespace Go.Proofs.Ytacdlipojhoilaa.Ex
open Go.RowKit Go.Proofs.YtacdlipojhoilaaW.PrintWords Go.Proofs.YtacdlipojhoilaaW.PrintLast Go.Proofs.YtacdlipojhoilaaW.PrintMore
attribute [local go_sem] max2_int min2_int max_two min_two max_three min_three max_four min_four   -- for this text's walks alone
set_option linter.unusedVariables false
set_option linter.unusedSimpArgs false

/-! ### laws_FnRunsOfEqualNumbers: function 5 -/
mutual
def laws_FnRunsOfEqualNumbers.j0 : Nat → List Int → List Int → List Int → Bool → Bool → Option (Bool)
  | 0, _, _, _, _, _ => none
  | k + 1, x5, x6, x7, x11, x55 => if x55 = true then (some false) else (if x11 = true then ((impl_AscentsOf.f k x5).bind fun bt299 => ((impl_AscentsOf.f k x6).bind fun bt301 => (if bt299.2 = true then (if bt301.2 = true then (if bt299.1 = bt301.1 then ((laws_pSum.f k x7).bind fun t303 => (if t303 = (x5.length : Int) then (laws_FnRunsOfEqualNumbers.j1 k x5 x6 x7 ((x6.length : Int) != (x7.length : Int))) else (laws_FnRunsOfEqualNumbers.j1 k x5 x6 x7 true))) else (laws_FnRunsOfEqualNumbers.j1 k x5 x6 x7 true)) else (laws_FnRunsOfEqualNumbers.j1 k x5 x6 x7 true)) else (laws_FnRunsOfEqualNumbers.j1 k x5 x6 x7 true)))) else (some true))
def laws_FnRunsOfEqualNumbers.j1 : Nat → List Int → List Int → List Int → Bool → Option (Bool)
  | 0, _, _, _, _ => none
  | k + 1, x5, x6, x7, x92 => if x92 = true then (some false) else (laws_FnRunsOfEqualNumbers.l0 k x5 x6 x7 0 x6 (x6.length : Int) 0)
def laws_FnRunsOfEqualNumbers.l0 : Nat → List Int → List Int → List Int → Int → List Int → Int → Int → Option (Bool)
  | 0, _, _, _, _, _, _, _ => none
  | k + 1, x5, x6, x7, x16, x93, x94, x95 => if x95 < x94 then (if 0 ≤ x95 then (if x95 < (x93.length : Int) then (if x95 > 0 then (if 0 ≤ (wrap64 (x95 - 1)) then (if (wrap64 (x95 - 1)) < (x6.length : Int) then (laws_FnRunsOfEqualNumbers.j3 k x5 x6 x7 x16 x95 (rd x93 x95) x93 x94 x95 ((rd x6 (wrap64 (x95 - 1))) == (rd x93 x95))) else (none)) else (none)) else (laws_FnRunsOfEqualNumbers.j3 k x5 x6 x7 x16 x95 (rd x93 x95) x93 x94 x95 false)) else (none)) else (none)) else ((impl_MatrixOfAscent.f k x5).bind fun bt308 => ((impl_MatrixOfAscent.f k x6).bind fun bt313 => (if bt308.2 = true then (if bt313.2 = true then (if (bt308.1.length : Int) = (bt313.1.length : Int) then ((impl_IsMatrix.f k bt313.1).bind fun t318 => (some t318)) else (some false)) else (some false)) else (some false))))
def laws_FnRunsOfEqualNumbers.j3 : Nat → List Int → List Int → List Int → Int → Int → Int → List Int → Int → Int → Bool → Option (Bool)
  | 0, _, _, _, _, _, _, _, _, _, _ => none
  | k + 1, x5, x6, x7, x16, x17, x18, x93, x94, x95, x110 => if x110 = true then (some false) else (laws_FnRunsOfEqualNumbers.l1 k x5 x6 x7 x16 x17 x18 0 x93 x94 x95)
def laws_FnRunsOfEqualNumbers.l1 : Nat → List Int → List Int → List Int → Int → Int → Int → Int → List Int → Int → Int → Option (Bool)
  | 0, _, _, _, _, _, _, _, _, _, _ => none
  | k + 1, x5, x6, x7, x16, x17, x18, x19, x93, x94, x95 => if 0 ≤ x17 then (if x17 < (x7.length : Int) then (if x19 < (rd x7 x17) then (if 0 ≤ x16 then (if x16 < (x5.length : Int) then (if (rd x5 x16) = x18 then (laws_FnRunsOfEqualNumbers.l1 k x5 x6 x7 (wrap64 (x16 + 1)) x17 x18 (wrap64 (x19 + 1)) x93 x94 x95) else (some false)) else (none)) else (none)) else (laws_FnRunsOfEqualNumbers.l0 k x5 x6 x7 x16 x93 x94 (wrap64 (x95 + 1)))) else (none)) else (none)
end
def laws_FnRunsOfEqualNumbers.f (k : Nat) (l0 : List Int) (l1 : List Int) : Option (Bool) := (laws_big.f l0 l1).bind fun t279 => (if t279 = true then (some true) else ((spec_DrawMergeEqual.f k l0).bind fun t280 => ((impl_MergeEqual.f k t280).bind fun bt283 => ((spec_MergeEqual.f k t280).bind fun bt290 => (if (bt283.2.2 != bt290.2.2) = true then (laws_FnRunsOfEqualNumbers.j0 k t280 bt283.1 bt283.2.1 bt290.2.2 true) else ((laws_pSame.f k bt283.1 bt290.1).bind fun t297 => (if t297 = true then ((laws_pSame.f k bt283.2.1 bt290.2.1).bind fun t298 => (laws_FnRunsOfEqualNumbers.j0 k t280 bt283.1 bt283.2.1 bt290.2.2 (!t298))) else (laws_FnRunsOfEqualNumbers.j0 k t280 bt283.1 bt283.2.1 bt290.2.2 true))))))))
theorem laws_FnRunsOfEqualNumbers.mono_l : ∀ k, (∀ y0 y1 y2 y3 y4, LeO (laws_FnRunsOfEqualNumbers.j0 k y0 y1 y2 y3 y4) (laws_FnRunsOfEqualNumbers.j0 (k + 1) y0 y1 y2 y3 y4)) ∧ (∀ y0 y1 y2 y3, LeO (laws_FnRunsOfEqualNumbers.j1 k y0 y1 y2 y3) (laws_FnRunsOfEqualNumbers.j1 (k + 1) y0 y1 y2 y3)) ∧ (∀ y0 y1 y2 y3 y4 y5 y6, LeO (laws_FnRunsOfEqualNumbers.l0 k y0 y1 y2 y3 y4 y5 y6) (laws_FnRunsOfEqualNumbers.l0 (k + 1) y0 y1 y2 y3 y4 y5 y6)) ∧ (∀ y0 y1 y2 y3 y4 y5 y6 y7 y8 y9, LeO (laws_FnRunsOfEqualNumbers.j3 k y0 y1 y2 y3 y4 y5 y6 y7 y8 y9) (laws_FnRunsOfEqualNumbers.j3 (k + 1) y0 y1 y2 y3 y4 y5 y6 y7 y8 y9)) ∧ (∀ y0 y1 y2 y3 y4 y5 y6 y7 y8 y9, LeO (laws_FnRunsOfEqualNumbers.l1 k y0 y1 y2 y3 y4 y5 y6 y7 y8 y9) (laws_FnRunsOfEqualNumbers.l1 (k + 1) y0 y1 y2 y3 y4 y5 y6 y7 y8 y9))
  | 0 => ⟨fun _ _ _ _ _ r h => by simp [laws_FnRunsOfEqualNumbers.j0] at h, fun _ _ _ _ r h => by simp [laws_FnRunsOfEqualNumbers.j1] at h, fun _ _ _ _ _ _ _ r h => by simp [laws_FnRunsOfEqualNumbers.l0] at h, fun _ _ _ _ _ _ _ _ _ _ r h => by simp [laws_FnRunsOfEqualNumbers.j3] at h, fun _ _ _ _ _ _ _ _ _ _ r h => by simp [laws_FnRunsOfEqualNumbers.l1] at h⟩
  | k + 1 => by
    obtain ⟨ih0, ih1, ih2, ih3, ih4⟩ := laws_FnRunsOfEqualNumbers.mono_l k
    refine ⟨?_, ?_, ?_, ?_, ?_⟩
    · intro y0 y1 y2 y3 y4
      unfold laws_FnRunsOfEqualNumbers.j0
      repeat' first | with_reducible first | exact ih0 _ _ _ _ _ | exact ih1 _ _ _ _ | exact ih2 _ _ _ _ _ _ _ | exact ih3 _ _ _ _ _ _ _ _ _ _ | exact ih4 _ _ _ _ _ _ _ _ _ _ | exact impl_AscentsOf.mono _ _ | exact impl_IsMatrix.mono _ _ | exact impl_MatrixOfAscent.mono _ _ | exact impl_MergeEqual.mono _ _ | exact laws_pSame.mono _ _ _ | exact laws_pSum.mono _ _ | exact spec_DrawMergeEqual.mono _ _ | exact spec_MergeEqual.mono _ _ | exact LeO.refl _ | exact LeO.none _ | refine LeO.ite ?_ ?_ | refine LeO.bind ?_ (fun _ => ?_)
    · intro y0 y1 y2 y3
      unfold laws_FnRunsOfEqualNumbers.j1
      repeat' first | with_reducible first | exact ih0 _ _ _ _ _ | exact ih1 _ _ _ _ | exact ih2 _ _ _ _ _ _ _ | exact ih3 _ _ _ _ _ _ _ _ _ _ | exact ih4 _ _ _ _ _ _ _ _ _ _ | exact impl_AscentsOf.mono _ _ | exact impl_IsMatrix.mono _ _ | exact impl_MatrixOfAscent.mono _ _ | exact impl_MergeEqual.mono _ _ | exact laws_pSame.mono _ _ _ | exact laws_pSum.mono _ _ | exact spec_DrawMergeEqual.mono _ _ | exact spec_MergeEqual.mono _ _ | exact LeO.refl _ | exact LeO.none _ | refine LeO.ite ?_ ?_ | refine LeO.bind ?_ (fun _ => ?_)
    · intro y0 y1 y2 y3 y4 y5 y6
      unfold laws_FnRunsOfEqualNumbers.l0
      repeat' first | with_reducible first | exact ih0 _ _ _ _ _ | exact ih1 _ _ _ _ | exact ih2 _ _ _ _ _ _ _ | exact ih3 _ _ _ _ _ _ _ _ _ _ | exact ih4 _ _ _ _ _ _ _ _ _ _ | exact impl_AscentsOf.mono _ _ | exact impl_IsMatrix.mono _ _ | exact impl_MatrixOfAscent.mono _ _ | exact impl_MergeEqual.mono _ _ | exact laws_pSame.mono _ _ _ | exact laws_pSum.mono _ _ | exact spec_DrawMergeEqual.mono _ _ | exact spec_MergeEqual.mono _ _ | exact LeO.refl _ | exact LeO.none _ | refine LeO.ite ?_ ?_ | refine LeO.bind ?_ (fun _ => ?_)
    · intro y0 y1 y2 y3 y4 y5 y6 y7 y8 y9
      unfold laws_FnRunsOfEqualNumbers.j3
      repeat' first | with_reducible first | exact ih0 _ _ _ _ _ | exact ih1 _ _ _ _ | exact ih2 _ _ _ _ _ _ _ | exact ih3 _ _ _ _ _ _ _ _ _ _ | exact ih4 _ _ _ _ _ _ _ _ _ _ | exact impl_AscentsOf.mono _ _ | exact impl_IsMatrix.mono _ _ | exact impl_MatrixOfAscent.mono _ _ | exact impl_MergeEqual.mono _ _ | exact laws_pSame.mono _ _ _ | exact laws_pSum.mono _ _ | exact spec_DrawMergeEqual.mono _ _ | exact spec_MergeEqual.mono _ _ | exact LeO.refl _ | exact LeO.none _ | refine LeO.ite ?_ ?_ | refine LeO.bind ?_ (fun _ => ?_)
    · intro y0 y1 y2 y3 y4 y5 y6 y7 y8 y9
      unfold laws_FnRunsOfEqualNumbers.l1
      repeat' first | with_reducible first | exact ih0 _ _ _ _ _ | exact ih1 _ _ _ _ | exact ih2 _ _ _ _ _ _ _ | exact ih3 _ _ _ _ _ _ _ _ _ _ | exact ih4 _ _ _ _ _ _ _ _ _ _ | exact impl_AscentsOf.mono _ _ | exact impl_IsMatrix.mono _ _ | exact impl_MatrixOfAscent.mono _ _ | exact impl_MergeEqual.mono _ _ | exact laws_pSame.mono _ _ _ | exact laws_pSum.mono _ _ | exact spec_DrawMergeEqual.mono _ _ | exact spec_MergeEqual.mono _ _ | exact LeO.refl _ | exact LeO.none _ | refine LeO.ite ?_ ?_ | refine LeO.bind ?_ (fun _ => ?_)
theorem laws_FnRunsOfEqualNumbers.mono : ∀ a0 a1 k, LeO (laws_FnRunsOfEqualNumbers.f k a0 a1) (laws_FnRunsOfEqualNumbers.f (k + 1) a0 a1) := by
  intro a0 a1 k
  obtain ⟨ih0, ih1, ih2, ih3, ih4⟩ := laws_FnRunsOfEqualNumbers.mono_l k
  unfold laws_FnRunsOfEqualNumbers.f
  repeat' first | with_reducible first | exact ih0 _ _ _ _ _ | exact ih1 _ _ _ _ | exact ih2 _ _ _ _ _ _ _ | exact ih3 _ _ _ _ _ _ _ _ _ _ | exact ih4 _ _ _ _ _ _ _ _ _ _ | exact impl_AscentsOf.mono _ _ | exact impl_IsMatrix.mono _ _ | exact impl_MatrixOfAscent.mono _ _ | exact impl_MergeEqual.mono _ _ | exact laws_pSame.mono _ _ _ | exact laws_pSum.mono _ _ | exact spec_DrawMergeEqual.mono _ _ | exact spec_MergeEqual.mono _ _ | exact LeO.refl _ | exact LeO.none _ | refine LeO.ite ?_ ?_ | refine LeO.bind ?_ (fun _ => ?_)
set_option maxHeartbeats 8000000 in
set_option maxRecDepth 100000 in
theorem laws_FnRunsOfEqualNumbers.calls (k : Nat) (A0 : Option Addr) (c0 : Nat) (l0 : List Int) (A1 : Option Addr) (c1 : Nat) (l1 : List Int) (r : Bool) (w : World) (hr0 : Kd.C (Kd.int .u8) w A0 l0.length l0) (hc0 : l0.length ≤ c0) (hr1 : Kd.C (Kd.int .u8) w A1 l1.length l1) (hc1 : l1.length ≤ c1) (h : laws_FnRunsOfEqualNumbers.f k l0 l1 = some r) :
    Calls Try.prog 5 #[.slice A0 l0.length c0, .slice A1 l1.length c1] w fun e w' => e = .returned (.bool r) ∧ Below w.heap.size w w' := by
  have hu36 := Try.underlying36
  have HR0 := Aside0.mk hr0
  have HC0 := Aside0.mk hc0
  clear hr0 hc0
  have HR1 := Aside0.mk hr1
  have HC1 := Aside0.mk hc1
  clear hr1 hc1
  have HB := Aside0.mk (Below.refl w.heap.size w)
  have H : ((laws_big.f l0 l1).bind fun t279 => (if t279 = true then (some true) else ((spec_DrawMergeEqual.f k l0).bind fun t280 => ((impl_MergeEqual.f k t280).bind fun bt283 => ((spec_MergeEqual.f k t280).bind fun bt290 => (if (bt283.2.2 != bt290.2.2) = true then (laws_FnRunsOfEqualNumbers.j0 k t280 bt283.1 bt283.2.1 bt290.2.2 true) else ((laws_pSame.f k bt283.1 bt290.1).bind fun t297 => (if t297 = true then ((laws_pSame.f k bt283.2.1 bt290.2.1).bind fun t298 => (laws_FnRunsOfEqualNumbers.j0 k t280 bt283.1 bt283.2.1 bt290.2.2 (!t298))) else (laws_FnRunsOfEqualNumbers.j0 k t280 bt283.1 bt283.2.1 bt290.2.2 true))))))))) = some r := h
  clear h
  replace H := Option.bind_eq_some_iff.mp H
  obtain ⟨t279, A30, H⟩ := H
  replace H : (if t279 = true then (some true) else ((spec_DrawMergeEqual.f k l0).bind fun t280 => ((impl_MergeEqual.f k t280).bind fun bt283 => ((spec_MergeEqual.f k t280).bind fun bt290 => (if (bt283.2.2 != bt290.2.2) = true then (laws_FnRunsOfEqualNumbers.j0 k t280 bt283.1 bt283.2.1 bt290.2.2 true) else ((laws_pSame.f k bt283.1 bt290.1).bind fun t297 => (if t297 = true then ((laws_pSame.f k bt283.2.1 bt290.2.1).bind fun t298 => (laws_FnRunsOfEqualNumbers.j0 k t280 bt283.1 bt283.2.1 bt290.2.2 (!t298))) else (laws_FnRunsOfEqualNumbers.j0 k t280 bt283.1 bt283.2.1 bt290.2.2 true)))))))) = some r := H
  have A3 := Aside0.mk A30
  clear A30
  by_cases c4 : t279 = true
  · subst c4
    have H1 : (some true) = some r := by rw [if_pos rfl] at H; exact H
    clear H
    have H := H1
    clear H1
    obtain rfl := Option.some.inj H
    go_enter Try.func5, Try.ntmps5
    go_wp2_with (first | ((with_reducible refine gate_callee (f := 11) rfl ?_); refine goesL_ (some 26) rfl rfl Try.func11 (by kernel_rfl) rfl #[.slice A0 l0.length c0, .slice A1 l1.length c1] rfl (by (try simp only [List.map_toArray, List.map_cons, List.map_nil]); first | done | rfl | (simp only [List.length_drop, List.length_take]; rfl)) ?_; (with_reducible refine (laws_big.calls _ _ l0 _ _ l1 true _ ?side1 ?side2 ?side3 ?side4 A3.out).mono ?_); (case side1 => repeat (first | exact HR0.out | (with_reducible refine Kd.C_alloc ?_ _) | (with_reducible refine Kd.C_drewN ?_ _) | (with_reducible refine Kd.C_drew ?_))); (case side2 => exact HC0.out); (case side3 => repeat (first | exact HR1.out | (with_reducible refine Kd.C_alloc ?_ _) | (with_reducible refine Kd.C_drewN ?_ _) | (with_reducible refine Kd.C_drew ?_))); (case side4 => exact HC1.out); rintro e w' ⟨rfl, ⟨nd, rfl⟩⟩; refine ⟨_, rfl, ?_⟩))
    go_ret
    exact ⟨by first | rfl | (simp [errW_none, errW_some] <;> rfl) | (simp [*, errW_none, errW_some] <;> rfl), by repeat (first | (with_reducible first | exact HB.out | apply bA | apply bN | apply bD) | exact HB.out)⟩
  · replace c4 := Bool.eq_false_iff.mpr c4
    subst c4
    have H1 : ((spec_DrawMergeEqual.f k l0).bind fun t280 => ((impl_MergeEqual.f k t280).bind fun bt283 => ((spec_MergeEqual.f k t280).bind fun bt290 => (if (bt283.2.2 != bt290.2.2) = true then (laws_FnRunsOfEqualNumbers.j0 k t280 bt283.1 bt283.2.1 bt290.2.2 true) else ((laws_pSame.f k bt283.1 bt290.1).bind fun t297 => (if t297 = true then ((laws_pSame.f k bt283.2.1 bt290.2.1).bind fun t298 => (laws_FnRunsOfEqualNumbers.j0 k t280 bt283.1 bt283.2.1 bt290.2.2 (!t298))) else (laws_FnRunsOfEqualNumbers.j0 k t280 bt283.1 bt283.2.1 bt290.2.2 true))))))) = some r := by rw [if_neg (show ¬ (false = true) by decide)] at H; exact H
    clear H
    have H := H1
    clear H1
    replace H := Option.bind_eq_some_iff.mp H
    obtain ⟨t280, A50, H⟩ := H
    replace H : ((impl_MergeEqual.f k t280).bind fun bt283 => ((spec_MergeEqual.f k t280).bind fun bt290 => (if (bt283.2.2 != bt290.2.2) = true then (laws_FnRunsOfEqualNumbers.j0 k t280 bt283.1 bt283.2.1 bt290.2.2 true) else ((laws_pSame.f k bt283.1 bt290.1).bind fun t297 => (if t297 = true then ((laws_pSame.f k bt283.2.1 bt290.2.1).bind fun t298 => (laws_FnRunsOfEqualNumbers.j0 k t280 bt283.1 bt283.2.1 bt290.2.2 (!t298))) else (laws_FnRunsOfEqualNumbers.j0 k t280 bt283.1 bt283.2.1 bt290.2.2 true)))))) = some r := H
    have A5 := Aside0.mk A50
    clear A50
    replace H := Option.bind_eq_some_iff.mp H
    obtain ⟨⟨t283, t284, t285⟩, A60, H⟩ := H
    replace H : ((spec_MergeEqual.f k t280).bind fun bt290 => (if (t285 != bt290.2.2) = true then (laws_FnRunsOfEqualNumbers.j0 k t280 t283 t284 bt290.2.2 true) else ((laws_pSame.f k t283 bt290.1).bind fun t297 => (if t297 = true then ((laws_pSame.f k t284 bt290.2.1).bind fun t298 => (laws_FnRunsOfEqualNumbers.j0 k t280 t283 t284 bt290.2.2 (!t298))) else (laws_FnRunsOfEqualNumbers.j0 k t280 t283 t284 bt290.2.2 true))))) = some r := H
    have A6 := Aside0.mk A60
    clear A60
    replace H := Option.bind_eq_some_iff.mp H
    obtain ⟨⟨t290, t291, t292⟩, A70, H⟩ := H
    replace H : (if (t285 != t292) = true then (laws_FnRunsOfEqualNumbers.j0 k t280 t283 t284 t292 true) else ((laws_pSame.f k t283 t290).bind fun t297 => (if t297 = true then ((laws_pSame.f k t284 t291).bind fun t298 => (laws_FnRunsOfEqualNumbers.j0 k t280 t283 t284 t292 (!t298))) else (laws_FnRunsOfEqualNumbers.j0 k t280 t283 t284 t292 true)))) = some r := H
    have A7 := Aside0.mk A70
    clear A70
    have HC8 := Aside0.mk H
    clear H
    go_enter Try.func5, Try.ntmps5
    go_upto_region 6 with (first | ((with_reducible refine gate_callee (f := 11) rfl ?_); refine goesL_ (some 26) rfl rfl Try.func11 (by kernel_rfl) rfl #[.slice A0 l0.length c0, .slice A1 l1.length c1] rfl (by (try simp only [List.map_toArray, List.map_cons, List.map_nil]); first | done | rfl | (simp only [List.length_drop, List.length_take]; rfl)) ?_; (with_reducible refine (laws_big.calls _ _ l0 _ _ l1 false _ ?side1 ?side2 ?side3 ?side4 A3.out).mono ?_); (case side1 => repeat (first | exact HR0.out | (with_reducible refine Kd.C_alloc ?_ _) | (with_reducible refine Kd.C_drewN ?_ _) | (with_reducible refine Kd.C_drew ?_))); (case side2 => exact HC0.out); (case side3 => repeat (first | exact HR1.out | (with_reducible refine Kd.C_alloc ?_ _) | (with_reducible refine Kd.C_drewN ?_ _) | (with_reducible refine Kd.C_drew ?_))); (case side4 => exact HC1.out); rintro e w' ⟨rfl, ⟨nd, rfl⟩⟩; refine ⟨_, rfl, ?_⟩) | ((with_reducible refine gate_callee (f := 27) rfl ?_); refine goesL_ (some 28) rfl rfl Try.func27 (by kernel_rfl) rfl #[.slice A0 l0.length c0] rfl (by (try simp only [List.map_toArray, List.map_cons, List.map_nil]); first | done | rfl | (simp only [List.length_drop, List.length_take]; rfl)) ?_; (with_reducible refine (spec_DrawMergeEqual.calls k _ _ l0 t280 _ ?side1 ?side2 A5.out).mono ?_); (case side1 => repeat (first | exact HR0.out | (with_reducible refine Kd.C_alloc ?_ _) | (with_reducible refine Kd.C_drewN ?_ _) | (with_reducible refine Kd.C_drew ?_))); (case side2 => exact HC0.out); rintro e w9 ⟨v281, rfl, ho0, hb⟩; refine ⟨_, rfl, ?_⟩; have n0_ := Aside0.mk (Kd.R_lower ho0 (below_size (by repeat (first | (with_reducible first | exact HB.out | apply bA | apply bN | apply bD) | exact HB.out)))); have n1_ := Aside0.mk (below_step (by repeat (first | (with_reducible first | exact HB.out | apply bA | apply bN | apply bD) | exact HB.out)) hb); clear HB; have HO282 := n0_; have HB := n1_; clear n0_ n1_; (try clear hb); (try clear hb2); (try clear hk); (try clear hi); (try clear ho0); obtain ⟨Ao10, co10, eo10⟩ := Kd.R_slice HO282.out; subst eo10) | ((with_reducible refine gate_callee (f := 28) rfl ?_); refine goesL_ (some 31) rfl rfl Try.func28 (by kernel_rfl) rfl #[.slice Ao10 t280.length co10] rfl (by (try simp only [List.map_toArray, List.map_cons, List.map_nil]); first | done | rfl | (simp only [List.length_drop, List.length_take]; rfl)) ?_; (with_reducible refine (impl_MergeEqual.calls k _ _ t280 t283 t284 t285 _ ?side1 ?side2 A6.out).mono ?_); (case side1 => repeat (first | exact (Kd.R_reads' HO282.out).2.2 | (with_reducible refine Kd.C_alloc ?_ _) | (with_reducible refine Kd.C_drewN ?_ _) | (with_reducible refine Kd.C_drew ?_))); (case side2 => exact (Kd.R_reads' HO282.out).2.1); rintro e w11 ⟨v286, v288, rfl, ho0, ho1, hb⟩; refine ⟨_, rfl, ?_⟩; have n0_ := Aside0.mk (Kd.R_mono (Kd.R_told (Kd.R_told (Kd.R_old (by (with_reducible repeat (first | apply Kd.R_alloc | apply Kd.R_drewN | apply Kd.R_drew)); exact HO282.out) hb) (Kd.R_base ho0)) (Kd.R_base ho1)) (fun _ h_ => h_.1)); have n1_ := Aside0.mk (Kd.R_lower (Kd.R_new' ho0 (Kd.R_lt (by (with_reducible repeat (first | apply Kd.R_alloc | apply Kd.R_drewN | apply Kd.R_drew)); exact HO282.out))) (below_size (by repeat (first | (with_reducible first | exact HB.out | apply bA | apply bN | apply bD) | exact HB.out)))); have n2_ := Aside0.mk (Kd.R_lower (Kd.R_new' ho1 (Kd.R_lt (by (with_reducible repeat (first | apply Kd.R_alloc | apply Kd.R_drewN | apply Kd.R_drew)); exact HO282.out))) (below_size (by repeat (first | (with_reducible first | exact HB.out | apply bA | apply bN | apply bD) | exact HB.out)))); have n3_ := Aside0.mk (below_step (by repeat (first | (with_reducible first | exact HB.out | apply bA | apply bN | apply bD) | exact HB.out)) hb); clear HO282; clear HB; have HO282 := n0_; have HO287 := n1_; have HO289 := n2_; have HB := n3_; clear n0_ n1_ n2_ n3_; (try clear hb); (try clear hb2); (try clear hk); (try clear hi); (try clear ho0); (try clear ho1)) | ((with_reducible refine gate_callee (f := 29) rfl ?_); refine goesL_ (some 37) rfl rfl Try.func29 (by kernel_rfl) rfl #[.slice Ao10 t280.length co10] rfl (by (try simp only [List.map_toArray, List.map_cons, List.map_nil]); first | done | rfl | (simp only [List.length_drop, List.length_take]; rfl)) ?_; (with_reducible refine (spec_MergeEqual.calls k _ _ t280 t290 t291 t292 _ ?side1 ?side2 A7.out).mono ?_); (case side1 => repeat (first | exact (Kd.R_reads' HO282.out).2.2 | (with_reducible refine Kd.C_alloc ?_ _) | (with_reducible refine Kd.C_drewN ?_ _) | (with_reducible refine Kd.C_drew ?_))); (case side2 => exact (Kd.R_reads' HO282.out).2.1); rintro e w12 ⟨v293, v295, rfl, ho0, ho1, hb⟩; refine ⟨_, rfl, ?_⟩; have n0_ := Aside0.mk (Kd.R_mono (Kd.R_told (Kd.R_told (Kd.R_old (by (with_reducible repeat (first | apply Kd.R_alloc | apply Kd.R_drewN | apply Kd.R_drew)); exact HO282.out) hb) (Kd.R_base ho0)) (Kd.R_base ho1)) (fun _ h_ => h_.1)); have n1_ := Aside0.mk (Kd.R_mono (Kd.R_told (Kd.R_told (Kd.R_old (by (with_reducible repeat (first | apply Kd.R_alloc | apply Kd.R_drewN | apply Kd.R_drew)); exact HO287.out) hb) (Kd.R_base ho0)) (Kd.R_base ho1)) (fun _ h_ => h_.1)); have n2_ := Aside0.mk (Kd.R_mono (Kd.R_told (Kd.R_told (Kd.R_old (by (with_reducible repeat (first | apply Kd.R_alloc | apply Kd.R_drewN | apply Kd.R_drew)); exact HO289.out) hb) (Kd.R_base ho0)) (Kd.R_base ho1)) (fun _ h_ => h_.1)); have n3_ := Aside0.mk (Kd.R_lower (Kd.R_new' (Kd.R_new' (Kd.R_new' ho0 (Kd.R_lt (by (with_reducible repeat (first | apply Kd.R_alloc | apply Kd.R_drewN | apply Kd.R_drew)); exact HO282.out))) (Kd.R_lt (by (with_reducible repeat (first | apply Kd.R_alloc | apply Kd.R_drewN | apply Kd.R_drew)); exact HO287.out))) (Kd.R_lt (by (with_reducible repeat (first | apply Kd.R_alloc | apply Kd.R_drewN | apply Kd.R_drew)); exact HO289.out))) (below_size (by repeat (first | (with_reducible first | exact HB.out | apply bA | apply bN | apply bD) | exact HB.out)))); have n4_ := Aside0.mk (Kd.R_lower (Kd.R_new' (Kd.R_new' (Kd.R_new' ho1 (Kd.R_lt (by (with_reducible repeat (first | apply Kd.R_alloc | apply Kd.R_drewN | apply Kd.R_drew)); exact HO282.out))) (Kd.R_lt (by (with_reducible repeat (first | apply Kd.R_alloc | apply Kd.R_drewN | apply Kd.R_drew)); exact HO287.out))) (Kd.R_lt (by (with_reducible repeat (first | apply Kd.R_alloc | apply Kd.R_drewN | apply Kd.R_drew)); exact HO289.out))) (below_size (by repeat (first | (with_reducible first | exact HB.out | apply bA | apply bN | apply bD) | exact HB.out)))); have n5_ := Aside0.mk (below_step (by repeat (first | (with_reducible first | exact HB.out | apply bA | apply bN | apply bD) | exact HB.out)) hb); clear HO282; clear HO287; clear HO289; clear HB; have HO282 := n0_; have HO287 := n1_; have HO289 := n2_; have HO294 := n3_; have HO296 := n4_; have HB := n5_; clear n0_ n1_ n2_ n3_ n4_ n5_; (try clear hb); (try clear hb2); (try clear hk); (try clear hi); (try clear ho0); (try clear ho1)))
    (try simp only [Act.put, List.setIfInBounds_toArray, List.set_cons_zero, List.set_cons_succ])
    go_cut [55] (fun v55 wc => ∃ (kq : Nat) (x55_7 : Bool), v55 = .bool x55_7 ∧ Aside0 (laws_FnRunsOfEqualNumbers.j0 kq t280 t283 t284 t292 x55_7 = some r) ∧ Aside0 (kq ≤ k) ∧ Aside0 (Kd.R (Kd.int .i64) 3 wc w.heap.size (fun k_ => some k_ ≠ (v286 : Value).ownBlock ∧ some k_ ≠ (v288 : Value).ownBlock) (.slice Ao10 t280.length co10) t280) ∧ Aside0 (Kd.R (Kd.int .i64) 3 wc w.heap.size (fun k_ => some k_ ≠ ((.slice Ao10 t280.length co10) : Value).ownBlock ∧ some k_ ≠ (v288 : Value).ownBlock) v286 t283) ∧ Aside0 (Kd.R (Kd.int .i64) 3 wc w.heap.size (fun k_ => some k_ ≠ ((.slice Ao10 t280.length co10) : Value).ownBlock ∧ some k_ ≠ (v286 : Value).ownBlock) v288 t284) ∧ Aside0 (Below w.heap.size w wc))
    case first =>
      have H := HC8.out
      clear HC8
      by_cases c13 : (t285 != t292) = true
      · rw [if_pos c13] at H
        have c13b0 : (t285 != t292) = true := c13
        (try (have c13b1 : decide (t285 = t292) = false := by simpa using c13))
        (try (have c13b2 : (t285 == t292) = false := by simpa using c13))
        (try (have c13b3 : ¬ (t285 = t292) := by simpa using c13))
        clear c13
        (first | rw [c13b0] | (simp only [i64_w, i32_w]; rw [c13b0]) | skip)
        have H' := Aside0.mk H
        clear H
        go_wp2
        go_meet
        case rel => exact ⟨_, (true), (by first | rfl | (simp; done) | (simp [*]; done)), H', ⟨by first | omega | exact Nat.le_refl _⟩, ⟨by (with_reducible repeat (first | apply Kd.R_alloc | apply Kd.R_drewN | apply Kd.R_drew)); exact Kd.R_mono HO282.out (fun _ hk => ⟨hk.1.1.1.2, hk.1.1.2⟩)⟩, ⟨by (with_reducible repeat (first | apply Kd.R_alloc | apply Kd.R_drewN | apply Kd.R_drew)); exact Kd.R_mono HO287.out (fun _ hk => ⟨hk.1.1.2, hk.1.1.1⟩)⟩, ⟨by (with_reducible repeat (first | apply Kd.R_alloc | apply Kd.R_drewN | apply Kd.R_drew)); exact Kd.R_mono HO289.out (fun _ hk => ⟨hk.1.1.2, hk.1.1.1⟩)⟩, ⟨by repeat (first | (with_reducible first | exact HB.out | apply bA | apply bN | apply bD) | exact HB.out)⟩⟩
      · rw [if_neg c13] at H
        have c13b0 : (t285 != t292) = false := by simpa using c13
        (try (have c13b1 : decide (t285 = t292) = true := by simpa using c13))
        (try (have c13b2 : (t285 == t292) = true := by simpa using c13))
        clear c13
        (first | rw [c13b0] | (simp only [i64_w, i32_w]; rw [c13b0]) | skip)
        replace H := Option.bind_eq_some_iff.mp H
        obtain ⟨t297, A140, H⟩ := H
        replace H : (if t297 = true then ((laws_pSame.f k t284 t291).bind fun t298 => (laws_FnRunsOfEqualNumbers.j0 k t280 t283 t284 t292 (!t298))) else (laws_FnRunsOfEqualNumbers.j0 k t280 t283 t284 t292 true)) = some r := H
        have A14 := Aside0.mk A140
        clear A140
        by_cases c15 : t297 = true
        · subst c15
          have H1 : ((laws_pSame.f k t284 t291).bind fun t298 => (laws_FnRunsOfEqualNumbers.j0 k t280 t283 t284 t292 (!t298))) = some r := by rw [if_pos rfl] at H; exact H
          clear H
          have H := H1
          clear H1
          replace H := Option.bind_eq_some_iff.mp H
          obtain ⟨t298, A160, H⟩ := H
          replace H : (laws_FnRunsOfEqualNumbers.j0 k t280 t283 t284 t292 (!t298)) = some r := H
          have A16 := Aside0.mk A160
          clear A160
          have H' := Aside0.mk H
          clear H
          obtain ⟨Ao17, co17, eo17⟩ := Kd.R_slice HO287.out
          subst eo17
          obtain ⟨Ao18, co18, eo18⟩ := Kd.R_slice HO294.out
          subst eo18
          go_wp2_with (first | (go_at_call 17; (with_reducible refine (laws_pSame.calls k _ _ t283 _ _ t290 true _ ?side1 ?side2 ?side3 ?side4 A14.out).mono ?_); (case side1 => repeat (first | exact (Kd.R_reads' HO287.out).2.2 | (with_reducible refine Kd.C_alloc ?_ _) | (with_reducible refine Kd.C_drewN ?_ _) | (with_reducible refine Kd.C_drew ?_))); (case side2 => exact (Kd.R_reads' HO287.out).2.1); (case side3 => repeat (first | exact (Kd.R_reads' HO294.out).2.2 | (with_reducible refine Kd.C_alloc ?_ _) | (with_reducible refine Kd.C_drewN ?_ _) | (with_reducible refine Kd.C_drew ?_))); (case side4 => exact (Kd.R_reads' HO294.out).2.1); rintro e w' ⟨rfl, ⟨nd, rfl⟩⟩; obtain ⟨Ao19, co19, eo19⟩ := Kd.R_slice HO289.out; subst eo19; obtain ⟨Ao20, co20, eo20⟩ := Kd.R_slice HO296.out; subst eo20) | (go_at_call 17; (with_reducible refine (laws_pSame.calls k _ _ t284 _ _ t291 t298 _ ?side1 ?side2 ?side3 ?side4 A16.out).mono ?_); (case side1 => repeat (first | exact (Kd.R_reads' HO289.out).2.2 | (with_reducible refine Kd.C_alloc ?_ _) | (with_reducible refine Kd.C_drewN ?_ _) | (with_reducible refine Kd.C_drew ?_))); (case side2 => exact (Kd.R_reads' HO289.out).2.1); (case side3 => repeat (first | exact (Kd.R_reads' HO296.out).2.2 | (with_reducible refine Kd.C_alloc ?_ _) | (with_reducible refine Kd.C_drewN ?_ _) | (with_reducible refine Kd.C_drew ?_))); (case side4 => exact (Kd.R_reads' HO296.out).2.1); rintro e w' ⟨rfl, ⟨nd, rfl⟩⟩))
          go_meet
          case rel => exact ⟨_, (!t298), (by first | rfl | (simp; done) | (simp [*]; done)), H', ⟨by first | omega | exact Nat.le_refl _⟩, ⟨by (with_reducible repeat (first | apply Kd.R_alloc | apply Kd.R_drewN | apply Kd.R_drew)); exact Kd.R_mono HO282.out (fun _ hk => ⟨hk.1.1.1.2, hk.1.1.2⟩)⟩, ⟨by (with_reducible repeat (first | apply Kd.R_alloc | apply Kd.R_drewN | apply Kd.R_drew)); exact Kd.R_mono HO287.out (fun _ hk => ⟨hk.1.1.2, hk.1.1.1⟩)⟩, ⟨by (with_reducible repeat (first | apply Kd.R_alloc | apply Kd.R_drewN | apply Kd.R_drew)); exact Kd.R_mono HO289.out (fun _ hk => ⟨hk.1.1.2, hk.1.1.1⟩)⟩, ⟨by repeat (first | (with_reducible first | exact HB.out | apply bA | apply bN | apply bD) | exact HB.out)⟩⟩
        · replace c15 := Bool.eq_false_iff.mpr c15
          subst c15
          have H1 : (laws_FnRunsOfEqualNumbers.j0 k t280 t283 t284 t292 true) = some r := by rw [if_neg (show ¬ (false = true) by decide)] at H; exact H
          clear H
          have H := H1
          clear H1
          have H' := Aside0.mk H
          clear H
          obtain ⟨Ao21, co21, eo21⟩ := Kd.R_slice HO287.out
          subst eo21
          obtain ⟨Ao22, co22, eo22⟩ := Kd.R_slice HO294.out
          subst eo22
          go_wp2_with (first | (go_at_call 17; (with_reducible refine (laws_pSame.calls k _ _ t283 _ _ t290 false _ ?side1 ?side2 ?side3 ?side4 A14.out).mono ?_); (case side1 => repeat (first | exact (Kd.R_reads' HO287.out).2.2 | (with_reducible refine Kd.C_alloc ?_ _) | (with_reducible refine Kd.C_drewN ?_ _) | (with_reducible refine Kd.C_drew ?_))); (case side2 => exact (Kd.R_reads' HO287.out).2.1); (case side3 => repeat (first | exact (Kd.R_reads' HO294.out).2.2 | (with_reducible refine Kd.C_alloc ?_ _) | (with_reducible refine Kd.C_drewN ?_ _) | (with_reducible refine Kd.C_drew ?_))); (case side4 => exact (Kd.R_reads' HO294.out).2.1); rintro e w' ⟨rfl, ⟨nd, rfl⟩⟩))
          go_meet
          case rel => exact ⟨_, (true), (by first | rfl | (simp; done) | (simp [*]; done)), H', ⟨by first | omega | exact Nat.le_refl _⟩, ⟨by (with_reducible repeat (first | apply Kd.R_alloc | apply Kd.R_drewN | apply Kd.R_drew)); exact Kd.R_mono HO282.out (fun _ hk => ⟨hk.1.1.1.2, hk.1.1.2⟩)⟩, ⟨by (with_reducible repeat (first | apply Kd.R_alloc | apply Kd.R_drewN | apply Kd.R_drew)); exact Kd.R_mono HO287.out (fun _ hk => ⟨hk.1.1.2, hk.1.1.1⟩)⟩, ⟨by (with_reducible repeat (first | apply Kd.R_alloc | apply Kd.R_drewN | apply Kd.R_drew)); exact Kd.R_mono HO289.out (fun _ hk => ⟨hk.1.1.2, hk.1.1.1⟩)⟩, ⟨by repeat (first | (with_reducible first | exact HB.out | apply bA | apply bN | apply bD) | exact HB.out)⟩⟩
    case rest =>
      clear HC8
      try clear c1
      try clear c2
      try clear p2
      try clear c4
      try clear c5
      try clear c11
      try clear c13
      try clear c13b0
      try clear c13b1
      try clear c13b2
      try clear c15
      obtain ⟨kq, x55_7, rfl, HA, HJ7, HO_5, HO_6, HO_7, HB⟩ := hcut
      cases kq with
      | zero => exact absurd HA.out (by simp [laws_FnRunsOfEqualNumbers.j0])
      | succ kj7 =>
        have H := HA.out
        clear HA
        simp only [laws_FnRunsOfEqualNumbers.j0] at H
        by_cases c23 : x55_7 = true
        · subst c23
          have H1 : (some false) = some r := by rw [if_pos rfl] at H; exact H
          clear H
          have H := H1
          clear H1
          obtain rfl := Option.some.inj H
          go_wp2
          go_ret
          exact ⟨by first | rfl | (simp [errW_none, errW_some] <;> rfl) | (simp [*, errW_none, errW_some] <;> rfl), by repeat (first | (with_reducible first | exact HB.out | apply bA | apply bN | apply bD) | exact HB.out)⟩
        · replace c23 := Bool.eq_false_iff.mpr c23
          subst c23
          have H1 : (if t292 = true then ((impl_AscentsOf.f kj7 t280).bind fun bt299 => ((impl_AscentsOf.f kj7 t283).bind fun bt301 => (if bt299.2 = true then (if bt301.2 = true then (if bt299.1 = bt301.1 then ((laws_pSum.f kj7 t284).bind fun t303 => (if t303 = (t280.length : Int) then (laws_FnRunsOfEqualNumbers.j1 kj7 t280 t283 t284 ((t283.length : Int) != (t284.length : Int))) else (laws_FnRunsOfEqualNumbers.j1 kj7 t280 t283 t284 true))) else (laws_FnRunsOfEqualNumbers.j1 kj7 t280 t283 t284 true)) else (laws_FnRunsOfEqualNumbers.j1 kj7 t280 t283 t284 true)) else (laws_FnRunsOfEqualNumbers.j1 kj7 t280 t283 t284 true)))) else (some true)) = some r := by rw [if_neg (show ¬ (false = true) by decide)] at H; exact H
          clear H
          have H := H1
          clear H1
          by_cases c24 : t292 = true
          · subst c24
            have H1 : ((impl_AscentsOf.f kj7 t280).bind fun bt299 => ((impl_AscentsOf.f kj7 t283).bind fun bt301 => (if bt299.2 = true then (if bt301.2 = true then (if bt299.1 = bt301.1 then ((laws_pSum.f kj7 t284).bind fun t303 => (if t303 = (t280.length : Int) then (laws_FnRunsOfEqualNumbers.j1 kj7 t280 t283 t284 ((t283.length : Int) != (t284.length : Int))) else (laws_FnRunsOfEqualNumbers.j1 kj7 t280 t283 t284 true))) else (laws_FnRunsOfEqualNumbers.j1 kj7 t280 t283 t284 true)) else (laws_FnRunsOfEqualNumbers.j1 kj7 t280 t283 t284 true)) else (laws_FnRunsOfEqualNumbers.j1 kj7 t280 t283 t284 true)))) = some r := by rw [if_pos rfl] at H; exact H
            clear H
            have H := H1
            clear H1
            replace H := Option.bind_eq_some_iff.mp H
            obtain ⟨⟨t299, t300⟩, A250, H⟩ := H
            replace H : ((impl_AscentsOf.f kj7 t283).bind fun bt301 => (if t300 = true then (if bt301.2 = true then (if t299 = bt301.1 then ((laws_pSum.f kj7 t284).bind fun t303 => (if t303 = (t280.length : Int) then (laws_FnRunsOfEqualNumbers.j1 kj7 t280 t283 t284 ((t283.length : Int) != (t284.length : Int))) else (laws_FnRunsOfEqualNumbers.j1 kj7 t280 t283 t284 true))) else (laws_FnRunsOfEqualNumbers.j1 kj7 t280 t283 t284 true)) else (laws_FnRunsOfEqualNumbers.j1 kj7 t280 t283 t284 true)) else (laws_FnRunsOfEqualNumbers.j1 kj7 t280 t283 t284 true))) = some r := H
            have A25 := Aside0.mk A250
            clear A250
            replace H := Option.bind_eq_some_iff.mp H
            obtain ⟨⟨t301, t302⟩, A260, H⟩ := H
            replace H : (if t300 = true then (if t302 = true then (if t299 = t301 then ((laws_pSum.f kj7 t284).bind fun t303 => (if t303 = (t280.length : Int) then (laws_FnRunsOfEqualNumbers.j1 kj7 t280 t283 t284 ((t283.length : Int) != (t284.length : Int))) else (laws_FnRunsOfEqualNumbers.j1 kj7 t280 t283 t284 true))) else (laws_FnRunsOfEqualNumbers.j1 kj7 t280 t283 t284 true)) else (laws_FnRunsOfEqualNumbers.j1 kj7 t280 t283 t284 true)) else (laws_FnRunsOfEqualNumbers.j1 kj7 t280 t283 t284 true)) = some r := H
            have A26 := Aside0.mk A260
            clear A260
            have HC27 := Aside0.mk H
            clear H
            go_upto_region 12 with (first | ((with_reducible refine gate_callee (f := 30) rfl ?_); refine goesL_ (some 60) rfl rfl Try.func30 (by kernel_rfl) rfl #[.slice Ao10 t280.length co10] rfl (by (try simp only [List.map_toArray, List.map_cons, List.map_nil]); first | done | rfl | (simp only [List.length_drop, List.length_take]; rfl)) ?_; (with_reducible refine (impl_AscentsOf.calls kj7 _ _ t280 t299 t300 _ ?side1 ?side2 A25.out).mono ?_); (case side1 => repeat (first | exact (Kd.R_reads' HO_5.out).2.2 | (with_reducible refine Kd.C_alloc ?_ _) | (with_reducible refine Kd.C_drewN ?_ _) | (with_reducible refine Kd.C_drew ?_))); (case side2 => exact (Kd.R_reads' HO_5.out).2.1); rintro e w' ⟨rfl, ⟨nd, rfl⟩⟩; refine ⟨_, rfl, ?_⟩; obtain ⟨Ao28, co28, eo28⟩ := Kd.R_slice HO_6.out; subst eo28) | ((with_reducible refine gate_callee (f := 30) rfl ?_); refine goesL_ (some 65) rfl rfl Try.func30 (by kernel_rfl) rfl #[.slice Ao28 t283.length co28] rfl (by (try simp only [List.map_toArray, List.map_cons, List.map_nil]); first | done | rfl | (simp only [List.length_drop, List.length_take]; rfl)) ?_; (with_reducible refine (impl_AscentsOf.calls kj7 _ _ t283 t301 t302 _ ?side1 ?side2 A26.out).mono ?_); (case side1 => repeat (first | exact (Kd.R_reads' HO_6.out).2.2 | (with_reducible refine Kd.C_alloc ?_ _) | (with_reducible refine Kd.C_drewN ?_ _) | (with_reducible refine Kd.C_drew ?_))); (case side2 => exact (Kd.R_reads' HO_6.out).2.1); rintro e w' ⟨rfl, ⟨nd, rfl⟩⟩; refine ⟨_, rfl, ?_⟩))
            (try simp only [Act.put, List.setIfInBounds_toArray, List.set_cons_zero, List.set_cons_succ])
            go_cut [92] (fun v92 wc => ∃ (kq : Nat) (x92_26 : Bool), v92 = .bool x92_26 ∧ Aside0 (laws_FnRunsOfEqualNumbers.j1 kq t280 t283 t284 x92_26 = some r) ∧ Aside0 (kq ≤ kj7) ∧ Aside0 (Kd.R (Kd.int .i64) 3 wc w.heap.size (fun k_ => some k_ ≠ ((.slice Ao28 t283.length co28) : Value).ownBlock ∧ some k_ ≠ (v288 : Value).ownBlock) (.slice Ao10 t280.length co10) t280) ∧ Aside0 (Kd.R (Kd.int .i64) 3 wc w.heap.size (fun k_ => some k_ ≠ ((.slice Ao10 t280.length co10) : Value).ownBlock ∧ some k_ ≠ (v288 : Value).ownBlock) (.slice Ao28 t283.length co28) t283) ∧ Aside0 (Kd.R (Kd.int .i64) 3 wc w.heap.size (fun k_ => some k_ ≠ ((.slice Ao10 t280.length co10) : Value).ownBlock ∧ some k_ ≠ ((.slice Ao28 t283.length co28) : Value).ownBlock) v288 t284) ∧ Aside0 (Below w.heap.size w wc))
            case first =>
              have H := HC27.out
              clear HC27
              by_cases c29 : t300 = true
              · subst c29
                have H1 : (if t302 = true then (if t299 = t301 then ((laws_pSum.f kj7 t284).bind fun t303 => (if t303 = (t280.length : Int) then (laws_FnRunsOfEqualNumbers.j1 kj7 t280 t283 t284 ((t283.length : Int) != (t284.length : Int))) else (laws_FnRunsOfEqualNumbers.j1 kj7 t280 t283 t284 true))) else (laws_FnRunsOfEqualNumbers.j1 kj7 t280 t283 t284 true)) else (laws_FnRunsOfEqualNumbers.j1 kj7 t280 t283 t284 true)) = some r := by rw [if_pos rfl] at H; exact H
                clear H
                have H := H1
                clear H1
                by_cases c30 : t302 = true
                · subst c30
                  have H1 : (if t299 = t301 then ((laws_pSum.f kj7 t284).bind fun t303 => (if t303 = (t280.length : Int) then (laws_FnRunsOfEqualNumbers.j1 kj7 t280 t283 t284 ((t283.length : Int) != (t284.length : Int))) else (laws_FnRunsOfEqualNumbers.j1 kj7 t280 t283 t284 true))) else (laws_FnRunsOfEqualNumbers.j1 kj7 t280 t283 t284 true)) = some r := by rw [if_pos rfl] at H; exact H
                  clear H
                  have H := H1
                  clear H1
                  by_cases c31 : t299 = t301
                  · rw [if_pos c31] at H
                    have c31b0 : (t299 == t301) = true := beq_iff_eq.mpr c31
                    have c31b1 : (t299 != t301) = false := bne_eq_false_iff_eq.mpr c31
                    clear c31
                    (first | rw [c31b0] | (simp only [i64_w, i32_w]; rw [c31b0]) | skip)
                    replace H := Option.bind_eq_some_iff.mp H
                    obtain ⟨t303, A320, H⟩ := H
                    replace H : (if t303 = (t280.length : Int) then (laws_FnRunsOfEqualNumbers.j1 kj7 t280 t283 t284 ((t283.length : Int) != (t284.length : Int))) else (laws_FnRunsOfEqualNumbers.j1 kj7 t280 t283 t284 true)) = some r := H
                    have A32 := Aside0.mk A320
                    clear A320
                    by_cases c33 : t303 = (t280.length : Int)
                    · rw [if_pos c33] at H
                      have c33b0 : (t303 == (t280.length : Int)) = true := beq_iff_eq.mpr c33
                      have c33b1 : (t303 != (t280.length : Int)) = false := bne_eq_false_iff_eq.mpr c33
                      clear c33
                      have H' := Aside0.mk H
                      clear H
                      obtain ⟨Ao34, co34, eo34⟩ := Kd.R_slice HO_7.out
                      subst eo34
                      go_wp2_with (first | (go_at_call 31; (with_reducible refine (laws_pSum.calls kj7 _ _ t284 t303 _ ?side1 ?side2 A32.out).mono ?_); (case side1 => repeat (first | exact (Kd.R_reads' HO_7.out).2.2 | (with_reducible refine Kd.C_alloc ?_ _) | (with_reducible refine Kd.C_drewN ?_ _) | (with_reducible refine Kd.C_drew ?_))); (case side2 => exact (Kd.R_reads' HO_7.out).2.1); rintro e w' ⟨rfl, ⟨nd, rfl⟩⟩))
                      go_meet
                      case rel => exact ⟨_, (((t283.length : Int) != (t284.length : Int))), (by first | rfl | (simp; done) | (simp [*]; done)), H', ⟨by have := HJ7.out; first | omega | exact Nat.le_refl _⟩, ⟨by (with_reducible repeat (first | apply Kd.R_alloc | apply Kd.R_drewN | apply Kd.R_drew)); exact HO_5.out⟩, ⟨by (with_reducible repeat (first | apply Kd.R_alloc | apply Kd.R_drewN | apply Kd.R_drew)); exact HO_6.out⟩, ⟨by (with_reducible repeat (first | apply Kd.R_alloc | apply Kd.R_drewN | apply Kd.R_drew)); exact HO_7.out⟩, ⟨by repeat (first | (with_reducible first | exact HB.out | apply bA | apply bN | apply bD) | exact HB.out)⟩⟩
                    · rw [if_neg c33] at H
                      have c33b0 : (t303 == (t280.length : Int)) = false := beq_eq_false_iff_ne.mpr c33
                      have c33b1 : (t303 != (t280.length : Int)) = true := bne_iff_ne.mpr c33
                      have H' := Aside0.mk H
                      clear H
                      obtain ⟨Ao35, co35, eo35⟩ := Kd.R_slice HO_7.out
                      subst eo35
                      go_wp2_with (first | (go_at_call 31; (with_reducible refine (laws_pSum.calls kj7 _ _ t284 t303 _ ?side1 ?side2 A32.out).mono ?_); (case side1 => repeat (first | exact (Kd.R_reads' HO_7.out).2.2 | (with_reducible refine Kd.C_alloc ?_ _) | (with_reducible refine Kd.C_drewN ?_ _) | (with_reducible refine Kd.C_drew ?_))); (case side2 => exact (Kd.R_reads' HO_7.out).2.1); rintro e w' ⟨rfl, ⟨nd, rfl⟩⟩))
                      go_meet
                      case rel => exact ⟨_, (true), (by first | rfl | (simp; done) | (simp [*]; done)), H', ⟨by have := HJ7.out; first | omega | exact Nat.le_refl _⟩, ⟨by (with_reducible repeat (first | apply Kd.R_alloc | apply Kd.R_drewN | apply Kd.R_drew)); exact HO_5.out⟩, ⟨by (with_reducible repeat (first | apply Kd.R_alloc | apply Kd.R_drewN | apply Kd.R_drew)); exact HO_6.out⟩, ⟨by (with_reducible repeat (first | apply Kd.R_alloc | apply Kd.R_drewN | apply Kd.R_drew)); exact HO_7.out⟩, ⟨by repeat (first | (with_reducible first | exact HB.out | apply bA | apply bN | apply bD) | exact HB.out)⟩⟩
                  · rw [if_neg c31] at H
                    have c31b0 : (t299 == t301) = false := beq_eq_false_iff_ne.mpr c31
                    have c31b1 : (t299 != t301) = true := bne_iff_ne.mpr c31
                    (first | rw [c31b0] | (simp only [i64_w, i32_w]; rw [c31b0]) | skip)
                    have H' := Aside0.mk H
                    clear H
                    go_wp2
                    go_meet
                    case rel => exact ⟨_, (true), (by first | rfl | (simp; done) | (simp [*]; done)), H', ⟨by have := HJ7.out; first | omega | exact Nat.le_refl _⟩, ⟨by (with_reducible repeat (first | apply Kd.R_alloc | apply Kd.R_drewN | apply Kd.R_drew)); exact HO_5.out⟩, ⟨by (with_reducible repeat (first | apply Kd.R_alloc | apply Kd.R_drewN | apply Kd.R_drew)); exact HO_6.out⟩, ⟨by (with_reducible repeat (first | apply Kd.R_alloc | apply Kd.R_drewN | apply Kd.R_drew)); exact HO_7.out⟩, ⟨by repeat (first | (with_reducible first | exact HB.out | apply bA | apply bN | apply bD) | exact HB.out)⟩⟩
                · replace c30 := Bool.eq_false_iff.mpr c30
                  subst c30
                  have H1 : (laws_FnRunsOfEqualNumbers.j1 kj7 t280 t283 t284 true) = some r := by rw [if_neg (show ¬ (false = true) by decide)] at H; exact H
                  clear H
                  have H := H1
                  clear H1
                  have H' := Aside0.mk H
                  clear H
                  go_wp2
                  go_meet
                  case rel => exact ⟨_, (true), (by first | rfl | (simp; done) | (simp [*]; done)), H', ⟨by have := HJ7.out; first | omega | exact Nat.le_refl _⟩, ⟨by (with_reducible repeat (first | apply Kd.R_alloc | apply Kd.R_drewN | apply Kd.R_drew)); exact HO_5.out⟩, ⟨by (with_reducible repeat (first | apply Kd.R_alloc | apply Kd.R_drewN | apply Kd.R_drew)); exact HO_6.out⟩, ⟨by (with_reducible repeat (first | apply Kd.R_alloc | apply Kd.R_drewN | apply Kd.R_drew)); exact HO_7.out⟩, ⟨by repeat (first | (with_reducible first | exact HB.out | apply bA | apply bN | apply bD) | exact HB.out)⟩⟩
              · replace c29 := Bool.eq_false_iff.mpr c29
                subst c29
                have H1 : (laws_FnRunsOfEqualNumbers.j1 kj7 t280 t283 t284 true) = some r := by rw [if_neg (show ¬ (false = true) by decide)] at H; exact H
                clear H
                have H := H1
                clear H1
                have H' := Aside0.mk H
                clear H
                go_wp2
                go_meet
                case rel => exact ⟨_, (true), (by first | rfl | (simp; done) | (simp [*]; done)), H', ⟨by have := HJ7.out; first | omega | exact Nat.le_refl _⟩, ⟨by (with_reducible repeat (first | apply Kd.R_alloc | apply Kd.R_drewN | apply Kd.R_drew)); exact HO_5.out⟩, ⟨by (with_reducible repeat (first | apply Kd.R_alloc | apply Kd.R_drewN | apply Kd.R_drew)); exact HO_6.out⟩, ⟨by (with_reducible repeat (first | apply Kd.R_alloc | apply Kd.R_drewN | apply Kd.R_drew)); exact HO_7.out⟩, ⟨by repeat (first | (with_reducible first | exact HB.out | apply bA | apply bN | apply bD) | exact HB.out)⟩⟩
            case rest =>
              clear HC27
              try clear c1
              try clear c2
              try clear p2
              try clear c3
              try clear c4
              try clear c5
              try clear c11
              try clear c13
              try clear c13b0
              try clear c13b1
              try clear c13b2
              try clear c15
              try clear c23
              try clear c24
              try clear c27
              try clear c28
              try clear c29
              try clear c30
              try clear c31
              try clear c31b0
              try clear c31b1
              try clear c33
              try clear c33b0
              try clear c33b1
              try clear p2
              obtain ⟨kq, x92_26, rfl, HA, HJ26, HO_5, HO_6, HO_7, HB⟩ := hcut
              cases kq with
              | zero => exact absurd HA.out (by simp [laws_FnRunsOfEqualNumbers.j1])
              | succ kj26 =>
                have H := HA.out
                clear HA
                simp only [laws_FnRunsOfEqualNumbers.j1] at H
                by_cases c36 : x92_26 = true
                · subst c36
                  have H1 : (some false) = some r := by rw [if_pos rfl] at H; exact H
                  clear H
                  have H := H1
                  clear H1
                  obtain rfl := Option.some.inj H
                  go_wp2
                  go_ret
                  exact ⟨by first | rfl | (simp [errW_none, errW_some] <;> rfl) | (simp [*, errW_none, errW_some] <;> rfl), by repeat (first | (with_reducible first | exact HB.out | apply bA | apply bN | apply bD) | exact HB.out)⟩
                · replace c36 := Bool.eq_false_iff.mpr c36
                  subst c36
                  have H1 : (laws_FnRunsOfEqualNumbers.l0 kj26 t280 t283 t284 0 t283 (t283.length : Int) 0) = some r := by rw [if_neg (show ¬ (false = true) by decide)] at H; exact H
                  clear H
                  have H := H1
                  clear H1
                  have H' := Aside0.mk H
                  clear H
                  go_wp2
                  go_loopg [16, 95] kj26 (fun kq v16 v95 w' => ∃ (x16_3 : Int) (x95_3 : Int), v16 = .int .i64 x16_3 ∧ v95 = .int .i64 x95_3 ∧ Aside0 (laws_FnRunsOfEqualNumbers.l0 kq t280 t283 t284 x16_3 t283 (t283.length : Int) x95_3 = some r) ∧ Aside0 (kq ≤ kj26) ∧ Aside0 (Kd.R (Kd.int .i64) 3 w' w.heap.size (fun k_ => some k_ ≠ ((.slice Ao28 t283.length co28) : Value).ownBlock ∧ some k_ ≠ (v288 : Value).ownBlock ∧ some k_ ≠ ((.slice Ao28 t283.length co28) : Value).ownBlock) (.slice Ao10 t280.length co10) t280) ∧ Aside0 (Kd.R (Kd.int .i64) 3 w' w.heap.size (fun k_ => some k_ ≠ ((.slice Ao10 t280.length co10) : Value).ownBlock ∧ some k_ ≠ (v288 : Value).ownBlock) (.slice Ao28 t283.length co28) t283) ∧ Aside0 (Kd.R (Kd.int .i64) 3 w' w.heap.size (fun k_ => some k_ ≠ ((.slice Ao10 t280.length co10) : Value).ownBlock ∧ some k_ ≠ ((.slice Ao28 t283.length co28) : Value).ownBlock ∧ some k_ ≠ ((.slice Ao28 t283.length co28) : Value).ownBlock) v288 t284) ∧ Aside0 (Kd.R (Kd.int .i64) 3 w' w.heap.size (fun k_ => some k_ ≠ ((.slice Ao10 t280.length co10) : Value).ownBlock ∧ some k_ ≠ (v288 : Value).ownBlock) (.slice Ao28 t283.length co28) t283) ∧ Aside0 (Below w.heap.size w w'))
                  case atStart => exact ⟨(0), (0), (by first | rfl | (simp; done) | (simp [*]; done)), (by first | rfl | (simp; done) | (simp [*]; done)), H', ⟨Nat.le_refl _⟩, ⟨by (with_reducible repeat (first | apply Kd.R_alloc | apply Kd.R_drewN | apply Kd.R_drew)); exact Kd.R_mono HO_5.out (fun _ hk => ⟨hk.1, ⟨hk.2, hk.1⟩⟩)⟩, ⟨by (with_reducible repeat (first | apply Kd.R_alloc | apply Kd.R_drewN | apply Kd.R_drew)); exact HO_6.out⟩, ⟨by (with_reducible repeat (first | apply Kd.R_alloc | apply Kd.R_drewN | apply Kd.R_drew)); exact Kd.R_mono HO_7.out (fun _ hk => ⟨hk.1, ⟨hk.2, hk.2⟩⟩)⟩, ⟨by (with_reducible repeat (first | apply Kd.R_alloc | apply Kd.R_drewN | apply Kd.R_drew)); exact HO_6.out⟩, ⟨by repeat (first | (with_reducible first | exact HB.out | apply bA | apply bN | apply bD) | exact HB.out)⟩⟩
                  case round =>
                    clear H'
                    try clear c1
                    try clear c2
                    try clear p2
                    try clear c3
                    try clear c4
                    try clear c5
                    try clear c11
                    try clear c13
                    try clear c13b0
                    try clear c13b1
                    try clear c13b2
                    try clear c15
                    try clear c23
                    try clear c24
                    try clear c27
                    try clear c28
                    try clear c29
                    try clear c30
                    try clear c31
                    try clear c31b0
                    try clear c31b1
                    try clear c33
                    try clear c33b0
                    try clear c33b1
                    try clear c36
                    try clear p2
                    obtain ⟨x16_3, x95_3, rfl, rfl, HA, HK3, HO_5, HO_6, HO_7, HO_93, HB⟩ := hrel
                    cases gk with
                    | zero => exact absurd HA.out (by simp [laws_FnRunsOfEqualNumbers.l0])
                    | succ k3 =>
                      have H := HA.out
                      clear HA
                      simp only [laws_FnRunsOfEqualNumbers.l0] at H
                      by_cases c37 : x95_3 < (t283.length : Int)
                      · rw [if_pos c37] at H
                        have c37b0 : decide (x95_3 < (t283.length : Int)) = true := decide_eq_true c37
                        clear c37
                        by_cases c38 : 0 ≤ x95_3
                        · rw [if_pos c38] at H
                          have c38b0 : decide (0 ≤ x95_3) = true := decide_eq_true c38
                          clear c38
                          by_cases c39 : x95_3 < (t283.length : Int)
                          · rw [if_pos c39] at H
                            have c39b0 : decide (x95_3 < (t283.length : Int)) = true := decide_eq_true c39
                            clear c39
                            have HC40 := Aside0.mk H
                            clear H
                            have p304 : 0 ≤ (x95_3 : Int) := of_decide_eq_true (by first | (with_reducible assumption) | assumption)
                            have q304 : x95_3 < (t283.length : Int) := of_decide_eq_true (by first | (with_reducible assumption) | assumption)
                            obtain ⟨ad304, e304, hx304_0⟩ := Kd.at_int (Kd.R_reads' HO_93.out).2.2 x95_3 p304 q304
                            cases e304
                            replace p304 := eq_true p304
                            replace q304 := eq_true q304
                            go_upto_region 18 with (fail)
                            go_cut [110] (fun v110 wc => ∃ (kq : Nat) (x110_39 : Bool), v110 = .bool x110_39 ∧ Aside0 (laws_FnRunsOfEqualNumbers.j3 kq t280 t283 t284 x16_3 x95_3 (rd t283 x95_3) t283 (t283.length : Int) x95_3 x110_39 = some r) ∧ Aside0 (kq ≤ k3) ∧ Aside0 (Kd.R (Kd.int .i64) 3 wc w.heap.size (fun k_ => some k_ ≠ ((.slice (some ad304) t283.length co28) : Value).ownBlock ∧ some k_ ≠ (v288 : Value).ownBlock ∧ some k_ ≠ ((.slice (some ad304) t283.length co28) : Value).ownBlock) (.slice Ao10 t280.length co10) t280) ∧ Aside0 (Kd.R (Kd.int .i64) 3 wc w.heap.size (fun k_ => some k_ ≠ ((.slice Ao10 t280.length co10) : Value).ownBlock ∧ some k_ ≠ (v288 : Value).ownBlock) (.slice (some ad304) t283.length co28) t283) ∧ Aside0 (Kd.R (Kd.int .i64) 3 wc w.heap.size (fun k_ => some k_ ≠ ((.slice Ao10 t280.length co10) : Value).ownBlock ∧ some k_ ≠ ((.slice (some ad304) t283.length co28) : Value).ownBlock ∧ some k_ ≠ ((.slice (some ad304) t283.length co28) : Value).ownBlock) v288 t284) ∧ Aside0 (Kd.R (Kd.int .i64) 3 wc w.heap.size (fun k_ => some k_ ≠ ((.slice Ao10 t280.length co10) : Value).ownBlock ∧ some k_ ≠ (v288 : Value).ownBlock) (.slice (some ad304) t283.length co28) t283) ∧ Aside0 (Below w.heap.size w wc))
                            case first =>
                              have H := HC40.out
                              clear HC40
                              by_cases c41 : x95_3 > 0
                              · rw [if_pos c41] at H
                                have c41b0 : decide (0 < x95_3) = true := decide_eq_true c41
                                clear c41
                                (first | rw [c41b0] | (simp only [i64_w, i32_w]; rw [c41b0]) | skip)
                                obtain ⟨ji42, hji42⟩ : ∃ j_ : Int, (wrap64 (x95_3 - 1)) = j_ := ⟨_, rfl⟩
                                replace H : (if 0 ≤ (ji42) then (if (ji42) < (t283.length : Int) then (laws_FnRunsOfEqualNumbers.j3 k3 t280 t283 t284 x16_3 x95_3 (rd t283 x95_3) t283 (t283.length : Int) x95_3 ((rd t283 (ji42)) == (rd t283 x95_3))) else (none)) else (none)) = some r := by first | (rw [hji42] at H; exact H) | (simp only [hji42] at H ⊢; exact H)
                                have hji42w : (IntKind.i64.wrap (x95_3 - 1)) = ji42 := (i64_w _).trans hji42
                                by_cases c43 : 0 ≤ (ji42)
                                · rw [if_pos c43] at H
                                  have c43b0 : decide (0 ≤ (ji42)) = true := decide_eq_true c43
                                  clear c43
                                  by_cases c44 : (ji42) < (t283.length : Int)
                                  · rw [if_pos c44] at H
                                    have c44b0 : decide ((ji42) < (t283.length : Int)) = true := decide_eq_true c44
                                    clear c44
                                    have H' := Aside0.mk H
                                    clear H
                                    have p305 : 0 ≤ ((ji42) : Int) := of_decide_eq_true (by first | (with_reducible assumption) | assumption)
                                    have q305 : (ji42) < (t283.length : Int) := of_decide_eq_true (by first | (with_reducible assumption) | assumption)
                                    obtain ⟨ad305, e305, hx305_0⟩ := Kd.at_int (Kd.R_reads' HO_6.out).2.2 (ji42) p305 q305
                                    obtain rfl : ad304 = ad305 := (by injection e305)
                                    replace p305 := eq_true p305
                                    replace q305 := eq_true q305
                                    go_wp2
                                    go_meet
                                    case rel => exact ⟨_, (((rd t283 (ji42)) == (rd t283 x95_3))), (by first | rfl | (simp; done) | (simp only [← hji42] <;> (first | rfl | simp)) | (simp [*]; done)), H', ⟨by have := HJ7.out; have := HJ26.out; have := HK3.out; first | omega | exact Nat.le_refl _⟩, ⟨by (with_reducible repeat (first | apply Kd.R_alloc | apply Kd.R_drewN | apply Kd.R_drew)); exact HO_5.out⟩, ⟨by (with_reducible repeat (first | apply Kd.R_alloc | apply Kd.R_drewN | apply Kd.R_drew)); exact HO_6.out⟩, ⟨by (with_reducible repeat (first | apply Kd.R_alloc | apply Kd.R_drewN | apply Kd.R_drew)); exact HO_7.out⟩, ⟨by (with_reducible repeat (first | apply Kd.R_alloc | apply Kd.R_drewN | apply Kd.R_drew)); exact HO_93.out⟩, ⟨by repeat (first | (with_reducible first | exact HB.out | apply bA | apply bN | apply bD) | exact HB.out)⟩⟩
                                  · rw [if_neg c44] at H
                                    exact absurd H (by simp)
                                · rw [if_neg c43] at H
                                  exact absurd H (by simp)
                              · rw [if_neg c41] at H
                                have c41b0 : decide (0 < x95_3) = false := decide_eq_false c41
                                clear c41
                                (first | rw [c41b0] | (simp only [i64_w, i32_w]; rw [c41b0]) | skip)
                                have H' := Aside0.mk H
                                clear H
                                go_wp2
                                go_meet
                                case rel => exact ⟨_, (false), (by first | rfl | (simp; done) | (simp [*]; done)), H', ⟨by have := HJ7.out; have := HJ26.out; have := HK3.out; first | omega | exact Nat.le_refl _⟩, ⟨by (with_reducible repeat (first | apply Kd.R_alloc | apply Kd.R_drewN | apply Kd.R_drew)); exact HO_5.out⟩, ⟨by (with_reducible repeat (first | apply Kd.R_alloc | apply Kd.R_drewN | apply Kd.R_drew)); exact HO_6.out⟩, ⟨by (with_reducible repeat (first | apply Kd.R_alloc | apply Kd.R_drewN | apply Kd.R_drew)); exact HO_7.out⟩, ⟨by (with_reducible repeat (first | apply Kd.R_alloc | apply Kd.R_drewN | apply Kd.R_drew)); exact HO_93.out⟩, ⟨by repeat (first | (with_reducible first | exact HB.out | apply bA | apply bN | apply bD) | exact HB.out)⟩⟩
                            case rest =>
                              clear HC40
                              try clear c1
                              try clear c2
                              try clear p2
                              try clear c3
                              try clear p3
                              try clear q3
                              try clear hx3
                              try clear c4
                              try clear c5
                              try clear p6
                              try clear c11
                              try clear c13
                              try clear c13b0
                              try clear c13b1
                              try clear c13b2
                              try clear c15
                              try clear c23
                              try clear c24
                              try clear c27
                              try clear c28
                              try clear c29
                              try clear c30
                              try clear p30
                              try clear q30
                              try clear hx30
                              try clear c31
                              try clear c31b0
                              try clear c31b1
                              try clear c33
                              try clear c33b0
                              try clear c33b1
                              try clear c36
                              try clear c37
                              try clear c37b0
                              try clear c38
                              try clear c38b0
                              try clear c39
                              try clear c39b0
                              try clear c41
                              try clear c41b0
                              try clear c43
                              try clear c43b0
                              try clear c44
                              try clear c44b0
                              try clear hx304_0
                              try clear hx305_0
                              try clear p2
                              try clear p304
                              try clear p305
                              try clear q304
                              try clear q305
                              obtain ⟨kq, x110_39, rfl, HA, HJ39, HO_5, HO_6, HO_7, HO_93, HB⟩ := hcut
                              cases kq with
                              | zero => exact absurd HA.out (by simp [laws_FnRunsOfEqualNumbers.j3])
                              | succ kj39 =>
                                have H := HA.out
                                clear HA
                                simp only [laws_FnRunsOfEqualNumbers.j3] at H
                                by_cases c45 : x110_39 = true
                                · subst c45
                                  have H1 : (some false) = some r := by rw [if_pos rfl] at H; exact H
                                  clear H
                                  have H := H1
                                  clear H1
                                  obtain rfl := Option.some.inj H
                                  go_wp2
                                  go_ret
                                  exact ⟨by first | rfl | (simp [errW_none, errW_some] <;> rfl) | (simp [*, errW_none, errW_some] <;> rfl), by repeat (first | (with_reducible first | exact HB.out | apply bA | apply bN | apply bD) | exact HB.out)⟩
                                · replace c45 := Bool.eq_false_iff.mpr c45
                                  subst c45
                                  have H1 : (laws_FnRunsOfEqualNumbers.l1 kj39 t280 t283 t284 x16_3 x95_3 (rd t283 x95_3) 0 t283 (t283.length : Int) x95_3) = some r := by rw [if_neg (show ¬ (false = true) by decide)] at H; exact H
                                  clear H
                                  have H := H1
                                  clear H1
                                  have H' := Aside0.mk H
                                  clear H
                                  go_wp2
                                  go_loopg [16, 19] kj39 (fun kq v16 v19 w' => ∃ (x16_5 : Int) (x19_5 : Int), v16 = .int .i64 x16_5 ∧ v19 = .int .i64 x19_5 ∧ Aside0 (laws_FnRunsOfEqualNumbers.l1 kq t280 t283 t284 x16_5 x95_3 (rd t283 x95_3) x19_5 t283 (t283.length : Int) x95_3 = some r) ∧ Aside0 (kq ≤ kj39) ∧ Aside0 (Kd.R (Kd.int .i64) 3 w' w.heap.size (fun k_ => some k_ ≠ ((.slice (some ad304) t283.length co28) : Value).ownBlock ∧ some k_ ≠ (v288 : Value).ownBlock ∧ some k_ ≠ ((.slice (some ad304) t283.length co28) : Value).ownBlock) (.slice Ao10 t280.length co10) t280) ∧ Aside0 (Kd.R (Kd.int .i64) 3 w' w.heap.size (fun k_ => some k_ ≠ ((.slice Ao10 t280.length co10) : Value).ownBlock ∧ some k_ ≠ (v288 : Value).ownBlock) (.slice (some ad304) t283.length co28) t283) ∧ Aside0 (Kd.R (Kd.int .i64) 3 w' w.heap.size (fun k_ => some k_ ≠ ((.slice Ao10 t280.length co10) : Value).ownBlock ∧ some k_ ≠ ((.slice (some ad304) t283.length co28) : Value).ownBlock ∧ some k_ ≠ ((.slice (some ad304) t283.length co28) : Value).ownBlock) v288 t284) ∧ Aside0 (Kd.R (Kd.int .i64) 3 w' w.heap.size (fun k_ => some k_ ≠ ((.slice Ao10 t280.length co10) : Value).ownBlock ∧ some k_ ≠ (v288 : Value).ownBlock) (.slice (some ad304) t283.length co28) t283) ∧ Aside0 (Below w.heap.size w w'))
                                  case atStart => exact ⟨(x16_3), (0), (by first | rfl | (simp; done) | (simp [*]; done)), (by first | rfl | (simp; done) | (simp [*]; done)), H', ⟨Nat.le_refl _⟩, ⟨by (with_reducible repeat (first | apply Kd.R_alloc | apply Kd.R_drewN | apply Kd.R_drew)); exact HO_5.out⟩, ⟨by (with_reducible repeat (first | apply Kd.R_alloc | apply Kd.R_drewN | apply Kd.R_drew)); exact HO_6.out⟩, ⟨by (with_reducible repeat (first | apply Kd.R_alloc | apply Kd.R_drewN | apply Kd.R_drew)); exact HO_7.out⟩, ⟨by (with_reducible repeat (first | apply Kd.R_alloc | apply Kd.R_drewN | apply Kd.R_drew)); exact HO_93.out⟩, ⟨by repeat (first | (with_reducible first | exact HB.out | apply bA | apply bN | apply bD) | exact HB.out)⟩⟩
                                  case round =>
                                    clear H'
                                    try clear c1
                                    try clear c2
                                    try clear p2
                                    try clear c3
                                    try clear p3
                                    try clear q3
                                    try clear hx3
                                    try clear c4
                                    try clear c5
                                    try clear p6
                                    try clear c11
                                    try clear c13
                                    try clear c13b0
                                    try clear c13b1
                                    try clear c13b2
                                    try clear c15
                                    try clear c23
                                    try clear c24
                                    try clear c27
                                    try clear c28
                                    try clear c29
                                    try clear c30
                                    try clear p30
                                    try clear q30
                                    try clear hx30
                                    try clear c31
                                    try clear c31b0
                                    try clear c31b1
                                    try clear c33
                                    try clear c33b0
                                    try clear c33b1
                                    try clear c36
                                    try clear c37
                                    try clear c37b0
                                    try clear c38
                                    try clear c38b0
                                    try clear c39
                                    try clear c39b0
                                    try clear c41
                                    try clear c41b0
                                    try clear c43
                                    try clear c43b0
                                    try clear c44
                                    try clear c44b0
                                    try clear c45
                                    try clear hx304_0
                                    try clear hx305_0
                                    try clear p2
                                    try clear p3
                                    try clear p30
                                    try clear p304
                                    try clear p305
                                    try clear p6
                                    try clear q3
                                    try clear q30
                                    try clear q304
                                    try clear q305
                                    obtain ⟨x16_5, x19_5, rfl, rfl, HA, HK5, HO_5, HO_6, HO_7, HO_93, HB⟩ := hrel
                                    cases gk with
                                    | zero => exact absurd HA.out (by simp [laws_FnRunsOfEqualNumbers.l1])
                                    | succ k5 =>
                                      have H := HA.out
                                      clear HA
                                      simp only [laws_FnRunsOfEqualNumbers.l1] at H
                                      by_cases c46 : 0 ≤ x95_3
                                      · rw [if_pos c46] at H
                                        have c46b0 : decide (0 ≤ x95_3) = true := decide_eq_true c46
                                        clear c46
                                        by_cases c47 : x95_3 < (t284.length : Int)
                                        · rw [if_pos c47] at H
                                          have c47b0 : decide (x95_3 < (t284.length : Int)) = true := decide_eq_true c47
                                          clear c47
                                          by_cases c48 : x19_5 < (rd t284 x95_3)
                                          · rw [if_pos c48] at H
                                            have c48b0 : decide (x19_5 < (rd t284 x95_3)) = true := decide_eq_true c48
                                            clear c48
                                            by_cases c49 : 0 ≤ x16_5
                                            · rw [if_pos c49] at H
                                              have c49b0 : decide (0 ≤ x16_5) = true := decide_eq_true c49
                                              clear c49
                                              by_cases c50 : x16_5 < (t280.length : Int)
                                              · rw [if_pos c50] at H
                                                have c50b0 : decide (x16_5 < (t280.length : Int)) = true := decide_eq_true c50
                                                clear c50
                                                by_cases c51 : (rd t280 x16_5) = (rd t283 x95_3)
                                                · rw [if_pos c51] at H
                                                  have c51b0 : ((rd t280 x16_5) == (rd t283 x95_3)) = true := beq_iff_eq.mpr c51
                                                  have c51b1 : ((rd t280 x16_5) != (rd t283 x95_3)) = false := bne_eq_false_iff_eq.mpr c51
                                                  clear c51
                                                  have H' := Aside0.mk H
                                                  clear H
                                                  obtain ⟨Ao52, co52, eo52⟩ := Kd.R_slice HO_7.out
                                                  subst eo52
                                                  have p306 : 0 ≤ (x95_3 : Int) := of_decide_eq_true (by first | (with_reducible assumption) | assumption)
                                                  have q306 : x95_3 < (t284.length : Int) := of_decide_eq_true (by first | (with_reducible assumption) | assumption)
                                                  obtain ⟨ad306, e306, hx306_0⟩ := Kd.at_int (Kd.R_reads' HO_7.out).2.2 x95_3 p306 q306
                                                  cases e306
                                                  replace p306 := eq_true p306
                                                  replace q306 := eq_true q306
                                                  have p307 : 0 ≤ (x16_5 : Int) := of_decide_eq_true (by first | (with_reducible assumption) | assumption)
                                                  have q307 : x16_5 < (t280.length : Int) := of_decide_eq_true (by first | (with_reducible assumption) | assumption)
                                                  obtain ⟨ad307, e307, hx307_0⟩ := Kd.at_int (Kd.R_reads' HO_5.out).2.2 x16_5 p307 q307
                                                  cases e307
                                                  replace p307 := eq_true p307
                                                  replace q307 := eq_true q307
                                                  go_wp2
                                                  go_roundg k5
                                                  case measure => have := HJ7.out; have := HJ26.out; have := HK3.out; have := HJ39.out; have := HK5.out; omega
                                                  case rel => exact ⟨(wrap64 (x16_5 + 1)), (wrap64 (x19_5 + 1)), (by first | rfl | (simp; done) | (simp [*]; done)), (by first | rfl | (simp; done) | (simp [*]; done)), H', ⟨by have := HJ7.out; have := HJ26.out; have := HK3.out; have := HJ39.out; have := HK5.out; omega⟩, ⟨by (with_reducible repeat (first | apply Kd.R_alloc | apply Kd.R_drewN | apply Kd.R_drew)); exact HO_5.out⟩, ⟨by (with_reducible repeat (first | apply Kd.R_alloc | apply Kd.R_drewN | apply Kd.R_drew)); exact HO_6.out⟩, ⟨by (with_reducible repeat (first | apply Kd.R_alloc | apply Kd.R_drewN | apply Kd.R_drew)); exact HO_7.out⟩, ⟨by (with_reducible repeat (first | apply Kd.R_alloc | apply Kd.R_drewN | apply Kd.R_drew)); exact HO_93.out⟩, ⟨by repeat (first | (with_reducible first | exact HB.out | apply bA | apply bN | apply bD) | exact HB.out)⟩⟩
                                                · rw [if_neg c51] at H
                                                  have c51b0 : ((rd t280 x16_5) == (rd t283 x95_3)) = false := beq_eq_false_iff_ne.mpr c51
                                                  have c51b1 : ((rd t280 x16_5) != (rd t283 x95_3)) = true := bne_iff_ne.mpr c51
                                                  obtain rfl := Option.some.inj H
                                                  obtain ⟨Ao53, co53, eo53⟩ := Kd.R_slice HO_7.out
                                                  subst eo53
                                                  have p306 : 0 ≤ (x95_3 : Int) := of_decide_eq_true (by first | (with_reducible assumption) | assumption)
                                                  have q306 : x95_3 < (t284.length : Int) := of_decide_eq_true (by first | (with_reducible assumption) | assumption)
                                                  obtain ⟨ad306, e306, hx306_0⟩ := Kd.at_int (Kd.R_reads' HO_7.out).2.2 x95_3 p306 q306
                                                  cases e306
                                                  replace p306 := eq_true p306
                                                  replace q306 := eq_true q306
                                                  have p307 : 0 ≤ (x16_5 : Int) := of_decide_eq_true (by first | (with_reducible assumption) | assumption)
                                                  have q307 : x16_5 < (t280.length : Int) := of_decide_eq_true (by first | (with_reducible assumption) | assumption)
                                                  obtain ⟨ad307, e307, hx307_0⟩ := Kd.at_int (Kd.R_reads' HO_5.out).2.2 x16_5 p307 q307
                                                  cases e307
                                                  replace p307 := eq_true p307
                                                  replace q307 := eq_true q307
                                                  go_wp2
                                                  go_ret
                                                  exact ⟨by first | rfl | (simp [errW_none, errW_some] <;> rfl) | (simp [*, errW_none, errW_some] <;> rfl), by repeat (first | (with_reducible first | exact HB.out | apply bA | apply bN | apply bD) | exact HB.out)⟩
                                              · rw [if_neg c50] at H
                                                exact absurd H (by simp)
                                            · rw [if_neg c49] at H
                                              exact absurd H (by simp)
                                          · rw [if_neg c48] at H
                                            have c48b0 : decide (x19_5 < (rd t284 x95_3)) = false := decide_eq_false c48
                                            clear c48
                                            have H' := Aside0.mk H
                                            clear H
                                            obtain ⟨Ao54, co54, eo54⟩ := Kd.R_slice HO_7.out
                                            subst eo54
                                            have p306 : 0 ≤ (x95_3 : Int) := of_decide_eq_true (by first | (with_reducible assumption) | assumption)
                                            have q306 : x95_3 < (t284.length : Int) := of_decide_eq_true (by first | (with_reducible assumption) | assumption)
                                            obtain ⟨ad306, e306, hx306_0⟩ := Kd.at_int (Kd.R_reads' HO_7.out).2.2 x95_3 p306 q306
                                            cases e306
                                            replace p306 := eq_true p306
                                            replace q306 := eq_true q306
                                            go_wp2
                                            go_roundg k5
                                            case measure => have := HJ7.out; have := HJ26.out; have := HK3.out; have := HJ39.out; have := HK5.out; omega
                                            case rel => exact ⟨(x16_5), (wrap64 (x95_3 + 1)), (by first | rfl | (simp; done) | (simp [*]; done)), (by first | rfl | (simp; done) | (simp [*]; done)), H', ⟨by have := HJ7.out; have := HJ26.out; have := HK3.out; have := HJ39.out; have := HK5.out; omega⟩, ⟨by (with_reducible repeat (first | apply Kd.R_alloc | apply Kd.R_drewN | apply Kd.R_drew)); exact HO_5.out⟩, ⟨by (with_reducible repeat (first | apply Kd.R_alloc | apply Kd.R_drewN | apply Kd.R_drew)); exact HO_6.out⟩, ⟨by (with_reducible repeat (first | apply Kd.R_alloc | apply Kd.R_drewN | apply Kd.R_drew)); exact HO_7.out⟩, ⟨by (with_reducible repeat (first | apply Kd.R_alloc | apply Kd.R_drewN | apply Kd.R_drew)); exact HO_93.out⟩, ⟨by repeat (first | (with_reducible first | exact HB.out | apply bA | apply bN | apply bD) | exact HB.out)⟩⟩
                                        · rw [if_neg c47] at H
                                          exact absurd H (by simp)
                                      · rw [if_neg c46] at H
                                        exact absurd H (by simp)
                          · rw [if_neg c39] at H
                            exact absurd H (by simp)
                        · rw [if_neg c38] at H
                          exact absurd H (by simp)
                      · rw [if_neg c37] at H
                        have c37b0 : decide (x95_3 < (t283.length : Int)) = false := decide_eq_false c37
                        clear c37
                        replace H := Option.bind_eq_some_iff.mp H
                        obtain ⟨⟨t308, t311⟩, A550, H⟩ := H
                        replace H : ((impl_MatrixOfAscent.f k3 t283).bind fun bt313 => (if t311 = true then (if bt313.2 = true then (if (t308.length : Int) = (bt313.1.length : Int) then ((impl_IsMatrix.f k3 bt313.1).bind fun t318 => (some t318)) else (some false)) else (some false)) else (some false))) = some r := H
                        have A55 := Aside0.mk A550
                        clear A550
                        replace H := Option.bind_eq_some_iff.mp H
                        obtain ⟨⟨t313, t316⟩, A560, H⟩ := H
                        replace H : (if t311 = true then (if t316 = true then (if (t308.length : Int) = (t313.length : Int) then ((impl_IsMatrix.f k3 t313).bind fun t318 => (some t318)) else (some false)) else (some false)) else (some false)) = some r := H
                        have A56 := Aside0.mk A560
                        clear A560
                        by_cases c57 : t311 = true
                        · subst c57
                          have H1 : (if t316 = true then (if (t308.length : Int) = (t313.length : Int) then ((impl_IsMatrix.f k3 t313).bind fun t318 => (some t318)) else (some false)) else (some false)) = some r := by rw [if_pos rfl] at H; exact H
                          clear H
                          have H := H1
                          clear H1
                          by_cases c58 : t316 = true
                          · subst c58
                            have H1 : (if (t308.length : Int) = (t313.length : Int) then ((impl_IsMatrix.f k3 t313).bind fun t318 => (some t318)) else (some false)) = some r := by rw [if_pos rfl] at H; exact H
                            clear H
                            have H := H1
                            clear H1
                            by_cases c59 : (t308.length : Int) = (t313.length : Int)
                            · rw [if_pos c59] at H
                              have c59b0 : ((t308.length : Int) == (t313.length : Int)) = true := beq_iff_eq.mpr c59
                              have c59b1 : ((t308.length : Int) != (t313.length : Int)) = false := bne_eq_false_iff_eq.mpr c59
                              have c59b2 : (t308.length == t313.length) = true := by first | simpa using c59 | (simp at c59 ⊢; omega)
                              clear c59
                              replace H := Option.bind_eq_some_iff.mp H
                              obtain ⟨t318, A600, H⟩ := H
                              replace H : (some t318) = some r := H
                              have A60 := Aside0.mk A600
                              clear A600
                              obtain rfl := Option.some.inj H
                              go_wp2_with (first | ((with_reducible refine gate_callee (f := 32) rfl ?_); refine goesL_ (some 130) rfl rfl Try.func32 (by kernel_rfl) rfl #[.slice Ao10 t280.length co10] rfl (by (try simp only [List.map_toArray, List.map_cons, List.map_nil]); first | done | rfl | (simp only [List.length_drop, List.length_take]; rfl)) ?_; (with_reducible refine (impl_MatrixOfAscent.calls k3 _ _ t280 t308 true _ ?side1 ?side2 A55.out).mono ?_); (case side1 => repeat (first | exact (Kd.R_reads' HO_5.out).2.2 | (with_reducible refine Kd.C_alloc ?_ _) | (with_reducible refine Kd.C_drewN ?_ _) | (with_reducible refine Kd.C_drew ?_))); (case side2 => exact (Kd.R_reads' HO_5.out).2.1); rintro e w61 ⟨v309, rfl, ho0, hb⟩; refine ⟨_, rfl, ?_⟩; have n0_ := Aside0.mk (Kd.R_below (by (with_reducible repeat (first | apply Kd.R_alloc | apply Kd.R_drewN | apply Kd.R_drew)); exact HO_5.out) hb); have n1_ := Aside0.mk (Kd.R_below (by (with_reducible repeat (first | apply Kd.R_alloc | apply Kd.R_drewN | apply Kd.R_drew)); exact HO_6.out) hb); have n2_ := Aside0.mk (Kd.R_below (by (with_reducible repeat (first | apply Kd.R_alloc | apply Kd.R_drewN | apply Kd.R_drew)); exact HO_7.out) hb); have n3_ := Aside0.mk (Kd.R_below (by (with_reducible repeat (first | apply Kd.R_alloc | apply Kd.R_drewN | apply Kd.R_drew)); exact HO_93.out) hb); have n4_ := Aside0.mk (Kd.S_lower (Kd.S_new' (Kd.S_new' (Kd.S_new' (Kd.S_new' ho0 (Kd.R_lt (by (with_reducible repeat (first | apply Kd.R_alloc | apply Kd.R_drewN | apply Kd.R_drew)); exact HO_5.out))) (Kd.R_lt (by (with_reducible repeat (first | apply Kd.R_alloc | apply Kd.R_drewN | apply Kd.R_drew)); exact HO_6.out))) (Kd.R_lt (by (with_reducible repeat (first | apply Kd.R_alloc | apply Kd.R_drewN | apply Kd.R_drew)); exact HO_7.out))) (Kd.R_lt (by (with_reducible repeat (first | apply Kd.R_alloc | apply Kd.R_drewN | apply Kd.R_drew)); exact HO_93.out))) (below_size (by repeat (first | (with_reducible first | exact HB.out | apply bA | apply bN | apply bD) | exact HB.out)))); have n5_ := Aside0.mk (below_step (by repeat (first | (with_reducible first | exact HB.out | apply bA | apply bN | apply bD) | exact HB.out)) hb); clear HO_5; clear HO_6; clear HO_7; clear HO_93; clear HB; have HO_5 := n0_; have HO_6 := n1_; have HO_7 := n2_; have HO_93 := n3_; have HO310 := n4_; have HB := n5_; clear n0_ n1_ n2_ n3_ n4_ n5_; (try clear hb); (try clear hb2); (try clear hk); (try clear hi); (try clear ho0)) | ((with_reducible refine gate_dst (N := 20) rfl ?_); (try (refine gate_guard (by rfl) ?_; dsimp only)); refine box_event ?hg (N := 20) ?hd (cs := #[.slice none 0 0]) (t := 36) ?hr ?_; (case hd => rfl); (case hg => rfl); (case hr => first | (go_simp; done) | (go_simp; rfl)); intro gb312 hg w62 hbox hb; have n0_ := Aside0.mk (Kd.R_below (by (with_reducible repeat (first | apply Kd.R_alloc | apply Kd.R_drewN | apply Kd.R_drew)); exact HO_5.out) hb); have n1_ := Aside0.mk (Kd.R_below (by (with_reducible repeat (first | apply Kd.R_alloc | apply Kd.R_drewN | apply Kd.R_drew)); exact HO_6.out) hb); have n2_ := Aside0.mk (Kd.R_below (by (with_reducible repeat (first | apply Kd.R_alloc | apply Kd.R_drewN | apply Kd.R_drew)); exact HO_7.out) hb); have n3_ := Aside0.mk (Kd.R_below (by (with_reducible repeat (first | apply Kd.R_alloc | apply Kd.R_drewN | apply Kd.R_drew)); exact HO_93.out) hb); have n4_ := Aside0.mk (Kd.S_below (by (with_reducible repeat (first | apply Kd.S_alloc | apply Kd.S_drewN | apply Kd.S_drew)); exact HO310.out) hb); have n5_ := Aside0.mk (below_step (by repeat (first | (with_reducible first | exact HB.out | apply bA | apply bN | apply bD) | exact HB.out)) hb); have n6_ := Aside0.mk (hbox); have n7_ := Aside0.mk ((by rw [hg]; exact (below_size (by repeat (first | (with_reducible first | exact HB.out | apply bA | apply bN | apply bD) | exact HB.out))) : w.heap.size ≤ gb312)); have n8_ := Aside0.mk ((by rw [hg]; exact (below_size (by repeat (first | (with_reducible first | exact HB.out | apply bA | apply bN | apply bD) | exact HB.out))) : w.heap.size ≤ gb312)); clear HO_5; clear HO_6; clear HO_7; clear HO_93; clear HO310; clear HB; have HO_5 := n0_; have HO_6 := n1_; have HO_7 := n2_; have HO_93 := n3_; have HO310 := n4_; have HB := n5_; have BK312 := n6_; have GW312 := n7_; have GE312 := n8_; clear n0_ n1_ n2_ n3_ n4_ n5_ n6_ n7_ n8_; clear hb hbox hg; obtain ⟨Ao63, co63, eo63⟩ := Kd.S_slice HO310.out; subst eo63; have hcz64_0 : w62.cell? ⟨gb312, 0, none⟩ = some (.slice none 0 0) := (blk_cell BK312.out 0).trans rfl; have hfz64_0 := blk_frozen BK312.out 0) | ((with_reducible refine gate_callee (f := 32) rfl ?_); refine goesL_ (some 135) rfl rfl Try.func32 (by kernel_rfl) rfl #[.slice Ao28 t283.length co28] rfl (by (try simp only [List.map_toArray, List.map_cons, List.map_nil]); first | done | rfl | (simp only [List.length_drop, List.length_take]; rfl)) ?_; (with_reducible refine (impl_MatrixOfAscent.calls k3 _ _ t283 t313 true _ ?side1 ?side2 A56.out).mono ?_); (case side1 => refine (Kd.R_reads' (e := 3) (base := w.heap.size) (ok := fun k_ => (some k_ ≠ (.slice Ao10 t280.length co10 : Value).ownBlock ∧ some k_ ≠ (v288 : Value).ownBlock)) (n := t283.length) (c := co28) ?_).2.2; exact (by (with_reducible repeat (first | apply Kd.R_alloc | apply Kd.R_drewN | apply Kd.R_drew)); exact (Kd.R_mono (Kd.R_far (p := ⟨gb312, 0, none⟩) (Kd.R_types HO_6.out BK312.out (by decide)) (fun _ hk => hk.2) (.slice Ao63 t308.length co63)) (fun _ h_ => h_.1)))); (case side2 => exact (Kd.R_reads' HO_6.out).2.1); rintro e w65 ⟨v314, rfl, ho0, hb⟩; refine ⟨_, rfl, ?_⟩; have n0_ := Aside0.mk (Kd.R_below (by (with_reducible repeat (first | apply Kd.R_alloc | apply Kd.R_drewN | apply Kd.R_drew)); exact (Kd.R_mono (Kd.R_far (p := ⟨gb312, 0, none⟩) (Kd.R_types HO_5.out BK312.out (by decide)) (fun _ hk => hk.2) (.slice Ao63 t308.length co63)) (fun _ h_ => h_.1))) hb); have n1_ := Aside0.mk (Kd.R_below (by (with_reducible repeat (first | apply Kd.R_alloc | apply Kd.R_drewN | apply Kd.R_drew)); exact (Kd.R_mono (Kd.R_far (p := ⟨gb312, 0, none⟩) (Kd.R_types HO_6.out BK312.out (by decide)) (fun _ hk => hk.2) (.slice Ao63 t308.length co63)) (fun _ h_ => h_.1))) hb); have n2_ := Aside0.mk (Kd.R_below (by (with_reducible repeat (first | apply Kd.R_alloc | apply Kd.R_drewN | apply Kd.R_drew)); exact (Kd.R_mono (Kd.R_far (p := ⟨gb312, 0, none⟩) (Kd.R_types HO_7.out BK312.out (by decide)) (fun _ hk => hk.2) (.slice Ao63 t308.length co63)) (fun _ h_ => h_.1))) hb); have n3_ := Aside0.mk (Kd.R_below (by (with_reducible repeat (first | apply Kd.R_alloc | apply Kd.R_drewN | apply Kd.R_drew)); exact (Kd.R_mono (Kd.R_far (p := ⟨gb312, 0, none⟩) (Kd.R_types HO_93.out BK312.out (by decide)) (fun _ hk => hk.2) (.slice Ao63 t308.length co63)) (fun _ h_ => h_.1))) hb); have n4_ := Aside0.mk (Kd.S_elder' (by (with_reducible repeat (first | apply Kd.S_alloc | apply Kd.S_drewN | apply Kd.S_drew)); exact (Kd.S_mono (Kd.S_far (p := ⟨gb312, 0, none⟩) (Kd.S_types HO310.out BK312.out (by decide)) (fun _ hk => hk.2) (.slice Ao63 t308.length co63)) (fun _ h_ => h_.1))) (Kd.S_base ho0) hb); have n5_ := Aside0.mk (Kd.S_lower (Kd.S_new' (Kd.S_new' (Kd.S_new' (Kd.S_new' (Kd.S_new' ho0 (Kd.R_lt (by (with_reducible repeat (first | apply Kd.R_alloc | apply Kd.R_drewN | apply Kd.R_drew)); exact (Kd.R_mono (Kd.R_far (p := ⟨gb312, 0, none⟩) (Kd.R_types HO_5.out BK312.out (by decide)) (fun _ hk => hk.2) (.slice Ao63 t308.length co63)) (fun _ h_ => h_.1))))) (Kd.R_lt (by (with_reducible repeat (first | apply Kd.R_alloc | apply Kd.R_drewN | apply Kd.R_drew)); exact (Kd.R_mono (Kd.R_far (p := ⟨gb312, 0, none⟩) (Kd.R_types HO_6.out BK312.out (by decide)) (fun _ hk => hk.2) (.slice Ao63 t308.length co63)) (fun _ h_ => h_.1))))) (Kd.R_lt (by (with_reducible repeat (first | apply Kd.R_alloc | apply Kd.R_drewN | apply Kd.R_drew)); exact (Kd.R_mono (Kd.R_far (p := ⟨gb312, 0, none⟩) (Kd.R_types HO_7.out BK312.out (by decide)) (fun _ hk => hk.2) (.slice Ao63 t308.length co63)) (fun _ h_ => h_.1))))) (Kd.R_lt (by (with_reducible repeat (first | apply Kd.R_alloc | apply Kd.R_drewN | apply Kd.R_drew)); exact (Kd.R_mono (Kd.R_far (p := ⟨gb312, 0, none⟩) (Kd.R_types HO_93.out BK312.out (by decide)) (fun _ hk => hk.2) (.slice Ao63 t308.length co63)) (fun _ h_ => h_.1))))) (Kd.S_lt (by (with_reducible repeat (first | apply Kd.S_alloc | apply Kd.S_drewN | apply Kd.S_drew)); exact (Kd.S_mono (Kd.S_far (p := ⟨gb312, 0, none⟩) (Kd.S_types HO310.out BK312.out (by decide)) (fun _ hk => hk.2) (.slice Ao63 t308.length co63)) (fun _ h_ => h_.1))))) (below_size (by repeat (first | (with_reducible first | exact HB.out | apply bA | apply bN | apply bD | refine below_set ?_ GE312.out) | exact HB.out)))); have n6_ := Aside0.mk (blk_below (g := gb312) (o := .cells #[.slice Ao63 t308.length co63] 36 (0, 0)) (by (with_reducible repeat (first | apply qN | apply qD | apply qA)); refine blk_put (cs := #[.slice none 0 0]) ?_ 0 _ rfl; (with_reducible repeat (first | apply qN | apply qD | apply qA)); exact BK312.out) hb); have n7_ := Aside0.mk (below_step (by repeat (first | (with_reducible first | exact HB.out | apply bA | apply bN | apply bD | refine below_set ?_ GE312.out) | exact HB.out)) hb); clear HO_5; clear HO_6; clear HO_7; clear HO_93; clear HO310; clear BK312; clear HB; have HO_5 := n0_; have HO_6 := n1_; have HO_7 := n2_; have HO_93 := n3_; have HO310 := n4_; have HO315 := n5_; have BK312 := n6_; have HB := n7_; clear n0_ n1_ n2_ n3_ n4_ n5_ n6_ n7_; (try clear hb); (try clear hb2); (try clear hk); (try clear hi); (try clear ho0)) | ((with_reducible refine gate_dst (N := 22) rfl ?_); (try (refine gate_guard (by rfl) ?_; dsimp only)); refine box_event ?hg (N := 22) ?hd (cs := #[.slice none 0 0]) (t := 36) ?hr ?_; (case hd => rfl); (case hg => rfl); (case hr => first | (go_simp; done) | (go_simp; rfl)); intro gb317 hg w66 hbox hb; have n0_ := Aside0.mk (Kd.R_below (by (with_reducible repeat (first | apply Kd.R_alloc | apply Kd.R_drewN | apply Kd.R_drew)); exact HO_5.out) hb); have n1_ := Aside0.mk (Kd.R_below (by (with_reducible repeat (first | apply Kd.R_alloc | apply Kd.R_drewN | apply Kd.R_drew)); exact HO_6.out) hb); have n2_ := Aside0.mk (Kd.R_below (by (with_reducible repeat (first | apply Kd.R_alloc | apply Kd.R_drewN | apply Kd.R_drew)); exact HO_7.out) hb); have n3_ := Aside0.mk (Kd.R_below (by (with_reducible repeat (first | apply Kd.R_alloc | apply Kd.R_drewN | apply Kd.R_drew)); exact HO_93.out) hb); have n4_ := Aside0.mk (Kd.S_below (by (with_reducible repeat (first | apply Kd.S_alloc | apply Kd.S_drewN | apply Kd.S_drew)); exact HO310.out) hb); have n5_ := Aside0.mk (Kd.S_below (by (with_reducible repeat (first | apply Kd.S_alloc | apply Kd.S_drewN | apply Kd.S_drew)); exact HO315.out) hb); have n6_ := Aside0.mk (blk_below (g := gb312) (o := .cells #[.slice Ao63 t308.length co63] 36 (0, 0)) (by (with_reducible repeat (first | apply qN | apply qD | apply qA)); exact BK312.out) hb); have n7_ := Aside0.mk (below_step (by repeat (first | (with_reducible first | exact HB.out | apply bA | apply bN | apply bD | refine below_set ?_ GE312.out) | exact HB.out)) hb); have n8_ := Aside0.mk (hbox); have n9_ := Aside0.mk ((by rw [hg]; exact (below_size (by repeat (first | (with_reducible first | exact HB.out | apply bA | apply bN | apply bD | refine below_set ?_ GE312.out) | exact HB.out))) : w.heap.size ≤ gb317)); have n10_ := Aside0.mk ((by rw [hg]; exact (below_size (by repeat (first | (with_reducible first | exact HB.out | apply bA | apply bN | apply bD | refine below_set ?_ GE312.out) | exact HB.out))) : w.heap.size ≤ gb317)); have n11_ := Aside0.mk ((by rw [hg]; exact Nat.ne_of_lt (blk_lt (g := gb312) (o := .cells #[.slice Ao63 t308.length co63] 36 (0, 0)) (by (with_reducible repeat (first | apply qN | apply qD | apply qA)); exact BK312.out)) : gb312 ≠ gb317)); have n12_ := Aside0.mk ((by rw [hg]; exact Nat.ne_of_gt (blk_lt (g := gb312) (o := .cells #[.slice Ao63 t308.length co63] 36 (0, 0)) (by (with_reducible repeat (first | apply qN | apply qD | apply qA)); exact BK312.out)) : gb317 ≠ gb312)); clear HO_5; clear HO_6; clear HO_7; clear HO_93; clear HO310; clear HO315; clear BK312; clear HB; have HO_5 := n0_; have HO_6 := n1_; have HO_7 := n2_; have HO_93 := n3_; have HO310 := n4_; have HO315 := n5_; have BK312 := n6_; have HB := n7_; have BK317 := n8_; have GW317 := n9_; have GE317 := n10_; have NB312_317 := n11_; have NB317_312 := n12_; clear n0_ n1_ n2_ n3_ n4_ n5_ n6_ n7_ n8_ n9_ n10_ n11_ n12_; clear hb hbox hg; obtain ⟨Ao67, co67, eo67⟩ := Kd.S_slice HO315.out; subst eo67; have hnb68 := NB317_312.out; have hnc68 := NB312_317.out; have hcz69_0 : w66.cell? ⟨gb317, 0, none⟩ = some (.slice none 0 0) := (blk_cell BK317.out 0).trans rfl; have hfz69_0 := blk_frozen BK317.out 0; have hcz70_0 : w66.cell? ⟨gb312, 0, none⟩ = some (.slice Ao63 t308.length co63) := (blk_cell BK312.out 0).trans rfl; have hfz70_0 := blk_frozen BK312.out 0) | ((with_reducible refine gate_callee (f := 33) rfl ?_); refine goesL_ (some 154) rfl rfl Try.func33 (by kernel_rfl) rfl #[.agg #[.slice Ao67 t313.length co67]] rfl (by (try simp only [List.map_toArray, List.map_cons, List.map_nil]); first | done | rfl | (simp only [List.length_drop, List.length_take]; rfl)) ?_; (with_reducible refine (impl_IsMatrix.calls k3 _ _ t313 t318 _ ?side1 ?side2 A60.out).mono ?_); (case side1 => refine (Kd.S_reads' (e := 24) (base := w.heap.size) (ok := fun k_ => (((((True ∧ some k_ ≠ (.slice Ao10 t280.length co10 : Value).ownBlock) ∧ some k_ ≠ (.slice Ao28 t283.length co28 : Value).ownBlock) ∧ some k_ ≠ (v288 : Value).ownBlock) ∧ some k_ ≠ (.slice Ao28 t283.length co28 : Value).ownBlock) ∧ some k_ ≠ (.slice Ao63 t308.length co63 : Value).ownBlock)) (n := t313.length) (c := co67) ?_).2.2; exact (by (with_reducible repeat (first | apply Kd.S_alloc | apply Kd.S_drewN | apply Kd.S_drew)); exact (Kd.S_mono (Kd.S_far (p := ⟨gb317, 0, none⟩) (Kd.S_types HO315.out BK317.out (by decide)) (fun _ hk => hk.2) (.slice Ao67 t313.length co67)) (fun _ h_ => h_.1)))); (case side2 => exact (Kd.S_reads' HO315.out).2.1); rintro e w71 ⟨rfl, hb⟩; refine ⟨_, rfl, ?_⟩; have n0_ := Aside0.mk (Kd.R_below (by (with_reducible repeat (first | apply Kd.R_alloc | apply Kd.R_drewN | apply Kd.R_drew)); exact (Kd.R_mono (Kd.R_far (p := ⟨gb317, 0, none⟩) (Kd.R_types HO_5.out BK317.out (by decide)) (fun _ hk => hk.2) (.slice Ao67 t313.length co67)) (fun _ h_ => h_.1))) hb); have n1_ := Aside0.mk (Kd.R_below (by (with_reducible repeat (first | apply Kd.R_alloc | apply Kd.R_drewN | apply Kd.R_drew)); exact (Kd.R_mono (Kd.R_far (p := ⟨gb317, 0, none⟩) (Kd.R_types HO_6.out BK317.out (by decide)) (fun _ hk => hk.2) (.slice Ao67 t313.length co67)) (fun _ h_ => h_.1))) hb); have n2_ := Aside0.mk (Kd.R_below (by (with_reducible repeat (first | apply Kd.R_alloc | apply Kd.R_drewN | apply Kd.R_drew)); exact (Kd.R_mono (Kd.R_far (p := ⟨gb317, 0, none⟩) (Kd.R_types HO_7.out BK317.out (by decide)) (fun _ hk => hk.2) (.slice Ao67 t313.length co67)) (fun _ h_ => h_.1))) hb); have n3_ := Aside0.mk (Kd.R_below (by (with_reducible repeat (first | apply Kd.R_alloc | apply Kd.R_drewN | apply Kd.R_drew)); exact (Kd.R_mono (Kd.R_far (p := ⟨gb317, 0, none⟩) (Kd.R_types HO_93.out BK317.out (by decide)) (fun _ hk => hk.2) (.slice Ao67 t313.length co67)) (fun _ h_ => h_.1))) hb); have n4_ := Aside0.mk (Kd.S_below (by (with_reducible repeat (first | apply Kd.S_alloc | apply Kd.S_drewN | apply Kd.S_drew)); exact (Kd.S_mono (Kd.S_far (p := ⟨gb317, 0, none⟩) (Kd.S_types HO310.out BK317.out (by decide)) (fun _ hk => hk.2) (.slice Ao67 t313.length co67)) (fun _ h_ => h_.1))) hb); have n5_ := Aside0.mk (Kd.S_below (by (with_reducible repeat (first | apply Kd.S_alloc | apply Kd.S_drewN | apply Kd.S_drew)); exact (Kd.S_mono (Kd.S_far (p := ⟨gb317, 0, none⟩) (Kd.S_types HO315.out BK317.out (by decide)) (fun _ hk => hk.2) (.slice Ao67 t313.length co67)) (fun _ h_ => h_.1))) hb); have n6_ := Aside0.mk (blk_below (g := gb312) (o := .cells #[.slice Ao63 t308.length co63] 36 (0, 0)) (by (with_reducible repeat (first | apply qN | apply qD | apply qA)); refine blk_far ?_ NB312_317.out _; (with_reducible repeat (first | apply qN | apply qD | apply qA)); exact BK312.out) hb); have n7_ := Aside0.mk (blk_below (g := gb317) (o := .cells #[.slice Ao67 t313.length co67] 36 (0, 0)) (by (with_reducible repeat (first | apply qN | apply qD | apply qA)); refine blk_put (cs := #[.slice none 0 0]) ?_ 0 _ rfl; (with_reducible repeat (first | apply qN | apply qD | apply qA)); exact BK317.out) hb); have n8_ := Aside0.mk (below_step (by repeat (first | (with_reducible first | exact HB.out | apply bA | apply bN | apply bD | refine below_set ?_ GE312.out | refine below_set ?_ GE317.out) | exact HB.out)) hb); clear HO_5; clear HO_6; clear HO_7; clear HO_93; clear HO310; clear HO315; clear BK312; clear BK317; clear HB; have HO_5 := n0_; have HO_6 := n1_; have HO_7 := n2_; have HO_93 := n3_; have HO310 := n4_; have HO315 := n5_; have BK312 := n6_; have BK317 := n7_; have HB := n8_; clear n0_ n1_ n2_ n3_ n4_ n5_ n6_ n7_ n8_; (try clear hb); (try clear hb2); (try clear hk); (try clear hi)))
                              go_ret
                              exact ⟨by first | rfl | (simp [errW_none, errW_some] <;> rfl) | (simp [*, errW_none, errW_some] <;> rfl), by repeat (first | (with_reducible first | exact HB.out | apply bA | apply bN | apply bD | refine below_set ?_ GE312.out | refine below_set ?_ GE317.out) | exact HB.out)⟩
                            · rw [if_neg c59] at H
                              have c59b0 : ((t308.length : Int) == (t313.length : Int)) = false := beq_eq_false_iff_ne.mpr c59
                              have c59b1 : ((t308.length : Int) != (t313.length : Int)) = true := bne_iff_ne.mpr c59
                              have c59b2 : (t308.length == t313.length) = false := by first | simpa using c59 | (simp at c59 ⊢; omega)
                              obtain rfl := Option.some.inj H
                              go_wp2_with (first | ((with_reducible refine gate_callee (f := 32) rfl ?_); refine goesL_ (some 130) rfl rfl Try.func32 (by kernel_rfl) rfl #[.slice Ao10 t280.length co10] rfl (by (try simp only [List.map_toArray, List.map_cons, List.map_nil]); first | done | rfl | (simp only [List.length_drop, List.length_take]; rfl)) ?_; (with_reducible refine (impl_MatrixOfAscent.calls k3 _ _ t280 t308 true _ ?side1 ?side2 A55.out).mono ?_); (case side1 => repeat (first | exact (Kd.R_reads' HO_5.out).2.2 | (with_reducible refine Kd.C_alloc ?_ _) | (with_reducible refine Kd.C_drewN ?_ _) | (with_reducible refine Kd.C_drew ?_))); (case side2 => exact (Kd.R_reads' HO_5.out).2.1); rintro e w72 ⟨v309, rfl, ho0, hb⟩; refine ⟨_, rfl, ?_⟩; have n0_ := Aside0.mk (Kd.R_below (by (with_reducible repeat (first | apply Kd.R_alloc | apply Kd.R_drewN | apply Kd.R_drew)); exact HO_5.out) hb); have n1_ := Aside0.mk (Kd.R_below (by (with_reducible repeat (first | apply Kd.R_alloc | apply Kd.R_drewN | apply Kd.R_drew)); exact HO_6.out) hb); have n2_ := Aside0.mk (Kd.R_below (by (with_reducible repeat (first | apply Kd.R_alloc | apply Kd.R_drewN | apply Kd.R_drew)); exact HO_7.out) hb); have n3_ := Aside0.mk (Kd.R_below (by (with_reducible repeat (first | apply Kd.R_alloc | apply Kd.R_drewN | apply Kd.R_drew)); exact HO_93.out) hb); have n4_ := Aside0.mk (Kd.S_lower (Kd.S_new' (Kd.S_new' (Kd.S_new' (Kd.S_new' ho0 (Kd.R_lt (by (with_reducible repeat (first | apply Kd.R_alloc | apply Kd.R_drewN | apply Kd.R_drew)); exact HO_5.out))) (Kd.R_lt (by (with_reducible repeat (first | apply Kd.R_alloc | apply Kd.R_drewN | apply Kd.R_drew)); exact HO_6.out))) (Kd.R_lt (by (with_reducible repeat (first | apply Kd.R_alloc | apply Kd.R_drewN | apply Kd.R_drew)); exact HO_7.out))) (Kd.R_lt (by (with_reducible repeat (first | apply Kd.R_alloc | apply Kd.R_drewN | apply Kd.R_drew)); exact HO_93.out))) (below_size (by repeat (first | (with_reducible first | exact HB.out | apply bA | apply bN | apply bD) | exact HB.out)))); have n5_ := Aside0.mk (below_step (by repeat (first | (with_reducible first | exact HB.out | apply bA | apply bN | apply bD) | exact HB.out)) hb); clear HO_5; clear HO_6; clear HO_7; clear HO_93; clear HB; have HO_5 := n0_; have HO_6 := n1_; have HO_7 := n2_; have HO_93 := n3_; have HO310 := n4_; have HB := n5_; clear n0_ n1_ n2_ n3_ n4_ n5_; (try clear hb); (try clear hb2); (try clear hk); (try clear hi); (try clear ho0)) | ((with_reducible refine gate_dst (N := 20) rfl ?_); (try (refine gate_guard (by rfl) ?_; dsimp only)); refine box_event ?hg (N := 20) ?hd (cs := #[.slice none 0 0]) (t := 36) ?hr ?_; (case hd => rfl); (case hg => rfl); (case hr => first | (go_simp; done) | (go_simp; rfl)); intro gb312 hg w73 hbox hb; have n0_ := Aside0.mk (Kd.R_below (by (with_reducible repeat (first | apply Kd.R_alloc | apply Kd.R_drewN | apply Kd.R_drew)); exact HO_5.out) hb); have n1_ := Aside0.mk (Kd.R_below (by (with_reducible repeat (first | apply Kd.R_alloc | apply Kd.R_drewN | apply Kd.R_drew)); exact HO_6.out) hb); have n2_ := Aside0.mk (Kd.R_below (by (with_reducible repeat (first | apply Kd.R_alloc | apply Kd.R_drewN | apply Kd.R_drew)); exact HO_7.out) hb); have n3_ := Aside0.mk (Kd.R_below (by (with_reducible repeat (first | apply Kd.R_alloc | apply Kd.R_drewN | apply Kd.R_drew)); exact HO_93.out) hb); have n4_ := Aside0.mk (Kd.S_below (by (with_reducible repeat (first | apply Kd.S_alloc | apply Kd.S_drewN | apply Kd.S_drew)); exact HO310.out) hb); have n5_ := Aside0.mk (below_step (by repeat (first | (with_reducible first | exact HB.out | apply bA | apply bN | apply bD) | exact HB.out)) hb); have n6_ := Aside0.mk (hbox); have n7_ := Aside0.mk ((by rw [hg]; exact (below_size (by repeat (first | (with_reducible first | exact HB.out | apply bA | apply bN | apply bD) | exact HB.out))) : w.heap.size ≤ gb312)); have n8_ := Aside0.mk ((by rw [hg]; exact (below_size (by repeat (first | (with_reducible first | exact HB.out | apply bA | apply bN | apply bD) | exact HB.out))) : w.heap.size ≤ gb312)); clear HO_5; clear HO_6; clear HO_7; clear HO_93; clear HO310; clear HB; have HO_5 := n0_; have HO_6 := n1_; have HO_7 := n2_; have HO_93 := n3_; have HO310 := n4_; have HB := n5_; have BK312 := n6_; have GW312 := n7_; have GE312 := n8_; clear n0_ n1_ n2_ n3_ n4_ n5_ n6_ n7_ n8_; clear hb hbox hg; obtain ⟨Ao74, co74, eo74⟩ := Kd.S_slice HO310.out; subst eo74; have hcz75_0 : w73.cell? ⟨gb312, 0, none⟩ = some (.slice none 0 0) := (blk_cell BK312.out 0).trans rfl; have hfz75_0 := blk_frozen BK312.out 0) | ((with_reducible refine gate_callee (f := 32) rfl ?_); refine goesL_ (some 135) rfl rfl Try.func32 (by kernel_rfl) rfl #[.slice Ao28 t283.length co28] rfl (by (try simp only [List.map_toArray, List.map_cons, List.map_nil]); first | done | rfl | (simp only [List.length_drop, List.length_take]; rfl)) ?_; (with_reducible refine (impl_MatrixOfAscent.calls k3 _ _ t283 t313 true _ ?side1 ?side2 A56.out).mono ?_); (case side1 => refine (Kd.R_reads' (e := 3) (base := w.heap.size) (ok := fun k_ => (some k_ ≠ (.slice Ao10 t280.length co10 : Value).ownBlock ∧ some k_ ≠ (v288 : Value).ownBlock)) (n := t283.length) (c := co28) ?_).2.2; exact (by (with_reducible repeat (first | apply Kd.R_alloc | apply Kd.R_drewN | apply Kd.R_drew)); exact (Kd.R_mono (Kd.R_far (p := ⟨gb312, 0, none⟩) (Kd.R_types HO_6.out BK312.out (by decide)) (fun _ hk => hk.2) (.slice Ao74 t308.length co74)) (fun _ h_ => h_.1)))); (case side2 => exact (Kd.R_reads' HO_6.out).2.1); rintro e w76 ⟨v314, rfl, ho0, hb⟩; refine ⟨_, rfl, ?_⟩; have n0_ := Aside0.mk (Kd.R_below (by (with_reducible repeat (first | apply Kd.R_alloc | apply Kd.R_drewN | apply Kd.R_drew)); exact (Kd.R_mono (Kd.R_far (p := ⟨gb312, 0, none⟩) (Kd.R_types HO_5.out BK312.out (by decide)) (fun _ hk => hk.2) (.slice Ao74 t308.length co74)) (fun _ h_ => h_.1))) hb); have n1_ := Aside0.mk (Kd.R_below (by (with_reducible repeat (first | apply Kd.R_alloc | apply Kd.R_drewN | apply Kd.R_drew)); exact (Kd.R_mono (Kd.R_far (p := ⟨gb312, 0, none⟩) (Kd.R_types HO_6.out BK312.out (by decide)) (fun _ hk => hk.2) (.slice Ao74 t308.length co74)) (fun _ h_ => h_.1))) hb); have n2_ := Aside0.mk (Kd.R_below (by (with_reducible repeat (first | apply Kd.R_alloc | apply Kd.R_drewN | apply Kd.R_drew)); exact (Kd.R_mono (Kd.R_far (p := ⟨gb312, 0, none⟩) (Kd.R_types HO_7.out BK312.out (by decide)) (fun _ hk => hk.2) (.slice Ao74 t308.length co74)) (fun _ h_ => h_.1))) hb); have n3_ := Aside0.mk (Kd.R_below (by (with_reducible repeat (first | apply Kd.R_alloc | apply Kd.R_drewN | apply Kd.R_drew)); exact (Kd.R_mono (Kd.R_far (p := ⟨gb312, 0, none⟩) (Kd.R_types HO_93.out BK312.out (by decide)) (fun _ hk => hk.2) (.slice Ao74 t308.length co74)) (fun _ h_ => h_.1))) hb); have n4_ := Aside0.mk (Kd.S_elder' (by (with_reducible repeat (first | apply Kd.S_alloc | apply Kd.S_drewN | apply Kd.S_drew)); exact (Kd.S_mono (Kd.S_far (p := ⟨gb312, 0, none⟩) (Kd.S_types HO310.out BK312.out (by decide)) (fun _ hk => hk.2) (.slice Ao74 t308.length co74)) (fun _ h_ => h_.1))) (Kd.S_base ho0) hb); have n5_ := Aside0.mk (Kd.S_lower (Kd.S_new' (Kd.S_new' (Kd.S_new' (Kd.S_new' (Kd.S_new' ho0 (Kd.R_lt (by (with_reducible repeat (first | apply Kd.R_alloc | apply Kd.R_drewN | apply Kd.R_drew)); exact (Kd.R_mono (Kd.R_far (p := ⟨gb312, 0, none⟩) (Kd.R_types HO_5.out BK312.out (by decide)) (fun _ hk => hk.2) (.slice Ao74 t308.length co74)) (fun _ h_ => h_.1))))) (Kd.R_lt (by (with_reducible repeat (first | apply Kd.R_alloc | apply Kd.R_drewN | apply Kd.R_drew)); exact (Kd.R_mono (Kd.R_far (p := ⟨gb312, 0, none⟩) (Kd.R_types HO_6.out BK312.out (by decide)) (fun _ hk => hk.2) (.slice Ao74 t308.length co74)) (fun _ h_ => h_.1))))) (Kd.R_lt (by (with_reducible repeat (first | apply Kd.R_alloc | apply Kd.R_drewN | apply Kd.R_drew)); exact (Kd.R_mono (Kd.R_far (p := ⟨gb312, 0, none⟩) (Kd.R_types HO_7.out BK312.out (by decide)) (fun _ hk => hk.2) (.slice Ao74 t308.length co74)) (fun _ h_ => h_.1))))) (Kd.R_lt (by (with_reducible repeat (first | apply Kd.R_alloc | apply Kd.R_drewN | apply Kd.R_drew)); exact (Kd.R_mono (Kd.R_far (p := ⟨gb312, 0, none⟩) (Kd.R_types HO_93.out BK312.out (by decide)) (fun _ hk => hk.2) (.slice Ao74 t308.length co74)) (fun _ h_ => h_.1))))) (Kd.S_lt (by (with_reducible repeat (first | apply Kd.S_alloc | apply Kd.S_drewN | apply Kd.S_drew)); exact (Kd.S_mono (Kd.S_far (p := ⟨gb312, 0, none⟩) (Kd.S_types HO310.out BK312.out (by decide)) (fun _ hk => hk.2) (.slice Ao74 t308.length co74)) (fun _ h_ => h_.1))))) (below_size (by repeat (first | (with_reducible first | exact HB.out | apply bA | apply bN | apply bD | refine below_set ?_ GE312.out) | exact HB.out)))); have n6_ := Aside0.mk (blk_below (g := gb312) (o := .cells #[.slice Ao74 t308.length co74] 36 (0, 0)) (by (with_reducible repeat (first | apply qN | apply qD | apply qA)); refine blk_put (cs := #[.slice none 0 0]) ?_ 0 _ rfl; (with_reducible repeat (first | apply qN | apply qD | apply qA)); exact BK312.out) hb); have n7_ := Aside0.mk (below_step (by repeat (first | (with_reducible first | exact HB.out | apply bA | apply bN | apply bD | refine below_set ?_ GE312.out) | exact HB.out)) hb); clear HO_5; clear HO_6; clear HO_7; clear HO_93; clear HO310; clear BK312; clear HB; have HO_5 := n0_; have HO_6 := n1_; have HO_7 := n2_; have HO_93 := n3_; have HO310 := n4_; have HO315 := n5_; have BK312 := n6_; have HB := n7_; clear n0_ n1_ n2_ n3_ n4_ n5_ n6_ n7_; (try clear hb); (try clear hb2); (try clear hk); (try clear hi); (try clear ho0)) | ((with_reducible refine gate_dst (N := 22) rfl ?_); (try (refine gate_guard (by rfl) ?_; dsimp only)); refine box_event ?hg (N := 22) ?hd (cs := #[.slice none 0 0]) (t := 36) ?hr ?_; (case hd => rfl); (case hg => rfl); (case hr => first | (go_simp; done) | (go_simp; rfl)); intro gb317 hg w77 hbox hb; have n0_ := Aside0.mk (Kd.R_below (by (with_reducible repeat (first | apply Kd.R_alloc | apply Kd.R_drewN | apply Kd.R_drew)); exact HO_5.out) hb); have n1_ := Aside0.mk (Kd.R_below (by (with_reducible repeat (first | apply Kd.R_alloc | apply Kd.R_drewN | apply Kd.R_drew)); exact HO_6.out) hb); have n2_ := Aside0.mk (Kd.R_below (by (with_reducible repeat (first | apply Kd.R_alloc | apply Kd.R_drewN | apply Kd.R_drew)); exact HO_7.out) hb); have n3_ := Aside0.mk (Kd.R_below (by (with_reducible repeat (first | apply Kd.R_alloc | apply Kd.R_drewN | apply Kd.R_drew)); exact HO_93.out) hb); have n4_ := Aside0.mk (Kd.S_below (by (with_reducible repeat (first | apply Kd.S_alloc | apply Kd.S_drewN | apply Kd.S_drew)); exact HO310.out) hb); have n5_ := Aside0.mk (Kd.S_below (by (with_reducible repeat (first | apply Kd.S_alloc | apply Kd.S_drewN | apply Kd.S_drew)); exact HO315.out) hb); have n6_ := Aside0.mk (blk_below (g := gb312) (o := .cells #[.slice Ao74 t308.length co74] 36 (0, 0)) (by (with_reducible repeat (first | apply qN | apply qD | apply qA)); exact BK312.out) hb); have n7_ := Aside0.mk (below_step (by repeat (first | (with_reducible first | exact HB.out | apply bA | apply bN | apply bD | refine below_set ?_ GE312.out) | exact HB.out)) hb); have n8_ := Aside0.mk (hbox); have n9_ := Aside0.mk ((by rw [hg]; exact (below_size (by repeat (first | (with_reducible first | exact HB.out | apply bA | apply bN | apply bD | refine below_set ?_ GE312.out) | exact HB.out))) : w.heap.size ≤ gb317)); have n10_ := Aside0.mk ((by rw [hg]; exact (below_size (by repeat (first | (with_reducible first | exact HB.out | apply bA | apply bN | apply bD | refine below_set ?_ GE312.out) | exact HB.out))) : w.heap.size ≤ gb317)); have n11_ := Aside0.mk ((by rw [hg]; exact Nat.ne_of_lt (blk_lt (g := gb312) (o := .cells #[.slice Ao74 t308.length co74] 36 (0, 0)) (by (with_reducible repeat (first | apply qN | apply qD | apply qA)); exact BK312.out)) : gb312 ≠ gb317)); have n12_ := Aside0.mk ((by rw [hg]; exact Nat.ne_of_gt (blk_lt (g := gb312) (o := .cells #[.slice Ao74 t308.length co74] 36 (0, 0)) (by (with_reducible repeat (first | apply qN | apply qD | apply qA)); exact BK312.out)) : gb317 ≠ gb312)); clear HO_5; clear HO_6; clear HO_7; clear HO_93; clear HO310; clear HO315; clear BK312; clear HB; have HO_5 := n0_; have HO_6 := n1_; have HO_7 := n2_; have HO_93 := n3_; have HO310 := n4_; have HO315 := n5_; have BK312 := n6_; have HB := n7_; have BK317 := n8_; have GW317 := n9_; have GE317 := n10_; have NB312_317 := n11_; have NB317_312 := n12_; clear n0_ n1_ n2_ n3_ n4_ n5_ n6_ n7_ n8_ n9_ n10_ n11_ n12_; clear hb hbox hg; obtain ⟨Ao78, co78, eo78⟩ := Kd.S_slice HO315.out; subst eo78; have hnb79 := NB317_312.out; have hnc79 := NB312_317.out; have hcz80_0 : w77.cell? ⟨gb317, 0, none⟩ = some (.slice none 0 0) := (blk_cell BK317.out 0).trans rfl; have hfz80_0 := blk_frozen BK317.out 0; have hcz81_0 : w77.cell? ⟨gb312, 0, none⟩ = some (.slice Ao74 t308.length co74) := (blk_cell BK312.out 0).trans rfl; have hfz81_0 := blk_frozen BK312.out 0))
                              go_ret
                              exact ⟨by first | rfl | (simp [errW_none, errW_some] <;> rfl) | (simp [*, errW_none, errW_some] <;> rfl), by repeat (first | (with_reducible first | exact HB.out | apply bA | apply bN | apply bD | refine below_set ?_ GE312.out | refine below_set ?_ GE317.out) | exact HB.out)⟩
                          · replace c58 := Bool.eq_false_iff.mpr c58
                            subst c58
                            have H1 : (some false) = some r := by rw [if_neg (show ¬ (false = true) by decide)] at H; exact H
                            clear H
                            have H := H1
                            clear H1
                            obtain rfl := Option.some.inj H
                            go_wp2_with (first | ((with_reducible refine gate_callee (f := 32) rfl ?_); refine goesL_ (some 130) rfl rfl Try.func32 (by kernel_rfl) rfl #[.slice Ao10 t280.length co10] rfl (by (try simp only [List.map_toArray, List.map_cons, List.map_nil]); first | done | rfl | (simp only [List.length_drop, List.length_take]; rfl)) ?_; (with_reducible refine (impl_MatrixOfAscent.calls k3 _ _ t280 t308 true _ ?side1 ?side2 A55.out).mono ?_); (case side1 => repeat (first | exact (Kd.R_reads' HO_5.out).2.2 | (with_reducible refine Kd.C_alloc ?_ _) | (with_reducible refine Kd.C_drewN ?_ _) | (with_reducible refine Kd.C_drew ?_))); (case side2 => exact (Kd.R_reads' HO_5.out).2.1); rintro e w82 ⟨v309, rfl, ho0, hb⟩; refine ⟨_, rfl, ?_⟩; have n0_ := Aside0.mk (Kd.R_below (by (with_reducible repeat (first | apply Kd.R_alloc | apply Kd.R_drewN | apply Kd.R_drew)); exact HO_5.out) hb); have n1_ := Aside0.mk (Kd.R_below (by (with_reducible repeat (first | apply Kd.R_alloc | apply Kd.R_drewN | apply Kd.R_drew)); exact HO_6.out) hb); have n2_ := Aside0.mk (Kd.R_below (by (with_reducible repeat (first | apply Kd.R_alloc | apply Kd.R_drewN | apply Kd.R_drew)); exact HO_7.out) hb); have n3_ := Aside0.mk (Kd.R_below (by (with_reducible repeat (first | apply Kd.R_alloc | apply Kd.R_drewN | apply Kd.R_drew)); exact HO_93.out) hb); have n4_ := Aside0.mk (Kd.S_lower (Kd.S_new' (Kd.S_new' (Kd.S_new' (Kd.S_new' ho0 (Kd.R_lt (by (with_reducible repeat (first | apply Kd.R_alloc | apply Kd.R_drewN | apply Kd.R_drew)); exact HO_5.out))) (Kd.R_lt (by (with_reducible repeat (first | apply Kd.R_alloc | apply Kd.R_drewN | apply Kd.R_drew)); exact HO_6.out))) (Kd.R_lt (by (with_reducible repeat (first | apply Kd.R_alloc | apply Kd.R_drewN | apply Kd.R_drew)); exact HO_7.out))) (Kd.R_lt (by (with_reducible repeat (first | apply Kd.R_alloc | apply Kd.R_drewN | apply Kd.R_drew)); exact HO_93.out))) (below_size (by repeat (first | (with_reducible first | exact HB.out | apply bA | apply bN | apply bD) | exact HB.out)))); have n5_ := Aside0.mk (below_step (by repeat (first | (with_reducible first | exact HB.out | apply bA | apply bN | apply bD) | exact HB.out)) hb); clear HO_5; clear HO_6; clear HO_7; clear HO_93; clear HB; have HO_5 := n0_; have HO_6 := n1_; have HO_7 := n2_; have HO_93 := n3_; have HO310 := n4_; have HB := n5_; clear n0_ n1_ n2_ n3_ n4_ n5_; (try clear hb); (try clear hb2); (try clear hk); (try clear hi); (try clear ho0)) | ((with_reducible refine gate_dst (N := 20) rfl ?_); (try (refine gate_guard (by rfl) ?_; dsimp only)); refine box_event ?hg (N := 20) ?hd (cs := #[.slice none 0 0]) (t := 36) ?hr ?_; (case hd => rfl); (case hg => rfl); (case hr => first | (go_simp; done) | (go_simp; rfl)); intro gb312 hg w83 hbox hb; have n0_ := Aside0.mk (Kd.R_below (by (with_reducible repeat (first | apply Kd.R_alloc | apply Kd.R_drewN | apply Kd.R_drew)); exact HO_5.out) hb); have n1_ := Aside0.mk (Kd.R_below (by (with_reducible repeat (first | apply Kd.R_alloc | apply Kd.R_drewN | apply Kd.R_drew)); exact HO_6.out) hb); have n2_ := Aside0.mk (Kd.R_below (by (with_reducible repeat (first | apply Kd.R_alloc | apply Kd.R_drewN | apply Kd.R_drew)); exact HO_7.out) hb); have n3_ := Aside0.mk (Kd.R_below (by (with_reducible repeat (first | apply Kd.R_alloc | apply Kd.R_drewN | apply Kd.R_drew)); exact HO_93.out) hb); have n4_ := Aside0.mk (Kd.S_below (by (with_reducible repeat (first | apply Kd.S_alloc | apply Kd.S_drewN | apply Kd.S_drew)); exact HO310.out) hb); have n5_ := Aside0.mk (below_step (by repeat (first | (with_reducible first | exact HB.out | apply bA | apply bN | apply bD) | exact HB.out)) hb); have n6_ := Aside0.mk (hbox); have n7_ := Aside0.mk ((by rw [hg]; exact (below_size (by repeat (first | (with_reducible first | exact HB.out | apply bA | apply bN | apply bD) | exact HB.out))) : w.heap.size ≤ gb312)); have n8_ := Aside0.mk ((by rw [hg]; exact (below_size (by repeat (first | (with_reducible first | exact HB.out | apply bA | apply bN | apply bD) | exact HB.out))) : w.heap.size ≤ gb312)); clear HO_5; clear HO_6; clear HO_7; clear HO_93; clear HO310; clear HB; have HO_5 := n0_; have HO_6 := n1_; have HO_7 := n2_; have HO_93 := n3_; have HO310 := n4_; have HB := n5_; have BK312 := n6_; have GW312 := n7_; have GE312 := n8_; clear n0_ n1_ n2_ n3_ n4_ n5_ n6_ n7_ n8_; clear hb hbox hg; obtain ⟨Ao84, co84, eo84⟩ := Kd.S_slice HO310.out; subst eo84; have hcz85_0 : w83.cell? ⟨gb312, 0, none⟩ = some (.slice none 0 0) := (blk_cell BK312.out 0).trans rfl; have hfz85_0 := blk_frozen BK312.out 0) | ((with_reducible refine gate_callee (f := 32) rfl ?_); refine goesL_ (some 135) rfl rfl Try.func32 (by kernel_rfl) rfl #[.slice Ao28 t283.length co28] rfl (by (try simp only [List.map_toArray, List.map_cons, List.map_nil]); first | done | rfl | (simp only [List.length_drop, List.length_take]; rfl)) ?_; (with_reducible refine (impl_MatrixOfAscent.calls k3 _ _ t283 t313 false _ ?side1 ?side2 A56.out).mono ?_); (case side1 => refine (Kd.R_reads' (e := 3) (base := w.heap.size) (ok := fun k_ => (some k_ ≠ (.slice Ao10 t280.length co10 : Value).ownBlock ∧ some k_ ≠ (v288 : Value).ownBlock)) (n := t283.length) (c := co28) ?_).2.2; exact (by (with_reducible repeat (first | apply Kd.R_alloc | apply Kd.R_drewN | apply Kd.R_drew)); exact (Kd.R_mono (Kd.R_far (p := ⟨gb312, 0, none⟩) (Kd.R_types HO_6.out BK312.out (by decide)) (fun _ hk => hk.2) (.slice Ao84 t308.length co84)) (fun _ h_ => h_.1)))); (case side2 => exact (Kd.R_reads' HO_6.out).2.1); rintro e w86 ⟨v314, rfl, ho0, hb⟩; refine ⟨_, rfl, ?_⟩; have n0_ := Aside0.mk (Kd.R_below (by (with_reducible repeat (first | apply Kd.R_alloc | apply Kd.R_drewN | apply Kd.R_drew)); exact (Kd.R_mono (Kd.R_far (p := ⟨gb312, 0, none⟩) (Kd.R_types HO_5.out BK312.out (by decide)) (fun _ hk => hk.2) (.slice Ao84 t308.length co84)) (fun _ h_ => h_.1))) hb); have n1_ := Aside0.mk (Kd.R_below (by (with_reducible repeat (first | apply Kd.R_alloc | apply Kd.R_drewN | apply Kd.R_drew)); exact (Kd.R_mono (Kd.R_far (p := ⟨gb312, 0, none⟩) (Kd.R_types HO_6.out BK312.out (by decide)) (fun _ hk => hk.2) (.slice Ao84 t308.length co84)) (fun _ h_ => h_.1))) hb); have n2_ := Aside0.mk (Kd.R_below (by (with_reducible repeat (first | apply Kd.R_alloc | apply Kd.R_drewN | apply Kd.R_drew)); exact (Kd.R_mono (Kd.R_far (p := ⟨gb312, 0, none⟩) (Kd.R_types HO_7.out BK312.out (by decide)) (fun _ hk => hk.2) (.slice Ao84 t308.length co84)) (fun _ h_ => h_.1))) hb); have n3_ := Aside0.mk (Kd.R_below (by (with_reducible repeat (first | apply Kd.R_alloc | apply Kd.R_drewN | apply Kd.R_drew)); exact (Kd.R_mono (Kd.R_far (p := ⟨gb312, 0, none⟩) (Kd.R_types HO_93.out BK312.out (by decide)) (fun _ hk => hk.2) (.slice Ao84 t308.length co84)) (fun _ h_ => h_.1))) hb); have n4_ := Aside0.mk (Kd.S_elder' (by (with_reducible repeat (first | apply Kd.S_alloc | apply Kd.S_drewN | apply Kd.S_drew)); exact (Kd.S_mono (Kd.S_far (p := ⟨gb312, 0, none⟩) (Kd.S_types HO310.out BK312.out (by decide)) (fun _ hk => hk.2) (.slice Ao84 t308.length co84)) (fun _ h_ => h_.1))) (Kd.S_base ho0) hb); have n5_ := Aside0.mk (Kd.S_lower (Kd.S_new' (Kd.S_new' (Kd.S_new' (Kd.S_new' (Kd.S_new' ho0 (Kd.R_lt (by (with_reducible repeat (first | apply Kd.R_alloc | apply Kd.R_drewN | apply Kd.R_drew)); exact (Kd.R_mono (Kd.R_far (p := ⟨gb312, 0, none⟩) (Kd.R_types HO_5.out BK312.out (by decide)) (fun _ hk => hk.2) (.slice Ao84 t308.length co84)) (fun _ h_ => h_.1))))) (Kd.R_lt (by (with_reducible repeat (first | apply Kd.R_alloc | apply Kd.R_drewN | apply Kd.R_drew)); exact (Kd.R_mono (Kd.R_far (p := ⟨gb312, 0, none⟩) (Kd.R_types HO_6.out BK312.out (by decide)) (fun _ hk => hk.2) (.slice Ao84 t308.length co84)) (fun _ h_ => h_.1))))) (Kd.R_lt (by (with_reducible repeat (first | apply Kd.R_alloc | apply Kd.R_drewN | apply Kd.R_drew)); exact (Kd.R_mono (Kd.R_far (p := ⟨gb312, 0, none⟩) (Kd.R_types HO_7.out BK312.out (by decide)) (fun _ hk => hk.2) (.slice Ao84 t308.length co84)) (fun _ h_ => h_.1))))) (Kd.R_lt (by (with_reducible repeat (first | apply Kd.R_alloc | apply Kd.R_drewN | apply Kd.R_drew)); exact (Kd.R_mono (Kd.R_far (p := ⟨gb312, 0, none⟩) (Kd.R_types HO_93.out BK312.out (by decide)) (fun _ hk => hk.2) (.slice Ao84 t308.length co84)) (fun _ h_ => h_.1))))) (Kd.S_lt (by (with_reducible repeat (first | apply Kd.S_alloc | apply Kd.S_drewN | apply Kd.S_drew)); exact (Kd.S_mono (Kd.S_far (p := ⟨gb312, 0, none⟩) (Kd.S_types HO310.out BK312.out (by decide)) (fun _ hk => hk.2) (.slice Ao84 t308.length co84)) (fun _ h_ => h_.1))))) (below_size (by repeat (first | (with_reducible first | exact HB.out | apply bA | apply bN | apply bD | refine below_set ?_ GE312.out) | exact HB.out)))); have n6_ := Aside0.mk (blk_below (g := gb312) (o := .cells #[.slice Ao84 t308.length co84] 36 (0, 0)) (by (with_reducible repeat (first | apply qN | apply qD | apply qA)); refine blk_put (cs := #[.slice none 0 0]) ?_ 0 _ rfl; (with_reducible repeat (first | apply qN | apply qD | apply qA)); exact BK312.out) hb); have n7_ := Aside0.mk (below_step (by repeat (first | (with_reducible first | exact HB.out | apply bA | apply bN | apply bD | refine below_set ?_ GE312.out) | exact HB.out)) hb); clear HO_5; clear HO_6; clear HO_7; clear HO_93; clear HO310; clear BK312; clear HB; have HO_5 := n0_; have HO_6 := n1_; have HO_7 := n2_; have HO_93 := n3_; have HO310 := n4_; have HO315 := n5_; have BK312 := n6_; have HB := n7_; clear n0_ n1_ n2_ n3_ n4_ n5_ n6_ n7_; (try clear hb); (try clear hb2); (try clear hk); (try clear hi); (try clear ho0)) | ((with_reducible refine gate_dst (N := 22) rfl ?_); (try (refine gate_guard (by rfl) ?_; dsimp only)); refine box_event ?hg (N := 22) ?hd (cs := #[.slice none 0 0]) (t := 36) ?hr ?_; (case hd => rfl); (case hg => rfl); (case hr => first | (go_simp; done) | (go_simp; rfl)); intro gb317 hg w87 hbox hb; have n0_ := Aside0.mk (Kd.R_below (by (with_reducible repeat (first | apply Kd.R_alloc | apply Kd.R_drewN | apply Kd.R_drew)); exact HO_5.out) hb); have n1_ := Aside0.mk (Kd.R_below (by (with_reducible repeat (first | apply Kd.R_alloc | apply Kd.R_drewN | apply Kd.R_drew)); exact HO_6.out) hb); have n2_ := Aside0.mk (Kd.R_below (by (with_reducible repeat (first | apply Kd.R_alloc | apply Kd.R_drewN | apply Kd.R_drew)); exact HO_7.out) hb); have n3_ := Aside0.mk (Kd.R_below (by (with_reducible repeat (first | apply Kd.R_alloc | apply Kd.R_drewN | apply Kd.R_drew)); exact HO_93.out) hb); have n4_ := Aside0.mk (Kd.S_below (by (with_reducible repeat (first | apply Kd.S_alloc | apply Kd.S_drewN | apply Kd.S_drew)); exact HO310.out) hb); have n5_ := Aside0.mk (Kd.S_below (by (with_reducible repeat (first | apply Kd.S_alloc | apply Kd.S_drewN | apply Kd.S_drew)); exact HO315.out) hb); have n6_ := Aside0.mk (blk_below (g := gb312) (o := .cells #[.slice Ao84 t308.length co84] 36 (0, 0)) (by (with_reducible repeat (first | apply qN | apply qD | apply qA)); exact BK312.out) hb); have n7_ := Aside0.mk (below_step (by repeat (first | (with_reducible first | exact HB.out | apply bA | apply bN | apply bD | refine below_set ?_ GE312.out) | exact HB.out)) hb); have n8_ := Aside0.mk (hbox); have n9_ := Aside0.mk ((by rw [hg]; exact (below_size (by repeat (first | (with_reducible first | exact HB.out | apply bA | apply bN | apply bD | refine below_set ?_ GE312.out) | exact HB.out))) : w.heap.size ≤ gb317)); have n10_ := Aside0.mk ((by rw [hg]; exact (below_size (by repeat (first | (with_reducible first | exact HB.out | apply bA | apply bN | apply bD | refine below_set ?_ GE312.out) | exact HB.out))) : w.heap.size ≤ gb317)); have n11_ := Aside0.mk ((by rw [hg]; exact Nat.ne_of_lt (blk_lt (g := gb312) (o := .cells #[.slice Ao84 t308.length co84] 36 (0, 0)) (by (with_reducible repeat (first | apply qN | apply qD | apply qA)); exact BK312.out)) : gb312 ≠ gb317)); have n12_ := Aside0.mk ((by rw [hg]; exact Nat.ne_of_gt (blk_lt (g := gb312) (o := .cells #[.slice Ao84 t308.length co84] 36 (0, 0)) (by (with_reducible repeat (first | apply qN | apply qD | apply qA)); exact BK312.out)) : gb317 ≠ gb312)); clear HO_5; clear HO_6; clear HO_7; clear HO_93; clear HO310; clear HO315; clear BK312; clear HB; have HO_5 := n0_; have HO_6 := n1_; have HO_7 := n2_; have HO_93 := n3_; have HO310 := n4_; have HO315 := n5_; have BK312 := n6_; have HB := n7_; have BK317 := n8_; have GW317 := n9_; have GE317 := n10_; have NB312_317 := n11_; have NB317_312 := n12_; clear n0_ n1_ n2_ n3_ n4_ n5_ n6_ n7_ n8_ n9_ n10_ n11_ n12_; clear hb hbox hg; obtain ⟨Ao88, co88, eo88⟩ := Kd.S_slice HO315.out; subst eo88; have hnb89 := NB317_312.out; have hnc89 := NB312_317.out; have hcz90_0 : w87.cell? ⟨gb317, 0, none⟩ = some (.slice none 0 0) := (blk_cell BK317.out 0).trans rfl; have hfz90_0 := blk_frozen BK317.out 0))
                            go_ret
                            exact ⟨by first | rfl | (simp [errW_none, errW_some] <;> rfl) | (simp [*, errW_none, errW_some] <;> rfl), by repeat (first | (with_reducible first | exact HB.out | apply bA | apply bN | apply bD | refine below_set ?_ GE312.out | refine below_set ?_ GE317.out) | exact HB.out)⟩
                        · replace c57 := Bool.eq_false_iff.mpr c57
                          subst c57
                          have H1 : (some false) = some r := by rw [if_neg (show ¬ (false = true) by decide)] at H; exact H
                          clear H
                          have H := H1
                          clear H1
                          obtain rfl := Option.some.inj H
                          go_wp2_with (first | ((with_reducible refine gate_callee (f := 32) rfl ?_); refine goesL_ (some 130) rfl rfl Try.func32 (by kernel_rfl) rfl #[.slice Ao10 t280.length co10] rfl (by (try simp only [List.map_toArray, List.map_cons, List.map_nil]); first | done | rfl | (simp only [List.length_drop, List.length_take]; rfl)) ?_; (with_reducible refine (impl_MatrixOfAscent.calls k3 _ _ t280 t308 false _ ?side1 ?side2 A55.out).mono ?_); (case side1 => repeat (first | exact (Kd.R_reads' HO_5.out).2.2 | (with_reducible refine Kd.C_alloc ?_ _) | (with_reducible refine Kd.C_drewN ?_ _) | (with_reducible refine Kd.C_drew ?_))); (case side2 => exact (Kd.R_reads' HO_5.out).2.1); rintro e w91 ⟨v309, rfl, ho0, hb⟩; refine ⟨_, rfl, ?_⟩; have n0_ := Aside0.mk (Kd.R_below (by (with_reducible repeat (first | apply Kd.R_alloc | apply Kd.R_drewN | apply Kd.R_drew)); exact HO_5.out) hb); have n1_ := Aside0.mk (Kd.R_below (by (with_reducible repeat (first | apply Kd.R_alloc | apply Kd.R_drewN | apply Kd.R_drew)); exact HO_6.out) hb); have n2_ := Aside0.mk (Kd.R_below (by (with_reducible repeat (first | apply Kd.R_alloc | apply Kd.R_drewN | apply Kd.R_drew)); exact HO_7.out) hb); have n3_ := Aside0.mk (Kd.R_below (by (with_reducible repeat (first | apply Kd.R_alloc | apply Kd.R_drewN | apply Kd.R_drew)); exact HO_93.out) hb); have n4_ := Aside0.mk (Kd.S_lower (Kd.S_new' (Kd.S_new' (Kd.S_new' (Kd.S_new' ho0 (Kd.R_lt (by (with_reducible repeat (first | apply Kd.R_alloc | apply Kd.R_drewN | apply Kd.R_drew)); exact HO_5.out))) (Kd.R_lt (by (with_reducible repeat (first | apply Kd.R_alloc | apply Kd.R_drewN | apply Kd.R_drew)); exact HO_6.out))) (Kd.R_lt (by (with_reducible repeat (first | apply Kd.R_alloc | apply Kd.R_drewN | apply Kd.R_drew)); exact HO_7.out))) (Kd.R_lt (by (with_reducible repeat (first | apply Kd.R_alloc | apply Kd.R_drewN | apply Kd.R_drew)); exact HO_93.out))) (below_size (by repeat (first | (with_reducible first | exact HB.out | apply bA | apply bN | apply bD) | exact HB.out)))); have n5_ := Aside0.mk (below_step (by repeat (first | (with_reducible first | exact HB.out | apply bA | apply bN | apply bD) | exact HB.out)) hb); clear HO_5; clear HO_6; clear HO_7; clear HO_93; clear HB; have HO_5 := n0_; have HO_6 := n1_; have HO_7 := n2_; have HO_93 := n3_; have HO310 := n4_; have HB := n5_; clear n0_ n1_ n2_ n3_ n4_ n5_; (try clear hb); (try clear hb2); (try clear hk); (try clear hi); (try clear ho0)) | ((with_reducible refine gate_dst (N := 20) rfl ?_); (try (refine gate_guard (by rfl) ?_; dsimp only)); refine box_event ?hg (N := 20) ?hd (cs := #[.slice none 0 0]) (t := 36) ?hr ?_; (case hd => rfl); (case hg => rfl); (case hr => first | (go_simp; done) | (go_simp; rfl)); intro gb312 hg w92 hbox hb; have n0_ := Aside0.mk (Kd.R_below (by (with_reducible repeat (first | apply Kd.R_alloc | apply Kd.R_drewN | apply Kd.R_drew)); exact HO_5.out) hb); have n1_ := Aside0.mk (Kd.R_below (by (with_reducible repeat (first | apply Kd.R_alloc | apply Kd.R_drewN | apply Kd.R_drew)); exact HO_6.out) hb); have n2_ := Aside0.mk (Kd.R_below (by (with_reducible repeat (first | apply Kd.R_alloc | apply Kd.R_drewN | apply Kd.R_drew)); exact HO_7.out) hb); have n3_ := Aside0.mk (Kd.R_below (by (with_reducible repeat (first | apply Kd.R_alloc | apply Kd.R_drewN | apply Kd.R_drew)); exact HO_93.out) hb); have n4_ := Aside0.mk (Kd.S_below (by (with_reducible repeat (first | apply Kd.S_alloc | apply Kd.S_drewN | apply Kd.S_drew)); exact HO310.out) hb); have n5_ := Aside0.mk (below_step (by repeat (first | (with_reducible first | exact HB.out | apply bA | apply bN | apply bD) | exact HB.out)) hb); have n6_ := Aside0.mk (hbox); have n7_ := Aside0.mk ((by rw [hg]; exact (below_size (by repeat (first | (with_reducible first | exact HB.out | apply bA | apply bN | apply bD) | exact HB.out))) : w.heap.size ≤ gb312)); have n8_ := Aside0.mk ((by rw [hg]; exact (below_size (by repeat (first | (with_reducible first | exact HB.out | apply bA | apply bN | apply bD) | exact HB.out))) : w.heap.size ≤ gb312)); clear HO_5; clear HO_6; clear HO_7; clear HO_93; clear HO310; clear HB; have HO_5 := n0_; have HO_6 := n1_; have HO_7 := n2_; have HO_93 := n3_; have HO310 := n4_; have HB := n5_; have BK312 := n6_; have GW312 := n7_; have GE312 := n8_; clear n0_ n1_ n2_ n3_ n4_ n5_ n6_ n7_ n8_; clear hb hbox hg; obtain ⟨Ao93, co93, eo93⟩ := Kd.S_slice HO310.out; subst eo93; have hcz94_0 : w92.cell? ⟨gb312, 0, none⟩ = some (.slice none 0 0) := (blk_cell BK312.out 0).trans rfl; have hfz94_0 := blk_frozen BK312.out 0) | ((with_reducible refine gate_callee (f := 32) rfl ?_); refine goesL_ (some 135) rfl rfl Try.func32 (by kernel_rfl) rfl #[.slice Ao28 t283.length co28] rfl (by (try simp only [List.map_toArray, List.map_cons, List.map_nil]); first | done | rfl | (simp only [List.length_drop, List.length_take]; rfl)) ?_; (with_reducible refine (impl_MatrixOfAscent.calls k3 _ _ t283 t313 t316 _ ?side1 ?side2 A56.out).mono ?_); (case side1 => refine (Kd.R_reads' (e := 3) (base := w.heap.size) (ok := fun k_ => (some k_ ≠ (.slice Ao10 t280.length co10 : Value).ownBlock ∧ some k_ ≠ (v288 : Value).ownBlock)) (n := t283.length) (c := co28) ?_).2.2; exact (by (with_reducible repeat (first | apply Kd.R_alloc | apply Kd.R_drewN | apply Kd.R_drew)); exact (Kd.R_mono (Kd.R_far (p := ⟨gb312, 0, none⟩) (Kd.R_types HO_6.out BK312.out (by decide)) (fun _ hk => hk.2) (.slice Ao93 t308.length co93)) (fun _ h_ => h_.1)))); (case side2 => exact (Kd.R_reads' HO_6.out).2.1); rintro e w95 ⟨v314, rfl, ho0, hb⟩; refine ⟨_, rfl, ?_⟩; have n0_ := Aside0.mk (Kd.R_below (by (with_reducible repeat (first | apply Kd.R_alloc | apply Kd.R_drewN | apply Kd.R_drew)); exact (Kd.R_mono (Kd.R_far (p := ⟨gb312, 0, none⟩) (Kd.R_types HO_5.out BK312.out (by decide)) (fun _ hk => hk.2) (.slice Ao93 t308.length co93)) (fun _ h_ => h_.1))) hb); have n1_ := Aside0.mk (Kd.R_below (by (with_reducible repeat (first | apply Kd.R_alloc | apply Kd.R_drewN | apply Kd.R_drew)); exact (Kd.R_mono (Kd.R_far (p := ⟨gb312, 0, none⟩) (Kd.R_types HO_6.out BK312.out (by decide)) (fun _ hk => hk.2) (.slice Ao93 t308.length co93)) (fun _ h_ => h_.1))) hb); have n2_ := Aside0.mk (Kd.R_below (by (with_reducible repeat (first | apply Kd.R_alloc | apply Kd.R_drewN | apply Kd.R_drew)); exact (Kd.R_mono (Kd.R_far (p := ⟨gb312, 0, none⟩) (Kd.R_types HO_7.out BK312.out (by decide)) (fun _ hk => hk.2) (.slice Ao93 t308.length co93)) (fun _ h_ => h_.1))) hb); have n3_ := Aside0.mk (Kd.R_below (by (with_reducible repeat (first | apply Kd.R_alloc | apply Kd.R_drewN | apply Kd.R_drew)); exact (Kd.R_mono (Kd.R_far (p := ⟨gb312, 0, none⟩) (Kd.R_types HO_93.out BK312.out (by decide)) (fun _ hk => hk.2) (.slice Ao93 t308.length co93)) (fun _ h_ => h_.1))) hb); have n4_ := Aside0.mk (Kd.S_elder' (by (with_reducible repeat (first | apply Kd.S_alloc | apply Kd.S_drewN | apply Kd.S_drew)); exact (Kd.S_mono (Kd.S_far (p := ⟨gb312, 0, none⟩) (Kd.S_types HO310.out BK312.out (by decide)) (fun _ hk => hk.2) (.slice Ao93 t308.length co93)) (fun _ h_ => h_.1))) (Kd.S_base ho0) hb); have n5_ := Aside0.mk (Kd.S_lower (Kd.S_new' (Kd.S_new' (Kd.S_new' (Kd.S_new' (Kd.S_new' ho0 (Kd.R_lt (by (with_reducible repeat (first | apply Kd.R_alloc | apply Kd.R_drewN | apply Kd.R_drew)); exact (Kd.R_mono (Kd.R_far (p := ⟨gb312, 0, none⟩) (Kd.R_types HO_5.out BK312.out (by decide)) (fun _ hk => hk.2) (.slice Ao93 t308.length co93)) (fun _ h_ => h_.1))))) (Kd.R_lt (by (with_reducible repeat (first | apply Kd.R_alloc | apply Kd.R_drewN | apply Kd.R_drew)); exact (Kd.R_mono (Kd.R_far (p := ⟨gb312, 0, none⟩) (Kd.R_types HO_6.out BK312.out (by decide)) (fun _ hk => hk.2) (.slice Ao93 t308.length co93)) (fun _ h_ => h_.1))))) (Kd.R_lt (by (with_reducible repeat (first | apply Kd.R_alloc | apply Kd.R_drewN | apply Kd.R_drew)); exact (Kd.R_mono (Kd.R_far (p := ⟨gb312, 0, none⟩) (Kd.R_types HO_7.out BK312.out (by decide)) (fun _ hk => hk.2) (.slice Ao93 t308.length co93)) (fun _ h_ => h_.1))))) (Kd.R_lt (by (with_reducible repeat (first | apply Kd.R_alloc | apply Kd.R_drewN | apply Kd.R_drew)); exact (Kd.R_mono (Kd.R_far (p := ⟨gb312, 0, none⟩) (Kd.R_types HO_93.out BK312.out (by decide)) (fun _ hk => hk.2) (.slice Ao93 t308.length co93)) (fun _ h_ => h_.1))))) (Kd.S_lt (by (with_reducible repeat (first | apply Kd.S_alloc | apply Kd.S_drewN | apply Kd.S_drew)); exact (Kd.S_mono (Kd.S_far (p := ⟨gb312, 0, none⟩) (Kd.S_types HO310.out BK312.out (by decide)) (fun _ hk => hk.2) (.slice Ao93 t308.length co93)) (fun _ h_ => h_.1))))) (below_size (by repeat (first | (with_reducible first | exact HB.out | apply bA | apply bN | apply bD | refine below_set ?_ GE312.out) | exact HB.out)))); have n6_ := Aside0.mk (blk_below (g := gb312) (o := .cells #[.slice Ao93 t308.length co93] 36 (0, 0)) (by (with_reducible repeat (first | apply qN | apply qD | apply qA)); refine blk_put (cs := #[.slice none 0 0]) ?_ 0 _ rfl; (with_reducible repeat (first | apply qN | apply qD | apply qA)); exact BK312.out) hb); have n7_ := Aside0.mk (below_step (by repeat (first | (with_reducible first | exact HB.out | apply bA | apply bN | apply bD | refine below_set ?_ GE312.out) | exact HB.out)) hb); clear HO_5; clear HO_6; clear HO_7; clear HO_93; clear HO310; clear BK312; clear HB; have HO_5 := n0_; have HO_6 := n1_; have HO_7 := n2_; have HO_93 := n3_; have HO310 := n4_; have HO315 := n5_; have BK312 := n6_; have HB := n7_; clear n0_ n1_ n2_ n3_ n4_ n5_ n6_ n7_; (try clear hb); (try clear hb2); (try clear hk); (try clear hi); (try clear ho0)) | ((with_reducible refine gate_dst (N := 22) rfl ?_); (try (refine gate_guard (by rfl) ?_; dsimp only)); refine box_event ?hg (N := 22) ?hd (cs := #[.slice none 0 0]) (t := 36) ?hr ?_; (case hd => rfl); (case hg => rfl); (case hr => first | (go_simp; done) | (go_simp; rfl)); intro gb317 hg w96 hbox hb; have n0_ := Aside0.mk (Kd.R_below (by (with_reducible repeat (first | apply Kd.R_alloc | apply Kd.R_drewN | apply Kd.R_drew)); exact HO_5.out) hb); have n1_ := Aside0.mk (Kd.R_below (by (with_reducible repeat (first | apply Kd.R_alloc | apply Kd.R_drewN | apply Kd.R_drew)); exact HO_6.out) hb); have n2_ := Aside0.mk (Kd.R_below (by (with_reducible repeat (first | apply Kd.R_alloc | apply Kd.R_drewN | apply Kd.R_drew)); exact HO_7.out) hb); have n3_ := Aside0.mk (Kd.R_below (by (with_reducible repeat (first | apply Kd.R_alloc | apply Kd.R_drewN | apply Kd.R_drew)); exact HO_93.out) hb); have n4_ := Aside0.mk (Kd.S_below (by (with_reducible repeat (first | apply Kd.S_alloc | apply Kd.S_drewN | apply Kd.S_drew)); exact HO310.out) hb); have n5_ := Aside0.mk (Kd.S_below (by (with_reducible repeat (first | apply Kd.S_alloc | apply Kd.S_drewN | apply Kd.S_drew)); exact HO315.out) hb); have n6_ := Aside0.mk (blk_below (g := gb312) (o := .cells #[.slice Ao93 t308.length co93] 36 (0, 0)) (by (with_reducible repeat (first | apply qN | apply qD | apply qA)); exact BK312.out) hb); have n7_ := Aside0.mk (below_step (by repeat (first | (with_reducible first | exact HB.out | apply bA | apply bN | apply bD | refine below_set ?_ GE312.out) | exact HB.out)) hb); have n8_ := Aside0.mk (hbox); have n9_ := Aside0.mk ((by rw [hg]; exact (below_size (by repeat (first | (with_reducible first | exact HB.out | apply bA | apply bN | apply bD | refine below_set ?_ GE312.out) | exact HB.out))) : w.heap.size ≤ gb317)); have n10_ := Aside0.mk ((by rw [hg]; exact (below_size (by repeat (first | (with_reducible first | exact HB.out | apply bA | apply bN | apply bD | refine below_set ?_ GE312.out) | exact HB.out))) : w.heap.size ≤ gb317)); have n11_ := Aside0.mk ((by rw [hg]; exact Nat.ne_of_lt (blk_lt (g := gb312) (o := .cells #[.slice Ao93 t308.length co93] 36 (0, 0)) (by (with_reducible repeat (first | apply qN | apply qD | apply qA)); exact BK312.out)) : gb312 ≠ gb317)); have n12_ := Aside0.mk ((by rw [hg]; exact Nat.ne_of_gt (blk_lt (g := gb312) (o := .cells #[.slice Ao93 t308.length co93] 36 (0, 0)) (by (with_reducible repeat (first | apply qN | apply qD | apply qA)); exact BK312.out)) : gb317 ≠ gb312)); clear HO_5; clear HO_6; clear HO_7; clear HO_93; clear HO310; clear HO315; clear BK312; clear HB; have HO_5 := n0_; have HO_6 := n1_; have HO_7 := n2_; have HO_93 := n3_; have HO310 := n4_; have HO315 := n5_; have BK312 := n6_; have HB := n7_; have BK317 := n8_; have GW317 := n9_; have GE317 := n10_; have NB312_317 := n11_; have NB317_312 := n12_; clear n0_ n1_ n2_ n3_ n4_ n5_ n6_ n7_ n8_ n9_ n10_ n11_ n12_; clear hb hbox hg; obtain ⟨Ao97, co97, eo97⟩ := Kd.S_slice HO315.out; subst eo97; have hnb98 := NB317_312.out; have hnc98 := NB312_317.out; have hcz99_0 : w96.cell? ⟨gb317, 0, none⟩ = some (.slice none 0 0) := (blk_cell BK317.out 0).trans rfl; have hfz99_0 := blk_frozen BK317.out 0))
                          go_ret
                          exact ⟨by first | rfl | (simp [errW_none, errW_some] <;> rfl) | (simp [*, errW_none, errW_some] <;> rfl), by repeat (first | (with_reducible first | exact HB.out | apply bA | apply bN | apply bD | refine below_set ?_ GE312.out | refine below_set ?_ GE317.out) | exact HB.out)⟩
          · replace c24 := Bool.eq_false_iff.mpr c24
            subst c24
            have H1 : (some true) = some r := by rw [if_neg (show ¬ (false = true) by decide)] at H; exact H
            clear H
            have H := H1
            clear H1
            obtain rfl := Option.some.inj H
            go_wp2
            go_ret
            exact ⟨by first | rfl | (simp [errW_none, errW_some] <;> rfl) | (simp [*, errW_none, errW_some] <;> rfl), by repeat (first | (with_reducible first | exact HB.out | apply bA | apply bN | apply bD) | exact HB.out)⟩

/-- THE ONE PURE STATEMENT of laws_FnRunsOfEqualNumbers: yours. -/
def laws_FnRunsOfEqualNumbers.Pure : Prop := ∀ (l0 : List Int) (l1 : List Int), l0.length ≤ maxLen → l0.length * 1 ≤ 140737488351232 → (∀ x ∈ l0, (Lit.int .u8 x).wf = true) → l1.length ≤ maxLen → l1.length * 1 ≤ 140737488351232 → (∀ x ∈ l1, (Lit.int .u8 x).wf = true) → ∃ k, laws_FnRunsOfEqualNumbers.f k l0 l1 = some true
theorem laws_FnRunsOfEqualNumbers.walk (P : laws_FnRunsOfEqualNumbers.Pure) (a0 : Option Addr) (len0 cap0 : Nat) (z0 : List Int) (a1 : Option Addr) (len1 cap1 : Nat) (z1 : List Int) (w : World) (w0 : (a0 = none ∧ len0 = 0 ∧ cap0 = 0 ∧ z0 = []) ∨ ∃ x, a0 = some x ∧ len0 ≤ cap0 ∧ cap0 ≤ maxLen ∧ z0.length = cap0 ∧ (∀ i, i < z0.length → w.cell? (x.add i) = some (.int .u8 (z0.getD i 0))) ∧ ∀ n ∈ z0, (Lit.int .u8 n).wf = true) (y0 : len0 * 1 ≤ 140737488351232) (w1 : (a1 = none ∧ len1 = 0 ∧ cap1 = 0 ∧ z1 = []) ∨ ∃ x, a1 = some x ∧ len1 ≤ cap1 ∧ cap1 ≤ maxLen ∧ z1.length = cap1 ∧ (∀ i, i < z1.length → w.cell? (x.add i) = some (.int .u8 (z1.getD i 0))) ∧ ∀ n ∈ z1, (Lit.int .u8 n).wf = true) (y1 : len1 * 1 ≤ 140737488351232) :
    Calls Try.prog 5 #[.slice a0 len0 cap0, .slice a1 len1 cap1] w fun e w' => e = .returned (.bool true) ∧ Below w.heap.size w w' := by
  obtain ⟨l0, rfl, hr0, hm0, hw0, hc0⟩ := ReadsInt.ofRowC w0
  obtain ⟨l1, rfl, hr1, hm1, hw1, hc1⟩ := ReadsInt.ofRowC w1
  obtain ⟨k, h⟩ := P l0 l1 hm0 y0 hw0 hm1 y1 hw1
  refine (laws_FnRunsOfEqualNumbers.calls k _ _ l0 _ _ l1 true w (Kd.C_of_reads (d := (0 : Int)) (h1 := fun _ => rfl) hr0) hc0 (Kd.C_of_reads (d := (0 : Int)) (h1 := fun _ => rfl) hr1) hc1 h).mono ?_
  rintro e w' ⟨rfl, hd⟩
  exact ⟨rfl, hd⟩

end Go.Proofs.Ytacdlipojhoilaa.Ex
