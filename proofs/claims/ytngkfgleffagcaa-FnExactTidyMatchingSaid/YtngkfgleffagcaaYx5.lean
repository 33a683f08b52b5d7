-- Written by hook.py, a program of this session (wip/), which runs the kit's print.py with its own parts; Lean checks it.
import Derived.Test.YtngkfgleffagcaaYx0
import Derived.Test.YtngkfgleffagcaaYx1
import Derived.Test.YtngkfgleffagcaaYx3
import Derived.Test.YtngkfgleffagcaaYx4
namespace Go.Proofs.Ytngkfgleffagcaa.Yx
open Go.RowKit Go.Proofs.YtngkfgleffagcaaW.PrintWords Go.Proofs.YtngkfgleffagcaaW.PrintLast Go.Proofs.YtngkfgleffagcaaW.PrintMore
attribute [local go_sem] max2_int min2_int max_two min_two max_three min_three max_four min_four   -- for this text's walks alone
set_option linter.unusedVariables false
set_option linter.unusedSimpArgs false

/-! ### spec_stMatrix: function 37 -/
mutual
def spec_stMatrix.l0 : Nat → List Int → List Int → Int → Int → List (List Int) → Option ((List (List Int)))
  | 0, _, _, _, _, _ => none
  | k + 1, x0, x3, x4, x6, x179000 => if x6 < x4 then (if 0 ≤ x4 then (if (x4 : Int).toNat ≤ 35184372088832 then ((spec_stArcs.f k x0).bind fun t182 => (spec_stMatrix.l1 k x0 x3 x4 x6 (List.replicate (x4 : Int).toNat 0) t182 (t182.length : Int) 0 x179000)) else (none)) else (none)) else (some x179000)
def spec_stMatrix.l1 : Nat → List Int → List Int → Int → Int → List Int → List (S70) → Int → Int → List (List Int) → Option ((List (List Int)))
  | 0, _, _, _, _, _, _, _, _, _ => none
  | k + 1, x0, x3, x4, x6, x7, x25, x26, x27, x179000 => if x27 < x26 then (if 0 ≤ x27 then (if x27 < (x25.length : Int) then (if 0 ≤ ((rd_T70 x25 x27).f0) then (if ((rd_T70 x25 x27).f0) < (x3.length : Int) then (if (rd x3 ((rd_T70 x25 x27).f0)) = x6 then (if 0 ≤ ((rd_T70 x25 x27).f1) then (if ((rd_T70 x25 x27).f1) < (x3.length : Int) then (if 0 ≤ (rd x3 ((rd_T70 x25 x27).f1)) then (if (rd x3 ((rd_T70 x25 x27).f1)) < (x7.length : Int) then (spec_stMatrix.l1 k x0 x3 x4 x6 (x7.set ((rd x3 ((rd_T70 x25 x27).f1)) : Int).toNat (wrap64 ((rd x7 (rd x3 ((rd_T70 x25 x27).f1))) + 1))) x25 x26 (wrap64 (x27 + 1)) x179000) else (none)) else (none)) else (none)) else (none)) else (spec_stMatrix.l1 k x0 x3 x4 x6 x7 x25 x26 (wrap64 (x27 + 1)) x179000)) else (none)) else (none)) else (none)) else (none)) else (if x179000.length < 5864062014805 then (spec_stMatrix.l0 k x0 x3 x4 (wrap64 (x6 + 1)) (x179000 ++ [x7])) else (none))
end
def spec_stMatrix.f (k : Nat) (l0 : List Int) : Option ((List (List Int))) := (spec_stRunOf.f k l0).bind fun t172 => ((spec_stRuns.f k l0).bind fun t175 => (spec_stMatrix.l0 k l0 t172 (wrap64 ((t175.length : Int) / 2)) 0 ([] : List (List Int))))
theorem spec_stMatrix.mono_l : ∀ k, (∀ y0 y1 y2 y3 y4, LeO (spec_stMatrix.l0 k y0 y1 y2 y3 y4) (spec_stMatrix.l0 (k + 1) y0 y1 y2 y3 y4)) ∧ (∀ y0 y1 y2 y3 y4 y5 y6 y7 y8, LeO (spec_stMatrix.l1 k y0 y1 y2 y3 y4 y5 y6 y7 y8) (spec_stMatrix.l1 (k + 1) y0 y1 y2 y3 y4 y5 y6 y7 y8))
  | 0 => ⟨fun _ _ _ _ _ r h => by simp [spec_stMatrix.l0] at h, fun _ _ _ _ _ _ _ _ _ r h => by simp [spec_stMatrix.l1] at h⟩
  | k + 1 => by
    obtain ⟨ih0, ih1⟩ := spec_stMatrix.mono_l k
    refine ⟨?_, ?_⟩
    · intro y0 y1 y2 y3 y4
      unfold spec_stMatrix.l0
      repeat' first | with_reducible first | exact ih0 _ _ _ _ _ | exact ih1 _ _ _ _ _ _ _ _ _ | exact spec_stArcs.mono _ _ | exact spec_stRunOf.mono _ _ | exact spec_stRuns.mono _ _ | exact LeO.refl _ | exact LeO.none _ | refine LeO.ite ?_ ?_ | refine LeO.bind ?_ (fun _ => ?_)
    · intro y0 y1 y2 y3 y4 y5 y6 y7 y8
      unfold spec_stMatrix.l1
      repeat' first | with_reducible first | exact ih0 _ _ _ _ _ | exact ih1 _ _ _ _ _ _ _ _ _ | exact spec_stArcs.mono _ _ | exact spec_stRunOf.mono _ _ | exact spec_stRuns.mono _ _ | exact LeO.refl _ | exact LeO.none _ | refine LeO.ite ?_ ?_ | refine LeO.bind ?_ (fun _ => ?_)
theorem spec_stMatrix.mono : ∀ a0 k, LeO (spec_stMatrix.f k a0) (spec_stMatrix.f (k + 1) a0) := by
  intro a0 k
  obtain ⟨ih0, ih1⟩ := spec_stMatrix.mono_l k
  unfold spec_stMatrix.f
  repeat' first | with_reducible first | exact ih0 _ _ _ _ _ | exact ih1 _ _ _ _ _ _ _ _ _ | exact spec_stArcs.mono _ _ | exact spec_stRunOf.mono _ _ | exact spec_stRuns.mono _ _ | exact LeO.refl _ | exact LeO.none _ | refine LeO.ite ?_ ?_ | refine LeO.bind ?_ (fun _ => ?_)
set_option maxHeartbeats 8000000 in
set_option maxRecDepth 100000 in
theorem spec_stMatrix.calls (k : Nat) (A0 : Option Addr) (c0 : Nat) (l0 : List Int) (r : List (List Int)) (w : World) (hr0 : Kd.C (Kd.int .i64) w A0 l0.length l0) (hc0 : l0.length ≤ c0) (h : spec_stMatrix.f k l0 = some r) :
    Calls Try.prog 37 #[.slice A0 l0.length c0] w fun e w' => ∃ v0_ : Value, e = .returned (.agg #[v0_]) ∧ Kd.S (Kd.slice 3 (Kd.int .i64)) 22 w' w.heap.size (fun _ => True) v0_ r ∧ Below w.heap.size w w' := by
  have hu34 := Try.underlying34
  have hu70 := Try.underlying70
  have HR0 := Aside0.mk hr0
  have HC0 := Aside0.mk hc0
  clear hr0 hc0
  have HB := Aside0.mk (Below.refl w.heap.size w)
  have H : ((spec_stRunOf.f k l0).bind fun t172 => ((spec_stRuns.f k l0).bind fun t175 => (spec_stMatrix.l0 k l0 t172 (wrap64 ((t175.length : Int) / 2)) 0 ([] : List (List Int))))) = some r := h
  clear h
  replace H := Option.bind_eq_some_iff.mp H
  obtain ⟨t172, A20, H⟩ := H
  replace H : ((spec_stRuns.f k l0).bind fun t175 => (spec_stMatrix.l0 k l0 t172 (wrap64 ((t175.length : Int) / 2)) 0 ([] : List (List Int)))) = some r := H
  have A2 := Aside0.mk A20
  clear A20
  replace H := Option.bind_eq_some_iff.mp H
  obtain ⟨t175, A30, H⟩ := H
  replace H : (spec_stMatrix.l0 k l0 t172 (wrap64 ((t175.length : Int) / 2)) 0 ([] : List (List Int))) = some r := H
  have A3 := Aside0.mk A30
  clear A30
  have H' := Aside0.mk H
  clear H
  go_enter Try.func37, Try.ntmps37
  go_wp2_with (first | ((with_reducible refine gate_dst (N := 2) rfl ?_); refine box_event ?hg (N := 2) ?hd (cs := #[.slice none 0 0]) (t := 34) ?hr ?_; (case hd => rfl); (case hg => rfl); (case hr => first | (go_simp; done) | (go_simp; rfl)); intro gb171 hg w4 hbox hb; have n0_ := Aside0.mk (below_step (by repeat (first | (with_reducible first | exact HB.out | apply bA | apply bN | apply bD) | exact HB.out)) hb); have n1_ := Aside0.mk (hbox); have n2_ := Aside0.mk ((by rw [hg]; exact (below_size (by repeat (first | (with_reducible first | exact HB.out | apply bA | apply bN | apply bD) | exact HB.out))) : w.heap.size ≤ gb171)); have n3_ := Aside0.mk ((by rw [hg]; exact (below_size (by repeat (first | (with_reducible first | exact HB.out | apply bA | apply bN | apply bD) | exact HB.out))) : w.heap.size ≤ gb171)); clear HB; have HB := n0_; have BK171 := n1_; have GW171 := n2_; have GE171 := n3_; clear n0_ n1_ n2_ n3_; clear hb hbox hg) | ((with_reducible refine gate_callee (f := 59) rfl ?_); refine goesL_ (some 11) rfl rfl Try.func59 (by kernel_rfl) rfl #[.slice A0 l0.length c0] rfl (by (try simp only [List.map_toArray, List.map_cons, List.map_nil]); first | done | rfl | (simp only [List.length_drop, List.length_take]; rfl)) ?_; (with_reducible refine (spec_stRunOf.calls k _ _ l0 t172 _ ?side1 ?side2 A2.out).mono ?_); (case side1 => repeat (first | exact (Kd.C_below HR0.out HB.out) | (with_reducible refine Kd.C_alloc ?_ _) | (with_reducible refine Kd.C_drewN ?_ _) | (with_reducible refine Kd.C_drew ?_))); (case side2 => exact HC0.out); rintro e w5 ⟨v173, rfl, ho0, hb⟩; refine ⟨_, rfl, ?_⟩; have n0_ := Aside0.mk (Kd.R_lower ho0 (below_size (by repeat (first | (with_reducible first | exact HB.out | apply bA | apply bN | apply bD | refine below_set ?_ GE171.out) | exact HB.out)))); have n1_ := Aside0.mk (blk_below (g := gb171) (o := .cells #[.slice none 0 0] 34 (0, 0)) (by (with_reducible repeat (first | apply qN | apply qD | apply qA)); exact BK171.out) hb); have n2_ := Aside0.mk (below_step (by repeat (first | (with_reducible first | exact HB.out | apply bA | apply bN | apply bD | refine below_set ?_ GE171.out) | exact HB.out)) hb); clear BK171; clear HB; have HO174 := n0_; have BK171 := n1_; have HB := n2_; clear n0_ n1_ n2_; (try clear hb); (try clear hb2); (try clear hk); (try clear hi); (try clear ho0)) | ((with_reducible refine gate_callee (f := 60) rfl ?_); refine goesL_ (some 13) rfl rfl Try.func60 (by kernel_rfl) rfl #[.slice A0 l0.length c0] rfl (by (try simp only [List.map_toArray, List.map_cons, List.map_nil]); first | done | rfl | (simp only [List.length_drop, List.length_take]; rfl)) ?_; (with_reducible refine (spec_stRuns.calls k _ _ l0 t175 _ ?side1 ?side2 A3.out).mono ?_); (case side1 => repeat (first | exact (Kd.C_below HR0.out HB.out) | (with_reducible refine Kd.C_alloc ?_ _) | (with_reducible refine Kd.C_drewN ?_ _) | (with_reducible refine Kd.C_drew ?_))); (case side2 => exact HC0.out); rintro e w6 ⟨v176, rfl, ho0, hb⟩; refine ⟨_, rfl, ?_⟩; have n0_ := Aside0.mk (Kd.R_elder' (by (with_reducible repeat (first | apply Kd.R_alloc | apply Kd.R_drewN | apply Kd.R_drew)); exact HO174.out) (Kd.R_base ho0) hb); have n1_ := Aside0.mk (Kd.R_lower (Kd.R_new' ho0 (Kd.R_lt (by (with_reducible repeat (first | apply Kd.R_alloc | apply Kd.R_drewN | apply Kd.R_drew)); exact HO174.out))) (below_size (by repeat (first | (with_reducible first | exact HB.out | apply bA | apply bN | apply bD | refine below_set ?_ GE171.out) | exact HB.out)))); have n2_ := Aside0.mk (blk_below (g := gb171) (o := .cells #[.slice none 0 0] 34 (0, 0)) (by (with_reducible repeat (first | apply qN | apply qD | apply qA)); exact BK171.out) hb); have n3_ := Aside0.mk (below_step (by repeat (first | (with_reducible first | exact HB.out | apply bA | apply bN | apply bD | refine below_set ?_ GE171.out) | exact HB.out)) hb); clear HO174; clear BK171; clear HB; have HO174 := n0_; have HO177 := n1_; have BK171 := n2_; have HB := n3_; clear n0_ n1_ n2_ n3_; (try clear hb); (try clear hb2); (try clear hk); (try clear hi); (try clear ho0); obtain ⟨Ao7, co7, eo7⟩ := Kd.R_slice HO177.out; subst eo7) | ((with_reducible refine gate_dst (N := 5) rfl ?_); refine box_event ?hg (N := 5) ?hd (cs := #[.slice none 0 0]) (t := 34) ?hr ?_; (case hd => rfl); (case hg => rfl); (case hr => first | (go_simp; done) | (go_simp; rfl)); intro gb178 hg w8 hbox hb; have n0_ := Aside0.mk (Kd.R_below (by (with_reducible repeat (first | apply Kd.R_alloc | apply Kd.R_drewN | apply Kd.R_drew)); exact HO174.out) hb); have n1_ := Aside0.mk (Kd.R_below (by (with_reducible repeat (first | apply Kd.R_alloc | apply Kd.R_drewN | apply Kd.R_drew)); exact HO177.out) hb); have n2_ := Aside0.mk (blk_below (g := gb171) (o := .cells #[.slice none 0 0] 34 (0, 0)) (by (with_reducible repeat (first | apply qN | apply qD | apply qA)); exact BK171.out) hb); have n3_ := Aside0.mk (below_step (by repeat (first | (with_reducible first | exact HB.out | apply bA | apply bN | apply bD | refine below_set ?_ GE171.out) | exact HB.out)) hb); have n4_ := Aside0.mk (hbox); have n5_ := Aside0.mk ((by rw [hg]; exact (below_size (by repeat (first | (with_reducible first | exact HB.out | apply bA | apply bN | apply bD | refine below_set ?_ GE171.out) | exact HB.out))) : w.heap.size ≤ gb178)); have n6_ := Aside0.mk ((by rw [hg]; exact (below_size (by repeat (first | (with_reducible first | exact HB.out | apply bA | apply bN | apply bD | refine below_set ?_ GE171.out) | exact HB.out))) : w.heap.size ≤ gb178)); have n7_ := Aside0.mk ((by rw [hg]; exact Nat.ne_of_lt (blk_lt (g := gb171) (o := .cells #[.slice none 0 0] 34 (0, 0)) (by (with_reducible repeat (first | apply qN | apply qD | apply qA)); exact BK171.out)) : gb171 ≠ gb178)); have n8_ := Aside0.mk ((by rw [hg]; exact Nat.ne_of_gt (blk_lt (g := gb171) (o := .cells #[.slice none 0 0] 34 (0, 0)) (by (with_reducible repeat (first | apply qN | apply qD | apply qA)); exact BK171.out)) : gb178 ≠ gb171)); clear HO174; clear HO177; clear BK171; clear HB; have HO174 := n0_; have HO177 := n1_; have BK171 := n2_; have HB := n3_; have BK178 := n4_; have GW178 := n5_; have GE178 := n6_; have NB171_178 := n7_; have NB178_171 := n8_; clear n0_ n1_ n2_ n3_ n4_ n5_ n6_ n7_ n8_; clear hb hbox hg; have hnb9 := NB178_171.out; have hnc9 := NB171_178.out; have hcz10_0 : w8.cell? ⟨gb178, 0, none⟩ = some (.slice none 0 0) := (blk_cell BK178.out 0).trans rfl; have hfz10_0 := blk_frozen BK178.out 0))
  go_loopg [6] k (fun kq v6 w' => ∃ (x3_1 : List Int) (x6_1 : Int) (x179000_1 : List (List Int)) (u179000 : Value), v6 = .int .i64 x6_1 ∧ Aside0 (spec_stMatrix.l0 kq l0 x3_1 (wrap64 ((t175.length : Int) / 2)) x6_1 x179000_1 = some r) ∧ Aside0 (kq ≤ k) ∧ Aside0 (Kd.R (Kd.int .i64) 3 w' w.heap.size (fun _ => True) v173 x3_1) ∧ Aside0 (Kd.S (Kd.slice 3 (Kd.int .i64)) 22 w' w.heap.size (fun k_ => some k_ ≠ (v173 : Value).ownBlock) u179000 x179000_1) ∧ Aside0 (w'.heap[gb171]? = some (.cells #[(.slice none 0 0)] 34 (0, 0))) ∧ Aside0 (w'.heap[gb178]? = some (.cells #[u179000] 34 (0, 0))) ∧ Aside0 (Below w.heap.size w w'))
  case atStart => exact ⟨(t172), (0), (([] : List (List Int))), (.slice none 0 0), (by first | rfl | (simp; done) | (simp [*]; done)), H', ⟨Nat.le_refl _⟩, ⟨by (with_reducible repeat (first | apply Kd.R_alloc | apply Kd.R_drewN | apply Kd.R_drew)); exact Kd.R_mono (Kd.R_far (p := ⟨gb178, 0, none⟩) (Kd.R_types HO174.out BK178.out (by decide)) (fun _ hk => hk.2) (.slice none 0 0)) (fun _ hk => trivial)⟩, ⟨by first | exact Kd.S_nil _ _ _ _ _ | exact Kd.N_nil _ _ _ _ _ | exact Kd.V_nil _ _ _ _ _ | exact Kd.Q_nil _ _ _ _ _ | exact Kd.R_nil _ _ _ _ _⟩, ⟨by (with_reducible repeat (first | apply qN | apply qD | apply qA)); refine blk_far ?_ NB171_178.out _; (with_reducible repeat (first | apply qN | apply qD | apply qA)); exact BK171.out⟩, ⟨by (with_reducible repeat (first | apply qN | apply qD | apply qA)); refine blk_put (cs := #[.slice none 0 0]) ?_ 0 _ rfl; (with_reducible repeat (first | apply qN | apply qD | apply qA)); exact BK178.out⟩, ⟨by repeat (first | (with_reducible first | exact HB.out | apply bA | apply bN | apply bD | refine below_set ?_ GE171.out | refine below_set ?_ GE178.out) | exact HB.out)⟩⟩
  case round =>
    clear H'
    try clear p2
    try clear c3
    try clear c5
    try clear c6
    try clear p6
    try clear c9
    try clear hcz10_0
    try clear hfz10_0
    obtain ⟨x3_1, x6_1, x179000_1, u179000, rfl, HA, HK1, HO_3, HO_179000, BK171, BK178, HB⟩ := hrel
    cases gk with
    | zero => exact absurd HA.out (by simp [spec_stMatrix.l0])
    | succ k1 =>
      have H := HA.out
      clear HA
      simp only [spec_stMatrix.l0] at H
      by_cases c11 : x6_1 < (wrap64 ((t175.length : Int) / 2))
      · rw [if_pos c11] at H
        have c11b0 : decide (x6_1 < (wrap64 ((t175.length : Int) / 2))) = true := decide_eq_true c11
        clear c11
        obtain ⟨ji12, hji12⟩ : ∃ j_ : Int, (wrap64 ((t175.length : Int) / 2)) = j_ := ⟨_, rfl⟩
        replace H : (if 0 ≤ (ji12) then (if ((ji12) : Int).toNat ≤ 35184372088832 then ((spec_stArcs.f k1 l0).bind fun t182 => (spec_stMatrix.l1 k1 l0 x3_1 (ji12) x6_1 (List.replicate ((ji12) : Int).toNat 0) t182 (t182.length : Int) 0 x179000_1)) else (none)) else (none)) = some r := by first | (rw [hji12] at H; exact H) | (simp only [hji12] at H ⊢; exact H)
        (try rw [hji12] at c11b0)
        have hji12w : (IntKind.i64.wrap ((t175.length : Int) / 2)) = ji12 := (i64_w _).trans hji12
        by_cases c13 : 0 ≤ (ji12)
        · rw [if_pos c13] at H
          have c13b0 := eq_true c13
          have c13b1 : decide (0 ≤ (ji12)) = true := decide_eq_true c13
          clear c13
          by_cases c14 : ((ji12) : Int).toNat ≤ 35184372088832
          · rw [if_pos c14] at H
            have c14b0 := eq_true c14
            have c14b1 : decide (((ji12) : Int).toNat ≤ 35184372088832) = true := decide_eq_true c14
            clear c14
            obtain ⟨y179, hy179⟩ : ∃ y_ : List Int, y_ = (List.replicate ((ji12) : Int).toNat 0) := ⟨_, rfl⟩
            replace H : ((spec_stArcs.f k1 l0).bind fun t182 => (spec_stMatrix.l1 k1 l0 x3_1 (ji12) x6_1 y179 t182 (t182.length : Int) 0 x179000_1)) = some r := by first | (rw [hy179]; with_reducible exact H) | (have H2_ := (Option.bind_some _ _).symm.trans H; rw [hy179]; with_reducible exact H2_) | (have H2_ := (Option.bind_some _ _).symm.trans H; with_reducible exact H2_) | with_reducible exact H | (rw [hy179]; exact H) | exact H
            have Ny179 := Aside0.mk hy179
            clear hy179
            replace H := Option.bind_eq_some_iff.mp H
            obtain ⟨t182, A150, H⟩ := H
            replace H : (spec_stMatrix.l1 k1 l0 x3_1 (ji12) x6_1 y179 t182 (t182.length : Int) 0 x179000_1) = some r := H
            have A15 := Aside0.mk A150
            clear A150
            have H' := Aside0.mk H
            clear H
            go_wp2_with (first | ((with_reducible refine gate_dst (N := 23) rfl ?_); refine Kd.R_make (Kd.int .i64) _ 3 rfl (N := 23) rfl 22 _ _ rfl (ji12) (by first | rfl | (rw [← hji12]; rfl)) (by first | rfl | (rw [← hji12]; rfl)) Try.underlying22 (.int .i64 0) 8 info3 rfl (by decide) (by omega) 0 (ok := fun _ => True) (okp := fun _ => True) rfl (fun _ hk => hk) trivial (of_decide_eq_true (by first | (with_reducible assumption) | assumption)) (Nat.le_trans (Nat.mul_le_mul_right _ (of_decide_eq_true (by first | (with_reducible assumption) | assumption) : (ji12).toNat ≤ 35184372088832)) (by omega)) (Below.refl _ _) (Nat.le_refl _) ?_; intro v180 w16 ho17 hb hg_ hnew_; clear hg_ hnew_; (first | rw [← Ny179.out] at ho17 | (simp only [Int.reduceToNat] at ho17; rw [← Ny179.out] at ho17)); have n0_ := Aside0.mk (Kd.R_elder' (by (with_reducible repeat (first | apply Kd.R_alloc | apply Kd.R_drewN | apply Kd.R_drew)); exact HO_3.out) (Kd.R_base ho17) hb); have n1_ := Aside0.mk (Kd.S_elder' (by (with_reducible repeat (first | apply Kd.S_alloc | apply Kd.S_drewN | apply Kd.S_drew)); exact HO_179000.out) (Kd.R_base ho17) hb); have n2_ := Aside0.mk (Kd.R_lower (Kd.R_new' ho17 (Kd.R_lt (by (with_reducible repeat (first | apply Kd.R_alloc | apply Kd.R_drewN | apply Kd.R_drew)); exact HO_3.out))) (below_size (by repeat (first | (with_reducible first | exact HB.out | apply bA | apply bN | apply bD | refine below_set ?_ GE171.out | refine below_set ?_ GE178.out) | exact HB.out)))); have n3_ := Aside0.mk (blk_below (g := gb171) (o := .cells #[.slice none 0 0] 34 (0, 0)) (by (with_reducible repeat (first | apply qN | apply qD | apply qA)); exact BK171.out) hb); have n4_ := Aside0.mk (blk_below (g := gb178) (o := .cells #[u179000] 34 (0, 0)) (by (with_reducible repeat (first | apply qN | apply qD | apply qA)); exact BK178.out) hb); have n5_ := Aside0.mk (below_step (by repeat (first | (with_reducible first | exact HB.out | apply bA | apply bN | apply bD | refine below_set ?_ GE171.out | refine below_set ?_ GE178.out) | exact HB.out)) hb); clear HO_3; clear HO_179000; clear BK171; clear BK178; clear HB; have HO_3 := n0_; have HO_179000 := n1_; have HO181 := n2_; have BK171 := n3_; have BK178 := n4_; have HB := n5_; clear n0_ n1_ n2_ n3_ n4_ n5_; clear hb ho17) | ((with_reducible refine gate_callee (f := 61) rfl ?_); refine goesL_ (some 25) rfl rfl Try.func61 (by kernel_rfl) rfl #[.slice A0 l0.length c0] rfl (by (try simp only [List.map_toArray, List.map_cons, List.map_nil]); first | done | rfl | (simp only [List.length_drop, List.length_take]; rfl)) ?_; (with_reducible refine (spec_stArcs.calls k1 _ _ l0 t182 _ ?side1 ?side2 A15.out).mono ?_); (case side1 => repeat (first | exact (Kd.C_below HR0.out HB.out) | (with_reducible refine Kd.C_alloc ?_ _) | (with_reducible refine Kd.C_drewN ?_ _) | (with_reducible refine Kd.C_drew ?_))); (case side2 => exact HC0.out); rintro e w18 ⟨v183, rfl, ho0, hb⟩; refine ⟨_, rfl, ?_⟩; have n0_ := Aside0.mk (Kd.R_below (by (with_reducible repeat (first | apply Kd.R_alloc | apply Kd.R_drewN | apply Kd.R_drew)); exact HO_3.out) hb); have n1_ := Aside0.mk (Kd.S_below (by (with_reducible repeat (first | apply Kd.S_alloc | apply Kd.S_drewN | apply Kd.S_drew)); exact HO_179000.out) hb); have n2_ := Aside0.mk (Kd.R_below (by (with_reducible repeat (first | apply Kd.R_alloc | apply Kd.R_drewN | apply Kd.R_drew)); exact HO181.out) hb); have n3_ := Aside0.mk (Kd.R_lower ho0 (below_size (by repeat (first | (with_reducible first | exact HB.out | apply bA | apply bN | apply bD | refine below_set ?_ GE171.out | refine below_set ?_ GE178.out) | exact HB.out)))); have n4_ := Aside0.mk (blk_below (g := gb171) (o := .cells #[.slice none 0 0] 34 (0, 0)) (by (with_reducible repeat (first | apply qN | apply qD | apply qA)); exact BK171.out) hb); have n5_ := Aside0.mk (blk_below (g := gb178) (o := .cells #[u179000] 34 (0, 0)) (by (with_reducible repeat (first | apply qN | apply qD | apply qA)); exact BK178.out) hb); have n6_ := Aside0.mk (below_step (by repeat (first | (with_reducible first | exact HB.out | apply bA | apply bN | apply bD | refine below_set ?_ GE171.out | refine below_set ?_ GE178.out) | exact HB.out)) hb); clear HO_3; clear HO_179000; clear HO181; clear BK171; clear BK178; clear HB; have HO_3 := n0_; have HO_179000 := n1_; have HO181 := n2_; have HO184 := n3_; have BK171 := n4_; have BK178 := n5_; have HB := n6_; clear n0_ n1_ n2_ n3_ n4_ n5_ n6_; (try clear hb); (try clear hb2); (try clear hk); (try clear hi); (try clear ho0); obtain ⟨Ao19, co19, eo19⟩ := Kd.R_slice HO184.out; subst eo19))
            go_loopg [27] k1 (fun kq v27 w' => ∃ (x7_2 : List Int) (x27_2 : Int), v27 = .int .i64 x27_2 ∧ Aside0 (spec_stMatrix.l1 kq l0 x3_1 (ji12) x6_1 x7_2 t182 (t182.length : Int) x27_2 x179000_1 = some r) ∧ Aside0 (kq ≤ k1) ∧ Aside0 (Kd.R (Kd.int .i64) 3 w' w.heap.size (fun k_ => some k_ ≠ (v180 : Value).ownBlock) v173 x3_1) ∧ Aside0 (Kd.R (Kd.int .i64) 3 w' w.heap.size (fun k_ => some k_ ≠ (v173 : Value).ownBlock) v180 x7_2) ∧ Aside0 (Kd.R k70 70 w' w.heap.size (fun _ => True) (.slice Ao19 t182.length co19) t182) ∧ Aside0 (Kd.S (Kd.slice 3 (Kd.int .i64)) 22 w' w.heap.size (fun k_ => some k_ ≠ (v173 : Value).ownBlock ∧ some k_ ≠ (v180 : Value).ownBlock) u179000 x179000_1) ∧ Aside0 (w'.heap[gb171]? = some (.cells #[(.slice none 0 0)] 34 (0, 0))) ∧ Aside0 (w'.heap[gb178]? = some (.cells #[u179000] 34 (0, 0))) ∧ Aside0 (Below w.heap.size w w'))
            case atStart => exact ⟨(y179), (0), (by first | rfl | (simp; done) | (simp [*]; done)), H', ⟨Nat.le_refl _⟩, ⟨by (with_reducible repeat (first | apply Kd.R_alloc | apply Kd.R_drewN | apply Kd.R_drew)); exact Kd.R_mono HO_3.out (fun _ hk => hk.2)⟩, ⟨by (with_reducible repeat (first | apply Kd.R_alloc | apply Kd.R_drewN | apply Kd.R_drew)); exact Kd.R_mono HO181.out (fun _ hk => hk.2)⟩, ⟨by (with_reducible repeat (first | apply Kd.R_alloc | apply Kd.R_drewN | apply Kd.R_drew)); exact HO184.out⟩, ⟨by (with_reducible repeat (first | apply Kd.S_alloc | apply Kd.S_drewN | apply Kd.S_drew)); exact HO_179000.out⟩, ⟨by (with_reducible repeat (first | apply qN | apply qD | apply qA)); exact BK171.out⟩, ⟨by (with_reducible repeat (first | apply qN | apply qD | apply qA)); exact BK178.out⟩, ⟨by repeat (first | (with_reducible first | exact HB.out | apply bA | apply bN | apply bD | refine below_set ?_ GE171.out | refine below_set ?_ GE178.out) | exact HB.out)⟩⟩
            case round =>
              clear H'
              try clear c1
              try clear p2
              try clear c3
              try clear c5
              try clear c6
              try clear p6
              try clear c9
              try clear c11
              try clear c11b0
              try clear c13
              try clear c13b0
              try clear c13b1
              try clear c14
              try clear c14b0
              try clear c14b1
              try clear hcz10_0
              try clear hfz10_0
              try clear p2
              try clear p6
              obtain ⟨x7_2, x27_2, rfl, HA, HK2, HO_3, HO_7, HO_25, HO_179000, BK171, BK178, HB⟩ := hrel
              cases gk with
              | zero => exact absurd HA.out (by simp [spec_stMatrix.l1])
              | succ k2 =>
                have H := HA.out
                clear HA
                simp only [spec_stMatrix.l1] at H
                by_cases c20 : x27_2 < (t182.length : Int)
                · rw [if_pos c20] at H
                  have c20b0 : decide (x27_2 < (t182.length : Int)) = true := decide_eq_true c20
                  clear c20
                  by_cases c21 : 0 ≤ x27_2
                  · rw [if_pos c21] at H
                    have c21b0 : decide (0 ≤ x27_2) = true := decide_eq_true c21
                    clear c21
                    by_cases c22 : x27_2 < (t182.length : Int)
                    · rw [if_pos c22] at H
                      have c22b0 : decide (x27_2 < (t182.length : Int)) = true := decide_eq_true c22
                      clear c22
                      by_cases c23 : 0 ≤ ((rd_T70 t182 x27_2).f0)
                      · rw [if_pos c23] at H
                        have c23b0 : decide (0 ≤ ((rd_T70 t182 x27_2).f0)) = true := decide_eq_true c23
                        clear c23
                        by_cases c24 : ((rd_T70 t182 x27_2).f0) < (x3_1.length : Int)
                        · rw [if_pos c24] at H
                          have c24b0 : decide (((rd_T70 t182 x27_2).f0) < (x3_1.length : Int)) = true := decide_eq_true c24
                          clear c24
                          by_cases c25 : (rd x3_1 ((rd_T70 t182 x27_2).f0)) = x6_1
                          · rw [if_pos c25] at H
                            have c25b0 : ((rd x3_1 ((rd_T70 t182 x27_2).f0)) == x6_1) = true := beq_iff_eq.mpr c25
                            have c25b1 : ((rd x3_1 ((rd_T70 t182 x27_2).f0)) != x6_1) = false := bne_eq_false_iff_eq.mpr c25
                            clear c25
                            by_cases c26 : 0 ≤ ((rd_T70 t182 x27_2).f1)
                            · rw [if_pos c26] at H
                              have c26b0 : decide (0 ≤ ((rd_T70 t182 x27_2).f1)) = true := decide_eq_true c26
                              clear c26
                              by_cases c27 : ((rd_T70 t182 x27_2).f1) < (x3_1.length : Int)
                              · rw [if_pos c27] at H
                                have c27b0 : decide (((rd_T70 t182 x27_2).f1) < (x3_1.length : Int)) = true := decide_eq_true c27
                                clear c27
                                by_cases c28 : 0 ≤ (rd x3_1 ((rd_T70 t182 x27_2).f1))
                                · rw [if_pos c28] at H
                                  have c28b0 : decide (0 ≤ (rd x3_1 ((rd_T70 t182 x27_2).f1))) = true := decide_eq_true c28
                                  clear c28
                                  by_cases c29 : (rd x3_1 ((rd_T70 t182 x27_2).f1)) < (x7_2.length : Int)
                                  · rw [if_pos c29] at H
                                    have c29b0 : decide ((rd x3_1 ((rd_T70 t182 x27_2).f1)) < (x7_2.length : Int)) = true := decide_eq_true c29
                                    clear c29
                                    obtain ⟨y190, hy190⟩ : ∃ y_ : List Int, y_ = (x7_2.set ((rd x3_1 ((rd_T70 t182 x27_2).f1)) : Int).toNat (wrap64 ((rd x7_2 (rd x3_1 ((rd_T70 t182 x27_2).f1))) + 1))) := ⟨_, rfl⟩
                                    replace H : (spec_stMatrix.l1 k2 l0 x3_1 (ji12) x6_1 y190 t182 (t182.length : Int) (wrap64 (x27_2 + 1)) x179000_1) = some r := by first | (rw [hy190]; with_reducible exact H) | (have H2_ := (Option.bind_some _ _).symm.trans H; rw [hy190]; with_reducible exact H2_) | (have H2_ := (Option.bind_some _ _).symm.trans H; with_reducible exact H2_) | with_reducible exact H | (rw [hy190]; exact H) | exact H
                                    have Ny190 := Aside0.mk hy190
                                    clear hy190
                                    have H' := Aside0.mk H
                                    clear H
                                    have p185 : 0 ≤ (x27_2 : Int) := of_decide_eq_true (by first | (with_reducible assumption) | assumption)
                                    have q185 : x27_2 < (t182.length : Int) := of_decide_eq_true (by first | (with_reducible assumption) | assumption)
                                    obtain ⟨ad185, e185, hx185_0, hx185_1⟩ := at_T70 (Kd.R_reads' HO_25.out).2.2 x27_2 p185 q185
                                    cases e185
                                    replace p185 := eq_true p185
                                    replace q185 := eq_true q185
                                    go_wp2_with (first | ((with_reducible refine gate_dst (N := 9) rfl ?_); refine box_event ?hg (N := 9) ?hd (cs := #[.int .i64 0, .int .i64 0]) (t := 70) ?hr ?_; (case hd => rfl); (case hg => rfl); (case hr => first | (go_simp; done) | (go_simp; rfl)); intro gb186 hg w31 hbox hb; have n0_ := Aside0.mk (Kd.R_below (by (with_reducible repeat (first | apply Kd.R_alloc | apply Kd.R_drewN | apply Kd.R_drew)); exact HO_3.out) hb); have n1_ := Aside0.mk (Kd.R_below (by (with_reducible repeat (first | apply Kd.R_alloc | apply Kd.R_drewN | apply Kd.R_drew)); exact HO_7.out) hb); have n2_ := Aside0.mk (Kd.R_below (Kd.R_elderB (by (with_reducible repeat (first | apply Kd.R_alloc | apply Kd.R_drewN | apply Kd.R_drew)); exact HO_25.out) gb186 (Nat.le_of_eq hg.symm)) hb); have n3_ := Aside0.mk (Kd.S_below (by (with_reducible repeat (first | apply Kd.S_alloc | apply Kd.S_drewN | apply Kd.S_drew)); exact HO_179000.out) hb); have n4_ := Aside0.mk (blk_below (g := gb171) (o := .cells #[.slice none 0 0] 34 (0, 0)) (by (with_reducible repeat (first | apply qN | apply qD | apply qA)); exact BK171.out) hb); have n5_ := Aside0.mk (blk_below (g := gb178) (o := .cells #[u179000] 34 (0, 0)) (by (with_reducible repeat (first | apply qN | apply qD | apply qA)); exact BK178.out) hb); have n6_ := Aside0.mk (below_step (by repeat (first | (with_reducible first | exact HB.out | apply bA | apply bN | apply bD | refine below_set ?_ GE171.out | refine below_set ?_ GE178.out) | exact HB.out)) hb); have n7_ := Aside0.mk (hbox); have n8_ := Aside0.mk ((by rw [hg]; exact (below_size (by repeat (first | (with_reducible first | exact HB.out | apply bA | apply bN | apply bD | refine below_set ?_ GE171.out | refine below_set ?_ GE178.out) | exact HB.out))) : w.heap.size ≤ gb186)); have n9_ := Aside0.mk ((by rw [hg]; exact (below_size (by repeat (first | (with_reducible first | exact HB.out | apply bA | apply bN | apply bD | refine below_set ?_ GE171.out | refine below_set ?_ GE178.out) | exact HB.out))) : w.heap.size ≤ gb186)); have n10_ := Aside0.mk ((by rw [hg]; exact Nat.ne_of_lt (blk_lt (g := gb171) (o := .cells #[.slice none 0 0] 34 (0, 0)) (by (with_reducible repeat (first | apply qN | apply qD | apply qA)); exact BK171.out)) : gb171 ≠ gb186)); have n11_ := Aside0.mk ((by rw [hg]; exact Nat.ne_of_gt (blk_lt (g := gb171) (o := .cells #[.slice none 0 0] 34 (0, 0)) (by (with_reducible repeat (first | apply qN | apply qD | apply qA)); exact BK171.out)) : gb186 ≠ gb171)); have n12_ := Aside0.mk ((by rw [hg]; exact Nat.ne_of_lt (blk_lt (g := gb178) (o := .cells #[u179000] 34 (0, 0)) (by (with_reducible repeat (first | apply qN | apply qD | apply qA)); exact BK178.out)) : gb178 ≠ gb186)); have n13_ := Aside0.mk ((by rw [hg]; exact Nat.ne_of_gt (blk_lt (g := gb178) (o := .cells #[u179000] 34 (0, 0)) (by (with_reducible repeat (first | apply qN | apply qD | apply qA)); exact BK178.out)) : gb186 ≠ gb178)); clear HO_3; clear HO_7; clear HO_25; clear HO_179000; clear BK171; clear BK178; clear HB; have HO_3 := n0_; have HO_7 := n1_; have HO_25 := n2_; have HO_179000 := n3_; have BK171 := n4_; have BK178 := n5_; have HB := n6_; have BK186 := n7_; have GW186 := n8_; have GE186 := n9_; have NB171_186 := n10_; have NB186_171 := n11_; have NB178_186 := n12_; have NB186_178 := n13_; clear n0_ n1_ n2_ n3_ n4_ n5_ n6_ n7_ n8_ n9_ n10_ n11_ n12_ n13_; clear hb hbox hg; have hnb32 := NB186_171.out; have hnc32 := NB171_186.out; have hnb33 := NB186_178.out; have hnc33 := NB178_186.out; have hcz34_0 : w31.cell? ⟨gb186, 0, none⟩ = some (.int .i64 0) := (blk_cell BK186.out 0).trans rfl; have hcz34_1 : w31.cell? ⟨gb186, 1, none⟩ = some (.int .i64 0) := (blk_cell BK186.out 1).trans rfl; have hfz34_0 := blk_frozen BK186.out 0; have hfz34_1 := blk_frozen BK186.out 1) | ((with_reducible refine gate_store (t := 70) (p := 9) rfl ?_); refine store_event (t := 70) (p := 9) (v := ?vo_w35) (w1 := ((w31.setCell ⟨gb186, 0, none⟩ (.int .i64 ((rd_T70 t182 x27_2).f0))).setCell ⟨gb186, 1, none⟩ (.int .i64 ((rd_T70 t182 x27_2).f1)))) ?hg ?ho ?hn ?hr ?_; (case ho => rfl); (case hg => rfl); (case hn => rfl); (case hr => first | (go_simp; done) | (go_simp; rfl)); intro w35 hw; have n0_ : Aside0 (Kd.R (Kd.int .i64) 3 w35 w.heap.size (fun k_ => some k_ ≠ (v180 : Value).ownBlock) v173 x3_1) := ⟨(by rw [hw]; exact (by (with_reducible repeat (first | apply Kd.R_alloc | apply Kd.R_drewN | apply Kd.R_drew)); exact Kd.R_mono (Kd.R_far (p := ⟨gb186, 1, none⟩) (Kd.R_far (p := ⟨gb186, 0, none⟩) (Kd.R_types HO_3.out BK186.out (by decide)) (fun _ hk => hk.2) (.int .i64 ((rd_T70 t182 x27_2).f0))) (fun _ hk => hk.2) (.int .i64 ((rd_T70 t182 x27_2).f1))) (fun _ hk => hk.1)))⟩; have n1_ : Aside0 (Kd.R (Kd.int .i64) 3 w35 w.heap.size (fun k_ => some k_ ≠ (v173 : Value).ownBlock) v180 x7_2) := ⟨(by rw [hw]; exact (by (with_reducible repeat (first | apply Kd.R_alloc | apply Kd.R_drewN | apply Kd.R_drew)); exact Kd.R_mono (Kd.R_far (p := ⟨gb186, 1, none⟩) (Kd.R_far (p := ⟨gb186, 0, none⟩) (Kd.R_types HO_7.out BK186.out (by decide)) (fun _ hk => hk.2) (.int .i64 ((rd_T70 t182 x27_2).f0))) (fun _ hk => hk.2) (.int .i64 ((rd_T70 t182 x27_2).f1))) (fun _ hk => hk.1)))⟩; have n2_ : Aside0 (Kd.R k70 70 w35 w.heap.size (fun k_ => k_ ≠ gb186) (.slice (some ad185) t182.length co19) t182) := ⟨(by rw [hw]; exact (by (with_reducible repeat (first | apply Kd.R_alloc | apply Kd.R_drewN | apply Kd.R_drew)); exact Kd.R_mono (Kd.R_far (p := ⟨gb186, 1, none⟩) (Kd.R_far (p := ⟨gb186, 0, none⟩) (Kd.R_mono HO_25.out (fun k_ hk => (⟨hk, hk.2⟩ : _ ∧ k_ ≠ gb186))) (fun _ hk => hk.2) (.int .i64 ((rd_T70 t182 x27_2).f0))) (fun _ hk => hk.2) (.int .i64 ((rd_T70 t182 x27_2).f1))) (fun _ hk => hk.1.2)))⟩; have n3_ : Aside0 (Kd.S (Kd.slice 3 (Kd.int .i64)) 22 w35 w.heap.size (fun k_ => some k_ ≠ (v173 : Value).ownBlock ∧ some k_ ≠ (v180 : Value).ownBlock) u179000 x179000_1) := ⟨(by rw [hw]; exact (by (with_reducible repeat (first | apply Kd.S_alloc | apply Kd.S_drewN | apply Kd.S_drew)); exact Kd.S_mono (Kd.S_far (p := ⟨gb186, 1, none⟩) (Kd.S_far (p := ⟨gb186, 0, none⟩) (Kd.S_types HO_179000.out BK186.out (by decide)) (fun _ hk => hk.2) (.int .i64 ((rd_T70 t182 x27_2).f0))) (fun _ hk => hk.2) (.int .i64 ((rd_T70 t182 x27_2).f1))) (fun _ hk => ⟨hk.1.1, hk.1.2⟩)))⟩; have n4_ : Aside0 (w35.heap[gb171]? = some (.cells #[.slice none 0 0] 34 (0, 0))) := ⟨(by rw [hw]; exact (by (with_reducible repeat (first | apply qN | apply qD | apply qA)); refine blk_far ?_ NB171_186.out _; (with_reducible repeat (first | apply qN | apply qD | apply qA)); refine blk_far ?_ NB171_186.out _; (with_reducible repeat (first | apply qN | apply qD | apply qA)); exact BK171.out))⟩; have n5_ : Aside0 (w35.heap[gb178]? = some (.cells #[u179000] 34 (0, 0))) := ⟨(by rw [hw]; exact (by (with_reducible repeat (first | apply qN | apply qD | apply qA)); refine blk_far ?_ NB178_186.out _; (with_reducible repeat (first | apply qN | apply qD | apply qA)); refine blk_far ?_ NB178_186.out _; (with_reducible repeat (first | apply qN | apply qD | apply qA)); exact BK178.out))⟩; have n6_ : Aside0 (w35.heap[gb186]? = some (.cells #[.int .i64 ((rd_T70 t182 x27_2).f0), .int .i64 ((rd_T70 t182 x27_2).f1)] 70 (0, 0))) := ⟨(by rw [hw]; exact (by (with_reducible repeat (first | apply qN | apply qD | apply qA)); refine blk_put (cs := #[.int .i64 ((rd_T70 t182 x27_2).f0), .int .i64 0]) ?_ 1 _ rfl; (with_reducible repeat (first | apply qN | apply qD | apply qA)); refine blk_put (cs := #[.int .i64 0, .int .i64 0]) ?_ 0 _ rfl; (with_reducible repeat (first | apply qN | apply qD | apply qA)); exact BK186.out))⟩; have n7_ : Aside0 (Below w.heap.size w w35) := ⟨(by rw [hw]; exact (by repeat (first | (with_reducible first | exact HB.out | apply bA | apply bN | apply bD | refine below_set ?_ GE171.out | refine below_set ?_ GE178.out | refine below_set ?_ GE186.out) | exact HB.out)))⟩; clear hw; clear HO_3; clear HO_7; clear HO_25; clear HO_179000; clear BK171; clear BK178; clear BK186; clear HB; have HO_3 := n0_; have HO_7 := n1_; have HO_25 := n2_; have HO_179000 := n3_; have BK171 := n4_; have BK178 := n5_; have BK186 := n6_; have HB := n7_; clear n0_ n1_ n2_ n3_ n4_ n5_ n6_ n7_; have hcz36_0 : w35.cell? ⟨gb186, 0, none⟩ = some (.int .i64 ((rd_T70 t182 x27_2).f0)) := (blk_cell BK186.out 0).trans rfl; have hcz36_1 : w35.cell? ⟨gb186, 1, none⟩ = some (.int .i64 ((rd_T70 t182 x27_2).f1)) := (blk_cell BK186.out 1).trans rfl; have hfz36_0 := blk_frozen BK186.out 0; have hfz36_1 := blk_frozen BK186.out 1; obtain ⟨Ao37, co37, eo37⟩ := Kd.R_slice HO_3.out; subst eo37; have p187 : 0 ≤ (((rd_T70 t182 x27_2).f0) : Int) := of_decide_eq_true (by first | (with_reducible assumption) | assumption); have q187 : ((rd_T70 t182 x27_2).f0) < (x3_1.length : Int) := of_decide_eq_true (by first | (with_reducible assumption) | assumption); obtain ⟨ad187, e187, hx187_0⟩ := Kd.at_int (Kd.R_reads' HO_3.out).2.2 ((rd_T70 t182 x27_2).f0) p187 q187; cases e187; replace p187 := eq_true p187; replace q187 := eq_true q187; have p188 : 0 ≤ (((rd_T70 t182 x27_2).f1) : Int) := of_decide_eq_true (by first | (with_reducible assumption) | assumption); have q188 : ((rd_T70 t182 x27_2).f1) < (x3_1.length : Int) := of_decide_eq_true (by first | (with_reducible assumption) | assumption); obtain ⟨ad188, e188, hx188_0⟩ := Kd.at_int (Kd.R_reads' HO_3.out).2.2 ((rd_T70 t182 x27_2).f1) p188 q188; obtain rfl : ad187 = ad188 := (by injection e188); replace p188 := eq_true p188; replace q188 := eq_true q188; obtain ⟨Ao38, co38, eo38⟩ := Kd.R_slice HO_7.out; subst eo38; have p189 : 0 ≤ ((rd x3_1 ((rd_T70 t182 x27_2).f1)) : Int) := of_decide_eq_true (by first | (with_reducible assumption) | assumption); have q189 : (rd x3_1 ((rd_T70 t182 x27_2).f1)) < (x7_2.length : Int) := of_decide_eq_true (by first | (with_reducible assumption) | assumption); obtain ⟨ad189, e189, hx189_0⟩ := Kd.at_int (Kd.R_reads' HO_7.out).2.2 (rd x3_1 ((rd_T70 t182 x27_2).f1)) p189 q189; cases e189; replace p189 := eq_true p189; replace q189 := eq_true q189; have p30 : 0 ≤ ((rd x3_1 ((rd_T70 t182 x27_2).f1)) : Int) := of_decide_eq_true (by first | (with_reducible assumption) | assumption); have q30 : ((rd x3_1 ((rd_T70 t182 x27_2).f1)) : Int) < ((x7_2.length : Int) : Int) := of_decide_eq_true (by first | (with_reducible assumption) | assumption); obtain ⟨go30, co30, eo30, gb30, gl30, cl30, HG30⟩ := Kd.R_form HO_7.out (by omega); (first | cases eo30 | (injection eo30 with ea_ en_ ec_; (first | subst ea_ | (injection ea_ with ea_; subst ea_)); subst ec_; clear en_)); have GB30 := Aside0.mk gb30; have GG30 := Aside0.mk HG30; clear gb30 gl30 HG30; (first | simp only [add_plain] at hx189_0 | skip); obtain ⟨hx30_0, hf30_0⟩ := Kd.R_celln 0 HO_7.out ((rd x3_1 ((rd_T70 t182 x27_2).f1)) : Int) p30 q30; replace p30 := eq_true p30; replace q30 := eq_true q30; obtain ⟨hy39_, hz39_⟩ := Kd.R_celln 0 HO_7.out ((rd x3_1 ((rd_T70 t182 x27_2).f1)) : Int) (of_decide_eq_true (by first | (with_reducible assumption) | assumption)) (of_decide_eq_true (by first | (with_reducible assumption) | assumption)); have HP39 := Kd.R_putg HO_7.out ((rd x3_1 ((rd_T70 t182 x27_2).f1)) : Int) (wrap64 ((rd x7_2 (rd x3_1 ((rd_T70 t182 x27_2).f1))) + 1))) | ((with_reducible refine gate_store (t := 3) (p := 47) rfl ?_); refine store_event (t := 3) (p := 47) (v := ?vo_w40) (w1 := (w35.setCell ⟨go30, ((rd x3_1 ((rd_T70 t182 x27_2).f1)) : Int).toNat, none⟩ (.int .i64 (wrap64 ((rd x7_2 (rd x3_1 ((rd_T70 t182 x27_2).f1))) + 1))))) ?hg ?ho ?hn ?hr ?_; (case ho => rfl); (case hg => rfl); (case hn => rfl); (case hr => first | (go_simp; done) | (go_simp; rfl)); intro w40 hw; have hg : w35.grownBy w40 (some go30) := (by rw [hw]; exact HP39.2); have hp_ : Kd.R (Kd.int .i64) 3 w40 w.heap.size (fun k_ => some k_ ≠ (.slice (some ad187) x3_1.length co37 : Value).ownBlock) (.slice (some ⟨go30, 0, none⟩) x7_2.length co38) y190 := (by rw [hw, Ny190.out]; exact HP39.1); clear HP39; have n0_ := Aside0.mk (Kd.R_after (v := (.slice (some ⟨go30, 0, none⟩) x7_2.length co38)) (v1 := (.slice (some ⟨go30, 0, none⟩) x7_2.length co38)) (ok := (fun _ => True)) (by (with_reducible repeat (first | apply Kd.R_alloc | apply Kd.R_drewN | apply Kd.R_drew)); exact Kd.R_mono HO_3.out (fun _ hk => ⟨trivial, hk⟩)) hg (.inl rfl)); have n1_ := Aside0.mk (hp_); have n2_ := Aside0.mk (Kd.R_over' (v := (.slice (some ⟨go30, 0, none⟩) x7_2.length co38)) (by (with_reducible repeat (first | apply Kd.R_alloc | apply Kd.R_drewN | apply Kd.R_drew)); exact HO_25.out) (Kd.R_typed HO_7.out) (by decide) hg); have n3_ := Aside0.mk (Kd.S_after (v := (.slice (some ⟨go30, 0, none⟩) x7_2.length co38)) (v1 := (.slice (some ⟨go30, 0, none⟩) x7_2.length co38)) (ok := (fun k_ => some k_ ≠ (.slice (some ad187) x3_1.length co37 : Value).ownBlock)) (by (with_reducible repeat (first | apply Kd.S_alloc | apply Kd.S_drewN | apply Kd.S_drew)); exact HO_179000.out) hg (.inl rfl)); have n4_ := Aside0.mk (blk_grown (g := gb171) (o := .cells #[.slice none 0 0] 34 (0, 0)) (by (with_reducible repeat (first | apply qN | apply qD | apply qA)); exact BK171.out) hg (Kd.R_ne HO_7.out BK171.out (by decide))); have n5_ := Aside0.mk (blk_grown (g := gb178) (o := .cells #[u179000] 34 (0, 0)) (by (with_reducible repeat (first | apply qN | apply qD | apply qA)); exact BK178.out) hg (Kd.R_ne HO_7.out BK178.out (by decide))); have n6_ := Aside0.mk (blk_grown (g := gb186) (o := .cells #[.int .i64 ((rd_T70 t182 x27_2).f0), .int .i64 ((rd_T70 t182 x27_2).f1)] 70 (0, 0)) (by (with_reducible repeat (first | apply qN | apply qD | apply qA)); exact BK186.out) hg (Kd.R_ne HO_7.out BK186.out (by decide))); have n7_ := Aside0.mk ((by rw [hw]; exact below_set (HB.out) GB30.out : Below w.heap.size w w40)); clear HO_3; clear HO_7; clear HO_25; clear HO_179000; clear BK171; clear BK178; clear BK186; clear HB; have HO_3 := n0_; have HO_7 := n1_; have HO_25 := n2_; have HO_179000 := n3_; have BK171 := n4_; have BK178 := n5_; have BK186 := n6_; have HB := n7_; clear n0_ n1_ n2_ n3_ n4_ n5_ n6_ n7_; clear hg hw hp_))
                                    go_roundg k2
                                    case measure => have := HK1.out; have := HK2.out; omega
                                    case rel => exact ⟨(y190), (wrap64 (x27_2 + 1)), (by first | rfl | (simp; done) | (simp [*]; done)), H', ⟨by have := HK1.out; have := HK2.out; omega⟩, ⟨by (with_reducible repeat (first | apply Kd.R_alloc | apply Kd.R_drewN | apply Kd.R_drew)); exact Kd.R_mono HO_3.out (fun _ hk => hk.2)⟩, ⟨by (with_reducible repeat (first | apply Kd.R_alloc | apply Kd.R_drewN | apply Kd.R_drew)); exact HO_7.out⟩, ⟨by (with_reducible repeat (first | apply Kd.R_alloc | apply Kd.R_drewN | apply Kd.R_drew)); exact Kd.R_mono HO_25.out (fun _ hk => trivial)⟩, ⟨by (with_reducible repeat (first | apply Kd.S_alloc | apply Kd.S_drewN | apply Kd.S_drew)); exact HO_179000.out⟩, ⟨by (with_reducible repeat (first | apply qN | apply qD | apply qA)); exact BK171.out⟩, ⟨by (with_reducible repeat (first | apply qN | apply qD | apply qA)); exact BK178.out⟩, ⟨by repeat (first | (with_reducible first | exact HB.out | apply bA | apply bN | apply bD | refine below_set ?_ GE171.out | refine below_set ?_ GE178.out | refine below_set ?_ GE186.out) | exact HB.out)⟩⟩
                                  · rw [if_neg c29] at H
                                    exact absurd H (by simp)
                                · rw [if_neg c28] at H
                                  exact absurd H (by simp)
                              · rw [if_neg c27] at H
                                exact absurd H (by simp)
                            · rw [if_neg c26] at H
                              exact absurd H (by simp)
                          · rw [if_neg c25] at H
                            have c25b0 : ((rd x3_1 ((rd_T70 t182 x27_2).f0)) == x6_1) = false := beq_eq_false_iff_ne.mpr c25
                            have c25b1 : ((rd x3_1 ((rd_T70 t182 x27_2).f0)) != x6_1) = true := bne_iff_ne.mpr c25
                            have H' := Aside0.mk H
                            clear H
                            have p185 : 0 ≤ (x27_2 : Int) := of_decide_eq_true (by first | (with_reducible assumption) | assumption)
                            have q185 : x27_2 < (t182.length : Int) := of_decide_eq_true (by first | (with_reducible assumption) | assumption)
                            obtain ⟨ad185, e185, hx185_0, hx185_1⟩ := at_T70 (Kd.R_reads' HO_25.out).2.2 x27_2 p185 q185
                            cases e185
                            replace p185 := eq_true p185
                            replace q185 := eq_true q185
                            go_wp2_with (first | ((with_reducible refine gate_dst (N := 9) rfl ?_); refine box_event ?hg (N := 9) ?hd (cs := #[.int .i64 0, .int .i64 0]) (t := 70) ?hr ?_; (case hd => rfl); (case hg => rfl); (case hr => first | (go_simp; done) | (go_simp; rfl)); intro gb186 hg w41 hbox hb; have n0_ := Aside0.mk (Kd.R_below (by (with_reducible repeat (first | apply Kd.R_alloc | apply Kd.R_drewN | apply Kd.R_drew)); exact HO_3.out) hb); have n1_ := Aside0.mk (Kd.R_below (by (with_reducible repeat (first | apply Kd.R_alloc | apply Kd.R_drewN | apply Kd.R_drew)); exact HO_7.out) hb); have n2_ := Aside0.mk (Kd.R_below (Kd.R_elderB (by (with_reducible repeat (first | apply Kd.R_alloc | apply Kd.R_drewN | apply Kd.R_drew)); exact HO_25.out) gb186 (Nat.le_of_eq hg.symm)) hb); have n3_ := Aside0.mk (Kd.S_below (by (with_reducible repeat (first | apply Kd.S_alloc | apply Kd.S_drewN | apply Kd.S_drew)); exact HO_179000.out) hb); have n4_ := Aside0.mk (blk_below (g := gb171) (o := .cells #[.slice none 0 0] 34 (0, 0)) (by (with_reducible repeat (first | apply qN | apply qD | apply qA)); exact BK171.out) hb); have n5_ := Aside0.mk (blk_below (g := gb178) (o := .cells #[u179000] 34 (0, 0)) (by (with_reducible repeat (first | apply qN | apply qD | apply qA)); exact BK178.out) hb); have n6_ := Aside0.mk (below_step (by repeat (first | (with_reducible first | exact HB.out | apply bA | apply bN | apply bD | refine below_set ?_ GE171.out | refine below_set ?_ GE178.out) | exact HB.out)) hb); have n7_ := Aside0.mk (hbox); have n8_ := Aside0.mk ((by rw [hg]; exact (below_size (by repeat (first | (with_reducible first | exact HB.out | apply bA | apply bN | apply bD | refine below_set ?_ GE171.out | refine below_set ?_ GE178.out) | exact HB.out))) : w.heap.size ≤ gb186)); have n9_ := Aside0.mk ((by rw [hg]; exact (below_size (by repeat (first | (with_reducible first | exact HB.out | apply bA | apply bN | apply bD | refine below_set ?_ GE171.out | refine below_set ?_ GE178.out) | exact HB.out))) : w.heap.size ≤ gb186)); have n10_ := Aside0.mk ((by rw [hg]; exact Nat.ne_of_lt (blk_lt (g := gb171) (o := .cells #[.slice none 0 0] 34 (0, 0)) (by (with_reducible repeat (first | apply qN | apply qD | apply qA)); exact BK171.out)) : gb171 ≠ gb186)); have n11_ := Aside0.mk ((by rw [hg]; exact Nat.ne_of_gt (blk_lt (g := gb171) (o := .cells #[.slice none 0 0] 34 (0, 0)) (by (with_reducible repeat (first | apply qN | apply qD | apply qA)); exact BK171.out)) : gb186 ≠ gb171)); have n12_ := Aside0.mk ((by rw [hg]; exact Nat.ne_of_lt (blk_lt (g := gb178) (o := .cells #[u179000] 34 (0, 0)) (by (with_reducible repeat (first | apply qN | apply qD | apply qA)); exact BK178.out)) : gb178 ≠ gb186)); have n13_ := Aside0.mk ((by rw [hg]; exact Nat.ne_of_gt (blk_lt (g := gb178) (o := .cells #[u179000] 34 (0, 0)) (by (with_reducible repeat (first | apply qN | apply qD | apply qA)); exact BK178.out)) : gb186 ≠ gb178)); clear HO_3; clear HO_7; clear HO_25; clear HO_179000; clear BK171; clear BK178; clear HB; have HO_3 := n0_; have HO_7 := n1_; have HO_25 := n2_; have HO_179000 := n3_; have BK171 := n4_; have BK178 := n5_; have HB := n6_; have BK186 := n7_; have GW186 := n8_; have GE186 := n9_; have NB171_186 := n10_; have NB186_171 := n11_; have NB178_186 := n12_; have NB186_178 := n13_; clear n0_ n1_ n2_ n3_ n4_ n5_ n6_ n7_ n8_ n9_ n10_ n11_ n12_ n13_; clear hb hbox hg; have hnb42 := NB186_171.out; have hnc42 := NB171_186.out; have hnb43 := NB186_178.out; have hnc43 := NB178_186.out; have hcz44_0 : w41.cell? ⟨gb186, 0, none⟩ = some (.int .i64 0) := (blk_cell BK186.out 0).trans rfl; have hcz44_1 : w41.cell? ⟨gb186, 1, none⟩ = some (.int .i64 0) := (blk_cell BK186.out 1).trans rfl; have hfz44_0 := blk_frozen BK186.out 0; have hfz44_1 := blk_frozen BK186.out 1; obtain ⟨Ao45, co45, eo45⟩ := Kd.R_slice HO_3.out; subst eo45; have p187 : 0 ≤ (((rd_T70 t182 x27_2).f0) : Int) := of_decide_eq_true (by first | (with_reducible assumption) | assumption); have q187 : ((rd_T70 t182 x27_2).f0) < (x3_1.length : Int) := of_decide_eq_true (by first | (with_reducible assumption) | assumption); obtain ⟨ad187, e187, hx187_0⟩ := Kd.at_int (Kd.R_reads' HO_3.out).2.2 ((rd_T70 t182 x27_2).f0) p187 q187; cases e187; have hn187_0 : ad187.block ≠ gb186 := Kd.own_blk (Kd.R_ne HO_3.out BK186.out (by decide)); have hn187_1 : ad187.block ≠ gb186 := Kd.own_blk (Kd.R_ne HO_3.out BK186.out (by decide)); replace hx187_0 := (cell_far (p := ⟨gb186, 0, none⟩) (by first | (rw [add_block]; exact hn187_0) | (show (Addr.add _ _).block ≠ _; rw [add_block]; exact hn187_0) | exact hn187_0) (.int .i64 ((rd_T70 t182 x27_2).f0))).trans hx187_0; replace hx187_0 := (cell_far (p := ⟨gb186, 1, none⟩) (by first | (rw [add_block]; exact hn187_1) | (show (Addr.add _ _).block ≠ _; rw [add_block]; exact hn187_1) | exact hn187_1) (.int .i64 ((rd_T70 t182 x27_2).f1))).trans hx187_0; clear hn187_0; clear hn187_1; replace p187 := eq_true p187; replace q187 := eq_true q187))
                            go_roundg k2
                            case measure => have := HK1.out; have := HK2.out; omega
                            case rel => exact ⟨(x7_2), (wrap64 (x27_2 + 1)), (by first | rfl | (simp; done) | (simp [*]; done)), H', ⟨by have := HK1.out; have := HK2.out; omega⟩, ⟨by (with_reducible repeat (first | apply Kd.R_alloc | apply Kd.R_drewN | apply Kd.R_drew)); exact Kd.R_mono (Kd.R_far (p := ⟨gb186, 1, none⟩) (Kd.R_far (p := ⟨gb186, 0, none⟩) (Kd.R_types HO_3.out BK186.out (by decide)) (fun _ hk => hk.2) (.int .i64 ((rd_T70 t182 x27_2).f0))) (fun _ hk => hk.2) (.int .i64 ((rd_T70 t182 x27_2).f1))) (fun _ hk => hk.1)⟩, ⟨by (with_reducible repeat (first | apply Kd.R_alloc | apply Kd.R_drewN | apply Kd.R_drew)); exact Kd.R_mono (Kd.R_far (p := ⟨gb186, 1, none⟩) (Kd.R_far (p := ⟨gb186, 0, none⟩) (Kd.R_types HO_7.out BK186.out (by decide)) (fun _ hk => hk.2) (.int .i64 ((rd_T70 t182 x27_2).f0))) (fun _ hk => hk.2) (.int .i64 ((rd_T70 t182 x27_2).f1))) (fun _ hk => hk.1)⟩, ⟨by (with_reducible repeat (first | apply Kd.R_alloc | apply Kd.R_drewN | apply Kd.R_drew)); exact Kd.R_mono (Kd.R_far (p := ⟨gb186, 1, none⟩) (Kd.R_far (p := ⟨gb186, 0, none⟩) (Kd.R_mono HO_25.out (fun k_ hk => (⟨hk, hk.2⟩ : _ ∧ k_ ≠ gb186))) (fun _ hk => hk.2) (.int .i64 ((rd_T70 t182 x27_2).f0))) (fun _ hk => hk.2) (.int .i64 ((rd_T70 t182 x27_2).f1))) (fun _ hk => trivial)⟩, ⟨by (with_reducible repeat (first | apply Kd.S_alloc | apply Kd.S_drewN | apply Kd.S_drew)); exact Kd.S_mono (Kd.S_far (p := ⟨gb186, 1, none⟩) (Kd.S_far (p := ⟨gb186, 0, none⟩) (Kd.S_types HO_179000.out BK186.out (by decide)) (fun _ hk => hk.2) (.int .i64 ((rd_T70 t182 x27_2).f0))) (fun _ hk => hk.2) (.int .i64 ((rd_T70 t182 x27_2).f1))) (fun _ hk => ⟨hk.1.1, hk.1.2⟩)⟩, ⟨by (with_reducible repeat (first | apply qN | apply qD | apply qA)); refine blk_far ?_ NB171_186.out _; (with_reducible repeat (first | apply qN | apply qD | apply qA)); refine blk_far ?_ NB171_186.out _; (with_reducible repeat (first | apply qN | apply qD | apply qA)); exact BK171.out⟩, ⟨by (with_reducible repeat (first | apply qN | apply qD | apply qA)); refine blk_far ?_ NB178_186.out _; (with_reducible repeat (first | apply qN | apply qD | apply qA)); refine blk_far ?_ NB178_186.out _; (with_reducible repeat (first | apply qN | apply qD | apply qA)); exact BK178.out⟩, ⟨by repeat (first | (with_reducible first | exact HB.out | apply bA | apply bN | apply bD | refine below_set ?_ GE171.out | refine below_set ?_ GE178.out | refine below_set ?_ GE186.out) | exact HB.out)⟩⟩
                        · rw [if_neg c24] at H
                          exact absurd H (by simp)
                      · rw [if_neg c23] at H
                        exact absurd H (by simp)
                    · rw [if_neg c22] at H
                      exact absurd H (by simp)
                  · rw [if_neg c21] at H
                    exact absurd H (by simp)
                · rw [if_neg c20] at H
                  have c20b0 : decide (x27_2 < (t182.length : Int)) = false := decide_eq_false c20
                  clear c20
                  by_cases c46 : x179000_1.length < 5864062014805
                  · rw [if_pos c46] at H
                    have LMc46 := Aside0.mk c46
                    clear c46
                    obtain ⟨y191, hy191⟩ : ∃ y_ : List (List Int), y_ = (x179000_1 ++ [x7_2]) := ⟨_, rfl⟩
                    replace H : (spec_stMatrix.l0 k2 l0 x3_1 (ji12) (wrap64 (x6_1 + 1)) y191) = some r := by first | (rw [hy191]; with_reducible exact H) | (have H2_ := (Option.bind_some _ _).symm.trans H; rw [hy191]; with_reducible exact H2_) | (have H2_ := (Option.bind_some _ _).symm.trans H; with_reducible exact H2_) | with_reducible exact H | (rw [hy191]; exact H) | exact H
                    have Ny191 := Aside0.mk hy191
                    clear hy191
                    have H' := Aside0.mk H
                    clear H
                    have hnb47 := NB178_171.out
                    have hnc47 := NB171_178.out
                    have hcz48_0 : wr.cell? ⟨gb178, 0, none⟩ = some (u179000) := (blk_cell BK178.out 0).trans rfl
                    have hfz48_0 := blk_frozen BK178.out 0
                    obtain ⟨Ao50, co50, eo50⟩ := Kd.R_slice HO_7.out
                    subst eo50
                    go_wp2_with (first | ((with_reducible refine gate_builtin (b := .append) (xs := #[.tmp 50, .tmp 52]) rfl ?_); at_builtin; refine Kd.S_append (Kd.slice 3 (Kd.int .i64)) (w0 := w) w.heap.size rfl (.tmp 50) (.tmp 52) 29 22 (.slice none 0 0) 24 rfl Try.underlying29 info22 rfl (by decide) (by omega) u179000 x179000_1 x7_2 [.slice Ao50 x7_2.length co50] (fun k_ => some k_ ≠ (v173 : Value).ownBlock) (fun k_ => some k_ = (.slice Ao50 x7_2.length co50 : Value).ownBlock) rfl rfl ?aP (fun k_ hk_ => ((Kd.R_mono (ok' := fun k_ => ((fun k_ => some k_ ≠ (v173 : Value).ownBlock)) k_ ∧ some k_ ≠ (u179000 : Value).ownBlock) (Kd.R_apart' (HO_7.out) (Kd.S_typed HO_179000.out) (by decide)) (fun k_ hk => ⟨hk.1, hk.2⟩))).1 k_ hk_.symm) ?aF ?aO ?aB ?aS ?aL ?_; (case aP => exact Kd.M_row (Kd.R_mono (Kd.R_tight rfl (Kd.R_mono (ok' := fun k_ => ((fun k_ => some k_ ≠ (v173 : Value).ownBlock)) k_ ∧ some k_ ≠ (u179000 : Value).ownBlock) (Kd.R_apart' (HO_7.out) (Kd.S_typed HO_179000.out) (by decide)) (fun k_ hk => ⟨hk.1, hk.2⟩))) (fun _ h_ => h_))); (case aB => exact (by repeat (first | (with_reducible first | exact HB.out | apply bA | apply bN | apply bD | refine below_set ?_ GE171.out | refine below_set ?_ GE178.out) | exact HB.out))); (case aF => exact (fun k_ hk => Kd.fresh' (Kd.R_lt (by (with_reducible repeat (first | apply Kd.R_alloc | apply Kd.R_drewN | apply Kd.R_drew)); exact HO_3.out)) k_ hk)); (case aO => exact (by (with_reducible repeat (first | apply Kd.S_alloc | apply Kd.S_drewN | apply Kd.S_drew)); exact Kd.S_mono HO_179000.out (fun k_ hk => ⟨hk.1, fun e_ => hk.2 e_⟩))); (case aS => exact (below_size (by repeat (first | (with_reducible first | exact HB.out | apply bA | apply bN | apply bD | refine below_set ?_ GE171.out | refine below_set ?_ GE178.out) | exact HB.out)))); (case aL => have := LMc46.out; omega); intro v192 w49 ho hb hg hat; rw [← Ny191.out] at ho; have n0_ := Aside0.mk (Kd.R_over' (by (with_reducible repeat (first | apply Kd.R_alloc | apply Kd.R_drewN | apply Kd.R_drew)); exact HO_3.out) (Kd.S_typed (by (with_reducible repeat (first | apply Kd.S_alloc | apply Kd.S_drewN | apply Kd.S_drew)); exact HO_179000.out)) (by decide) hg); have n1_ := Aside0.mk (Kd.R_over' (by (with_reducible repeat (first | apply Kd.R_alloc | apply Kd.R_drewN | apply Kd.R_drew)); exact HO_25.out) (Kd.S_typed (by (with_reducible repeat (first | apply Kd.S_alloc | apply Kd.S_drewN | apply Kd.S_drew)); exact HO_179000.out)) (by decide) hg); have n2_ := Aside0.mk (blk_grown (g := gb171) (o := .cells #[.slice none 0 0] 34 (0, 0)) (by (with_reducible repeat (first | apply qN | apply qD | apply qA)); exact BK171.out) hg (Kd.S_ne HO_179000.out BK171.out (by decide))); have n3_ := Aside0.mk (blk_grown (g := gb178) (o := .cells #[u179000] 34 (0, 0)) (by (with_reducible repeat (first | apply qN | apply qD | apply qA)); exact BK178.out) hg (Kd.S_ne HO_179000.out BK178.out (by decide))); have n4_ := Aside0.mk (hb); have n5_ := Aside0.mk (ho); clear HO_3; clear HO_25; clear BK171; clear BK178; clear HB; clear HO_179000; clear HO_7; have HO_3 := n0_; have HO_25 := n1_; have BK171 := n2_; have BK178 := n3_; have HB := n4_; have HO193 := n5_; clear n0_ n1_ n2_ n3_ n4_ n5_; clear ho hb hg hat; obtain ⟨Ao51, co51, eo51⟩ := Kd.S_slice HO193.out; subst eo51; have hcz52_0 : w49.cell? ⟨gb178, 0, none⟩ = some (u179000) := (blk_cell BK178.out 0).trans rfl; have hfz52_0 := blk_frozen BK178.out 0))
                    (try rw [← hji12])
                    (try rw [← hji12] at H')
                    go_roundg k2
                    case measure => have := HK1.out; have := HK2.out; omega
                    case rel => exact ⟨(x3_1), (wrap64 (x6_1 + 1)), (y191), (.slice Ao51 y191.length co51), (by first | rfl | (simp; done) | (simp [*]; done)), H', ⟨by have := HK1.out; have := HK2.out; omega⟩, ⟨by (with_reducible repeat (first | apply Kd.R_alloc | apply Kd.R_drewN | apply Kd.R_drew)); exact Kd.R_mono (Kd.R_far (p := ⟨gb178, 0, none⟩) (Kd.R_types HO_3.out BK178.out (by decide)) (fun _ hk => hk.2) (.slice Ao51 y191.length co51)) (fun _ hk => trivial)⟩, ⟨by (with_reducible repeat (first | apply Kd.S_alloc | apply Kd.S_drewN | apply Kd.S_drew)); exact Kd.S_mono (Kd.S_far (p := ⟨gb178, 0, none⟩) (Kd.S_types HO193.out BK178.out (by decide)) (fun _ hk => hk.2) (.slice Ao51 y191.length co51)) (fun _ hk => hk.1)⟩, ⟨by (with_reducible repeat (first | apply qN | apply qD | apply qA)); refine blk_far ?_ NB171_178.out _; (with_reducible repeat (first | apply qN | apply qD | apply qA)); exact BK171.out⟩, ⟨by (with_reducible repeat (first | apply qN | apply qD | apply qA)); refine blk_put (cs := #[u179000]) ?_ 0 _ rfl; (with_reducible repeat (first | apply qN | apply qD | apply qA)); exact BK178.out⟩, ⟨by repeat (first | (with_reducible first | exact HB.out | apply bA | apply bN | apply bD | refine below_set ?_ GE171.out | refine below_set ?_ GE178.out) | exact HB.out)⟩⟩
                  · rw [if_neg c46] at H
                    exact absurd H (by simp)
          · rw [if_neg c14] at H
            exact absurd H (by simp)
        · rw [if_neg c13] at H
          exact absurd H (by simp)
      · rw [if_neg c11] at H
        have c11b0 : decide (x6_1 < (wrap64 ((t175.length : Int) / 2))) = false := decide_eq_false c11
        clear c11
        obtain rfl := Option.some.inj H
        have hnb53 := NB178_171.out
        have hnc53 := NB171_178.out
        have hcz54_0 : wr.cell? ⟨gb178, 0, none⟩ = some (u179000) := (blk_cell BK178.out 0).trans rfl
        have hfz54_0 := blk_frozen BK178.out 0
        obtain ⟨Ao55, co55, eo55⟩ := Kd.S_slice HO_179000.out
        subst eo55
        have hcz56_0 : wr.cell? ⟨gb171, 0, none⟩ = some (.slice none 0 0) := (blk_cell BK171.out 0).trans rfl
        have hfz56_0 := blk_frozen BK171.out 0
        go_wp2
        refine bodyPost_ret (results_cell_row rfl _ _ gb171 34 #[.slice Ao55 x179000_1.length co55] (0, 0) _ rfl (by (with_reducible repeat (first | apply qN | apply qD | apply qA)); refine blk_put (cs := #[.slice none 0 0]) ?_ 0 _ rfl; (with_reducible repeat (first | apply qN | apply qD | apply qA)); exact BK171.out) Try.underlying34 rfl (by kernel_rfl)) rfl ?_
        exact ⟨_, by first | rfl | (simp [errW_none, errW_some] <;> rfl) | (simp [*, errW_none, errW_some] <;> rfl), by (with_reducible repeat (first | apply Kd.S_alloc | apply Kd.S_drewN | apply Kd.S_drew)); exact Kd.S_mono (Kd.S_far (p := ⟨gb171, 0, none⟩) (Kd.S_types HO_179000.out BK171.out (by decide)) (fun _ hk => hk.2) (.slice Ao55 x179000_1.length co55)) (fun _ hk => trivial), by repeat (first | (with_reducible first | exact HB.out | apply bA | apply bN | apply bD | refine below_set ?_ GE171.out | refine below_set ?_ GE178.out) | exact HB.out)⟩

/-! ### spec_TidyMatching: function 9 -/
def spec_TidyMatching.f (k : Nat) (l0 : List Int) : Option (List Int × Bool) := (spec_stGood.f k l0).bind fun t194 => (if t194 = true then ((spec_stMatrix.f k l0).bind fun t195 => ((spec_stOf.f k t195).bind fun t198 => (some (t198, true)))) else (some (([] : List Int), false)))
theorem spec_TidyMatching.mono : ∀ a0 k, LeO (spec_TidyMatching.f k a0) (spec_TidyMatching.f (k + 1) a0) := by
  intro a0 k
  unfold spec_TidyMatching.f
  repeat' first | with_reducible first | exact spec_stGood.mono _ _ | exact spec_stMatrix.mono _ _ | exact spec_stOf.mono _ _ | exact LeO.refl _ | exact LeO.none _ | refine LeO.ite ?_ ?_ | refine LeO.bind ?_ (fun _ => ?_)
set_option maxHeartbeats 8000000 in
set_option maxRecDepth 100000 in
theorem spec_TidyMatching.calls (k : Nat) (A0 : Option Addr) (c0 : Nat) (l0 : List Int) (r1 : List Int) (r2 : Bool) (w : World) (hr0 : Kd.C (Kd.int .i64) w A0 l0.length l0) (hc0 : l0.length ≤ c0) (h : spec_TidyMatching.f k l0 = some (r1, r2)) :
    Calls Try.prog 9 #[.slice A0 l0.length c0] w fun e w' => ∃ v0_ : Value, e = .returned (.tuple #[v0_, .bool r2]) ∧ Kd.R (Kd.int .i64) 3 w' w.heap.size (fun _ => True) v0_ r1 ∧ Below w.heap.size w w' := by
  have HR0 := Aside0.mk hr0
  have HC0 := Aside0.mk hc0
  clear hr0 hc0
  have HB := Aside0.mk (Below.refl w.heap.size w)
  have H : ((spec_stGood.f k l0).bind fun t194 => (if t194 = true then ((spec_stMatrix.f k l0).bind fun t195 => ((spec_stOf.f k t195).bind fun t198 => (some (t198, true)))) else (some (([] : List Int), false)))) = some (r1, r2) := h
  clear h
  replace H := Option.bind_eq_some_iff.mp H
  obtain ⟨t194, A20, H⟩ := H
  replace H : (if t194 = true then ((spec_stMatrix.f k l0).bind fun t195 => ((spec_stOf.f k t195).bind fun t198 => (some (t198, true)))) else (some (([] : List Int), false))) = some (r1, r2) := H
  have A2 := Aside0.mk A20
  clear A20
  by_cases c3 : t194 = true
  · subst c3
    have H1 : ((spec_stMatrix.f k l0).bind fun t195 => ((spec_stOf.f k t195).bind fun t198 => (some (t198, true)))) = some (r1, r2) := by rw [if_pos rfl] at H; exact H
    clear H
    have H := H1
    clear H1
    replace H := Option.bind_eq_some_iff.mp H
    obtain ⟨t195, A40, H⟩ := H
    replace H : ((spec_stOf.f k t195).bind fun t198 => (some (t198, true))) = some (r1, r2) := H
    have A4 := Aside0.mk A40
    clear A40
    replace H := Option.bind_eq_some_iff.mp H
    obtain ⟨t198, A50, H⟩ := H
    replace H : (some (t198, true)) = some (r1, r2) := H
    have A5 := Aside0.mk A50
    clear A50
    simp only [Option.some.injEq, Prod.mk.injEq] at H
    obtain ⟨rfl, rfl⟩ := H
    go_enter Try.func9, Try.ntmps9
    go_wp2_with (first | ((with_reducible refine gate_callee (f := 35) rfl ?_); refine goesL_ (some 5) rfl rfl Try.func35 (by kernel_rfl) rfl #[.slice A0 l0.length c0] rfl (by (try simp only [List.map_toArray, List.map_cons, List.map_nil]); first | done | rfl | (simp only [List.length_drop, List.length_take]; rfl)) ?_; (with_reducible refine (spec_stGood.calls k _ _ l0 true _ ?side1 ?side2 A2.out).mono ?_); (case side1 => repeat (first | exact HR0.out | (with_reducible refine Kd.C_alloc ?_ _) | (with_reducible refine Kd.C_drewN ?_ _) | (with_reducible refine Kd.C_drew ?_))); (case side2 => exact HC0.out); rintro e w' ⟨rfl, ⟨nd, rfl⟩⟩; refine ⟨_, rfl, ?_⟩) | ((with_reducible refine gate_callee (f := 37) rfl ?_); refine goesL_ (some 8) rfl rfl Try.func37 (by kernel_rfl) rfl #[.slice A0 l0.length c0] rfl (by (try simp only [List.map_toArray, List.map_cons, List.map_nil]); first | done | rfl | (simp only [List.length_drop, List.length_take]; rfl)) ?_; (with_reducible refine (spec_stMatrix.calls k _ _ l0 t195 _ ?side1 ?side2 A4.out).mono ?_); (case side1 => repeat (first | exact HR0.out | (with_reducible refine Kd.C_alloc ?_ _) | (with_reducible refine Kd.C_drewN ?_ _) | (with_reducible refine Kd.C_drew ?_))); (case side2 => exact HC0.out); rintro e w6 ⟨v196, rfl, ho0, hb⟩; refine ⟨_, rfl, ?_⟩; have n0_ := Aside0.mk (Kd.S_lower ho0 (below_size (by repeat (first | (with_reducible first | exact HB.out | apply bA | apply bN | apply bD) | exact HB.out)))); have n1_ := Aside0.mk (below_step (by repeat (first | (with_reducible first | exact HB.out | apply bA | apply bN | apply bD) | exact HB.out)) hb); clear HB; have HO197 := n0_; have HB := n1_; clear n0_ n1_; (try clear hb); (try clear hb2); (try clear hk); (try clear hi); (try clear ho0); obtain ⟨Ao7, co7, eo7⟩ := Kd.S_slice HO197.out; subst eo7) | ((with_reducible refine gate_callee (f := 36) rfl ?_); refine goesL_ (some 9) rfl rfl Try.func36 (by kernel_rfl) rfl #[.agg #[.slice Ao7 t195.length co7]] rfl (by (try simp only [List.map_toArray, List.map_cons, List.map_nil]); first | done | rfl | (simp only [List.length_drop, List.length_take]; rfl)) ?_; (with_reducible refine (spec_stOf.calls k _ _ t195 t198 _ ?side1 ?side2 A5.out).mono ?_); (case side1 => repeat (first | exact (Kd.S_reads' HO197.out).2.2 | (with_reducible refine Kd.C_alloc ?_ _) | (with_reducible refine Kd.C_drewN ?_ _) | (with_reducible refine Kd.C_drew ?_))); (case side2 => exact (Kd.S_reads' HO197.out).2.1); rintro e w8 ⟨v199, rfl, ho0, hb⟩; refine ⟨_, rfl, ?_⟩; have n0_ := Aside0.mk (Kd.S_elder' (by (with_reducible repeat (first | apply Kd.S_alloc | apply Kd.S_drewN | apply Kd.S_drew)); exact HO197.out) (Kd.R_base ho0) hb); have n1_ := Aside0.mk (Kd.R_lower ho0 (below_size (by repeat (first | (with_reducible first | exact HB.out | apply bA | apply bN | apply bD) | exact HB.out)))); have n2_ := Aside0.mk (below_step (by repeat (first | (with_reducible first | exact HB.out | apply bA | apply bN | apply bD) | exact HB.out)) hb); clear HO197; clear HB; have HO197 := n0_; have HO200 := n1_; have HB := n2_; clear n0_ n1_ n2_; (try clear hb); (try clear hb2); (try clear hk); (try clear hi); (try clear ho0)))
    go_ret2
    exact ⟨_, by first | rfl | (simp [errW_none, errW_some] <;> rfl) | (simp [*, errW_none, errW_some] <;> rfl), by (with_reducible repeat (first | apply Kd.R_alloc | apply Kd.R_drewN | apply Kd.R_drew)); exact HO200.out, by repeat (first | (with_reducible first | exact HB.out | apply bA | apply bN | apply bD) | exact HB.out)⟩
  · replace c3 := Bool.eq_false_iff.mpr c3
    subst c3
    have H1 : (some (([] : List Int), false)) = some (r1, r2) := by rw [if_neg (show ¬ (false = true) by decide)] at H; exact H
    clear H
    have H := H1
    clear H1
    simp only [Option.some.injEq, Prod.mk.injEq] at H
    obtain ⟨rfl, rfl⟩ := H
    go_enter Try.func9, Try.ntmps9
    go_wp2_with (first | ((with_reducible refine gate_callee (f := 35) rfl ?_); refine goesL_ (some 5) rfl rfl Try.func35 (by kernel_rfl) rfl #[.slice A0 l0.length c0] rfl (by (try simp only [List.map_toArray, List.map_cons, List.map_nil]); first | done | rfl | (simp only [List.length_drop, List.length_take]; rfl)) ?_; (with_reducible refine (spec_stGood.calls k _ _ l0 false _ ?side1 ?side2 A2.out).mono ?_); (case side1 => repeat (first | exact HR0.out | (with_reducible refine Kd.C_alloc ?_ _) | (with_reducible refine Kd.C_drewN ?_ _) | (with_reducible refine Kd.C_drew ?_))); (case side2 => exact HC0.out); rintro e w' ⟨rfl, ⟨nd, rfl⟩⟩; refine ⟨_, rfl, ?_⟩))
    go_ret2
    exact ⟨_, by first | rfl | (simp [errW_none, errW_some] <;> rfl) | (simp [*, errW_none, errW_some] <;> rfl), by first | exact Kd.R_nil _ _ _ _ _ | exact Kd.N_nil _ _ _ _ _ | exact Kd.V_nil _ _ _ _ _ | exact Kd.Q_nil _ _ _ _ _ | exact Kd.S_nil _ _ _ _ _, by repeat (first | (with_reducible first | exact HB.out | apply bA | apply bN | apply bD) | exact HB.out)⟩

/-! ### laws_toIntS: function 10 -/
def laws_toIntS.l0 : Nat → List Int → List Int → Int → Option (List Int)
  | 0, _, _, _ => none
  | k + 1, x0, x3, x4 => if x4 < (x0.length : Int) then (if 0 ≤ x4 then (if x4 < (x3.length : Int) then (laws_toIntS.l0 k x0 (x3.set (x4 : Int).toNat (rd x0 x4)) (wrap64 (x4 + 1))) else (none)) else (none)) else (some x3)
def laws_toIntS.f (k : Nat) (l0 : List Int) : Option (List Int) := if 0 ≤ (l0.length : Int) then (if ((l0.length : Int) : Int).toNat ≤ 35184372088832 then (laws_toIntS.l0 k l0 (List.replicate ((l0.length : Int) : Int).toNat 0) 0) else (none)) else (none)
theorem laws_toIntS.mono_l : ∀ k, (∀ y0 y1 y2, LeO (laws_toIntS.l0 k y0 y1 y2) (laws_toIntS.l0 (k + 1) y0 y1 y2))
  | 0 => fun _ _ _ r h => by simp [laws_toIntS.l0] at h
  | k + 1 => by
    have ih0 := laws_toIntS.mono_l k
    · intro y0 y1 y2
      unfold laws_toIntS.l0
      repeat' first | with_reducible first | exact ih0 _ _ _ | exact LeO.refl _ | exact LeO.none _ | refine LeO.ite ?_ ?_ | refine LeO.bind ?_ (fun _ => ?_)
theorem laws_toIntS.mono : ∀ a0 k, LeO (laws_toIntS.f k a0) (laws_toIntS.f (k + 1) a0) := by
  intro a0 k
  have ih0 := laws_toIntS.mono_l k
  unfold laws_toIntS.f
  repeat' first | with_reducible first | exact ih0 _ _ _ | exact LeO.refl _ | exact LeO.none _ | refine LeO.ite ?_ ?_ | refine LeO.bind ?_ (fun _ => ?_)
set_option maxHeartbeats 8000000 in
set_option maxRecDepth 100000 in
theorem laws_toIntS.calls (k : Nat) (A0 : Option Addr) (c0 : Nat) (l0 : List Int) (r : List Int) (w : World) (hr0 : Kd.C (Kd.int .i64) w A0 l0.length l0) (hc0 : l0.length ≤ c0) (h : laws_toIntS.f k l0 = some r) :
    Calls Try.prog 10 #[.slice A0 l0.length c0] w fun e w' => ∃ v0_ : Value, e = .returned (v0_) ∧ Kd.R (Kd.int .i64) 3 w' w.heap.size (fun _ => True) v0_ r ∧ Below w.heap.size w w' := by
  have HR0 := Aside0.mk hr0
  have HC0 := Aside0.mk hc0
  clear hr0 hc0
  have HB := Aside0.mk (Below.refl w.heap.size w)
  have H : (if 0 ≤ (l0.length : Int) then (if ((l0.length : Int) : Int).toNat ≤ 35184372088832 then (laws_toIntS.l0 k l0 (List.replicate ((l0.length : Int) : Int).toNat 0) 0) else (none)) else (none)) = some r := h
  clear h
  by_cases c2 : 0 ≤ (l0.length : Int)
  · rw [if_pos c2] at H
    have c2b0 := eq_true c2
    have c2b1 : decide (0 ≤ (l0.length : Int)) = true := decide_eq_true c2
    clear c2
    by_cases c3 : ((l0.length : Int) : Int).toNat ≤ 35184372088832
    · rw [if_pos c3] at H
      have c3b0 := eq_true c3
      have c3b1 : decide (((l0.length : Int) : Int).toNat ≤ 35184372088832) = true := decide_eq_true c3
      clear c3
      obtain ⟨y201, hy201⟩ : ∃ y_ : List Int, y_ = (List.replicate ((l0.length : Int) : Int).toNat 0) := ⟨_, rfl⟩
      replace H : (laws_toIntS.l0 k l0 y201 0) = some r := by first | (rw [hy201]; with_reducible exact H) | (have H2_ := (Option.bind_some _ _).symm.trans H; rw [hy201]; with_reducible exact H2_) | (have H2_ := (Option.bind_some _ _).symm.trans H; with_reducible exact H2_) | with_reducible exact H | (rw [hy201]; exact H) | exact H
      have Ny201 := Aside0.mk hy201
      clear hy201
      have H' := Aside0.mk H
      clear H
      go_enter Try.func10, Try.ntmps10
      go_wp2_with (first | ((with_reducible refine gate_dst (N := 7) rfl ?_); refine Kd.R_make (Kd.int .i64) _ 3 rfl (N := 7) rfl 22 _ _ rfl (l0.length : Int) rfl rfl Try.underlying22 (.int .i64 0) 8 info3 rfl (by decide) (by omega) 0 (ok := fun _ => True) (okp := fun _ => True) rfl (fun _ hk => hk) trivial (of_decide_eq_true (by first | (with_reducible assumption) | assumption)) (Nat.le_trans (Nat.mul_le_mul_right _ (of_decide_eq_true (by first | (with_reducible assumption) | assumption) : (l0.length : Int).toNat ≤ 35184372088832)) (by omega)) (Below.refl _ _) (Nat.le_refl _) ?_; intro v202 w4 ho5 hb hg_ hnew_; clear hg_ hnew_; (first | rw [← Ny201.out] at ho5 | (simp only [Int.reduceToNat] at ho5; rw [← Ny201.out] at ho5)); have n0_ := Aside0.mk (Kd.R_lower ho5 (below_size (by repeat (first | (with_reducible first | exact HB.out | apply bA | apply bN | apply bD) | exact HB.out)))); have n1_ := Aside0.mk (below_step (by repeat (first | (with_reducible first | exact HB.out | apply bA | apply bN | apply bD) | exact HB.out)) hb); clear HB; have HO203 := n0_; have HB := n1_; clear n0_ n1_; clear hb ho5))
      go_loopg [4] k (fun kq v4 w' => ∃ (x3_1 : List Int) (x4_1 : Int), v4 = .int .i64 x4_1 ∧ Aside0 (laws_toIntS.l0 kq l0 x3_1 x4_1 = some r) ∧ Aside0 (kq ≤ k) ∧ Aside0 (Kd.R (Kd.int .i64) 3 w' w.heap.size (fun _ => True) v202 x3_1) ∧ Aside0 (Below w.heap.size w w'))
      case atStart => exact ⟨(y201), (0), (by first | rfl | (simp; done) | (simp [*]; done)), H', ⟨Nat.le_refl _⟩, ⟨by (with_reducible repeat (first | apply Kd.R_alloc | apply Kd.R_drewN | apply Kd.R_drew)); exact HO203.out⟩, ⟨by repeat (first | (with_reducible first | exact HB.out | apply bA | apply bN | apply bD) | exact HB.out)⟩⟩
      case round =>
        clear H'
        try clear c1
        try clear c2
        try clear c2b0
        try clear c2b1
        try clear p2
        try clear c3
        try clear c3b0
        try clear c3b1
        obtain ⟨x3_1, x4_1, rfl, HA, HK1, HO_3, HB⟩ := hrel
        cases gk with
        | zero => exact absurd HA.out (by simp [laws_toIntS.l0])
        | succ k1 =>
          have H := HA.out
          clear HA
          simp only [laws_toIntS.l0] at H
          by_cases c6 : x4_1 < (l0.length : Int)
          · rw [if_pos c6] at H
            have c6b0 : decide (x4_1 < (l0.length : Int)) = true := decide_eq_true c6
            clear c6
            by_cases c7 : 0 ≤ x4_1
            · rw [if_pos c7] at H
              have c7b0 : decide (0 ≤ x4_1) = true := decide_eq_true c7
              clear c7
              by_cases c8 : x4_1 < (x3_1.length : Int)
              · rw [if_pos c8] at H
                have c8b0 : decide (x4_1 < (x3_1.length : Int)) = true := decide_eq_true c8
                clear c8
                obtain ⟨y205, hy205⟩ : ∃ y_ : List Int, y_ = (x3_1.set (x4_1 : Int).toNat (rd l0 x4_1)) := ⟨_, rfl⟩
                replace H : (laws_toIntS.l0 k1 l0 y205 (wrap64 (x4_1 + 1))) = some r := by first | (rw [hy205]; with_reducible exact H) | (have H2_ := (Option.bind_some _ _).symm.trans H; rw [hy205]; with_reducible exact H2_) | (have H2_ := (Option.bind_some _ _).symm.trans H; with_reducible exact H2_) | with_reducible exact H | (rw [hy205]; exact H) | exact H
                have Ny205 := Aside0.mk hy205
                clear hy205
                have H' := Aside0.mk H
                clear H
                have p204 : 0 ≤ (x4_1 : Int) := of_decide_eq_true (by first | (with_reducible assumption) | assumption)
                have q204 : x4_1 < (l0.length : Int) := of_decide_eq_true (by first | (with_reducible assumption) | assumption)
                obtain ⟨ad204, e204, hx204_0⟩ := Kd.at_int HR0.out x4_1 p204 q204
                cases e204
                replace hx204_0 := (HB.out.cell (World.block_lt_of_cell? w _ hx204_0)).trans hx204_0
                replace p204 := eq_true p204
                replace q204 := eq_true q204
                have p9 : 0 ≤ (x4_1 : Int) := of_decide_eq_true (by first | (with_reducible assumption) | assumption)
                have q9 : (x4_1 : Int) < ((x3_1.length : Int) : Int) := of_decide_eq_true (by first | (with_reducible assumption) | assumption)
                obtain ⟨go9, co9, eo9, gb9, gl9, cl9, HG9⟩ := Kd.R_form HO_3.out (by omega)
                (first | cases eo9 | (injection eo9 with ea_ en_ ec_; (first | subst ea_ | (injection ea_ with ea_; subst ea_)); subst ec_; clear en_))
                have GB9 := Aside0.mk gb9
                have GG9 := Aside0.mk HG9
                clear gb9 gl9 HG9
                obtain ⟨hx9_0, hf9_0⟩ := Kd.R_celln 0 HO_3.out (x4_1 : Int) p9 q9
                replace p9 := eq_true p9
                replace q9 := eq_true q9
                have HP10 := Kd.R_putg HO_3.out (x4_1 : Int) (rd l0 x4_1)
                go_wp2_with (first | ((with_reducible refine gate_store (t := 3) (p := 20) rfl ?_); refine store_event (t := 3) (p := 20) (v := ?vo_w11) (w1 := (wr.setCell ⟨go9, (x4_1 : Int).toNat, none⟩ (.int .i64 (rd l0 x4_1)))) ?hg ?ho ?hn ?hr ?_; (case ho => rfl); (case hg => rfl); (case hn => rfl); (case hr => first | (go_simp; done) | (go_simp; rfl)); intro w11 hw; have hg : wr.grownBy w11 (some go9) := (by rw [hw]; exact HP10.2); have hp_ : Kd.R (Kd.int .i64) 3 w11 w.heap.size (fun _ => True) (.slice (some ⟨go9, 0, none⟩) x3_1.length co9) y205 := (by rw [hw, Ny205.out]; exact HP10.1); clear HP10; have n0_ := Aside0.mk (hp_); have n1_ := Aside0.mk ((by rw [hw]; exact below_set (HB.out) GB9.out : Below w.heap.size w w11)); clear HO_3; clear HB; have HO_3 := n0_; have HB := n1_; clear n0_ n1_; clear hg hw hp_))
                go_roundg k1
                case measure => have := HK1.out; omega
                case rel => exact ⟨(y205), (wrap64 (x4_1 + 1)), (by first | rfl | (simp; done) | (simp [*]; done)), H', ⟨by have := HK1.out; omega⟩, ⟨by (with_reducible repeat (first | apply Kd.R_alloc | apply Kd.R_drewN | apply Kd.R_drew)); exact HO_3.out⟩, ⟨by repeat (first | (with_reducible first | exact HB.out | apply bA | apply bN | apply bD) | exact HB.out)⟩⟩
              · rw [if_neg c8] at H
                exact absurd H (by simp)
            · rw [if_neg c7] at H
              exact absurd H (by simp)
          · rw [if_neg c6] at H
            have c6b0 : decide (x4_1 < (l0.length : Int)) = false := decide_eq_false c6
            clear c6
            obtain rfl := Option.some.inj H
            go_wp2
            go_ret
            exact ⟨_, by first | rfl | (simp [errW_none, errW_some] <;> rfl) | (simp [*, errW_none, errW_some] <;> rfl), by (with_reducible repeat (first | apply Kd.R_alloc | apply Kd.R_drewN | apply Kd.R_drew)); exact HO_3.out, by repeat (first | (with_reducible first | exact HB.out | apply bA | apply bN | apply bD) | exact HB.out)⟩
    · rw [if_neg c3] at H
      exact absurd H (by simp)
  · rw [if_neg c2] at H
    exact absurd H (by simp)

/-! ### impl_within: function 47 -/
def impl_within.f (a0 : Int) (a1 : Int) (a2 : Int) : Option (Bool) := if a0 ≥ a1 then (some (decide (a0 ≤ a2))) else (some false)
set_option maxHeartbeats 8000000 in
set_option maxRecDepth 100000 in
theorem impl_within.calls (a0 : Int) (a1 : Int) (a2 : Int) (r : Bool) (w : World) (h : impl_within.f a0 a1 a2 = some r) :
    Calls Try.prog 47 #[.int .i64 a0, .int .i64 a1, .int .i64 a2] w fun e w' => e = .returned (.bool r) ∧ Drawn0 w w' := by
  have H : (if a0 ≥ a1 then (some (decide (a0 ≤ a2))) else (some false)) = some r := h
  clear h
  by_cases c4 : a0 ≥ a1
  · rw [if_pos c4] at H
    have c4b0 : decide (a1 ≤ a0) = true := decide_eq_true c4
    clear c4
    obtain rfl := Option.some.inj H
    go_enter Try.func47, Try.ntmps47
    go_wp2
    go_ret
    exact ⟨by first | rfl | (simp; done) | (simp [*]; done), by repeat (first | exact Drawn0.refl _ | apply Drawn0.step)⟩
  · rw [if_neg c4] at H
    have c4b0 : decide (a1 ≤ a0) = false := decide_eq_false c4
    clear c4
    obtain rfl := Option.some.inj H
    go_enter Try.func47, Try.ntmps47
    go_wp2
    go_ret
    exact ⟨by first | rfl | (simp; done) | (simp [*]; done), by repeat (first | exact Drawn0.refl _ | apply Drawn0.step)⟩

end Go.Proofs.Ytngkfgleffagcaa.Yx
