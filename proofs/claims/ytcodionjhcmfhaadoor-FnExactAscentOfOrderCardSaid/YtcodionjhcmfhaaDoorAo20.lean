-- Written by hook.py, a program of this session (wip/), which runs the kit's print.py with its own parts; Lean checks it.
import Derived.Test.YtcodionjhcmfhaaDoorAo0
import Derived.Test.YtcodionjhcmfhaaDoorAo18
import Derived.Test.YtcodionjhcmfhaaDoorAoXSq
namespace Go.Proofs.YtcodionjhcmfhaaDoor.Ao
open Go.RowKit Go.Proofs.YtcodionjhcmfhaaDoorW.PrintWords Go.Proofs.YtcodionjhcmfhaaDoorW.PrintLast Go.Proofs.YtcodionjhcmfhaaDoorW.PrintMore Go.Proofs.YtcodionjhcmfhaaDoor.Sq
attribute [local go_sem] max2_int min2_int max_two min_two max_three min_three max_four min_four   -- for this text's walks alone
set_option linter.unusedVariables false
set_option linter.unusedSimpArgs false

mutual
def impl_Matrix_sums.l0 : Nat → List Int → List Int → List (List Int) → Int → Int → Option (List Int × List Int)
 | 0, _, _, _, _, _ => none
 | k + 1, x4, x5, x17, x18, x19 => if x19 < x18 then (if 0 ≤ x19 then (if x19 < (x17.length : Int) then (impl_Matrix_sums.l1 k x4 x5 x19 x17 x18 x19 (rd_L2 x17 x19) ((rd_L2 x17 x19).length : Int) 0) else (none)) else (none)) else (some (x4, x5))
def impl_Matrix_sums.l1 : Nat → List Int → List Int → Int → List (List Int) → Int → Int → List Int → Int → Int → Option (List Int × List Int)
 | 0, _, _, _, _, _, _, _, _, _ => none
 | k + 1, x4, x5, x6, x17, x18, x19, x24, x25, x26 => if x26 < x25 then (if 0 ≤ x26 then (if x26 < (x24.length : Int) then (if 0 ≤ x6 then (if x6 < (x4.length : Int) then (if x26 < (x5.length : Int) then (impl_Matrix_sums.l1 k (x4.set (x6 : Int).toNat (wrap64 ((rd x4 x6) + (rd x24 x26)))) (x5.set (x26 : Int).toNat (wrap64 ((rd x5 x26) + (rd x24 x26)))) x6 x17 x18 x19 x24 x25 (wrap64 (x26 + 1))) else (none)) else (none)) else (none)) else (none)) else (none)) else (impl_Matrix_sums.l0 k x4 x5 x17 x18 (wrap64 (x19 + 1)))
end
def impl_Matrix_sums.f (k : Nat) (l0_0 : List (List Int)) : Option (List Int × List Int) := (impl_Matrix_size.f l0_0).bind fun t442 => (if 0 ≤ t442 then (if (t442 : Int).toNat ≤ 35184372088832 then ((impl_Matrix_size.f l0_0).bind fun t446 => (if 0 ≤ t446 then (if (t446 : Int).toNat ≤ 35184372088832 then (impl_Matrix_sums.l0 k (List.replicate (t442 : Int).toNat 0) (List.replicate (t446 : Int).toNat 0) l0_0 (l0_0.length : Int) 0) else (none)) else (none))) else (none)) else (none))
theorem impl_Matrix_sums.mono_l : ∀ k, (∀ y0 y1 y2 y3 y4, LeO (impl_Matrix_sums.l0 k y0 y1 y2 y3 y4) (impl_Matrix_sums.l0 (k + 1) y0 y1 y2 y3 y4)) ∧ (∀ y0 y1 y2 y3 y4 y5 y6 y7 y8, LeO (impl_Matrix_sums.l1 k y0 y1 y2 y3 y4 y5 y6 y7 y8) (impl_Matrix_sums.l1 (k + 1) y0 y1 y2 y3 y4 y5 y6 y7 y8))
 | 0 => ⟨fun _ _ _ _ _ r h => by simp [impl_Matrix_sums.l0] at h, fun _ _ _ _ _ _ _ _ _ r h => by simp [impl_Matrix_sums.l1] at h⟩
 | k + 1 => by
  obtain ⟨ih0, ih1⟩ := impl_Matrix_sums.mono_l k
  refine ⟨?_, ?_⟩
  ·intro y0 y1 y2 y3 y4
   unfold impl_Matrix_sums.l0
   repeat' first | with_reducible first | exact ih0 _ _ _ _ _ | exact ih1 _ _ _ _ _ _ _ _ _ | exact LeO.refl _ | exact LeO.none _ | refine LeO.ite ?_ ?_ | refine LeO.bind ?_ (fun _ => ?_)
  ·intro y0 y1 y2 y3 y4 y5 y6 y7 y8
   unfold impl_Matrix_sums.l1
   repeat' first | with_reducible first | exact ih0 _ _ _ _ _ | exact ih1 _ _ _ _ _ _ _ _ _ | exact LeO.refl _ | exact LeO.none _ | refine LeO.ite ?_ ?_ | refine LeO.bind ?_ (fun _ => ?_)
theorem impl_Matrix_sums.mono : ∀ a0 k, LeO (impl_Matrix_sums.f k a0) (impl_Matrix_sums.f (k + 1) a0) := by
 intro a0 k
 obtain ⟨ih0, ih1⟩ := impl_Matrix_sums.mono_l k
 unfold impl_Matrix_sums.f
 repeat' first | with_reducible first | exact ih0 _ _ _ _ _ | exact ih1 _ _ _ _ _ _ _ _ _ | exact LeO.refl _ | exact LeO.none _ | refine LeO.ite ?_ ?_ | refine LeO.bind ?_ (fun _ => ?_)
def impl_Matrix_sums.T1 : Bool × List (List Nat × List Nat) := (true, [([], []), ([0], [0]), ([1, 1], [1]), ([], []), ([3, 1], [3]), ([4, 4], [4]), ([2, 4, 0, 1, 2], [2]), ([5, 6, 0, 1, 2, 3, 4, 5, 6], [5])])
def impl_Matrix_sums.B1 : List Nat := [0, 1, 3, 0, 11, 27, 31, 127]
theorem impl_Matrix_sums.tab1 : rtab .any (opsOf Tryd.f107 1) = impl_Matrix_sums.T1 := by kernel_rfl
theorem impl_Matrix_sums.bits1 : waitsOk impl_Matrix_sums.T1.2 impl_Matrix_sums.B1 = true := by kernel_rfl
set_option maxHeartbeats 8000000 in
set_option maxRecDepth 100000 in
theorem impl_Matrix_sums.calls (k : Nat) (A0_0 : Option Addr) (c0_0 : Nat) (l0_0 : List (List Int)) (r1 : List Int) (r2 : List Int) (w : World) (hr0_0 : Kd.C (Kd.slice 3 (Kd.int .i64)) w A0_0 l0_0.length l0_0) (hc0_0 : l0_0.length ≤ c0_0) (h : impl_Matrix_sums.f k l0_0 = some (r1, r2)) :
  Calls Tryd.prog 107 #[.agg #[.slice A0_0 l0_0.length c0_0]] w fun e w' => ∃ v0_ v1_ : Value, e = .returned (.tuple #[v0_, v1_]) ∧ Kd.R (Kd.int .i64) 3 w' w.heap.size (fun k_ => some k_ ≠ (v1_ : Value).ownBlock) v0_ r1 ∧ Kd.R (Kd.int .i64) 3 w' w.heap.size (fun k_ => some k_ ≠ (v0_ : Value).ownBlock) v1_ r2 ∧ Below w.heap.size w w' := by
 have hu28 := Tryd.underlying28
 have HR0_0 := aM hr0_0
 have HC0_0 := aM hc0_0
 clear hr0_0 hc0_0
 have HB := aM (Below.refl w.heap.size w)
 have H : ((impl_Matrix_size.f l0_0).bind fun t442 => (if 0 ≤ t442 then (if (t442 : Int).toNat ≤ 35184372088832 then ((impl_Matrix_size.f l0_0).bind fun t446 => (if 0 ≤ t446 then (if (t446 : Int).toNat ≤ 35184372088832 then (impl_Matrix_sums.l0 k (List.replicate (t442 : Int).toNat 0) (List.replicate (t446 : Int).toNat 0) l0_0 (l0_0.length : Int) 0) else (none)) else (none))) else (none)) else (none))) = some (r1, r2) := h
 clear h
 replace H := Option.bind_eq_some_iff.mp H
 obtain ⟨t442, A20, H⟩ := H
 replace H : (if 0 ≤ t442 then (if (t442 : Int).toNat ≤ 35184372088832 then ((impl_Matrix_size.f l0_0).bind fun t446 => (if 0 ≤ t446 then (if (t446 : Int).toNat ≤ 35184372088832 then (impl_Matrix_sums.l0 k (List.replicate (t442 : Int).toNat 0) (List.replicate (t446 : Int).toNat 0) l0_0 (l0_0.length : Int) 0) else (none)) else (none))) else (none)) else (none)) = some (r1, r2) := H
 have A2 := aM A20
 clear A20
 by_cases c3 : 0 ≤ t442
 ·rw [if_pos c3] at H
  have c3b0 := eq_true c3
  have c3b1 : decide (0 ≤ t442) = true := decide_eq_true c3
  clear c3
  by_cases c4 : (t442 : Int).toNat ≤ 35184372088832
  ·rw [if_pos c4] at H
   have c4b0 := eq_true c4
   have c4b1 : decide ((t442 : Int).toNat ≤ 35184372088832) = true := decide_eq_true c4
   clear c4
   obtain ⟨y443, hy443⟩ : ∃ y_ : List Int, y_ = (List.replicate (t442 : Int).toNat 0) := ⟨_, rfl⟩
   replace H : ((impl_Matrix_size.f l0_0).bind fun t446 => (if 0 ≤ t446 then (if (t446 : Int).toNat ≤ 35184372088832 then (impl_Matrix_sums.l0 k y443 (List.replicate (t446 : Int).toNat 0) l0_0 (l0_0.length : Int) 0) else (none)) else (none))) = some (r1, r2) := by first | (rw [hy443]; with_reducible exact H) | (have H2_ := (Option.bind_some _ _).symm.trans H; rw [hy443]; with_reducible exact H2_) | (have H2_ := (Option.bind_some _ _).symm.trans H; with_reducible exact H2_) | with_reducible exact H | (rw [hy443]; exact H) | exact H
   have Ny443 := aM hy443
   clear hy443
   replace H := Option.bind_eq_some_iff.mp H
   obtain ⟨t446, A50, H⟩ := H
   replace H : (if 0 ≤ t446 then (if (t446 : Int).toNat ≤ 35184372088832 then (impl_Matrix_sums.l0 k y443 (List.replicate (t446 : Int).toNat 0) l0_0 (l0_0.length : Int) 0) else (none)) else (none)) = some (r1, r2) := H
   have A5 := aM A50
   clear A50
   by_cases c6 : 0 ≤ t446
   ·rw [if_pos c6] at H
    have c6b0 := eq_true c6
    have c6b1 : decide (0 ≤ t446) = true := decide_eq_true c6
    clear c6
    by_cases c7 : (t446 : Int).toNat ≤ 35184372088832
    ·rw [if_pos c7] at H
     have c7b0 := eq_true c7
     have c7b1 : decide ((t446 : Int).toNat ≤ 35184372088832) = true := decide_eq_true c7
     clear c7
     obtain ⟨y447, hy447⟩ : ∃ y_ : List Int, y_ = (List.replicate (t446 : Int).toNat 0) := ⟨_, rfl⟩
     replace H : (impl_Matrix_sums.l0 k y443 y447 l0_0 (l0_0.length : Int) 0) = some (r1, r2) := by first | (rw [hy447]; with_reducible exact H) | (have H2_ := (Option.bind_some _ _).symm.trans H; rw [hy447]; with_reducible exact H2_) | (have H2_ := (Option.bind_some _ _).symm.trans H; with_reducible exact H2_) | with_reducible exact H | (rw [hy447]; exact H) | exact H
     have Ny447 := aM hy447
     clear hy447
     have H' := aM H
     clear H
     go_enter Tryd.func107, Tryd.ntmps107
     try go_wp2_with (first | ((with_reducible refine gate_dst (N := 1) rfl ?_); refine bE 1 28 #[.slice A0_0 l0_0.length c0_0] ?_; intro gb441 hg w8 hbox hb; have _ := aM (below_step bq hb); have _ := aM (hbox); have _ := aM ((gS hg)); have _ := aM ((gS hg)); clear HB; rename_i HB BK441 GW441 GE441; clear hb hbox hg))
     have n0_ := aM (blk_drew BK441.out)
     have n1_ := aM (below_drew1 HB.out)
     clear BK441
     clear HB
     have BK441 := n0_
     have HB := n1_
     clear n0_ n1_
     refine start_ (n := 8) (S := fun w' => w'.cell? ⟨gb441, 0, none⟩ = some (.slice A0_0 l0_0.length c0_0)) (ds := []) #[false, false, false, false, false, false, false, false] (by kernel_rfl) rfl rfl ((blk_cell BK441.out 0).trans rfl) (fun hHeld => ?_); refine with_tabW impl_Matrix_sums.tab1 impl_Matrix_sums.bits1 (fun HT_ HW_ => ?_)
     generalize w8.drew = w9 at BK441 HB hHeld ⊢
     refine take_ (i := 0) (N := some 10) (v := ?_) (a' := ?_) #[true, false, false, false, false, false, false, false] rfl rfl (take_ofW HT_.out HW_.out (by kernel_rfl)) (fun _ _ _ h => h) (Or.inl ⟨by rfl, ?_⟩) hHeld ?_ ?_
     rotate_left
     ·intro w' s0
      go_simp
      with_reducible rfl
     rotate_left
     ·simp only [Act.put, List.setIfInBounds_toArray, List.set_cons_zero, List.set_cons_succ, i64_w, i32_w]
      rfl
     refine take_ (i := 3) (N := some 13) (v := ?_) (a' := ?_) #[true, false, false, true, false, false, false, false] rfl rfl (take_ofW HT_.out HW_.out (by kernel_rfl)) (fun _ _ _ h => h) (Or.inl ⟨by rfl, ?_⟩) hHeld ?_ ?_
     rotate_left
     ·intro w' s0
      go_simp
      with_reducible rfl
     rotate_left
     ·simp only [Act.put, List.setIfInBounds_toArray, List.set_cons_zero, List.set_cons_succ, i64_w, i32_w]
      rfl
     refine one_ (i := 1) (N := some 11) #[true, true, false, true, false, false, false, false] rfl rfl (one_of HT_.out (by kernel_rfl)) (by decide) (fun K hK => ?_)
     refine goes_ Tryd.func72 (by kernel_rfl) rfl #[.agg #[.slice A0_0 l0_0.length c0_0]] (by rfl) rfl rfl (by (try simp only [List.map_toArray, List.map_cons, List.map_nil]); first | done | rfl | (simp only [List.length_drop, List.length_take]; rfl)) ?_
     with_reducible refine (impl_Matrix_size.calls _ _ l0_0 t442 _ ?side1 ?side2 A2.out).mono ?_
     (case side1 => repeat (first | exact (Kd.C_below HR0_0.out HB.out) | (with_reducible refine Kd.C_alloc ?_ _) | (with_reducible refine Kd.C_drewN ?_ _) | (with_reducible refine Kd.C_drew ?_)))
     (case side2 => exact HC0_0.out)
     rintro e w10 ⟨rfl, hb⟩
     refine ⟨_, rfl, ?_⟩
     have n0_ := aM (blk_below (g := gb441) (o := .cells #[.slice A0_0 l0_0.length c0_0] 28 (0, 0)) (qQ BK441) hb)
     have n1_ := aM (below_step bq hb)
     clear BK441
     clear HB
     have BK441 := n0_
     have HB := n1_
     clear n0_ n1_
     (try clear hb)
     (try clear hb2)
     (try clear hk)
     (try clear hi)
     refine hK.out _ _ ((blk_cell BK441.out 0).trans rfl) (fun hHeld => ?_)
     clear hK K
     refine norm_ (a' := ?_) ?_ ?_
     rotate_left
     ·show Act.put _ (some 11) _ = _
      simp only [Act.put, List.setIfInBounds_toArray, List.set_cons_zero, List.set_cons_succ, i64_w, i32_w]
      rfl
     refine join_ (σ := Value × Value) 1 #[true, true, true, true, true, true, true, false] (fun s_ => [(12, s_.1), (14, .int .i64 t446), (15, s_.2), (4, s_.1)]) (fun s_ w' => (w'.cell? ⟨gb441, 0, none⟩ = some (.slice A0_0 l0_0.length c0_0)) ∧ (Kd.R (Kd.int .i64) 3 w' w.heap.size (fun k_ => some k_ ≠ (s_.2 : Value).ownBlock) s_.1 y443) ∧ (Kd.R (Kd.int .i64) 3 w' w.heap.size (fun k_ => some k_ ≠ (s_.1 : Value).ownBlock) s_.2 y447) ∧ (w'.heap[gb441]? = some (.cells #[.slice A0_0 l0_0.length c0_0] 28 (0, 0))) ∧ (Below w.heap.size w w')) ?_ ?_
     rotate_left
     ·intro hCont
      refine two_ (i := 2) (j := 4) (Ni := some 12) (Nj := some 14) #[true, true, true, true, false, false, false, false] #[true, true, false, true, true, false, false, false] rfl rfl rfl rfl (two_of HT_.out (by kernel_rfl)) (by decide) (by decide) (fun K hK => ?_) (fun K hK => ?_)
      ·skip
       refine Kd.R_make_step (Kd.int .i64) _ 3 (by rfl) (N := 12) rfl 22 _ _ rfl t442 rfl rfl Tryd.underlying22 (.int .i64 0) 8 info3 rfl (by decide) (by omega) 0 (ok := fun _ => True) (okp := fun _ => True) rfl (fun _ hk => hk) trivial (odt) (Nat.le_trans (Nat.mul_le_mul_right _ (odt : t442.toNat ≤ 35184372088832)) (by omega)) (Below.refl _ _) (Nat.le_refl _) ?_
       intro v444 w11 ho12 hb hg_ hnew_
       clear hg_ hnew_
       (first | rw [← Ny443.out] at ho12 | (simp only [Int.reduceToNat] at ho12; rw [← Ny443.out] at ho12))
       have n0_ := aM (Kd.R_lower ho12 (below_size bq))
       have n1_ := aM (blk_below (g := gb441) (o := .cells #[.slice A0_0 l0_0.length c0_0] 28 (0, 0)) (qQ BK441) hb)
       have n2_ := aM (below_step bq hb)
       clear BK441
       clear HB
       have HO445 := n0_
       have BK441 := n1_
       have HB := n2_
       clear n0_ n1_ n2_
       clear hb ho12
       refine hK.out _ _ ((blk_cell BK441.out 0).trans rfl) (fun hHeld => ?_)
       clear hK K
       refine norm_ (a' := ?_) ?_ ?_
       rotate_left
       ·show Act.put _ (some 12) _ = _
        simp only [Act.put, List.setIfInBounds_toArray, List.set_cons_zero, List.set_cons_succ, i64_w, i32_w]
        rfl
       refine one_ (i := 4) (N := some 14) #[true, true, true, true, true, false, false, false] rfl rfl (one_of HT_.out (by kernel_rfl)) (by decide) (fun K hK => ?_)
       refine goes_ Tryd.func72 (by kernel_rfl) rfl #[.agg #[.slice A0_0 l0_0.length c0_0]] (by rfl) rfl rfl (by (try simp only [List.map_toArray, List.map_cons, List.map_nil]); first | done | rfl | (simp only [List.length_drop, List.length_take]; rfl)) ?_
       with_reducible refine (impl_Matrix_size.calls _ _ l0_0 t446 _ ?side1 ?side2 A5.out).mono ?_
       (case side1 => repeat (first | exact (Kd.C_below HR0_0.out HB.out) | (with_reducible refine Kd.C_alloc ?_ _) | (with_reducible refine Kd.C_drewN ?_ _) | (with_reducible refine Kd.C_drew ?_)))
       (case side2 => exact HC0_0.out)
       rintro e w13 ⟨rfl, hb⟩
       refine ⟨_, rfl, ?_⟩
       have n0_ := aM (Kd.R_below (rQ HO445) hb)
       have n1_ := aM (blk_below (g := gb441) (o := .cells #[.slice A0_0 l0_0.length c0_0] 28 (0, 0)) (qQ BK441) hb)
       have n2_ := aM (below_step bq hb)
       clear HO445
       clear BK441
       clear HB
       have HO445 := n0_
       have BK441 := n1_
       have HB := n2_
       clear n0_ n1_ n2_
       (try clear hb)
       (try clear hb2)
       (try clear hk)
       (try clear hi)
       refine hK.out _ _ ((blk_cell BK441.out 0).trans rfl) (fun hHeld => ?_)
       clear hK K
       refine norm_ (a' := ?_) ?_ ?_
       rotate_left
       ·show Act.put _ (some 14) _ = _
        simp only [Act.put, List.setIfInBounds_toArray, List.set_cons_zero, List.set_cons_succ, i64_w, i32_w]
        rfl
       refine pure_ (i := 6) (N := some 4) (v := ?_) (a' := ?_) #[true, true, true, true, true, false, true, false] rfl rfl (any_of HT_.out (by kernel_rfl)) (fun _ _ _ h => h) (Or.inl ⟨by rfl, ?_⟩) ?_ ?_
       rotate_left
       ·intro w'
        go_simp
        with_reducible rfl
       rotate_left
       ·simp only [Act.put, List.setIfInBounds_toArray, List.set_cons_zero, List.set_cons_succ, i64_w, i32_w]
        rfl
       refine one_ (i := 5) (N := some 15) #[true, true, true, true, true, true, true, false] rfl rfl (one_of HT_.out (by kernel_rfl)) (by decide) (fun K hK => ?_)
       refine Kd.R_make_step (Kd.int .i64) _ 3 (by rfl) (N := 15) rfl 22 _ _ rfl t446 rfl rfl Tryd.underlying22 (.int .i64 0) 8 info3 rfl (by decide) (by omega) 0 (ok := fun _ => True) (okp := fun _ => True) rfl (fun _ hk => hk) trivial (odt) (Nat.le_trans (Nat.mul_le_mul_right _ (odt : t446.toNat ≤ 35184372088832)) (by omega)) (Below.refl _ _) (Nat.le_refl _) ?_
       intro v448 w14 ho15 hb hg_ hnew_
       clear hg_ hnew_
       (first | rw [← Ny447.out] at ho15 | (simp only [Int.reduceToNat] at ho15; rw [← Ny447.out] at ho15))
       have n0_ := aM (Kd.R_elder' (rQ HO445) (Kd.R_base ho15) hb)
       have n1_ := aM (Kd.R_lower (Kd.R_new' ho15 (Kd.R_lt (rQ HO445))) (below_size bq))
       have n2_ := aM (blk_below (g := gb441) (o := .cells #[.slice A0_0 l0_0.length c0_0] 28 (0, 0)) (qQ BK441) hb)
       have n3_ := aM (below_step bq hb)
       clear HO445
       clear BK441
       clear HB
       have HO445 := n0_
       have HO449 := n1_
       have BK441 := n2_
       have HB := n3_
       clear n0_ n1_ n2_ n3_
       clear hb ho15
       refine hK.out _ _ ((blk_cell BK441.out 0).trans rfl) (fun hHeld => ?_)
       clear hK K
       refine norm_ (a' := ?_) ?_ ?_
       rotate_left
       ·show Act.put _ (some 15) _ = _
        simp only [Act.put, List.setIfInBounds_toArray, List.set_cons_zero, List.set_cons_succ, i64_w, i32_w]
        rfl
       exact norm_ (by simp only [putAll, Act.put, List.setIfInBounds_toArray, List.set_cons_zero, List.set_cons_succ]) (hCont (v444, v448) _ ⟨hHeld, (by (with_reducible repeat first|apply rA|apply rN|apply rD); exact Kd.R_mono HO445.out (fun _ hk => hk.2)), (by (with_reducible repeat first|apply rA|apply rN|apply rD); exact Kd.R_mono HO449.out (fun _ hk => hk.2)), (qQ BK441), bq⟩)
      ·skip
       refine goes_ Tryd.func72 (by kernel_rfl) rfl #[.agg #[.slice A0_0 l0_0.length c0_0]] (by rfl) rfl rfl (by (try simp only [List.map_toArray, List.map_cons, List.map_nil]); first | done | rfl | (simp only [List.length_drop, List.length_take]; rfl)) ?_
       with_reducible refine (impl_Matrix_size.calls _ _ l0_0 t446 _ ?side1 ?side2 A5.out).mono ?_
       (case side1 => repeat (first | exact (Kd.C_below HR0_0.out HB.out) | (with_reducible refine Kd.C_alloc ?_ _) | (with_reducible refine Kd.C_drewN ?_ _) | (with_reducible refine Kd.C_drew ?_)))
       (case side2 => exact HC0_0.out)
       rintro e w11 ⟨rfl, hb⟩
       refine ⟨_, rfl, ?_⟩
       have n0_ := aM (blk_below (g := gb441) (o := .cells #[.slice A0_0 l0_0.length c0_0] 28 (0, 0)) (qQ BK441) hb)
       have n1_ := aM (below_step bq hb)
       clear BK441
       clear HB
       have BK441 := n0_
       have HB := n1_
       clear n0_ n1_
       (try clear hb)
       (try clear hb2)
       (try clear hk)
       (try clear hi)
       refine hK.out _ _ ((blk_cell BK441.out 0).trans rfl) (fun hHeld => ?_)
       clear hK K
       refine norm_ (a' := ?_) ?_ ?_
       rotate_left
       ·show Act.put _ (some 14) _ = _
        simp only [Act.put, List.setIfInBounds_toArray, List.set_cons_zero, List.set_cons_succ, i64_w, i32_w]
        rfl
       refine two_ (i := 2) (j := 5) (Ni := some 12) (Nj := some 15) #[true, true, true, true, true, false, false, false] #[true, true, false, true, true, true, false, false] rfl rfl rfl rfl (two_of HT_.out (by kernel_rfl)) (by decide) (by decide) (fun K hK => ?_) (fun K hK => ?_)
       ·skip
        refine Kd.R_make_step (Kd.int .i64) _ 3 (by rfl) (N := 12) rfl 22 _ _ rfl t442 rfl rfl Tryd.underlying22 (.int .i64 0) 8 info3 rfl (by decide) (by omega) 0 (ok := fun _ => True) (okp := fun _ => True) rfl (fun _ hk => hk) trivial (odt) (Nat.le_trans (Nat.mul_le_mul_right _ (odt : t442.toNat ≤ 35184372088832)) (by omega)) (Below.refl _ _) (Nat.le_refl _) ?_
        intro v444 w12 ho13 hb hg_ hnew_
        clear hg_ hnew_
        (first | rw [← Ny443.out] at ho13 | (simp only [Int.reduceToNat] at ho13; rw [← Ny443.out] at ho13))
        have n0_ := aM (Kd.R_lower ho13 (below_size bq))
        have n1_ := aM (blk_below (g := gb441) (o := .cells #[.slice A0_0 l0_0.length c0_0] 28 (0, 0)) (qQ BK441) hb)
        have n2_ := aM (below_step bq hb)
        clear BK441
        clear HB
        have HO445 := n0_
        have BK441 := n1_
        have HB := n2_
        clear n0_ n1_ n2_
        clear hb ho13
        refine hK.out _ _ ((blk_cell BK441.out 0).trans rfl) (fun hHeld => ?_)
        clear hK K
        refine norm_ (a' := ?_) ?_ ?_
        rotate_left
        ·show Act.put _ (some 12) _ = _
         simp only [Act.put, List.setIfInBounds_toArray, List.set_cons_zero, List.set_cons_succ, i64_w, i32_w]
         rfl
        refine pure_ (i := 6) (N := some 4) (v := ?_) (a' := ?_) #[true, true, true, true, true, false, true, false] rfl rfl (any_of HT_.out (by kernel_rfl)) (fun _ _ _ h => h) (Or.inl ⟨by rfl, ?_⟩) ?_ ?_
        rotate_left
        ·intro w'
         go_simp
         with_reducible rfl
        rotate_left
        ·simp only [Act.put, List.setIfInBounds_toArray, List.set_cons_zero, List.set_cons_succ, i64_w, i32_w]
         rfl
        refine one_ (i := 5) (N := some 15) #[true, true, true, true, true, true, true, false] rfl rfl (one_of HT_.out (by kernel_rfl)) (by decide) (fun K hK => ?_)
        refine Kd.R_make_step (Kd.int .i64) _ 3 (by rfl) (N := 15) rfl 22 _ _ rfl t446 rfl rfl Tryd.underlying22 (.int .i64 0) 8 info3 rfl (by decide) (by omega) 0 (ok := fun _ => True) (okp := fun _ => True) rfl (fun _ hk => hk) trivial (odt) (Nat.le_trans (Nat.mul_le_mul_right _ (odt : t446.toNat ≤ 35184372088832)) (by omega)) (Below.refl _ _) (Nat.le_refl _) ?_
        intro v448 w14 ho15 hb hg_ hnew_
        clear hg_ hnew_
        (first | rw [← Ny447.out] at ho15 | (simp only [Int.reduceToNat] at ho15; rw [← Ny447.out] at ho15))
        have n0_ := aM (Kd.R_elder' (rQ HO445) (Kd.R_base ho15) hb)
        have n1_ := aM (Kd.R_lower (Kd.R_new' ho15 (Kd.R_lt (rQ HO445))) (below_size bq))
        have n2_ := aM (blk_below (g := gb441) (o := .cells #[.slice A0_0 l0_0.length c0_0] 28 (0, 0)) (qQ BK441) hb)
        have n3_ := aM (below_step bq hb)
        clear HO445
        clear BK441
        clear HB
        have HO445 := n0_
        have HO449 := n1_
        have BK441 := n2_
        have HB := n3_
        clear n0_ n1_ n2_ n3_
        clear hb ho15
        refine hK.out _ _ ((blk_cell BK441.out 0).trans rfl) (fun hHeld => ?_)
        clear hK K
        refine norm_ (a' := ?_) ?_ ?_
        rotate_left
        ·show Act.put _ (some 15) _ = _
         simp only [Act.put, List.setIfInBounds_toArray, List.set_cons_zero, List.set_cons_succ, i64_w, i32_w]
         rfl
        exact norm_ (by simp only [putAll, Act.put, List.setIfInBounds_toArray, List.set_cons_zero, List.set_cons_succ]) (hCont (v444, v448) _ ⟨hHeld, (by (with_reducible repeat first|apply rA|apply rN|apply rD); exact Kd.R_mono HO445.out (fun _ hk => hk.2)), (by (with_reducible repeat first|apply rA|apply rN|apply rD); exact Kd.R_mono HO449.out (fun _ hk => hk.2)), (qQ BK441), bq⟩)
       ·skip
        refine Kd.R_make_step (Kd.int .i64) _ 3 (by rfl) (N := 15) rfl 22 _ _ rfl t446 rfl rfl Tryd.underlying22 (.int .i64 0) 8 info3 rfl (by decide) (by omega) 0 (ok := fun _ => True) (okp := fun _ => True) rfl (fun _ hk => hk) trivial (odt) (Nat.le_trans (Nat.mul_le_mul_right _ (odt : t446.toNat ≤ 35184372088832)) (by omega)) (Below.refl _ _) (Nat.le_refl _) ?_
        intro v448 w12 ho13 hb hg_ hnew_
        clear hg_ hnew_
        (first | rw [← Ny447.out] at ho13 | (simp only [Int.reduceToNat] at ho13; rw [← Ny447.out] at ho13))
        have n0_ := aM (Kd.R_lower ho13 (below_size bq))
        have n1_ := aM (blk_below (g := gb441) (o := .cells #[.slice A0_0 l0_0.length c0_0] 28 (0, 0)) (qQ BK441) hb)
        have n2_ := aM (below_step bq hb)
        clear BK441
        clear HB
        have HO449 := n0_
        have BK441 := n1_
        have HB := n2_
        clear n0_ n1_ n2_
        clear hb ho13
        refine hK.out _ _ ((blk_cell BK441.out 0).trans rfl) (fun hHeld => ?_)
        clear hK K
        refine norm_ (a' := ?_) ?_ ?_
        rotate_left
        ·show Act.put _ (some 15) _ = _
         simp only [Act.put, List.setIfInBounds_toArray, List.set_cons_zero, List.set_cons_succ, i64_w, i32_w]
         rfl
        refine one_ (i := 2) (N := some 12) #[true, true, true, true, true, true, false, false] rfl rfl (one_of HT_.out (by kernel_rfl)) (by decide) (fun K hK => ?_)
        refine Kd.R_make_step (Kd.int .i64) _ 3 (by rfl) (N := 12) rfl 22 _ _ rfl t442 rfl rfl Tryd.underlying22 (.int .i64 0) 8 info3 rfl (by decide) (by omega) 0 (ok := fun _ => True) (okp := fun _ => True) rfl (fun _ hk => hk) trivial (odt) (Nat.le_trans (Nat.mul_le_mul_right _ (odt : t442.toNat ≤ 35184372088832)) (by omega)) (Below.refl _ _) (Nat.le_refl _) ?_
        intro v444 w14 ho15 hb hg_ hnew_
        clear hg_ hnew_
        (first | rw [← Ny443.out] at ho15 | (simp only [Int.reduceToNat] at ho15; rw [← Ny443.out] at ho15))
        have n0_ := aM (Kd.R_elder' (rQ HO449) (Kd.R_base ho15) hb)
        have n1_ := aM (Kd.R_lower (Kd.R_new' ho15 (Kd.R_lt (rQ HO449))) (below_size bq))
        have n2_ := aM (blk_below (g := gb441) (o := .cells #[.slice A0_0 l0_0.length c0_0] 28 (0, 0)) (qQ BK441) hb)
        have n3_ := aM (below_step bq hb)
        clear HO449
        clear BK441
        clear HB
        have HO449 := n0_
        have HO445 := n1_
        have BK441 := n2_
        have HB := n3_
        clear n0_ n1_ n2_ n3_
        clear hb ho15
        refine hK.out _ _ ((blk_cell BK441.out 0).trans rfl) (fun hHeld => ?_)
        clear hK K
        refine norm_ (a' := ?_) ?_ ?_
        rotate_left
        ·show Act.put _ (some 12) _ = _
         simp only [Act.put, List.setIfInBounds_toArray, List.set_cons_zero, List.set_cons_succ, i64_w, i32_w]
         rfl
        refine pure_ (i := 6) (N := some 4) (v := ?_) (a' := ?_) #[true, true, true, true, true, true, true, false] rfl rfl (any_of HT_.out (by kernel_rfl)) (fun _ _ _ h => h) (Or.inl ⟨by rfl, ?_⟩) ?_ ?_
        rotate_left
        ·intro w'
         go_simp
         with_reducible rfl
        rotate_left
        ·simp only [Act.put, List.setIfInBounds_toArray, List.set_cons_zero, List.set_cons_succ, i64_w, i32_w]
         rfl
        exact norm_ (by simp only [putAll, Act.put, List.setIfInBounds_toArray, List.set_cons_zero, List.set_cons_succ]) (hCont (v444, v448) _ ⟨hHeld, (by (with_reducible repeat first|apply rA|apply rN|apply rD); exact Kd.R_mono HO445.out (fun _ hk => hk.2)), (by (with_reducible repeat first|apply rA|apply rN|apply rD); exact Kd.R_mono HO449.out (fun _ hk => hk.2)), (qQ BK441), bq⟩)
     rintro ⟨v444, v448⟩ w16 ⟨hS_, h0_, h1_, h2_, h3_⟩
     have n0_ : Aside0 (Kd.R (Kd.int .i64) 3 w16 w.heap.size (fun k_ => some k_ ≠ (v448 : Value).ownBlock) v444 y443) := ⟨h0_⟩
     have n1_ : Aside0 (Kd.R (Kd.int .i64) 3 w16 w.heap.size (fun k_ => some k_ ≠ (v444 : Value).ownBlock) v448 y447) := ⟨h1_⟩
     have n2_ : Aside0 (w16.heap[gb441]? = some (.cells #[.slice A0_0 l0_0.length c0_0] 28 (0, 0))) := ⟨h2_⟩
     have n3_ : Aside0 (Below w.heap.size w w16) := ⟨h3_⟩
     clear BK441
     clear HB
     clear h0_ h1_ h2_ h3_
     have HO445 := n0_
     have HO449 := n1_
     have BK441 := n2_
     have HB := n3_
     clear n0_ n1_ n2_ n3_
     have hHeld : w16.cell? ⟨gb441, 0, none⟩ = some (.slice A0_0 l0_0.length c0_0) := hS_
     refine norm_ (a' := ?_) ?_ ?_
     rotate_left
     ·simp only [putAll, Act.put, List.setIfInBounds_toArray, List.set_cons_zero, List.set_cons_succ]
      rfl
     refine pure_ (i := 7) (N := some 5) (v := ?_) (a' := ?_) #[true, true, true, true, true, true, true, true] rfl rfl (any_of HT_.out (by kernel_rfl)) (fun _ _ _ h => h) (Or.inl ⟨by rfl, ?_⟩) ?_ ?_
     rotate_left
     ·intro w'
      go_simp
      with_reducible rfl
     rotate_left
     ·simp only [Act.put, List.setIfInBounds_toArray, List.set_cons_zero, List.set_cons_succ, i64_w, i32_w]
      rfl
     refine done_ (done_of HT_.out (by kernel_rfl)) ?_
     have hcz17_0 : w16.cell? ⟨gb441, 0, none⟩ = some (.slice A0_0 l0_0.length c0_0) := (blk_cell BK441.out 0).trans rfl
     have hfz17_0 := blk_frozen BK441.out 0
     try go_wp2
     go_loopg [19] k (fun kq v19 w' => ∃ (x4_1 : List Int) (x5_1 : List Int) (x19_1 : Int), v19 = .int .i64 x19_1 ∧ Aside0 (impl_Matrix_sums.l0 kq x4_1 x5_1 l0_0 (l0_0.length : Int) x19_1 = some (r1, r2)) ∧ Aside0 (kq ≤ k) ∧ Aside0 (Kd.R (Kd.int .i64) 3 w' w.heap.size (fun k_ => some k_ ≠ (v448 : Value).ownBlock) v444 x4_1) ∧ Aside0 (Kd.R (Kd.int .i64) 3 w' w.heap.size (fun k_ => some k_ ≠ (v444 : Value).ownBlock) v448 x5_1) ∧ Aside0 (w'.heap[gb441]? = some (.cells #[(.slice A0_0 l0_0.length c0_0)] 28 (0, 0))) ∧ Aside0 (Below w.heap.size w w'))
     case atStart => exact ⟨(y443), (y447), (0), (by first | rfl | (simp; done) | (simp [*]; done)), H', ⟨Nat.le_refl _⟩, ⟨by (with_reducible repeat first|apply rA|apply rN|apply rD); exact HO445.out⟩, ⟨by (with_reducible repeat first|apply rA|apply rN|apply rD); exact HO449.out⟩, ⟨by (with_reducible repeat first|apply qN|apply qD|apply qA); exact BK441.out⟩, ⟨by exact bq⟩⟩
     case round =>
      clear H'
      try clear c1
      try clear p2
      try clear c3
      try clear c3b0
      try clear c3b1
      try clear c4
      try clear c4b0
      try clear c4b1
      try clear c6
      try clear c6b0
      try clear c6b1
      try clear c7
      try clear c7b0
      try clear c7b1
      try clear c10
      try clear hcz17_0
      try clear hfz17_0
      obtain ⟨x4_1, x5_1, x19_1, rfl, HA, HK1, HO_4, HO_5, BK441, HB⟩ := hrel
      cases gk with
      | zero => exact absurd HA.out (by simp [impl_Matrix_sums.l0])
      | succ k1 =>
       have H := HA.out
       clear HA
       simp only [impl_Matrix_sums.l0] at H
       by_cases c18 : x19_1 < (l0_0.length : Int)
       ·rw [if_pos c18] at H
        have c18b0 : decide (x19_1 < (l0_0.length : Int)) = true := decide_eq_true c18
        clear c18
        by_cases c19 : 0 ≤ x19_1
        ·rw [if_pos c19] at H
         have c19b0 : decide (0 ≤ x19_1) = true := decide_eq_true c19
         clear c19
         by_cases c20 : x19_1 < (l0_0.length : Int)
         ·rw [if_pos c20] at H
          have c20b0 : decide (x19_1 < (l0_0.length : Int)) = true := decide_eq_true c20
          clear c20
          have H' := aM H
          clear H
          have p450 : 0 ≤ (x19_1 : Int) := odt
          have q450 : x19_1 < (l0_0.length : Int) := odt
          obtain ⟨ad450, A450_0, c450_0, e450, hx450_0, hl450_0, hi450_0⟩ := at_L2 HR0_0.out x19_1 p450 q450
          cases e450
          replace hx450_0 := (HB.out.cell (World.block_lt_of_cell? w _ hx450_0)).trans hx450_0
          have HR450_0 := aM hi450_0
          have HC450_0 := aM hl450_0
          clear hi450_0 hl450_0
          replace p450 := eq_true p450
          replace q450 := eq_true q450
          go_wp2
          go_loopg [26] k1 (fun kq v26 w' => ∃ (x4_2 : List Int) (x5_2 : List Int) (x26_2 : Int), v26 = .int .i64 x26_2 ∧ Aside0 (impl_Matrix_sums.l1 kq x4_2 x5_2 x19_1 l0_0 (l0_0.length : Int) x19_1 (rd_L2 l0_0 x19_1) ((rd_L2 l0_0 x19_1).length : Int) x26_2 = some (r1, r2)) ∧ Aside0 (kq ≤ k1) ∧ Aside0 (Kd.R (Kd.int .i64) 3 w' w.heap.size (fun k_ => some k_ ≠ (v448 : Value).ownBlock) v444 x4_2) ∧ Aside0 (Kd.R (Kd.int .i64) 3 w' w.heap.size (fun k_ => some k_ ≠ (v444 : Value).ownBlock) v448 x5_2) ∧ Aside0 (w'.heap[gb441]? = some (.cells #[(.slice (some ad450) l0_0.length c0_0)] 28 (0, 0))) ∧ Aside0 (Below w.heap.size w w'))
          case atStart => exact ⟨(x4_1), (x5_1), (0), (by first | rfl | (simp; done) | (simp [*]; done)), H', ⟨Nat.le_refl _⟩, ⟨by (with_reducible repeat first|apply rA|apply rN|apply rD); exact HO_4.out⟩, ⟨by (with_reducible repeat first|apply rA|apply rN|apply rD); exact HO_5.out⟩, ⟨by (with_reducible repeat first|apply qN|apply qD|apply qA); exact BK441.out⟩, ⟨by exact bq⟩⟩
          case round =>
           clear H'
           try clear c1
           try clear c2
           try clear p2
           try clear c3
           try clear c3b0
           try clear c3b1
           try clear c4
           try clear c4b0
           try clear c4b1
           try clear p4
           try clear q4
           try clear hx4
           try clear c6
           try clear c6b0
           try clear c6b1
           try clear c7
           try clear c7b0
           try clear c7b1
           try clear c10
           try clear c18
           try clear c18b0
           try clear c19
           try clear c19b0
           try clear c20
           try clear c20b0
           try clear hcz17_0
           try clear hfz17_0
           try clear hx450_0
           try clear p2
           try clear p450
           try clear q450
           obtain ⟨x4_2, x5_2, x26_2, rfl, HA, HK2, HO_4, HO_5, BK441, HB⟩ := hrel
           cases gk with
           | zero => exact absurd HA.out (by simp [impl_Matrix_sums.l1])
           | succ k2 =>
            have H := HA.out
            clear HA
            simp only [impl_Matrix_sums.l1] at H
            by_cases c21 : x26_2 < ((rd_L2 l0_0 x19_1).length : Int)
            ·rw [if_pos c21] at H
             have c21b0 : decide (x26_2 < ((rd_L2 l0_0 x19_1).length : Int)) = true := decide_eq_true c21
             clear c21
             by_cases c22 : 0 ≤ x26_2
             ·rw [if_pos c22] at H
              have c22b0 : decide (0 ≤ x26_2) = true := decide_eq_true c22
              clear c22
              by_cases c23 : x26_2 < ((rd_L2 l0_0 x19_1).length : Int)
              ·rw [if_pos c23] at H
               have c23b0 : decide (x26_2 < ((rd_L2 l0_0 x19_1).length : Int)) = true := decide_eq_true c23
               clear c23
               by_cases c24 : 0 ≤ x19_1
               ·rw [if_pos c24] at H
                have c24b0 : decide (0 ≤ x19_1) = true := decide_eq_true c24
                clear c24
                by_cases c25 : x19_1 < (x4_2.length : Int)
                ·rw [if_pos c25] at H
                 have c25b0 : decide (x19_1 < (x4_2.length : Int)) = true := decide_eq_true c25
                 clear c25
                 obtain ⟨y453, hy453⟩ : ∃ y_ : List Int, y_ = (x4_2.set (x19_1 : Int).toNat (wrap64 ((rd x4_2 x19_1) + (rd (rd_L2 l0_0 x19_1) x26_2)))) := ⟨_, rfl⟩
                 replace H : (if x26_2 < (x5_2.length : Int) then (impl_Matrix_sums.l1 k2 y453 (x5_2.set (x26_2 : Int).toNat (wrap64 ((rd x5_2 x26_2) + (rd (rd_L2 l0_0 x19_1) x26_2)))) x19_1 l0_0 (l0_0.length : Int) x19_1 (rd_L2 l0_0 x19_1) ((rd_L2 l0_0 x19_1).length : Int) (wrap64 (x26_2 + 1))) else (none)) = some (r1, r2) := by first | (rw [hy453]; with_reducible exact H) | (have H2_ := (Option.bind_some _ _).symm.trans H; rw [hy453]; with_reducible exact H2_) | (have H2_ := (Option.bind_some _ _).symm.trans H; with_reducible exact H2_) | with_reducible exact H | (rw [hy453]; exact H) | exact H
                 have Ny453 := aM hy453
                 clear hy453
                 by_cases c27 : x26_2 < (x5_2.length : Int)
                 ·rw [if_pos c27] at H
                  have c27b0 : decide (x26_2 < (x5_2.length : Int)) = true := decide_eq_true c27
                  clear c27
                  obtain ⟨y455, hy455⟩ : ∃ y_ : List Int, y_ = (x5_2.set (x26_2 : Int).toNat (wrap64 ((rd x5_2 x26_2) + (rd (rd_L2 l0_0 x19_1) x26_2)))) := ⟨_, rfl⟩
                  replace H : (impl_Matrix_sums.l1 k2 y453 y455 x19_1 l0_0 (l0_0.length : Int) x19_1 (rd_L2 l0_0 x19_1) ((rd_L2 l0_0 x19_1).length : Int) (wrap64 (x26_2 + 1))) = some (r1, r2) := by first | (rw [hy455]; with_reducible exact H) | (have H2_ := (Option.bind_some _ _).symm.trans H; rw [hy455]; with_reducible exact H2_) | (have H2_ := (Option.bind_some _ _).symm.trans H; with_reducible exact H2_) | with_reducible exact H | (rw [hy455]; exact H) | exact H
                  have Ny455 := aM hy455
                  clear hy455
                  have H' := aM H
                  clear H
                  have p451 : 0 ≤ (x26_2 : Int) := odt
                  have q451 : x26_2 < ((rd_L2 l0_0 x19_1).length : Int) := odt
                  obtain ⟨ad451, e451, hx451_0⟩ := Kd.at_int HR450_0.out x26_2 p451 q451
                  cases e451
                  replace hx451_0 := (HB.out.cell (World.block_lt_of_cell? w _ hx451_0)).trans hx451_0
                  replace p451 := eq_true p451
                  replace q451 := eq_true q451
                  obtain ⟨Ao29, co29, eo29⟩ := Kd.R_slice HO_4.out
                  subst eo29
                  have p452 : 0 ≤ (x19_1 : Int) := odt
                  have q452 : x19_1 < (x4_2.length : Int) := odt
                  obtain ⟨ad452, e452, hx452_0⟩ := Kd.at_int (Kd.R_reads' HO_4.out).2.2 x19_1 p452 q452
                  cases e452
                  replace p452 := eq_true p452
                  replace q452 := eq_true q452
                  have p26 : 0 ≤ (x19_1 : Int) := odt
                  have q26 : (x19_1 : Int) < ((x4_2.length : Int) : Int) := odt
                  obtain ⟨go26, co26, eo26, gb26, gl26, cl26, HG26⟩ := Kd.R_form HO_4.out (by omega)
                  (first | cases eo26 | (injection eo26 with ea_ en_ ec_; (first | subst ea_ | (injection ea_ with ea_; subst ea_)); subst ec_; clear en_))
                  have GB26 := aM gb26
                  have GG26 := aM HG26
                  clear gb26 gl26 HG26
                  (first | simp only [add_plain] at hx452_0 | skip)
                  obtain ⟨hx26_0, hf26_0⟩ := Kd.R_celln 0 HO_4.out (x19_1 : Int) p26 q26
                  replace p26 := eq_true p26
                  replace q26 := eq_true q26
                  have HP30 := Kd.R_putg HO_4.out (x19_1 : Int) (wrap64 ((rd x4_2 x19_1) + (rd (rd_L2 l0_0 x19_1) x26_2)))
                  go_wp2_with (first | ((with_reducible refine gate_store (t := 3) (p := 37) rfl ?_); refine sE (wr.setCell ⟨go26, (x19_1 : Int).toNat, none⟩ (.int .i64 (wrap64 ((rd x4_2 x19_1) + (rd (rd_L2 l0_0 x19_1) x26_2))))) 3 37 ?_; intro w31 hw; have hg : wr.grownBy w31 (some go26) := (by rw [hw]; exact HP30.2); have hp_ : Kd.R (Kd.int .i64) 3 w31 w.heap.size (fun k_ => some k_ ≠ (v448 : Value).ownBlock) (.slice (some ⟨go26, 0, none⟩) x4_2.length co29) y453 := (by rw [hw, Ny453.out]; exact HP30.1); clear HP30; have _ := aM (hp_); have _ := aM (Kd.R_after (v := (.slice (some ⟨go26, 0, none⟩) x4_2.length co29)) (v1 := (.slice (some ⟨go26, 0, none⟩) x4_2.length co29)) (ok := (fun _ => True)) (by (with_reducible repeat first|apply rA|apply rN|apply rD); exact Kd.R_mono HO_5.out (fun _ hk => ⟨trivial, hk⟩)) hg (.inl rfl)); have _ := aM (blk_grown (g := gb441) (o := .cells #[.slice (some ad450) l0_0.length c0_0] 28 (0, 0)) (qQ BK441) hg (Kd.R_ne HO_4.out BK441.out (by decide))); have _ := aM ((by rw [hw]; exact below_set (HB.out) GB26.out : Below w.heap.size w w31)); clear HO_4 HO_5 BK441 HB; rename_i HO_4 HO_5 BK441 HB; clear hg hw hp_; obtain ⟨Ao32, co32, eo32⟩ := Kd.R_slice HO_5.out; subst eo32; have p454 : 0 ≤ (x26_2 : Int) := odt; have q454 : x26_2 < (x5_2.length : Int) := odt; obtain ⟨ad454, e454, hx454_0⟩ := Kd.at_int (Kd.R_reads' HO_5.out).2.2 x26_2 p454 q454; cases e454; replace p454 := eq_true p454; replace q454 := eq_true q454; have p28 : 0 ≤ (x26_2 : Int) := odt; have q28 : (x26_2 : Int) < ((x5_2.length : Int) : Int) := odt; obtain ⟨go28, co28, eo28, gb28, gl28, cl28, HG28⟩ := Kd.R_form HO_5.out (by omega); (first | cases eo28 | (injection eo28 with ea_ en_ ec_; (first | subst ea_ | (injection ea_ with ea_; subst ea_)); subst ec_; clear en_)); have GB28 := aM gb28; have GG28 := aM HG28; clear gb28 gl28 HG28; (first | simp only [add_plain] at hx454_0 | skip); obtain ⟨hx28_0, hf28_0⟩ := Kd.R_celln 0 HO_5.out (x26_2 : Int) p28 q28; replace p28 := eq_true p28; replace q28 := eq_true q28; have n_ := aM (Kd.R_mono (ok' := (fun k_ => some k_ ≠ (.slice (some ⟨go26, 0, none⟩) x4_2.length co29 : Value).ownBlock)) HO_5.out (fun k_ hk => hk.2)); clear HO_5; have HO_5 := n_; clear n_; obtain ⟨hy33_, hz33_⟩ := Kd.R_celln 0 HO_5.out (x26_2 : Int) (odt) (odt); have HP33 := Kd.R_putg HO_5.out (x26_2 : Int) (wrap64 ((rd x5_2 x26_2) + (rd (rd_L2 l0_0 x19_1) x26_2)))) | ((with_reducible refine gate_store (t := 3) (p := 44) rfl ?_); refine sE (w31.setCell ⟨go28, (x26_2 : Int).toNat, none⟩ (.int .i64 (wrap64 ((rd x5_2 x26_2) + (rd (rd_L2 l0_0 x19_1) x26_2))))) 3 44 ?_; intro w34 hw; have hg : w31.grownBy w34 (some go28) := (by rw [hw]; exact HP33.2); have hp_ : Kd.R (Kd.int .i64) 3 w34 w.heap.size (fun k_ => some k_ ≠ (.slice (some ⟨go26, 0, none⟩) x4_2.length co29 : Value).ownBlock) (.slice (some ⟨go28, 0, none⟩) x5_2.length co32) y455 := (by rw [hw, Ny455.out]; exact HP33.1); clear HP33; have _ := aM (Kd.R_after (v := (.slice (some ⟨go28, 0, none⟩) x5_2.length co32)) (v1 := (.slice (some ⟨go28, 0, none⟩) x5_2.length co32)) (ok := (fun _ => True)) (by (with_reducible repeat first|apply rA|apply rN|apply rD); exact Kd.R_mono HO_4.out (fun _ hk => ⟨trivial, hk⟩)) hg (.inl rfl)); have _ := aM (hp_); have _ := aM (blk_grown (g := gb441) (o := .cells #[.slice (some ad450) l0_0.length c0_0] 28 (0, 0)) (qQ BK441) hg (Kd.R_ne HO_5.out BK441.out (by decide))); have _ := aM ((by rw [hw]; exact below_set (HB.out) GB28.out : Below w.heap.size w w34)); clear HO_4 HO_5 BK441 HB; rename_i HO_4 HO_5 BK441 HB; clear hg hw hp_))
                  go_roundg k2
                  case measure => have := HK1.out; have := HK2.out; omega
                  case rel => exact ⟨(y453), (y455), (wrap64 (x26_2 + 1)), (by first | rfl | (simp; done) | (simp [*]; done)), H', ⟨by have := HK1.out; have := HK2.out; omega⟩, ⟨by (with_reducible repeat first|apply rA|apply rN|apply rD); exact Kd.R_mono HO_4.out (fun _ hk => hk.2)⟩, ⟨by (with_reducible repeat first|apply rA|apply rN|apply rD); exact HO_5.out⟩, ⟨by (with_reducible repeat first|apply qN|apply qD|apply qA); exact BK441.out⟩, ⟨by exact bq⟩⟩
                 ·rw [if_neg c27] at H
                  exact absurd H (by simp)
                ·rw [if_neg c25] at H
                 exact absurd H (by simp)
               ·rw [if_neg c24] at H
                exact absurd H (by simp)
              ·rw [if_neg c23] at H
               exact absurd H (by simp)
             ·rw [if_neg c22] at H
              exact absurd H (by simp)
            ·rw [if_neg c21] at H
             have c21b0 : decide (x26_2 < ((rd_L2 l0_0 x19_1).length : Int)) = false := decide_eq_false c21
             clear c21
             have H' := aM H
             clear H
             go_wp2
             go_roundg k2
             case measure => have := HK1.out; have := HK2.out; omega
             case rel => exact ⟨(x4_2), (x5_2), (wrap64 (x19_1 + 1)), (by first | rfl | (simp; done) | (simp [*]; done)), H', ⟨by have := HK1.out; have := HK2.out; omega⟩, ⟨by (with_reducible repeat first|apply rA|apply rN|apply rD); exact HO_4.out⟩, ⟨by (with_reducible repeat first|apply rA|apply rN|apply rD); exact HO_5.out⟩, ⟨by (with_reducible repeat first|apply qN|apply qD|apply qA); exact BK441.out⟩, ⟨by exact bq⟩⟩
         ·rw [if_neg c20] at H
          exact absurd H (by simp)
        ·rw [if_neg c19] at H
         exact absurd H (by simp)
       ·rw [if_neg c18] at H
        have c18b0 : decide (x19_1 < (l0_0.length : Int)) = false := decide_eq_false c18
        clear c18
        simp only [Option.some.injEq, Prod.mk.injEq] at H
        obtain ⟨rfl, rfl⟩ := H
        go_wp2
        go_ret2
        exact ⟨_, _, by first | rfl | (simp [errW_none, errW_some] <;> rfl) | (simp [*, errW_none, errW_some] <;> rfl), by (with_reducible repeat first|apply rA|apply rN|apply rD); exact HO_4.out, by (with_reducible repeat first|apply rA|apply rN|apply rD); exact HO_5.out, by exact bq⟩
    ·rw [if_neg c7] at H
     exact absurd H (by simp)
   ·rw [if_neg c6] at H
    exact absurd H (by simp)
  ·rw [if_neg c4] at H
   exact absurd H (by simp)
 ·rw [if_neg c3] at H
  exact absurd H (by simp)

end Go.Proofs.YtcodionjhcmfhaaDoor.Ao
