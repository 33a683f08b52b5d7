-- Written by hook.py, a program of this session (wip/), which runs the kit's print.py with its own parts; Lean checks it.
import Derived.Test.YtcodionjhcmfhaaDoorBe0
import Derived.Test.YtcodionjhcmfhaaDoorBe8
import Derived.Test.YtcodionjhcmfhaaDoorBeXSq
namespace Go.Proofs.YtcodionjhcmfhaaDoor.Be
open Go.RowKit Go.Proofs.YtcodionjhcmfhaaDoorW.PrintWords Go.Proofs.YtcodionjhcmfhaaDoorW.PrintLast Go.Proofs.YtcodionjhcmfhaaDoorW.PrintMore Go.Proofs.YtcodionjhcmfhaaDoor.Sq
attribute [local go_sem] max2_int min2_int max_two min_two max_three min_three max_four min_four   -- for this text's walks alone
set_option linter.unusedVariables false
set_option linter.unusedSimpArgs false

mutual
def impl_Matrix_sums.l0 : Nat → List Int → List Int → List (List Int) → Int → Int → Option (List Int × List Int)
 | 0, _, _, _, _, _ => none
 | k + 1, x4, x5, x17, x18, x19 => if x19 < x18 then (if 0 ≤ x19 then (if x19 < (x17.length : Int) then (impl_Matrix_sums.l1 k x4 x5 x19 x17 x18 x19 (rd_L2 x17 x19) ((rd_L2 x17 x19).length : Int) 0) else (none)) else (none)) else (some (x4, x5))
def impl_Matrix_sums.l1 : Nat → List Int → List Int → Int → List (List Int) → Int → Int → List Int → Int → Int → Option (List Int × List Int)
 | 0, _, _, _, _, _, _, _, _, _ => none
 | k + 1, x4, x5, x6, x17, x18, x19, x24, x25, x26 => if x26 < x25 then (if 0 ≤ x26 then (if x26 < (x24.length : Int) then (if 0 ≤ x6 then (if x6 < (x4.length : Int) then (if x26 < (x5.length : Int) then (impl_Matrix_sums.l1 k (x4.set (x6 : Int).toNat (wrap64 ((rd x4 x6) + (rd x24 x26)))) (x5.set (x26 : Int).toNat (wrap64 ((rd x5 x26) + (rd x24 x26)))) x6 x17 x18 x19 x24 x25 (wrap64 (x26 + 1))) else (none)) else (none)) else (none)) else (none)) else (none)) else (impl_Matrix_sums.l0 k x4 x5 x17 x18 (wrap64 (x19 + 1)))
end
def impl_Matrix_sums.f (k : Nat) (l0_0 : List (List Int)) : Option (List Int × List Int) := (impl_Matrix_size.f l0_0).bind fun t201 => (if 0 ≤ t201 then (if (t201 : Int).toNat ≤ 35184372088832 then ((impl_Matrix_size.f l0_0).bind fun t205 => (if 0 ≤ t205 then (if (t205 : Int).toNat ≤ 35184372088832 then (impl_Matrix_sums.l0 k (List.replicate (t201 : Int).toNat 0) (List.replicate (t205 : Int).toNat 0) l0_0 (l0_0.length : Int) 0) else (none)) else (none))) else (none)) else (none))
def impl_Matrix_sums.T1 : Bool × List (List Nat × List Nat) := (true, [([], []), ([0], [0]), ([1, 1], [1]), ([], []), ([3, 1], [3]), ([4, 4], [4]), ([2, 4, 0, 1, 2], [2]), ([5, 6, 0, 1, 2, 3, 4, 5, 6], [5])])
def impl_Matrix_sums.B1 : List Nat := [0, 1, 3, 0, 11, 27, 31, 127]
theorem impl_Matrix_sums.tab1 : rtab .any (opsOf Tryd.f107 1) = impl_Matrix_sums.T1 := by kernel_rfl
theorem impl_Matrix_sums.bits1 : waitsOk impl_Matrix_sums.T1.2 impl_Matrix_sums.B1 = true := by kernel_rfl
set_option maxHeartbeats 8000000 in
set_option maxRecDepth 100000 in
theorem impl_Matrix_sums.calls (k : Nat) (A0_0 : Option Addr) (c0_0 : Nat) (l0_0 : List (List Int)) (r1 : List Int) (r2 : List Int) (w : World) (hr0_0 : Kd.C (Kd.slice 3 (Kd.int .i64)) w A0_0 l0_0.length l0_0) (hc0_0 : l0_0.length ≤ c0_0) (h : impl_Matrix_sums.f k l0_0 = some (r1, r2)) :
  Calls Tryd.prog 107 #[.agg #[.slice A0_0 l0_0.length c0_0]] w fun e w' => ∃ v0_ v1_ : Value, e = .returned (.tuple #[v0_, v1_]) ∧ Kd.R (Kd.int .i64) 3 w' w.heap.size (fun k_ => some k_ ≠ (v1_ : Value).ownBlock) v0_ r1 ∧ Kd.R (Kd.int .i64) 3 w' w.heap.size (fun k_ => some k_ ≠ (v0_ : Value).ownBlock) v1_ r2 ∧ Below w.heap.size w w' := by
 have hu28 := Tryd.underlying28
 have HR0_0 := aM hr0_0
 have HC0_0 := aM hc0_0
 clear hr0_0 hc0_0
 have HB := aM (Below.refl w.heap.size w)
 have H : ((impl_Matrix_size.f l0_0).bind fun t201 => (if 0 ≤ t201 then (if (t201 : Int).toNat ≤ 35184372088832 then ((impl_Matrix_size.f l0_0).bind fun t205 => (if 0 ≤ t205 then (if (t205 : Int).toNat ≤ 35184372088832 then (impl_Matrix_sums.l0 k (List.replicate (t201 : Int).toNat 0) (List.replicate (t205 : Int).toNat 0) l0_0 (l0_0.length : Int) 0) else (none)) else (none))) else (none)) else (none))) = some (r1, r2) := h
 clear h
 replace H := bS H
 obtain ⟨t201, A2, H⟩ := H
 try dsimp only at H
 replace H := iS H
 obtain ⟨c3, H⟩ := H
 have c3b0 := eq_true c3
 have c3b1 := decide_eq_true c3
 clear c3
 replace H := iS H
 obtain ⟨c4, H⟩ := H
 have c4b0 := eq_true c4
 have c4b1 := decide_eq_true c4
 clear c4
 obtain ⟨y202, hy202⟩ : ∃ y_ : List Int, y_ = (List.replicate (t201 : Int).toNat 0) := ⟨_, rfl⟩
 replace H : ((impl_Matrix_size.f l0_0).bind fun t205 => (if 0 ≤ t205 then (if (t205 : Int).toNat ≤ 35184372088832 then (impl_Matrix_sums.l0 k y202 (List.replicate (t205 : Int).toNat 0) l0_0 (l0_0.length : Int) 0) else (none)) else (none))) = some (r1, r2) := by first | (rw [hy202]; with_reducible exact H) | (have H2_ := (Option.bind_some _ _).symm.trans H; rw [hy202]; with_reducible exact H2_) | (have H2_ := (Option.bind_some _ _).symm.trans H; with_reducible exact H2_) | with_reducible exact H | (rw [hy202]; exact H) | exact H
 have Ny202 := aM hy202
 clear hy202
 replace H := bS H
 obtain ⟨t205, A5, H⟩ := H
 try dsimp only at H
 replace H := iS H
 obtain ⟨c6, H⟩ := H
 have c6b0 := eq_true c6
 have c6b1 := decide_eq_true c6
 clear c6
 replace H := iS H
 obtain ⟨c7, H⟩ := H
 have c7b0 := eq_true c7
 have c7b1 := decide_eq_true c7
 clear c7
 obtain ⟨y206, hy206⟩ : ∃ y_ : List Int, y_ = (List.replicate (t205 : Int).toNat 0) := ⟨_, rfl⟩
 replace H : (impl_Matrix_sums.l0 k y202 y206 l0_0 (l0_0.length : Int) 0) = some (r1, r2) := by first | (rw [hy206]; with_reducible exact H) | (have H2_ := (Option.bind_some _ _).symm.trans H; rw [hy206]; with_reducible exact H2_) | (have H2_ := (Option.bind_some _ _).symm.trans H; with_reducible exact H2_) | with_reducible exact H | (rw [hy206]; exact H) | exact H
 have Ny206 := aM hy206
 clear hy206
 have H' := aM H
 clear H
 go_enter Tryd.func107, Tryd.ntmps107
 try go_wp2_with (first | ((with_reducible refine gate_dst (N := 1) rfl ?_); refine bE 1 28 #[.slice A0_0 l0_0.length c0_0] ?_; intro gb200 hg w8 hbox hb; have _ := aM (below_step bq hb); have _ := aM (hbox); have _ := aM ((gS hg)); have _ := aM ((gS hg)); clear HB; rename_i HB BK200 GW200 GE200; clear hb hbox hg))
 have n0_ := aM (blk_drew BK200.out)
 have n1_ := aM (below_drew1 HB.out)
 clear BK200
 clear HB
 have BK200 := n0_
 have HB := n1_
 clear n0_ n1_
 refine start_ (n := 8) (S := fun w' => w'.cell? ⟨gb200, 0, none⟩ = some (.slice A0_0 l0_0.length c0_0)) (ds := []) #[false, false, false, false, false, false, false, false] (by kernel_rfl) rfl rfl ((blk_cell BK200.out 0).trans rfl) (fun hHeld => ?_); refine with_tabW impl_Matrix_sums.tab1 impl_Matrix_sums.bits1 (fun HT_ HW_ => ?_)
 generalize w8.drew = w9 at BK200 HB hHeld ⊢
 refine take_ (i := 0) (N := some 10) (v := ?_) (a' := ?_) #[true, false, false, false, false, false, false, false] rfl rfl (take_ofW HT_.out HW_.out (by kernel_rfl)) (fun _ _ _ h => h) (Or.inl ⟨by rfl, ?_⟩) hHeld ?_ ?_
 rotate_left
 ·intro w' s0
  go_simp
  with_reducible rfl
 rotate_left
 ·simp only [Act.put, List.setIfInBounds_toArray, List.set_cons_zero, List.set_cons_succ, i64_w, i32_w]
  rfl
 refine take_ (i := 3) (N := some 13) (v := ?_) (a' := ?_) #[true, false, false, true, false, false, false, false] rfl rfl (take_ofW HT_.out HW_.out (by kernel_rfl)) (fun _ _ _ h => h) (Or.inl ⟨by rfl, ?_⟩) hHeld ?_ ?_
 rotate_left
 ·intro w' s0
  go_simp
  with_reducible rfl
 rotate_left
 ·simp only [Act.put, List.setIfInBounds_toArray, List.set_cons_zero, List.set_cons_succ, i64_w, i32_w]
  rfl
 refine one_ (i := 1) (N := some 11) #[true, true, false, true, false, false, false, false] rfl rfl (one_of HT_.out (by kernel_rfl)) (by decide) (fun K hK => ?_)
 refine goes_ Tryd.func72 (by kernel_rfl) rfl #[.agg #[.slice A0_0 l0_0.length c0_0]] (by rfl) rfl rfl (by (try simp only [List.map_toArray, List.map_cons, List.map_nil]); first | done | rfl | (simp only [List.length_drop, List.length_take]; rfl)) ?_
 with_reducible refine (impl_Matrix_size.calls _ _ l0_0 t201 _ ?side1 ?side2 A2.out).mono ?_
 (case side1 => repeat (first | exact (Kd.C_below HR0_0.out HB.out) | (with_reducible refine Kd.C_alloc ?_ _) | (with_reducible refine Kd.C_drewN ?_ _) | (with_reducible refine Kd.C_drew ?_)))
 (case side2 => exact HC0_0.out)
 rintro e w10 ⟨rfl, hb⟩
 refine ⟨_, rfl, ?_⟩
 have n0_ := aM (blk_below (qQ BK200) hb)
 have n1_ := aM (below_step bq hb)
 clear BK200
 clear HB
 have BK200 := n0_
 have HB := n1_
 clear n0_ n1_
 (try clear hb)
 (try clear hb2)
 (try clear hk)
 (try clear hi)
 refine hK.out _ _ ((blk_cell BK200.out 0).trans rfl) (fun hHeld => ?_)
 clear hK K
 refine norm_ (a' := ?_) ?_ ?_
 rotate_left
 ·show Act.put _ (some 11) _ = _
  simp only [Act.put, List.setIfInBounds_toArray, List.set_cons_zero, List.set_cons_succ, i64_w, i32_w]
  rfl
 refine join_ (σ := Value × Value) 1 #[true, true, true, true, true, true, true, false] (fun s_ => [(12, s_.1), (14, .int .i64 t205), (15, s_.2), (4, s_.1)]) (fun s_ w' => (w'.cell? ⟨gb200, 0, none⟩ = some (.slice A0_0 l0_0.length c0_0)) ∧ (Kd.R (Kd.int .i64) 3 w' w.heap.size (fun k_ => some k_ ≠ (s_.2 : Value).ownBlock) s_.1 y202) ∧ (Kd.R (Kd.int .i64) 3 w' w.heap.size (fun k_ => some k_ ≠ (s_.1 : Value).ownBlock) s_.2 y206) ∧ (w'.heap[gb200]? = some (.cells #[.slice A0_0 l0_0.length c0_0] 28 (0, 0))) ∧ (Below w.heap.size w w')) ?_ ?_
 rotate_left
 ·intro hCont
  refine two_ (i := 2) (j := 4) (Ni := some 12) (Nj := some 14) #[true, true, true, true, false, false, false, false] #[true, true, false, true, true, false, false, false] rfl rfl rfl rfl (two_of HT_.out (by kernel_rfl)) (by decide) (by decide) (fun K hK => ?_) (fun K hK => ?_)
  ·skip
   refine Kd.R_make_step (Kd.int .i64) _ 3 (by rfl) (N := 12) rfl 22 _ _ rfl t201 rfl rfl Tryd.underlying22 (.int .i64 0) 8 info3 rfl (by decide) (by omega) 0 (ok := fun _ => True) (okp := fun _ => True) rfl (fun _ hk => hk) trivial (odt) (Nat.le_trans (Nat.mul_le_mul_right _ (odt : t201.toNat ≤ 35184372088832)) (by omega)) (Below.refl _ _) (Nat.le_refl _) ?_
   intro v203 w11 ho12 hb hg_ hnew_
   clear hg_ hnew_
   (first | rw [← Ny202.out] at ho12 | (simp only [Int.reduceToNat] at ho12; rw [← Ny202.out] at ho12))
   have n0_ := aM (Kd.R_lower ho12 (below_size bq))
   have n1_ := aM (blk_below (qQ BK200) hb)
   have n2_ := aM (below_step bq hb)
   clear BK200
   clear HB
   have HO204 := n0_
   have BK200 := n1_
   have HB := n2_
   clear n0_ n1_ n2_
   clear hb ho12
   refine hK.out _ _ ((blk_cell BK200.out 0).trans rfl) (fun hHeld => ?_)
   clear hK K
   refine norm_ (a' := ?_) ?_ ?_
   rotate_left
   ·show Act.put _ (some 12) _ = _
    simp only [Act.put, List.setIfInBounds_toArray, List.set_cons_zero, List.set_cons_succ, i64_w, i32_w]
    rfl
   refine one_ (i := 4) (N := some 14) #[true, true, true, true, true, false, false, false] rfl rfl (one_of HT_.out (by kernel_rfl)) (by decide) (fun K hK => ?_)
   refine goes_ Tryd.func72 (by kernel_rfl) rfl #[.agg #[.slice A0_0 l0_0.length c0_0]] (by rfl) rfl rfl (by (try simp only [List.map_toArray, List.map_cons, List.map_nil]); first | done | rfl | (simp only [List.length_drop, List.length_take]; rfl)) ?_
   with_reducible refine (impl_Matrix_size.calls _ _ l0_0 t205 _ ?side1 ?side2 A5.out).mono ?_
   (case side1 => repeat (first | exact (Kd.C_below HR0_0.out HB.out) | (with_reducible refine Kd.C_alloc ?_ _) | (with_reducible refine Kd.C_drewN ?_ _) | (with_reducible refine Kd.C_drew ?_)))
   (case side2 => exact HC0_0.out)
   rintro e w13 ⟨rfl, hb⟩
   refine ⟨_, rfl, ?_⟩
   have n0_ := aM (Kd.R_below (rQ HO204) hb)
   have n1_ := aM (blk_below (qQ BK200) hb)
   have n2_ := aM (below_step bq hb)
   clear HO204
   clear BK200
   clear HB
   have HO204 := n0_
   have BK200 := n1_
   have HB := n2_
   clear n0_ n1_ n2_
   (try clear hb)
   (try clear hb2)
   (try clear hk)
   (try clear hi)
   refine hK.out _ _ ((blk_cell BK200.out 0).trans rfl) (fun hHeld => ?_)
   clear hK K
   refine norm_ (a' := ?_) ?_ ?_
   rotate_left
   ·show Act.put _ (some 14) _ = _
    simp only [Act.put, List.setIfInBounds_toArray, List.set_cons_zero, List.set_cons_succ, i64_w, i32_w]
    rfl
   refine pure_ (i := 6) (N := some 4) (v := ?_) (a' := ?_) #[true, true, true, true, true, false, true, false] rfl rfl (any_of HT_.out (by kernel_rfl)) (fun _ _ _ h => h) (Or.inl ⟨by rfl, ?_⟩) ?_ ?_
   rotate_left
   ·intro w'
    go_simp
    with_reducible rfl
   rotate_left
   ·simp only [Act.put, List.setIfInBounds_toArray, List.set_cons_zero, List.set_cons_succ, i64_w, i32_w]
    rfl
   refine one_ (i := 5) (N := some 15) #[true, true, true, true, true, true, true, false] rfl rfl (one_of HT_.out (by kernel_rfl)) (by decide) (fun K hK => ?_)
   refine Kd.R_make_step (Kd.int .i64) _ 3 (by rfl) (N := 15) rfl 22 _ _ rfl t205 rfl rfl Tryd.underlying22 (.int .i64 0) 8 info3 rfl (by decide) (by omega) 0 (ok := fun _ => True) (okp := fun _ => True) rfl (fun _ hk => hk) trivial (odt) (Nat.le_trans (Nat.mul_le_mul_right _ (odt : t205.toNat ≤ 35184372088832)) (by omega)) (Below.refl _ _) (Nat.le_refl _) ?_
   intro v207 w14 ho15 hb hg_ hnew_
   clear hg_ hnew_
   (first | rw [← Ny206.out] at ho15 | (simp only [Int.reduceToNat] at ho15; rw [← Ny206.out] at ho15))
   have n0_ := aM (Kd.R_elder' (rQ HO204) (Kd.R_base ho15) hb)
   have n1_ := aM (Kd.R_lower (Kd.R_new' ho15 (Kd.R_lt (rQ HO204))) (below_size bq))
   have n2_ := aM (blk_below (qQ BK200) hb)
   have n3_ := aM (below_step bq hb)
   clear HO204
   clear BK200
   clear HB
   have HO204 := n0_
   have HO208 := n1_
   have BK200 := n2_
   have HB := n3_
   clear n0_ n1_ n2_ n3_
   clear hb ho15
   refine hK.out _ _ ((blk_cell BK200.out 0).trans rfl) (fun hHeld => ?_)
   clear hK K
   refine norm_ (a' := ?_) ?_ ?_
   rotate_left
   ·show Act.put _ (some 15) _ = _
    simp only [Act.put, List.setIfInBounds_toArray, List.set_cons_zero, List.set_cons_succ, i64_w, i32_w]
    rfl
   exact norm_ (by simp only [putAll, Act.put, List.setIfInBounds_toArray, List.set_cons_zero, List.set_cons_succ]) (hCont (v203, v207) _ ⟨hHeld, (by (with_reducible repeat first|apply rA|apply rN|apply rD); exact Kd.R_mono HO204.out (fun _ hk => hk.2)), (by (with_reducible repeat first|apply rA|apply rN|apply rD); exact Kd.R_mono HO208.out (fun _ hk => hk.2)), (qQ BK200), bq⟩)
  ·skip
   refine goes_ Tryd.func72 (by kernel_rfl) rfl #[.agg #[.slice A0_0 l0_0.length c0_0]] (by rfl) rfl rfl (by (try simp only [List.map_toArray, List.map_cons, List.map_nil]); first | done | rfl | (simp only [List.length_drop, List.length_take]; rfl)) ?_
   with_reducible refine (impl_Matrix_size.calls _ _ l0_0 t205 _ ?side1 ?side2 A5.out).mono ?_
   (case side1 => repeat (first | exact (Kd.C_below HR0_0.out HB.out) | (with_reducible refine Kd.C_alloc ?_ _) | (with_reducible refine Kd.C_drewN ?_ _) | (with_reducible refine Kd.C_drew ?_)))
   (case side2 => exact HC0_0.out)
   rintro e w11 ⟨rfl, hb⟩
   refine ⟨_, rfl, ?_⟩
   have n0_ := aM (blk_below (qQ BK200) hb)
   have n1_ := aM (below_step bq hb)
   clear BK200
   clear HB
   have BK200 := n0_
   have HB := n1_
   clear n0_ n1_
   (try clear hb)
   (try clear hb2)
   (try clear hk)
   (try clear hi)
   refine hK.out _ _ ((blk_cell BK200.out 0).trans rfl) (fun hHeld => ?_)
   clear hK K
   refine norm_ (a' := ?_) ?_ ?_
   rotate_left
   ·show Act.put _ (some 14) _ = _
    simp only [Act.put, List.setIfInBounds_toArray, List.set_cons_zero, List.set_cons_succ, i64_w, i32_w]
    rfl
   refine two_ (i := 2) (j := 5) (Ni := some 12) (Nj := some 15) #[true, true, true, true, true, false, false, false] #[true, true, false, true, true, true, false, false] rfl rfl rfl rfl (two_of HT_.out (by kernel_rfl)) (by decide) (by decide) (fun K hK => ?_) (fun K hK => ?_)
   ·skip
    refine Kd.R_make_step (Kd.int .i64) _ 3 (by rfl) (N := 12) rfl 22 _ _ rfl t201 rfl rfl Tryd.underlying22 (.int .i64 0) 8 info3 rfl (by decide) (by omega) 0 (ok := fun _ => True) (okp := fun _ => True) rfl (fun _ hk => hk) trivial (odt) (Nat.le_trans (Nat.mul_le_mul_right _ (odt : t201.toNat ≤ 35184372088832)) (by omega)) (Below.refl _ _) (Nat.le_refl _) ?_
    intro v203 w12 ho13 hb hg_ hnew_
    clear hg_ hnew_
    (first | rw [← Ny202.out] at ho13 | (simp only [Int.reduceToNat] at ho13; rw [← Ny202.out] at ho13))
    have n0_ := aM (Kd.R_lower ho13 (below_size bq))
    have n1_ := aM (blk_below (qQ BK200) hb)
    have n2_ := aM (below_step bq hb)
    clear BK200
    clear HB
    have HO204 := n0_
    have BK200 := n1_
    have HB := n2_
    clear n0_ n1_ n2_
    clear hb ho13
    refine hK.out _ _ ((blk_cell BK200.out 0).trans rfl) (fun hHeld => ?_)
    clear hK K
    refine norm_ (a' := ?_) ?_ ?_
    rotate_left
    ·show Act.put _ (some 12) _ = _
     simp only [Act.put, List.setIfInBounds_toArray, List.set_cons_zero, List.set_cons_succ, i64_w, i32_w]
     rfl
    refine pure_ (i := 6) (N := some 4) (v := ?_) (a' := ?_) #[true, true, true, true, true, false, true, false] rfl rfl (any_of HT_.out (by kernel_rfl)) (fun _ _ _ h => h) (Or.inl ⟨by rfl, ?_⟩) ?_ ?_
    rotate_left
    ·intro w'
     go_simp
     with_reducible rfl
    rotate_left
    ·simp only [Act.put, List.setIfInBounds_toArray, List.set_cons_zero, List.set_cons_succ, i64_w, i32_w]
     rfl
    refine one_ (i := 5) (N := some 15) #[true, true, true, true, true, true, true, false] rfl rfl (one_of HT_.out (by kernel_rfl)) (by decide) (fun K hK => ?_)
    refine Kd.R_make_step (Kd.int .i64) _ 3 (by rfl) (N := 15) rfl 22 _ _ rfl t205 rfl rfl Tryd.underlying22 (.int .i64 0) 8 info3 rfl (by decide) (by omega) 0 (ok := fun _ => True) (okp := fun _ => True) rfl (fun _ hk => hk) trivial (odt) (Nat.le_trans (Nat.mul_le_mul_right _ (odt : t205.toNat ≤ 35184372088832)) (by omega)) (Below.refl _ _) (Nat.le_refl _) ?_
    intro v207 w14 ho15 hb hg_ hnew_
    clear hg_ hnew_
    (first | rw [← Ny206.out] at ho15 | (simp only [Int.reduceToNat] at ho15; rw [← Ny206.out] at ho15))
    have n0_ := aM (Kd.R_elder' (rQ HO204) (Kd.R_base ho15) hb)
    have n1_ := aM (Kd.R_lower (Kd.R_new' ho15 (Kd.R_lt (rQ HO204))) (below_size bq))
    have n2_ := aM (blk_below (qQ BK200) hb)
    have n3_ := aM (below_step bq hb)
    clear HO204
    clear BK200
    clear HB
    have HO204 := n0_
    have HO208 := n1_
    have BK200 := n2_
    have HB := n3_
    clear n0_ n1_ n2_ n3_
    clear hb ho15
    refine hK.out _ _ ((blk_cell BK200.out 0).trans rfl) (fun hHeld => ?_)
    clear hK K
    refine norm_ (a' := ?_) ?_ ?_
    rotate_left
    ·show Act.put _ (some 15) _ = _
     simp only [Act.put, List.setIfInBounds_toArray, List.set_cons_zero, List.set_cons_succ, i64_w, i32_w]
     rfl
    exact norm_ (by simp only [putAll, Act.put, List.setIfInBounds_toArray, List.set_cons_zero, List.set_cons_succ]) (hCont (v203, v207) _ ⟨hHeld, (by (with_reducible repeat first|apply rA|apply rN|apply rD); exact Kd.R_mono HO204.out (fun _ hk => hk.2)), (by (with_reducible repeat first|apply rA|apply rN|apply rD); exact Kd.R_mono HO208.out (fun _ hk => hk.2)), (qQ BK200), bq⟩)
   ·skip
    refine Kd.R_make_step (Kd.int .i64) _ 3 (by rfl) (N := 15) rfl 22 _ _ rfl t205 rfl rfl Tryd.underlying22 (.int .i64 0) 8 info3 rfl (by decide) (by omega) 0 (ok := fun _ => True) (okp := fun _ => True) rfl (fun _ hk => hk) trivial (odt) (Nat.le_trans (Nat.mul_le_mul_right _ (odt : t205.toNat ≤ 35184372088832)) (by omega)) (Below.refl _ _) (Nat.le_refl _) ?_
    intro v207 w12 ho13 hb hg_ hnew_
    clear hg_ hnew_
    (first | rw [← Ny206.out] at ho13 | (simp only [Int.reduceToNat] at ho13; rw [← Ny206.out] at ho13))
    have n0_ := aM (Kd.R_lower ho13 (below_size bq))
    have n1_ := aM (blk_below (qQ BK200) hb)
    have n2_ := aM (below_step bq hb)
    clear BK200
    clear HB
    have HO208 := n0_
    have BK200 := n1_
    have HB := n2_
    clear n0_ n1_ n2_
    clear hb ho13
    refine hK.out _ _ ((blk_cell BK200.out 0).trans rfl) (fun hHeld => ?_)
    clear hK K
    refine norm_ (a' := ?_) ?_ ?_
    rotate_left
    ·show Act.put _ (some 15) _ = _
     simp only [Act.put, List.setIfInBounds_toArray, List.set_cons_zero, List.set_cons_succ, i64_w, i32_w]
     rfl
    refine one_ (i := 2) (N := some 12) #[true, true, true, true, true, true, false, false] rfl rfl (one_of HT_.out (by kernel_rfl)) (by decide) (fun K hK => ?_)
    refine Kd.R_make_step (Kd.int .i64) _ 3 (by rfl) (N := 12) rfl 22 _ _ rfl t201 rfl rfl Tryd.underlying22 (.int .i64 0) 8 info3 rfl (by decide) (by omega) 0 (ok := fun _ => True) (okp := fun _ => True) rfl (fun _ hk => hk) trivial (odt) (Nat.le_trans (Nat.mul_le_mul_right _ (odt : t201.toNat ≤ 35184372088832)) (by omega)) (Below.refl _ _) (Nat.le_refl _) ?_
    intro v203 w14 ho15 hb hg_ hnew_
    clear hg_ hnew_
    (first | rw [← Ny202.out] at ho15 | (simp only [Int.reduceToNat] at ho15; rw [← Ny202.out] at ho15))
    have n0_ := aM (Kd.R_elder' (rQ HO208) (Kd.R_base ho15) hb)
    have n1_ := aM (Kd.R_lower (Kd.R_new' ho15 (Kd.R_lt (rQ HO208))) (below_size bq))
    have n2_ := aM (blk_below (qQ BK200) hb)
    have n3_ := aM (below_step bq hb)
    clear HO208
    clear BK200
    clear HB
    have HO208 := n0_
    have HO204 := n1_
    have BK200 := n2_
    have HB := n3_
    clear n0_ n1_ n2_ n3_
    clear hb ho15
    refine hK.out _ _ ((blk_cell BK200.out 0).trans rfl) (fun hHeld => ?_)
    clear hK K
    refine norm_ (a' := ?_) ?_ ?_
    rotate_left
    ·show Act.put _ (some 12) _ = _
     simp only [Act.put, List.setIfInBounds_toArray, List.set_cons_zero, List.set_cons_succ, i64_w, i32_w]
     rfl
    refine pure_ (i := 6) (N := some 4) (v := ?_) (a' := ?_) #[true, true, true, true, true, true, true, false] rfl rfl (any_of HT_.out (by kernel_rfl)) (fun _ _ _ h => h) (Or.inl ⟨by rfl, ?_⟩) ?_ ?_
    rotate_left
    ·intro w'
     go_simp
     with_reducible rfl
    rotate_left
    ·simp only [Act.put, List.setIfInBounds_toArray, List.set_cons_zero, List.set_cons_succ, i64_w, i32_w]
     rfl
    exact norm_ (by simp only [putAll, Act.put, List.setIfInBounds_toArray, List.set_cons_zero, List.set_cons_succ]) (hCont (v203, v207) _ ⟨hHeld, (by (with_reducible repeat first|apply rA|apply rN|apply rD); exact Kd.R_mono HO204.out (fun _ hk => hk.2)), (by (with_reducible repeat first|apply rA|apply rN|apply rD); exact Kd.R_mono HO208.out (fun _ hk => hk.2)), (qQ BK200), bq⟩)
 rintro ⟨v203, v207⟩ w16 ⟨hS_, h0_, h1_, h2_, h3_⟩
 have n0_ : Aside0 (Kd.R (Kd.int .i64) 3 w16 w.heap.size (fun k_ => some k_ ≠ (v207 : Value).ownBlock) v203 y202) := ⟨h0_⟩
 have n1_ : Aside0 (Kd.R (Kd.int .i64) 3 w16 w.heap.size (fun k_ => some k_ ≠ (v203 : Value).ownBlock) v207 y206) := ⟨h1_⟩
 have n2_ : Aside0 (w16.heap[gb200]? = some (.cells #[.slice A0_0 l0_0.length c0_0] 28 (0, 0))) := ⟨h2_⟩
 have n3_ : Aside0 (Below w.heap.size w w16) := ⟨h3_⟩
 clear BK200
 clear HB
 clear h0_ h1_ h2_ h3_
 have HO204 := n0_
 have HO208 := n1_
 have BK200 := n2_
 have HB := n3_
 clear n0_ n1_ n2_ n3_
 have hHeld : w16.cell? ⟨gb200, 0, none⟩ = some (.slice A0_0 l0_0.length c0_0) := hS_
 refine norm_ (a' := ?_) ?_ ?_
 rotate_left
 ·simp only [putAll, Act.put, List.setIfInBounds_toArray, List.set_cons_zero, List.set_cons_succ]
  rfl
 refine pure_ (i := 7) (N := some 5) (v := ?_) (a' := ?_) #[true, true, true, true, true, true, true, true] rfl rfl (any_of HT_.out (by kernel_rfl)) (fun _ _ _ h => h) (Or.inl ⟨by rfl, ?_⟩) ?_ ?_
 rotate_left
 ·intro w'
  go_simp
  with_reducible rfl
 rotate_left
 ·simp only [Act.put, List.setIfInBounds_toArray, List.set_cons_zero, List.set_cons_succ, i64_w, i32_w]
  rfl
 refine done_ (done_of HT_.out (by kernel_rfl)) ?_
 have hcz17_0 := zc10 BK200
 have hfz17_0 := blk_frozen BK200.out 0
 try go_wp2
 go_loopg [19] k (fun kq v19 w' => ∃ (x4_1 : List Int) (x5_1 : List Int) (x19_1 : Int), v19 = .int .i64 x19_1 ∧ Aside0 (impl_Matrix_sums.l0 kq x4_1 x5_1 l0_0 (l0_0.length : Int) x19_1 = some (r1, r2)) ∧ Aside0 (kq ≤ k) ∧ Aside0 (Kd.R (Kd.int .i64) 3 w' w.heap.size (fun k_ => some k_ ≠ (v207 : Value).ownBlock) v203 x4_1) ∧ Aside0 (Kd.R (Kd.int .i64) 3 w' w.heap.size (fun k_ => some k_ ≠ (v203 : Value).ownBlock) v207 x5_1) ∧ Aside0 (w'.heap[gb200]? = some (.cells #[(.slice A0_0 l0_0.length c0_0)] 28 (0, 0))) ∧ Aside0 (Below w.heap.size w w'))
 case atStart => exact ⟨(y202), (y206), (0), eR, H', ⟨Nat.le_refl _⟩, ⟨rQ HO204⟩, ⟨rQ HO208⟩, ⟨qQ BK200⟩, ⟨bq⟩⟩
 case round =>
  clear H'
  try clear c1
  try clear p2
  try clear c3
  try clear c3b0
  try clear c3b1
  try clear c4
  try clear c4b0
  try clear c4b1
  try clear c6
  try clear c6b0
  try clear c6b1
  try clear c7
  try clear c7b0
  try clear c7b1
  try clear c10
  try clear hcz17_0
  try clear hfz17_0
  obtain ⟨x4_1, x5_1, x19_1, rfl, HA, HK1, HO_4, HO_5, BK200, HB⟩ := hrel
  cases gk with
  | zero => exact absurd HA.out (by simp [impl_Matrix_sums.l0])
  | succ k1 =>
   have H := HA.out
   clear HA
   simp only [impl_Matrix_sums.l0] at H
   by_cases c18 : x19_1 < (l0_0.length : Int)
   ·rw [if_pos c18] at H
    have c18b0 := decide_eq_true c18
    clear c18
    replace H := iD2 H
    obtain ⟨c19b0, c20b0, H⟩ := H
    have H' := aM H
    clear H
    have p209 : 0 ≤ (x19_1 : Int) := odt
    have q209 : x19_1 < (l0_0.length : Int) := odt
    obtain ⟨ad209, A209_0, c209_0, e209, hx209_0, hl209_0, hi209_0⟩ := at_L2 HR0_0.out x19_1 p209 q209
    cases e209
    replace hx209_0 := (HB.out.cell (World.block_lt_of_cell? w _ hx209_0)).trans hx209_0
    have HR209_0 := aM hi209_0
    have HC209_0 := aM hl209_0
    clear hi209_0 hl209_0
    replace p209 := eq_true p209
    replace q209 := eq_true q209
    go_wp2
    go_loopg [26] k1 (fun kq v26 w' => ∃ (x4_2 : List Int) (x5_2 : List Int) (x26_2 : Int), v26 = .int .i64 x26_2 ∧ Aside0 (impl_Matrix_sums.l1 kq x4_2 x5_2 x19_1 l0_0 (l0_0.length : Int) x19_1 (rd_L2 l0_0 x19_1) ((rd_L2 l0_0 x19_1).length : Int) x26_2 = some (r1, r2)) ∧ Aside0 (kq ≤ k1) ∧ Aside0 (Kd.R (Kd.int .i64) 3 w' w.heap.size (fun k_ => some k_ ≠ (v207 : Value).ownBlock) v203 x4_2) ∧ Aside0 (Kd.R (Kd.int .i64) 3 w' w.heap.size (fun k_ => some k_ ≠ (v203 : Value).ownBlock) v207 x5_2) ∧ Aside0 (w'.heap[gb200]? = some (.cells #[(.slice (some ad209) l0_0.length c0_0)] 28 (0, 0))) ∧ Aside0 (Below w.heap.size w w'))
    case atStart => exact ⟨(x4_1), (x5_1), (0), eR, H', ⟨Nat.le_refl _⟩, ⟨rQ HO_4⟩, ⟨rQ HO_5⟩, ⟨qQ BK200⟩, ⟨bq⟩⟩
    case round =>
     clear H'
     try clear c1
     try clear c2
     try clear p2
     try clear q2
     try clear hx2
     try clear c3
     try clear c3b0
     try clear c3b1
     try clear c4
     try clear c4b0
     try clear c4b1
     try clear c6
     try clear c6b0
     try clear c6b1
     try clear c7
     try clear c7b0
     try clear c7b1
     try clear c10
     try clear c18
     try clear c18b0
     try clear c19
     try clear c19b0
     try clear c20
     try clear c20b0
     try clear p20
     try clear q20
     try clear hx20
     try clear hcz17_0
     try clear hfz17_0
     try clear hx209_0
     try clear p2
     try clear p209
     try clear q209
     obtain ⟨x4_2, x5_2, x26_2, rfl, HA, HK2, HO_4, HO_5, BK200, HB⟩ := hrel
     cases gk with
     | zero => exact absurd HA.out (by simp [impl_Matrix_sums.l1])
     | succ k2 =>
      have H := HA.out
      clear HA
      simp only [impl_Matrix_sums.l1] at H
      by_cases c21 : x26_2 < ((rd_L2 l0_0 x19_1).length : Int)
      ·rw [if_pos c21] at H
       have c21b0 := decide_eq_true c21
       clear c21
       replace H := iD4 H
       obtain ⟨c22b0, c23b0, c24b0, c25b0, H⟩ := H
       obtain ⟨y212, hy212⟩ : ∃ y_ : List Int, y_ = (x4_2.set (x19_1 : Int).toNat (wrap64 ((rd x4_2 x19_1) + (rd (rd_L2 l0_0 x19_1) x26_2)))) := ⟨_, rfl⟩
       replace H : (if x26_2 < (x5_2.length : Int) then (impl_Matrix_sums.l1 k2 y212 (x5_2.set (x26_2 : Int).toNat (wrap64 ((rd x5_2 x26_2) + (rd (rd_L2 l0_0 x19_1) x26_2)))) x19_1 l0_0 (l0_0.length : Int) x19_1 (rd_L2 l0_0 x19_1) ((rd_L2 l0_0 x19_1).length : Int) (wrap64 (x26_2 + 1))) else (none)) = some (r1, r2) := by first | (rw [hy212]; with_reducible exact H) | (have H2_ := (Option.bind_some _ _).symm.trans H; rw [hy212]; with_reducible exact H2_) | (have H2_ := (Option.bind_some _ _).symm.trans H; with_reducible exact H2_) | with_reducible exact H | (rw [hy212]; exact H) | exact H
       have Ny212 := aM hy212
       clear hy212
       replace H := iD H
       obtain ⟨c27b0, H⟩ := H
       obtain ⟨y214, hy214⟩ : ∃ y_ : List Int, y_ = (x5_2.set (x26_2 : Int).toNat (wrap64 ((rd x5_2 x26_2) + (rd (rd_L2 l0_0 x19_1) x26_2)))) := ⟨_, rfl⟩
       replace H : (impl_Matrix_sums.l1 k2 y212 y214 x19_1 l0_0 (l0_0.length : Int) x19_1 (rd_L2 l0_0 x19_1) ((rd_L2 l0_0 x19_1).length : Int) (wrap64 (x26_2 + 1))) = some (r1, r2) := by first | (rw [hy214]; with_reducible exact H) | (have H2_ := (Option.bind_some _ _).symm.trans H; rw [hy214]; with_reducible exact H2_) | (have H2_ := (Option.bind_some _ _).symm.trans H; with_reducible exact H2_) | with_reducible exact H | (rw [hy214]; exact H) | exact H
       have Ny214 := aM hy214
       clear hy214
       have H' := aM H
       clear H
       have p210 : 0 ≤ (x26_2 : Int) := odt
       have q210 : x26_2 < ((rd_L2 l0_0 x19_1).length : Int) := odt
       obtain ⟨ad210, e210, hx210_0⟩ := Kd.at_int HR209_0.out x26_2 p210 q210
       cases e210
       replace hx210_0 := (HB.out.cell (World.block_lt_of_cell? w _ hx210_0)).trans hx210_0
       replace p210 := eq_true p210
       replace q210 := eq_true q210
       obtain ⟨Ao29, co29, eo29⟩ := Kd.R_slice HO_4.out
       subst eo29
       have p211 : 0 ≤ (x19_1 : Int) := odt
       have q211 : x19_1 < (x4_2.length : Int) := odt
       obtain ⟨ad211, e211, hx211_0⟩ := Kd.at_int (Kd.R_reads' HO_4.out).2.2 x19_1 p211 q211
       cases e211
       replace p211 := eq_true p211
       replace q211 := eq_true q211
       have p26 : 0 ≤ (x19_1 : Int) := odt
       have q26 : (x19_1 : Int) < ((x4_2.length : Int) : Int) := odt
       obtain ⟨go26, co26, eo26, gb26, gl26, cl26, HG26⟩ := Kd.R_form HO_4.out (by omega)
       (first | cases eo26 | (injection eo26 with ea_ en_ ec_; (first | subst ea_ | (injection ea_ with ea_; subst ea_)); subst ec_; clear en_))
       have GB26 := aM gb26
       have GG26 := aM HG26
       clear gb26 gl26 HG26
       (first | simp only [add_plain] at hx211_0 | skip)
       obtain ⟨hx26_0, hf26_0⟩ := Kd.R_celln 0 HO_4.out (x19_1 : Int) p26 q26
       replace p26 := eq_true p26
       replace q26 := eq_true q26
       have HP30 := Kd.R_putg HO_4.out (x19_1 : Int) (wrap64 ((rd x4_2 x19_1) + (rd (rd_L2 l0_0 x19_1) x26_2)))
       go_wp2_with (first | ((with_reducible refine gate_store (t := 3) (p := 37) rfl ?_); refine sE (wr.setCell ⟨go26, (x19_1 : Int).toNat, none⟩ (.int .i64 (wrap64 ((rd x4_2 x19_1) + (rd (rd_L2 l0_0 x19_1) x26_2))))) 3 37 ?_; intro w31 hw; have hg : wr.grownBy w31 (some go26) := (by rw [hw]; exact HP30.2); have hp_ : Kd.R (Kd.int .i64) 3 w31 w.heap.size (fun k_ => some k_ ≠ (v207 : Value).ownBlock) (.slice (some ⟨go26, 0, none⟩) x4_2.length co29) y212 := (by rw [hw, Ny212.out]; exact HP30.1); clear HP30; have _ := aM (hp_); have _ := aM (Kd.R_after (v := (.slice (some ⟨go26, 0, none⟩) x4_2.length co29)) (v1 := (.slice (some ⟨go26, 0, none⟩) x4_2.length co29)) (ok := (fun _ => True)) (by (with_reducible repeat first|apply rA|apply rN|apply rD); exact Kd.R_mono HO_5.out (fun _ hk => ⟨trivial, hk⟩)) hg (.inl rfl)); have _ := aM (blk_grown (g := gb200) (o := .cells #[.slice (some ad209) l0_0.length c0_0] 28 (0, 0)) (qQ BK200) hg (Kd.R_ne HO_4.out BK200.out (by decide))); have _ := aM ((by rw [hw]; exact below_set (HB.out) GB26.out : Below w.heap.size w w31)); clear HO_4 HO_5 BK200 HB; rename_i HO_4 HO_5 BK200 HB; clear hg hw hp_; obtain ⟨Ao32, co32, eo32⟩ := Kd.R_slice HO_5.out; subst eo32; have p213 : 0 ≤ (x26_2 : Int) := odt; have q213 : x26_2 < (x5_2.length : Int) := odt; obtain ⟨ad213, e213, hx213_0⟩ := Kd.at_int (Kd.R_reads' HO_5.out).2.2 x26_2 p213 q213; cases e213; replace p213 := eq_true p213; replace q213 := eq_true q213; have p28 : 0 ≤ (x26_2 : Int) := odt; have q28 : (x26_2 : Int) < ((x5_2.length : Int) : Int) := odt; obtain ⟨go28, co28, eo28, gb28, gl28, cl28, HG28⟩ := Kd.R_form HO_5.out (by omega); (first | cases eo28 | (injection eo28 with ea_ en_ ec_; (first | subst ea_ | (injection ea_ with ea_; subst ea_)); subst ec_; clear en_)); have GB28 := aM gb28; have GG28 := aM HG28; clear gb28 gl28 HG28; (first | simp only [add_plain] at hx213_0 | skip); obtain ⟨hx28_0, hf28_0⟩ := Kd.R_celln 0 HO_5.out (x26_2 : Int) p28 q28; replace p28 := eq_true p28; replace q28 := eq_true q28; have n_ := aM (Kd.R_mono (ok' := (fun k_ => some k_ ≠ (.slice (some ⟨go26, 0, none⟩) x4_2.length co29 : Value).ownBlock)) HO_5.out (fun k_ hk => hk.2)); clear HO_5; have HO_5 := n_; clear n_; obtain ⟨hy33_, hz33_⟩ := Kd.R_celln 0 HO_5.out (x26_2 : Int) (odt) (odt); have HP33 := Kd.R_putg HO_5.out (x26_2 : Int) (wrap64 ((rd x5_2 x26_2) + (rd (rd_L2 l0_0 x19_1) x26_2)))) | ((with_reducible refine gate_store (t := 3) (p := 44) rfl ?_); refine sE (w31.setCell ⟨go28, (x26_2 : Int).toNat, none⟩ (.int .i64 (wrap64 ((rd x5_2 x26_2) + (rd (rd_L2 l0_0 x19_1) x26_2))))) 3 44 ?_; intro w34 hw; have hg : w31.grownBy w34 (some go28) := (by rw [hw]; exact HP33.2); have hp_ : Kd.R (Kd.int .i64) 3 w34 w.heap.size (fun k_ => some k_ ≠ (.slice (some ⟨go26, 0, none⟩) x4_2.length co29 : Value).ownBlock) (.slice (some ⟨go28, 0, none⟩) x5_2.length co32) y214 := (by rw [hw, Ny214.out]; exact HP33.1); clear HP33; have _ := aM (Kd.R_after (v := (.slice (some ⟨go28, 0, none⟩) x5_2.length co32)) (v1 := (.slice (some ⟨go28, 0, none⟩) x5_2.length co32)) (ok := (fun _ => True)) (by (with_reducible repeat first|apply rA|apply rN|apply rD); exact Kd.R_mono HO_4.out (fun _ hk => ⟨trivial, hk⟩)) hg (.inl rfl)); have _ := aM (hp_); have _ := aM (blk_grown (g := gb200) (o := .cells #[.slice (some ad209) l0_0.length c0_0] 28 (0, 0)) (qQ BK200) hg (Kd.R_ne HO_5.out BK200.out (by decide))); have _ := aM ((by rw [hw]; exact below_set (HB.out) GB28.out : Below w.heap.size w w34)); clear HO_4 HO_5 BK200 HB; rename_i HO_4 HO_5 BK200 HB; clear hg hw hp_))
       go_roundg k2
       case measure => have := HK1.out; have := HK2.out; omega
       case rel => exact ⟨(y212), (y214), (wrap64 (x26_2 + 1)), eR, H', ⟨by have := HK1.out; have := HK2.out; omega⟩, ⟨by (with_reducible repeat first|apply rA|apply rN|apply rD); exact Kd.R_mono HO_4.out (fun _ hk => hk.2)⟩, ⟨rQ HO_5⟩, ⟨qQ BK200⟩, ⟨bq⟩⟩
      ·rw [if_neg c21] at H
       have c21b0 := decide_eq_false c21
       clear c21
       have H' := aM H
       clear H
       go_wp2
       go_roundg k2
       case measure => have := HK1.out; have := HK2.out; omega
       case rel => exact ⟨(x4_2), (x5_2), (wrap64 (x19_1 + 1)), eR, H', ⟨by have := HK1.out; have := HK2.out; omega⟩, ⟨rQ HO_4⟩, ⟨rQ HO_5⟩, ⟨qQ BK200⟩, ⟨bq⟩⟩
   ·rw [if_neg c18] at H
    have c18b0 := decide_eq_false c18
    clear c18
    simp only [Option.some.injEq, Prod.mk.injEq] at H
    obtain ⟨rfl, rfl⟩ := H
    go_wp2
    go_ret2
    exact ⟨_, _, eE, rQ HO_4, rQ HO_5, bq⟩

end Go.Proofs.YtcodionjhcmfhaaDoor.Be
