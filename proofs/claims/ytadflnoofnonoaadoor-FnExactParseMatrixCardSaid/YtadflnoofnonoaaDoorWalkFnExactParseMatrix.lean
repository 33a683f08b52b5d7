/- The walk of FnExactParseMatrix: on the way that answers true. -/
import Derived.Test.YtadflnoofnonoaaDoorPx1
import Derived.Test.YtadflnoofnonoaaDoorPx10
import Derived.Test.YtadflnoofnonoaaDoorPx11
import Derived.Test.YtadflnoofnonoaaDoorPx5
import Derived.Test.YtadflnoofnonoaaDoorXMem
namespace Go.Proofs.YtadflnoofnonoaaDoor.Px
open Go.RowKit Go.Proofs.YtadflnoofnonoaaDoorW.PrintWords Go.Proofs.YtadflnoofnonoaaDoorW.PrintLast Go.Proofs.YtadflnoofnonoaaDoorW.PrintMore
attribute [local go_sem] max2_int min2_int max_two min_two max_three min_three max_four min_four
set_option linter.unusedVariables false
set_option linter.unusedSimpArgs false
set_option maxHeartbeats 8000000 in
set_option maxRecDepth 100000 in
/-- Where the list is too long the law says true at once. -/
theorem laws_FnExactParseMatrix.far (a0 : ByteArray) (w : World) (hV : VarsP w) (hg : ¬ a0.size ≤ 1048576) :
    Calls Tryd.prog 4 #[.string a0] w fun e w' => e = .returned (.bool true) ∧ Below w.heap.size w w' := by
  have g1 : decide ((1048576 : Int) < (a0.size : Int)) = true := decide_eq_true (by omega)
  have g2 : decide (1048576 < a0.size) = true := decide_eq_true (by omega)
  clear hg
  have HB := Aside0.mk (Below.refl w.heap.size w)
  go_enter Tryd.func4, Tryd.ntmps4
  go_wp2
  go_ret
  exact ⟨rfl, (by repeat (first | exact HB.out | apply below_alloc | apply pw_below_drewN | apply below_drew1))⟩
set_option maxHeartbeats 8000000 in
set_option maxRecDepth 100000 in
theorem laws_FnExactParseMatrix.near (k : Nat) (a0 : ByteArray) (w : World) (hV : VarsP w)  (r0 : List (List Int)) (r1 : Bool) (m0 : Int) (rg0 : List (List Int)) (hg : a0.size ≤ 1048576) (e_sp : spec_ParseMatrix.f k a0 = some (r0, r1)) (e_im : impl_ParseMatrix.f k a0 = some (r0, r1)) (e_eq0 : laws_eqMatrix.f k r0 r0 = some true) (e_mr0 : laws_markMatrix.f k r0 1 = some (m0, rg0)) (p_m0 : 0 ≤ m0) (e_hr0 : laws_heldMatrix.f k rg0 1 = some m0) :
    Calls Tryd.prog 4 #[.string a0] w fun e w' => e = .returned (.bool true) ∧ Below w.heap.size w w' := by
  have HB := Aside0.mk (Below.refl w.heap.size w)
  have HV := Aside0.mk hV; clear hV
  have g1 : decide ((1048576 : Int) < (a0.size : Int)) = false := decide_eq_false (by omega)
  have g2 : decide (1048576 < a0.size) = false := decide_eq_false (by omega)
  clear hg
  have E_SP := Aside0.mk e_sp; clear e_sp
  have E_IM := Aside0.mk e_im; clear e_im
  have E_EQ0 := Aside0.mk e_eq0; clear e_eq0
  have E_MR0 := Aside0.mk e_mr0; clear e_mr0
  have g_m0 : decide (m0 < 0) = false := decide_eq_false (by omega)
  clear p_m0
  have E_HR0 := Aside0.mk e_hr0; clear e_hr0
  go_enter Tryd.func4, Tryd.ntmps4
  go_wp2_with (fail)
  refine (spec_ParseMatrix.calls k a0 r0 r1 _  E_SP.out).mono ?_
  rintro e w1 ⟨v_, rfl, hs_, hb⟩
  obtain ⟨lo_w0, hi_w0, oa_w0, ob_w0, hm_⟩ := Mem.S.made' (w.heap.size) hs_ (by repeat (first | exact HB.out | apply below_alloc | apply pw_below_drewN | apply below_drew1)) hb (Below.size (by repeat (first | exact HB.out | apply below_alloc | apply pw_below_drewN | apply below_drew1)))
  clear hs_
  have OA_w0 := Aside0.mk oa_w0; have OB_w0 := Aside0.mk ob_w0; clear oa_w0 ob_w0
  obtain ⟨A_w0, c_w0, rfl, _, _⟩ := hm_.reads
  have H_w0 := Aside0.mk hm_; clear hm_
  have n0_ := Aside0.mk (below_step (by repeat (first | exact HB.out | apply below_alloc | apply pw_below_drewN | apply below_drew1)) hb)
  clear HB
  have HB := n0_
  clear n0_
  clear hb
  have OX_w0 : Aside0 (hi_w0 ≤ w1.heap.size) := ⟨Mem.S.size H_w0.out⟩
  go_wp2_with (fail)
  refine (impl_ParseMatrix.calls k a0 r0 r1 _ (HV.out.below (by repeat (first | exact HB.out | apply below_alloc | apply pw_below_drewN | apply below_drew1))) E_IM.out).mono ?_
  rintro e w2 ⟨v_, rfl, hs_, hb⟩
  obtain ⟨lo_g0, hi_g0, oa_g0, ob_g0, hm_⟩ := Mem.S.made' (w1.heap.size + 1) hs_ (by repeat (first | exact HB.out | apply below_alloc | apply pw_below_drewN | apply below_drew1)) hb (Mem.X.lt (by repeat (first | exact Mem.X.new w1 _ _ | apply Mem.X.alloc | apply Mem.X.drewN | apply Mem.X.drew1)))
  clear hs_
  have OA_g0 := Aside0.mk oa_g0; have OB_g0 := Aside0.mk ob_g0; clear oa_g0 ob_g0
  obtain ⟨A_g0, c_g0, rfl, _, _⟩ := hm_.reads
  have H_g0 := Aside0.mk hm_; clear hm_
  have n0_ := Aside0.mk (below_step (by repeat (first | exact HB.out | apply below_alloc | apply pw_below_drewN | apply below_drew1)) hb)
  have n1_ := Aside0.mk (Mem.S.below (by repeat (first | exact H_w0.out | apply Mem.S.alloc | apply Mem.S.drewN | apply Mem.S.drew1)) hb)
  have n2_ := Aside0.mk (Mem.X.below (by repeat (first | exact Mem.X.new w1 _ _ | apply Mem.X.alloc | apply Mem.X.drewN | apply Mem.X.drew1)) hb)
  clear HB H_w0
  have HB := n0_
  have H_w0 := n1_
  have X_w0 := n2_
  clear n0_ n1_ n2_
  have c_X_w0 : w2.cell? ⟨w1.heap.size, 0, none⟩ = some (.slice A_w0 r0.length c_w0) := (X_w0.out.cell 0).trans rfl
  have d_X_w0 : ∀ o, (w2.alloc o).cell? ⟨w1.heap.size, 0, none⟩ = some (.slice A_w0 r0.length c_w0) := fun o => (X_w0.out.cellA 0 o).trans rfl
  clear hb
  have OX_g0 : Aside0 (hi_g0 ≤ w2.heap.size) := ⟨Mem.S.size H_g0.out⟩
  go_wp2_with (fail)
  refine (laws_eqMatrix.calls k A_g0 c_g0 r0 A_w0 c_w0 r0 true _ ?s1 ?s2 ?s3 ?s4 E_EQ0.out).mono ?_
  case s1 => exact Mem.S.now (by repeat (first | exact H_g0.out | apply Mem.S.alloc | apply Mem.S.drewN | apply Mem.S.drew1))
  case s2 => exact Mem.S.cap (W := w2) H_g0.out
  case s3 => exact Mem.S.now (by repeat (first | exact H_w0.out | apply Mem.S.alloc | apply Mem.S.drewN | apply Mem.S.drew1))
  case s4 => exact Mem.S.cap (W := w2) H_w0.out
  rintro e w3 ⟨rfl, hb⟩
  have n0_ := Aside0.mk (below_step (by repeat (first | exact HB.out | apply below_alloc | apply pw_below_drewN | apply below_drew1)) hb)
  have n1_ := Aside0.mk (Mem.S.below (by repeat (first | exact H_w0.out | apply Mem.S.alloc | apply Mem.S.drewN | apply Mem.S.drew1)) hb)
  have n2_ := Aside0.mk (Mem.X.below (by repeat (first | exact X_w0.out | apply Mem.X.alloc | apply Mem.X.drewN | apply Mem.X.drew1)) hb)
  have n3_ := Aside0.mk (Mem.S.below (by repeat (first | exact H_g0.out | apply Mem.S.alloc | apply Mem.S.drewN | apply Mem.S.drew1)) hb)
  have n4_ := Aside0.mk (Mem.X.below (by repeat (first | exact Mem.X.new w2 _ _ | apply Mem.X.alloc | apply Mem.X.drewN | apply Mem.X.drew1)) hb)
  clear c_X_w0 d_X_w0
  clear HB H_w0 X_w0 H_g0
  have HB := n0_
  have H_w0 := n1_
  have X_w0 := n2_
  have H_g0 := n3_
  have X_g0 := n4_
  clear n0_ n1_ n2_ n3_ n4_
  have c_X_w0 : w3.cell? ⟨w1.heap.size, 0, none⟩ = some (.slice A_w0 r0.length c_w0) := (X_w0.out.cell 0).trans rfl
  have d_X_w0 : ∀ o, (w3.alloc o).cell? ⟨w1.heap.size, 0, none⟩ = some (.slice A_w0 r0.length c_w0) := fun o => (X_w0.out.cellA 0 o).trans rfl
  have c_X_g0 : w3.cell? ⟨w2.heap.size, 0, none⟩ = some (.slice A_g0 r0.length c_g0) := (X_g0.out.cell 0).trans rfl
  have d_X_g0 : ∀ o, (w3.alloc o).cell? ⟨w2.heap.size, 0, none⟩ = some (.slice A_g0 r0.length c_g0) := fun o => (X_g0.out.cellA 0 o).trans rfl
  clear hb
  go_wp2_with (fail)
  refine (laws_markMatrix.writes k (fun k_ => lo_g0 ≤ k_ ∧ k_ < hi_g0) _ r0 1 m0 rg0 w _ (by repeat (first | exact HB.out | apply below_alloc | apply pw_below_drewN | apply below_drew1)) ?s1 E_MR0.out).mono ?_
  case s1 => exact Mem.S.rows (by repeat (first | exact H_g0.out | apply Mem.S.alloc | apply Mem.S.drewN | apply Mem.S.drew1))
  rintro e w4 ⟨rfl, hS2, hB2, hK2⟩
  have n0_ := Aside0.mk (hB2)
  have n1_ := Aside0.mk (Mem.S.kept (by repeat (first | exact H_w0.out | apply Mem.S.alloc | apply Mem.S.drewN | apply Mem.S.drew1)) hK2 (by have := OA_w0.out; have := OB_w0.out; have := OX_w0.out; have := OA_g0.out; have := OB_g0.out; have := OX_g0.out; omega))
  have n2_ := Aside0.mk (Mem.X.kept (by repeat (first | exact X_w0.out | apply Mem.X.alloc | apply Mem.X.drewN | apply Mem.X.drew1)) hK2 (by have := OA_w0.out; have := OB_w0.out; have := OX_w0.out; have := OA_g0.out; have := OB_g0.out; have := OX_g0.out; omega))
  have n3_ := Aside0.mk (Mem.S.write (by repeat (first | exact H_g0.out | apply Mem.S.alloc | apply Mem.S.drewN | apply Mem.S.drew1)) hK2 hS2)
  have n4_ := Aside0.mk (Mem.X.kept (by repeat (first | exact X_g0.out | apply Mem.X.alloc | apply Mem.X.drewN | apply Mem.X.drew1)) hK2 (by have := OA_w0.out; have := OB_w0.out; have := OX_w0.out; have := OA_g0.out; have := OB_g0.out; have := OX_g0.out; omega))
  clear c_X_w0 d_X_w0 c_X_g0 d_X_g0
  clear HB H_w0 X_w0 H_g0 X_g0
  have HB := n0_
  have H_w0 := n1_
  have X_w0 := n2_
  have H_g0 := n3_
  have X_g0 := n4_
  clear n0_ n1_ n2_ n3_ n4_
  have c_X_w0 : w4.cell? ⟨w1.heap.size, 0, none⟩ = some (.slice A_w0 r0.length c_w0) := (X_w0.out.cell 0).trans rfl
  have d_X_w0 : ∀ o, (w4.alloc o).cell? ⟨w1.heap.size, 0, none⟩ = some (.slice A_w0 r0.length c_w0) := fun o => (X_w0.out.cellA 0 o).trans rfl
  have c_X_g0 : w4.cell? ⟨w2.heap.size, 0, none⟩ = some (.slice A_g0 r0.length c_g0) := (X_g0.out.cell 0).trans rfl
  have d_X_g0 : ∀ o, (w4.alloc o).cell? ⟨w2.heap.size, 0, none⟩ = some (.slice A_g0 r0.length c_g0) := fun o => (X_g0.out.cellA 0 o).trans rfl
  clear hB2 hK2
  clear hS2
  have LEN0 := Aside0.mk (Mem.S.len H_g0.out)
  go_wp2_with (fail)
  refine calls_of_args (args' := #[.agg #[.slice A_g0 rg0.length c_g0], .int .i64 1]) (by rw [LEN0.out]) ?_
  refine (laws_heldMatrix.calls k A_g0 c_g0 rg0 1 m0 _ ?s1 ?s2 E_HR0.out).mono ?_
  case s1 => exact Mem.S.now (by repeat (first | exact H_g0.out | apply Mem.S.alloc | apply Mem.S.drewN | apply Mem.S.drew1))
  case s2 => exact Mem.S.cap (W := w4) H_g0.out
  rintro e w5 ⟨rfl, hb⟩
  have n0_ := Aside0.mk (below_step (by repeat (first | exact HB.out | apply below_alloc | apply pw_below_drewN | apply below_drew1)) hb)
  have n1_ := Aside0.mk (Mem.S.below (by repeat (first | exact H_w0.out | apply Mem.S.alloc | apply Mem.S.drewN | apply Mem.S.drew1)) hb)
  have n2_ := Aside0.mk (Mem.X.below (by repeat (first | exact X_w0.out | apply Mem.X.alloc | apply Mem.X.drewN | apply Mem.X.drew1)) hb)
  have n3_ := Aside0.mk (Mem.S.below (by repeat (first | exact H_g0.out | apply Mem.S.alloc | apply Mem.S.drewN | apply Mem.S.drew1)) hb)
  have n4_ := Aside0.mk (Mem.X.below (by repeat (first | exact X_g0.out | apply Mem.X.alloc | apply Mem.X.drewN | apply Mem.X.drew1)) hb)
  clear c_X_w0 d_X_w0 c_X_g0 d_X_g0
  clear HB H_w0 X_w0 H_g0 X_g0
  have HB := n0_
  have H_w0 := n1_
  have X_w0 := n2_
  have H_g0 := n3_
  have X_g0 := n4_
  clear n0_ n1_ n2_ n3_ n4_
  have c_X_w0 : w5.cell? ⟨w1.heap.size, 0, none⟩ = some (.slice A_w0 r0.length c_w0) := (X_w0.out.cell 0).trans rfl
  have d_X_w0 : ∀ o, (w5.alloc o).cell? ⟨w1.heap.size, 0, none⟩ = some (.slice A_w0 r0.length c_w0) := fun o => (X_w0.out.cellA 0 o).trans rfl
  have c_X_g0 : w5.cell? ⟨w2.heap.size, 0, none⟩ = some (.slice A_g0 r0.length c_g0) := (X_g0.out.cell 0).trans rfl
  have d_X_g0 : ∀ o, (w5.alloc o).cell? ⟨w2.heap.size, 0, none⟩ = some (.slice A_g0 r0.length c_g0) := fun o => (X_g0.out.cellA 0 o).trans rfl
  clear hb
  go_wp2_with (fail)
  refine (impl_ParseMatrix.calls k a0 r0 r1 _ (HV.out.below (by repeat (first | exact HB.out | apply below_alloc | apply pw_below_drewN | apply below_drew1))) E_IM.out).mono ?_
  rintro e w6 ⟨v_, rfl, hs_, hb⟩
  obtain ⟨lo_h0, hi_h0, oa_h0, ob_h0, hm_⟩ := Mem.S.made' (w2.heap.size + 1) hs_ (by repeat (first | exact HB.out | apply below_alloc | apply pw_below_drewN | apply below_drew1)) hb (Mem.X.lt (by repeat (first | exact X_g0.out | apply Mem.X.alloc | apply Mem.X.drewN | apply Mem.X.drew1)))
  clear hs_
  have OA_h0 := Aside0.mk oa_h0; have OB_h0 := Aside0.mk ob_h0; clear oa_h0 ob_h0
  obtain ⟨A_h0, c_h0, rfl, _, _⟩ := hm_.reads
  have H_h0 := Aside0.mk hm_; clear hm_
  have n0_ := Aside0.mk (below_step (by repeat (first | exact HB.out | apply below_alloc | apply pw_below_drewN | apply below_drew1)) hb)
  have n1_ := Aside0.mk (Mem.S.below (by repeat (first | exact H_w0.out | apply Mem.S.alloc | apply Mem.S.drewN | apply Mem.S.drew1)) hb)
  have n2_ := Aside0.mk (Mem.X.below (by repeat (first | exact X_w0.out | apply Mem.X.alloc | apply Mem.X.drewN | apply Mem.X.drew1)) hb)
  have n3_ := Aside0.mk (Mem.S.below (by repeat (first | exact H_g0.out | apply Mem.S.alloc | apply Mem.S.drewN | apply Mem.S.drew1)) hb)
  have n4_ := Aside0.mk (Mem.X.below (by repeat (first | exact X_g0.out | apply Mem.X.alloc | apply Mem.X.drewN | apply Mem.X.drew1)) hb)
  clear c_X_w0 d_X_w0 c_X_g0 d_X_g0
  clear HB H_w0 X_w0 H_g0 X_g0
  have HB := n0_
  have H_w0 := n1_
  have X_w0 := n2_
  have H_g0 := n3_
  have X_g0 := n4_
  clear n0_ n1_ n2_ n3_ n4_
  have c_X_w0 : w6.cell? ⟨w1.heap.size, 0, none⟩ = some (.slice A_w0 r0.length c_w0) := (X_w0.out.cell 0).trans rfl
  have d_X_w0 : ∀ o, (w6.alloc o).cell? ⟨w1.heap.size, 0, none⟩ = some (.slice A_w0 r0.length c_w0) := fun o => (X_w0.out.cellA 0 o).trans rfl
  have c_X_g0 : w6.cell? ⟨w2.heap.size, 0, none⟩ = some (.slice A_g0 r0.length c_g0) := (X_g0.out.cell 0).trans rfl
  have d_X_g0 : ∀ o, (w6.alloc o).cell? ⟨w2.heap.size, 0, none⟩ = some (.slice A_g0 r0.length c_g0) := fun o => (X_g0.out.cellA 0 o).trans rfl
  clear hb
  have OX_h0 : Aside0 (hi_h0 ≤ w6.heap.size) := ⟨Mem.S.size H_h0.out⟩
  go_wp2_with (fail)
  refine (laws_eqMatrix.calls k A_h0 c_h0 r0 A_w0 c_w0 r0 true _ ?s1 ?s2 ?s3 ?s4 E_EQ0.out).mono ?_
  case s1 => exact Mem.S.now (by repeat (first | exact H_h0.out | apply Mem.S.alloc | apply Mem.S.drewN | apply Mem.S.drew1))
  case s2 => exact Mem.S.cap (W := w6) H_h0.out
  case s3 => exact Mem.S.now (by repeat (first | exact H_w0.out | apply Mem.S.alloc | apply Mem.S.drewN | apply Mem.S.drew1))
  case s4 => exact Mem.S.cap (W := w6) H_w0.out
  rintro e w7 ⟨rfl, hb⟩
  have n0_ := Aside0.mk (below_step (by repeat (first | exact HB.out | apply below_alloc | apply pw_below_drewN | apply below_drew1)) hb)
  have n1_ := Aside0.mk (Mem.S.below (by repeat (first | exact H_w0.out | apply Mem.S.alloc | apply Mem.S.drewN | apply Mem.S.drew1)) hb)
  have n2_ := Aside0.mk (Mem.X.below (by repeat (first | exact X_w0.out | apply Mem.X.alloc | apply Mem.X.drewN | apply Mem.X.drew1)) hb)
  have n3_ := Aside0.mk (Mem.S.below (by repeat (first | exact H_g0.out | apply Mem.S.alloc | apply Mem.S.drewN | apply Mem.S.drew1)) hb)
  have n4_ := Aside0.mk (Mem.X.below (by repeat (first | exact X_g0.out | apply Mem.X.alloc | apply Mem.X.drewN | apply Mem.X.drew1)) hb)
  have n5_ := Aside0.mk (Mem.S.below (by repeat (first | exact H_h0.out | apply Mem.S.alloc | apply Mem.S.drewN | apply Mem.S.drew1)) hb)
  have n6_ := Aside0.mk (Mem.X.below (by repeat (first | exact Mem.X.new w6 _ _ | apply Mem.X.alloc | apply Mem.X.drewN | apply Mem.X.drew1)) hb)
  clear c_X_w0 d_X_w0 c_X_g0 d_X_g0
  clear HB H_w0 X_w0 H_g0 X_g0 H_h0
  have HB := n0_
  have H_w0 := n1_
  have X_w0 := n2_
  have H_g0 := n3_
  have X_g0 := n4_
  have H_h0 := n5_
  have X_h0 := n6_
  clear n0_ n1_ n2_ n3_ n4_ n5_ n6_
  have c_X_w0 : w7.cell? ⟨w1.heap.size, 0, none⟩ = some (.slice A_w0 r0.length c_w0) := (X_w0.out.cell 0).trans rfl
  have d_X_w0 : ∀ o, (w7.alloc o).cell? ⟨w1.heap.size, 0, none⟩ = some (.slice A_w0 r0.length c_w0) := fun o => (X_w0.out.cellA 0 o).trans rfl
  have c_X_g0 : w7.cell? ⟨w2.heap.size, 0, none⟩ = some (.slice A_g0 r0.length c_g0) := (X_g0.out.cell 0).trans rfl
  have d_X_g0 : ∀ o, (w7.alloc o).cell? ⟨w2.heap.size, 0, none⟩ = some (.slice A_g0 r0.length c_g0) := fun o => (X_g0.out.cellA 0 o).trans rfl
  have c_X_h0 : w7.cell? ⟨w6.heap.size, 0, none⟩ = some (.slice A_h0 r0.length c_h0) := (X_h0.out.cell 0).trans rfl
  have d_X_h0 : ∀ o, (w7.alloc o).cell? ⟨w6.heap.size, 0, none⟩ = some (.slice A_h0 r0.length c_h0) := fun o => (X_h0.out.cellA 0 o).trans rfl
  clear hb
  go_wp2_with (fail)
  refine calls_of_args (args' := #[.agg #[.slice A_g0 rg0.length c_g0], .int .i64 1]) (by rw [LEN0.out]) ?_
  refine (laws_heldMatrix.calls k A_g0 c_g0 rg0 1 m0 _ ?s1 ?s2 E_HR0.out).mono ?_
  case s1 => exact Mem.S.now (by repeat (first | exact H_g0.out | apply Mem.S.alloc | apply Mem.S.drewN | apply Mem.S.drew1))
  case s2 => exact Mem.S.cap (W := w7) H_g0.out
  rintro e w8 ⟨rfl, hb⟩
  have n0_ := Aside0.mk (below_step (by repeat (first | exact HB.out | apply below_alloc | apply pw_below_drewN | apply below_drew1)) hb)
  have n1_ := Aside0.mk (Mem.S.below (by repeat (first | exact H_w0.out | apply Mem.S.alloc | apply Mem.S.drewN | apply Mem.S.drew1)) hb)
  have n2_ := Aside0.mk (Mem.X.below (by repeat (first | exact X_w0.out | apply Mem.X.alloc | apply Mem.X.drewN | apply Mem.X.drew1)) hb)
  have n3_ := Aside0.mk (Mem.S.below (by repeat (first | exact H_g0.out | apply Mem.S.alloc | apply Mem.S.drewN | apply Mem.S.drew1)) hb)
  have n4_ := Aside0.mk (Mem.X.below (by repeat (first | exact X_g0.out | apply Mem.X.alloc | apply Mem.X.drewN | apply Mem.X.drew1)) hb)
  have n5_ := Aside0.mk (Mem.S.below (by repeat (first | exact H_h0.out | apply Mem.S.alloc | apply Mem.S.drewN | apply Mem.S.drew1)) hb)
  have n6_ := Aside0.mk (Mem.X.below (by repeat (first | exact X_h0.out | apply Mem.X.alloc | apply Mem.X.drewN | apply Mem.X.drew1)) hb)
  clear c_X_w0 d_X_w0 c_X_g0 d_X_g0 c_X_h0 d_X_h0
  clear HB H_w0 X_w0 H_g0 X_g0 H_h0 X_h0
  have HB := n0_
  have H_w0 := n1_
  have X_w0 := n2_
  have H_g0 := n3_
  have X_g0 := n4_
  have H_h0 := n5_
  have X_h0 := n6_
  clear n0_ n1_ n2_ n3_ n4_ n5_ n6_
  have c_X_w0 : w8.cell? ⟨w1.heap.size, 0, none⟩ = some (.slice A_w0 r0.length c_w0) := (X_w0.out.cell 0).trans rfl
  have d_X_w0 : ∀ o, (w8.alloc o).cell? ⟨w1.heap.size, 0, none⟩ = some (.slice A_w0 r0.length c_w0) := fun o => (X_w0.out.cellA 0 o).trans rfl
  have c_X_g0 : w8.cell? ⟨w2.heap.size, 0, none⟩ = some (.slice A_g0 r0.length c_g0) := (X_g0.out.cell 0).trans rfl
  have d_X_g0 : ∀ o, (w8.alloc o).cell? ⟨w2.heap.size, 0, none⟩ = some (.slice A_g0 r0.length c_g0) := fun o => (X_g0.out.cellA 0 o).trans rfl
  have c_X_h0 : w8.cell? ⟨w6.heap.size, 0, none⟩ = some (.slice A_h0 r0.length c_h0) := (X_h0.out.cell 0).trans rfl
  have d_X_h0 : ∀ o, (w8.alloc o).cell? ⟨w6.heap.size, 0, none⟩ = some (.slice A_h0 r0.length c_h0) := fun o => (X_h0.out.cellA 0 o).trans rfl
  clear hb
  go_wp2
  go_ret
  exact ⟨rfl, (by repeat (first | exact HB.out | apply below_alloc | apply pw_below_drewN | apply below_drew1))⟩
/-- What the plain side has to show. -/
def laws_FnExactParseMatrix.Plain (a0 : ByteArray) : Prop := a0.size ≤ 1048576 → ∃ (k : Nat), ∃ (r0 : List (List Int)) (r1 : Bool) (m0 : Int) (rg0 : List (List Int)), spec_ParseMatrix.f k a0 = some (r0, r1) ∧ impl_ParseMatrix.f k a0 = some (r0, r1) ∧ laws_eqMatrix.f k r0 r0 = some true ∧ laws_markMatrix.f k r0 1 = some (m0, rg0) ∧ 0 ≤ m0 ∧ laws_heldMatrix.f k rg0 1 = some m0
theorem laws_FnExactParseMatrix.whole (a0 : ByteArray) (w : World) (hV : VarsP w)  (h : laws_FnExactParseMatrix.Plain a0) :
    Calls Tryd.prog 4 #[.string a0] w fun e w' => e = .returned (.bool true) ∧ Below w.heap.size w w' := by
  by_cases hg : a0.size ≤ 1048576
  · obtain ⟨k, r0, r1, m0, rg0, q0, q1, q2, q3, q4, q5⟩ := h hg
    exact laws_FnExactParseMatrix.near k a0 w hV  r0 r1 m0 rg0 hg q0 q1 q2 q3 q4 q5
  · exact laws_FnExactParseMatrix.far a0 w hV hg
end Go.Proofs.YtadflnoofnonoaaDoor.Px
