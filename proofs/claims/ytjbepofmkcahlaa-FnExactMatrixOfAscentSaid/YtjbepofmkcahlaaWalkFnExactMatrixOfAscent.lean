/- The walk of FnExactMatrixOfAscent: on the way that answers true. -/
import Derived.Test.YtjbepofmkcahlaaM10
import Derived.Test.YtjbepofmkcahlaaM11
import Derived.Test.YtjbepofmkcahlaaM5
import Derived.Test.YtjbepofmkcahlaaXMem
namespace Go.Proofs.Ytjbepofmkcahlaa.M
open Go.RowKit Go.Proofs.YtjbepofmkcahlaaW.PrintWords Go.Proofs.YtjbepofmkcahlaaW.PrintLast Go.Proofs.YtjbepofmkcahlaaW.PrintMore
attribute [local go_sem] max2_int min2_int max_two min_two max_three min_three max_four min_four
set_option linter.unusedVariables false
set_option linter.unusedSimpArgs false
set_option maxHeartbeats 8000000 in
set_option maxRecDepth 100000 in
/-- Where the list is too long the law says true at once. -/
theorem laws_FnExactMatrixOfAscent.far (A0 : Option Addr) (c0 : Nat) (l0 : List Int) (w : World) (hg : ¬ l0.length ≤ 1048576) :
    Calls Try.prog 4 #[.slice A0 l0.length c0] w fun e w' => e = .returned (.bool true) ∧ Below w.heap.size w w' := by
  have g1 : decide ((1048576 : Int) < (l0.length : Int)) = true := decide_eq_true (by omega)
  have g2 : decide (1048576 < l0.length) = true := decide_eq_true (by omega)
  clear hg
  have HB := Aside0.mk (Below.refl w.heap.size w)
  go_enter Try.func4, Try.ntmps4
  go_wp2
  go_ret
  exact ⟨rfl, (by repeat (first | exact HB.out | apply below_alloc | apply pw_below_drewN | apply below_drew1))⟩
set_option maxHeartbeats 8000000 in
set_option maxRecDepth 100000 in
theorem laws_FnExactMatrixOfAscent.near (k : Nat) (A0 : Option Addr) (c0 : Nat) (l0 : List Int) (w : World) (hr0 : Kd.C (Kd.int .i64) w A0 l0.length l0) (hc0 : l0.length ≤ c0) (r0 : List (List Int)) (r1 : Bool) (x0 : Int) (lx0 : List Int) (m0 : Int) (rg0 : List (List Int)) (hg : l0.length ≤ 1048576) (e_to0 : laws_toIntS.f k l0 = some l0) (e_sp : spec_MatrixOfAscent.f k l0 = some (r0, r1)) (e_im : impl_MatrixOfAscent.f k l0 = some (r0, r1)) (e_eq0 : laws_eqMatrix.f k r0 r0 = some true) (e_ex0 : laws_eqIntS.f k l0 l0 = some true) (e_mx0 : laws_markIntS.f k l0 1 = some (x0, lx0)) (p_x0 : 0 ≤ x0) (e_mr0 : laws_markMatrix.f k r0 1 = some (m0, rg0)) (p_m0 : 0 ≤ m0) (e_hr0 : laws_heldMatrix.f k rg0 1 = some m0) :
    Calls Try.prog 4 #[.slice A0 l0.length c0] w fun e w' => e = .returned (.bool true) ∧ Below w.heap.size w w' := by
  have HC0 := Aside0.mk hr0; have HL0 := Aside0.mk hc0; clear hr0 hc0
  have HB := Aside0.mk (Below.refl w.heap.size w)
  have g1 : decide ((1048576 : Int) < (l0.length : Int)) = false := decide_eq_false (by omega)
  have g2 : decide (1048576 < l0.length) = false := decide_eq_false (by omega)
  clear hg
  have E_TO0 := Aside0.mk e_to0; clear e_to0
  have E_SP := Aside0.mk e_sp; clear e_sp
  have E_IM := Aside0.mk e_im; clear e_im
  have E_EQ0 := Aside0.mk e_eq0; clear e_eq0
  have E_EX0 := Aside0.mk e_ex0; clear e_ex0
  have E_MX0 := Aside0.mk e_mx0; clear e_mx0
  have g_x0 : decide (x0 < 0) = false := decide_eq_false (by omega)
  clear p_x0
  have E_MR0 := Aside0.mk e_mr0; clear e_mr0
  have g_m0 : decide (m0 < 0) = false := decide_eq_false (by omega)
  clear p_m0
  have E_HR0 := Aside0.mk e_hr0; clear e_hr0
  go_enter Try.func4, Try.ntmps4
  go_wp2_with (fail)
  refine (laws_toIntS.calls k A0 c0 l0 l0 _ ?s1 HL0.out E_TO0.out).mono ?_
  case s1 => exact Kd.C_below HC0.out (by repeat (first | exact HB.out | apply below_alloc | apply pw_below_drewN | apply below_drew1))
  rintro e w1 ⟨v_, rfl, hs_, hb⟩
  obtain ⟨lo_a0, hi_a0, oa_a0, ob_a0, hm_⟩ := Mem.R.made' (w.heap.size) hs_ (by repeat (first | exact HB.out | apply below_alloc | apply pw_below_drewN | apply below_drew1)) hb (Below.size (by repeat (first | exact HB.out | apply below_alloc | apply pw_below_drewN | apply below_drew1)))
  clear hs_
  have OA_a0 := Aside0.mk oa_a0; have OB_a0 := Aside0.mk ob_a0; clear oa_a0 ob_a0
  obtain ⟨A_a0, c_a0, rfl, _, _⟩ := hm_.reads
  have H_a0 := Aside0.mk hm_; clear hm_
  have n0_ := Aside0.mk (below_step (by repeat (first | exact HB.out | apply below_alloc | apply pw_below_drewN | apply below_drew1)) hb)
  clear HB
  have HB := n0_
  clear n0_
  clear hb
  go_wp2_with (fail)
  refine (spec_MatrixOfAscent.calls k A_a0 c_a0 l0 r0 r1 _ ?s0 ?t0 E_SP.out).mono ?_
  case s0 => exact Mem.R.now (by repeat (first | exact H_a0.out | apply Mem.R.alloc | apply Mem.R.drewN | apply Mem.R.drew1))
  case t0 => exact Mem.R.cap (W := w1) H_a0.out
  rintro e w2 ⟨v_, rfl, hs_, hb⟩
  obtain ⟨lo_w0, hi_w0, oa_w0, ob_w0, hm_⟩ := Mem.S.made' (hi_a0) hs_ (by repeat (first | exact HB.out | apply below_alloc | apply pw_below_drewN | apply below_drew1)) hb (Mem.R.size (by repeat (first | exact H_a0.out | apply Mem.R.alloc | apply Mem.R.drewN | apply Mem.R.drew1)))
  clear hs_
  have OA_w0 := Aside0.mk oa_w0; have OB_w0 := Aside0.mk ob_w0; clear oa_w0 ob_w0
  obtain ⟨A_w0, c_w0, rfl, _, _⟩ := hm_.reads
  have H_w0 := Aside0.mk hm_; clear hm_
  have n0_ := Aside0.mk (below_step (by repeat (first | exact HB.out | apply below_alloc | apply pw_below_drewN | apply below_drew1)) hb)
  have n1_ := Aside0.mk (Mem.R.below (by repeat (first | exact H_a0.out | apply Mem.R.alloc | apply Mem.R.drewN | apply Mem.R.drew1)) hb)
  clear HB H_a0
  have HB := n0_
  have H_a0 := n1_
  clear n0_ n1_
  clear hb
  clear H_a0
  have OX_w0 : Aside0 (hi_w0 ≤ w2.heap.size) := ⟨Mem.S.size H_w0.out⟩
  go_wp2_with (fail)
  refine (laws_toIntS.calls k A0 c0 l0 l0 _ ?s1 HL0.out E_TO0.out).mono ?_
  case s1 => exact Kd.C_below HC0.out (by repeat (first | exact HB.out | apply below_alloc | apply pw_below_drewN | apply below_drew1))
  rintro e w3 ⟨v_, rfl, hs_, hb⟩
  obtain ⟨lo_x0, hi_x0, oa_x0, ob_x0, hm_⟩ := Mem.R.made' (w2.heap.size + 1) hs_ (by repeat (first | exact HB.out | apply below_alloc | apply pw_below_drewN | apply below_drew1)) hb (Mem.X.lt (by repeat (first | exact Mem.X.new w2 _ _ | apply Mem.X.alloc | apply Mem.X.drewN | apply Mem.X.drew1)))
  clear hs_
  have OA_x0 := Aside0.mk oa_x0; have OB_x0 := Aside0.mk ob_x0; clear oa_x0 ob_x0
  obtain ⟨A_x0, c_x0, rfl, _, _⟩ := hm_.reads
  have H_x0 := Aside0.mk hm_; clear hm_
  have n0_ := Aside0.mk (below_step (by repeat (first | exact HB.out | apply below_alloc | apply pw_below_drewN | apply below_drew1)) hb)
  have n1_ := Aside0.mk (Mem.S.below (by repeat (first | exact H_w0.out | apply Mem.S.alloc | apply Mem.S.drewN | apply Mem.S.drew1)) hb)
  have n2_ := Aside0.mk (Mem.X.below (by repeat (first | exact Mem.X.new w2 _ _ | apply Mem.X.alloc | apply Mem.X.drewN | apply Mem.X.drew1)) hb)
  clear HB H_w0
  have HB := n0_
  have H_w0 := n1_
  have X_w0 := n2_
  clear n0_ n1_ n2_
  have c_X_w0 : w3.cell? ⟨w2.heap.size, 0, none⟩ = some (.slice A_w0 r0.length c_w0) := (X_w0.out.cell 0).trans rfl
  have d_X_w0 : ∀ o, (w3.alloc o).cell? ⟨w2.heap.size, 0, none⟩ = some (.slice A_w0 r0.length c_w0) := fun o => (X_w0.out.cellA 0 o).trans rfl
  clear hb
  go_wp2_with (fail)
  refine (impl_MatrixOfAscent.calls k A_x0 c_x0 l0 r0 r1 _ ?s0 ?t0 E_IM.out).mono ?_
  case s0 => exact Mem.R.now (by repeat (first | exact H_x0.out | apply Mem.R.alloc | apply Mem.R.drewN | apply Mem.R.drew1))
  case t0 => exact Mem.R.cap (W := w3) H_x0.out
  rintro e w4 ⟨v_, rfl, hs_, hb⟩
  obtain ⟨lo_g0, hi_g0, oa_g0, ob_g0, hm_⟩ := Mem.S.made' (hi_x0) hs_ (by repeat (first | exact HB.out | apply below_alloc | apply pw_below_drewN | apply below_drew1)) hb (Mem.R.size (by repeat (first | exact H_x0.out | apply Mem.R.alloc | apply Mem.R.drewN | apply Mem.R.drew1)))
  clear hs_
  have OA_g0 := Aside0.mk oa_g0; have OB_g0 := Aside0.mk ob_g0; clear oa_g0 ob_g0
  obtain ⟨A_g0, c_g0, rfl, _, _⟩ := hm_.reads
  have H_g0 := Aside0.mk hm_; clear hm_
  have n0_ := Aside0.mk (below_step (by repeat (first | exact HB.out | apply below_alloc | apply pw_below_drewN | apply below_drew1)) hb)
  have n1_ := Aside0.mk (Mem.S.below (by repeat (first | exact H_w0.out | apply Mem.S.alloc | apply Mem.S.drewN | apply Mem.S.drew1)) hb)
  have n2_ := Aside0.mk (Mem.X.below (by repeat (first | exact X_w0.out | apply Mem.X.alloc | apply Mem.X.drewN | apply Mem.X.drew1)) hb)
  have n3_ := Aside0.mk (Mem.R.below (by repeat (first | exact H_x0.out | apply Mem.R.alloc | apply Mem.R.drewN | apply Mem.R.drew1)) hb)
  clear c_X_w0 d_X_w0
  clear HB H_w0 X_w0 H_x0
  have HB := n0_
  have H_w0 := n1_
  have X_w0 := n2_
  have H_x0 := n3_
  clear n0_ n1_ n2_ n3_
  have c_X_w0 : w4.cell? ⟨w2.heap.size, 0, none⟩ = some (.slice A_w0 r0.length c_w0) := (X_w0.out.cell 0).trans rfl
  have d_X_w0 : ∀ o, (w4.alloc o).cell? ⟨w2.heap.size, 0, none⟩ = some (.slice A_w0 r0.length c_w0) := fun o => (X_w0.out.cellA 0 o).trans rfl
  clear hb
  have OX_g0 : Aside0 (hi_g0 ≤ w4.heap.size) := ⟨Mem.S.size H_g0.out⟩
  go_wp2_with (fail)
  refine (laws_eqMatrix.calls k A_g0 c_g0 r0 A_w0 c_w0 r0 true _ ?s1 ?s2 ?s3 ?s4 E_EQ0.out).mono ?_
  case s1 => exact Mem.S.now (by repeat (first | exact H_g0.out | apply Mem.S.alloc | apply Mem.S.drewN | apply Mem.S.drew1))
  case s2 => exact Mem.S.cap (W := w4) H_g0.out
  case s3 => exact Mem.S.now (by repeat (first | exact H_w0.out | apply Mem.S.alloc | apply Mem.S.drewN | apply Mem.S.drew1))
  case s4 => exact Mem.S.cap (W := w4) H_w0.out
  rintro e w5 ⟨rfl, hb⟩
  have n0_ := Aside0.mk (below_step (by repeat (first | exact HB.out | apply below_alloc | apply pw_below_drewN | apply below_drew1)) hb)
  have n1_ := Aside0.mk (Mem.S.below (by repeat (first | exact H_w0.out | apply Mem.S.alloc | apply Mem.S.drewN | apply Mem.S.drew1)) hb)
  have n2_ := Aside0.mk (Mem.X.below (by repeat (first | exact X_w0.out | apply Mem.X.alloc | apply Mem.X.drewN | apply Mem.X.drew1)) hb)
  have n3_ := Aside0.mk (Mem.R.below (by repeat (first | exact H_x0.out | apply Mem.R.alloc | apply Mem.R.drewN | apply Mem.R.drew1)) hb)
  have n4_ := Aside0.mk (Mem.S.below (by repeat (first | exact H_g0.out | apply Mem.S.alloc | apply Mem.S.drewN | apply Mem.S.drew1)) hb)
  have n5_ := Aside0.mk (Mem.X.below (by repeat (first | exact Mem.X.new w4 _ _ | apply Mem.X.alloc | apply Mem.X.drewN | apply Mem.X.drew1)) hb)
  clear c_X_w0 d_X_w0
  clear HB H_w0 X_w0 H_x0 H_g0
  have HB := n0_
  have H_w0 := n1_
  have X_w0 := n2_
  have H_x0 := n3_
  have H_g0 := n4_
  have X_g0 := n5_
  clear n0_ n1_ n2_ n3_ n4_ n5_
  have c_X_w0 : w5.cell? ⟨w2.heap.size, 0, none⟩ = some (.slice A_w0 r0.length c_w0) := (X_w0.out.cell 0).trans rfl
  have d_X_w0 : ∀ o, (w5.alloc o).cell? ⟨w2.heap.size, 0, none⟩ = some (.slice A_w0 r0.length c_w0) := fun o => (X_w0.out.cellA 0 o).trans rfl
  have c_X_g0 : w5.cell? ⟨w4.heap.size, 0, none⟩ = some (.slice A_g0 r0.length c_g0) := (X_g0.out.cell 0).trans rfl
  have d_X_g0 : ∀ o, (w5.alloc o).cell? ⟨w4.heap.size, 0, none⟩ = some (.slice A_g0 r0.length c_g0) := fun o => (X_g0.out.cellA 0 o).trans rfl
  clear hb
  go_wp2_with (fail)
  refine (laws_toIntS.calls k A0 c0 l0 l0 _ ?s1 HL0.out E_TO0.out).mono ?_
  case s1 => exact Kd.C_below HC0.out (by repeat (first | exact HB.out | apply below_alloc | apply pw_below_drewN | apply below_drew1))
  rintro e w6 ⟨v_, rfl, hs_, hb⟩
  obtain ⟨lo_b0, hi_b0, oa_b0, ob_b0, hm_⟩ := Mem.R.made' (w4.heap.size + 1) hs_ (by repeat (first | exact HB.out | apply below_alloc | apply pw_below_drewN | apply below_drew1)) hb (Mem.X.lt (by repeat (first | exact X_g0.out | apply Mem.X.alloc | apply Mem.X.drewN | apply Mem.X.drew1)))
  clear hs_
  have OA_b0 := Aside0.mk oa_b0; have OB_b0 := Aside0.mk ob_b0; clear oa_b0 ob_b0
  obtain ⟨A_b0, c_b0, rfl, _, _⟩ := hm_.reads
  have H_b0 := Aside0.mk hm_; clear hm_
  have n0_ := Aside0.mk (below_step (by repeat (first | exact HB.out | apply below_alloc | apply pw_below_drewN | apply below_drew1)) hb)
  have n1_ := Aside0.mk (Mem.S.below (by repeat (first | exact H_w0.out | apply Mem.S.alloc | apply Mem.S.drewN | apply Mem.S.drew1)) hb)
  have n2_ := Aside0.mk (Mem.X.below (by repeat (first | exact X_w0.out | apply Mem.X.alloc | apply Mem.X.drewN | apply Mem.X.drew1)) hb)
  have n3_ := Aside0.mk (Mem.R.below (by repeat (first | exact H_x0.out | apply Mem.R.alloc | apply Mem.R.drewN | apply Mem.R.drew1)) hb)
  have n4_ := Aside0.mk (Mem.S.below (by repeat (first | exact H_g0.out | apply Mem.S.alloc | apply Mem.S.drewN | apply Mem.S.drew1)) hb)
  have n5_ := Aside0.mk (Mem.X.below (by repeat (first | exact X_g0.out | apply Mem.X.alloc | apply Mem.X.drewN | apply Mem.X.drew1)) hb)
  clear c_X_w0 d_X_w0 c_X_g0 d_X_g0
  clear HB H_w0 X_w0 H_x0 H_g0 X_g0
  have HB := n0_
  have H_w0 := n1_
  have X_w0 := n2_
  have H_x0 := n3_
  have H_g0 := n4_
  have X_g0 := n5_
  clear n0_ n1_ n2_ n3_ n4_ n5_
  have c_X_w0 : w6.cell? ⟨w2.heap.size, 0, none⟩ = some (.slice A_w0 r0.length c_w0) := (X_w0.out.cell 0).trans rfl
  have d_X_w0 : ∀ o, (w6.alloc o).cell? ⟨w2.heap.size, 0, none⟩ = some (.slice A_w0 r0.length c_w0) := fun o => (X_w0.out.cellA 0 o).trans rfl
  have c_X_g0 : w6.cell? ⟨w4.heap.size, 0, none⟩ = some (.slice A_g0 r0.length c_g0) := (X_g0.out.cell 0).trans rfl
  have d_X_g0 : ∀ o, (w6.alloc o).cell? ⟨w4.heap.size, 0, none⟩ = some (.slice A_g0 r0.length c_g0) := fun o => (X_g0.out.cellA 0 o).trans rfl
  clear hb
  go_wp2_with (fail)
  refine (laws_eqIntS.calls k A_x0 c_x0 l0 A_b0 c_b0 l0 true _ ?s1 ?s2 ?s3 ?s4 E_EX0.out).mono ?_
  case s1 => exact Mem.R.now (by repeat (first | exact H_x0.out | apply Mem.R.alloc | apply Mem.R.drewN | apply Mem.R.drew1))
  case s2 => exact Mem.R.cap (W := w6) H_x0.out
  case s3 => exact Mem.R.now (by repeat (first | exact H_b0.out | apply Mem.R.alloc | apply Mem.R.drewN | apply Mem.R.drew1))
  case s4 => exact Mem.R.cap (W := w6) H_b0.out
  rintro e w' ⟨rfl, ⟨nd8, rfl⟩⟩
  clear H_b0
  go_wp2_with (fail)
  refine (laws_markIntS.calls k (fun k_ => lo_x0 ≤ k_ ∧ k_ < hi_x0) _ l0 1 x0 lx0 w _ (by repeat (first | exact HB.out | apply below_alloc | apply pw_below_drewN | apply below_drew1)) ?s1 E_MX0.out).mono ?_
  case s1 => exact Mem.R.row (by repeat (first | exact H_x0.out | apply Mem.R.alloc | apply Mem.R.drewN | apply Mem.R.drew1))
  rintro e w8 ⟨rfl, hS2, hB2, hK2⟩
  clear hS2
  clear H_x0
  have n0_ := Aside0.mk (hB2)
  have n1_ := Aside0.mk (Mem.S.kept (by repeat (first | exact H_w0.out | apply Mem.S.alloc | apply Mem.S.drewN | apply Mem.S.drew1)) hK2 (by have := OA_a0.out; have := OB_a0.out; have := OA_w0.out; have := OB_w0.out; have := OX_w0.out; have := OA_x0.out; have := OB_x0.out; have := OA_g0.out; have := OB_g0.out; have := OX_g0.out; have := OA_b0.out; have := OB_b0.out; omega))
  have n2_ := Aside0.mk (Mem.X.kept (by repeat (first | exact X_w0.out | apply Mem.X.alloc | apply Mem.X.drewN | apply Mem.X.drew1)) hK2 (by have := OA_a0.out; have := OB_a0.out; have := OA_w0.out; have := OB_w0.out; have := OX_w0.out; have := OA_x0.out; have := OB_x0.out; have := OA_g0.out; have := OB_g0.out; have := OX_g0.out; have := OA_b0.out; have := OB_b0.out; omega))
  have n3_ := Aside0.mk (Mem.S.kept (by repeat (first | exact H_g0.out | apply Mem.S.alloc | apply Mem.S.drewN | apply Mem.S.drew1)) hK2 (by have := OA_a0.out; have := OB_a0.out; have := OA_w0.out; have := OB_w0.out; have := OX_w0.out; have := OA_x0.out; have := OB_x0.out; have := OA_g0.out; have := OB_g0.out; have := OX_g0.out; have := OA_b0.out; have := OB_b0.out; omega))
  have n4_ := Aside0.mk (Mem.X.kept (by repeat (first | exact X_g0.out | apply Mem.X.alloc | apply Mem.X.drewN | apply Mem.X.drew1)) hK2 (by have := OA_a0.out; have := OB_a0.out; have := OA_w0.out; have := OB_w0.out; have := OX_w0.out; have := OA_x0.out; have := OB_x0.out; have := OA_g0.out; have := OB_g0.out; have := OX_g0.out; have := OA_b0.out; have := OB_b0.out; omega))
  clear c_X_w0 d_X_w0 c_X_g0 d_X_g0
  clear HB H_w0 X_w0 H_g0 X_g0
  have HB := n0_
  have H_w0 := n1_
  have X_w0 := n2_
  have H_g0 := n3_
  have X_g0 := n4_
  clear n0_ n1_ n2_ n3_ n4_
  have c_X_w0 : w8.cell? ⟨w2.heap.size, 0, none⟩ = some (.slice A_w0 r0.length c_w0) := (X_w0.out.cell 0).trans rfl
  have d_X_w0 : ∀ o, (w8.alloc o).cell? ⟨w2.heap.size, 0, none⟩ = some (.slice A_w0 r0.length c_w0) := fun o => (X_w0.out.cellA 0 o).trans rfl
  have c_X_g0 : w8.cell? ⟨w4.heap.size, 0, none⟩ = some (.slice A_g0 r0.length c_g0) := (X_g0.out.cell 0).trans rfl
  have d_X_g0 : ∀ o, (w8.alloc o).cell? ⟨w4.heap.size, 0, none⟩ = some (.slice A_g0 r0.length c_g0) := fun o => (X_g0.out.cellA 0 o).trans rfl
  clear hB2 hK2
  go_wp2_with (fail)
  refine (laws_eqMatrix.calls k A_g0 c_g0 r0 A_w0 c_w0 r0 true _ ?s1 ?s2 ?s3 ?s4 E_EQ0.out).mono ?_
  case s1 => exact Mem.S.now (by repeat (first | exact H_g0.out | apply Mem.S.alloc | apply Mem.S.drewN | apply Mem.S.drew1))
  case s2 => exact Mem.S.cap (W := w8) H_g0.out
  case s3 => exact Mem.S.now (by repeat (first | exact H_w0.out | apply Mem.S.alloc | apply Mem.S.drewN | apply Mem.S.drew1))
  case s4 => exact Mem.S.cap (W := w8) H_w0.out
  rintro e w9 ⟨rfl, hb⟩
  have n0_ := Aside0.mk (below_step (by repeat (first | exact HB.out | apply below_alloc | apply pw_below_drewN | apply below_drew1)) hb)
  have n1_ := Aside0.mk (Mem.S.below (by repeat (first | exact H_w0.out | apply Mem.S.alloc | apply Mem.S.drewN | apply Mem.S.drew1)) hb)
  have n2_ := Aside0.mk (Mem.X.below (by repeat (first | exact X_w0.out | apply Mem.X.alloc | apply Mem.X.drewN | apply Mem.X.drew1)) hb)
  have n3_ := Aside0.mk (Mem.S.below (by repeat (first | exact H_g0.out | apply Mem.S.alloc | apply Mem.S.drewN | apply Mem.S.drew1)) hb)
  have n4_ := Aside0.mk (Mem.X.below (by repeat (first | exact X_g0.out | apply Mem.X.alloc | apply Mem.X.drewN | apply Mem.X.drew1)) hb)
  clear c_X_w0 d_X_w0 c_X_g0 d_X_g0
  clear HB H_w0 X_w0 H_g0 X_g0
  have HB := n0_
  have H_w0 := n1_
  have X_w0 := n2_
  have H_g0 := n3_
  have X_g0 := n4_
  clear n0_ n1_ n2_ n3_ n4_
  have c_X_w0 : w9.cell? ⟨w2.heap.size, 0, none⟩ = some (.slice A_w0 r0.length c_w0) := (X_w0.out.cell 0).trans rfl
  have d_X_w0 : ∀ o, (w9.alloc o).cell? ⟨w2.heap.size, 0, none⟩ = some (.slice A_w0 r0.length c_w0) := fun o => (X_w0.out.cellA 0 o).trans rfl
  have c_X_g0 : w9.cell? ⟨w4.heap.size, 0, none⟩ = some (.slice A_g0 r0.length c_g0) := (X_g0.out.cell 0).trans rfl
  have d_X_g0 : ∀ o, (w9.alloc o).cell? ⟨w4.heap.size, 0, none⟩ = some (.slice A_g0 r0.length c_g0) := fun o => (X_g0.out.cellA 0 o).trans rfl
  clear hb
  go_wp2_with (fail)
  refine (laws_markMatrix.writes k (fun k_ => lo_g0 ≤ k_ ∧ k_ < hi_g0) _ r0 1 m0 rg0 w _ (by repeat (first | exact HB.out | apply below_alloc | apply pw_below_drewN | apply below_drew1)) ?s1 E_MR0.out).mono ?_
  case s1 => exact Mem.S.rows (by repeat (first | exact H_g0.out | apply Mem.S.alloc | apply Mem.S.drewN | apply Mem.S.drew1))
  rintro e w10 ⟨rfl, hS2, hB2, hK2⟩
  have n0_ := Aside0.mk (hB2)
  have n1_ := Aside0.mk (Mem.S.kept (by repeat (first | exact H_w0.out | apply Mem.S.alloc | apply Mem.S.drewN | apply Mem.S.drew1)) hK2 (by have := OA_a0.out; have := OB_a0.out; have := OA_w0.out; have := OB_w0.out; have := OX_w0.out; have := OA_x0.out; have := OB_x0.out; have := OA_g0.out; have := OB_g0.out; have := OX_g0.out; have := OA_b0.out; have := OB_b0.out; omega))
  have n2_ := Aside0.mk (Mem.X.kept (by repeat (first | exact X_w0.out | apply Mem.X.alloc | apply Mem.X.drewN | apply Mem.X.drew1)) hK2 (by have := OA_a0.out; have := OB_a0.out; have := OA_w0.out; have := OB_w0.out; have := OX_w0.out; have := OA_x0.out; have := OB_x0.out; have := OA_g0.out; have := OB_g0.out; have := OX_g0.out; have := OA_b0.out; have := OB_b0.out; omega))
  have n3_ := Aside0.mk (Mem.S.write (by repeat (first | exact H_g0.out | apply Mem.S.alloc | apply Mem.S.drewN | apply Mem.S.drew1)) hK2 hS2)
  have n4_ := Aside0.mk (Mem.X.kept (by repeat (first | exact X_g0.out | apply Mem.X.alloc | apply Mem.X.drewN | apply Mem.X.drew1)) hK2 (by have := OA_a0.out; have := OB_a0.out; have := OA_w0.out; have := OB_w0.out; have := OX_w0.out; have := OA_x0.out; have := OB_x0.out; have := OA_g0.out; have := OB_g0.out; have := OX_g0.out; have := OA_b0.out; have := OB_b0.out; omega))
  clear c_X_w0 d_X_w0 c_X_g0 d_X_g0
  clear HB H_w0 X_w0 H_g0 X_g0
  have HB := n0_
  have H_w0 := n1_
  have X_w0 := n2_
  have H_g0 := n3_
  have X_g0 := n4_
  clear n0_ n1_ n2_ n3_ n4_
  have c_X_w0 : w10.cell? ⟨w2.heap.size, 0, none⟩ = some (.slice A_w0 r0.length c_w0) := (X_w0.out.cell 0).trans rfl
  have d_X_w0 : ∀ o, (w10.alloc o).cell? ⟨w2.heap.size, 0, none⟩ = some (.slice A_w0 r0.length c_w0) := fun o => (X_w0.out.cellA 0 o).trans rfl
  have c_X_g0 : w10.cell? ⟨w4.heap.size, 0, none⟩ = some (.slice A_g0 r0.length c_g0) := (X_g0.out.cell 0).trans rfl
  have d_X_g0 : ∀ o, (w10.alloc o).cell? ⟨w4.heap.size, 0, none⟩ = some (.slice A_g0 r0.length c_g0) := fun o => (X_g0.out.cellA 0 o).trans rfl
  clear hB2 hK2
  clear hS2
  have LEN0 := Aside0.mk (Mem.S.len H_g0.out)
  go_wp2_with (fail)
  refine calls_of_args (args' := #[.agg #[.slice A_g0 rg0.length c_g0], .int .i64 1]) (by rw [LEN0.out]) ?_
  refine (laws_heldMatrix.calls k A_g0 c_g0 rg0 1 m0 _ ?s1 ?s2 E_HR0.out).mono ?_
  case s1 => exact Mem.S.now (by repeat (first | exact H_g0.out | apply Mem.S.alloc | apply Mem.S.drewN | apply Mem.S.drew1))
  case s2 => exact Mem.S.cap (W := w10) H_g0.out
  rintro e w11 ⟨rfl, hb⟩
  have n0_ := Aside0.mk (below_step (by repeat (first | exact HB.out | apply below_alloc | apply pw_below_drewN | apply below_drew1)) hb)
  have n1_ := Aside0.mk (Mem.S.below (by repeat (first | exact H_w0.out | apply Mem.S.alloc | apply Mem.S.drewN | apply Mem.S.drew1)) hb)
  have n2_ := Aside0.mk (Mem.X.below (by repeat (first | exact X_w0.out | apply Mem.X.alloc | apply Mem.X.drewN | apply Mem.X.drew1)) hb)
  have n3_ := Aside0.mk (Mem.S.below (by repeat (first | exact H_g0.out | apply Mem.S.alloc | apply Mem.S.drewN | apply Mem.S.drew1)) hb)
  have n4_ := Aside0.mk (Mem.X.below (by repeat (first | exact X_g0.out | apply Mem.X.alloc | apply Mem.X.drewN | apply Mem.X.drew1)) hb)
  clear c_X_w0 d_X_w0 c_X_g0 d_X_g0
  clear HB H_w0 X_w0 H_g0 X_g0
  have HB := n0_
  have H_w0 := n1_
  have X_w0 := n2_
  have H_g0 := n3_
  have X_g0 := n4_
  clear n0_ n1_ n2_ n3_ n4_
  have c_X_w0 : w11.cell? ⟨w2.heap.size, 0, none⟩ = some (.slice A_w0 r0.length c_w0) := (X_w0.out.cell 0).trans rfl
  have d_X_w0 : ∀ o, (w11.alloc o).cell? ⟨w2.heap.size, 0, none⟩ = some (.slice A_w0 r0.length c_w0) := fun o => (X_w0.out.cellA 0 o).trans rfl
  have c_X_g0 : w11.cell? ⟨w4.heap.size, 0, none⟩ = some (.slice A_g0 r0.length c_g0) := (X_g0.out.cell 0).trans rfl
  have d_X_g0 : ∀ o, (w11.alloc o).cell? ⟨w4.heap.size, 0, none⟩ = some (.slice A_g0 r0.length c_g0) := fun o => (X_g0.out.cellA 0 o).trans rfl
  clear hb
  go_wp2_with (fail)
  refine (laws_toIntS.calls k A0 c0 l0 l0 _ ?s1 HL0.out E_TO0.out).mono ?_
  case s1 => exact Kd.C_below HC0.out (by repeat (first | exact HB.out | apply below_alloc | apply pw_below_drewN | apply below_drew1))
  rintro e w12 ⟨v_, rfl, hs_, hb⟩
  obtain ⟨lo_c0, hi_c0, oa_c0, ob_c0, hm_⟩ := Mem.R.made' (w4.heap.size + 1) hs_ (by repeat (first | exact HB.out | apply below_alloc | apply pw_below_drewN | apply below_drew1)) hb (Mem.X.lt (by repeat (first | exact X_g0.out | apply Mem.X.alloc | apply Mem.X.drewN | apply Mem.X.drew1)))
  clear hs_
  have OA_c0 := Aside0.mk oa_c0; have OB_c0 := Aside0.mk ob_c0; clear oa_c0 ob_c0
  obtain ⟨A_c0, c_c0, rfl, _, _⟩ := hm_.reads
  have H_c0 := Aside0.mk hm_; clear hm_
  have n0_ := Aside0.mk (below_step (by repeat (first | exact HB.out | apply below_alloc | apply pw_below_drewN | apply below_drew1)) hb)
  have n1_ := Aside0.mk (Mem.S.below (by repeat (first | exact H_w0.out | apply Mem.S.alloc | apply Mem.S.drewN | apply Mem.S.drew1)) hb)
  have n2_ := Aside0.mk (Mem.X.below (by repeat (first | exact X_w0.out | apply Mem.X.alloc | apply Mem.X.drewN | apply Mem.X.drew1)) hb)
  have n3_ := Aside0.mk (Mem.S.below (by repeat (first | exact H_g0.out | apply Mem.S.alloc | apply Mem.S.drewN | apply Mem.S.drew1)) hb)
  have n4_ := Aside0.mk (Mem.X.below (by repeat (first | exact X_g0.out | apply Mem.X.alloc | apply Mem.X.drewN | apply Mem.X.drew1)) hb)
  clear c_X_w0 d_X_w0 c_X_g0 d_X_g0
  clear HB H_w0 X_w0 H_g0 X_g0
  have HB := n0_
  have H_w0 := n1_
  have X_w0 := n2_
  have H_g0 := n3_
  have X_g0 := n4_
  clear n0_ n1_ n2_ n3_ n4_
  have c_X_w0 : w12.cell? ⟨w2.heap.size, 0, none⟩ = some (.slice A_w0 r0.length c_w0) := (X_w0.out.cell 0).trans rfl
  have d_X_w0 : ∀ o, (w12.alloc o).cell? ⟨w2.heap.size, 0, none⟩ = some (.slice A_w0 r0.length c_w0) := fun o => (X_w0.out.cellA 0 o).trans rfl
  have c_X_g0 : w12.cell? ⟨w4.heap.size, 0, none⟩ = some (.slice A_g0 r0.length c_g0) := (X_g0.out.cell 0).trans rfl
  have d_X_g0 : ∀ o, (w12.alloc o).cell? ⟨w4.heap.size, 0, none⟩ = some (.slice A_g0 r0.length c_g0) := fun o => (X_g0.out.cellA 0 o).trans rfl
  clear hb
  go_wp2_with (fail)
  refine (impl_MatrixOfAscent.calls k A_c0 c_c0 l0 r0 r1 _ ?s0 ?t0 E_IM.out).mono ?_
  case s0 => exact Mem.R.now (by repeat (first | exact H_c0.out | apply Mem.R.alloc | apply Mem.R.drewN | apply Mem.R.drew1))
  case t0 => exact Mem.R.cap (W := w12) H_c0.out
  rintro e w13 ⟨v_, rfl, hs_, hb⟩
  obtain ⟨lo_h0, hi_h0, oa_h0, ob_h0, hm_⟩ := Mem.S.made' (hi_c0) hs_ (by repeat (first | exact HB.out | apply below_alloc | apply pw_below_drewN | apply below_drew1)) hb (Mem.R.size (by repeat (first | exact H_c0.out | apply Mem.R.alloc | apply Mem.R.drewN | apply Mem.R.drew1)))
  clear hs_
  have OA_h0 := Aside0.mk oa_h0; have OB_h0 := Aside0.mk ob_h0; clear oa_h0 ob_h0
  obtain ⟨A_h0, c_h0, rfl, _, _⟩ := hm_.reads
  have H_h0 := Aside0.mk hm_; clear hm_
  have n0_ := Aside0.mk (below_step (by repeat (first | exact HB.out | apply below_alloc | apply pw_below_drewN | apply below_drew1)) hb)
  have n1_ := Aside0.mk (Mem.S.below (by repeat (first | exact H_w0.out | apply Mem.S.alloc | apply Mem.S.drewN | apply Mem.S.drew1)) hb)
  have n2_ := Aside0.mk (Mem.X.below (by repeat (first | exact X_w0.out | apply Mem.X.alloc | apply Mem.X.drewN | apply Mem.X.drew1)) hb)
  have n3_ := Aside0.mk (Mem.S.below (by repeat (first | exact H_g0.out | apply Mem.S.alloc | apply Mem.S.drewN | apply Mem.S.drew1)) hb)
  have n4_ := Aside0.mk (Mem.X.below (by repeat (first | exact X_g0.out | apply Mem.X.alloc | apply Mem.X.drewN | apply Mem.X.drew1)) hb)
  have n5_ := Aside0.mk (Mem.R.below (by repeat (first | exact H_c0.out | apply Mem.R.alloc | apply Mem.R.drewN | apply Mem.R.drew1)) hb)
  clear c_X_w0 d_X_w0 c_X_g0 d_X_g0
  clear HB H_w0 X_w0 H_g0 X_g0 H_c0
  have HB := n0_
  have H_w0 := n1_
  have X_w0 := n2_
  have H_g0 := n3_
  have X_g0 := n4_
  have H_c0 := n5_
  clear n0_ n1_ n2_ n3_ n4_ n5_
  have c_X_w0 : w13.cell? ⟨w2.heap.size, 0, none⟩ = some (.slice A_w0 r0.length c_w0) := (X_w0.out.cell 0).trans rfl
  have d_X_w0 : ∀ o, (w13.alloc o).cell? ⟨w2.heap.size, 0, none⟩ = some (.slice A_w0 r0.length c_w0) := fun o => (X_w0.out.cellA 0 o).trans rfl
  have c_X_g0 : w13.cell? ⟨w4.heap.size, 0, none⟩ = some (.slice A_g0 r0.length c_g0) := (X_g0.out.cell 0).trans rfl
  have d_X_g0 : ∀ o, (w13.alloc o).cell? ⟨w4.heap.size, 0, none⟩ = some (.slice A_g0 r0.length c_g0) := fun o => (X_g0.out.cellA 0 o).trans rfl
  clear hb
  clear H_c0
  have OX_h0 : Aside0 (hi_h0 ≤ w13.heap.size) := ⟨Mem.S.size H_h0.out⟩
  go_wp2_with (fail)
  refine (laws_eqMatrix.calls k A_h0 c_h0 r0 A_w0 c_w0 r0 true _ ?s1 ?s2 ?s3 ?s4 E_EQ0.out).mono ?_
  case s1 => exact Mem.S.now (by repeat (first | exact H_h0.out | apply Mem.S.alloc | apply Mem.S.drewN | apply Mem.S.drew1))
  case s2 => exact Mem.S.cap (W := w13) H_h0.out
  case s3 => exact Mem.S.now (by repeat (first | exact H_w0.out | apply Mem.S.alloc | apply Mem.S.drewN | apply Mem.S.drew1))
  case s4 => exact Mem.S.cap (W := w13) H_w0.out
  rintro e w14 ⟨rfl, hb⟩
  have n0_ := Aside0.mk (below_step (by repeat (first | exact HB.out | apply below_alloc | apply pw_below_drewN | apply below_drew1)) hb)
  have n1_ := Aside0.mk (Mem.S.below (by repeat (first | exact H_w0.out | apply Mem.S.alloc | apply Mem.S.drewN | apply Mem.S.drew1)) hb)
  have n2_ := Aside0.mk (Mem.X.below (by repeat (first | exact X_w0.out | apply Mem.X.alloc | apply Mem.X.drewN | apply Mem.X.drew1)) hb)
  have n3_ := Aside0.mk (Mem.S.below (by repeat (first | exact H_g0.out | apply Mem.S.alloc | apply Mem.S.drewN | apply Mem.S.drew1)) hb)
  have n4_ := Aside0.mk (Mem.X.below (by repeat (first | exact X_g0.out | apply Mem.X.alloc | apply Mem.X.drewN | apply Mem.X.drew1)) hb)
  have n5_ := Aside0.mk (Mem.S.below (by repeat (first | exact H_h0.out | apply Mem.S.alloc | apply Mem.S.drewN | apply Mem.S.drew1)) hb)
  have n6_ := Aside0.mk (Mem.X.below (by repeat (first | exact Mem.X.new w13 _ _ | apply Mem.X.alloc | apply Mem.X.drewN | apply Mem.X.drew1)) hb)
  clear c_X_w0 d_X_w0 c_X_g0 d_X_g0
  clear HB H_w0 X_w0 H_g0 X_g0 H_h0
  have HB := n0_
  have H_w0 := n1_
  have X_w0 := n2_
  have H_g0 := n3_
  have X_g0 := n4_
  have H_h0 := n5_
  have X_h0 := n6_
  clear n0_ n1_ n2_ n3_ n4_ n5_ n6_
  have c_X_w0 : w14.cell? ⟨w2.heap.size, 0, none⟩ = some (.slice A_w0 r0.length c_w0) := (X_w0.out.cell 0).trans rfl
  have d_X_w0 : ∀ o, (w14.alloc o).cell? ⟨w2.heap.size, 0, none⟩ = some (.slice A_w0 r0.length c_w0) := fun o => (X_w0.out.cellA 0 o).trans rfl
  have c_X_g0 : w14.cell? ⟨w4.heap.size, 0, none⟩ = some (.slice A_g0 r0.length c_g0) := (X_g0.out.cell 0).trans rfl
  have d_X_g0 : ∀ o, (w14.alloc o).cell? ⟨w4.heap.size, 0, none⟩ = some (.slice A_g0 r0.length c_g0) := fun o => (X_g0.out.cellA 0 o).trans rfl
  have c_X_h0 : w14.cell? ⟨w13.heap.size, 0, none⟩ = some (.slice A_h0 r0.length c_h0) := (X_h0.out.cell 0).trans rfl
  have d_X_h0 : ∀ o, (w14.alloc o).cell? ⟨w13.heap.size, 0, none⟩ = some (.slice A_h0 r0.length c_h0) := fun o => (X_h0.out.cellA 0 o).trans rfl
  clear hb
  go_wp2_with (fail)
  refine calls_of_args (args' := #[.agg #[.slice A_g0 rg0.length c_g0], .int .i64 1]) (by rw [LEN0.out]) ?_
  refine (laws_heldMatrix.calls k A_g0 c_g0 rg0 1 m0 _ ?s1 ?s2 E_HR0.out).mono ?_
  case s1 => exact Mem.S.now (by repeat (first | exact H_g0.out | apply Mem.S.alloc | apply Mem.S.drewN | apply Mem.S.drew1))
  case s2 => exact Mem.S.cap (W := w14) H_g0.out
  rintro e w15 ⟨rfl, hb⟩
  have n0_ := Aside0.mk (below_step (by repeat (first | exact HB.out | apply below_alloc | apply pw_below_drewN | apply below_drew1)) hb)
  have n1_ := Aside0.mk (Mem.S.below (by repeat (first | exact H_w0.out | apply Mem.S.alloc | apply Mem.S.drewN | apply Mem.S.drew1)) hb)
  have n2_ := Aside0.mk (Mem.X.below (by repeat (first | exact X_w0.out | apply Mem.X.alloc | apply Mem.X.drewN | apply Mem.X.drew1)) hb)
  have n3_ := Aside0.mk (Mem.S.below (by repeat (first | exact H_g0.out | apply Mem.S.alloc | apply Mem.S.drewN | apply Mem.S.drew1)) hb)
  have n4_ := Aside0.mk (Mem.X.below (by repeat (first | exact X_g0.out | apply Mem.X.alloc | apply Mem.X.drewN | apply Mem.X.drew1)) hb)
  have n5_ := Aside0.mk (Mem.S.below (by repeat (first | exact H_h0.out | apply Mem.S.alloc | apply Mem.S.drewN | apply Mem.S.drew1)) hb)
  have n6_ := Aside0.mk (Mem.X.below (by repeat (first | exact X_h0.out | apply Mem.X.alloc | apply Mem.X.drewN | apply Mem.X.drew1)) hb)
  clear c_X_w0 d_X_w0 c_X_g0 d_X_g0 c_X_h0 d_X_h0
  clear HB H_w0 X_w0 H_g0 X_g0 H_h0 X_h0
  have HB := n0_
  have H_w0 := n1_
  have X_w0 := n2_
  have H_g0 := n3_
  have X_g0 := n4_
  have H_h0 := n5_
  have X_h0 := n6_
  clear n0_ n1_ n2_ n3_ n4_ n5_ n6_
  have c_X_w0 : w15.cell? ⟨w2.heap.size, 0, none⟩ = some (.slice A_w0 r0.length c_w0) := (X_w0.out.cell 0).trans rfl
  have d_X_w0 : ∀ o, (w15.alloc o).cell? ⟨w2.heap.size, 0, none⟩ = some (.slice A_w0 r0.length c_w0) := fun o => (X_w0.out.cellA 0 o).trans rfl
  have c_X_g0 : w15.cell? ⟨w4.heap.size, 0, none⟩ = some (.slice A_g0 r0.length c_g0) := (X_g0.out.cell 0).trans rfl
  have d_X_g0 : ∀ o, (w15.alloc o).cell? ⟨w4.heap.size, 0, none⟩ = some (.slice A_g0 r0.length c_g0) := fun o => (X_g0.out.cellA 0 o).trans rfl
  have c_X_h0 : w15.cell? ⟨w13.heap.size, 0, none⟩ = some (.slice A_h0 r0.length c_h0) := (X_h0.out.cell 0).trans rfl
  have d_X_h0 : ∀ o, (w15.alloc o).cell? ⟨w13.heap.size, 0, none⟩ = some (.slice A_h0 r0.length c_h0) := fun o => (X_h0.out.cellA 0 o).trans rfl
  clear hb
  go_wp2
  go_ret
  exact ⟨rfl, (by repeat (first | exact HB.out | apply below_alloc | apply pw_below_drewN | apply below_drew1))⟩
/-- What the plain side has to show. -/
def laws_FnExactMatrixOfAscent.Plain (l0 : List Int) : Prop := l0.length ≤ 1048576 → ∃ (k : Nat), ∃ (r0 : List (List Int)) (r1 : Bool) (x0 : Int) (lx0 : List Int) (m0 : Int) (rg0 : List (List Int)), laws_toIntS.f k l0 = some l0 ∧ spec_MatrixOfAscent.f k l0 = some (r0, r1) ∧ impl_MatrixOfAscent.f k l0 = some (r0, r1) ∧ laws_eqMatrix.f k r0 r0 = some true ∧ laws_eqIntS.f k l0 l0 = some true ∧ laws_markIntS.f k l0 1 = some (x0, lx0) ∧ 0 ≤ x0 ∧ laws_markMatrix.f k r0 1 = some (m0, rg0) ∧ 0 ≤ m0 ∧ laws_heldMatrix.f k rg0 1 = some m0
theorem laws_FnExactMatrixOfAscent.whole (A0 : Option Addr) (c0 : Nat) (l0 : List Int) (w : World) (hr0 : Kd.C (Kd.int .i64) w A0 l0.length l0) (hc0 : l0.length ≤ c0) (h : laws_FnExactMatrixOfAscent.Plain l0) :
    Calls Try.prog 4 #[.slice A0 l0.length c0] w fun e w' => e = .returned (.bool true) ∧ Below w.heap.size w w' := by
  by_cases hg : l0.length ≤ 1048576
  · obtain ⟨k, r0, r1, x0, lx0, m0, rg0, q0, q1, q2, q3, q4, q5, q6, q7, q8, q9⟩ := h hg
    exact laws_FnExactMatrixOfAscent.near k A0 c0 l0 w hr0 hc0 r0 r1 x0 lx0 m0 rg0 hg q0 q1 q2 q3 q4 q5 q6 q7 q8 q9
  · exact laws_FnExactMatrixOfAscent.far A0 c0 l0 w hg
end Go.Proofs.Ytjbepofmkcahlaa.M
