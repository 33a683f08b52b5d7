/- The walk of FnExactListMatrices: on the way that answers true. -/
import Derived.Test.YtngkfgleffagcaaKx11
import Derived.Test.YtngkfgleffagcaaKx12
import Derived.Test.YtngkfgleffagcaaKx13
import Derived.Test.YtngkfgleffagcaaKx7
import Derived.Test.YtngkfgleffagcaaXMem
namespace Go.Proofs.Ytngkfgleffagcaa.Kx
open Go.RowKit Go.Proofs.YtngkfgleffagcaaW.PrintWords Go.Proofs.YtngkfgleffagcaaW.PrintLast Go.Proofs.YtngkfgleffagcaaW.PrintMore
attribute [local go_sem] max2_int min2_int max_two min_two max_three min_three max_four min_four
set_option linter.unusedVariables false
set_option linter.unusedSimpArgs false
set_option maxHeartbeats 8000000 in
set_option maxRecDepth 100000 in
theorem laws_FnExactListMatrices.near (k : Nat) (a0 : Int) (w : World)  (r0 : List S34) (r1 : Bool) (m0 : Int) (rg0 : List S34)  (e_sp : spec_ListMatrices.f k a0 = some (r0, r1)) (e_im : impl_ListMatrices.f k a0 = some (r0, r1)) (e_eq0 : laws_eqMatrixS.f k r0 r0 = some true) (e_mr0 : laws_markMatrixS.f k r0 1 = some (m0, rg0)) (p_m0 : 0 ≤ m0) (e_hr0 : laws_heldMatrixS.f k rg0 1 = some m0) :
    Calls Try.prog 7 #[.int .i64 a0] w fun e w' => e = .returned (.bool true) ∧ Below w.heap.size w w' := by
  have HB := Aside0.mk (Below.refl w.heap.size w)
  have E_SP := Aside0.mk e_sp; clear e_sp
  have E_IM := Aside0.mk e_im; clear e_im
  have E_EQ0 := Aside0.mk e_eq0; clear e_eq0
  have E_MR0 := Aside0.mk e_mr0; clear e_mr0
  have g_m0 : decide (m0 < 0) = false := decide_eq_false (by omega)
  clear p_m0
  have E_HR0 := Aside0.mk e_hr0; clear e_hr0
  go_enter Try.func7, Try.ntmps7
  go_wp2_with (fail)
  refine (spec_ListMatrices.calls k a0 r0 r1 _  E_SP.out).mono ?_
  rintro e w1 ⟨v_, rfl, hs_, hb⟩
  obtain ⟨lo_w0, hi_w0, oa_w0, ob_w0, hm_⟩ := Mem.R.made' (w.heap.size) hs_ (by repeat (first | exact HB.out | apply below_alloc | apply pw_below_drewN | apply below_drew1)) hb (Below.size (by repeat (first | exact HB.out | apply below_alloc | apply pw_below_drewN | apply below_drew1)))
  clear hs_
  have OA_w0 := Aside0.mk oa_w0; have OB_w0 := Aside0.mk ob_w0; clear oa_w0 ob_w0
  obtain ⟨A_w0, c_w0, rfl, _, _⟩ := hm_.reads
  have H_w0 := Aside0.mk hm_; clear hm_
  have n0_ := Aside0.mk (below_step (by repeat (first | exact HB.out | apply below_alloc | apply pw_below_drewN | apply below_drew1)) hb)
  clear HB
  have HB := n0_
  clear n0_
  clear hb
  go_wp2_with (fail)
  refine (impl_ListMatrices.calls k a0 r0 r1 _  E_IM.out).mono ?_
  rintro e w2 ⟨v_, rfl, hs_, hb⟩
  obtain ⟨lo_g0, hi_g0, oa_g0, ob_g0, hm_⟩ := Mem.S.made' (hi_w0) hs_ (by repeat (first | exact HB.out | apply below_alloc | apply pw_below_drewN | apply below_drew1)) hb (Mem.R.size (by repeat (first | exact H_w0.out | apply Mem.R.alloc | apply Mem.R.drewN | apply Mem.R.drew1)))
  clear hs_
  have OA_g0 := Aside0.mk oa_g0; have OB_g0 := Aside0.mk ob_g0; clear oa_g0 ob_g0
  obtain ⟨A_g0, c_g0, rfl, _, _⟩ := hm_.reads
  have H_g0 := Aside0.mk hm_; clear hm_
  have n0_ := Aside0.mk (below_step (by repeat (first | exact HB.out | apply below_alloc | apply pw_below_drewN | apply below_drew1)) hb)
  have n1_ := Aside0.mk (Mem.R.below (by repeat (first | exact H_w0.out | apply Mem.R.alloc | apply Mem.R.drewN | apply Mem.R.drew1)) hb)
  clear HB H_w0
  have HB := n0_
  have H_w0 := n1_
  clear n0_ n1_
  clear hb
  go_wp2_with (fail)
  refine (laws_eqMatrixS.calls k A_g0 c_g0 r0 A_w0 c_w0 r0 true _ ?s1 ?s2 ?s3 ?s4 E_EQ0.out).mono ?_
  case s1 => exact KMS_C (Mem.S.now (by repeat (first | exact H_g0.out | apply Mem.S.alloc | apply Mem.S.drewN | apply Mem.S.drew1)))
  case s2 => exact Mem.S.cap (W := w2) H_g0.out
  case s3 => exact Mem.R.now (by repeat (first | exact H_w0.out | apply Mem.R.alloc | apply Mem.R.drewN | apply Mem.R.drew1))
  case s4 => exact Mem.R.cap (W := w2) H_w0.out
  rintro e w3 ⟨rfl, hb⟩
  have n0_ := Aside0.mk (below_step (by repeat (first | exact HB.out | apply below_alloc | apply pw_below_drewN | apply below_drew1)) hb)
  have n1_ := Aside0.mk (Mem.R.below (by repeat (first | exact H_w0.out | apply Mem.R.alloc | apply Mem.R.drewN | apply Mem.R.drew1)) hb)
  have n2_ := Aside0.mk (Mem.S.below (by repeat (first | exact H_g0.out | apply Mem.S.alloc | apply Mem.S.drewN | apply Mem.S.drew1)) hb)
  clear HB H_w0 H_g0
  have HB := n0_
  have H_w0 := n1_
  have H_g0 := n2_
  clear n0_ n1_ n2_
  clear hb
  go_wp2_with (fail)
  refine (laws_markMatrixS.writes k (fun k_ => lo_g0 ≤ k_ ∧ k_ < hi_g0) _ r0 1 m0 rg0 w _ (by repeat (first | exact HB.out | apply below_alloc | apply pw_below_drewN | apply below_drew1)) ?s1 E_MR0.out).mono ?_
  case s1 => exact Mem.S.rows (by repeat (first | exact H_g0.out | apply Mem.S.alloc | apply Mem.S.drewN | apply Mem.S.drew1))
  rintro e w4 ⟨rfl, hS2, hB2, hK2⟩
  have n0_ := Aside0.mk (hB2)
  have n1_ := Aside0.mk (Mem.R.kept (by repeat (first | exact H_w0.out | apply Mem.R.alloc | apply Mem.R.drewN | apply Mem.R.drew1)) hK2 (by have := OA_w0.out; have := OB_w0.out; have := OA_g0.out; have := OB_g0.out; omega))
  have n2_ := Aside0.mk (Mem.S.write (by repeat (first | exact H_g0.out | apply Mem.S.alloc | apply Mem.S.drewN | apply Mem.S.drew1)) hK2 hS2)
  clear HB H_w0 H_g0
  have HB := n0_
  have H_w0 := n1_
  have H_g0 := n2_
  clear n0_ n1_ n2_
  clear hB2 hK2
  clear hS2
  have LEN0 := Aside0.mk (Mem.S.len H_g0.out)
  go_wp2_with (fail)
  refine calls_of_args (args' := #[.slice A_g0 rg0.length c_g0, .int .i64 1]) (by rw [LEN0.out]) ?_
  refine (laws_heldMatrixS.calls k A_g0 c_g0 rg0 1 m0 _ ?s1 ?s2 E_HR0.out).mono ?_
  case s1 => exact KMS_C (Mem.S.now (by repeat (first | exact H_g0.out | apply Mem.S.alloc | apply Mem.S.drewN | apply Mem.S.drew1)))
  case s2 => exact Mem.S.cap (W := w4) H_g0.out
  rintro e w' ⟨rfl, ⟨nd3, rfl⟩⟩
  go_wp2_with (fail)
  refine (impl_ListMatrices.calls k a0 r0 r1 _  E_IM.out).mono ?_
  rintro e w6 ⟨v_, rfl, hs_, hb⟩
  obtain ⟨lo_h0, hi_h0, oa_h0, ob_h0, hm_⟩ := Mem.S.made' (hi_g0) hs_ (by repeat (first | exact HB.out | apply below_alloc | apply pw_below_drewN | apply below_drew1)) hb (Mem.S.size (by repeat (first | exact H_g0.out | apply Mem.S.alloc | apply Mem.S.drewN | apply Mem.S.drew1)))
  clear hs_
  have OA_h0 := Aside0.mk oa_h0; have OB_h0 := Aside0.mk ob_h0; clear oa_h0 ob_h0
  obtain ⟨A_h0, c_h0, rfl, _, _⟩ := hm_.reads
  have H_h0 := Aside0.mk hm_; clear hm_
  have n0_ := Aside0.mk (below_step (by repeat (first | exact HB.out | apply below_alloc | apply pw_below_drewN | apply below_drew1)) hb)
  have n1_ := Aside0.mk (Mem.R.below (by repeat (first | exact H_w0.out | apply Mem.R.alloc | apply Mem.R.drewN | apply Mem.R.drew1)) hb)
  have n2_ := Aside0.mk (Mem.S.below (by repeat (first | exact H_g0.out | apply Mem.S.alloc | apply Mem.S.drewN | apply Mem.S.drew1)) hb)
  clear HB H_w0 H_g0
  have HB := n0_
  have H_w0 := n1_
  have H_g0 := n2_
  clear n0_ n1_ n2_
  clear hb
  go_wp2_with (fail)
  refine (laws_eqMatrixS.calls k A_h0 c_h0 r0 A_w0 c_w0 r0 true _ ?s1 ?s2 ?s3 ?s4 E_EQ0.out).mono ?_
  case s1 => exact KMS_C (Mem.S.now (by repeat (first | exact H_h0.out | apply Mem.S.alloc | apply Mem.S.drewN | apply Mem.S.drew1)))
  case s2 => exact Mem.S.cap (W := w6) H_h0.out
  case s3 => exact Mem.R.now (by repeat (first | exact H_w0.out | apply Mem.R.alloc | apply Mem.R.drewN | apply Mem.R.drew1))
  case s4 => exact Mem.R.cap (W := w6) H_w0.out
  rintro e w7 ⟨rfl, hb⟩
  have n0_ := Aside0.mk (below_step (by repeat (first | exact HB.out | apply below_alloc | apply pw_below_drewN | apply below_drew1)) hb)
  have n1_ := Aside0.mk (Mem.R.below (by repeat (first | exact H_w0.out | apply Mem.R.alloc | apply Mem.R.drewN | apply Mem.R.drew1)) hb)
  have n2_ := Aside0.mk (Mem.S.below (by repeat (first | exact H_g0.out | apply Mem.S.alloc | apply Mem.S.drewN | apply Mem.S.drew1)) hb)
  have n3_ := Aside0.mk (Mem.S.below (by repeat (first | exact H_h0.out | apply Mem.S.alloc | apply Mem.S.drewN | apply Mem.S.drew1)) hb)
  clear HB H_w0 H_g0 H_h0
  have HB := n0_
  have H_w0 := n1_
  have H_g0 := n2_
  have H_h0 := n3_
  clear n0_ n1_ n2_ n3_
  clear hb
  go_wp2_with (fail)
  refine calls_of_args (args' := #[.slice A_g0 rg0.length c_g0, .int .i64 1]) (by rw [LEN0.out]) ?_
  refine (laws_heldMatrixS.calls k A_g0 c_g0 rg0 1 m0 _ ?s1 ?s2 E_HR0.out).mono ?_
  case s1 => exact KMS_C (Mem.S.now (by repeat (first | exact H_g0.out | apply Mem.S.alloc | apply Mem.S.drewN | apply Mem.S.drew1)))
  case s2 => exact Mem.S.cap (W := w7) H_g0.out
  rintro e w' ⟨rfl, ⟨nd5, rfl⟩⟩
  go_wp2
  go_ret
  exact ⟨rfl, (by repeat (first | exact HB.out | apply below_alloc | apply pw_below_drewN | apply below_drew1))⟩
/-- What the plain side has to show. -/
def laws_FnExactListMatrices.Plain (a0 : Int) : Prop := ∃ (k : Nat), ∃ (r0 : List S34) (r1 : Bool) (m0 : Int) (rg0 : List S34), spec_ListMatrices.f k a0 = some (r0, r1) ∧ impl_ListMatrices.f k a0 = some (r0, r1) ∧ laws_eqMatrixS.f k r0 r0 = some true ∧ laws_markMatrixS.f k r0 1 = some (m0, rg0) ∧ 0 ≤ m0 ∧ laws_heldMatrixS.f k rg0 1 = some m0
theorem laws_FnExactListMatrices.whole (a0 : Int) (w : World)  (h : laws_FnExactListMatrices.Plain a0) :
    Calls Try.prog 7 #[.int .i64 a0] w fun e w' => e = .returned (.bool true) ∧ Below w.heap.size w w' := by
  obtain ⟨k, r0, r1, m0, rg0, q0, q1, q2, q3, q4, q5⟩ := h
  exact laws_FnExactListMatrices.near k a0 w  r0 r1 m0 rg0 q0 q1 q2 q3 q4 q5
end Go.Proofs.Ytngkfgleffagcaa.Kx
