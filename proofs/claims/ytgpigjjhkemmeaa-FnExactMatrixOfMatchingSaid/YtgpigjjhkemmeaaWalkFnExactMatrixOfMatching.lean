/- The walk of FnExactMatrixOfMatching: on the way that answers true. -/
import Derived.Test.YtgpigjjhkemmeaaR1
import Derived.Test.YtgpigjjhkemmeaaR21
import Derived.Test.YtgpigjjhkemmeaaR23
import Derived.Test.YtgpigjjhkemmeaaR24
import Derived.Test.YtgpigjjhkemmeaaR3
import Derived.Test.YtgpigjjhkemmeaaR6
import Derived.Test.YtgpigjjhkemmeaaXMem
namespace Go.Proofs.Ytgpigjjhkemmeaa.R
open Go.RowKit Go.Proofs.YtgpigjjhkemmeaaW.PrintWords Go.Proofs.YtgpigjjhkemmeaaW.PrintLast Go.Proofs.YtgpigjjhkemmeaaW.PrintMore
attribute [local go_sem] max2_int min2_int max_two min_two max_three min_three max_four min_four
set_option linter.unusedVariables false
set_option linter.unusedSimpArgs false
set_option maxHeartbeats 4000000 in
set_option maxRecDepth 100000 in
/-- Where the list is too long the law says true at once. -/
theorem laws_FnExactMatrixOfMatching.far (A0 : Option Addr) (c0 : Nat) (l0 : List Int) (w : World) (hg : ¬ l0.length ≤ 1048576) :
    Calls Try.prog 13 #[.slice A0 l0.length c0] w fun e w' => e = .returned (.bool true) ∧ Below w.heap.size w w' := by
  have g1 : decide ((1048576 : Int) < (l0.length : Int)) = true := decide_eq_true (by omega)
  have g2 : decide (1048576 < l0.length) = true := decide_eq_true (by omega)
  clear hg
  go_enter Try.func13, Try.ntmps13
  go_wp2
  go_ret
  exact ⟨rfl, by repeat (first | exact Below.refl _ _ | apply below_alloc | apply pw_below_drewN)⟩
set_option maxHeartbeats 8000000 in
set_option maxRecDepth 100000 in
theorem laws_FnExactMatrixOfMatching.near (k : Nat) (A0 : Option Addr) (c0 : Nat) (l0 lx : List Int) (r rg : List (List Int)) (b : Bool) (k1 m1 : Int) (w : World) (hr0 : Kd.C (Kd.int .i64) w A0 l0.length l0) (hc0 : l0.length ≤ c0)
    (hg : l0.length ≤ 1048576) (e_to : laws_toIntS.f k l0 = some l0) (e_sp : spec_MatrixOfMatching.f k l0 = some (r, b)) (e_im : impl_MatrixOfMatching.f k l0 = some (r, b)) (e_em : laws_eqMatrix.f k r r = some true) (e_ei : laws_eqIntS.f k l0 l0 = some true) (e_mi : laws_markIntS.f k l0 1 = some (k1, lx)) (hk1 : 0 ≤ k1) (e_mm : laws_markMatrix.f k r 1 = some (m1, rg)) (hm1 : 0 ≤ m1) (e_hm : laws_heldMatrix.f k rg 1 = some m1) :
    Calls Try.prog 13 #[.slice A0 l0.length c0] w fun e w' => e = .returned (.bool true) ∧ Below w.heap.size w w' := by
  have g1 : decide ((1048576 : Int) < (l0.length : Int)) = false := decide_eq_false (by omega)
  have g2 : decide (1048576 < l0.length) = false := decide_eq_false (by omega)
  have g3 : decide (k1 < 0) = false := decide_eq_false (by omega)
  have g4 : decide (m1 < 0) = false := decide_eq_false (by omega)
  have E_TO := Aside0.mk e_to
  have E_SP := Aside0.mk e_sp
  have E_IM := Aside0.mk e_im
  have E_EM := Aside0.mk e_em
  have E_EI := Aside0.mk e_ei
  have E_MI := Aside0.mk e_mi
  have E_MM := Aside0.mk e_mm
  have E_HM := Aside0.mk e_hm
  have HC0 := Aside0.mk hr0
  have HL0 := Aside0.mk hc0
  clear e_to e_sp e_im e_em e_ei e_mi e_mm e_hm hr0 hc0 hg hk1 hm1
  have HB := Aside0.mk (Below.refl w.heap.size w)
  go_enter Try.func13, Try.ntmps13
  go_wp2_with (fail)
  refine (laws_toIntS.calls k A0 c0 l0 l0 _ ?s1 HL0.out E_TO.out).mono ?_
  case s1 => exact Kd.C_below HC0.out (by repeat (first | exact HB.out | apply below_alloc | apply pw_below_drewN))
  rintro e w1 ⟨v_, rfl, hs_, hb⟩
  obtain ⟨lo_a, hi_a, oa_a, ob_a, hm_⟩ := Mem.R.made' (w.heap.size) hs_ (by repeat (first | exact HB.out | apply below_alloc | apply pw_below_drewN)) hb (Below.size (by repeat (first | exact HB.out | apply below_alloc | apply pw_below_drewN)))
  have OA_a := Aside0.mk oa_a; have OB_a := Aside0.mk ob_a; clear oa_a ob_a hs_
  obtain ⟨A_a, c_a, rfl, _, _⟩ := hm_.reads
  have H_a := Aside0.mk hm_; clear hm_
  have n0_ := Aside0.mk (below_step (by repeat (first | exact HB.out | apply below_alloc | apply pw_below_drewN)) hb)
  clear HB
  have HB := n0_
  clear n0_
  clear hb
  go_wp2_with (fail)
  refine (spec_MatrixOfMatching.calls k A_a c_a l0 r b _ ?s1 ?s2 E_SP.out).mono ?_
  case s1 => exact Mem.R.now (by repeat (first | exact H_a.out | apply Mem.R.alloc | apply Mem.R.drewN))
  case s2 => exact Mem.R.cap (W := w1) H_a.out
  rintro e w2 ⟨v_, rfl, hs_, hb⟩
  obtain ⟨lo_w0, hi_w0, oa_w0, ob_w0, hm_⟩ := Mem.S.made' (hi_a) hs_ (by repeat (first | exact HB.out | apply below_alloc | apply pw_below_drewN)) hb (Mem.R.size (by repeat (first | exact H_a.out | apply Mem.R.alloc | apply Mem.R.drewN)))
  have OA_w0 := Aside0.mk oa_w0; have OB_w0 := Aside0.mk ob_w0; clear oa_w0 ob_w0 hs_
  obtain ⟨A_w0, c_w0, rfl, _, _⟩ := hm_.reads
  have H_w0 := Aside0.mk hm_; clear hm_
  have n0_ := Aside0.mk (below_step (by repeat (first | exact HB.out | apply below_alloc | apply pw_below_drewN)) hb)
  have n1_ := Aside0.mk (Mem.R.below (by repeat (first | exact H_a.out | apply Mem.R.alloc | apply Mem.R.drewN)) hb)
  clear HB H_a
  have HB := n0_
  have H_a := n1_
  clear n0_ n1_
  clear hb
  clear H_a
  have OX_w0 : Aside0 (hi_w0 ≤ w2.heap.size) := ⟨Mem.S.size H_w0.out⟩
  go_wp2_with (fail)
  refine (laws_toIntS.calls k A0 c0 l0 l0 _ ?s1 HL0.out E_TO.out).mono ?_
  case s1 => exact Kd.C_below HC0.out (by repeat (first | exact HB.out | apply below_alloc | apply pw_below_drewN))
  rintro e w3 ⟨v_, rfl, hs_, hb⟩
  obtain ⟨lo_x0, hi_x0, oa_x0, ob_x0, hm_⟩ := Mem.R.made' (w2.heap.size + 1) hs_ (by repeat (first | exact HB.out | apply below_alloc | apply pw_below_drewN)) hb (Mem.X.lt (by repeat (first | exact Mem.X.new w2 _ _ | apply Mem.X.alloc | apply Mem.X.drewN)))
  have OA_x0 := Aside0.mk oa_x0; have OB_x0 := Aside0.mk ob_x0; clear oa_x0 ob_x0 hs_
  obtain ⟨A_x0, c_x0, rfl, _, _⟩ := hm_.reads
  have H_x0 := Aside0.mk hm_; clear hm_
  have n0_ := Aside0.mk (below_step (by repeat (first | exact HB.out | apply below_alloc | apply pw_below_drewN)) hb)
  have n1_ := Aside0.mk (Mem.S.below (by repeat (first | exact H_w0.out | apply Mem.S.alloc | apply Mem.S.drewN)) hb)
  have n2_ := Aside0.mk (Mem.X.below (by repeat (first | exact Mem.X.new w2 _ _ | apply Mem.X.alloc | apply Mem.X.drewN)) hb)
  clear HB H_w0
  have HB := n0_
  have H_w0 := n1_
  have X_w0 := n2_
  clear n0_ n1_ n2_
  have c_X_w0 : w3.cell? ⟨w2.heap.size, 0, none⟩ = some (.slice A_w0 r.length c_w0) := (X_w0.out.cell 0).trans rfl
  have d_X_w0 : ∀ o, (w3.alloc o).cell? ⟨w2.heap.size, 0, none⟩ = some (.slice A_w0 r.length c_w0) := fun o => (X_w0.out.cellA 0 o).trans rfl
  clear hb
  go_wp2_with (fail)
  refine (impl_MatrixOfMatching.calls k A_x0 c_x0 l0 r b _ ?s1 ?s2 E_IM.out).mono ?_
  case s1 => exact Mem.R.now (by repeat (first | exact H_x0.out | apply Mem.R.alloc | apply Mem.R.drewN))
  case s2 => exact Mem.R.cap (W := w3) H_x0.out
  rintro e w4 ⟨v_, rfl, hs_, hb⟩
  obtain ⟨lo_g0, hi_g0, oa_g0, ob_g0, hm_⟩ := Mem.S.made' (hi_x0) hs_ (by repeat (first | exact HB.out | apply below_alloc | apply pw_below_drewN)) hb (Mem.R.size (by repeat (first | exact H_x0.out | apply Mem.R.alloc | apply Mem.R.drewN)))
  have OA_g0 := Aside0.mk oa_g0; have OB_g0 := Aside0.mk ob_g0; clear oa_g0 ob_g0 hs_
  obtain ⟨A_g0, c_g0, rfl, _, _⟩ := hm_.reads
  have H_g0 := Aside0.mk hm_; clear hm_
  have n0_ := Aside0.mk (below_step (by repeat (first | exact HB.out | apply below_alloc | apply pw_below_drewN)) hb)
  have n1_ := Aside0.mk (Mem.S.below (by repeat (first | exact H_w0.out | apply Mem.S.alloc | apply Mem.S.drewN)) hb)
  have n2_ := Aside0.mk (Mem.X.below (by repeat (first | exact X_w0.out | apply Mem.X.alloc | apply Mem.X.drewN)) hb)
  have n3_ := Aside0.mk (Mem.R.below (by repeat (first | exact H_x0.out | apply Mem.R.alloc | apply Mem.R.drewN)) hb)
  clear c_X_w0 d_X_w0
  clear HB H_w0 X_w0 H_x0
  have HB := n0_
  have H_w0 := n1_
  have X_w0 := n2_
  have H_x0 := n3_
  clear n0_ n1_ n2_ n3_
  have c_X_w0 : w4.cell? ⟨w2.heap.size, 0, none⟩ = some (.slice A_w0 r.length c_w0) := (X_w0.out.cell 0).trans rfl
  have d_X_w0 : ∀ o, (w4.alloc o).cell? ⟨w2.heap.size, 0, none⟩ = some (.slice A_w0 r.length c_w0) := fun o => (X_w0.out.cellA 0 o).trans rfl
  clear hb
  have OX_g0 : Aside0 (hi_g0 ≤ w4.heap.size) := ⟨Mem.S.size H_g0.out⟩
  go_wp2_with (fail)
  refine (laws_eqMatrix.calls k A_g0 c_g0 r A_w0 c_w0 r true _ ?s1 ?s2 ?s3 ?s4 E_EM.out).mono ?_
  case s1 => exact Mem.S.now (by repeat (first | exact H_g0.out | apply Mem.S.alloc | apply Mem.S.drewN))
  case s2 => exact Mem.S.cap (W := w4) H_g0.out
  case s3 => exact Mem.S.now (by repeat (first | exact H_w0.out | apply Mem.S.alloc | apply Mem.S.drewN))
  case s4 => exact Mem.S.cap (W := w4) H_w0.out
  rintro e w5 ⟨rfl, hb⟩
  have n0_ := Aside0.mk (below_step (by repeat (first | exact HB.out | apply below_alloc | apply pw_below_drewN)) hb)
  have n1_ := Aside0.mk (Mem.S.below (by repeat (first | exact H_w0.out | apply Mem.S.alloc | apply Mem.S.drewN)) hb)
  have n2_ := Aside0.mk (Mem.X.below (by repeat (first | exact X_w0.out | apply Mem.X.alloc | apply Mem.X.drewN)) hb)
  have n3_ := Aside0.mk (Mem.R.below (by repeat (first | exact H_x0.out | apply Mem.R.alloc | apply Mem.R.drewN)) hb)
  have n4_ := Aside0.mk (Mem.S.below (by repeat (first | exact H_g0.out | apply Mem.S.alloc | apply Mem.S.drewN)) hb)
  have n5_ := Aside0.mk (Mem.X.below (by repeat (first | exact Mem.X.new w4 _ _ | apply Mem.X.alloc | apply Mem.X.drewN)) hb)
  clear c_X_w0 d_X_w0
  clear HB H_w0 X_w0 H_x0 H_g0
  have HB := n0_
  have H_w0 := n1_
  have X_w0 := n2_
  have H_x0 := n3_
  have H_g0 := n4_
  have X_g0 := n5_
  clear n0_ n1_ n2_ n3_ n4_ n5_
  have c_X_w0 : w5.cell? ⟨w2.heap.size, 0, none⟩ = some (.slice A_w0 r.length c_w0) := (X_w0.out.cell 0).trans rfl
  have d_X_w0 : ∀ o, (w5.alloc o).cell? ⟨w2.heap.size, 0, none⟩ = some (.slice A_w0 r.length c_w0) := fun o => (X_w0.out.cellA 0 o).trans rfl
  have c_X_g0 : w5.cell? ⟨w4.heap.size, 0, none⟩ = some (.slice A_g0 r.length c_g0) := (X_g0.out.cell 0).trans rfl
  have d_X_g0 : ∀ o, (w5.alloc o).cell? ⟨w4.heap.size, 0, none⟩ = some (.slice A_g0 r.length c_g0) := fun o => (X_g0.out.cellA 0 o).trans rfl
  clear hb
  go_wp2_with (fail)
  refine (laws_toIntS.calls k A0 c0 l0 l0 _ ?s1 HL0.out E_TO.out).mono ?_
  case s1 => exact Kd.C_below HC0.out (by repeat (first | exact HB.out | apply below_alloc | apply pw_below_drewN))
  rintro e w6 ⟨v_, rfl, hs_, hb⟩
  obtain ⟨lo_b, hi_b, oa_b, ob_b, hm_⟩ := Mem.R.made' (w4.heap.size + 1) hs_ (by repeat (first | exact HB.out | apply below_alloc | apply pw_below_drewN)) hb (Mem.X.lt (by repeat (first | exact X_g0.out | apply Mem.X.alloc | apply Mem.X.drewN)))
  have OA_b := Aside0.mk oa_b; have OB_b := Aside0.mk ob_b; clear oa_b ob_b hs_
  obtain ⟨A_b, c_b, rfl, _, _⟩ := hm_.reads
  have H_b := Aside0.mk hm_; clear hm_
  have n0_ := Aside0.mk (below_step (by repeat (first | exact HB.out | apply below_alloc | apply pw_below_drewN)) hb)
  have n1_ := Aside0.mk (Mem.S.below (by repeat (first | exact H_w0.out | apply Mem.S.alloc | apply Mem.S.drewN)) hb)
  have n2_ := Aside0.mk (Mem.X.below (by repeat (first | exact X_w0.out | apply Mem.X.alloc | apply Mem.X.drewN)) hb)
  have n3_ := Aside0.mk (Mem.R.below (by repeat (first | exact H_x0.out | apply Mem.R.alloc | apply Mem.R.drewN)) hb)
  have n4_ := Aside0.mk (Mem.S.below (by repeat (first | exact H_g0.out | apply Mem.S.alloc | apply Mem.S.drewN)) hb)
  have n5_ := Aside0.mk (Mem.X.below (by repeat (first | exact X_g0.out | apply Mem.X.alloc | apply Mem.X.drewN)) hb)
  clear c_X_w0 d_X_w0 c_X_g0 d_X_g0
  clear HB H_w0 X_w0 H_x0 H_g0 X_g0
  have HB := n0_
  have H_w0 := n1_
  have X_w0 := n2_
  have H_x0 := n3_
  have H_g0 := n4_
  have X_g0 := n5_
  clear n0_ n1_ n2_ n3_ n4_ n5_
  have c_X_w0 : w6.cell? ⟨w2.heap.size, 0, none⟩ = some (.slice A_w0 r.length c_w0) := (X_w0.out.cell 0).trans rfl
  have d_X_w0 : ∀ o, (w6.alloc o).cell? ⟨w2.heap.size, 0, none⟩ = some (.slice A_w0 r.length c_w0) := fun o => (X_w0.out.cellA 0 o).trans rfl
  have c_X_g0 : w6.cell? ⟨w4.heap.size, 0, none⟩ = some (.slice A_g0 r.length c_g0) := (X_g0.out.cell 0).trans rfl
  have d_X_g0 : ∀ o, (w6.alloc o).cell? ⟨w4.heap.size, 0, none⟩ = some (.slice A_g0 r.length c_g0) := fun o => (X_g0.out.cellA 0 o).trans rfl
  clear hb
  go_wp2_with (fail)
  refine (laws_eqIntS.calls k A_x0 c_x0 l0 A_b c_b l0 true _ ?s1 ?s2 ?s3 ?s4 E_EI.out).mono ?_
  case s1 => exact Mem.R.now (by repeat (first | exact H_x0.out | apply Mem.R.alloc | apply Mem.R.drewN))
  case s2 => exact Mem.R.cap (W := w6) H_x0.out
  case s3 => exact Mem.R.now (by repeat (first | exact H_b.out | apply Mem.R.alloc | apply Mem.R.drewN))
  case s4 => exact Mem.R.cap (W := w6) H_b.out
  rintro e w' ⟨rfl, ⟨nd, rfl⟩⟩
  clear H_b
  go_wp2_with (fail)
  refine (laws_markIntS.calls k (fun k_ => lo_x0 ≤ k_ ∧ k_ < hi_x0) _ l0 1 k1 lx w _ (by repeat (first | exact HB.out | apply below_alloc | apply pw_below_drewN)) ?s1 E_MI.out).mono ?_
  case s1 => exact Mem.R.row (by repeat (first | exact H_x0.out | apply Mem.R.alloc | apply Mem.R.drewN))
  rintro e w7 ⟨rfl, hR2, hB2, hK2⟩
  clear hR2
  clear H_x0
  have n0_ := Aside0.mk (hB2)
  have n1_ := Aside0.mk (Mem.S.kept (by repeat (first | exact H_w0.out | apply Mem.S.alloc | apply Mem.S.drewN)) hK2 (by have := OA_a.out; have := OB_a.out; have := OA_w0.out; have := OB_w0.out; have := OX_w0.out; have := OA_x0.out; have := OB_x0.out; have := OA_g0.out; have := OB_g0.out; have := OX_g0.out; have := OA_b.out; have := OB_b.out; omega))
  have n2_ := Aside0.mk (Mem.X.kept (by repeat (first | exact X_w0.out | apply Mem.X.alloc | apply Mem.X.drewN)) hK2 (by have := OA_a.out; have := OB_a.out; have := OA_w0.out; have := OB_w0.out; have := OX_w0.out; have := OA_x0.out; have := OB_x0.out; have := OA_g0.out; have := OB_g0.out; have := OX_g0.out; have := OA_b.out; have := OB_b.out; omega))
  have n3_ := Aside0.mk (Mem.S.kept (by repeat (first | exact H_g0.out | apply Mem.S.alloc | apply Mem.S.drewN)) hK2 (by have := OA_a.out; have := OB_a.out; have := OA_w0.out; have := OB_w0.out; have := OX_w0.out; have := OA_x0.out; have := OB_x0.out; have := OA_g0.out; have := OB_g0.out; have := OX_g0.out; have := OA_b.out; have := OB_b.out; omega))
  have n4_ := Aside0.mk (Mem.X.kept (by repeat (first | exact X_g0.out | apply Mem.X.alloc | apply Mem.X.drewN)) hK2 (by have := OA_a.out; have := OB_a.out; have := OA_w0.out; have := OB_w0.out; have := OX_w0.out; have := OA_x0.out; have := OB_x0.out; have := OA_g0.out; have := OB_g0.out; have := OX_g0.out; have := OA_b.out; have := OB_b.out; omega))
  clear c_X_w0 d_X_w0 c_X_g0 d_X_g0
  clear HB H_w0 X_w0 H_g0 X_g0
  have HB := n0_
  have H_w0 := n1_
  have X_w0 := n2_
  have H_g0 := n3_
  have X_g0 := n4_
  clear n0_ n1_ n2_ n3_ n4_
  have c_X_w0 : w7.cell? ⟨w2.heap.size, 0, none⟩ = some (.slice A_w0 r.length c_w0) := (X_w0.out.cell 0).trans rfl
  have d_X_w0 : ∀ o, (w7.alloc o).cell? ⟨w2.heap.size, 0, none⟩ = some (.slice A_w0 r.length c_w0) := fun o => (X_w0.out.cellA 0 o).trans rfl
  have c_X_g0 : w7.cell? ⟨w4.heap.size, 0, none⟩ = some (.slice A_g0 r.length c_g0) := (X_g0.out.cell 0).trans rfl
  have d_X_g0 : ∀ o, (w7.alloc o).cell? ⟨w4.heap.size, 0, none⟩ = some (.slice A_g0 r.length c_g0) := fun o => (X_g0.out.cellA 0 o).trans rfl
  clear hB2 hK2
  go_wp2_with (fail)
  refine (laws_eqMatrix.calls k A_g0 c_g0 r A_w0 c_w0 r true _ ?s1 ?s2 ?s3 ?s4 E_EM.out).mono ?_
  case s1 => exact Mem.S.now (by repeat (first | exact H_g0.out | apply Mem.S.alloc | apply Mem.S.drewN))
  case s2 => exact Mem.S.cap (W := w7) H_g0.out
  case s3 => exact Mem.S.now (by repeat (first | exact H_w0.out | apply Mem.S.alloc | apply Mem.S.drewN))
  case s4 => exact Mem.S.cap (W := w7) H_w0.out
  rintro e w8 ⟨rfl, hb⟩
  have n0_ := Aside0.mk (below_step (by repeat (first | exact HB.out | apply below_alloc | apply pw_below_drewN)) hb)
  have n1_ := Aside0.mk (Mem.S.below (by repeat (first | exact H_w0.out | apply Mem.S.alloc | apply Mem.S.drewN)) hb)
  have n2_ := Aside0.mk (Mem.X.below (by repeat (first | exact X_w0.out | apply Mem.X.alloc | apply Mem.X.drewN)) hb)
  have n3_ := Aside0.mk (Mem.S.below (by repeat (first | exact H_g0.out | apply Mem.S.alloc | apply Mem.S.drewN)) hb)
  have n4_ := Aside0.mk (Mem.X.below (by repeat (first | exact X_g0.out | apply Mem.X.alloc | apply Mem.X.drewN)) hb)
  clear c_X_w0 d_X_w0 c_X_g0 d_X_g0
  clear HB H_w0 X_w0 H_g0 X_g0
  have HB := n0_
  have H_w0 := n1_
  have X_w0 := n2_
  have H_g0 := n3_
  have X_g0 := n4_
  clear n0_ n1_ n2_ n3_ n4_
  have c_X_w0 : w8.cell? ⟨w2.heap.size, 0, none⟩ = some (.slice A_w0 r.length c_w0) := (X_w0.out.cell 0).trans rfl
  have d_X_w0 : ∀ o, (w8.alloc o).cell? ⟨w2.heap.size, 0, none⟩ = some (.slice A_w0 r.length c_w0) := fun o => (X_w0.out.cellA 0 o).trans rfl
  have c_X_g0 : w8.cell? ⟨w4.heap.size, 0, none⟩ = some (.slice A_g0 r.length c_g0) := (X_g0.out.cell 0).trans rfl
  have d_X_g0 : ∀ o, (w8.alloc o).cell? ⟨w4.heap.size, 0, none⟩ = some (.slice A_g0 r.length c_g0) := fun o => (X_g0.out.cellA 0 o).trans rfl
  clear hb
  go_wp2_with (fail)
  refine (laws_markMatrix.writes k (fun k_ => lo_g0 ≤ k_ ∧ k_ < hi_g0) _ r 1 m1 rg w _ (by repeat (first | exact HB.out | apply below_alloc | apply pw_below_drewN)) ?s1 E_MM.out).mono ?_
  case s1 => exact Mem.S.rows (by repeat (first | exact H_g0.out | apply Mem.S.alloc | apply Mem.S.drewN))
  rintro e w9 ⟨rfl, hS2, hB2, hK2⟩
  have n0_ := Aside0.mk (hB2)
  have n1_ := Aside0.mk (Mem.S.kept (by repeat (first | exact H_w0.out | apply Mem.S.alloc | apply Mem.S.drewN)) hK2 (by have := OA_a.out; have := OB_a.out; have := OA_w0.out; have := OB_w0.out; have := OX_w0.out; have := OA_x0.out; have := OB_x0.out; have := OA_g0.out; have := OB_g0.out; have := OX_g0.out; have := OA_b.out; have := OB_b.out; omega))
  have n2_ := Aside0.mk (Mem.X.kept (by repeat (first | exact X_w0.out | apply Mem.X.alloc | apply Mem.X.drewN)) hK2 (by have := OA_a.out; have := OB_a.out; have := OA_w0.out; have := OB_w0.out; have := OX_w0.out; have := OA_x0.out; have := OB_x0.out; have := OA_g0.out; have := OB_g0.out; have := OX_g0.out; have := OA_b.out; have := OB_b.out; omega))
  have n3_ := Aside0.mk (Mem.S.write (by repeat (first | exact H_g0.out | apply Mem.S.alloc | apply Mem.S.drewN)) hK2 hS2)
  have n4_ := Aside0.mk (Mem.X.kept (by repeat (first | exact X_g0.out | apply Mem.X.alloc | apply Mem.X.drewN)) hK2 (by have := OA_a.out; have := OB_a.out; have := OA_w0.out; have := OB_w0.out; have := OX_w0.out; have := OA_x0.out; have := OB_x0.out; have := OA_g0.out; have := OB_g0.out; have := OX_g0.out; have := OA_b.out; have := OB_b.out; omega))
  clear c_X_w0 d_X_w0 c_X_g0 d_X_g0
  clear HB H_w0 X_w0 H_g0 X_g0
  have HB := n0_
  have H_w0 := n1_
  have X_w0 := n2_
  have H_g0 := n3_
  have X_g0 := n4_
  clear n0_ n1_ n2_ n3_ n4_
  have c_X_w0 : w9.cell? ⟨w2.heap.size, 0, none⟩ = some (.slice A_w0 r.length c_w0) := (X_w0.out.cell 0).trans rfl
  have d_X_w0 : ∀ o, (w9.alloc o).cell? ⟨w2.heap.size, 0, none⟩ = some (.slice A_w0 r.length c_w0) := fun o => (X_w0.out.cellA 0 o).trans rfl
  have c_X_g0 : w9.cell? ⟨w4.heap.size, 0, none⟩ = some (.slice A_g0 r.length c_g0) := (X_g0.out.cell 0).trans rfl
  have d_X_g0 : ∀ o, (w9.alloc o).cell? ⟨w4.heap.size, 0, none⟩ = some (.slice A_g0 r.length c_g0) := fun o => (X_g0.out.cellA 0 o).trans rfl
  clear hB2 hK2
  clear hS2
  have LEN := Aside0.mk (Mem.S.len H_g0.out)
  go_wp2_with (fail)
  refine calls_of_args (args' := #[.agg #[.slice A_g0 rg.length c_g0], .int .i64 1]) (by rw [LEN.out]) ?_
  refine (laws_heldMatrix.calls k A_g0 c_g0 rg 1 m1 _ ?s1 ?s2 E_HM.out).mono ?_
  case s1 => exact Mem.S.now (by repeat (first | exact H_g0.out | apply Mem.S.alloc | apply Mem.S.drewN))
  case s2 => exact Mem.S.cap (W := w9) H_g0.out
  rintro e w10 ⟨rfl, hb⟩
  have n0_ := Aside0.mk (below_step (by repeat (first | exact HB.out | apply below_alloc | apply pw_below_drewN)) hb)
  have n1_ := Aside0.mk (Mem.S.below (by repeat (first | exact H_w0.out | apply Mem.S.alloc | apply Mem.S.drewN)) hb)
  have n2_ := Aside0.mk (Mem.X.below (by repeat (first | exact X_w0.out | apply Mem.X.alloc | apply Mem.X.drewN)) hb)
  have n3_ := Aside0.mk (Mem.S.below (by repeat (first | exact H_g0.out | apply Mem.S.alloc | apply Mem.S.drewN)) hb)
  have n4_ := Aside0.mk (Mem.X.below (by repeat (first | exact X_g0.out | apply Mem.X.alloc | apply Mem.X.drewN)) hb)
  clear c_X_w0 d_X_w0 c_X_g0 d_X_g0
  clear HB H_w0 X_w0 H_g0 X_g0
  have HB := n0_
  have H_w0 := n1_
  have X_w0 := n2_
  have H_g0 := n3_
  have X_g0 := n4_
  clear n0_ n1_ n2_ n3_ n4_
  have c_X_w0 : w10.cell? ⟨w2.heap.size, 0, none⟩ = some (.slice A_w0 r.length c_w0) := (X_w0.out.cell 0).trans rfl
  have d_X_w0 : ∀ o, (w10.alloc o).cell? ⟨w2.heap.size, 0, none⟩ = some (.slice A_w0 r.length c_w0) := fun o => (X_w0.out.cellA 0 o).trans rfl
  have c_X_g0 : w10.cell? ⟨w4.heap.size, 0, none⟩ = some (.slice A_g0 r.length c_g0) := (X_g0.out.cell 0).trans rfl
  have d_X_g0 : ∀ o, (w10.alloc o).cell? ⟨w4.heap.size, 0, none⟩ = some (.slice A_g0 r.length c_g0) := fun o => (X_g0.out.cellA 0 o).trans rfl
  clear hb
  go_wp2_with (fail)
  refine (laws_toIntS.calls k A0 c0 l0 l0 _ ?s1 HL0.out E_TO.out).mono ?_
  case s1 => exact Kd.C_below HC0.out (by repeat (first | exact HB.out | apply below_alloc | apply pw_below_drewN))
  rintro e w11 ⟨v_, rfl, hs_, hb⟩
  obtain ⟨lo_c, hi_c, oa_c, ob_c, hm_⟩ := Mem.R.made' (w4.heap.size + 1) hs_ (by repeat (first | exact HB.out | apply below_alloc | apply pw_below_drewN)) hb (Mem.X.lt (by repeat (first | exact X_g0.out | apply Mem.X.alloc | apply Mem.X.drewN)))
  have OA_c := Aside0.mk oa_c; have OB_c := Aside0.mk ob_c; clear oa_c ob_c hs_
  obtain ⟨A_c, c_c, rfl, _, _⟩ := hm_.reads
  have H_c := Aside0.mk hm_; clear hm_
  have n0_ := Aside0.mk (below_step (by repeat (first | exact HB.out | apply below_alloc | apply pw_below_drewN)) hb)
  have n1_ := Aside0.mk (Mem.S.below (by repeat (first | exact H_w0.out | apply Mem.S.alloc | apply Mem.S.drewN)) hb)
  have n2_ := Aside0.mk (Mem.X.below (by repeat (first | exact X_w0.out | apply Mem.X.alloc | apply Mem.X.drewN)) hb)
  have n3_ := Aside0.mk (Mem.S.below (by repeat (first | exact H_g0.out | apply Mem.S.alloc | apply Mem.S.drewN)) hb)
  have n4_ := Aside0.mk (Mem.X.below (by repeat (first | exact X_g0.out | apply Mem.X.alloc | apply Mem.X.drewN)) hb)
  clear c_X_w0 d_X_w0 c_X_g0 d_X_g0
  clear HB H_w0 X_w0 H_g0 X_g0
  have HB := n0_
  have H_w0 := n1_
  have X_w0 := n2_
  have H_g0 := n3_
  have X_g0 := n4_
  clear n0_ n1_ n2_ n3_ n4_
  have c_X_w0 : w11.cell? ⟨w2.heap.size, 0, none⟩ = some (.slice A_w0 r.length c_w0) := (X_w0.out.cell 0).trans rfl
  have d_X_w0 : ∀ o, (w11.alloc o).cell? ⟨w2.heap.size, 0, none⟩ = some (.slice A_w0 r.length c_w0) := fun o => (X_w0.out.cellA 0 o).trans rfl
  have c_X_g0 : w11.cell? ⟨w4.heap.size, 0, none⟩ = some (.slice A_g0 r.length c_g0) := (X_g0.out.cell 0).trans rfl
  have d_X_g0 : ∀ o, (w11.alloc o).cell? ⟨w4.heap.size, 0, none⟩ = some (.slice A_g0 r.length c_g0) := fun o => (X_g0.out.cellA 0 o).trans rfl
  clear hb
  go_wp2_with (fail)
  refine (impl_MatrixOfMatching.calls k A_c c_c l0 r b _ ?s1 ?s2 E_IM.out).mono ?_
  case s1 => exact Mem.R.now (by repeat (first | exact H_c.out | apply Mem.R.alloc | apply Mem.R.drewN))
  case s2 => exact Mem.R.cap (W := w11) H_c.out
  rintro e w12 ⟨v_, rfl, hs_, hb⟩
  obtain ⟨lo_h0, hi_h0, oa_h0, ob_h0, hm_⟩ := Mem.S.made' (hi_c) hs_ (by repeat (first | exact HB.out | apply below_alloc | apply pw_below_drewN)) hb (Mem.R.size (by repeat (first | exact H_c.out | apply Mem.R.alloc | apply Mem.R.drewN)))
  have OA_h0 := Aside0.mk oa_h0; have OB_h0 := Aside0.mk ob_h0; clear oa_h0 ob_h0 hs_
  obtain ⟨A_h0, c_h0, rfl, _, _⟩ := hm_.reads
  have H_h0 := Aside0.mk hm_; clear hm_
  have n0_ := Aside0.mk (below_step (by repeat (first | exact HB.out | apply below_alloc | apply pw_below_drewN)) hb)
  have n1_ := Aside0.mk (Mem.S.below (by repeat (first | exact H_w0.out | apply Mem.S.alloc | apply Mem.S.drewN)) hb)
  have n2_ := Aside0.mk (Mem.X.below (by repeat (first | exact X_w0.out | apply Mem.X.alloc | apply Mem.X.drewN)) hb)
  have n3_ := Aside0.mk (Mem.S.below (by repeat (first | exact H_g0.out | apply Mem.S.alloc | apply Mem.S.drewN)) hb)
  have n4_ := Aside0.mk (Mem.X.below (by repeat (first | exact X_g0.out | apply Mem.X.alloc | apply Mem.X.drewN)) hb)
  have n5_ := Aside0.mk (Mem.R.below (by repeat (first | exact H_c.out | apply Mem.R.alloc | apply Mem.R.drewN)) hb)
  clear c_X_w0 d_X_w0 c_X_g0 d_X_g0
  clear HB H_w0 X_w0 H_g0 X_g0 H_c
  have HB := n0_
  have H_w0 := n1_
  have X_w0 := n2_
  have H_g0 := n3_
  have X_g0 := n4_
  have H_c := n5_
  clear n0_ n1_ n2_ n3_ n4_ n5_
  have c_X_w0 : w12.cell? ⟨w2.heap.size, 0, none⟩ = some (.slice A_w0 r.length c_w0) := (X_w0.out.cell 0).trans rfl
  have d_X_w0 : ∀ o, (w12.alloc o).cell? ⟨w2.heap.size, 0, none⟩ = some (.slice A_w0 r.length c_w0) := fun o => (X_w0.out.cellA 0 o).trans rfl
  have c_X_g0 : w12.cell? ⟨w4.heap.size, 0, none⟩ = some (.slice A_g0 r.length c_g0) := (X_g0.out.cell 0).trans rfl
  have d_X_g0 : ∀ o, (w12.alloc o).cell? ⟨w4.heap.size, 0, none⟩ = some (.slice A_g0 r.length c_g0) := fun o => (X_g0.out.cellA 0 o).trans rfl
  clear hb
  clear H_c
  have OX_h0 : Aside0 (hi_h0 ≤ w12.heap.size) := ⟨Mem.S.size H_h0.out⟩
  go_wp2_with (fail)
  refine (laws_eqMatrix.calls k A_h0 c_h0 r A_w0 c_w0 r true _ ?s1 ?s2 ?s3 ?s4 E_EM.out).mono ?_
  case s1 => exact Mem.S.now (by repeat (first | exact H_h0.out | apply Mem.S.alloc | apply Mem.S.drewN))
  case s2 => exact Mem.S.cap (W := w12) H_h0.out
  case s3 => exact Mem.S.now (by repeat (first | exact H_w0.out | apply Mem.S.alloc | apply Mem.S.drewN))
  case s4 => exact Mem.S.cap (W := w12) H_w0.out
  rintro e w13 ⟨rfl, hb⟩
  have n0_ := Aside0.mk (below_step (by repeat (first | exact HB.out | apply below_alloc | apply pw_below_drewN)) hb)
  have n1_ := Aside0.mk (Mem.S.below (by repeat (first | exact H_w0.out | apply Mem.S.alloc | apply Mem.S.drewN)) hb)
  have n2_ := Aside0.mk (Mem.X.below (by repeat (first | exact X_w0.out | apply Mem.X.alloc | apply Mem.X.drewN)) hb)
  have n3_ := Aside0.mk (Mem.S.below (by repeat (first | exact H_g0.out | apply Mem.S.alloc | apply Mem.S.drewN)) hb)
  have n4_ := Aside0.mk (Mem.X.below (by repeat (first | exact X_g0.out | apply Mem.X.alloc | apply Mem.X.drewN)) hb)
  have n5_ := Aside0.mk (Mem.S.below (by repeat (first | exact H_h0.out | apply Mem.S.alloc | apply Mem.S.drewN)) hb)
  have n6_ := Aside0.mk (Mem.X.below (by repeat (first | exact Mem.X.new w12 _ _ | apply Mem.X.alloc | apply Mem.X.drewN)) hb)
  clear c_X_w0 d_X_w0 c_X_g0 d_X_g0
  clear HB H_w0 X_w0 H_g0 X_g0 H_h0
  have HB := n0_
  have H_w0 := n1_
  have X_w0 := n2_
  have H_g0 := n3_
  have X_g0 := n4_
  have H_h0 := n5_
  have X_h0 := n6_
  clear n0_ n1_ n2_ n3_ n4_ n5_ n6_
  have c_X_w0 : w13.cell? ⟨w2.heap.size, 0, none⟩ = some (.slice A_w0 r.length c_w0) := (X_w0.out.cell 0).trans rfl
  have d_X_w0 : ∀ o, (w13.alloc o).cell? ⟨w2.heap.size, 0, none⟩ = some (.slice A_w0 r.length c_w0) := fun o => (X_w0.out.cellA 0 o).trans rfl
  have c_X_g0 : w13.cell? ⟨w4.heap.size, 0, none⟩ = some (.slice A_g0 r.length c_g0) := (X_g0.out.cell 0).trans rfl
  have d_X_g0 : ∀ o, (w13.alloc o).cell? ⟨w4.heap.size, 0, none⟩ = some (.slice A_g0 r.length c_g0) := fun o => (X_g0.out.cellA 0 o).trans rfl
  have c_X_h0 : w13.cell? ⟨w12.heap.size, 0, none⟩ = some (.slice A_h0 r.length c_h0) := (X_h0.out.cell 0).trans rfl
  have d_X_h0 : ∀ o, (w13.alloc o).cell? ⟨w12.heap.size, 0, none⟩ = some (.slice A_h0 r.length c_h0) := fun o => (X_h0.out.cellA 0 o).trans rfl
  clear hb
  go_wp2_with (fail)
  refine calls_of_args (args' := #[.agg #[.slice A_g0 rg.length c_g0], .int .i64 1]) (by rw [LEN.out]) ?_
  refine (laws_heldMatrix.calls k A_g0 c_g0 rg 1 m1 _ ?s1 ?s2 E_HM.out).mono ?_
  case s1 => exact Mem.S.now (by repeat (first | exact H_g0.out | apply Mem.S.alloc | apply Mem.S.drewN))
  case s2 => exact Mem.S.cap (W := w13) H_g0.out
  rintro e w14 ⟨rfl, hb⟩
  have n0_ := Aside0.mk (below_step (by repeat (first | exact HB.out | apply below_alloc | apply pw_below_drewN)) hb)
  have n1_ := Aside0.mk (Mem.S.below (by repeat (first | exact H_w0.out | apply Mem.S.alloc | apply Mem.S.drewN)) hb)
  have n2_ := Aside0.mk (Mem.X.below (by repeat (first | exact X_w0.out | apply Mem.X.alloc | apply Mem.X.drewN)) hb)
  have n3_ := Aside0.mk (Mem.S.below (by repeat (first | exact H_g0.out | apply Mem.S.alloc | apply Mem.S.drewN)) hb)
  have n4_ := Aside0.mk (Mem.X.below (by repeat (first | exact X_g0.out | apply Mem.X.alloc | apply Mem.X.drewN)) hb)
  have n5_ := Aside0.mk (Mem.S.below (by repeat (first | exact H_h0.out | apply Mem.S.alloc | apply Mem.S.drewN)) hb)
  have n6_ := Aside0.mk (Mem.X.below (by repeat (first | exact X_h0.out | apply Mem.X.alloc | apply Mem.X.drewN)) hb)
  clear c_X_w0 d_X_w0 c_X_g0 d_X_g0 c_X_h0 d_X_h0
  clear HB H_w0 X_w0 H_g0 X_g0 H_h0 X_h0
  have HB := n0_
  have H_w0 := n1_
  have X_w0 := n2_
  have H_g0 := n3_
  have X_g0 := n4_
  have H_h0 := n5_
  have X_h0 := n6_
  clear n0_ n1_ n2_ n3_ n4_ n5_ n6_
  have c_X_w0 : w14.cell? ⟨w2.heap.size, 0, none⟩ = some (.slice A_w0 r.length c_w0) := (X_w0.out.cell 0).trans rfl
  have d_X_w0 : ∀ o, (w14.alloc o).cell? ⟨w2.heap.size, 0, none⟩ = some (.slice A_w0 r.length c_w0) := fun o => (X_w0.out.cellA 0 o).trans rfl
  have c_X_g0 : w14.cell? ⟨w4.heap.size, 0, none⟩ = some (.slice A_g0 r.length c_g0) := (X_g0.out.cell 0).trans rfl
  have d_X_g0 : ∀ o, (w14.alloc o).cell? ⟨w4.heap.size, 0, none⟩ = some (.slice A_g0 r.length c_g0) := fun o => (X_g0.out.cellA 0 o).trans rfl
  have c_X_h0 : w14.cell? ⟨w12.heap.size, 0, none⟩ = some (.slice A_h0 r.length c_h0) := (X_h0.out.cell 0).trans rfl
  have d_X_h0 : ∀ o, (w14.alloc o).cell? ⟨w12.heap.size, 0, none⟩ = some (.slice A_h0 r.length c_h0) := fun o => (X_h0.out.cellA 0 o).trans rfl
  clear hb
  go_wp2
  go_ret
  exact ⟨rfl, (by repeat (first | exact HB.out | apply below_alloc | apply pw_below_drewN))⟩
/-- What the plain side has to show. -/
def laws_FnExactMatrixOfMatching.Plain (l0 : List Int) : Prop := l0.length ≤ 1048576 → ∃ (k : Nat) (lx : List Int) (r rg : List (List Int)) (b : Bool) (k1 m1 : Int), laws_toIntS.f k l0 = some l0 ∧ spec_MatrixOfMatching.f k l0 = some (r, b) ∧ impl_MatrixOfMatching.f k l0 = some (r, b) ∧ laws_eqMatrix.f k r r = some true ∧ laws_eqIntS.f k l0 l0 = some true ∧ laws_markIntS.f k l0 1 = some (k1, lx) ∧ 0 ≤ k1 ∧ laws_markMatrix.f k r 1 = some (m1, rg) ∧ 0 ≤ m1 ∧ laws_heldMatrix.f k rg 1 = some m1
theorem laws_FnExactMatrixOfMatching.whole (A0 : Option Addr) (c0 : Nat) (l0 : List Int) (w : World) (hr0 : Kd.C (Kd.int .i64) w A0 l0.length l0) (hc0 : l0.length ≤ c0) (h : laws_FnExactMatrixOfMatching.Plain l0) :
    Calls Try.prog 13 #[.slice A0 l0.length c0] w fun e w' => e = .returned (.bool true) ∧ Below w.heap.size w w' := by
  by_cases hg : l0.length ≤ 1048576
  · obtain ⟨k, lx, r, rg, b, k1, m1, q0, q1, q2, q3, q4, q5, q6, q7, q8, q9⟩ := h hg
    exact laws_FnExactMatrixOfMatching.near k A0 c0 l0 lx r rg b k1 m1 w hr0 hc0 hg q0 q1 q2 q3 q4 q5 q6 q7 q8 q9
  · exact laws_FnExactMatrixOfMatching.far A0 c0 l0 w hg
end Go.Proofs.Ytgpigjjhkemmeaa.R
