/- The walk of FnExactMatrixOfOrder: on the way that answers true. -/
import Derived.Test.YtcodionjhcmfhaaDoorMo1
import Derived.Test.YtcodionjhcmfhaaDoorMo14
import Derived.Test.YtcodionjhcmfhaaDoorMo15
import Derived.Test.YtcodionjhcmfhaaDoorMo16
import Derived.Test.YtcodionjhcmfhaaDoorMo7
import Derived.Test.YtcodionjhcmfhaaDoorMoXMem
namespace Go.Proofs.YtcodionjhcmfhaaDoor.Mo
open Go.RowKit Go.Proofs.YtcodionjhcmfhaaDoorW.PrintWords Go.Proofs.YtcodionjhcmfhaaDoorW.PrintLast Go.Proofs.YtcodionjhcmfhaaDoorW.PrintMore Go.Proofs.YtcodionjhcmfhaaDoor.Sq
attribute [local go_sem] max2_int min2_int max_two min_two max_three min_three max_four min_four
set_option linter.unusedVariables false
set_option linter.unusedSimpArgs false
set_option maxHeartbeats 8000000 in
set_option maxRecDepth 100000 in
theorem laws_FnExactMatrixOfOrder.far (k : Nat) (y0 : Int) (A0 : Option Addr) (c0 : Nat) (l0 : List Int) (s0 : Int) (w : World) (hV : TabZ w) (hr0 : Kd.C (Kd.int .i64) w A0 l0.length l0) (hc0 : l0.length ≤ c0) (e_s0 : laws_szOrder.f y0 l0 1048576 = some s0) (hs0 : s0 < 0) :
    Calls Tryd.prog 3 #[.agg #[.int .i64 y0, .slice A0 l0.length c0]] w fun e w' => e = .returned (.bool true) ∧ Below w.heap.size w w' := by
 have E_S0 := Aside0.mk e_s0; clear e_s0
 have HC0 := Aside0.mk hr0; have HL0 := Aside0.mk hc0; clear hr0 hc0
 have HB := Aside0.mk (Below.refl w.heap.size w)
 have HV := Aside0.mk hV; clear hV
 go_enter Tryd.func3, Tryd.ntmps3
 go_wp2_with (fail)
 refine (laws_szOrder.calls y0 A0 c0 l0 1048576 s0 _ ?s1 HL0.out E_S0.out).mono ?_
 case s1 => exact Kd.C_below HC0.out (by repeat (first | exact HB.out | apply below_alloc | apply pw_below_drewN | apply below_drew1))
 rintro e w1 ⟨rfl, hb⟩
 have n0_ := Aside0.mk (below_step (by repeat (first | exact HB.out | apply below_alloc | apply pw_below_drewN | apply below_drew1)) hb)
 have n1_ := Aside0.mk (Mem.X.below (by repeat (first | exact Mem.X.new w _ _ | apply Mem.X.alloc | apply Mem.X.drewN | apply Mem.X.drew1)) hb)
 clear HB
 have HB := n0_
 have X_a0 := n1_
 clear n0_ n1_
 have c_X_a0 : w1.cell? ⟨w.heap.size, 0, none⟩ = some (.int .i64 y0) := (X_a0.out.cell 0).trans rfl
 have d_X_a0 : ∀ o, (w1.alloc o).cell? ⟨w.heap.size, 0, none⟩ = some (.int .i64 y0) := fun o => (X_a0.out.cellA 0 o).trans rfl
 have c_X_a0_1 : w1.cell? ⟨w.heap.size, 1, none⟩ = some (.slice A0 l0.length c0) := (X_a0.out.cell 1).trans rfl
 have d_X_a0_1 : ∀ o, (w1.alloc o).cell? ⟨w.heap.size, 1, none⟩ = some (.slice A0 l0.length c0) := fun o => (X_a0.out.cellA 1 o).trans rfl
 clear hb
 have g3 : decide (s0 < 0) = true := decide_eq_true hs0
 go_wp2
 go_ret
 exact ⟨rfl, (by repeat (first | exact HB.out | apply below_alloc | apply pw_below_drewN | apply below_drew1))⟩
set_option maxHeartbeats 8000000 in
set_option maxRecDepth 100000 in
theorem laws_FnExactMatrixOfOrder.near (k : Nat) (y0 : Int) (A0 : Option Addr) (c0 : Nat) (l0 : List Int) (w : World) (hV : TabZ w) (hr0 : Kd.C (Kd.int .i64) w A0 l0.length l0) (hc0 : l0.length ≤ c0) (r0 : List (List Int)) (r1 : Bool) (x0 : Int) (lx0 : List Int) (m0 : Int) (rg0 : List (List Int)) (s0 : Int) (e_s0 : laws_szOrder.f y0 l0 1048576 = some s0) (hs0 : ¬ s0 < 0) (e_to0 : laws_toOrder.f k y0 l0 = some (y0, l0)) (e_sp : spec_MatrixOfOrder.f k y0 l0 = some (r0, r1)) (e_im : impl_MatrixOfOrder.f k y0 l0 = some (r0, r1)) (e_eq0 : laws_eqMatrix.f k r0 r0 = some true) (e_ex0 : laws_eqOrder.f k y0 l0 y0 l0 = some true) (e_mx0 : laws_markOrder.f k y0 l0 1 = some (x0, lx0)) (p_x0 : 0 ≤ x0) (e_mr0 : laws_markMatrix.f k r0 1 = some (m0, rg0)) (p_m0 : 0 ≤ m0) (e_hr0 : laws_heldMatrix.f k rg0 1 = some m0) :
    Calls Tryd.prog 3 #[.agg #[.int .i64 y0, .slice A0 l0.length c0]] w fun e w' => e = .returned (.bool true) ∧ Below w.heap.size w w' := by
 have HC0 := Aside0.mk hr0; have HL0 := Aside0.mk hc0; clear hr0 hc0
 have HB := Aside0.mk (Below.refl w.heap.size w)
 have HV := Aside0.mk hV; clear hV
 have E_S0 := Aside0.mk e_s0; clear e_s0
 have gs0 : decide (s0 < 0) = false := decide_eq_false hs0
 clear hs0
 have E_TO0 := Aside0.mk e_to0; clear e_to0
 have E_SP := Aside0.mk e_sp; clear e_sp
 have E_IM := Aside0.mk e_im; clear e_im
 have E_EQ0 := Aside0.mk e_eq0; clear e_eq0
 have E_EX0 := Aside0.mk e_ex0; clear e_ex0
 have E_MX0 := Aside0.mk e_mx0; clear e_mx0
 have g_x0 : decide (x0 < 0) = false := decide_eq_false (by omega)
 clear p_x0
 have E_MR0 := Aside0.mk e_mr0; clear e_mr0
 have g_m0 : decide (m0 < 0) = false := decide_eq_false (by omega)
 clear p_m0
 have E_HR0 := Aside0.mk e_hr0; clear e_hr0
 go_enter Tryd.func3, Tryd.ntmps3
 go_wp2_with (fail)
 refine (laws_szOrder.calls y0 A0 c0 l0 1048576 s0 _ ?s1 HL0.out E_S0.out).mono ?_
 case s1 => exact Kd.C_below HC0.out (by repeat (first | exact HB.out | apply below_alloc | apply pw_below_drewN | apply below_drew1))
 rintro e w1 ⟨rfl, hb⟩
 have n0_ := Aside0.mk (below_step (by repeat (first | exact HB.out | apply below_alloc | apply pw_below_drewN | apply below_drew1)) hb)
 have n1_ := Aside0.mk (Mem.X.below (by repeat (first | exact Mem.X.new w _ _ | apply Mem.X.alloc | apply Mem.X.drewN | apply Mem.X.drew1)) hb)
 clear HB
 have HB := n0_
 have X_a0 := n1_
 clear n0_ n1_
 have c_X_a0 : w1.cell? ⟨w.heap.size, 0, none⟩ = some (.int .i64 y0) := (X_a0.out.cell 0).trans rfl
 have d_X_a0 : ∀ o, (w1.alloc o).cell? ⟨w.heap.size, 0, none⟩ = some (.int .i64 y0) := fun o => (X_a0.out.cellA 0 o).trans rfl
 have c_X_a0_1 : w1.cell? ⟨w.heap.size, 1, none⟩ = some (.slice A0 l0.length c0) := (X_a0.out.cell 1).trans rfl
 have d_X_a0_1 : ∀ o, (w1.alloc o).cell? ⟨w.heap.size, 1, none⟩ = some (.slice A0 l0.length c0) := fun o => (X_a0.out.cellA 1 o).trans rfl
 clear hb
 go_wp2_with (fail)
 refine (laws_toOrder.calls k y0 A0 c0 l0 y0 l0 _ ?s1 HL0.out E_TO0.out).mono ?_
 case s1 => exact Kd.C_below HC0.out (by repeat (first | exact HB.out | apply below_alloc | apply pw_below_drewN | apply below_drew1))
 rintro e w2 ⟨v_, rfl, hs_, hb⟩
 obtain ⟨lo_a0, hi_a0, oa_a0, ob_a0, hm_⟩ := Mem.R.made' (w.heap.size + 1) hs_ (by repeat (first | exact HB.out | apply below_alloc | apply pw_below_drewN | apply below_drew1)) hb (Mem.X.lt (by repeat (first | exact X_a0.out | apply Mem.X.alloc | apply Mem.X.drewN | apply Mem.X.drew1)))
 clear hs_
 have OA_a0 := Aside0.mk oa_a0; have OB_a0 := Aside0.mk ob_a0; clear oa_a0 ob_a0
 obtain ⟨A_a0, c_a0, rfl, _, _⟩ := hm_.reads
 have H_a0 := Aside0.mk hm_; clear hm_
 have n0_ := Aside0.mk (below_step (by repeat (first | exact HB.out | apply below_alloc | apply pw_below_drewN | apply below_drew1)) hb)
 have n1_ := Aside0.mk (Mem.X.below (by repeat (first | exact X_a0.out | apply Mem.X.alloc | apply Mem.X.drewN | apply Mem.X.drew1)) hb)
 clear c_X_a0 d_X_a0 c_X_a0_1 d_X_a0_1
 clear HB X_a0
 have HB := n0_
 have X_a0 := n1_
 clear n0_ n1_
 have c_X_a0 : w2.cell? ⟨w.heap.size, 0, none⟩ = some (.int .i64 y0) := (X_a0.out.cell 0).trans rfl
 have d_X_a0 : ∀ o, (w2.alloc o).cell? ⟨w.heap.size, 0, none⟩ = some (.int .i64 y0) := fun o => (X_a0.out.cellA 0 o).trans rfl
 have c_X_a0_1 : w2.cell? ⟨w.heap.size, 1, none⟩ = some (.slice A0 l0.length c0) := (X_a0.out.cell 1).trans rfl
 have d_X_a0_1 : ∀ o, (w2.alloc o).cell? ⟨w.heap.size, 1, none⟩ = some (.slice A0 l0.length c0) := fun o => (X_a0.out.cellA 1 o).trans rfl
 clear hb
 go_wp2_with (fail)
 refine (spec_MatrixOfOrder.calls k y0 A_a0 c_a0 l0 r0 r1 _ ?s0 ?t0 E_SP.out).mono ?_
 case s0 => exact Mem.R.now (by repeat (first | exact H_a0.out | apply Mem.R.alloc | apply Mem.R.drewN | apply Mem.R.drew1))
 case t0 => exact Mem.R.cap (W := w2) H_a0.out
 rintro e w3 ⟨v_, rfl, hs_, hb⟩
 obtain ⟨lo_w0, hi_w0, oa_w0, ob_w0, hm_⟩ := Mem.S.made' (hi_a0) hs_ (by repeat (first | exact HB.out | apply below_alloc | apply pw_below_drewN | apply below_drew1)) hb (Mem.R.size (by repeat (first | exact H_a0.out | apply Mem.R.alloc | apply Mem.R.drewN | apply Mem.R.drew1)))
 clear hs_
 have OA_w0 := Aside0.mk oa_w0; have OB_w0 := Aside0.mk ob_w0; clear oa_w0 ob_w0
 obtain ⟨A_w0, c_w0, rfl, _, _⟩ := hm_.reads
 have H_w0 := Aside0.mk hm_; clear hm_
 have n0_ := Aside0.mk (below_step (by repeat (first | exact HB.out | apply below_alloc | apply pw_below_drewN | apply below_drew1)) hb)
 have n1_ := Aside0.mk (Mem.X.below (by repeat (first | exact X_a0.out | apply Mem.X.alloc | apply Mem.X.drewN | apply Mem.X.drew1)) hb)
 have n2_ := Aside0.mk (Mem.R.below (by repeat (first | exact H_a0.out | apply Mem.R.alloc | apply Mem.R.drewN | apply Mem.R.drew1)) hb)
 clear c_X_a0 d_X_a0 c_X_a0_1 d_X_a0_1
 clear HB X_a0 H_a0
 have HB := n0_
 have X_a0 := n1_
 have H_a0 := n2_
 clear n0_ n1_ n2_
 have c_X_a0 : w3.cell? ⟨w.heap.size, 0, none⟩ = some (.int .i64 y0) := (X_a0.out.cell 0).trans rfl
 have d_X_a0 : ∀ o, (w3.alloc o).cell? ⟨w.heap.size, 0, none⟩ = some (.int .i64 y0) := fun o => (X_a0.out.cellA 0 o).trans rfl
 have c_X_a0_1 : w3.cell? ⟨w.heap.size, 1, none⟩ = some (.slice A0 l0.length c0) := (X_a0.out.cell 1).trans rfl
 have d_X_a0_1 : ∀ o, (w3.alloc o).cell? ⟨w.heap.size, 1, none⟩ = some (.slice A0 l0.length c0) := fun o => (X_a0.out.cellA 1 o).trans rfl
 clear hb
 clear H_a0
 have OX_w0 : Aside0 (hi_w0 ≤ w3.heap.size) := ⟨Mem.S.size H_w0.out⟩
 go_wp2_with (fail)
 refine (laws_toOrder.calls k y0 A0 c0 l0 y0 l0 _ ?s1 HL0.out E_TO0.out).mono ?_
 case s1 => exact Kd.C_below HC0.out (by repeat (first | exact HB.out | apply below_alloc | apply pw_below_drewN | apply below_drew1))
 rintro e w4 ⟨v_, rfl, hs_, hb⟩
 obtain ⟨lo_x0, hi_x0, oa_x0, ob_x0, hm_⟩ := Mem.R.made' (w3.heap.size + 1) hs_ (by repeat (first | exact HB.out | apply below_alloc | apply pw_below_drewN | apply below_drew1)) hb (Mem.X.lt (by repeat (first | exact Mem.X.new w3 _ _ | apply Mem.X.alloc | apply Mem.X.drewN | apply Mem.X.drew1)))
 clear hs_
 have OA_x0 := Aside0.mk oa_x0; have OB_x0 := Aside0.mk ob_x0; clear oa_x0 ob_x0
 obtain ⟨A_x0, c_x0, rfl, _, _⟩ := hm_.reads
 have H_x0 := Aside0.mk hm_; clear hm_
 have n0_ := Aside0.mk (below_step (by repeat (first | exact HB.out | apply below_alloc | apply pw_below_drewN | apply below_drew1)) hb)
 have n1_ := Aside0.mk (Mem.X.below (by repeat (first | exact X_a0.out | apply Mem.X.alloc | apply Mem.X.drewN | apply Mem.X.drew1)) hb)
 have n2_ := Aside0.mk (Mem.S.below (by repeat (first | exact H_w0.out | apply Mem.S.alloc | apply Mem.S.drewN | apply Mem.S.drew1)) hb)
 have n3_ := Aside0.mk (Mem.X.below (by repeat (first | exact Mem.X.new w3 _ _ | apply Mem.X.alloc | apply Mem.X.drewN | apply Mem.X.drew1)) hb)
 clear c_X_a0 d_X_a0 c_X_a0_1 d_X_a0_1
 clear HB X_a0 H_w0
 have HB := n0_
 have X_a0 := n1_
 have H_w0 := n2_
 have X_w0 := n3_
 clear n0_ n1_ n2_ n3_
 have c_X_a0 : w4.cell? ⟨w.heap.size, 0, none⟩ = some (.int .i64 y0) := (X_a0.out.cell 0).trans rfl
 have d_X_a0 : ∀ o, (w4.alloc o).cell? ⟨w.heap.size, 0, none⟩ = some (.int .i64 y0) := fun o => (X_a0.out.cellA 0 o).trans rfl
 have c_X_a0_1 : w4.cell? ⟨w.heap.size, 1, none⟩ = some (.slice A0 l0.length c0) := (X_a0.out.cell 1).trans rfl
 have d_X_a0_1 : ∀ o, (w4.alloc o).cell? ⟨w.heap.size, 1, none⟩ = some (.slice A0 l0.length c0) := fun o => (X_a0.out.cellA 1 o).trans rfl
 have c_X_w0 : w4.cell? ⟨w3.heap.size, 0, none⟩ = some (.slice A_w0 r0.length c_w0) := (X_w0.out.cell 0).trans rfl
 have d_X_w0 : ∀ o, (w4.alloc o).cell? ⟨w3.heap.size, 0, none⟩ = some (.slice A_w0 r0.length c_w0) := fun o => (X_w0.out.cellA 0 o).trans rfl
 clear hb
 have OX_x0 : Aside0 (hi_x0 ≤ w4.heap.size) := ⟨Mem.R.size H_x0.out⟩
 go_wp2_with (fail)
 refine (impl_MatrixOfOrder.calls k y0 A_x0 c_x0 l0 r0 r1 _ (HV.out.below (by repeat (first | exact HB.out | apply below_alloc | apply pw_below_drewN | apply below_drew1))) ?s0 ?t0 E_IM.out).mono ?_
 case s0 => exact Mem.R.now (by repeat (first | exact H_x0.out | apply Mem.R.alloc | apply Mem.R.drewN | apply Mem.R.drew1))
 case t0 => exact Mem.R.cap (W := w4) H_x0.out
 rintro e w5 ⟨v_, rfl, hs_, hb⟩
 obtain ⟨lo_g0, hi_g0, oa_g0, ob_g0, hm_⟩ := Mem.S.made' (w4.heap.size + 1) hs_ (by repeat (first | exact HB.out | apply below_alloc | apply pw_below_drewN | apply below_drew1)) hb (Mem.X.lt (by repeat (first | exact Mem.X.new w4 _ _ | apply Mem.X.alloc | apply Mem.X.drewN | apply Mem.X.drew1)))
 clear hs_
 have OA_g0 := Aside0.mk oa_g0; have OB_g0 := Aside0.mk ob_g0; clear oa_g0 ob_g0
 obtain ⟨A_g0, c_g0, rfl, _, _⟩ := hm_.reads
 have H_g0 := Aside0.mk hm_; clear hm_
 have n0_ := Aside0.mk (below_step (by repeat (first | exact HB.out | apply below_alloc | apply pw_below_drewN | apply below_drew1)) hb)
 have n1_ := Aside0.mk (Mem.X.below (by repeat (first | exact X_a0.out | apply Mem.X.alloc | apply Mem.X.drewN | apply Mem.X.drew1)) hb)
 have n2_ := Aside0.mk (Mem.S.below (by repeat (first | exact H_w0.out | apply Mem.S.alloc | apply Mem.S.drewN | apply Mem.S.drew1)) hb)
 have n3_ := Aside0.mk (Mem.X.below (by repeat (first | exact X_w0.out | apply Mem.X.alloc | apply Mem.X.drewN | apply Mem.X.drew1)) hb)
 have n4_ := Aside0.mk (Mem.R.below (by repeat (first | exact H_x0.out | apply Mem.R.alloc | apply Mem.R.drewN | apply Mem.R.drew1)) hb)
 have n5_ := Aside0.mk (Mem.X.below (by repeat (first | exact Mem.X.new w4 _ _ | apply Mem.X.alloc | apply Mem.X.drewN | apply Mem.X.drew1)) hb)
 clear c_X_a0 d_X_a0 c_X_a0_1 d_X_a0_1 c_X_w0 d_X_w0
 clear HB X_a0 H_w0 X_w0 H_x0
 have HB := n0_
 have X_a0 := n1_
 have H_w0 := n2_
 have X_w0 := n3_
 have H_x0 := n4_
 have X_x0 := n5_
 clear n0_ n1_ n2_ n3_ n4_ n5_
 have c_X_a0 : w5.cell? ⟨w.heap.size, 0, none⟩ = some (.int .i64 y0) := (X_a0.out.cell 0).trans rfl
 have d_X_a0 : ∀ o, (w5.alloc o).cell? ⟨w.heap.size, 0, none⟩ = some (.int .i64 y0) := fun o => (X_a0.out.cellA 0 o).trans rfl
 have c_X_a0_1 : w5.cell? ⟨w.heap.size, 1, none⟩ = some (.slice A0 l0.length c0) := (X_a0.out.cell 1).trans rfl
 have d_X_a0_1 : ∀ o, (w5.alloc o).cell? ⟨w.heap.size, 1, none⟩ = some (.slice A0 l0.length c0) := fun o => (X_a0.out.cellA 1 o).trans rfl
 have c_X_w0 : w5.cell? ⟨w3.heap.size, 0, none⟩ = some (.slice A_w0 r0.length c_w0) := (X_w0.out.cell 0).trans rfl
 have d_X_w0 : ∀ o, (w5.alloc o).cell? ⟨w3.heap.size, 0, none⟩ = some (.slice A_w0 r0.length c_w0) := fun o => (X_w0.out.cellA 0 o).trans rfl
 have c_X_x0 : w5.cell? ⟨w4.heap.size, 0, none⟩ = some (.int .i64 y0) := (X_x0.out.cell 0).trans rfl
 have d_X_x0 : ∀ o, (w5.alloc o).cell? ⟨w4.heap.size, 0, none⟩ = some (.int .i64 y0) := fun o => (X_x0.out.cellA 0 o).trans rfl
 have c_X_x0_1 : w5.cell? ⟨w4.heap.size, 1, none⟩ = some (.slice A_x0 l0.length c_x0) := (X_x0.out.cell 1).trans rfl
 have d_X_x0_1 : ∀ o, (w5.alloc o).cell? ⟨w4.heap.size, 1, none⟩ = some (.slice A_x0 l0.length c_x0) := fun o => (X_x0.out.cellA 1 o).trans rfl
 clear hb
 have OX_g0 : Aside0 (hi_g0 ≤ w5.heap.size) := ⟨Mem.S.size H_g0.out⟩
 go_wp2_with (fail)
 refine (laws_eqMatrix.calls k A_g0 c_g0 r0 A_w0 c_w0 r0 true _ ?s1 ?s2 ?s3 ?s4 E_EQ0.out).mono ?_
 case s1 => exact Mem.S.now (by repeat (first | exact H_g0.out | apply Mem.S.alloc | apply Mem.S.drewN | apply Mem.S.drew1))
 case s2 => exact Mem.S.cap (W := w5) H_g0.out
 case s3 => exact Mem.S.now (by repeat (first | exact H_w0.out | apply Mem.S.alloc | apply Mem.S.drewN | apply Mem.S.drew1))
 case s4 => exact Mem.S.cap (W := w5) H_w0.out
 rintro e w6 ⟨rfl, hb⟩
 have n0_ := Aside0.mk (below_step (by repeat (first | exact HB.out | apply below_alloc | apply pw_below_drewN | apply below_drew1)) hb)
 have n1_ := Aside0.mk (Mem.X.below (by repeat (first | exact X_a0.out | apply Mem.X.alloc | apply Mem.X.drewN | apply Mem.X.drew1)) hb)
 have n2_ := Aside0.mk (Mem.S.below (by repeat (first | exact H_w0.out | apply Mem.S.alloc | apply Mem.S.drewN | apply Mem.S.drew1)) hb)
 have n3_ := Aside0.mk (Mem.X.below (by repeat (first | exact X_w0.out | apply Mem.X.alloc | apply Mem.X.drewN | apply Mem.X.drew1)) hb)
 have n4_ := Aside0.mk (Mem.R.below (by repeat (first | exact H_x0.out | apply Mem.R.alloc | apply Mem.R.drewN | apply Mem.R.drew1)) hb)
 have n5_ := Aside0.mk (Mem.X.below (by repeat (first | exact X_x0.out | apply Mem.X.alloc | apply Mem.X.drewN | apply Mem.X.drew1)) hb)
 have n6_ := Aside0.mk (Mem.S.below (by repeat (first | exact H_g0.out | apply Mem.S.alloc | apply Mem.S.drewN | apply Mem.S.drew1)) hb)
 have n7_ := Aside0.mk (Mem.X.below (by repeat (first | exact Mem.X.new w5 _ _ | apply Mem.X.alloc | apply Mem.X.drewN | apply Mem.X.drew1)) hb)
 clear c_X_a0 d_X_a0 c_X_a0_1 d_X_a0_1 c_X_w0 d_X_w0 c_X_x0 d_X_x0 c_X_x0_1 d_X_x0_1
 clear HB X_a0 H_w0 X_w0 H_x0 X_x0 H_g0
 have HB := n0_
 have X_a0 := n1_
 have H_w0 := n2_
 have X_w0 := n3_
 have H_x0 := n4_
 have X_x0 := n5_
 have H_g0 := n6_
 have X_g0 := n7_
 clear n0_ n1_ n2_ n3_ n4_ n5_ n6_ n7_
 have c_X_a0 : w6.cell? ⟨w.heap.size, 0, none⟩ = some (.int .i64 y0) := (X_a0.out.cell 0).trans rfl
 have d_X_a0 : ∀ o, (w6.alloc o).cell? ⟨w.heap.size, 0, none⟩ = some (.int .i64 y0) := fun o => (X_a0.out.cellA 0 o).trans rfl
 have c_X_a0_1 : w6.cell? ⟨w.heap.size, 1, none⟩ = some (.slice A0 l0.length c0) := (X_a0.out.cell 1).trans rfl
 have d_X_a0_1 : ∀ o, (w6.alloc o).cell? ⟨w.heap.size, 1, none⟩ = some (.slice A0 l0.length c0) := fun o => (X_a0.out.cellA 1 o).trans rfl
 have c_X_w0 : w6.cell? ⟨w3.heap.size, 0, none⟩ = some (.slice A_w0 r0.length c_w0) := (X_w0.out.cell 0).trans rfl
 have d_X_w0 : ∀ o, (w6.alloc o).cell? ⟨w3.heap.size, 0, none⟩ = some (.slice A_w0 r0.length c_w0) := fun o => (X_w0.out.cellA 0 o).trans rfl
 have c_X_x0 : w6.cell? ⟨w4.heap.size, 0, none⟩ = some (.int .i64 y0) := (X_x0.out.cell 0).trans rfl
 have d_X_x0 : ∀ o, (w6.alloc o).cell? ⟨w4.heap.size, 0, none⟩ = some (.int .i64 y0) := fun o => (X_x0.out.cellA 0 o).trans rfl
 have c_X_x0_1 : w6.cell? ⟨w4.heap.size, 1, none⟩ = some (.slice A_x0 l0.length c_x0) := (X_x0.out.cell 1).trans rfl
 have d_X_x0_1 : ∀ o, (w6.alloc o).cell? ⟨w4.heap.size, 1, none⟩ = some (.slice A_x0 l0.length c_x0) := fun o => (X_x0.out.cellA 1 o).trans rfl
 have c_X_g0 : w6.cell? ⟨w5.heap.size, 0, none⟩ = some (.slice A_g0 r0.length c_g0) := (X_g0.out.cell 0).trans rfl
 have d_X_g0 : ∀ o, (w6.alloc o).cell? ⟨w5.heap.size, 0, none⟩ = some (.slice A_g0 r0.length c_g0) := fun o => (X_g0.out.cellA 0 o).trans rfl
 clear hb
 go_wp2_with (fail)
 refine start_ (n := 5) (S := fun w' => w'.cell? ⟨w4.heap.size, 0, none⟩ = some (.int .i64 y0) ∧ w'.cell? ⟨w4.heap.size, 1, none⟩ = some (.slice A_x0 l0.length c_x0) ∧ w'.cell? ⟨w.heap.size, 0, none⟩ = some (.int .i64 y0) ∧ w'.cell? ⟨w.heap.size, 1, none⟩ = some (.slice A0 l0.length c0)) (ds := []) #[false, false, false, false, false] (by kernel_rfl) rfl rfl ⟨(Mem.X.cell (by repeat (first | exact X_x0.out | apply Mem.X.alloc | apply Mem.X.drewN | apply Mem.X.drew1)) 0).trans rfl, (Mem.X.cell (by repeat (first | exact X_x0.out | apply Mem.X.alloc | apply Mem.X.drewN | apply Mem.X.drew1)) 1).trans rfl, (Mem.X.cell (by repeat (first | exact X_a0.out | apply Mem.X.alloc | apply Mem.X.drewN | apply Mem.X.drew1)) 0).trans rfl, (Mem.X.cell (by repeat (first | exact X_a0.out | apply Mem.X.alloc | apply Mem.X.drewN | apply Mem.X.drew1)) 1).trans rfl⟩ (fun hHeld => ?_)
 have n0_ := Aside0.mk (below_drew1 (W := w6) (by repeat (first | exact HB.out | apply below_alloc | apply pw_below_drewN | apply below_drew1)))
 have n1_ := Aside0.mk (Mem.X.drew1 (W := w6) (by repeat (first | exact X_a0.out | apply Mem.X.alloc | apply Mem.X.drewN | apply Mem.X.drew1)))
 have n2_ := Aside0.mk (Mem.S.drew1 (W := w6) (by repeat (first | exact H_w0.out | apply Mem.S.alloc | apply Mem.S.drewN | apply Mem.S.drew1)))
 have n3_ := Aside0.mk (Mem.X.drew1 (W := w6) (by repeat (first | exact X_w0.out | apply Mem.X.alloc | apply Mem.X.drewN | apply Mem.X.drew1)))
 have n4_ := Aside0.mk (Mem.R.drew1 (W := w6) (by repeat (first | exact H_x0.out | apply Mem.R.alloc | apply Mem.R.drewN | apply Mem.R.drew1)))
 have n5_ := Aside0.mk (Mem.X.drew1 (W := w6) (by repeat (first | exact X_x0.out | apply Mem.X.alloc | apply Mem.X.drewN | apply Mem.X.drew1)))
 have n6_ := Aside0.mk (Mem.S.drew1 (W := w6) (by repeat (first | exact H_g0.out | apply Mem.S.alloc | apply Mem.S.drewN | apply Mem.S.drew1)))
 have n7_ := Aside0.mk (Mem.X.drew1 (W := w6) (by repeat (first | exact X_g0.out | apply Mem.X.alloc | apply Mem.X.drewN | apply Mem.X.drew1)))
 clear c_X_a0 d_X_a0 c_X_a0_1 d_X_a0_1 c_X_w0 d_X_w0 c_X_x0 d_X_x0 c_X_x0_1 d_X_x0_1 c_X_g0 d_X_g0
 clear HB X_a0 H_w0 X_w0 H_x0 X_x0 H_g0 X_g0
 have HB := n0_
 have X_a0 := n1_
 have H_w0 := n2_
 have X_w0 := n3_
 have H_x0 := n4_
 have X_x0 := n5_
 have H_g0 := n6_
 have X_g0 := n7_
 clear n0_ n1_ n2_ n3_ n4_ n5_ n6_ n7_
 generalize World.drew w6 = w7 at HB X_a0 H_w0 X_w0 H_x0 X_x0 H_g0 X_g0 hHeld ⊢
 refine take_ (i := 0) (N := some 41) (v := ?_) (a' := ?_) #[true, false, false, false, false] rfl rfl (by kernel_rfl) (fun _ _ _ h => h) (Or.inl ⟨by rfl, ?_⟩) hHeld ?_ ?_
 rotate_left
 · {
 rintro w' ⟨s0, s1, s2, s3⟩
 go_simp
 with_reducible rfl}
 rotate_left
 · {
 simp only [Act.put, List.setIfInBounds_toArray, List.set_cons_zero, List.set_cons_succ, i64_w, i32_w]
 rfl}
 refine take_ (i := 1) (N := some 42) (v := ?_) (a' := ?_) #[true, true, false, false, false] rfl rfl (by kernel_rfl) (fun _ _ _ h => h) (Or.inl ⟨by rfl, ?_⟩) hHeld ?_ ?_
 rotate_left
 · {
 rintro w' ⟨s0, s1, s2, s3⟩
 go_simp
 with_reducible rfl}
 rotate_left
 · {
 simp only [Act.put, List.setIfInBounds_toArray, List.set_cons_zero, List.set_cons_succ, i64_w, i32_w]
 rfl}
 refine one_ (i := 2) (N := some 43) #[true, true, true, false, false] rfl rfl (by kernel_rfl) (by decide) (fun K hK => ?_)
 refine goes_ Tryd.func9 (by kernel_rfl) rfl #[.agg #[.int .i64 y0, .slice A0 l0.length c0]] (by rfl) rfl rfl (by (try simp only [List.map_toArray, List.map_cons, List.map_nil]); first | done | rfl) ?_
 refine (laws_toOrder.calls k y0 A0 c0 l0 y0 l0 _ ?s1 HL0.out E_TO0.out).mono ?_
 case s1 => exact Kd.C_below HC0.out (by repeat (first | exact HB.out | apply below_alloc | apply pw_below_drewN | apply below_drew1))
 rintro e w8 ⟨v_, rfl, hs_, hb⟩
 refine ⟨_, rfl, ?_⟩
 obtain ⟨lo_y0, hi_y0, oa_y0, ob_y0, hm_⟩ := Mem.R.made' (w5.heap.size + 1) hs_ (by repeat (first | exact HB.out | apply below_alloc | apply pw_below_drewN | apply below_drew1)) hb (Mem.X.lt (by repeat (first | exact X_g0.out | apply Mem.X.alloc | apply Mem.X.drewN | apply Mem.X.drew1)))
 clear hs_
 have OA_y0 := Aside0.mk oa_y0; have OB_y0 := Aside0.mk ob_y0; clear oa_y0 ob_y0
 obtain ⟨A_y0, c_y0, rfl, _, _⟩ := hm_.reads
 have H_y0 := Aside0.mk hm_; clear hm_
 have n0_ := Aside0.mk (below_step (by repeat (first | exact HB.out | apply below_alloc | apply pw_below_drewN | apply below_drew1)) hb)
 have n1_ := Aside0.mk (Mem.X.below (by repeat (first | exact X_a0.out | apply Mem.X.alloc | apply Mem.X.drewN | apply Mem.X.drew1)) hb)
 have n2_ := Aside0.mk (Mem.S.below (by repeat (first | exact H_w0.out | apply Mem.S.alloc | apply Mem.S.drewN | apply Mem.S.drew1)) hb)
 have n3_ := Aside0.mk (Mem.X.below (by repeat (first | exact X_w0.out | apply Mem.X.alloc | apply Mem.X.drewN | apply Mem.X.drew1)) hb)
 have n4_ := Aside0.mk (Mem.R.below (by repeat (first | exact H_x0.out | apply Mem.R.alloc | apply Mem.R.drewN | apply Mem.R.drew1)) hb)
 have n5_ := Aside0.mk (Mem.X.below (by repeat (first | exact X_x0.out | apply Mem.X.alloc | apply Mem.X.drewN | apply Mem.X.drew1)) hb)
 have n6_ := Aside0.mk (Mem.S.below (by repeat (first | exact H_g0.out | apply Mem.S.alloc | apply Mem.S.drewN | apply Mem.S.drew1)) hb)
 have n7_ := Aside0.mk (Mem.X.below (by repeat (first | exact X_g0.out | apply Mem.X.alloc | apply Mem.X.drewN | apply Mem.X.drew1)) hb)
 clear HB X_a0 H_w0 X_w0 H_x0 X_x0 H_g0 X_g0
 have HB := n0_
 have X_a0 := n1_
 have H_w0 := n2_
 have X_w0 := n3_
 have H_x0 := n4_
 have X_x0 := n5_
 have H_g0 := n6_
 have X_g0 := n7_
 clear n0_ n1_ n2_ n3_ n4_ n5_ n6_ n7_
 clear hb
 refine hK.out _ _ ⟨(Mem.X.cell (by repeat (first | exact X_x0.out | apply Mem.X.alloc | apply Mem.X.drewN | apply Mem.X.drew1)) 0).trans rfl, (Mem.X.cell (by repeat (first | exact X_x0.out | apply Mem.X.alloc | apply Mem.X.drewN | apply Mem.X.drew1)) 1).trans rfl, (Mem.X.cell (by repeat (first | exact X_a0.out | apply Mem.X.alloc | apply Mem.X.drewN | apply Mem.X.drew1)) 0).trans rfl, (Mem.X.cell (by repeat (first | exact X_a0.out | apply Mem.X.alloc | apply Mem.X.drewN | apply Mem.X.drew1)) 1).trans rfl⟩ (fun hHeld => ?_)
 clear hK K
 refine norm_ (a' := ?_) ?_ ?_
 rotate_left
 · {
 show Act.put _ (some 43) _ = _
 simp only [Act.put, List.setIfInBounds_toArray, List.set_cons_zero, List.set_cons_succ, i64_w, i32_w]
 rfl}
 refine one_ (i := 3) (N := some 44) #[true, true, true, true, false] rfl rfl (by kernel_rfl) (by decide) (fun K hK => ?_)
 refine goes_ Tryd.func12 (by kernel_rfl) rfl #[.agg #[.int .i64 y0, .slice A_x0 l0.length c_x0], .agg #[.int .i64 y0, .slice A_y0 l0.length c_y0]] (by rfl) rfl rfl (by (try simp only [List.map_toArray, List.map_cons, List.map_nil]); first | done | rfl) ?_
 refine (laws_eqOrder.calls k y0 A_x0 c_x0 l0 y0 A_y0 c_y0 l0 true _ ?s1 ?s2 ?s3 ?s4 E_EX0.out).mono ?_
 case s1 => exact Mem.R.now (by repeat (first | exact H_x0.out | apply Mem.R.alloc | apply Mem.R.drewN | apply Mem.R.drew1))
 case s2 => exact Mem.R.cap (W := w8) H_x0.out
 case s3 => exact Mem.R.now (by repeat (first | exact H_y0.out | apply Mem.R.alloc | apply Mem.R.drewN | apply Mem.R.drew1))
 case s4 => exact Mem.R.cap (W := w8) H_y0.out
 rintro e w9 ⟨rfl, hb⟩
 refine ⟨_, rfl, ?_⟩
 clear H_y0
 have n0_ := Aside0.mk (below_step (by repeat (first | exact HB.out | apply below_alloc | apply pw_below_drewN | apply below_drew1)) hb)
 have n1_ := Aside0.mk (Mem.X.below (by repeat (first | exact X_a0.out | apply Mem.X.alloc | apply Mem.X.drewN | apply Mem.X.drew1)) hb)
 have n2_ := Aside0.mk (Mem.S.below (by repeat (first | exact H_w0.out | apply Mem.S.alloc | apply Mem.S.drewN | apply Mem.S.drew1)) hb)
 have n3_ := Aside0.mk (Mem.X.below (by repeat (first | exact X_w0.out | apply Mem.X.alloc | apply Mem.X.drewN | apply Mem.X.drew1)) hb)
 have n4_ := Aside0.mk (Mem.R.below (by repeat (first | exact H_x0.out | apply Mem.R.alloc | apply Mem.R.drewN | apply Mem.R.drew1)) hb)
 have n5_ := Aside0.mk (Mem.X.below (by repeat (first | exact X_x0.out | apply Mem.X.alloc | apply Mem.X.drewN | apply Mem.X.drew1)) hb)
 have n6_ := Aside0.mk (Mem.S.below (by repeat (first | exact H_g0.out | apply Mem.S.alloc | apply Mem.S.drewN | apply Mem.S.drew1)) hb)
 have n7_ := Aside0.mk (Mem.X.below (by repeat (first | exact X_g0.out | apply Mem.X.alloc | apply Mem.X.drewN | apply Mem.X.drew1)) hb)
 clear HB X_a0 H_w0 X_w0 H_x0 X_x0 H_g0 X_g0
 have HB := n0_
 have X_a0 := n1_
 have H_w0 := n2_
 have X_w0 := n3_
 have H_x0 := n4_
 have X_x0 := n5_
 have H_g0 := n6_
 have X_g0 := n7_
 clear n0_ n1_ n2_ n3_ n4_ n5_ n6_ n7_
 clear hb
 refine hK.out _ _ ⟨(Mem.X.cell (by repeat (first | exact X_x0.out | apply Mem.X.alloc | apply Mem.X.drewN | apply Mem.X.drew1)) 0).trans rfl, (Mem.X.cell (by repeat (first | exact X_x0.out | apply Mem.X.alloc | apply Mem.X.drewN | apply Mem.X.drew1)) 1).trans rfl, (Mem.X.cell (by repeat (first | exact X_a0.out | apply Mem.X.alloc | apply Mem.X.drewN | apply Mem.X.drew1)) 0).trans rfl, (Mem.X.cell (by repeat (first | exact X_a0.out | apply Mem.X.alloc | apply Mem.X.drewN | apply Mem.X.drew1)) 1).trans rfl⟩ (fun hHeld => ?_)
 clear hK K
 refine norm_ (a' := ?_) ?_ ?_
 rotate_left
 · {
 show Act.put _ (some 44) _ = _
 simp only [Act.put, List.setIfInBounds_toArray, List.set_cons_zero, List.set_cons_succ, i64_w, i32_w]
 rfl}
 refine pure_ (i := 4) (N := some 45) (v := ?_) (a' := ?_) #[true, true, true, true, true] rfl rfl (by kernel_rfl) (fun _ _ _ h => h) (Or.inl ⟨by rfl, ?_⟩) ?_ ?_
 rotate_left
 · {
 intro w'
 go_simp
 with_reducible rfl}
 rotate_left
 · {
 simp only [Act.put, List.setIfInBounds_toArray, List.set_cons_zero, List.set_cons_succ, i64_w, i32_w]
 rfl}
 refine done_ (by kernel_rfl) ?_
 clear hHeld
 have c_X_a0 : w9.cell? ⟨w.heap.size, 0, none⟩ = some (.int .i64 y0) := (X_a0.out.cell 0).trans rfl
 have d_X_a0 : ∀ o, (w9.alloc o).cell? ⟨w.heap.size, 0, none⟩ = some (.int .i64 y0) := fun o => (X_a0.out.cellA 0 o).trans rfl
 have c_X_a0_1 : w9.cell? ⟨w.heap.size, 1, none⟩ = some (.slice A0 l0.length c0) := (X_a0.out.cell 1).trans rfl
 have d_X_a0_1 : ∀ o, (w9.alloc o).cell? ⟨w.heap.size, 1, none⟩ = some (.slice A0 l0.length c0) := fun o => (X_a0.out.cellA 1 o).trans rfl
 have c_X_w0 : w9.cell? ⟨w3.heap.size, 0, none⟩ = some (.slice A_w0 r0.length c_w0) := (X_w0.out.cell 0).trans rfl
 have d_X_w0 : ∀ o, (w9.alloc o).cell? ⟨w3.heap.size, 0, none⟩ = some (.slice A_w0 r0.length c_w0) := fun o => (X_w0.out.cellA 0 o).trans rfl
 have c_X_x0 : w9.cell? ⟨w4.heap.size, 0, none⟩ = some (.int .i64 y0) := (X_x0.out.cell 0).trans rfl
 have d_X_x0 : ∀ o, (w9.alloc o).cell? ⟨w4.heap.size, 0, none⟩ = some (.int .i64 y0) := fun o => (X_x0.out.cellA 0 o).trans rfl
 have c_X_x0_1 : w9.cell? ⟨w4.heap.size, 1, none⟩ = some (.slice A_x0 l0.length c_x0) := (X_x0.out.cell 1).trans rfl
 have d_X_x0_1 : ∀ o, (w9.alloc o).cell? ⟨w4.heap.size, 1, none⟩ = some (.slice A_x0 l0.length c_x0) := fun o => (X_x0.out.cellA 1 o).trans rfl
 have c_X_g0 : w9.cell? ⟨w5.heap.size, 0, none⟩ = some (.slice A_g0 r0.length c_g0) := (X_g0.out.cell 0).trans rfl
 have d_X_g0 : ∀ o, (w9.alloc o).cell? ⟨w5.heap.size, 0, none⟩ = some (.slice A_g0 r0.length c_g0) := fun o => (X_g0.out.cellA 0 o).trans rfl
 go_wp2_with (fail)
 refine (laws_markOrder.calls k y0 (fun k_ => lo_x0 ≤ k_ ∧ k_ < hi_x0) _ l0 1 x0 lx0 w _ (by repeat (first | exact HB.out | apply below_alloc | apply pw_below_drewN | apply below_drew1)) ?s1 E_MX0.out).mono ?_
 case s1 => exact Mem.R.row (by repeat (first | exact H_x0.out | apply Mem.R.alloc | apply Mem.R.drewN | apply Mem.R.drew1))
 rintro e w10 ⟨rfl, hS2, hB2, hK2⟩
 clear hS2
 clear H_x0
 have n0_ := Aside0.mk (hB2)
 have n1_ := Aside0.mk (Mem.X.kept (by repeat (first | exact X_a0.out | apply Mem.X.alloc | apply Mem.X.drewN | apply Mem.X.drew1)) hK2 (by have := OA_a0.out; have := OB_a0.out; have := OA_w0.out; have := OB_w0.out; have := OX_w0.out; have := OA_x0.out; have := OB_x0.out; have := OX_x0.out; have := OA_g0.out; have := OB_g0.out; have := OX_g0.out; have := OA_y0.out; have := OB_y0.out; omega))
 have n2_ := Aside0.mk (Mem.S.kept (by repeat (first | exact H_w0.out | apply Mem.S.alloc | apply Mem.S.drewN | apply Mem.S.drew1)) hK2 (by have := OA_a0.out; have := OB_a0.out; have := OA_w0.out; have := OB_w0.out; have := OX_w0.out; have := OA_x0.out; have := OB_x0.out; have := OX_x0.out; have := OA_g0.out; have := OB_g0.out; have := OX_g0.out; have := OA_y0.out; have := OB_y0.out; omega))
 have n3_ := Aside0.mk (Mem.X.kept (by repeat (first | exact X_w0.out | apply Mem.X.alloc | apply Mem.X.drewN | apply Mem.X.drew1)) hK2 (by have := OA_a0.out; have := OB_a0.out; have := OA_w0.out; have := OB_w0.out; have := OX_w0.out; have := OA_x0.out; have := OB_x0.out; have := OX_x0.out; have := OA_g0.out; have := OB_g0.out; have := OX_g0.out; have := OA_y0.out; have := OB_y0.out; omega))
 have n4_ := Aside0.mk (Mem.X.kept (by repeat (first | exact X_x0.out | apply Mem.X.alloc | apply Mem.X.drewN | apply Mem.X.drew1)) hK2 (by have := OA_a0.out; have := OB_a0.out; have := OA_w0.out; have := OB_w0.out; have := OX_w0.out; have := OA_x0.out; have := OB_x0.out; have := OX_x0.out; have := OA_g0.out; have := OB_g0.out; have := OX_g0.out; have := OA_y0.out; have := OB_y0.out; omega))
 have n5_ := Aside0.mk (Mem.S.kept (by repeat (first | exact H_g0.out | apply Mem.S.alloc | apply Mem.S.drewN | apply Mem.S.drew1)) hK2 (by have := OA_a0.out; have := OB_a0.out; have := OA_w0.out; have := OB_w0.out; have := OX_w0.out; have := OA_x0.out; have := OB_x0.out; have := OX_x0.out; have := OA_g0.out; have := OB_g0.out; have := OX_g0.out; have := OA_y0.out; have := OB_y0.out; omega))
 have n6_ := Aside0.mk (Mem.X.kept (by repeat (first | exact X_g0.out | apply Mem.X.alloc | apply Mem.X.drewN | apply Mem.X.drew1)) hK2 (by have := OA_a0.out; have := OB_a0.out; have := OA_w0.out; have := OB_w0.out; have := OX_w0.out; have := OA_x0.out; have := OB_x0.out; have := OX_x0.out; have := OA_g0.out; have := OB_g0.out; have := OX_g0.out; have := OA_y0.out; have := OB_y0.out; omega))
 clear c_X_a0 d_X_a0 c_X_a0_1 d_X_a0_1 c_X_w0 d_X_w0 c_X_x0 d_X_x0 c_X_x0_1 d_X_x0_1 c_X_g0 d_X_g0
 clear HB X_a0 H_w0 X_w0 X_x0 H_g0 X_g0
 have HB := n0_
 have X_a0 := n1_
 have H_w0 := n2_
 have X_w0 := n3_
 have X_x0 := n4_
 have H_g0 := n5_
 have X_g0 := n6_
 clear n0_ n1_ n2_ n3_ n4_ n5_ n6_
 have c_X_a0 : w10.cell? ⟨w.heap.size, 0, none⟩ = some (.int .i64 y0) := (X_a0.out.cell 0).trans rfl
 have d_X_a0 : ∀ o, (w10.alloc o).cell? ⟨w.heap.size, 0, none⟩ = some (.int .i64 y0) := fun o => (X_a0.out.cellA 0 o).trans rfl
 have c_X_a0_1 : w10.cell? ⟨w.heap.size, 1, none⟩ = some (.slice A0 l0.length c0) := (X_a0.out.cell 1).trans rfl
 have d_X_a0_1 : ∀ o, (w10.alloc o).cell? ⟨w.heap.size, 1, none⟩ = some (.slice A0 l0.length c0) := fun o => (X_a0.out.cellA 1 o).trans rfl
 have c_X_w0 : w10.cell? ⟨w3.heap.size, 0, none⟩ = some (.slice A_w0 r0.length c_w0) := (X_w0.out.cell 0).trans rfl
 have d_X_w0 : ∀ o, (w10.alloc o).cell? ⟨w3.heap.size, 0, none⟩ = some (.slice A_w0 r0.length c_w0) := fun o => (X_w0.out.cellA 0 o).trans rfl
 have c_X_x0 : w10.cell? ⟨w4.heap.size, 0, none⟩ = some (.int .i64 y0) := (X_x0.out.cell 0).trans rfl
 have d_X_x0 : ∀ o, (w10.alloc o).cell? ⟨w4.heap.size, 0, none⟩ = some (.int .i64 y0) := fun o => (X_x0.out.cellA 0 o).trans rfl
 have c_X_x0_1 : w10.cell? ⟨w4.heap.size, 1, none⟩ = some (.slice A_x0 l0.length c_x0) := (X_x0.out.cell 1).trans rfl
 have d_X_x0_1 : ∀ o, (w10.alloc o).cell? ⟨w4.heap.size, 1, none⟩ = some (.slice A_x0 l0.length c_x0) := fun o => (X_x0.out.cellA 1 o).trans rfl
 have c_X_g0 : w10.cell? ⟨w5.heap.size, 0, none⟩ = some (.slice A_g0 r0.length c_g0) := (X_g0.out.cell 0).trans rfl
 have d_X_g0 : ∀ o, (w10.alloc o).cell? ⟨w5.heap.size, 0, none⟩ = some (.slice A_g0 r0.length c_g0) := fun o => (X_g0.out.cellA 0 o).trans rfl
 clear hB2 hK2
 go_wp2_with (fail)
 refine (laws_eqMatrix.calls k A_g0 c_g0 r0 A_w0 c_w0 r0 true _ ?s1 ?s2 ?s3 ?s4 E_EQ0.out).mono ?_
 case s1 => exact Mem.S.now (by repeat (first | exact H_g0.out | apply Mem.S.alloc | apply Mem.S.drewN | apply Mem.S.drew1))
 case s2 => exact Mem.S.cap (W := w10) H_g0.out
 case s3 => exact Mem.S.now (by repeat (first | exact H_w0.out | apply Mem.S.alloc | apply Mem.S.drewN | apply Mem.S.drew1))
 case s4 => exact Mem.S.cap (W := w10) H_w0.out
 rintro e w11 ⟨rfl, hb⟩
 have n0_ := Aside0.mk (below_step (by repeat (first | exact HB.out | apply below_alloc | apply pw_below_drewN | apply below_drew1)) hb)
 have n1_ := Aside0.mk (Mem.X.below (by repeat (first | exact X_a0.out | apply Mem.X.alloc | apply Mem.X.drewN | apply Mem.X.drew1)) hb)
 have n2_ := Aside0.mk (Mem.S.below (by repeat (first | exact H_w0.out | apply Mem.S.alloc | apply Mem.S.drewN | apply Mem.S.drew1)) hb)
 have n3_ := Aside0.mk (Mem.X.below (by repeat (first | exact X_w0.out | apply Mem.X.alloc | apply Mem.X.drewN | apply Mem.X.drew1)) hb)
 have n4_ := Aside0.mk (Mem.X.below (by repeat (first | exact X_x0.out | apply Mem.X.alloc | apply Mem.X.drewN | apply Mem.X.drew1)) hb)
 have n5_ := Aside0.mk (Mem.S.below (by repeat (first | exact H_g0.out | apply Mem.S.alloc | apply Mem.S.drewN | apply Mem.S.drew1)) hb)
 have n6_ := Aside0.mk (Mem.X.below (by repeat (first | exact X_g0.out | apply Mem.X.alloc | apply Mem.X.drewN | apply Mem.X.drew1)) hb)
 clear c_X_a0 d_X_a0 c_X_a0_1 d_X_a0_1 c_X_w0 d_X_w0 c_X_x0 d_X_x0 c_X_x0_1 d_X_x0_1 c_X_g0 d_X_g0
 clear HB X_a0 H_w0 X_w0 X_x0 H_g0 X_g0
 have HB := n0_
 have X_a0 := n1_
 have H_w0 := n2_
 have X_w0 := n3_
 have X_x0 := n4_
 have H_g0 := n5_
 have X_g0 := n6_
 clear n0_ n1_ n2_ n3_ n4_ n5_ n6_
 have c_X_a0 : w11.cell? ⟨w.heap.size, 0, none⟩ = some (.int .i64 y0) := (X_a0.out.cell 0).trans rfl
 have d_X_a0 : ∀ o, (w11.alloc o).cell? ⟨w.heap.size, 0, none⟩ = some (.int .i64 y0) := fun o => (X_a0.out.cellA 0 o).trans rfl
 have c_X_a0_1 : w11.cell? ⟨w.heap.size, 1, none⟩ = some (.slice A0 l0.length c0) := (X_a0.out.cell 1).trans rfl
 have d_X_a0_1 : ∀ o, (w11.alloc o).cell? ⟨w.heap.size, 1, none⟩ = some (.slice A0 l0.length c0) := fun o => (X_a0.out.cellA 1 o).trans rfl
 have c_X_w0 : w11.cell? ⟨w3.heap.size, 0, none⟩ = some (.slice A_w0 r0.length c_w0) := (X_w0.out.cell 0).trans rfl
 have d_X_w0 : ∀ o, (w11.alloc o).cell? ⟨w3.heap.size, 0, none⟩ = some (.slice A_w0 r0.length c_w0) := fun o => (X_w0.out.cellA 0 o).trans rfl
 have c_X_x0 : w11.cell? ⟨w4.heap.size, 0, none⟩ = some (.int .i64 y0) := (X_x0.out.cell 0).trans rfl
 have d_X_x0 : ∀ o, (w11.alloc o).cell? ⟨w4.heap.size, 0, none⟩ = some (.int .i64 y0) := fun o => (X_x0.out.cellA 0 o).trans rfl
 have c_X_x0_1 : w11.cell? ⟨w4.heap.size, 1, none⟩ = some (.slice A_x0 l0.length c_x0) := (X_x0.out.cell 1).trans rfl
 have d_X_x0_1 : ∀ o, (w11.alloc o).cell? ⟨w4.heap.size, 1, none⟩ = some (.slice A_x0 l0.length c_x0) := fun o => (X_x0.out.cellA 1 o).trans rfl
 have c_X_g0 : w11.cell? ⟨w5.heap.size, 0, none⟩ = some (.slice A_g0 r0.length c_g0) := (X_g0.out.cell 0).trans rfl
 have d_X_g0 : ∀ o, (w11.alloc o).cell? ⟨w5.heap.size, 0, none⟩ = some (.slice A_g0 r0.length c_g0) := fun o => (X_g0.out.cellA 0 o).trans rfl
 clear hb
 go_wp2_with (fail)
 refine (laws_markMatrix.writes k (fun k_ => lo_g0 ≤ k_ ∧ k_ < hi_g0) _ r0 1 m0 rg0 w _ (by repeat (first | exact HB.out | apply below_alloc | apply pw_below_drewN | apply below_drew1)) ?s1 E_MR0.out).mono ?_
 case s1 => exact Mem.S.rows (by repeat (first | exact H_g0.out | apply Mem.S.alloc | apply Mem.S.drewN | apply Mem.S.drew1))
 rintro e w12 ⟨rfl, hS2, hB2, hK2⟩
 have n0_ := Aside0.mk (hB2)
 have n1_ := Aside0.mk (Mem.X.kept (by repeat (first | exact X_a0.out | apply Mem.X.alloc | apply Mem.X.drewN | apply Mem.X.drew1)) hK2 (by have := OA_a0.out; have := OB_a0.out; have := OA_w0.out; have := OB_w0.out; have := OX_w0.out; have := OA_x0.out; have := OB_x0.out; have := OX_x0.out; have := OA_g0.out; have := OB_g0.out; have := OX_g0.out; have := OA_y0.out; have := OB_y0.out; omega))
 have n2_ := Aside0.mk (Mem.S.kept (by repeat (first | exact H_w0.out | apply Mem.S.alloc | apply Mem.S.drewN | apply Mem.S.drew1)) hK2 (by have := OA_a0.out; have := OB_a0.out; have := OA_w0.out; have := OB_w0.out; have := OX_w0.out; have := OA_x0.out; have := OB_x0.out; have := OX_x0.out; have := OA_g0.out; have := OB_g0.out; have := OX_g0.out; have := OA_y0.out; have := OB_y0.out; omega))
 have n3_ := Aside0.mk (Mem.X.kept (by repeat (first | exact X_w0.out | apply Mem.X.alloc | apply Mem.X.drewN | apply Mem.X.drew1)) hK2 (by have := OA_a0.out; have := OB_a0.out; have := OA_w0.out; have := OB_w0.out; have := OX_w0.out; have := OA_x0.out; have := OB_x0.out; have := OX_x0.out; have := OA_g0.out; have := OB_g0.out; have := OX_g0.out; have := OA_y0.out; have := OB_y0.out; omega))
 have n4_ := Aside0.mk (Mem.X.kept (by repeat (first | exact X_x0.out | apply Mem.X.alloc | apply Mem.X.drewN | apply Mem.X.drew1)) hK2 (by have := OA_a0.out; have := OB_a0.out; have := OA_w0.out; have := OB_w0.out; have := OX_w0.out; have := OA_x0.out; have := OB_x0.out; have := OX_x0.out; have := OA_g0.out; have := OB_g0.out; have := OX_g0.out; have := OA_y0.out; have := OB_y0.out; omega))
 have n5_ := Aside0.mk (Mem.S.write (by repeat (first | exact H_g0.out | apply Mem.S.alloc | apply Mem.S.drewN | apply Mem.S.drew1)) hK2 hS2)
 have n6_ := Aside0.mk (Mem.X.kept (by repeat (first | exact X_g0.out | apply Mem.X.alloc | apply Mem.X.drewN | apply Mem.X.drew1)) hK2 (by have := OA_a0.out; have := OB_a0.out; have := OA_w0.out; have := OB_w0.out; have := OX_w0.out; have := OA_x0.out; have := OB_x0.out; have := OX_x0.out; have := OA_g0.out; have := OB_g0.out; have := OX_g0.out; have := OA_y0.out; have := OB_y0.out; omega))
 clear c_X_a0 d_X_a0 c_X_a0_1 d_X_a0_1 c_X_w0 d_X_w0 c_X_x0 d_X_x0 c_X_x0_1 d_X_x0_1 c_X_g0 d_X_g0
 clear HB X_a0 H_w0 X_w0 X_x0 H_g0 X_g0
 have HB := n0_
 have X_a0 := n1_
 have H_w0 := n2_
 have X_w0 := n3_
 have X_x0 := n4_
 have H_g0 := n5_
 have X_g0 := n6_
 clear n0_ n1_ n2_ n3_ n4_ n5_ n6_
 have c_X_a0 : w12.cell? ⟨w.heap.size, 0, none⟩ = some (.int .i64 y0) := (X_a0.out.cell 0).trans rfl
 have d_X_a0 : ∀ o, (w12.alloc o).cell? ⟨w.heap.size, 0, none⟩ = some (.int .i64 y0) := fun o => (X_a0.out.cellA 0 o).trans rfl
 have c_X_a0_1 : w12.cell? ⟨w.heap.size, 1, none⟩ = some (.slice A0 l0.length c0) := (X_a0.out.cell 1).trans rfl
 have d_X_a0_1 : ∀ o, (w12.alloc o).cell? ⟨w.heap.size, 1, none⟩ = some (.slice A0 l0.length c0) := fun o => (X_a0.out.cellA 1 o).trans rfl
 have c_X_w0 : w12.cell? ⟨w3.heap.size, 0, none⟩ = some (.slice A_w0 r0.length c_w0) := (X_w0.out.cell 0).trans rfl
 have d_X_w0 : ∀ o, (w12.alloc o).cell? ⟨w3.heap.size, 0, none⟩ = some (.slice A_w0 r0.length c_w0) := fun o => (X_w0.out.cellA 0 o).trans rfl
 have c_X_x0 : w12.cell? ⟨w4.heap.size, 0, none⟩ = some (.int .i64 y0) := (X_x0.out.cell 0).trans rfl
 have d_X_x0 : ∀ o, (w12.alloc o).cell? ⟨w4.heap.size, 0, none⟩ = some (.int .i64 y0) := fun o => (X_x0.out.cellA 0 o).trans rfl
 have c_X_x0_1 : w12.cell? ⟨w4.heap.size, 1, none⟩ = some (.slice A_x0 l0.length c_x0) := (X_x0.out.cell 1).trans rfl
 have d_X_x0_1 : ∀ o, (w12.alloc o).cell? ⟨w4.heap.size, 1, none⟩ = some (.slice A_x0 l0.length c_x0) := fun o => (X_x0.out.cellA 1 o).trans rfl
 have c_X_g0 : w12.cell? ⟨w5.heap.size, 0, none⟩ = some (.slice A_g0 r0.length c_g0) := (X_g0.out.cell 0).trans rfl
 have d_X_g0 : ∀ o, (w12.alloc o).cell? ⟨w5.heap.size, 0, none⟩ = some (.slice A_g0 r0.length c_g0) := fun o => (X_g0.out.cellA 0 o).trans rfl
 clear hB2 hK2
 clear hS2
 have LEN0 := Aside0.mk (Mem.S.len H_g0.out)
 go_wp2_with (fail)
 refine calls_of_args (args' := #[.agg #[.slice A_g0 rg0.length c_g0], .int .i64 1]) (by rw [LEN0.out]) ?_
 refine (laws_heldMatrix.calls k A_g0 c_g0 rg0 1 m0 _ ?s1 ?s2 E_HR0.out).mono ?_
 case s1 => exact Mem.S.now (by repeat (first | exact H_g0.out | apply Mem.S.alloc | apply Mem.S.drewN | apply Mem.S.drew1))
 case s2 => exact Mem.S.cap (W := w12) H_g0.out
 rintro e w13 ⟨rfl, hb⟩
 have n0_ := Aside0.mk (below_step (by repeat (first | exact HB.out | apply below_alloc | apply pw_below_drewN | apply below_drew1)) hb)
 have n1_ := Aside0.mk (Mem.X.below (by repeat (first | exact X_a0.out | apply Mem.X.alloc | apply Mem.X.drewN | apply Mem.X.drew1)) hb)
 have n2_ := Aside0.mk (Mem.S.below (by repeat (first | exact H_w0.out | apply Mem.S.alloc | apply Mem.S.drewN | apply Mem.S.drew1)) hb)
 have n3_ := Aside0.mk (Mem.X.below (by repeat (first | exact X_w0.out | apply Mem.X.alloc | apply Mem.X.drewN | apply Mem.X.drew1)) hb)
 have n4_ := Aside0.mk (Mem.X.below (by repeat (first | exact X_x0.out | apply Mem.X.alloc | apply Mem.X.drewN | apply Mem.X.drew1)) hb)
 have n5_ := Aside0.mk (Mem.S.below (by repeat (first | exact H_g0.out | apply Mem.S.alloc | apply Mem.S.drewN | apply Mem.S.drew1)) hb)
 have n6_ := Aside0.mk (Mem.X.below (by repeat (first | exact X_g0.out | apply Mem.X.alloc | apply Mem.X.drewN | apply Mem.X.drew1)) hb)
 clear c_X_a0 d_X_a0 c_X_a0_1 d_X_a0_1 c_X_w0 d_X_w0 c_X_x0 d_X_x0 c_X_x0_1 d_X_x0_1 c_X_g0 d_X_g0
 clear HB X_a0 H_w0 X_w0 X_x0 H_g0 X_g0
 have HB := n0_
 have X_a0 := n1_
 have H_w0 := n2_
 have X_w0 := n3_
 have X_x0 := n4_
 have H_g0 := n5_
 have X_g0 := n6_
 clear n0_ n1_ n2_ n3_ n4_ n5_ n6_
 have c_X_a0 : w13.cell? ⟨w.heap.size, 0, none⟩ = some (.int .i64 y0) := (X_a0.out.cell 0).trans rfl
 have d_X_a0 : ∀ o, (w13.alloc o).cell? ⟨w.heap.size, 0, none⟩ = some (.int .i64 y0) := fun o => (X_a0.out.cellA 0 o).trans rfl
 have c_X_a0_1 : w13.cell? ⟨w.heap.size, 1, none⟩ = some (.slice A0 l0.length c0) := (X_a0.out.cell 1).trans rfl
 have d_X_a0_1 : ∀ o, (w13.alloc o).cell? ⟨w.heap.size, 1, none⟩ = some (.slice A0 l0.length c0) := fun o => (X_a0.out.cellA 1 o).trans rfl
 have c_X_w0 : w13.cell? ⟨w3.heap.size, 0, none⟩ = some (.slice A_w0 r0.length c_w0) := (X_w0.out.cell 0).trans rfl
 have d_X_w0 : ∀ o, (w13.alloc o).cell? ⟨w3.heap.size, 0, none⟩ = some (.slice A_w0 r0.length c_w0) := fun o => (X_w0.out.cellA 0 o).trans rfl
 have c_X_x0 : w13.cell? ⟨w4.heap.size, 0, none⟩ = some (.int .i64 y0) := (X_x0.out.cell 0).trans rfl
 have d_X_x0 : ∀ o, (w13.alloc o).cell? ⟨w4.heap.size, 0, none⟩ = some (.int .i64 y0) := fun o => (X_x0.out.cellA 0 o).trans rfl
 have c_X_x0_1 : w13.cell? ⟨w4.heap.size, 1, none⟩ = some (.slice A_x0 l0.length c_x0) := (X_x0.out.cell 1).trans rfl
 have d_X_x0_1 : ∀ o, (w13.alloc o).cell? ⟨w4.heap.size, 1, none⟩ = some (.slice A_x0 l0.length c_x0) := fun o => (X_x0.out.cellA 1 o).trans rfl
 have c_X_g0 : w13.cell? ⟨w5.heap.size, 0, none⟩ = some (.slice A_g0 r0.length c_g0) := (X_g0.out.cell 0).trans rfl
 have d_X_g0 : ∀ o, (w13.alloc o).cell? ⟨w5.heap.size, 0, none⟩ = some (.slice A_g0 r0.length c_g0) := fun o => (X_g0.out.cellA 0 o).trans rfl
 clear hb
 go_wp2_with (fail)
 refine (laws_toOrder.calls k y0 A0 c0 l0 y0 l0 _ ?s1 HL0.out E_TO0.out).mono ?_
 case s1 => exact Kd.C_below HC0.out (by repeat (first | exact HB.out | apply below_alloc | apply pw_below_drewN | apply below_drew1))
 rintro e w14 ⟨v_, rfl, hs_, hb⟩
 obtain ⟨lo_c0, hi_c0, oa_c0, ob_c0, hm_⟩ := Mem.R.made' (w5.heap.size + 1) hs_ (by repeat (first | exact HB.out | apply below_alloc | apply pw_below_drewN | apply below_drew1)) hb (Mem.X.lt (by repeat (first | exact X_g0.out | apply Mem.X.alloc | apply Mem.X.drewN | apply Mem.X.drew1)))
 clear hs_
 have OA_c0 := Aside0.mk oa_c0; have OB_c0 := Aside0.mk ob_c0; clear oa_c0 ob_c0
 obtain ⟨A_c0, c_c0, rfl, _, _⟩ := hm_.reads
 have H_c0 := Aside0.mk hm_; clear hm_
 have n0_ := Aside0.mk (below_step (by repeat (first | exact HB.out | apply below_alloc | apply pw_below_drewN | apply below_drew1)) hb)
 have n1_ := Aside0.mk (Mem.X.below (by repeat (first | exact X_a0.out | apply Mem.X.alloc | apply Mem.X.drewN | apply Mem.X.drew1)) hb)
 have n2_ := Aside0.mk (Mem.S.below (by repeat (first | exact H_w0.out | apply Mem.S.alloc | apply Mem.S.drewN | apply Mem.S.drew1)) hb)
 have n3_ := Aside0.mk (Mem.X.below (by repeat (first | exact X_w0.out | apply Mem.X.alloc | apply Mem.X.drewN | apply Mem.X.drew1)) hb)
 have n4_ := Aside0.mk (Mem.X.below (by repeat (first | exact X_x0.out | apply Mem.X.alloc | apply Mem.X.drewN | apply Mem.X.drew1)) hb)
 have n5_ := Aside0.mk (Mem.S.below (by repeat (first | exact H_g0.out | apply Mem.S.alloc | apply Mem.S.drewN | apply Mem.S.drew1)) hb)
 have n6_ := Aside0.mk (Mem.X.below (by repeat (first | exact X_g0.out | apply Mem.X.alloc | apply Mem.X.drewN | apply Mem.X.drew1)) hb)
 clear c_X_a0 d_X_a0 c_X_a0_1 d_X_a0_1 c_X_w0 d_X_w0 c_X_x0 d_X_x0 c_X_x0_1 d_X_x0_1 c_X_g0 d_X_g0
 clear HB X_a0 H_w0 X_w0 X_x0 H_g0 X_g0
 have HB := n0_
 have X_a0 := n1_
 have H_w0 := n2_
 have X_w0 := n3_
 have X_x0 := n4_
 have H_g0 := n5_
 have X_g0 := n6_
 clear n0_ n1_ n2_ n3_ n4_ n5_ n6_
 have c_X_a0 : w14.cell? ⟨w.heap.size, 0, none⟩ = some (.int .i64 y0) := (X_a0.out.cell 0).trans rfl
 have d_X_a0 : ∀ o, (w14.alloc o).cell? ⟨w.heap.size, 0, none⟩ = some (.int .i64 y0) := fun o => (X_a0.out.cellA 0 o).trans rfl
 have c_X_a0_1 : w14.cell? ⟨w.heap.size, 1, none⟩ = some (.slice A0 l0.length c0) := (X_a0.out.cell 1).trans rfl
 have d_X_a0_1 : ∀ o, (w14.alloc o).cell? ⟨w.heap.size, 1, none⟩ = some (.slice A0 l0.length c0) := fun o => (X_a0.out.cellA 1 o).trans rfl
 have c_X_w0 : w14.cell? ⟨w3.heap.size, 0, none⟩ = some (.slice A_w0 r0.length c_w0) := (X_w0.out.cell 0).trans rfl
 have d_X_w0 : ∀ o, (w14.alloc o).cell? ⟨w3.heap.size, 0, none⟩ = some (.slice A_w0 r0.length c_w0) := fun o => (X_w0.out.cellA 0 o).trans rfl
 have c_X_x0 : w14.cell? ⟨w4.heap.size, 0, none⟩ = some (.int .i64 y0) := (X_x0.out.cell 0).trans rfl
 have d_X_x0 : ∀ o, (w14.alloc o).cell? ⟨w4.heap.size, 0, none⟩ = some (.int .i64 y0) := fun o => (X_x0.out.cellA 0 o).trans rfl
 have c_X_x0_1 : w14.cell? ⟨w4.heap.size, 1, none⟩ = some (.slice A_x0 l0.length c_x0) := (X_x0.out.cell 1).trans rfl
 have d_X_x0_1 : ∀ o, (w14.alloc o).cell? ⟨w4.heap.size, 1, none⟩ = some (.slice A_x0 l0.length c_x0) := fun o => (X_x0.out.cellA 1 o).trans rfl
 have c_X_g0 : w14.cell? ⟨w5.heap.size, 0, none⟩ = some (.slice A_g0 r0.length c_g0) := (X_g0.out.cell 0).trans rfl
 have d_X_g0 : ∀ o, (w14.alloc o).cell? ⟨w5.heap.size, 0, none⟩ = some (.slice A_g0 r0.length c_g0) := fun o => (X_g0.out.cellA 0 o).trans rfl
 clear hb
 go_wp2_with (fail)
 refine (impl_MatrixOfOrder.calls k y0 A_c0 c_c0 l0 r0 r1 _ (HV.out.below (by repeat (first | exact HB.out | apply below_alloc | apply pw_below_drewN | apply below_drew1))) ?s0 ?t0 E_IM.out).mono ?_
 case s0 => exact Mem.R.now (by repeat (first | exact H_c0.out | apply Mem.R.alloc | apply Mem.R.drewN | apply Mem.R.drew1))
 case t0 => exact Mem.R.cap (W := w14) H_c0.out
 rintro e w15 ⟨v_, rfl, hs_, hb⟩
 obtain ⟨lo_h0, hi_h0, oa_h0, ob_h0, hm_⟩ := Mem.S.made' (hi_c0) hs_ (by repeat (first | exact HB.out | apply below_alloc | apply pw_below_drewN | apply below_drew1)) hb (Mem.R.size (by repeat (first | exact H_c0.out | apply Mem.R.alloc | apply Mem.R.drewN | apply Mem.R.drew1)))
 clear hs_
 have OA_h0 := Aside0.mk oa_h0; have OB_h0 := Aside0.mk ob_h0; clear oa_h0 ob_h0
 obtain ⟨A_h0, c_h0, rfl, _, _⟩ := hm_.reads
 have H_h0 := Aside0.mk hm_; clear hm_
 have n0_ := Aside0.mk (below_step (by repeat (first | exact HB.out | apply below_alloc | apply pw_below_drewN | apply below_drew1)) hb)
 have n1_ := Aside0.mk (Mem.X.below (by repeat (first | exact X_a0.out | apply Mem.X.alloc | apply Mem.X.drewN | apply Mem.X.drew1)) hb)
 have n2_ := Aside0.mk (Mem.S.below (by repeat (first | exact H_w0.out | apply Mem.S.alloc | apply Mem.S.drewN | apply Mem.S.drew1)) hb)
 have n3_ := Aside0.mk (Mem.X.below (by repeat (first | exact X_w0.out | apply Mem.X.alloc | apply Mem.X.drewN | apply Mem.X.drew1)) hb)
 have n4_ := Aside0.mk (Mem.X.below (by repeat (first | exact X_x0.out | apply Mem.X.alloc | apply Mem.X.drewN | apply Mem.X.drew1)) hb)
 have n5_ := Aside0.mk (Mem.S.below (by repeat (first | exact H_g0.out | apply Mem.S.alloc | apply Mem.S.drewN | apply Mem.S.drew1)) hb)
 have n6_ := Aside0.mk (Mem.X.below (by repeat (first | exact X_g0.out | apply Mem.X.alloc | apply Mem.X.drewN | apply Mem.X.drew1)) hb)
 have n7_ := Aside0.mk (Mem.R.below (by repeat (first | exact H_c0.out | apply Mem.R.alloc | apply Mem.R.drewN | apply Mem.R.drew1)) hb)
 clear c_X_a0 d_X_a0 c_X_a0_1 d_X_a0_1 c_X_w0 d_X_w0 c_X_x0 d_X_x0 c_X_x0_1 d_X_x0_1 c_X_g0 d_X_g0
 clear HB X_a0 H_w0 X_w0 X_x0 H_g0 X_g0 H_c0
 have HB := n0_
 have X_a0 := n1_
 have H_w0 := n2_
 have X_w0 := n3_
 have X_x0 := n4_
 have H_g0 := n5_
 have X_g0 := n6_
 have H_c0 := n7_
 clear n0_ n1_ n2_ n3_ n4_ n5_ n6_ n7_
 have c_X_a0 : w15.cell? ⟨w.heap.size, 0, none⟩ = some (.int .i64 y0) := (X_a0.out.cell 0).trans rfl
 have d_X_a0 : ∀ o, (w15.alloc o).cell? ⟨w.heap.size, 0, none⟩ = some (.int .i64 y0) := fun o => (X_a0.out.cellA 0 o).trans rfl
 have c_X_a0_1 : w15.cell? ⟨w.heap.size, 1, none⟩ = some (.slice A0 l0.length c0) := (X_a0.out.cell 1).trans rfl
 have d_X_a0_1 : ∀ o, (w15.alloc o).cell? ⟨w.heap.size, 1, none⟩ = some (.slice A0 l0.length c0) := fun o => (X_a0.out.cellA 1 o).trans rfl
 have c_X_w0 : w15.cell? ⟨w3.heap.size, 0, none⟩ = some (.slice A_w0 r0.length c_w0) := (X_w0.out.cell 0).trans rfl
 have d_X_w0 : ∀ o, (w15.alloc o).cell? ⟨w3.heap.size, 0, none⟩ = some (.slice A_w0 r0.length c_w0) := fun o => (X_w0.out.cellA 0 o).trans rfl
 have c_X_x0 : w15.cell? ⟨w4.heap.size, 0, none⟩ = some (.int .i64 y0) := (X_x0.out.cell 0).trans rfl
 have d_X_x0 : ∀ o, (w15.alloc o).cell? ⟨w4.heap.size, 0, none⟩ = some (.int .i64 y0) := fun o => (X_x0.out.cellA 0 o).trans rfl
 have c_X_x0_1 : w15.cell? ⟨w4.heap.size, 1, none⟩ = some (.slice A_x0 l0.length c_x0) := (X_x0.out.cell 1).trans rfl
 have d_X_x0_1 : ∀ o, (w15.alloc o).cell? ⟨w4.heap.size, 1, none⟩ = some (.slice A_x0 l0.length c_x0) := fun o => (X_x0.out.cellA 1 o).trans rfl
 have c_X_g0 : w15.cell? ⟨w5.heap.size, 0, none⟩ = some (.slice A_g0 r0.length c_g0) := (X_g0.out.cell 0).trans rfl
 have d_X_g0 : ∀ o, (w15.alloc o).cell? ⟨w5.heap.size, 0, none⟩ = some (.slice A_g0 r0.length c_g0) := fun o => (X_g0.out.cellA 0 o).trans rfl
 clear hb
 clear H_c0
 have OX_h0 : Aside0 (hi_h0 ≤ w15.heap.size) := ⟨Mem.S.size H_h0.out⟩
 go_wp2_with (fail)
 refine (laws_eqMatrix.calls k A_h0 c_h0 r0 A_w0 c_w0 r0 true _ ?s1 ?s2 ?s3 ?s4 E_EQ0.out).mono ?_
 case s1 => exact Mem.S.now (by repeat (first | exact H_h0.out | apply Mem.S.alloc | apply Mem.S.drewN | apply Mem.S.drew1))
 case s2 => exact Mem.S.cap (W := w15) H_h0.out
 case s3 => exact Mem.S.now (by repeat (first | exact H_w0.out | apply Mem.S.alloc | apply Mem.S.drewN | apply Mem.S.drew1))
 case s4 => exact Mem.S.cap (W := w15) H_w0.out
 rintro e w16 ⟨rfl, hb⟩
 have n0_ := Aside0.mk (below_step (by repeat (first | exact HB.out | apply below_alloc | apply pw_below_drewN | apply below_drew1)) hb)
 have n1_ := Aside0.mk (Mem.X.below (by repeat (first | exact X_a0.out | apply Mem.X.alloc | apply Mem.X.drewN | apply Mem.X.drew1)) hb)
 have n2_ := Aside0.mk (Mem.S.below (by repeat (first | exact H_w0.out | apply Mem.S.alloc | apply Mem.S.drewN | apply Mem.S.drew1)) hb)
 have n3_ := Aside0.mk (Mem.X.below (by repeat (first | exact X_w0.out | apply Mem.X.alloc | apply Mem.X.drewN | apply Mem.X.drew1)) hb)
 have n4_ := Aside0.mk (Mem.X.below (by repeat (first | exact X_x0.out | apply Mem.X.alloc | apply Mem.X.drewN | apply Mem.X.drew1)) hb)
 have n5_ := Aside0.mk (Mem.S.below (by repeat (first | exact H_g0.out | apply Mem.S.alloc | apply Mem.S.drewN | apply Mem.S.drew1)) hb)
 have n6_ := Aside0.mk (Mem.X.below (by repeat (first | exact X_g0.out | apply Mem.X.alloc | apply Mem.X.drewN | apply Mem.X.drew1)) hb)
 have n7_ := Aside0.mk (Mem.S.below (by repeat (first | exact H_h0.out | apply Mem.S.alloc | apply Mem.S.drewN | apply Mem.S.drew1)) hb)
 have n8_ := Aside0.mk (Mem.X.below (by repeat (first | exact Mem.X.new w15 _ _ | apply Mem.X.alloc | apply Mem.X.drewN | apply Mem.X.drew1)) hb)
 clear c_X_a0 d_X_a0 c_X_a0_1 d_X_a0_1 c_X_w0 d_X_w0 c_X_x0 d_X_x0 c_X_x0_1 d_X_x0_1 c_X_g0 d_X_g0
 clear HB X_a0 H_w0 X_w0 X_x0 H_g0 X_g0 H_h0
 have HB := n0_
 have X_a0 := n1_
 have H_w0 := n2_
 have X_w0 := n3_
 have X_x0 := n4_
 have H_g0 := n5_
 have X_g0 := n6_
 have H_h0 := n7_
 have X_h0 := n8_
 clear n0_ n1_ n2_ n3_ n4_ n5_ n6_ n7_ n8_
 have c_X_a0 : w16.cell? ⟨w.heap.size, 0, none⟩ = some (.int .i64 y0) := (X_a0.out.cell 0).trans rfl
 have d_X_a0 : ∀ o, (w16.alloc o).cell? ⟨w.heap.size, 0, none⟩ = some (.int .i64 y0) := fun o => (X_a0.out.cellA 0 o).trans rfl
 have c_X_a0_1 : w16.cell? ⟨w.heap.size, 1, none⟩ = some (.slice A0 l0.length c0) := (X_a0.out.cell 1).trans rfl
 have d_X_a0_1 : ∀ o, (w16.alloc o).cell? ⟨w.heap.size, 1, none⟩ = some (.slice A0 l0.length c0) := fun o => (X_a0.out.cellA 1 o).trans rfl
 have c_X_w0 : w16.cell? ⟨w3.heap.size, 0, none⟩ = some (.slice A_w0 r0.length c_w0) := (X_w0.out.cell 0).trans rfl
 have d_X_w0 : ∀ o, (w16.alloc o).cell? ⟨w3.heap.size, 0, none⟩ = some (.slice A_w0 r0.length c_w0) := fun o => (X_w0.out.cellA 0 o).trans rfl
 have c_X_x0 : w16.cell? ⟨w4.heap.size, 0, none⟩ = some (.int .i64 y0) := (X_x0.out.cell 0).trans rfl
 have d_X_x0 : ∀ o, (w16.alloc o).cell? ⟨w4.heap.size, 0, none⟩ = some (.int .i64 y0) := fun o => (X_x0.out.cellA 0 o).trans rfl
 have c_X_x0_1 : w16.cell? ⟨w4.heap.size, 1, none⟩ = some (.slice A_x0 l0.length c_x0) := (X_x0.out.cell 1).trans rfl
 have d_X_x0_1 : ∀ o, (w16.alloc o).cell? ⟨w4.heap.size, 1, none⟩ = some (.slice A_x0 l0.length c_x0) := fun o => (X_x0.out.cellA 1 o).trans rfl
 have c_X_g0 : w16.cell? ⟨w5.heap.size, 0, none⟩ = some (.slice A_g0 r0.length c_g0) := (X_g0.out.cell 0).trans rfl
 have d_X_g0 : ∀ o, (w16.alloc o).cell? ⟨w5.heap.size, 0, none⟩ = some (.slice A_g0 r0.length c_g0) := fun o => (X_g0.out.cellA 0 o).trans rfl
 have c_X_h0 : w16.cell? ⟨w15.heap.size, 0, none⟩ = some (.slice A_h0 r0.length c_h0) := (X_h0.out.cell 0).trans rfl
 have d_X_h0 : ∀ o, (w16.alloc o).cell? ⟨w15.heap.size, 0, none⟩ = some (.slice A_h0 r0.length c_h0) := fun o => (X_h0.out.cellA 0 o).trans rfl
 clear hb
 go_wp2_with (fail)
 refine calls_of_args (args' := #[.agg #[.slice A_g0 rg0.length c_g0], .int .i64 1]) (by rw [LEN0.out]) ?_
 refine (laws_heldMatrix.calls k A_g0 c_g0 rg0 1 m0 _ ?s1 ?s2 E_HR0.out).mono ?_
 case s1 => exact Mem.S.now (by repeat (first | exact H_g0.out | apply Mem.S.alloc | apply Mem.S.drewN | apply Mem.S.drew1))
 case s2 => exact Mem.S.cap (W := w16) H_g0.out
 rintro e w17 ⟨rfl, hb⟩
 have n0_ := Aside0.mk (below_step (by repeat (first | exact HB.out | apply below_alloc | apply pw_below_drewN | apply below_drew1)) hb)
 have n1_ := Aside0.mk (Mem.X.below (by repeat (first | exact X_a0.out | apply Mem.X.alloc | apply Mem.X.drewN | apply Mem.X.drew1)) hb)
 have n2_ := Aside0.mk (Mem.S.below (by repeat (first | exact H_w0.out | apply Mem.S.alloc | apply Mem.S.drewN | apply Mem.S.drew1)) hb)
 have n3_ := Aside0.mk (Mem.X.below (by repeat (first | exact X_w0.out | apply Mem.X.alloc | apply Mem.X.drewN | apply Mem.X.drew1)) hb)
 have n4_ := Aside0.mk (Mem.X.below (by repeat (first | exact X_x0.out | apply Mem.X.alloc | apply Mem.X.drewN | apply Mem.X.drew1)) hb)
 have n5_ := Aside0.mk (Mem.S.below (by repeat (first | exact H_g0.out | apply Mem.S.alloc | apply Mem.S.drewN | apply Mem.S.drew1)) hb)
 have n6_ := Aside0.mk (Mem.X.below (by repeat (first | exact X_g0.out | apply Mem.X.alloc | apply Mem.X.drewN | apply Mem.X.drew1)) hb)
 have n7_ := Aside0.mk (Mem.S.below (by repeat (first | exact H_h0.out | apply Mem.S.alloc | apply Mem.S.drewN | apply Mem.S.drew1)) hb)
 have n8_ := Aside0.mk (Mem.X.below (by repeat (first | exact X_h0.out | apply Mem.X.alloc | apply Mem.X.drewN | apply Mem.X.drew1)) hb)
 clear c_X_a0 d_X_a0 c_X_a0_1 d_X_a0_1 c_X_w0 d_X_w0 c_X_x0 d_X_x0 c_X_x0_1 d_X_x0_1 c_X_g0 d_X_g0 c_X_h0 d_X_h0
 clear HB X_a0 H_w0 X_w0 X_x0 H_g0 X_g0 H_h0 X_h0
 have HB := n0_
 have X_a0 := n1_
 have H_w0 := n2_
 have X_w0 := n3_
 have X_x0 := n4_
 have H_g0 := n5_
 have X_g0 := n6_
 have H_h0 := n7_
 have X_h0 := n8_
 clear n0_ n1_ n2_ n3_ n4_ n5_ n6_ n7_ n8_
 have c_X_a0 : w17.cell? ⟨w.heap.size, 0, none⟩ = some (.int .i64 y0) := (X_a0.out.cell 0).trans rfl
 have d_X_a0 : ∀ o, (w17.alloc o).cell? ⟨w.heap.size, 0, none⟩ = some (.int .i64 y0) := fun o => (X_a0.out.cellA 0 o).trans rfl
 have c_X_a0_1 : w17.cell? ⟨w.heap.size, 1, none⟩ = some (.slice A0 l0.length c0) := (X_a0.out.cell 1).trans rfl
 have d_X_a0_1 : ∀ o, (w17.alloc o).cell? ⟨w.heap.size, 1, none⟩ = some (.slice A0 l0.length c0) := fun o => (X_a0.out.cellA 1 o).trans rfl
 have c_X_w0 : w17.cell? ⟨w3.heap.size, 0, none⟩ = some (.slice A_w0 r0.length c_w0) := (X_w0.out.cell 0).trans rfl
 have d_X_w0 : ∀ o, (w17.alloc o).cell? ⟨w3.heap.size, 0, none⟩ = some (.slice A_w0 r0.length c_w0) := fun o => (X_w0.out.cellA 0 o).trans rfl
 have c_X_x0 : w17.cell? ⟨w4.heap.size, 0, none⟩ = some (.int .i64 y0) := (X_x0.out.cell 0).trans rfl
 have d_X_x0 : ∀ o, (w17.alloc o).cell? ⟨w4.heap.size, 0, none⟩ = some (.int .i64 y0) := fun o => (X_x0.out.cellA 0 o).trans rfl
 have c_X_x0_1 : w17.cell? ⟨w4.heap.size, 1, none⟩ = some (.slice A_x0 l0.length c_x0) := (X_x0.out.cell 1).trans rfl
 have d_X_x0_1 : ∀ o, (w17.alloc o).cell? ⟨w4.heap.size, 1, none⟩ = some (.slice A_x0 l0.length c_x0) := fun o => (X_x0.out.cellA 1 o).trans rfl
 have c_X_g0 : w17.cell? ⟨w5.heap.size, 0, none⟩ = some (.slice A_g0 r0.length c_g0) := (X_g0.out.cell 0).trans rfl
 have d_X_g0 : ∀ o, (w17.alloc o).cell? ⟨w5.heap.size, 0, none⟩ = some (.slice A_g0 r0.length c_g0) := fun o => (X_g0.out.cellA 0 o).trans rfl
 have c_X_h0 : w17.cell? ⟨w15.heap.size, 0, none⟩ = some (.slice A_h0 r0.length c_h0) := (X_h0.out.cell 0).trans rfl
 have d_X_h0 : ∀ o, (w17.alloc o).cell? ⟨w15.heap.size, 0, none⟩ = some (.slice A_h0 r0.length c_h0) := fun o => (X_h0.out.cellA 0 o).trans rfl
 clear hb
 go_wp2
 go_ret
 exact ⟨rfl, (by repeat (first | exact HB.out | apply below_alloc | apply pw_below_drewN | apply below_drew1))⟩
def laws_FnExactMatrixOfOrder.Plain (y0 : Int) (l0 : List Int) : Prop := ∃ (k : Nat) (s0 : Int), laws_szOrder.f y0 l0 1048576 = some s0 ∧ (¬ s0 < 0 → ∃ (r0 : List (List Int)) (r1 : Bool) (x0 : Int) (lx0 : List Int) (m0 : Int) (rg0 : List (List Int)), laws_toOrder.f k y0 l0 = some (y0, l0) ∧ spec_MatrixOfOrder.f k y0 l0 = some (r0, r1) ∧ impl_MatrixOfOrder.f k y0 l0 = some (r0, r1) ∧ laws_eqMatrix.f k r0 r0 = some true ∧ laws_eqOrder.f k y0 l0 y0 l0 = some true ∧ laws_markOrder.f k y0 l0 1 = some (x0, lx0) ∧ 0 ≤ x0 ∧ laws_markMatrix.f k r0 1 = some (m0, rg0) ∧ 0 ≤ m0 ∧ laws_heldMatrix.f k rg0 1 = some m0)
theorem laws_FnExactMatrixOfOrder.whole (y0 : Int) (A0 : Option Addr) (c0 : Nat) (l0 : List Int) (w : World) (hV : TabZ w) (hr0 : Kd.C (Kd.int .i64) w A0 l0.length l0) (hc0 : l0.length ≤ c0) (h : laws_FnExactMatrixOfOrder.Plain y0 l0) :
    Calls Tryd.prog 3 #[.agg #[.int .i64 y0, .slice A0 l0.length c0]] w fun e w' => e = .returned (.bool true) ∧ Below w.heap.size w w' := by
 obtain ⟨k, s0, e, h⟩ := h
 by_cases hg : s0 < 0
 · exact laws_FnExactMatrixOfOrder.far k y0 A0 c0 l0 s0 w hV hr0 hc0 e hg
 · {
 obtain ⟨r0, r1, x0, lx0, m0, rg0, q0, q1, q2, q3, q4, q5, q6, q7, q8, q9⟩ := h hg
 exact laws_FnExactMatrixOfOrder.near k y0 A0 c0 l0 w hV hr0 hc0 r0 r1 x0 lx0 m0 rg0 s0 e hg q0 q1 q2 q3 q4 q5 q6 q7 q8 q9}
end Go.Proofs.YtcodionjhcmfhaaDoor.Mo
