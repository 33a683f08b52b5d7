-- Written by hook.py, a program of this session (wip/), which runs the kit's print.py with its own parts; Lean checks it.
import Derived.Test.YtcodionjhcmfhaaGreatDoorAx0
import Derived.Test.YtcodionjhcmfhaaGreatDoorAx1
import Derived.Test.YtcodionjhcmfhaaGreatDoorAx2
import Derived.Test.YtcodionjhcmfhaaGreatDoorAx3
import Derived.Test.YtcodionjhcmfhaaGreatDoorAxXSq
namespace Go.Proofs.YtcodionjhcmfhaaGreatDoor.Ax
open Go.RowKit Go.Proofs.YtcodionjhcmfhaaGreatDoorW.PrintWords Go.Proofs.YtcodionjhcmfhaaGreatDoorW.PrintLast Go.Proofs.YtcodionjhcmfhaaGreatDoorW.PrintMore Go.Proofs.YtcodionjhcmfhaaGreatDoor.Sq
attribute [local go_sem] max2_int min2_int max_two min_two max_three min_three max_four min_four   -- for this text's walks alone
set_option linter.unusedVariables false
set_option linter.unusedSimpArgs false

def impl_IsMatrix.l0 : Nat → List (List Int) → Int → Int → List (List Int) → Option (Bool)
 | 0, _, _, _, _ => none
 | k + 1, x11, x12, x13, x137000 => if x13 < x12 then (if 0 ≤ x13 then (if x13 < (x11.length : Int) then ((impl_Matrix_size.f x137000).bind fun t139 => (if ((rd_L2 x11 x13).length : Int) = t139 then ((impl_allWithin.f k (rd_L2 x11 x13) 0 12).bind fun t140 => (if t140 = true then (if x13 ≤ ((rd_L2 x11 x13).length : Int) then ((slices_ContainsFunc_int_int.f ((rd_L2 x11 x13).take (x13 : Int).toNat)).bind fun t142 => (if t142 = true then (some false) else (impl_IsMatrix.l0 k x11 x12 (wrap64 (x13 + 1)) x137000))) else (none)) else (some false))) else (some false))) else (none)) else (none)) else ((impl_Matrix_sums.f k x137000).bind fun bt143 => ((slices_Contains_int_int.f k bt143.1 0).bind fun t149 => (if t149 = true then (some false) else ((slices_Contains_int_int.f k bt143.2 0).bind fun t150 => (if t150 = true then (some false) else ((impl_Matrix_sum.f k x137000).bind fun t151 => (some (decide (t151 ≤ 12)))))))))
def impl_IsMatrix.f (k : Nat) (l0_0 : List (List Int)) : Option (Bool) := (impl_Matrix_size.f l0_0).bind fun t137 => (if t137 > 12 then (some false) else (impl_IsMatrix.l0 k l0_0 (l0_0.length : Int) 0 l0_0))
set_option maxHeartbeats 8000000 in
set_option maxRecDepth 100000 in
theorem impl_IsMatrix.calls (k : Nat) (A0_0 : Option Addr) (c0_0 : Nat) (l0_0 : List (List Int)) (r : Bool) (w : World) (hr0_0 : Kd.C (Kd.slice 3 (Kd.int .i64)) w A0_0 l0_0.length l0_0) (hc0_0 : l0_0.length ≤ c0_0) (h : impl_IsMatrix.f k l0_0 = some r) :
  Calls Tryz.prog 26 #[.agg #[.slice A0_0 l0_0.length c0_0]] w fun e w' => e = .returned (.bool r) ∧ Below w.heap.size w w' := by
 have hu30 := Tryz.underlying30
 have HR0_0 := aM hr0_0
 have HC0_0 := aM hc0_0
 clear hr0_0 hc0_0
 have HB := aM (Below.refl w.heap.size w)
 have H : ((impl_Matrix_size.f l0_0).bind fun t137 => (if t137 > 12 then (some false) else (impl_IsMatrix.l0 k l0_0 (l0_0.length : Int) 0 l0_0))) = some r := h
 clear h
 replace H := bS H
 obtain ⟨t137, A2, H⟩ := H
 try dsimp only at H
 by_cases c3 : t137 > 12
 ·rw [if_pos c3] at H
  have c3b0 := decide_eq_true c3
  clear c3
  obtain rfl := Option.some.inj H
  go_enter Tryz.func26, Tryz.ntmps26
  go_wp2_with (first | ((with_reducible refine gate_dst (N := 1) rfl ?_); refine bE 1 30 #[.slice A0_0 l0_0.length c0_0] ?_; intro gb136 hg w4 hbox hb; have _ := aM (below_step bq hb); have _ := aM (hbox); have _ := aM ((gS hg)); have _ := aM ((gS hg)); clear HB; rename_i HB BK136 GW136 GE136; clear hb hbox hg; have hcz5_0 := c10 BK136; have hfz5_0 := blk_frozen BK136.out 0) | ((with_reducible refine gate_callee (f := 37) rfl ?_); refine gL (some 8) Tryz.func37 #[.agg #[.slice A0_0 l0_0.length c0_0]] ?_; (with_reducible refine (impl_Matrix_size.calls _ _ l0_0 t137 _ (cQ (Kd.C_below HR0_0.out HB.out)) HC0_0.out A2.out).mono ?_); rintro e w6 ⟨rfl, hb⟩; refine ⟨_, rfl, ?_⟩; have _ := aM (blk_below (qQ BK136) hb); have _ := aM (below_step bq hb); clear BK136 HB; rename_i BK136 HB; (try clear hb); (try clear hb2); (try clear hk); (try clear hi)))
  go_ret
  exact ⟨eE, bq⟩
 ·rw [if_neg c3] at H
  have c3b0 := decide_eq_false c3
  clear c3
  have H' := aM H
  clear H
  go_enter Tryz.func26, Tryz.ntmps26
  go_wp2_with (first | ((with_reducible refine gate_dst (N := 1) rfl ?_); refine bE 1 30 #[.slice A0_0 l0_0.length c0_0] ?_; intro gb136 hg w7 hbox hb; have _ := aM (below_step bq hb); have _ := aM (hbox); have _ := aM ((gS hg)); have _ := aM ((gS hg)); clear HB; rename_i HB BK136 GW136 GE136; clear hb hbox hg; have hcz8_0 := c10 BK136; have hfz8_0 := blk_frozen BK136.out 0) | ((with_reducible refine gate_callee (f := 37) rfl ?_); refine gL (some 8) Tryz.func37 #[.agg #[.slice A0_0 l0_0.length c0_0]] ?_; (with_reducible refine (impl_Matrix_size.calls _ _ l0_0 t137 _ (cQ (Kd.C_below HR0_0.out HB.out)) HC0_0.out A2.out).mono ?_); rintro e w9 ⟨rfl, hb⟩; refine ⟨_, rfl, ?_⟩; have _ := aM (blk_below (qQ BK136) hb); have _ := aM (below_step bq hb); clear BK136 HB; rename_i BK136 HB; (try clear hb); (try clear hb2); (try clear hk); (try clear hi); have hcz10_0 := c10 BK136; have hfz10_0 := blk_frozen BK136.out 0))
  go_loopg [13] k (fun kq v13 w' => ∃ (x13_1 : Int), v13 = .int .i64 x13_1 ∧ Aside0 (impl_IsMatrix.l0 kq l0_0 (l0_0.length : Int) x13_1 l0_0 = some r) ∧ Aside0 (kq ≤ k) ∧ Aside0 (w'.heap[gb136]? = some (.cells #[(.slice A0_0 l0_0.length c0_0)] 30 (0, 0))) ∧ Aside0 (Below w.heap.size w w'))
  case atStart => exact ⟨(0), eR, H', ⟨Nat.le_refl _⟩, ⟨qQ BK136⟩, ⟨bq⟩⟩
  case round =>
   clear H'
   try clear c2
   try clear p2
   try clear c3
   try clear c3b0
   try clear hcz10_0
   try clear hcz5_0
   try clear hcz8_0
   try clear hfz10_0
   try clear hfz5_0
   try clear hfz8_0
   obtain ⟨x13_1, rfl, HA, HK1, BK136, HB⟩ := hrel
   cases gk with
   | zero => exact absurd HA.out (by simp [impl_IsMatrix.l0])
   | succ k1 =>
    have H := HA.out
    clear HA
    simp only [impl_IsMatrix.l0] at H
    by_cases c11 : x13_1 < (l0_0.length : Int)
    ·rw [if_pos c11] at H
     have c11b0 := decide_eq_true c11
     clear c11
     replace H := iD2 H
     obtain ⟨c12b0, c13b0, H⟩ := H
     replace H := bS H
     obtain ⟨t139, A14, H⟩ := H
     try dsimp only at H
     by_cases c15 : ((rd_L2 l0_0 x13_1).length : Int) = t139
     ·rw [if_pos c15] at H
      have c15b0 : (((rd_L2 l0_0 x13_1).length : Int) == t139) = true := beq_iff_eq.mpr c15
      have c15b1 : (((rd_L2 l0_0 x13_1).length : Int) != t139) = false := bne_eq_false_iff_eq.mpr c15
      clear c15
      replace H := bS H
      obtain ⟨t140, A16, H⟩ := H
      try dsimp only at H
      by_cases c17 : t140 = true
      ·subst c17
       have H1 : (if x13_1 ≤ ((rd_L2 l0_0 x13_1).length : Int) then ((slices_ContainsFunc_int_int.f ((rd_L2 l0_0 x13_1).take (x13_1 : Int).toNat)).bind fun t142 => (if t142 = true then (some false) else (impl_IsMatrix.l0 k1 l0_0 (l0_0.length : Int) (wrap64 (x13_1 + 1)) l0_0))) else (none)) = some r := by rw [if_pos rfl] at H; exact H
       clear H
       have H := H1
       clear H1
       have c18b0 := eq_true (odt : 0 ≤ x13_1)
       replace H := iS H
       obtain ⟨c19, H⟩ := H
       have c19b0 := eq_true c19
       have c19b1 := decide_eq_true c19
       clear c19
       replace H := bS H
       obtain ⟨t142, A20, H⟩ := H
       try dsimp only at H
       by_cases c21 : t142 = true
       ·subst c21
        have H1 : (some false) = some r := by rw [if_pos rfl] at H; exact H
        clear H
        have H := H1
        clear H1
        obtain rfl := Option.some.inj H
        have p138 : 0 ≤ (x13_1 : Int) := odt
        have q138 : x13_1 < (l0_0.length : Int) := odt
        obtain ⟨ad138, A138_0, c138_0, e138, hx138_0, hl138_0, hi138_0⟩ := at_L2 HR0_0.out x13_1 p138 q138
        cases e138
        replace hx138_0 := (HB.out.cell (World.block_lt_of_cell? w _ hx138_0)).trans hx138_0
        have HR138_0 := aM hi138_0
        have HC138_0 := aM hl138_0
        clear hi138_0 hl138_0
        replace p138 := eq_true p138
        replace q138 := eq_true q138
        have hcz22_0 := c10 BK136
        have hfz22_0 := blk_frozen BK136.out 0
        go_wp2_with (first | ((with_reducible refine gate_callee (f := 37) rfl ?_); refine gL (some 21) Tryz.func37 #[.agg #[.slice (some ad138) l0_0.length c0_0]] ?_; (with_reducible refine (impl_Matrix_size.calls _ _ l0_0 t139 _ (cQ (Kd.C_below HR0_0.out HB.out)) HC0_0.out A14.out).mono ?_); rintro e w23 ⟨rfl, hb⟩; refine ⟨_, rfl, ?_⟩; have _ := aM (blk_below (qQ BK136) hb); have _ := aM (below_step bq hb); clear BK136 HB; rename_i BK136 HB; (try clear hb); (try clear hb2); (try clear hk); (try clear hi)) | (go_at_call 53; (with_reducible refine (impl_allWithin.calls k1 _ _ (rd_L2 l0_0 x13_1) 0 12 true _ (cQ (Kd.C_below HR138_0.out HB.out)) HC138_0.out A16.out).mono ?_); rintro e w' ⟨rfl, ⟨nd, rfl⟩⟩; obtain ⟨i024, hi024, _, hsz24, _⟩ := info_parts info3; obtain ⟨hcut24, hA24, hC24⟩ := print_take_of (P := Tryz.prog) (Value.int .i64) 0 24 3 .i64 Tryz.underlying24 hi024 hsz24 A138_0 c138_0 (rd_L2 l0_0 x13_1) x13_1 (odt) (odt) HC138_0.out; have HR141 := aM (Kd.C_of_reads (h1 := fun _ => rfl) (hA24 _ (Kd.reads_of_C HR138_0.out))); have HC141 := aM hC24; clear hA24 hC24 hi024 hsz24) | (go_at_call 54; (refine calls_of_args (args' := #[.slice A138_0 ((rd_L2 l0_0 x13_1).take (x13_1 : Int).toNat).length c138_0, .func (.func 55) #[] #[]]) ?argeq ?_); (case argeq => rw [List.length_take, Nat.min_eq_left (by have h_ : x13_1 ≤ ((rd_L2 l0_0 x13_1).length : Int) := odt; omega)]); (with_reducible refine (slices_ContainsFunc_int_int.calls _ _ ((rd_L2 l0_0 x13_1).take (x13_1 : Int).toNat)  true _ ?side1 ?side2 A20.out).mono ?_); (case side1 => repeat (first | exact (Kd.C_below HR141.out bq) | (with_reducible refine Kd.C_alloc ?_ _) | (with_reducible refine Kd.C_drewN ?_ _) | (with_reducible refine Kd.C_drew ?_))); (case side2 => exact HC141.out); rintro e w25 ⟨rfl, hb⟩; have _ := aM (blk_below (qQ BK136) hb); have _ := aM (below_step bq hb); clear BK136 HB; rename_i BK136 HB; (try clear hb); (try clear hb2); (try clear hk); (try clear hi)))
        go_ret
        exact ⟨eE, bq⟩
       ·replace c21 := Bool.eq_false_iff.mpr c21
        subst c21
        have H1 : (impl_IsMatrix.l0 k1 l0_0 (l0_0.length : Int) (wrap64 (x13_1 + 1)) l0_0) = some r := by rw [if_neg (show ¬ (false = true) by decide)] at H; exact H
        clear H
        have H := H1
        clear H1
        have H' := aM H
        clear H
        have p138 : 0 ≤ (x13_1 : Int) := odt
        have q138 : x13_1 < (l0_0.length : Int) := odt
        obtain ⟨ad138, A138_0, c138_0, e138, hx138_0, hl138_0, hi138_0⟩ := at_L2 HR0_0.out x13_1 p138 q138
        cases e138
        replace hx138_0 := (HB.out.cell (World.block_lt_of_cell? w _ hx138_0)).trans hx138_0
        have HR138_0 := aM hi138_0
        have HC138_0 := aM hl138_0
        clear hi138_0 hl138_0
        replace p138 := eq_true p138
        replace q138 := eq_true q138
        have hcz26_0 := c10 BK136
        have hfz26_0 := blk_frozen BK136.out 0
        go_wp2_with (first | ((with_reducible refine gate_callee (f := 37) rfl ?_); refine gL (some 21) Tryz.func37 #[.agg #[.slice (some ad138) l0_0.length c0_0]] ?_; (with_reducible refine (impl_Matrix_size.calls _ _ l0_0 t139 _ (cQ (Kd.C_below HR0_0.out HB.out)) HC0_0.out A14.out).mono ?_); rintro e w27 ⟨rfl, hb⟩; refine ⟨_, rfl, ?_⟩; have _ := aM (blk_below (qQ BK136) hb); have _ := aM (below_step bq hb); clear BK136 HB; rename_i BK136 HB; (try clear hb); (try clear hb2); (try clear hk); (try clear hi)) | (go_at_call 53; (with_reducible refine (impl_allWithin.calls k1 _ _ (rd_L2 l0_0 x13_1) 0 12 true _ (cQ (Kd.C_below HR138_0.out HB.out)) HC138_0.out A16.out).mono ?_); rintro e w' ⟨rfl, ⟨nd, rfl⟩⟩; obtain ⟨i028, hi028, _, hsz28, _⟩ := info_parts info3; obtain ⟨hcut28, hA28, hC28⟩ := print_take_of (P := Tryz.prog) (Value.int .i64) 0 24 3 .i64 Tryz.underlying24 hi028 hsz28 A138_0 c138_0 (rd_L2 l0_0 x13_1) x13_1 (odt) (odt) HC138_0.out; have HR141 := aM (Kd.C_of_reads (h1 := fun _ => rfl) (hA28 _ (Kd.reads_of_C HR138_0.out))); have HC141 := aM hC28; clear hA28 hC28 hi028 hsz28) | (go_at_call 54; (refine calls_of_args (args' := #[.slice A138_0 ((rd_L2 l0_0 x13_1).take (x13_1 : Int).toNat).length c138_0, .func (.func 55) #[] #[]]) ?argeq ?_); (case argeq => rw [List.length_take, Nat.min_eq_left (by have h_ : x13_1 ≤ ((rd_L2 l0_0 x13_1).length : Int) := odt; omega)]); (with_reducible refine (slices_ContainsFunc_int_int.calls _ _ ((rd_L2 l0_0 x13_1).take (x13_1 : Int).toNat)  false _ ?side1 ?side2 A20.out).mono ?_); (case side1 => repeat (first | exact (Kd.C_below HR141.out bq) | (with_reducible refine Kd.C_alloc ?_ _) | (with_reducible refine Kd.C_drewN ?_ _) | (with_reducible refine Kd.C_drew ?_))); (case side2 => exact HC141.out); rintro e w29 ⟨rfl, hb⟩; have _ := aM (blk_below (qQ BK136) hb); have _ := aM (below_step bq hb); clear BK136 HB; rename_i BK136 HB; (try clear hb); (try clear hb2); (try clear hk); (try clear hi)))
        go_roundg k1
        case measure => have := HK1.out; omega
        case rel => exact ⟨(wrap64 (x13_1 + 1)), eR, H', ⟨by have := HK1.out; omega⟩, ⟨qQ BK136⟩, ⟨bq⟩⟩
      ·replace c17 := Bool.eq_false_iff.mpr c17
       subst c17
       have H1 : (some false) = some r := by rw [if_neg (show ¬ (false = true) by decide)] at H; exact H
       clear H
       have H := H1
       clear H1
       obtain rfl := Option.some.inj H
       have p138 : 0 ≤ (x13_1 : Int) := odt
       have q138 : x13_1 < (l0_0.length : Int) := odt
       obtain ⟨ad138, A138_0, c138_0, e138, hx138_0, hl138_0, hi138_0⟩ := at_L2 HR0_0.out x13_1 p138 q138
       cases e138
       replace hx138_0 := (HB.out.cell (World.block_lt_of_cell? w _ hx138_0)).trans hx138_0
       have HR138_0 := aM hi138_0
       have HC138_0 := aM hl138_0
       clear hi138_0 hl138_0
       replace p138 := eq_true p138
       replace q138 := eq_true q138
       have hcz30_0 := c10 BK136
       have hfz30_0 := blk_frozen BK136.out 0
       go_wp2_with (first | ((with_reducible refine gate_callee (f := 37) rfl ?_); refine gL (some 21) Tryz.func37 #[.agg #[.slice (some ad138) l0_0.length c0_0]] ?_; (with_reducible refine (impl_Matrix_size.calls _ _ l0_0 t139 _ (cQ (Kd.C_below HR0_0.out HB.out)) HC0_0.out A14.out).mono ?_); rintro e w31 ⟨rfl, hb⟩; refine ⟨_, rfl, ?_⟩; have _ := aM (blk_below (qQ BK136) hb); have _ := aM (below_step bq hb); clear BK136 HB; rename_i BK136 HB; (try clear hb); (try clear hb2); (try clear hk); (try clear hi)) | (go_at_call 53; (with_reducible refine (impl_allWithin.calls k1 _ _ (rd_L2 l0_0 x13_1) 0 12 false _ (cQ (Kd.C_below HR138_0.out HB.out)) HC138_0.out A16.out).mono ?_); rintro e w' ⟨rfl, ⟨nd, rfl⟩⟩))
       go_ret
       exact ⟨eE, bq⟩
     ·rw [if_neg c15] at H
      have c15b0 : (((rd_L2 l0_0 x13_1).length : Int) == t139) = false := beq_eq_false_iff_ne.mpr c15
      have c15b1 : (((rd_L2 l0_0 x13_1).length : Int) != t139) = true := bne_iff_ne.mpr c15
      obtain rfl := Option.some.inj H
      have p138 : 0 ≤ (x13_1 : Int) := odt
      have q138 : x13_1 < (l0_0.length : Int) := odt
      obtain ⟨ad138, A138_0, c138_0, e138, hx138_0, hl138_0, hi138_0⟩ := at_L2 HR0_0.out x13_1 p138 q138
      cases e138
      replace hx138_0 := (HB.out.cell (World.block_lt_of_cell? w _ hx138_0)).trans hx138_0
      have HR138_0 := aM hi138_0
      have HC138_0 := aM hl138_0
      clear hi138_0 hl138_0
      replace p138 := eq_true p138
      replace q138 := eq_true q138
      have hcz32_0 := c10 BK136
      have hfz32_0 := blk_frozen BK136.out 0
      go_wp2_with (first | ((with_reducible refine gate_callee (f := 37) rfl ?_); refine gL (some 21) Tryz.func37 #[.agg #[.slice (some ad138) l0_0.length c0_0]] ?_; (with_reducible refine (impl_Matrix_size.calls _ _ l0_0 t139 _ (cQ (Kd.C_below HR0_0.out HB.out)) HC0_0.out A14.out).mono ?_); rintro e w33 ⟨rfl, hb⟩; refine ⟨_, rfl, ?_⟩; have _ := aM (blk_below (qQ BK136) hb); have _ := aM (below_step bq hb); clear BK136 HB; rename_i BK136 HB; (try clear hb); (try clear hb2); (try clear hk); (try clear hi)))
      go_ret
      exact ⟨eE, bq⟩
    ·rw [if_neg c11] at H
     have c11b0 := decide_eq_false c11
     clear c11
     replace H := bS H
     obtain ⟨⟨t143, t146⟩, A34, H⟩ := H
     try dsimp only at H
     replace H := bS H
     obtain ⟨t149, A35, H⟩ := H
     try dsimp only at H
     by_cases c36 : t149 = true
     ·subst c36
      have H1 : (some false) = some r := by rw [if_pos rfl] at H; exact H
      clear H
      have H := H1
      clear H1
      obtain rfl := Option.some.inj H
      have hcz37_0 := c10 BK136
      have hfz37_0 := blk_frozen BK136.out 0
      go_wp2_with (first | ((with_reducible refine gate_callee (f := 42) rfl ?_); refine gL (some 37) Tryz.func42 #[.agg #[.slice A0_0 l0_0.length c0_0]] ?_; (with_reducible refine (impl_Matrix_sums.calls k1 _ _ l0_0 t143 t146 _ (cQ (Kd.C_below HR0_0.out HB.out)) HC0_0.out A34.out).mono ?_); rintro e w38 ⟨v144, v147, rfl, ho0, ho1, hb⟩; refine ⟨_, rfl, ?_⟩; have _ := aM (Kd.R_lower ho0 (below_size bq)); have _ := aM (Kd.R_lower ho1 (below_size bq)); have _ := aM (blk_below (qQ BK136) hb); have _ := aM (below_step bq hb); clear BK136 HB; rename_i HO145 HO148 BK136 HB; (try clear hb); (try clear hb2); (try clear hk); (try clear hi); (try clear ho0); (try clear ho1); obtain ⟨Ao39, co39, eo39⟩ := Kd.R_slice HO145.out; subst eo39) | ((with_reducible refine gate_callee (f := 56) rfl ?_); refine gL (some 41) Tryz.func56 #[.slice Ao39 t143.length co39, .int .i64 0] ?_; (with_reducible refine (slices_Contains_int_int.calls k1 _ _ t143 0 true _ (cQ ((Kd.R_reads' HO145.out).2.2)) ((Kd.R_reads' HO145.out).2.1) A35.out).mono ?_); rintro e w' ⟨rfl, ⟨nd, rfl⟩⟩; refine ⟨_, rfl, ?_⟩))
      go_ret
      exact ⟨eE, bq⟩
     ·replace c36 := Bool.eq_false_iff.mpr c36
      subst c36
      have H1 : ((slices_Contains_int_int.f k1 t146 0).bind fun t150 => (if t150 = true then (some false) else ((impl_Matrix_sum.f k1 l0_0).bind fun t151 => (some (decide (t151 ≤ 12)))))) = some r := by rw [if_neg (show ¬ (false = true) by decide)] at H; exact H
      clear H
      have H := H1
      clear H1
      replace H := bS H
      obtain ⟨t150, A40, H⟩ := H
      try dsimp only at H
      by_cases c41 : t150 = true
      ·subst c41
       have H1 : (some false) = some r := by rw [if_pos rfl] at H; exact H
       clear H
       have H := H1
       clear H1
       obtain rfl := Option.some.inj H
       have hcz42_0 := c10 BK136
       have hfz42_0 := blk_frozen BK136.out 0
       go_wp2_with (first | ((with_reducible refine gate_callee (f := 42) rfl ?_); refine gL (some 37) Tryz.func42 #[.agg #[.slice A0_0 l0_0.length c0_0]] ?_; (with_reducible refine (impl_Matrix_sums.calls k1 _ _ l0_0 t143 t146 _ (cQ (Kd.C_below HR0_0.out HB.out)) HC0_0.out A34.out).mono ?_); rintro e w43 ⟨v144, v147, rfl, ho0, ho1, hb⟩; refine ⟨_, rfl, ?_⟩; have _ := aM (Kd.R_lower ho0 (below_size bq)); have _ := aM (Kd.R_lower ho1 (below_size bq)); have _ := aM (blk_below (qQ BK136) hb); have _ := aM (below_step bq hb); clear BK136 HB; rename_i HO145 HO148 BK136 HB; (try clear hb); (try clear hb2); (try clear hk); (try clear hi); (try clear ho0); (try clear ho1); obtain ⟨Ao44, co44, eo44⟩ := Kd.R_slice HO145.out; subst eo44) | ((with_reducible refine gate_callee (f := 56) rfl ?_); refine gL (some 41) Tryz.func56 #[.slice Ao44 t143.length co44, .int .i64 0] ?_; (with_reducible refine (slices_Contains_int_int.calls k1 _ _ t143 0 false _ (cQ ((Kd.R_reads' HO145.out).2.2)) ((Kd.R_reads' HO145.out).2.1) A35.out).mono ?_); rintro e w' ⟨rfl, ⟨nd, rfl⟩⟩; refine ⟨_, rfl, ?_⟩; obtain ⟨Ao45, co45, eo45⟩ := Kd.R_slice HO148.out; subst eo45) | (go_at_call 56; (with_reducible refine (slices_Contains_int_int.calls k1 _ _ t146 0 true _ (cQ ((Kd.R_reads' HO148.out).2.2)) ((Kd.R_reads' HO148.out).2.1) A40.out).mono ?_); rintro e w' ⟨rfl, ⟨nd, rfl⟩⟩))
       go_ret
       exact ⟨eE, bq⟩
      ·replace c41 := Bool.eq_false_iff.mpr c41
       subst c41
       have H1 : ((impl_Matrix_sum.f k1 l0_0).bind fun t151 => (some (decide (t151 ≤ 12)))) = some r := by rw [if_neg (show ¬ (false = true) by decide)] at H; exact H
       clear H
       have H := H1
       clear H1
       replace H := bS H
       obtain ⟨t151, A46, H⟩ := H
       try dsimp only at H
       obtain rfl := Option.some.inj H
       have hcz47_0 := c10 BK136
       have hfz47_0 := blk_frozen BK136.out 0
       go_wp2_with (first | ((with_reducible refine gate_callee (f := 42) rfl ?_); refine gL (some 37) Tryz.func42 #[.agg #[.slice A0_0 l0_0.length c0_0]] ?_; (with_reducible refine (impl_Matrix_sums.calls k1 _ _ l0_0 t143 t146 _ (cQ (Kd.C_below HR0_0.out HB.out)) HC0_0.out A34.out).mono ?_); rintro e w48 ⟨v144, v147, rfl, ho0, ho1, hb⟩; refine ⟨_, rfl, ?_⟩; have _ := aM (Kd.R_lower ho0 (below_size bq)); have _ := aM (Kd.R_lower ho1 (below_size bq)); have _ := aM (blk_below (qQ BK136) hb); have _ := aM (below_step bq hb); clear BK136 HB; rename_i HO145 HO148 BK136 HB; (try clear hb); (try clear hb2); (try clear hk); (try clear hi); (try clear ho0); (try clear ho1); obtain ⟨Ao49, co49, eo49⟩ := Kd.R_slice HO145.out; subst eo49) | ((with_reducible refine gate_callee (f := 56) rfl ?_); refine gL (some 41) Tryz.func56 #[.slice Ao49 t143.length co49, .int .i64 0] ?_; (with_reducible refine (slices_Contains_int_int.calls k1 _ _ t143 0 false _ (cQ ((Kd.R_reads' HO145.out).2.2)) ((Kd.R_reads' HO145.out).2.1) A35.out).mono ?_); rintro e w' ⟨rfl, ⟨nd, rfl⟩⟩; refine ⟨_, rfl, ?_⟩; obtain ⟨Ao50, co50, eo50⟩ := Kd.R_slice HO148.out; subst eo50) | (go_at_call 56; (with_reducible refine (slices_Contains_int_int.calls k1 _ _ t146 0 false _ (cQ ((Kd.R_reads' HO148.out).2.2)) ((Kd.R_reads' HO148.out).2.1) A40.out).mono ?_); rintro e w' ⟨rfl, ⟨nd, rfl⟩⟩; have hcz51_0 := c10 BK136; have hfz51_0 := blk_frozen BK136.out 0) | (go_at_call 44; (with_reducible refine (impl_Matrix_sum.calls k1 _ _ l0_0 t151 _ (cQ (Kd.C_below HR0_0.out bq)) HC0_0.out A46.out).mono ?_); rintro e w52 ⟨rfl, hb⟩; have _ := aM (Kd.R_below (rQ HO145) hb); have _ := aM (Kd.R_below (rQ HO148) hb); have _ := aM (blk_below (qQ BK136) hb); have _ := aM (below_step bq hb); clear HO145 HO148 BK136 HB; rename_i HO145 HO148 BK136 HB; (try clear hb); (try clear hb2); (try clear hk); (try clear hi)))
       go_ret
       exact ⟨eE, bq⟩

def slices_Clone_int_int.f (l0 : List Int) : Option (List Int) := if l0.length < 17592186044416 then some l0 else none
set_option maxHeartbeats 8000000 in
set_option maxRecDepth 100000 in
theorem slices_Clone_int_int.calls (A0 : Option Addr) (c0 : Nat) (l0 : List Int) (r : List Int) (w : World) (hr0 : Kd.C (Kd.int .i64) w A0 l0.length l0) (hc0 : l0.length ≤ c0) (h : slices_Clone_int_int.f l0 = some r) :
    Calls Tryz.prog 100 #[.slice A0 l0.length c0] w fun e w' => ∃ v0_ : Value, e = .returned (v0_) ∧ Kd.R (Kd.int .i64) 3 w' w.heap.size (fun _ => True) v0_ r ∧ Below w.heap.size w w' := by
 have HB := aM (Below.refl w.heap.size w)
 unfold slices_Clone_int_int.f at h
 by_cases c2 : l0.length < 17592186044416
 · {
 rw [if_pos c2] at h
 obtain rfl := Option.some.inj h
 clear h
 have LMc2 := aM c2
 clear c2
 cases A0 with
 | none => {
 have hn : l0.length = 0 := by {
 rcases Nat.eq_zero_or_pos l0.length with h0 | h0
 · exact h0
 · {
 obtain ⟨ad, he, _⟩ := hr0.2.2 h0
 cases he}}
 obtain rfl : l0 = [] := List.eq_nil_of_length_eq_zero hn
 clear hn hr0 hc0
 have q1 : ∀ (W : World) (n c n' c' : Nat), (binOp .eql 24 (.slice none n c) (.slice none n' c')).run Tryz.prog W = .ok (.bool true) W := fun W n c n' c' => Go.Lib.run_eql_slice_nil W _ _ none n c n' c' Tryz.underlying24
 go_enter Tryz.func100, Tryz.ntmps100
 go_wp2
 go_ret
 exact ⟨_, rfl, Kd.R_nil _ _ _ _ _, by repeat (first | (with_reducible first | exact HB.out | apply below_alloc | apply pw_below_drewN | apply below_drew1) | exact HB.out)⟩}
 | some ad0 => {
 have HR0 := aM hr0
 have HC0 := aM hc0
 clear hr0 hc0
 obtain ⟨y580, hy580⟩ : ∃ y_ : List Int, y_ = (([] : List Int)) := ⟨_, rfl⟩
 have Ny580 := aM hy580
 clear hy580
 obtain ⟨y583, hy583⟩ : ∃ y_ : List Int, y_ = (y580 ++ l0) := ⟨_, rfl⟩
 have Ny583 := aM hy583
 clear hy583
 have q1 : ∀ (W : World) (n c n' c' : Nat), (binOp .eql 24 (.slice (some ad0) n c) (.slice none n' c')).run Tryz.prog W = .ok (.bool false) W := fun W n c n' c' => Go.Lib.run_eql_slice_nil W _ _ (some ad0) n c n' c' Tryz.underlying24
 have E583 : Aside0 (y583 = l0) := ⟨by rw [Ny583.out, Ny580.out]; rfl⟩
 go_enter Tryz.func100, Tryz.ntmps100
 go_wp2_with (first | ((with_reducible refine gate_dst (N := 5) rfl ?_); refine Kd.R_lit (Kd.int .i64) _ 3 ?hg (N := 5) ?hd (xs := ([] : List Int)) (inner := []) (ok := fun _ => True) (okp := fun _ => True) ?hr ?hp (fun _ hk => hk) trivial (Below.refl _ _) (Nat.le_refl _) (by simp) ?_; (case hd => rfl); (case hg => rfl); (case hr => first | (go_simp; done) | (go_simp; rfl)); (case hp => exact (Reps.none _ _)); intro v581 w3 ho4 hb hg_ hnew_; clear hg_ hnew_; (first | rw [← Ny580.out] at ho4 | (simp only [Int.reduceToNat] at ho4; rw [← Ny580.out] at ho4)); have _ := aM (Kd.R_lower ho4 (below_size (by repeat (first | (with_reducible first | exact HB.out | apply below_alloc | apply pw_below_drewN | apply below_drew1) | exact HB.out)))); have _ := aM (below_step (by repeat (first | (with_reducible first | exact HB.out | apply below_alloc | apply pw_below_drewN | apply below_drew1) | exact HB.out)) hb); clear HB; rename_i HO582 HB; clear hb ho4) | ((with_reducible refine gate_builtin (b := .append) (xs := #[.tmp 5, .tmp 6]) rfl ?_); at_builtin; refine Kd.R_append_rows (Kd.int .i64) (w0 := w) w.heap.size rfl (.tmp 5) (.tmp 6) 24 3 (.int .i64 0) 8 rfl Tryz.underlying24 info3 rfl (by decide) (by omega) v581 y580 l0 _ _ _ (fun _ => True) (fun _ => False) rfl rfl ?aO ?aR (fun _ _ h => h) (fun _ h => h.elim) ?aF ?aB ?aS ?aL ?_; (case aR => repeat (first | exact (Kd.C_below HR0.out HB.out) | (with_reducible refine Kd.C_alloc ?_ _) | (with_reducible refine Kd.C_drewN ?_ _) | (with_reducible refine Kd.C_drew ?_))); (case aB => exact (by repeat (first | (with_reducible first | exact HB.out | apply below_alloc | apply pw_below_drewN | apply below_drew1) | exact HB.out))); (case aF => exact (fun _ _ => trivial)); (case aO => exact (by (with_reducible repeat (first | apply Kd.R_alloc | apply Kd.R_drewN | apply Kd.R_drew)); exact HO582.out)); (case aS => exact (below_size (by repeat (first | (with_reducible first | exact HB.out | apply below_alloc | apply pw_below_drewN | apply below_drew1) | exact HB.out)))); (case aL => have := LMc2.out; have := Ny580.out; simp_all; omega); intro v584 w5 ho hb hg hat; rw [← Ny583.out] at ho; have _ := aM (hb); have _ := aM (ho); clear HB HO582; rename_i HB HO585; clear ho hb hg hat))
 go_ret
 exact ⟨_, rfl, by (with_reducible repeat (first | apply Kd.R_alloc | apply Kd.R_drewN | apply Kd.R_drew)); (have := HO585.out; rw [E583.out] at this; exact this), by repeat (first | (with_reducible first | exact HB.out | apply below_alloc | apply pw_below_drewN | apply below_drew1) | exact HB.out)⟩}}
 · {
 rw [if_neg c2] at h
 exact absurd h (by simp)}
end Go.Proofs.YtcodionjhcmfhaaGreatDoor.Ax
