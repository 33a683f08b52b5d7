-- Written by hook.py (wip/), over the kit's print.py.
import Derived.Test.YtjmmleofnjcjoaaGreatDoorDu2
import Derived.Test.YtjmmleofnjcjoaaGreatDoorDu10
import Derived.Test.YtjmmleofnjcjoaaGreatDoorDu24
import Derived.Test.YtjmmleofnjcjoaaGreatDoorDuXSq
import Derived.Test.YtjmmleofnjcjoaaGreatDoorDu12
namespace Go.Proofs.YtjmmleofnjcjoaaGreatDoor.Du
open Go.RowKit Go.Proofs.YtjmmleofnjcjoaaGreatDoorW.PrintWords Go.Proofs.YtjmmleofnjcjoaaGreatDoorW.PrintLast Go.Proofs.YtjmmleofnjcjoaaGreatDoorW.PrintMore Go.Proofs.YtjmmleofnjcjoaaGreatDoor.Sq
attribute [local go_sem] max2_int min2_int max_two min_two max_three min_three max_four min_four
set_option linter.unusedVariables false
set_option linter.unusedSimpArgs false
def Y33.l0 : Nat → List (List Int) → Int → Int → List (List Int) → Option (Bool)
 | 0, _, _, _, _ => none
 | k + 1, x11, x12, x13, x559000 => if x13 < x12 then (if 0 ≤ x13 then (if x13 < (x11.length : Int) then ((Y32.f x559000).bind fun t561 => (if ((rd_L4 x11 x13).length : Int) = t561 then ((Y24.f k (rd_L4 x11 x13) 0 12).bind fun t562 => (if t562 = true then (if x13 ≤ ((rd_L4 x11 x13).length : Int) then ((slices_ContainsFunc_int_int.f ((rd_L4 x11 x13).take (x13 : Int).toNat)).bind fun t564 => (if t564 = true then (some false) else (Y33.l0 k x11 x12 (wrap64 (x13 + 1)) x559000))) else (none)) else (some false))) else (some false))) else (none)) else (none)) else ((Y10.f k x559000).bind fun bt565 => ((slices_Contains_int_int.f k bt565.1 0).bind fun t571 => (if t571 = true then (some false) else ((slices_Contains_int_int.f k bt565.2 0).bind fun t572 => (if t572 = true then (some false) else ((Y40.f k x559000).bind fun t573 => (some (decide (t573 ≤ 12)))))))))
def Y33.f (k : Nat) (l0_0 : List (List Int)) : Option (Bool) := (Y32.f l0_0).bind fun t559 => (if t559 > 12 then (some false) else (Y33.l0 k l0_0 (l0_0.length : Int) 0 l0_0))
set_option maxHeartbeats 8000000 in
set_option maxRecDepth 100000 in
theorem Y33.calls (k : Nat) (A0_0 : Option Addr) (c0_0 : Nat) (l0_0 : List (List Int)) (r : Bool) (w : World) (hr0_0 : Kd.C (Kd.slice 3 (Kd.int .i64)) w A0_0 l0_0.length l0_0) (hc0_0 : l0_0.length ≤ c0_0) (h : Y33.f k l0_0 = some r) :
  Calls Tryz.prog 81 #[.agg #[.slice A0_0 l0_0.length c0_0]] w fun e w' => e = .returned (.bool r) ∧ Below w.heap.size w w' := by
 have hu41 := Tryz.underlying41
 have HR0_0 := aM hr0_0
 have HC0_0 := aM hc0_0
 clear hr0_0 hc0_0
 have HB := aM (Below.refl w.heap.size w)
 unfold Y33.f at h
 have H := h
 clear h
 replace H := bS H
 obtain ⟨t559, A2, H⟩ := H
 try dsimp only at H
 by_cases c3 : t559 > 12
 ·rw [if_pos c3] at H
  have c3b0 := decide_eq_true c3
  clear c3
  obtain rfl := Option.some.inj H
  go_enter Tryz.func81, Tryz.ntmps81
  go_wp2_with (first | ((with_reducible refine gate_dst (N := 1) rfl ?_); refine bF 1 41 #[.slice A0_0 l0_0.length c0_0] bq ?_; intro gb558 w4 hg hb _ _ _ _; clear HB; rename_i HB BK558 GW558 GE558; clear hb hg; have hcz5_0 := zc10 BK558; have hfz5_0 := blk_frozen BK558.out 0) | ((with_reducible refine gate_callee (f := 82) rfl ?_); refine gL (some 8) Tryz.func82 #[.agg #[.slice A0_0 l0_0.length c0_0]] ?_; (with_reducible refine (Y32.calls _ _ l0_0 t559 _ (cQ (Kd.C_below HR0_0.out HB.out)) HC0_0.out A2.out).mono ?_); rintro e w6 ⟨rfl, hb⟩; refine ⟨_, rfl, ?_⟩; have _ := bK BK558 hb; have _ := bB hb; clear BK558 HB; rename_i BK558 HB; (try clear hb)))
  go_ret
  exact ⟨eE, bq⟩
 ·rw [if_neg c3] at H
  have c3b0 := decide_eq_false c3
  clear c3
  have H' := aM H
  clear H
  go_enter Tryz.func81, Tryz.ntmps81
  go_wp2_with (first | ((with_reducible refine gate_dst (N := 1) rfl ?_); refine bF 1 41 #[.slice A0_0 l0_0.length c0_0] bq ?_; intro gb558 w7 hg hb _ _ _ _; clear HB; rename_i HB BK558 GW558 GE558; clear hb hg; have hcz8_0 := zc10 BK558; have hfz8_0 := blk_frozen BK558.out 0) | ((with_reducible refine gate_callee (f := 82) rfl ?_); refine gL (some 8) Tryz.func82 #[.agg #[.slice A0_0 l0_0.length c0_0]] ?_; (with_reducible refine (Y32.calls _ _ l0_0 t559 _ (cQ (Kd.C_below HR0_0.out HB.out)) HC0_0.out A2.out).mono ?_); rintro e w9 ⟨rfl, hb⟩; refine ⟨_, rfl, ?_⟩; have _ := bK BK558 hb; have _ := bB hb; clear BK558 HB; rename_i BK558 HB; (try clear hb); have hcz10_0 := zc10 BK558; have hfz10_0 := blk_frozen BK558.out 0))
  go_loopg [13] k (fun kq v13 w' => ∃ (x13_1 : Int), v13 = .int .i64 x13_1 ∧ Aside0 (Y33.l0 kq l0_0 (l0_0.length : Int) x13_1 l0_0 = some r) ∧ Aside0 (kq ≤ k) ∧ Aside0 (w'.heap[gb558]? = some (.cells #[(.slice A0_0 l0_0.length c0_0)] 41 (0, 0))) ∧ Aside0 (Below w.heap.size w w'))
  case atStart => exact ⟨(0), eR, H', ⟨Nat.le_refl _⟩, ⟨qQ BK558⟩, ⟨bq⟩⟩
  case round =>
   clear H'
   try clear c3
   try clear c3b0
   try clear hcz10_0
   try clear hcz5_0
   try clear hcz8_0
   try clear hfz10_0
   try clear hfz5_0
   try clear hfz8_0
   obtain ⟨x13_1, rfl, HA, HK1, BK558, HB⟩ := hrel
   cases gk with
   | zero => exact absurd HA.out (by simp [Y33.l0])
   | succ k1 =>
    have H := HA.out
    clear HA
    simp only [Y33.l0] at H
    by_cases c11 : x13_1 < (l0_0.length : Int)
    ·rw [if_pos c11] at H
     have c11b0 := decide_eq_true c11
     clear c11
     replace H := iD2 H
     obtain ⟨c12b0, c13b0, H⟩ := H
     replace H := bS H
     obtain ⟨t561, A14, H⟩ := H
     try dsimp only at H
     by_cases c15 : ((rd_L4 l0_0 x13_1).length : Int) = t561
     ·rw [if_pos c15] at H
      have c15b0 : (((rd_L4 l0_0 x13_1).length : Int) == t561) = true := beq_iff_eq.mpr c15
      have c15b1 : (((rd_L4 l0_0 x13_1).length : Int) != t561) = false := bne_eq_false_iff_eq.mpr c15
      clear c15
      replace H := bS H
      obtain ⟨t562, A16, H⟩ := H
      try dsimp only at H
      by_cases c17 : t562 = true
      ·subst c17
       have H1 : (if x13_1 ≤ ((rd_L4 l0_0 x13_1).length : Int) then ((slices_ContainsFunc_int_int.f ((rd_L4 l0_0 x13_1).take (x13_1 : Int).toNat)).bind fun t564 => (if t564 = true then (some false) else (Y33.l0 k1 l0_0 (l0_0.length : Int) (wrap64 (x13_1 + 1)) l0_0))) else (none)) = some r := by rw [if_pos rfl] at H; exact H
       clear H
       have H := H1
       clear H1
       have c18b0 := eq_true (odt : 0 ≤ x13_1)
       replace H := iS H
       obtain ⟨c19, H⟩ := H
       have c19b0 := eq_true c19
       have c19b1 := decide_eq_true c19
       clear c19
       replace H := bS H
       obtain ⟨t564, A20, H⟩ := H
       try dsimp only at H
       by_cases c21 : t564 = true
       ·subst c21
        have H1 : (some false) = some r := by rw [if_pos rfl] at H; exact H
        clear H
        have H := H1
        clear H1
        obtain rfl := Option.some.inj H
        have p560 : 0 ≤ (x13_1 : Int) := odt
        have q560 : x13_1 < (l0_0.length : Int) := odt
        obtain ⟨ad560, A560_0, c560_0, e560, hx560_0, hl560_0, hi560_0⟩ := at_L4 HR0_0.out x13_1 p560 q560
        cases e560
        replace hx560_0 := (HB.out.cell (World.block_lt_of_cell? w _ hx560_0)).trans hx560_0
        have HR560_0 := aM hi560_0
        have HC560_0 := aM hl560_0
        clear hi560_0 hl560_0
        replace p560 := eq_true p560
        replace q560 := eq_true q560
        have hcz22_0 := zc10 BK558
        have hfz22_0 := blk_frozen BK558.out 0
        go_wp2_with (first | ((with_reducible refine gate_callee (f := 82) rfl ?_); refine gL (some 21) Tryz.func82 #[.agg #[.slice (some ad560) l0_0.length c0_0]] ?_; (with_reducible refine (Y32.calls _ _ l0_0 t561 _ (cQ (Kd.C_below HR0_0.out HB.out)) HC0_0.out A14.out).mono ?_); rintro e w23 ⟨rfl, hb⟩; refine ⟨_, rfl, ?_⟩; have _ := bK BK558 hb; have _ := bB hb; clear BK558 HB; rename_i BK558 HB; (try clear hb)) | (go_at_call 102; (with_reducible refine (Y24.calls k1 _ _ (rd_L4 l0_0 x13_1) 0 12 true _ (cQ (Kd.C_below HR560_0.out HB.out)) HC560_0.out A16.out).mono ?_); rintro e w' ⟨rfl, ⟨nd, rfl⟩⟩; obtain ⟨i024, hi024, _, hsz24, _⟩ := info_parts info3; obtain ⟨hcut24, hA24, hC24⟩ := print_take_of (P := Tryz.prog) (Value.int .i64) 0 24 3 .i64 Tryz.underlying24 hi024 hsz24 A560_0 c560_0 (rd_L4 l0_0 x13_1) x13_1 (odt) (odt) HC560_0.out; have HR563 := aM (Kd.C_of_reads (h1 := fun _ => rfl) (hA24 _ (Kd.reads_of_C HR560_0.out))); have HC563 := aM hC24; clear hA24 hC24 hi024 hsz24) | (go_at_call 167; (refine calls_of_args (args' := #[.slice A560_0 ((rd_L4 l0_0 x13_1).take (x13_1 : Int).toNat).length c560_0, .func (.func 168) #[] #[]]) ?argeq ?_); (case argeq => rw [List.length_take, Nat.min_eq_left (by have h_ : x13_1 ≤ ((rd_L4 l0_0 x13_1).length : Int) := odt; omega)]); (with_reducible refine (slices_ContainsFunc_int_int.calls _ _ ((rd_L4 l0_0 x13_1).take (x13_1 : Int).toNat)  true _ ?side1 ?side2 A20.out).mono ?_); (case side1 => exact cQ (Kd.C_below HR563.out bq)); (case side2 => exact HC563.out); rintro e w25 ⟨rfl, hb⟩; have _ := bK BK558 hb; have _ := bB hb; clear BK558 HB; rename_i BK558 HB; (try clear hb)))
        go_ret
        exact ⟨eE, bq⟩
       ·replace c21 := Bool.eq_false_iff.mpr c21
        subst c21
        have H1 : (Y33.l0 k1 l0_0 (l0_0.length : Int) (wrap64 (x13_1 + 1)) l0_0) = some r := by rw [if_neg (show ¬ (false = true) by decide)] at H; exact H
        clear H
        have H := H1
        clear H1
        have H' := aM H
        clear H
        have p560 : 0 ≤ (x13_1 : Int) := odt
        have q560 : x13_1 < (l0_0.length : Int) := odt
        obtain ⟨ad560, A560_0, c560_0, e560, hx560_0, hl560_0, hi560_0⟩ := at_L4 HR0_0.out x13_1 p560 q560
        cases e560
        replace hx560_0 := (HB.out.cell (World.block_lt_of_cell? w _ hx560_0)).trans hx560_0
        have HR560_0 := aM hi560_0
        have HC560_0 := aM hl560_0
        clear hi560_0 hl560_0
        replace p560 := eq_true p560
        replace q560 := eq_true q560
        have hcz26_0 := zc10 BK558
        have hfz26_0 := blk_frozen BK558.out 0
        go_wp2_with (first | ((with_reducible refine gate_callee (f := 82) rfl ?_); refine gL (some 21) Tryz.func82 #[.agg #[.slice (some ad560) l0_0.length c0_0]] ?_; (with_reducible refine (Y32.calls _ _ l0_0 t561 _ (cQ (Kd.C_below HR0_0.out HB.out)) HC0_0.out A14.out).mono ?_); rintro e w27 ⟨rfl, hb⟩; refine ⟨_, rfl, ?_⟩; have _ := bK BK558 hb; have _ := bB hb; clear BK558 HB; rename_i BK558 HB; (try clear hb)) | (go_at_call 102; (with_reducible refine (Y24.calls k1 _ _ (rd_L4 l0_0 x13_1) 0 12 true _ (cQ (Kd.C_below HR560_0.out HB.out)) HC560_0.out A16.out).mono ?_); rintro e w' ⟨rfl, ⟨nd, rfl⟩⟩; obtain ⟨i028, hi028, _, hsz28, _⟩ := info_parts info3; obtain ⟨hcut28, hA28, hC28⟩ := print_take_of (P := Tryz.prog) (Value.int .i64) 0 24 3 .i64 Tryz.underlying24 hi028 hsz28 A560_0 c560_0 (rd_L4 l0_0 x13_1) x13_1 (odt) (odt) HC560_0.out; have HR563 := aM (Kd.C_of_reads (h1 := fun _ => rfl) (hA28 _ (Kd.reads_of_C HR560_0.out))); have HC563 := aM hC28; clear hA28 hC28 hi028 hsz28) | (go_at_call 167; (refine calls_of_args (args' := #[.slice A560_0 ((rd_L4 l0_0 x13_1).take (x13_1 : Int).toNat).length c560_0, .func (.func 168) #[] #[]]) ?argeq ?_); (case argeq => rw [List.length_take, Nat.min_eq_left (by have h_ : x13_1 ≤ ((rd_L4 l0_0 x13_1).length : Int) := odt; omega)]); (with_reducible refine (slices_ContainsFunc_int_int.calls _ _ ((rd_L4 l0_0 x13_1).take (x13_1 : Int).toNat)  false _ ?side1 ?side2 A20.out).mono ?_); (case side1 => exact cQ (Kd.C_below HR563.out bq)); (case side2 => exact HC563.out); rintro e w29 ⟨rfl, hb⟩; have _ := bK BK558 hb; have _ := bB hb; clear BK558 HB; rename_i BK558 HB; (try clear hb)))
        go_roundg k1
        case measure => have := HK1.out; omega
        case rel => exact ⟨(wrap64 (x13_1 + 1)), eR, H', ⟨by have := HK1.out; omega⟩, ⟨qQ BK558⟩, ⟨bq⟩⟩
      ·replace c17 := Bool.eq_false_iff.mpr c17
       subst c17
       have H1 : (some false) = some r := by rw [if_neg (show ¬ (false = true) by decide)] at H; exact H
       clear H
       have H := H1
       clear H1
       obtain rfl := Option.some.inj H
       have p560 : 0 ≤ (x13_1 : Int) := odt
       have q560 : x13_1 < (l0_0.length : Int) := odt
       obtain ⟨ad560, A560_0, c560_0, e560, hx560_0, hl560_0, hi560_0⟩ := at_L4 HR0_0.out x13_1 p560 q560
       cases e560
       replace hx560_0 := (HB.out.cell (World.block_lt_of_cell? w _ hx560_0)).trans hx560_0
       have HR560_0 := aM hi560_0
       have HC560_0 := aM hl560_0
       clear hi560_0 hl560_0
       replace p560 := eq_true p560
       replace q560 := eq_true q560
       have hcz30_0 := zc10 BK558
       have hfz30_0 := blk_frozen BK558.out 0
       go_wp2_with (first | ((with_reducible refine gate_callee (f := 82) rfl ?_); refine gL (some 21) Tryz.func82 #[.agg #[.slice (some ad560) l0_0.length c0_0]] ?_; (with_reducible refine (Y32.calls _ _ l0_0 t561 _ (cQ (Kd.C_below HR0_0.out HB.out)) HC0_0.out A14.out).mono ?_); rintro e w31 ⟨rfl, hb⟩; refine ⟨_, rfl, ?_⟩; have _ := bK BK558 hb; have _ := bB hb; clear BK558 HB; rename_i BK558 HB; (try clear hb)) | (go_at_call 102; (with_reducible refine (Y24.calls k1 _ _ (rd_L4 l0_0 x13_1) 0 12 false _ (cQ (Kd.C_below HR560_0.out HB.out)) HC560_0.out A16.out).mono ?_); rintro e w' ⟨rfl, ⟨nd, rfl⟩⟩))
       go_ret
       exact ⟨eE, bq⟩
     ·rw [if_neg c15] at H
      have c15b0 : (((rd_L4 l0_0 x13_1).length : Int) == t561) = false := beq_eq_false_iff_ne.mpr c15
      have c15b1 : (((rd_L4 l0_0 x13_1).length : Int) != t561) = true := bne_iff_ne.mpr c15
      obtain rfl := Option.some.inj H
      have p560 : 0 ≤ (x13_1 : Int) := odt
      have q560 : x13_1 < (l0_0.length : Int) := odt
      obtain ⟨ad560, A560_0, c560_0, e560, hx560_0, hl560_0, hi560_0⟩ := at_L4 HR0_0.out x13_1 p560 q560
      cases e560
      replace hx560_0 := (HB.out.cell (World.block_lt_of_cell? w _ hx560_0)).trans hx560_0
      have HR560_0 := aM hi560_0
      have HC560_0 := aM hl560_0
      clear hi560_0 hl560_0
      replace p560 := eq_true p560
      replace q560 := eq_true q560
      have hcz32_0 := zc10 BK558
      have hfz32_0 := blk_frozen BK558.out 0
      go_wp2_with (first | ((with_reducible refine gate_callee (f := 82) rfl ?_); refine gL (some 21) Tryz.func82 #[.agg #[.slice (some ad560) l0_0.length c0_0]] ?_; (with_reducible refine (Y32.calls _ _ l0_0 t561 _ (cQ (Kd.C_below HR0_0.out HB.out)) HC0_0.out A14.out).mono ?_); rintro e w33 ⟨rfl, hb⟩; refine ⟨_, rfl, ?_⟩; have _ := bK BK558 hb; have _ := bB hb; clear BK558 HB; rename_i BK558 HB; (try clear hb)))
      go_ret
      exact ⟨eE, bq⟩
    ·rw [if_neg c11] at H
     have c11b0 := decide_eq_false c11
     clear c11
     replace H := bS H
     obtain ⟨⟨t565, t568⟩, A34, H⟩ := H
     try dsimp only at H
     replace H := bS H
     obtain ⟨t571, A35, H⟩ := H
     try dsimp only at H
     by_cases c36 : t571 = true
     ·subst c36
      have H1 : (some false) = some r := by rw [if_pos rfl] at H; exact H
      clear H
      have H := H1
      clear H1
      obtain rfl := Option.some.inj H
      have hcz37_0 := zc10 BK558
      have hfz37_0 := blk_frozen BK558.out 0
      go_wp2_with (first | ((with_reducible refine gate_callee (f := 86) rfl ?_); refine gL (some 37) Tryz.func86 #[.agg #[.slice A0_0 l0_0.length c0_0]] ?_; (with_reducible refine (Y10.calls k1 _ _ l0_0 t565 t568 _ (cQ (Kd.C_below HR0_0.out HB.out)) HC0_0.out A34.out).mono ?_); rintro e w38 ⟨v566, v569, rfl, ho0, ho1, hb⟩; refine ⟨_, rfl, ?_⟩; have _ := aM (Kd.R_lower ho0 (below_size bq)); have _ := aM (Kd.R_lower ho1 (below_size bq)); have _ := bK BK558 hb; have _ := bB hb; clear BK558 HB; rename_i HO567 HO570 BK558 HB; (try clear hb); (try clear ho0); (try clear ho1); obtain ⟨Ao39, co39, eo39⟩ := Kd.R_slice HO567.out; subst eo39) | ((with_reducible refine gate_callee (f := 162) rfl ?_); refine gL (some 41) Tryz.func162 #[.slice Ao39 t565.length co39, .int .i64 0] ?_; (with_reducible refine (slices_Contains_int_int.calls k1 _ _ t565 0 true _ (cQ ((Kd.R_reads' HO567.out).2.2)) ((Kd.R_reads' HO567.out).2.1) A35.out).mono ?_); rintro e w' ⟨rfl, ⟨nd, rfl⟩⟩; refine ⟨_, rfl, ?_⟩))
      go_ret
      exact ⟨eE, bq⟩
     ·replace c36 := Bool.eq_false_iff.mpr c36
      subst c36
      have H1 : ((slices_Contains_int_int.f k1 t568 0).bind fun t572 => (if t572 = true then (some false) else ((Y40.f k1 l0_0).bind fun t573 => (some (decide (t573 ≤ 12)))))) = some r := by rw [if_neg (show ¬ (false = true) by decide)] at H; exact H
      clear H
      have H := H1
      clear H1
      replace H := bS H
      obtain ⟨t572, A40, H⟩ := H
      try dsimp only at H
      by_cases c41 : t572 = true
      ·subst c41
       have H1 : (some false) = some r := by rw [if_pos rfl] at H; exact H
       clear H
       have H := H1
       clear H1
       obtain rfl := Option.some.inj H
       have hcz42_0 := zc10 BK558
       have hfz42_0 := blk_frozen BK558.out 0
       go_wp2_with (first | ((with_reducible refine gate_callee (f := 86) rfl ?_); refine gL (some 37) Tryz.func86 #[.agg #[.slice A0_0 l0_0.length c0_0]] ?_; (with_reducible refine (Y10.calls k1 _ _ l0_0 t565 t568 _ (cQ (Kd.C_below HR0_0.out HB.out)) HC0_0.out A34.out).mono ?_); rintro e w43 ⟨v566, v569, rfl, ho0, ho1, hb⟩; refine ⟨_, rfl, ?_⟩; have _ := aM (Kd.R_lower ho0 (below_size bq)); have _ := aM (Kd.R_lower ho1 (below_size bq)); have _ := bK BK558 hb; have _ := bB hb; clear BK558 HB; rename_i HO567 HO570 BK558 HB; (try clear hb); (try clear ho0); (try clear ho1); obtain ⟨Ao44, co44, eo44⟩ := Kd.R_slice HO567.out; subst eo44) | ((with_reducible refine gate_callee (f := 162) rfl ?_); refine gL (some 41) Tryz.func162 #[.slice Ao44 t565.length co44, .int .i64 0] ?_; (with_reducible refine (slices_Contains_int_int.calls k1 _ _ t565 0 false _ (cQ ((Kd.R_reads' HO567.out).2.2)) ((Kd.R_reads' HO567.out).2.1) A35.out).mono ?_); rintro e w' ⟨rfl, ⟨nd, rfl⟩⟩; refine ⟨_, rfl, ?_⟩; obtain ⟨Ao45, co45, eo45⟩ := Kd.R_slice HO570.out; subst eo45) | (go_at_call 162; (with_reducible refine (slices_Contains_int_int.calls k1 _ _ t568 0 true _ (cQ ((Kd.R_reads' HO570.out).2.2)) ((Kd.R_reads' HO570.out).2.1) A40.out).mono ?_); rintro e w' ⟨rfl, ⟨nd, rfl⟩⟩))
       go_ret
       exact ⟨eE, bq⟩
      ·replace c41 := Bool.eq_false_iff.mpr c41
       subst c41
       have H1 : ((Y40.f k1 l0_0).bind fun t573 => (some (decide (t573 ≤ 12)))) = some r := by rw [if_neg (show ¬ (false = true) by decide)] at H; exact H
       clear H
       have H := H1
       clear H1
       replace H := bS H
       obtain ⟨t573, A46, H⟩ := H
       try dsimp only at H
       obtain rfl := Option.some.inj H
       have hcz47_0 := zc10 BK558
       have hfz47_0 := blk_frozen BK558.out 0
       go_wp2_with (first | ((with_reducible refine gate_callee (f := 86) rfl ?_); refine gL (some 37) Tryz.func86 #[.agg #[.slice A0_0 l0_0.length c0_0]] ?_; (with_reducible refine (Y10.calls k1 _ _ l0_0 t565 t568 _ (cQ (Kd.C_below HR0_0.out HB.out)) HC0_0.out A34.out).mono ?_); rintro e w48 ⟨v566, v569, rfl, ho0, ho1, hb⟩; refine ⟨_, rfl, ?_⟩; have _ := aM (Kd.R_lower ho0 (below_size bq)); have _ := aM (Kd.R_lower ho1 (below_size bq)); have _ := bK BK558 hb; have _ := bB hb; clear BK558 HB; rename_i HO567 HO570 BK558 HB; (try clear hb); (try clear ho0); (try clear ho1); obtain ⟨Ao49, co49, eo49⟩ := Kd.R_slice HO567.out; subst eo49) | ((with_reducible refine gate_callee (f := 162) rfl ?_); refine gL (some 41) Tryz.func162 #[.slice Ao49 t565.length co49, .int .i64 0] ?_; (with_reducible refine (slices_Contains_int_int.calls k1 _ _ t565 0 false _ (cQ ((Kd.R_reads' HO567.out).2.2)) ((Kd.R_reads' HO567.out).2.1) A35.out).mono ?_); rintro e w' ⟨rfl, ⟨nd, rfl⟩⟩; refine ⟨_, rfl, ?_⟩; obtain ⟨Ao50, co50, eo50⟩ := Kd.R_slice HO570.out; subst eo50) | (go_at_call 162; (with_reducible refine (slices_Contains_int_int.calls k1 _ _ t568 0 false _ (cQ ((Kd.R_reads' HO570.out).2.2)) ((Kd.R_reads' HO570.out).2.1) A40.out).mono ?_); rintro e w' ⟨rfl, ⟨nd, rfl⟩⟩; have hcz51_0 := zc10 BK558; have hfz51_0 := blk_frozen BK558.out 0) | (go_at_call 169; (with_reducible refine (Y40.calls k1 _ _ l0_0 t573 _ (cQ (Kd.C_below HR0_0.out bq)) HC0_0.out A46.out).mono ?_); rintro e w52 ⟨rfl, hb⟩; have _ := aM (Kd.R_below (rQ HO567) hb); have _ := aM (Kd.R_below (rQ HO570) hb); have _ := bK BK558 hb; have _ := bB hb; clear HO567 HO570 BK558 HB; rename_i HO567 HO570 BK558 HB; (try clear hb)))
       go_ret
       exact ⟨eE, bq⟩
end Go.Proofs.YtjmmleofnjcjoaaGreatDoor.Du
namespace Go.Proofs.YtjmmleofnjcjoaaGreatDoor.Du
open Go.RowKit Go.Proofs.YtjmmleofnjcjoaaGreatDoorW.PrintWords Go.Proofs.YtjmmleofnjcjoaaGreatDoorW.PrintLast Go.Proofs.YtjmmleofnjcjoaaGreatDoorW.PrintMore Go.Proofs.YtjmmleofnjcjoaaGreatDoor.Sq
attribute [local go_sem] max2_int min2_int max_two min_two max_three min_three max_four min_four
set_option linter.unusedVariables false
set_option linter.unusedSimpArgs false
set_option maxHeartbeats 8000000
set_option maxRecDepth 100000
mutual
def Y15.l0 : Nat → Int → List (List Int) → Int → Int → List (List Int) → Option ((List (List Int)) × Bool)
 | 0, _, _, _, _, _ => none
 | k + 1, x4, x19, x20, x21, x582000 => if x21 < x20 then (if 0 ≤ x21 then (if x21 < (x19.length : Int) then (Y15.l1 k x4 x21 x19 x20 x21 (rd_L4 x19 x21) ((rd_L4 x19 x21).length : Int) 0 x582000) else (none)) else (none)) else (some (x582000, true))
def Y15.l1 : Nat → Int → Int → List (List Int) → Int → Int → List Int → Int → Int → List (List Int) → Option ((List (List Int)) × Bool)
 | 0, _, _, _, _, _, _, _, _, _ => none
 | k + 1, x4, x6, x19, x20, x21, x26, x27, x28, x582000 => if x28 < x27 then (if 0 ≤ x28 then (if x28 < (x26.length : Int) then (if 0 ≤ (wrap64 ((wrap64 (x4 - 1)) - x28)) then (if (wrap64 ((wrap64 (x4 - 1)) - x28)) < (x582000.length : Int) then (if 0 ≤ (wrap64 ((wrap64 (x4 - 1)) - x6)) then (if (wrap64 ((wrap64 (x4 - 1)) - x6)) < ((rd_L4 x582000 (wrap64 ((wrap64 (x4 - 1)) - x28))).length : Int) then (Y15.l1 k x4 x6 x19 x20 x21 x26 x27 (wrap64 (x28 + 1)) (x582000.set ((wrap64 ((wrap64 (x4 - 1)) - x28)) : Int).toNat ((rd_L4 x582000 (wrap64 ((wrap64 (x4 - 1)) - x28))).set ((wrap64 ((wrap64 (x4 - 1)) - x6)) : Int).toNat (rd x26 x28)))) else (none)) else (none)) else (none)) else (none)) else (none)) else (none)) else (Y15.l0 k x4 x19 x20 (wrap64 (x21 + 1)) x582000)
end
def Y15.f (k : Nat) (l0_0 : List (List Int)) : Option ((List (List Int)) × Bool) := (Y33.f k l0_0).bind fun t576 => (if t576 = true then ((Y32.f l0_0).bind fun t577 => ((Y19.f k t577).bind fun t578 => (Y15.l0 k t577 l0_0 (l0_0.length : Int) 0 t578))) else (some (([] : List (List Int)), false)))
theorem Y15.calls (k : Nat) (A0_0 : Option Addr) (c0_0 : Nat) (l0_0 : List (List Int)) (r1 : List (List Int)) (r2 : Bool) (w : World) (hr0_0 : Kd.C (Kd.slice 3 (Kd.int .i64)) w A0_0 l0_0.length l0_0) (hc0_0 : l0_0.length ≤ c0_0) (h : Y15.f k l0_0 = some (r1, r2)) :
  Calls Tryz.prog 21 #[.agg #[.slice A0_0 l0_0.length c0_0]] w fun e w' => ∃ v0_ : Value, e = .returned (.tuple #[.agg #[v0_], .bool r2]) ∧ Kd.S (Kd.slice 3 (Kd.int .i64)) 24 w' w.heap.size (fun _ => True) v0_ r1 ∧ Below w.heap.size w w' := by
 have hu41 := Tryz.underlying41
 have HR0_0 := aM hr0_0
 have HC0_0 := aM hc0_0
 clear hr0_0 hc0_0
 have HB := aM (Below.refl w.heap.size w)
 unfold Y15.f at h
 have H := h
 clear h
 replace H := bS H
 obtain ⟨t576, A2, H⟩ := H
 try dsimp only at H
 by_cases c3 : t576 = true
 ·subst c3
  have H1 : ((Y32.f l0_0).bind fun t577 => ((Y19.f k t577).bind fun t578 => (Y15.l0 k t577 l0_0 (l0_0.length : Int) 0 t578))) = some (r1, r2) := by rw [if_pos rfl] at H; exact H
  clear H
  have H := H1
  clear H1
  replace H := bS H
  obtain ⟨t577, A4, H⟩ := H
  try dsimp only at H
  replace H := bS H
  obtain ⟨t578, A5, H⟩ := H
  try dsimp only at H
  have H' := aM H
  clear H
  go_enter Tryz.func21, Tryz.ntmps21
  go_wp2_with (first | ((with_reducible refine gate_dst (N := 1) rfl ?_); refine bF 1 41 #[.slice A0_0 l0_0.length c0_0] bq ?_; intro gb574 w6 hg hb _ _ _ _; clear HB; rename_i HB BK574 GW574 GE574; clear hb hg) | ((with_reducible refine gate_dst (N := 2) rfl ?_); refine bE 2 41 #[.slice none 0 0] ?_; intro gb575 hg w7 hbox hb; have _ := bK BK574 hb; have _ := bB hb; have _ := aM (hbox); have _ := aM ((gS hg)); have _ := aM ((gS hg)); have _ := aM (nL hg BK574); have _ := aM (nG hg BK574); clear BK574 HB; rename_i BK574 HB BK575 GW575 GE575 NB574_575 NB575_574; clear hb hbox hg; have hnb8 := NB574_575.out; have hnc8 := NB575_574.out; have hcz9_0 := zc10 BK574; have hfz9_0 := blk_frozen BK574.out 0) | ((with_reducible refine gate_callee (f := 81) rfl ?_); refine gL (some 11) Tryz.func81 #[.agg #[.slice A0_0 l0_0.length c0_0]] ?_; (with_reducible refine (Y33.calls k _ _ l0_0 true _ (cQ (Kd.C_below HR0_0.out HB.out)) HC0_0.out A2.out).mono ?_); rintro e w10 ⟨rfl, hb⟩; refine ⟨_, rfl, ?_⟩; have _ := bK BK574 hb; have _ := bK BK575 hb; have _ := bB hb; clear BK574 BK575 HB; rename_i BK574 BK575 HB; (try clear hb); have hcz11_0 := zc10 BK574; have hfz11_0 := blk_frozen BK574.out 0) | ((with_reducible refine gate_callee (f := 82) rfl ?_); refine gL (some 15) Tryz.func82 #[.agg #[.slice A0_0 l0_0.length c0_0]] ?_; (with_reducible refine (Y32.calls _ _ l0_0 t577 _ (cQ (Kd.C_below HR0_0.out HB.out)) HC0_0.out A4.out).mono ?_); rintro e w12 ⟨rfl, hb⟩; refine ⟨_, rfl, ?_⟩; have _ := bK BK574 hb; have _ := bK BK575 hb; have _ := bB hb; clear BK574 BK575 HB; rename_i BK574 BK575 HB; (try clear hb)) | ((with_reducible refine gate_callee (f := 83) rfl ?_); refine gL (some 17) Tryz.func83 #[.int .i64 t577] ?_; (with_reducible refine (Y19.calls k t577 t578 _ A5.out).mono ?_); rintro e w13 ⟨v579, rfl, ho0, hb⟩; refine ⟨_, rfl, ?_⟩; have _ := aM (Kd.S_lower ho0 (below_size bq)); have _ := bK BK574 hb; have _ := bK BK575 hb; have _ := bB hb; clear BK574 BK575 HB; rename_i HO580 BK574 BK575 HB; (try clear hb); (try clear ho0)) | ((with_reducible refine gate_dst (N := 5) rfl ?_); refine bE 5 41 #[.slice none 0 0] ?_; intro gb581 hg w14 hbox hb; have _ := aM (Kd.S_below (sQ HO580) hb); have _ := bK BK574 hb; have _ := bK BK575 hb; have _ := bB hb; have _ := aM (hbox); have _ := aM ((gS hg)); have _ := aM ((gS hg)); have _ := aM (nL hg BK574); have _ := aM (nG hg BK574); have _ := aM (nL hg BK575); have _ := aM (nG hg BK575); clear HO580 BK574 BK575 HB; rename_i HO580 BK574 BK575 HB BK581 GW581 GE581 NB574_581 NB581_574 NB575_581 NB581_575; clear hb hbox hg; obtain ⟨Ao15, co15, eo15⟩ := Kd.S_slice HO580.out; subst eo15; have hnb16 := NB581_574.out; have hnc16 := NB574_581.out; have hnb17 := NB581_575.out; have hnc17 := NB575_581.out; have hcz18_0 := zc10 BK581; have hfz18_0 := blk_frozen BK581.out 0; have hcz19_0 := zc10 BK574; have hfz19_0 := blk_frozen BK574.out 0))
  go_loopg [21] k (fun kq v21 w' => ∃ (x21_1 : Int) (x582000_1 : List (List Int)) (u582000 : Value), v21 = .int .i64 x21_1 ∧ Aside0 (Y15.l0 kq t577 l0_0 (l0_0.length : Int) x21_1 x582000_1 = some (r1, r2)) ∧ Aside0 (kq ≤ k) ∧ Aside0 (Kd.S (Kd.slice 3 (Kd.int .i64)) 24 w' w.heap.size (fun _ => True) u582000 x582000_1) ∧ Aside0 (w'.heap[gb574]? = some (.cells #[(.slice A0_0 l0_0.length c0_0)] 41 (0, 0))) ∧ Aside0 (w'.heap[gb575]? = some (.cells #[(.slice none 0 0)] 41 (0, 0))) ∧ Aside0 (w'.heap[gb581]? = some (.cells #[u582000] 41 (0, 0))) ∧ Aside0 (Below w.heap.size w w'))
  case atStart => exact ⟨(0), (t578), (.slice Ao15 t578.length co15), eR, H', ⟨Nat.le_refl _⟩, ⟨by (with_reducible repeat first|apply sA|apply sN|apply sD); exact Kd.S_mono (Kd.S_far (p := ⟨gb581, 0, none⟩) (Kd.S_types HO580.out BK581.out (by decide)) (fun _ hk => hk.2) (.slice Ao15 t578.length co15)) (fun _ hk => trivial)⟩, ⟨by (with_reducible repeat first|apply qN|apply qD|apply qA); refine blk_far ?_ NB574_581.out _; (with_reducible repeat first|apply qN|apply qD|apply qA); exact BK574.out⟩, ⟨by (with_reducible repeat first|apply qN|apply qD|apply qA); refine blk_far ?_ NB575_581.out _; (with_reducible repeat first|apply qN|apply qD|apply qA); exact BK575.out⟩, ⟨by (with_reducible repeat first|apply qN|apply qD|apply qA); refine blk_put (cs := #[.slice none 0 0]) ?_ 0 _ rfl; (with_reducible repeat first|apply qN|apply qD|apply qA); exact BK581.out⟩, ⟨bq⟩⟩
  case round =>
   clear H'
   try clear c3
   try clear hcz11_0
   try clear hcz18_0
   try clear hcz19_0
   try clear hcz9_0
   try clear hfz11_0
   try clear hfz18_0
   try clear hfz19_0
   try clear hfz9_0
   obtain ⟨x21_1, x582000_1, u582000, rfl, HA, HK1, HO_582000, BK574, BK575, BK581, HB⟩ := hrel
   cases gk with
   | zero => exact absurd HA.out (by simp [Y15.l0])
   | succ k1 =>
    have H := HA.out
    clear HA
    simp only [Y15.l0] at H
    by_cases c20 : x21_1 < (l0_0.length : Int)
    ·rw [if_pos c20] at H
     have c20b0 := decide_eq_true c20
     clear c20
     replace H := iD2 H
     obtain ⟨c21b0, c22b0, H⟩ := H
     have H' := aM H
     clear H
     have p582 : 0 ≤ (x21_1 : Int) := odt
     have q582 : x21_1 < (l0_0.length : Int) := odt
     obtain ⟨ad582, A582_0, c582_0, e582, hx582_0, hl582_0, hi582_0⟩ := at_L4 HR0_0.out x21_1 p582 q582
     cases e582
     replace hx582_0 := (HB.out.cell (World.block_lt_of_cell? w _ hx582_0)).trans hx582_0
     have HR582_0 := aM hi582_0
     have HC582_0 := aM hl582_0
     clear hi582_0 hl582_0
     replace p582 := eq_true p582
     replace q582 := eq_true q582
     go_wp2
     go_loopg [28] k1 (fun kq v28 w' => ∃ (x28_2 : Int) (x582000_2 : List (List Int)) (u582000 : Value), v28 = .int .i64 x28_2 ∧ Aside0 (Y15.l1 kq t577 x21_1 l0_0 (l0_0.length : Int) x21_1 (rd_L4 l0_0 x21_1) ((rd_L4 l0_0 x21_1).length : Int) x28_2 x582000_2 = some (r1, r2)) ∧ Aside0 (kq ≤ k1) ∧ Aside0 (Kd.S (Kd.slice 3 (Kd.int .i64)) 24 w' w.heap.size (fun _ => True) u582000 x582000_2) ∧ Aside0 (w'.heap[gb574]? = some (.cells #[(.slice (some ad582) l0_0.length c0_0)] 41 (0, 0))) ∧ Aside0 (w'.heap[gb575]? = some (.cells #[(.slice none 0 0)] 41 (0, 0))) ∧ Aside0 (w'.heap[gb581]? = some (.cells #[u582000] 41 (0, 0))) ∧ Aside0 (Below w.heap.size w w'))
     case atStart => exact ⟨(0), (x582000_1), (u582000), eR, H', ⟨Nat.le_refl _⟩, ⟨by (with_reducible repeat first|apply sA|apply sN|apply sD); exact HO_582000.out⟩, ⟨qQ BK574⟩, ⟨qQ BK575⟩, ⟨qQ BK581⟩, ⟨bq⟩⟩
     case round =>
      clear H'
      try clear c3
      try clear c20
      try clear c20b0
      try clear c21b0
      try clear c22b0
      try clear hcz11_0
      try clear hcz18_0
      try clear hcz19_0
      try clear hcz9_0
      try clear hfz11_0
      try clear hfz18_0
      try clear hfz19_0
      try clear hfz9_0
      try clear hx582_0
      try clear p582
      try clear q582
      obtain ⟨x28_2, x582000_2, u582000, rfl, HA, HK2, HO_582000, BK574, BK575, BK581, HB⟩ := hrel
      cases gk with
      | zero => exact absurd HA.out (by simp [Y15.l1])
      | succ k2 =>
       have H := HA.out
       clear HA
       simp only [Y15.l1] at H
       by_cases c23 : x28_2 < ((rd_L4 l0_0 x21_1).length : Int)
       ·rw [if_pos c23] at H
        have c23b0 := decide_eq_true c23
        clear c23
        replace H := iD2 H
        obtain ⟨c24b0, c25b0, H⟩ := H
        obtain ⟨ji26, hji26⟩ : ∃ j_ : Int, (wrap64 ((wrap64 (t577 - 1)) - x28_2)) = j_ := ⟨_, rfl⟩
        replace H : (if 0 ≤ (ji26) then (if (ji26) < (x582000_2.length : Int) then (if 0 ≤ (wrap64 ((wrap64 (t577 - 1)) - x21_1)) then (if (wrap64 ((wrap64 (t577 - 1)) - x21_1)) < ((rd_L4 x582000_2 (ji26)).length : Int) then (Y15.l1 k2 t577 x21_1 l0_0 (l0_0.length : Int) x21_1 (rd_L4 l0_0 x21_1) ((rd_L4 l0_0 x21_1).length : Int) (wrap64 (x28_2 + 1)) (x582000_2.set ((ji26) : Int).toNat ((rd_L4 x582000_2 (ji26)).set ((wrap64 ((wrap64 (t577 - 1)) - x21_1)) : Int).toNat (rd (rd_L4 l0_0 x21_1) x28_2)))) else (none)) else (none)) else (none)) else (none)) = some (r1, r2) := by first | (rw [hji26] at H; exact H) | (simp only [hji26] at H ⊢; exact H)
        have hji26w : (IntKind.i64.wrap ((wrap64 (t577 - 1)) - x28_2)) = ji26 := (i64_w _).trans hji26
        replace H := iD2 H
        obtain ⟨c27b0, c28b0, H⟩ := H
        obtain ⟨ji29, hji29⟩ : ∃ j_ : Int, (wrap64 ((wrap64 (t577 - 1)) - x21_1)) = j_ := ⟨_, rfl⟩
        replace H : (if 0 ≤ (ji29) then (if (ji29) < ((rd_L4 x582000_2 (ji26)).length : Int) then (Y15.l1 k2 t577 x21_1 l0_0 (l0_0.length : Int) x21_1 (rd_L4 l0_0 x21_1) ((rd_L4 l0_0 x21_1).length : Int) (wrap64 (x28_2 + 1)) (x582000_2.set ((ji26) : Int).toNat ((rd_L4 x582000_2 (ji26)).set ((ji29) : Int).toNat (rd (rd_L4 l0_0 x21_1) x28_2)))) else (none)) else (none)) = some (r1, r2) := by first | (rw [hji29] at H; exact H) | (simp only [hji29] at H ⊢; exact H)
        have hji29w : (IntKind.i64.wrap ((wrap64 (t577 - 1)) - x21_1)) = ji29 := (i64_w _).trans hji29
        replace H := iD2 H
        obtain ⟨c30b0, c31b0, H⟩ := H
        obtain ⟨y585, hy585⟩ := nE (((rd_L4 x582000_2 (ji26)).set ((ji29) : Int).toNat (rd (rd_L4 l0_0 x21_1) x28_2)) : List Int)
        try rw [← hy585] at H
        try with_reducible replace H := (Option.bind_some _ _).symm.trans H
        try dsimp only at H
        have Ny585 := aM hy585
        clear hy585
        obtain ⟨y587, hy587⟩ := nE ((x582000_2.set ((ji26) : Int).toNat y585) : List (List Int))
        try rw [← hy587] at H
        try with_reducible replace H := (Option.bind_some _ _).symm.trans H
        try dsimp only at H
        have Ny587 := aM hy587
        clear hy587
        have H' := aM H
        clear H
        have p583 : 0 ≤ (x28_2 : Int) := odt
        have q583 : x28_2 < ((rd_L4 l0_0 x21_1).length : Int) := odt
        obtain ⟨ad583, e583, hx583_0⟩ := Kd.at_int HR582_0.out x28_2 p583 q583
        cases e583
        replace hx583_0 := (HB.out.cell (World.block_lt_of_cell? w _ hx583_0)).trans hx583_0
        replace p583 := eq_true p583
        replace q583 := eq_true q583
        have hnb33 := NB581_574.out
        have hnc33 := NB574_581.out
        have hnb34 := NB581_575.out
        have hnc34 := NB575_581.out
        have hcz35_0 := zc10 BK581
        have hfz35_0 := blk_frozen BK581.out 0
        obtain ⟨Ao36, co36, eo36⟩ := Kd.S_slice HO_582000.out
        subst eo36
        have p584 : 0 ≤ ((ji26) : Int) := odt
        have q584 : (ji26) < (x582000_2.length : Int) := odt
        obtain ⟨ad584, A584_0, c584_0, e584, hx584_0, hl584_0, hi584_0⟩ := at_L4 (Kd.S_reads' HO_582000.out).2.2 (ji26) p584 q584
        cases e584
        obtain ⟨ce584, hce584, hMe584, hcc584⟩ := Kd.S_get HO_582000.out [] (ji26) p584 (by first | exact q584 | exact odt | (have e_ := (Kd.S_reads' HO_582000.out).1; omega))
        obtain ⟨ve584_0, rfl, ge584_0⟩ := hMe584
        have hv584_0 := hcc584 0 _ rfl
        rw [Nat.add_zero, show ((Kd.slice 3 (Kd.int .i64))).sz = 1 from rfl, Nat.mul_one] at hv584_0
        replace hv584_0 := Option.some.inj (hv584_0.symm.trans hx584_0)
        rw [hv584_0] at ge584_0
        have HL584_0 := aM (show Kd.R (Kd.int .i64) 3 _ _ _ _ (rd_L4 x582000_2 (ji26)) from ge584_0)
        clear hv584_0 ge584_0
        have HX584_0 := aM hx584_0
        clear hcc584 hce584
        have HR584_0 := aM hi584_0
        have HC584_0 := aM hl584_0
        clear hi584_0 hl584_0
        replace p584 := eq_true p584
        replace q584 := eq_true q584
        have p32 : 0 ≤ ((ji29) : Int) := odt
        have q32 : ((ji29) : Int) < (((rd_L4 x582000_2 (ji26)).length : Int) : Int) := odt
        obtain ⟨go32, co32, eo32, gb32, gl32, cl32, HG32⟩ := Kd.R_form HL584_0.out (by omega)
        (first | cases eo32 | (injection eo32 with ea_ en_ ec_; (first | subst ea_ | (injection ea_ with ea_; subst ea_)); subst ec_; clear en_))
        have GB32 := aM gb32
        have GG32 := aM HG32
        clear gb32 gl32 HG32
        obtain ⟨hx32_0, hf32_0⟩ := Kd.R_celln 0 HL584_0.out ((ji29) : Int) p32 q32
        replace p32 := eq_true p32
        replace q32 := eq_true q32
        have hq37 : ((ji26) : Int) < (x582000_2.length : Int) := (by have h_ : ((ji26) : Int) < ((x582000_2.length : Int) : Int) := odt; first | exact h_ | (have e_ := (Kd.S_reads' HO_582000.out).1; omega) | simpa only [List.length_set, List.length_set] using h_)
        obtain ⟨oki37, ce37, hcl37, hM37, hcc37, hok37, hbk37⟩ := Kd.S_borrow HO_582000.out [] ((ji26) : Int) (odt) hq37
        obtain ⟨ve37_0, rfl, ge37_0⟩ := hM37
        have hv37 := hcc37 0 _ rfl
        rw [Nat.add_zero, show ((Kd.slice 3 (Kd.int .i64))).sz = 1 from rfl, Nat.mul_one] at hv37
        replace hv37 := Option.some.inj (hv37.symm.trans HX584_0.out)
        subst hv37
        clear hcc37 hcl37
        replace ge37_0 := (show Kd.R (Kd.int .i64) 3 _ _ _ _ (rd_L4 x582000_2 (ji26)) from ge37_0)
        have HP37 := Kd.R_putg ge37_0 ((ji29) : Int) (rd (rd_L4 l0_0 x21_1) x28_2)
        go_wp2_with (first | ((with_reducible refine gate_store (t := 3) (p := 46) rfl ?_); refine sE (wr.setCell ⟨go32, ((ji29) : Int).toNat, none⟩ (.int .i64 (rd (rd_L4 l0_0 x21_1) x28_2))) 3 46 ?_; intro w38 hw; have hg : wr.grownBy w38 (some go32) := (by rw [hw]; exact HP37.2); have hz_ : Kd.R (Kd.int .i64) 3 w38 w.heap.size oki37 (.slice (some ⟨go32, 0, none⟩) (rd_L4 x582000_2 (ji26)).length c584_0) y585 := (by rw [hw, Ny585.out]; exact HP37.1); have hp_ : Kd.S (Kd.slice 3 (Kd.int .i64)) 24 w38 w.heap.size (fun _ => True) (.slice (some ad584) x582000_2.length co36) y587 := (by rw [Ny587.out]; exact hbk37 hg (fun k_ e_ => by injection e_ with e_; subst e_; exact ge37_0.1 _ rfl) (Kd.M_row hz_)); have hm_ := Kd.R_mono hz_ hok37; clear HP37 hbk37; have _ := aM (hp_); have _ := aM (blk_grown (g := gb574) (o := .cells #[.slice (some ad582) l0_0.length c0_0] 41 (0, 0)) (qQ BK574) hg (Kd.R_ne HL584_0.out BK574.out (by decide))); have _ := aM (blk_grown (g := gb575) (o := .cells #[.slice none 0 0] 41 (0, 0)) (qQ BK575) hg (Kd.R_ne HL584_0.out BK575.out (by decide))); have _ := aM (blk_grown (g := gb581) (o := .cells #[.slice (some ad584) x582000_2.length co36] 41 (0, 0)) (qQ BK581) hg (Kd.R_ne HL584_0.out BK581.out (by decide))); have _ := aM ((by rw [hw]; exact below_set (HB.out) GB32.out : Below w.heap.size w w38)); have _ := aM (hm_); have _ := aM ((Kd.R_reads' hm_).2.1); clear HO_582000 BK574 BK575 BK581 HB HL584_0; rename_i HO_582000 BK574 BK575 BK581 HB HL588 HC586; clear hg hw hp_ hz_ hm_ hok37))
        go_roundg k2
        case measure => have := HK1.out; have := HK2.out; omega
        case rel => exact ⟨(wrap64 (x28_2 + 1)), (y587), (.slice (some ad584) x582000_2.length co36), eR, H', ⟨by have := HK1.out; have := HK2.out; omega⟩, ⟨by (with_reducible repeat first|apply sA|apply sN|apply sD); exact HO_582000.out⟩, ⟨qQ BK574⟩, ⟨qQ BK575⟩, ⟨qQ BK581⟩, ⟨bq⟩⟩
       ·rw [if_neg c23] at H
        have c23b0 := decide_eq_false c23
        clear c23
        have H' := aM H
        clear H
        go_wp2
        go_roundg k2
        case measure => have := HK1.out; have := HK2.out; omega
        case rel => exact ⟨(wrap64 (x21_1 + 1)), (x582000_2), (u582000), eR, H', ⟨by have := HK1.out; have := HK2.out; omega⟩, ⟨by (with_reducible repeat first|apply sA|apply sN|apply sD); exact HO_582000.out⟩, ⟨qQ BK574⟩, ⟨qQ BK575⟩, ⟨qQ BK581⟩, ⟨bq⟩⟩
    ·rw [if_neg c20] at H
     have c20b0 := decide_eq_false c20
     clear c20
     simp only [Option.some.injEq, Prod.mk.injEq] at H
     obtain ⟨rfl, rfl⟩ := H
     have hnb39 := NB581_574.out
     have hnc39 := NB574_581.out
     have hnb40 := NB581_575.out
     have hnc40 := NB575_581.out
     have hcz41_0 := zc10 BK581
     have hfz41_0 := blk_frozen BK581.out 0
     obtain ⟨Ao42, co42, eo42⟩ := Kd.S_slice HO_582000.out
     subst eo42
     have hnb43 := NB575_574.out
     have hnc43 := NB574_575.out
     have hcz44_0 := zc10 BK575
     have hfz44_0 := blk_frozen BK575.out 0
     go_wp2
     refine bodyPost_ret (results_ct rfl _ _ gb575 41 #[.slice Ao42 x582000_1.length co42] (0, 0) _ rfl (by (with_reducible repeat first|apply qN|apply qD|apply qA); refine blk_put (cs := #[.slice none 0 0]) ?_ 0 _ rfl; (with_reducible repeat first|apply qN|apply qD|apply qA); exact BK575.out) Tryz.underlying41 rfl (by kernel_rfl)) rfl ?_
     exact ⟨_, eE, by (with_reducible repeat first|apply sA|apply sN|apply sD); exact Kd.S_mono (Kd.S_far (p := ⟨gb575, 0, none⟩) (Kd.S_types HO_582000.out BK575.out (by decide)) (fun _ hk => hk.2) (.slice Ao42 x582000_1.length co42)) (fun _ hk => trivial), bq⟩
 ·replace c3 := Bool.eq_false_iff.mpr c3
  subst c3
  have H1 : (some (([] : List (List Int)), false)) = some (r1, r2) := by rw [if_neg (show ¬ (false = true) by decide)] at H; exact H
  clear H
  have H := H1
  clear H1
  simp only [Option.some.injEq, Prod.mk.injEq] at H
  obtain ⟨rfl, rfl⟩ := H
  go_enter Tryz.func21, Tryz.ntmps21
  go_wp2_with (first | ((with_reducible refine gate_dst (N := 1) rfl ?_); refine bF 1 41 #[.slice A0_0 l0_0.length c0_0] bq ?_; intro gb574 w45 hg hb _ _ _ _; clear HB; rename_i HB BK574 GW574 GE574; clear hb hg) | ((with_reducible refine gate_dst (N := 2) rfl ?_); refine bE 2 41 #[.slice none 0 0] ?_; intro gb575 hg w46 hbox hb; have _ := bK BK574 hb; have _ := bB hb; have _ := aM (hbox); have _ := aM ((gS hg)); have _ := aM ((gS hg)); have _ := aM (nL hg BK574); have _ := aM (nG hg BK574); clear BK574 HB; rename_i BK574 HB BK575 GW575 GE575 NB574_575 NB575_574; clear hb hbox hg; have hnb47 := NB574_575.out; have hnc47 := NB575_574.out; have hcz48_0 := zc10 BK574; have hfz48_0 := blk_frozen BK574.out 0) | ((with_reducible refine gate_callee (f := 81) rfl ?_); refine gL (some 11) Tryz.func81 #[.agg #[.slice A0_0 l0_0.length c0_0]] ?_; (with_reducible refine (Y33.calls k _ _ l0_0 false _ (cQ (Kd.C_below HR0_0.out HB.out)) HC0_0.out A2.out).mono ?_); rintro e w49 ⟨rfl, hb⟩; refine ⟨_, rfl, ?_⟩; have _ := bK BK574 hb; have _ := bK BK575 hb; have _ := bB hb; clear BK574 BK575 HB; rename_i BK574 BK575 HB; (try clear hb); have hcz50_0 := zc10 BK575; have hfz50_0 := blk_frozen BK575.out 0))
  refine bodyPost_ret (results_ct rfl _ _ gb575 41 #[.slice none 0 0] (0, 0) _ rfl (by (with_reducible repeat first|apply qN|apply qD|apply qA); refine blk_put (cs := #[.slice none 0 0]) ?_ 0 _ rfl; (with_reducible repeat first|apply qN|apply qD|apply qA); exact BK575.out) Tryz.underlying41 rfl (by kernel_rfl)) rfl ?_
  exact ⟨_, eE, by first | exact Kd.S_nil _ _ _ _ _ | exact Kd.N_nil _ _ _ _ _ | exact Kd.V_nil _ _ _ _ _ | exact Kd.Q_nil _ _ _ _ _ | exact Kd.R_nil _ _ _ _ _, bq⟩
def Y41.l0 : Nat → Int → List Int → List (List Int) → Int → Int → Option (List Int)
 | 0, _, _, _, _, _ => none
 | k + 1, x1, x5, x9, x10, x11 => if x11 < x10 then (if 0 ≤ x11 then (if x11 < (x9.length : Int) then (if 0 ≤ x1 then (if x1 < ((rd_L4 x9 x11).length : Int) then (if x5.length < 17592186044416 then (Y41.l0 k x1 (x5 ++ [rd (rd_L4 x9 x11) x1]) x9 x10 (wrap64 (x11 + 1))) else (none)) else (none)) else (none)) else (none)) else (none)) else (some x5)
def Y41.f (k : Nat) (l0_0 : List (List Int)) (a1 : Int) : Option (List Int) := Y41.l0 k a1 ([] : List Int) l0_0 (l0_0.length : Int) 0
theorem Y41.calls (k : Nat) (A0_0 : Option Addr) (c0_0 : Nat) (l0_0 : List (List Int)) (a1 : Int) (r : List Int) (w : World) (hr0_0 : Kd.C (Kd.slice 3 (Kd.int .i64)) w A0_0 l0_0.length l0_0) (hc0_0 : l0_0.length ≤ c0_0) (h : Y41.f k l0_0 a1 = some r) :
  Calls Tryz.prog 170 #[.agg #[.slice A0_0 l0_0.length c0_0], .int .i64 a1] w fun e w' => ∃ v0_ : Value, e = .returned (v0_) ∧ Kd.R (Kd.int .i64) 3 w' w.heap.size (fun _ => True) v0_ r ∧ Below w.heap.size w w' := by
 have hu41 := Tryz.underlying41
 have HR0_0 := aM hr0_0
 have HC0_0 := aM hc0_0
 clear hr0_0 hc0_0
 have HB := aM (Below.refl w.heap.size w)
 have H : (Y41.l0 k a1 ([] : List Int) l0_0 (l0_0.length : Int) 0) = some r := h
 clear h
 have H' := aM H
 clear H
 go_enter Tryz.func170, Tryz.ntmps170
 go_wp2_with (first | ((with_reducible refine gate_dst (N := 2) rfl ?_); refine bF 2 41 #[.slice A0_0 l0_0.length c0_0] bq ?_; intro gb589 w3 hg hb _ _ _ _; clear HB; rename_i HB BK589 GW589 GE589; clear hb hg; have hcz4_0 := zc10 BK589; have hfz4_0 := blk_frozen BK589.out 0))
 go_loopg [5, 11] k (fun kq v5 v11 w' => ∃ (x5_1 : List Int) (x11_1 : Int), v11 = .int .i64 x11_1 ∧ Aside0 (Y41.l0 kq a1 x5_1 l0_0 (l0_0.length : Int) x11_1 = some r) ∧ Aside0 (kq ≤ k) ∧ Aside0 (Kd.R (Kd.int .i64) 3 w' w.heap.size (fun _ => True) v5 x5_1) ∧ Aside0 (w'.heap[gb589]? = some (.cells #[(.slice A0_0 l0_0.length c0_0)] 41 (0, 0))) ∧ Aside0 (Below w.heap.size w w'))
 case atStart => exact ⟨(([] : List Int)), (0), eR, H', ⟨Nat.le_refl _⟩, ⟨by first | exact Kd.R_nil _ _ _ _ _ | exact Kd.N_nil _ _ _ _ _ | exact Kd.V_nil _ _ _ _ _ | exact Kd.Q_nil _ _ _ _ _ | exact Kd.S_nil _ _ _ _ _⟩, ⟨qQ BK589⟩, ⟨bq⟩⟩
 case round =>
  clear H'
  try clear hcz4_0
  try clear hfz4_0
  obtain ⟨x5_1, x11_1, rfl, HA, HK1, HO_5, BK589, HB⟩ := hrel
  cases gk with
  | zero => exact absurd HA.out (by simp [Y41.l0])
  | succ k1 =>
   have H := HA.out
   clear HA
   simp only [Y41.l0] at H
   by_cases c5 : x11_1 < (l0_0.length : Int)
   ·rw [if_pos c5] at H
    have c5b0 := decide_eq_true c5
    clear c5
    replace H := iD4 H
    obtain ⟨c6b0, c7b0, c8b0, c9b0, H⟩ := H
    replace H := iS H
    obtain ⟨c10, H⟩ := H
    have LMc10 := aM c10
    clear c10
    obtain ⟨y592, hy592⟩ := nE ((x5_1 ++ [rd (rd_L4 l0_0 x11_1) a1]) : List Int)
    try rw [← hy592] at H
    try with_reducible replace H := (Option.bind_some _ _).symm.trans H
    try dsimp only at H
    have Ny592 := aM hy592
    clear hy592
    have H' := aM H
    clear H
    have p590 : 0 ≤ (x11_1 : Int) := odt
    have q590 : x11_1 < (l0_0.length : Int) := odt
    obtain ⟨ad590, A590_0, c590_0, e590, hx590_0, hl590_0, hi590_0⟩ := at_L4 HR0_0.out x11_1 p590 q590
    cases e590
    replace hx590_0 := (HB.out.cell (World.block_lt_of_cell? w _ hx590_0)).trans hx590_0
    have HR590_0 := aM hi590_0
    have HC590_0 := aM hl590_0
    clear hi590_0 hl590_0
    replace p590 := eq_true p590
    replace q590 := eq_true q590
    have p591 : 0 ≤ (a1 : Int) := odt
    have q591 : a1 < ((rd_L4 l0_0 x11_1).length : Int) := odt
    obtain ⟨ad591, e591, hx591_0⟩ := Kd.at_int HR590_0.out a1 p591 q591
    cases e591
    replace hx591_0 := (HB.out.cell (World.block_lt_of_cell? w _ hx591_0)).trans hx591_0
    replace p591 := eq_true p591
    replace q591 := eq_true q591
    go_wp2_with (first | ((with_reducible refine gate_builtin (b := .append) (xs := #[.tmp 15, .tmp 20]) rfl ?_); at_builtin; refine Kd.R_append (Kd.int .i64) (w0 := w) w.heap.size rfl (.tmp 15) (.tmp 20) 24 3 (.int .i64 0) 8 rfl Tryz.underlying24 info3 rfl (by decide) (by omega) u5 x5_1 (rd (rd_L4 l0_0 x11_1) a1) [.int .i64 (rd (rd_L4 l0_0 x11_1) a1)] (fun _ => True) (fun _ => False) rfl rfl ?aP (fun _ hk => hk.elim) ?aF ?aO ?aB ?aS ?aL ?_; (case aP => exact rfl); (case aB => exact bq); (case aF => exact (fun _ _ => trivial)); (case aO => exact (rQ HO_5)); (case aS => exact (below_size bq)); (case aL => have := LMc10.out; omega); intro v593 w11 ho hb hg hat; rw [← Ny592.out] at ho; have _ := aM (blk_grown (g := gb589) (o := .cells #[.slice (some ad590) l0_0.length c0_0] 41 (0, 0)) (qQ BK589) hg (Kd.R_ne HO_5.out BK589.out (by decide))); have _ := aM (hb); have _ := aM (ho); clear BK589 HB HO_5; rename_i BK589 HB HO594; clear ho hb hg hat))
    go_roundg k1
    case measure => have := HK1.out; omega
    case rel => exact ⟨(y592), (wrap64 (x11_1 + 1)), eR, H', ⟨by have := HK1.out; omega⟩, ⟨rQ HO594⟩, ⟨qQ BK589⟩, ⟨bq⟩⟩
   ·rw [if_neg c5] at H
    have c5b0 := decide_eq_false c5
    clear c5
    obtain rfl := Option.some.inj H
    go_wp2
    go_ret
    exact ⟨_, eE, rQ HO_5, bq⟩
end Go.Proofs.YtjmmleofnjcjoaaGreatDoor.Du
namespace Go.Proofs.YtjmmleofnjcjoaaGreatDoor.Du
open Go.RowKit Go.Proofs.YtjmmleofnjcjoaaGreatDoorW.PrintWords Go.Proofs.YtjmmleofnjcjoaaGreatDoorW.PrintLast Go.Proofs.YtjmmleofnjcjoaaGreatDoorW.PrintMore Go.Proofs.YtjmmleofnjcjoaaGreatDoor.Sq
attribute [local go_sem] max2_int min2_int max_two min_two max_three min_three max_four min_four
set_option linter.unusedVariables false
set_option linter.unusedSimpArgs false
set_option maxHeartbeats 8000000
set_option maxRecDepth 100000
def Y42.l0 : Nat → Int → List Int → Int → Int → Option (Int)
 | 0, _, _, _, _ => none
 | k + 1, x3, x6, x7, x8 => if x8 < x7 then (if 0 ≤ x8 then (if x8 < (x6.length : Int) then (Y42.l0 k (wrap64 (x3 + (rd x6 x8))) x6 x7 (wrap64 (x8 + 1))) else (none)) else (none)) else (some x3)
def Y42.f (k : Nat) (l0 : List Int) : Option (Int) := Y42.l0 k 0 l0 (l0.length : Int) 0
theorem Y42.calls (k : Nat) (A0 : Option Addr) (c0 : Nat) (l0 : List Int) (r : Int) (w : World) (hr0 : Kd.C (Kd.int .i64) w A0 l0.length l0) (hc0 : l0.length ≤ c0) (h : Y42.f k l0 = some r) :
  Calls Tryz.prog 214 #[.slice A0 l0.length c0] w fun e w' => e = .returned (.int .i64 r) ∧ Drawn0 w w' := by
 have HR0 := aM hr0
 have HC0 := aM hc0
 clear hr0 hc0
 have H : (Y42.l0 k 0 l0 (l0.length : Int) 0) = some r := h
 clear h
 have H' := aM H
 clear H
 go_enter Tryz.func214, Tryz.ntmps214
 go_wp2
 go_loopg [3, 8] k (fun kq v3 v8 w' => ∃ (x3_1 : Int) (x8_1 : Int), v3 = .int .i64 x3_1 ∧ v8 = .int .i64 x8_1 ∧ Aside0 (Y42.l0 kq x3_1 l0 (l0.length : Int) x8_1 = some r) ∧ Aside0 (kq ≤ k) ∧ Drawn0 w w')
 case atStart => exact ⟨(0), (0), eR, eR, H', ⟨Nat.le_refl _⟩, dQ⟩
 case round =>
  clear H'
  obtain ⟨x3_1, x8_1, rfl, rfl, HA, HK1, ⟨m1, rfl⟩⟩ := hrel
  cases gk with
  | zero => exact absurd HA.out (by simp [Y42.l0])
  | succ k1 =>
   have H := HA.out
   clear HA
   simp only [Y42.l0] at H
   by_cases c2 : x8_1 < (l0.length : Int)
   ·rw [if_pos c2] at H
    have c2b0 := decide_eq_true c2
    clear c2
    replace H := iD2 H
    obtain ⟨c3b0, c4b0, H⟩ := H
    have H' := aM H
    clear H
    have p595 : 0 ≤ (x8_1 : Int) := odt
    have q595 : x8_1 < (l0.length : Int) := odt
    obtain ⟨ad595, e595, hx595_0⟩ := Kd.at_int HR0.out x8_1 p595 q595
    cases e595
    replace p595 := eq_true p595
    replace q595 := eq_true q595
    go_wp2
    go_roundg k1
    case measure => have := HK1.out; omega
    case rel => exact ⟨(wrap64 (x3_1 + (rd l0 x8_1))), (wrap64 (x8_1 + 1)), eR, eR, H', ⟨by have := HK1.out; omega⟩, dQ⟩
   ·rw [if_neg c2] at H
    have c2b0 := decide_eq_false c2
    clear c2
    obtain rfl := Option.some.inj H
    go_wp2
    go_ret
    exact ⟨by first | rfl | (simp; done) | (simp [*]; done), dQ⟩
def Y44.l0 : Nat → Int → List (List Int) → Int → Int → Option (Int)
 | 0, _, _, _, _ => none
 | k + 1, x3, x7, x8, x9 => if x9 < x8 then (if 0 ≤ x9 then (if x9 < (x7.length : Int) then ((Y42.f k (rd_L4 x7 x9)).bind fun t598 => (Y44.l0 k (wrap64 (x3 + t598)) x7 x8 (wrap64 (x9 + 1)))) else (none)) else (none)) else (some x3)
def Y44.f (k : Nat) (l0_0 : List (List Int)) : Option (Int) := Y44.l0 k 0 l0_0 (l0_0.length : Int) 0
theorem Y44.calls (k : Nat) (A0_0 : Option Addr) (c0_0 : Nat) (l0_0 : List (List Int)) (r : Int) (w : World) (hr0_0 : Kd.C (Kd.slice 3 (Kd.int .i64)) w A0_0 l0_0.length l0_0) (hc0_0 : l0_0.length ≤ c0_0) (h : Y44.f k l0_0 = some r) :
  Calls Tryz.prog 171 #[.agg #[.slice A0_0 l0_0.length c0_0]] w fun e w' => e = .returned (.int .i64 r) ∧ Below w.heap.size w w' := by
 have hu41 := Tryz.underlying41
 have HR0_0 := aM hr0_0
 have HC0_0 := aM hc0_0
 clear hr0_0 hc0_0
 have HB := aM (Below.refl w.heap.size w)
 have H : (Y44.l0 k 0 l0_0 (l0_0.length : Int) 0) = some r := h
 clear h
 have H' := aM H
 clear H
 go_enter Tryz.func171, Tryz.ntmps171
 go_wp2_with (first | ((with_reducible refine gate_dst (N := 1) rfl ?_); refine bF 1 41 #[.slice A0_0 l0_0.length c0_0] bq ?_; intro gb596 w2 hg hb _ _ _ _; clear HB; rename_i HB BK596 GW596 GE596; clear hb hg; have hcz3_0 := zc10 BK596; have hfz3_0 := blk_frozen BK596.out 0))
 go_loopg [3, 9] k (fun kq v3 v9 w' => ∃ (x3_1 : Int) (x9_1 : Int), v3 = .int .i64 x3_1 ∧ v9 = .int .i64 x9_1 ∧ Aside0 (Y44.l0 kq x3_1 l0_0 (l0_0.length : Int) x9_1 = some r) ∧ Aside0 (kq ≤ k) ∧ Aside0 (w'.heap[gb596]? = some (.cells #[(.slice A0_0 l0_0.length c0_0)] 41 (0, 0))) ∧ Aside0 (Below w.heap.size w w'))
 case atStart => exact ⟨(0), (0), eR, eR, H', ⟨Nat.le_refl _⟩, ⟨qQ BK596⟩, ⟨bq⟩⟩
 case round =>
  clear H'
  try clear hcz3_0
  try clear hfz3_0
  obtain ⟨x3_1, x9_1, rfl, rfl, HA, HK1, BK596, HB⟩ := hrel
  cases gk with
  | zero => exact absurd HA.out (by simp [Y44.l0])
  | succ k1 =>
   have H := HA.out
   clear HA
   simp only [Y44.l0] at H
   by_cases c4 : x9_1 < (l0_0.length : Int)
   ·rw [if_pos c4] at H
    have c4b0 := decide_eq_true c4
    clear c4
    replace H := iD2 H
    obtain ⟨c5b0, c6b0, H⟩ := H
    replace H := bS H
    obtain ⟨t598, A7, H⟩ := H
    try dsimp only at H
    have H' := aM H
    clear H
    have p597 : 0 ≤ (x9_1 : Int) := odt
    have q597 : x9_1 < (l0_0.length : Int) := odt
    obtain ⟨ad597, A597_0, c597_0, e597, hx597_0, hl597_0, hi597_0⟩ := at_L4 HR0_0.out x9_1 p597 q597
    cases e597
    replace hx597_0 := (HB.out.cell (World.block_lt_of_cell? w _ hx597_0)).trans hx597_0
    have HR597_0 := aM hi597_0
    have HC597_0 := aM hl597_0
    clear hi597_0 hl597_0
    replace p597 := eq_true p597
    replace q597 := eq_true q597
    go_wp2_with (first | ((with_reducible refine gate_callee (f := 214) rfl ?_); refine gL (some 15) Tryz.func214 #[.slice A597_0 (rd_L4 l0_0 x9_1).length c597_0] ?_; (with_reducible refine (Y42.calls k1 _ _ (rd_L4 l0_0 x9_1) t598 _ (cQ (Kd.C_below HR597_0.out HB.out)) HC597_0.out A7.out).mono ?_); rintro e w' ⟨rfl, ⟨nd, rfl⟩⟩; refine ⟨_, rfl, ?_⟩))
    go_roundg k1
    case measure => have := HK1.out; omega
    case rel => exact ⟨(wrap64 (x3_1 + t598)), (wrap64 (x9_1 + 1)), eR, eR, H', ⟨by have := HK1.out; omega⟩, ⟨qQ BK596⟩, ⟨bq⟩⟩
   ·rw [if_neg c4] at H
    have c4b0 := decide_eq_false c4
    clear c4
    obtain rfl := Option.some.inj H
    go_wp2
    go_ret
    exact ⟨eE, bq⟩
end Go.Proofs.YtjmmleofnjcjoaaGreatDoor.Du
