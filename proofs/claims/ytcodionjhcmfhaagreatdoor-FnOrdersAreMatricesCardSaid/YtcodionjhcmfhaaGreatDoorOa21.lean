-- Written by hook.py (wip/), over the kit's print.py.
import Derived.Test.YtcodionjhcmfhaaGreatDoorOa2
import Derived.Test.YtcodionjhcmfhaaGreatDoorOa19
import Derived.Test.YtcodionjhcmfhaaGreatDoorOaXSq
namespace Go.Proofs.YtcodionjhcmfhaaGreatDoor.Oa
open Go.RowKit Go.Proofs.YtcodionjhcmfhaaGreatDoorW.PrintWords Go.Proofs.YtcodionjhcmfhaaGreatDoorW.PrintLast Go.Proofs.YtcodionjhcmfhaaGreatDoorW.PrintMore Go.Proofs.YtcodionjhcmfhaaGreatDoor.Sq
attribute [local go_sem] max2_int min2_int max_two min_two max_three min_three max_four min_four
set_option linter.unusedVariables false
set_option linter.unusedSimpArgs false
set_option maxHeartbeats 8000000
set_option maxRecDepth 100000
def Y30.l0 : Nat → List (List Int) → Int → Int → List (List Int) → Option (Bool)
 | 0, _, _, _, _ => none
 | k + 1, x11, x12, x13, x411000 => if x13 < x12 then (if 0 ≤ x13 then (if x13 < (x11.length : Int) then ((Y25.f x411000).bind fun t413 => (if ((rd_L3 x11 x13).length : Int) = t413 then ((Y21.f k (rd_L3 x11 x13) 0 12).bind fun t414 => (if t414 = true then (if x13 ≤ ((rd_L3 x11 x13).length : Int) then ((Y60.f ((rd_L3 x11 x13).take (x13 : Int).toNat)).bind fun t416 => (if t416 = true then (some false) else (Y30.l0 k x11 x12 (wrap64 (x13 + 1)) x411000))) else (none)) else (some false))) else (some false))) else (none)) else (none)) else ((Y12.f k x411000).bind fun bt417 => ((Y53.f k bt417.1 0).bind fun t423 => (if t423 = true then (some false) else ((Y53.f k bt417.2 0).bind fun t424 => (if t424 = true then (some false) else ((Y35.f k x411000).bind fun t425 => (some (decide (t425 ≤ 12)))))))))
def Y30.f (k : Nat) (l0_0 : List (List Int)) : Option (Bool) := (Y25.f l0_0).bind fun t411 => (if t411 > 12 then (some false) else (Y30.l0 k l0_0 (l0_0.length : Int) 0 l0_0))
theorem Y30.calls (k : Nat) (A0_0 : Option Addr) (c0_0 : Nat) (l0_0 : List (List Int)) (r : Bool) (w : World) (hr0_0 : Kd.C (Kd.slice 3 (Kd.int .i64)) w A0_0 l0_0.length l0_0) (hc0_0 : l0_0.length ≤ c0_0) (h : Y30.f k l0_0 = some r) :
  Calls Tryz.prog 26 #[.agg #[.slice A0_0 l0_0.length c0_0]] w fun e w' => e = .returned (.bool r) ∧ Below w.heap.size w w' := by
 have hu30 := Tryz.underlying30
 have HR0_0 := aM hr0_0
 have HC0_0 := aM hc0_0
 clear hr0_0 hc0_0
 have HB := aM (Below.refl w.heap.size w)
 unfold Y30.f at h
 have H := h
 clear h
 replace H := bS H
 obtain ⟨t411, A2, H⟩ := H
 try dsimp only at H
 by_cases c3 : t411 > 12
 ·rw [if_pos c3] at H
  have c3b0 := decide_eq_true c3
  clear c3
  obtain rfl := Option.some.inj H
  go_enter Tryz.func26, Tryz.ntmps26
  go_wp2_with (first | ((with_reducible refine gate_dst (N := 1) rfl ?_); refine bF 1 30 #[.slice A0_0 l0_0.length c0_0] bq ?_; intro gb410 w4 hg hb _ _ _ _; clear HB; rename_i HB BK410 GW410 GE410; clear hb hg; have hcz5_0 := zc10 BK410; have hfz5_0 := blk_frozen BK410.out 0) | ((with_reducible refine gate_callee (f := 37) rfl ?_); refine gL (some 8) Tryz.func37 #[.agg #[.slice A0_0 l0_0.length c0_0]] ?_; (with_reducible refine (Y25.calls _ _ l0_0 t411 _ (cQ (Kd.C_below HR0_0.out HB.out)) HC0_0.out A2.out).mono ?_); rintro e w6 ⟨rfl, hb⟩; refine ⟨_, rfl, ?_⟩; have _ := bK BK410 hb; have _ := bB hb; clear BK410 HB; rename_i BK410 HB; (try clear hb)))
  go_ret
  exact ⟨eE, bq⟩
 ·rw [if_neg c3] at H
  have c3b0 := decide_eq_false c3
  clear c3
  have H' := aM H
  clear H
  go_enter Tryz.func26, Tryz.ntmps26
  go_wp2_with (first | ((with_reducible refine gate_dst (N := 1) rfl ?_); refine bF 1 30 #[.slice A0_0 l0_0.length c0_0] bq ?_; intro gb410 w7 hg hb _ _ _ _; clear HB; rename_i HB BK410 GW410 GE410; clear hb hg; have hcz8_0 := zc10 BK410; have hfz8_0 := blk_frozen BK410.out 0) | ((with_reducible refine gate_callee (f := 37) rfl ?_); refine gL (some 8) Tryz.func37 #[.agg #[.slice A0_0 l0_0.length c0_0]] ?_; (with_reducible refine (Y25.calls _ _ l0_0 t411 _ (cQ (Kd.C_below HR0_0.out HB.out)) HC0_0.out A2.out).mono ?_); rintro e w9 ⟨rfl, hb⟩; refine ⟨_, rfl, ?_⟩; have _ := bK BK410 hb; have _ := bB hb; clear BK410 HB; rename_i BK410 HB; (try clear hb); have hcz10_0 := zc10 BK410; have hfz10_0 := blk_frozen BK410.out 0))
  go_loopg [13] k (fun kq v13 w' => ∃ (x13_1 : Int), v13 = .int .i64 x13_1 ∧ Aside0 (Y30.l0 kq l0_0 (l0_0.length : Int) x13_1 l0_0 = some r) ∧ Aside0 (kq ≤ k) ∧ Aside0 (w'.heap[gb410]? = some (.cells #[(.slice A0_0 l0_0.length c0_0)] 30 (0, 0))) ∧ Aside0 (Below w.heap.size w w'))
  case atStart => exact ⟨(0), eR, H', ⟨Nat.le_refl _⟩, ⟨qQ BK410⟩, ⟨bq⟩⟩
  case round =>
   clear H'
   try clear c3
   try clear c3b0
   try clear hcz10_0
   try clear hcz5_0
   try clear hcz8_0
   try clear hfz10_0
   try clear hfz5_0
   try clear hfz8_0
   obtain ⟨x13_1, rfl, HA, HK1, BK410, HB⟩ := hrel
   cases gk with
   | zero => exact absurd HA.out (by simp [Y30.l0])
   | succ k1 =>
    have H := HA.out
    clear HA
    simp only [Y30.l0] at H
    by_cases c11 : x13_1 < (l0_0.length : Int)
    ·rw [if_pos c11] at H
     have c11b0 := decide_eq_true c11
     clear c11
     replace H := iD2 H
     obtain ⟨c12b0, c13b0, H⟩ := H
     replace H := bS H
     obtain ⟨t413, A14, H⟩ := H
     try dsimp only at H
     by_cases c15 : ((rd_L3 l0_0 x13_1).length : Int) = t413
     ·rw [if_pos c15] at H
      have c15b0 : (((rd_L3 l0_0 x13_1).length : Int) == t413) = true := beq_iff_eq.mpr c15
      have c15b1 : (((rd_L3 l0_0 x13_1).length : Int) != t413) = false := bne_eq_false_iff_eq.mpr c15
      clear c15
      replace H := bS H
      obtain ⟨t414, A16, H⟩ := H
      try dsimp only at H
      by_cases c17 : t414 = true
      ·subst c17
       have H1 : (if x13_1 ≤ ((rd_L3 l0_0 x13_1).length : Int) then ((Y60.f ((rd_L3 l0_0 x13_1).take (x13_1 : Int).toNat)).bind fun t416 => (if t416 = true then (some false) else (Y30.l0 k1 l0_0 (l0_0.length : Int) (wrap64 (x13_1 + 1)) l0_0))) else (none)) = some r := by rw [if_pos rfl] at H; exact H
       clear H
       have H := H1
       clear H1
       have c18b0 := eq_true (odt : 0 ≤ x13_1)
       replace H := iS H
       obtain ⟨c19, H⟩ := H
       have c19b0 := eq_true c19
       have c19b1 := decide_eq_true c19
       clear c19
       replace H := bS H
       obtain ⟨t416, A20, H⟩ := H
       try dsimp only at H
       by_cases c21 : t416 = true
       ·subst c21
        have H1 : (some false) = some r := by rw [if_pos rfl] at H; exact H
        clear H
        have H := H1
        clear H1
        obtain rfl := Option.some.inj H
        have p412 : 0 ≤ (x13_1 : Int) := odt
        have q412 : x13_1 < (l0_0.length : Int) := odt
        obtain ⟨ad412, A412_0, c412_0, e412, hx412_0, hl412_0, hi412_0⟩ := at_L3 HR0_0.out x13_1 p412 q412
        cases e412
        replace hx412_0 := (HB.out.cell (World.block_lt_of_cell? w _ hx412_0)).trans hx412_0
        have HR412_0 := aM hi412_0
        have HC412_0 := aM hl412_0
        clear hi412_0 hl412_0
        replace p412 := eq_true p412
        replace q412 := eq_true q412
        have hcz22_0 := zc10 BK410
        have hfz22_0 := blk_frozen BK410.out 0
        go_wp2_with (first | ((with_reducible refine gate_callee (f := 37) rfl ?_); refine gL (some 21) Tryz.func37 #[.agg #[.slice (some ad412) l0_0.length c0_0]] ?_; (with_reducible refine (Y25.calls _ _ l0_0 t413 _ (cQ (Kd.C_below HR0_0.out HB.out)) HC0_0.out A14.out).mono ?_); rintro e w23 ⟨rfl, hb⟩; refine ⟨_, rfl, ?_⟩; have _ := bK BK410 hb; have _ := bB hb; clear BK410 HB; rename_i BK410 HB; (try clear hb)) | (go_at_call 53; (with_reducible refine (Y21.calls k1 _ _ (rd_L3 l0_0 x13_1) 0 12 true _ (cQ (Kd.C_below HR412_0.out HB.out)) HC412_0.out A16.out).mono ?_); rintro e w' ⟨rfl, ⟨nd, rfl⟩⟩; obtain ⟨i024, hi024, _, hsz24, _⟩ := info_parts info3; obtain ⟨hcut24, hA24, hC24⟩ := print_take_of (P := Tryz.prog) (Value.int .i64) 0 24 3 .i64 Tryz.underlying24 hi024 hsz24 A412_0 c412_0 (rd_L3 l0_0 x13_1) x13_1 (odt) (odt) HC412_0.out; have HR415 := aM (Kd.C_of_reads (h1 := fun _ => rfl) (hA24 _ (Kd.reads_of_C HR412_0.out))); have HC415 := aM hC24; clear hA24 hC24 hi024 hsz24) | (go_at_call 54; (refine calls_of_args (args' := #[.slice A412_0 ((rd_L3 l0_0 x13_1).take (x13_1 : Int).toNat).length c412_0, .func (.func 55) #[] #[]]) ?argeq ?_); (case argeq => rw [List.length_take, Nat.min_eq_left (by have h_ : x13_1 ≤ ((rd_L3 l0_0 x13_1).length : Int) := odt; omega)]); (with_reducible refine (Y60.calls _ _ ((rd_L3 l0_0 x13_1).take (x13_1 : Int).toNat)  true _ ?side1 ?side2 A20.out).mono ?_); (case side1 => exact cQ (Kd.C_below HR415.out bq)); (case side2 => exact HC415.out); rintro e w25 ⟨rfl, hb⟩; have _ := bK BK410 hb; have _ := bB hb; clear BK410 HB; rename_i BK410 HB; (try clear hb)))
        go_ret
        exact ⟨eE, bq⟩
       ·replace c21 := Bool.eq_false_iff.mpr c21
        subst c21
        have H1 : (Y30.l0 k1 l0_0 (l0_0.length : Int) (wrap64 (x13_1 + 1)) l0_0) = some r := by rw [if_neg (show ¬ (false = true) by decide)] at H; exact H
        clear H
        have H := H1
        clear H1
        have H' := aM H
        clear H
        have p412 : 0 ≤ (x13_1 : Int) := odt
        have q412 : x13_1 < (l0_0.length : Int) := odt
        obtain ⟨ad412, A412_0, c412_0, e412, hx412_0, hl412_0, hi412_0⟩ := at_L3 HR0_0.out x13_1 p412 q412
        cases e412
        replace hx412_0 := (HB.out.cell (World.block_lt_of_cell? w _ hx412_0)).trans hx412_0
        have HR412_0 := aM hi412_0
        have HC412_0 := aM hl412_0
        clear hi412_0 hl412_0
        replace p412 := eq_true p412
        replace q412 := eq_true q412
        have hcz26_0 := zc10 BK410
        have hfz26_0 := blk_frozen BK410.out 0
        go_wp2_with (first | ((with_reducible refine gate_callee (f := 37) rfl ?_); refine gL (some 21) Tryz.func37 #[.agg #[.slice (some ad412) l0_0.length c0_0]] ?_; (with_reducible refine (Y25.calls _ _ l0_0 t413 _ (cQ (Kd.C_below HR0_0.out HB.out)) HC0_0.out A14.out).mono ?_); rintro e w27 ⟨rfl, hb⟩; refine ⟨_, rfl, ?_⟩; have _ := bK BK410 hb; have _ := bB hb; clear BK410 HB; rename_i BK410 HB; (try clear hb)) | (go_at_call 53; (with_reducible refine (Y21.calls k1 _ _ (rd_L3 l0_0 x13_1) 0 12 true _ (cQ (Kd.C_below HR412_0.out HB.out)) HC412_0.out A16.out).mono ?_); rintro e w' ⟨rfl, ⟨nd, rfl⟩⟩; obtain ⟨i028, hi028, _, hsz28, _⟩ := info_parts info3; obtain ⟨hcut28, hA28, hC28⟩ := print_take_of (P := Tryz.prog) (Value.int .i64) 0 24 3 .i64 Tryz.underlying24 hi028 hsz28 A412_0 c412_0 (rd_L3 l0_0 x13_1) x13_1 (odt) (odt) HC412_0.out; have HR415 := aM (Kd.C_of_reads (h1 := fun _ => rfl) (hA28 _ (Kd.reads_of_C HR412_0.out))); have HC415 := aM hC28; clear hA28 hC28 hi028 hsz28) | (go_at_call 54; (refine calls_of_args (args' := #[.slice A412_0 ((rd_L3 l0_0 x13_1).take (x13_1 : Int).toNat).length c412_0, .func (.func 55) #[] #[]]) ?argeq ?_); (case argeq => rw [List.length_take, Nat.min_eq_left (by have h_ : x13_1 ≤ ((rd_L3 l0_0 x13_1).length : Int) := odt; omega)]); (with_reducible refine (Y60.calls _ _ ((rd_L3 l0_0 x13_1).take (x13_1 : Int).toNat)  false _ ?side1 ?side2 A20.out).mono ?_); (case side1 => exact cQ (Kd.C_below HR415.out bq)); (case side2 => exact HC415.out); rintro e w29 ⟨rfl, hb⟩; have _ := bK BK410 hb; have _ := bB hb; clear BK410 HB; rename_i BK410 HB; (try clear hb)))
        go_roundg k1
        case measure => have := HK1.out; omega
        case rel => exact ⟨(wrap64 (x13_1 + 1)), eR, H', ⟨by have := HK1.out; omega⟩, ⟨qQ BK410⟩, ⟨bq⟩⟩
      ·replace c17 := Bool.eq_false_iff.mpr c17
       subst c17
       have H1 : (some false) = some r := by rw [if_neg (show ¬ (false = true) by decide)] at H; exact H
       clear H
       have H := H1
       clear H1
       obtain rfl := Option.some.inj H
       have p412 : 0 ≤ (x13_1 : Int) := odt
       have q412 : x13_1 < (l0_0.length : Int) := odt
       obtain ⟨ad412, A412_0, c412_0, e412, hx412_0, hl412_0, hi412_0⟩ := at_L3 HR0_0.out x13_1 p412 q412
       cases e412
       replace hx412_0 := (HB.out.cell (World.block_lt_of_cell? w _ hx412_0)).trans hx412_0
       have HR412_0 := aM hi412_0
       have HC412_0 := aM hl412_0
       clear hi412_0 hl412_0
       replace p412 := eq_true p412
       replace q412 := eq_true q412
       have hcz30_0 := zc10 BK410
       have hfz30_0 := blk_frozen BK410.out 0
       go_wp2_with (first | ((with_reducible refine gate_callee (f := 37) rfl ?_); refine gL (some 21) Tryz.func37 #[.agg #[.slice (some ad412) l0_0.length c0_0]] ?_; (with_reducible refine (Y25.calls _ _ l0_0 t413 _ (cQ (Kd.C_below HR0_0.out HB.out)) HC0_0.out A14.out).mono ?_); rintro e w31 ⟨rfl, hb⟩; refine ⟨_, rfl, ?_⟩; have _ := bK BK410 hb; have _ := bB hb; clear BK410 HB; rename_i BK410 HB; (try clear hb)) | (go_at_call 53; (with_reducible refine (Y21.calls k1 _ _ (rd_L3 l0_0 x13_1) 0 12 false _ (cQ (Kd.C_below HR412_0.out HB.out)) HC412_0.out A16.out).mono ?_); rintro e w' ⟨rfl, ⟨nd, rfl⟩⟩))
       go_ret
       exact ⟨eE, bq⟩
     ·rw [if_neg c15] at H
      have c15b0 : (((rd_L3 l0_0 x13_1).length : Int) == t413) = false := beq_eq_false_iff_ne.mpr c15
      have c15b1 : (((rd_L3 l0_0 x13_1).length : Int) != t413) = true := bne_iff_ne.mpr c15
      obtain rfl := Option.some.inj H
      have p412 : 0 ≤ (x13_1 : Int) := odt
      have q412 : x13_1 < (l0_0.length : Int) := odt
      obtain ⟨ad412, A412_0, c412_0, e412, hx412_0, hl412_0, hi412_0⟩ := at_L3 HR0_0.out x13_1 p412 q412
      cases e412
      replace hx412_0 := (HB.out.cell (World.block_lt_of_cell? w _ hx412_0)).trans hx412_0
      have HR412_0 := aM hi412_0
      have HC412_0 := aM hl412_0
      clear hi412_0 hl412_0
      replace p412 := eq_true p412
      replace q412 := eq_true q412
      have hcz32_0 := zc10 BK410
      have hfz32_0 := blk_frozen BK410.out 0
      go_wp2_with (first | ((with_reducible refine gate_callee (f := 37) rfl ?_); refine gL (some 21) Tryz.func37 #[.agg #[.slice (some ad412) l0_0.length c0_0]] ?_; (with_reducible refine (Y25.calls _ _ l0_0 t413 _ (cQ (Kd.C_below HR0_0.out HB.out)) HC0_0.out A14.out).mono ?_); rintro e w33 ⟨rfl, hb⟩; refine ⟨_, rfl, ?_⟩; have _ := bK BK410 hb; have _ := bB hb; clear BK410 HB; rename_i BK410 HB; (try clear hb)))
      go_ret
      exact ⟨eE, bq⟩
    ·rw [if_neg c11] at H
     have c11b0 := decide_eq_false c11
     clear c11
     replace H := bS H
     obtain ⟨⟨t417, t420⟩, A34, H⟩ := H
     try dsimp only at H
     replace H := bS H
     obtain ⟨t423, A35, H⟩ := H
     try dsimp only at H
     by_cases c36 : t423 = true
     ·subst c36
      have H1 : (some false) = some r := by rw [if_pos rfl] at H; exact H
      clear H
      have H := H1
      clear H1
      obtain rfl := Option.some.inj H
      have hcz37_0 := zc10 BK410
      have hfz37_0 := blk_frozen BK410.out 0
      go_wp2_with (first | ((with_reducible refine gate_callee (f := 42) rfl ?_); refine gL (some 37) Tryz.func42 #[.agg #[.slice A0_0 l0_0.length c0_0]] ?_; (with_reducible refine (Y12.calls k1 _ _ l0_0 t417 t420 _ (cQ (Kd.C_below HR0_0.out HB.out)) HC0_0.out A34.out).mono ?_); rintro e w38 ⟨v418, v421, rfl, ho0, ho1, hb⟩; refine ⟨_, rfl, ?_⟩; have _ := aM (Kd.R_lower ho0 (below_size bq)); have _ := aM (Kd.R_lower ho1 (below_size bq)); have _ := bK BK410 hb; have _ := bB hb; clear BK410 HB; rename_i HO419 HO422 BK410 HB; (try clear hb); (try clear ho0); (try clear ho1); obtain ⟨Ao39, co39, eo39⟩ := Kd.R_slice HO419.out; subst eo39) | ((with_reducible refine gate_callee (f := 56) rfl ?_); refine gL (some 41) Tryz.func56 #[.slice Ao39 t417.length co39, .int .i64 0] ?_; (with_reducible refine (Y53.calls k1 _ _ t417 0 true _ (cQ ((Kd.R_reads' HO419.out).2.2)) ((Kd.R_reads' HO419.out).2.1) A35.out).mono ?_); rintro e w' ⟨rfl, ⟨nd, rfl⟩⟩; refine ⟨_, rfl, ?_⟩))
      go_ret
      exact ⟨eE, bq⟩
     ·replace c36 := Bool.eq_false_iff.mpr c36
      subst c36
      have H1 : ((Y53.f k1 t420 0).bind fun t424 => (if t424 = true then (some false) else ((Y35.f k1 l0_0).bind fun t425 => (some (decide (t425 ≤ 12)))))) = some r := by rw [if_neg (show ¬ (false = true) by decide)] at H; exact H
      clear H
      have H := H1
      clear H1
      replace H := bS H
      obtain ⟨t424, A40, H⟩ := H
      try dsimp only at H
      by_cases c41 : t424 = true
      ·subst c41
       have H1 : (some false) = some r := by rw [if_pos rfl] at H; exact H
       clear H
       have H := H1
       clear H1
       obtain rfl := Option.some.inj H
       have hcz42_0 := zc10 BK410
       have hfz42_0 := blk_frozen BK410.out 0
       go_wp2_with (first | ((with_reducible refine gate_callee (f := 42) rfl ?_); refine gL (some 37) Tryz.func42 #[.agg #[.slice A0_0 l0_0.length c0_0]] ?_; (with_reducible refine (Y12.calls k1 _ _ l0_0 t417 t420 _ (cQ (Kd.C_below HR0_0.out HB.out)) HC0_0.out A34.out).mono ?_); rintro e w43 ⟨v418, v421, rfl, ho0, ho1, hb⟩; refine ⟨_, rfl, ?_⟩; have _ := aM (Kd.R_lower ho0 (below_size bq)); have _ := aM (Kd.R_lower ho1 (below_size bq)); have _ := bK BK410 hb; have _ := bB hb; clear BK410 HB; rename_i HO419 HO422 BK410 HB; (try clear hb); (try clear ho0); (try clear ho1); obtain ⟨Ao44, co44, eo44⟩ := Kd.R_slice HO419.out; subst eo44) | ((with_reducible refine gate_callee (f := 56) rfl ?_); refine gL (some 41) Tryz.func56 #[.slice Ao44 t417.length co44, .int .i64 0] ?_; (with_reducible refine (Y53.calls k1 _ _ t417 0 false _ (cQ ((Kd.R_reads' HO419.out).2.2)) ((Kd.R_reads' HO419.out).2.1) A35.out).mono ?_); rintro e w' ⟨rfl, ⟨nd, rfl⟩⟩; refine ⟨_, rfl, ?_⟩; obtain ⟨Ao45, co45, eo45⟩ := Kd.R_slice HO422.out; subst eo45) | (go_at_call 56; (with_reducible refine (Y53.calls k1 _ _ t420 0 true _ (cQ ((Kd.R_reads' HO422.out).2.2)) ((Kd.R_reads' HO422.out).2.1) A40.out).mono ?_); rintro e w' ⟨rfl, ⟨nd, rfl⟩⟩))
       go_ret
       exact ⟨eE, bq⟩
      ·replace c41 := Bool.eq_false_iff.mpr c41
       subst c41
       have H1 : ((Y35.f k1 l0_0).bind fun t425 => (some (decide (t425 ≤ 12)))) = some r := by rw [if_neg (show ¬ (false = true) by decide)] at H; exact H
       clear H
       have H := H1
       clear H1
       replace H := bS H
       obtain ⟨t425, A46, H⟩ := H
       try dsimp only at H
       obtain rfl := Option.some.inj H
       have hcz47_0 := zc10 BK410
       have hfz47_0 := blk_frozen BK410.out 0
       go_wp2_with (first | ((with_reducible refine gate_callee (f := 42) rfl ?_); refine gL (some 37) Tryz.func42 #[.agg #[.slice A0_0 l0_0.length c0_0]] ?_; (with_reducible refine (Y12.calls k1 _ _ l0_0 t417 t420 _ (cQ (Kd.C_below HR0_0.out HB.out)) HC0_0.out A34.out).mono ?_); rintro e w48 ⟨v418, v421, rfl, ho0, ho1, hb⟩; refine ⟨_, rfl, ?_⟩; have _ := aM (Kd.R_lower ho0 (below_size bq)); have _ := aM (Kd.R_lower ho1 (below_size bq)); have _ := bK BK410 hb; have _ := bB hb; clear BK410 HB; rename_i HO419 HO422 BK410 HB; (try clear hb); (try clear ho0); (try clear ho1); obtain ⟨Ao49, co49, eo49⟩ := Kd.R_slice HO419.out; subst eo49) | ((with_reducible refine gate_callee (f := 56) rfl ?_); refine gL (some 41) Tryz.func56 #[.slice Ao49 t417.length co49, .int .i64 0] ?_; (with_reducible refine (Y53.calls k1 _ _ t417 0 false _ (cQ ((Kd.R_reads' HO419.out).2.2)) ((Kd.R_reads' HO419.out).2.1) A35.out).mono ?_); rintro e w' ⟨rfl, ⟨nd, rfl⟩⟩; refine ⟨_, rfl, ?_⟩; obtain ⟨Ao50, co50, eo50⟩ := Kd.R_slice HO422.out; subst eo50) | (go_at_call 56; (with_reducible refine (Y53.calls k1 _ _ t420 0 false _ (cQ ((Kd.R_reads' HO422.out).2.2)) ((Kd.R_reads' HO422.out).2.1) A40.out).mono ?_); rintro e w' ⟨rfl, ⟨nd, rfl⟩⟩; have hcz51_0 := zc10 BK410; have hfz51_0 := blk_frozen BK410.out 0) | (go_at_call 44; (with_reducible refine (Y35.calls k1 _ _ l0_0 t425 _ (cQ (Kd.C_below HR0_0.out bq)) HC0_0.out A46.out).mono ?_); rintro e w52 ⟨rfl, hb⟩; have _ := aM (Kd.R_below (rQ HO419) hb); have _ := aM (Kd.R_below (rQ HO422) hb); have _ := bK BK410 hb; have _ := bB hb; clear HO419 HO422 BK410 HB; rename_i HO419 HO422 BK410 HB; (try clear hb)))
       go_ret
       exact ⟨eE, bq⟩
def Y4.rel.relRow (p : Nat → Nat → Bool) (i : Nat) : Nat → Int
  | 0 => 0
  | j + 1 => if p i j = true then Go.bits .or .i64 (Y4.rel.relRow p i j) (shl .i64 1 (j : Int)) else Y4.rel.relRow p i j
def Y4.rel.relL (p : Nat → Nat → Bool) (n i j : Nat) : List Int := (List.range n).map fun (a : Nat) => if a < i then Y4.rel.relRow p a n else if a = i then Y4.rel.relRow p i j else 0
open Y4.rel Go.Proofs.YtcodionjhcmfhaaGreatDoor.Live in
theorem Y4.rel.relL_len (p : Nat → Nat → Bool) (n i j : Nat) : (relL p n i j).length = n := by simp [relL]
open Y4.rel Go.Proofs.YtcodionjhcmfhaaGreatDoor.Live in
theorem Y4.rel.relL_get (p : Nat → Nat → Bool) (n i j : Nat) (h : i < n) : (relL p n i j).getD i 0 = relRow p i j := by simp [relL, List.getD_eq_getElem?_getD, h]
open Y4.rel Go.Proofs.YtcodionjhcmfhaaGreatDoor.Live in
theorem Y4.rel.relL_set (p : Nat → Nat → Bool) (n i j : Nat) (x : Int) (h : i < n) (hx : relRow p i (j + 1) = x) : (relL p n i j).set i x = relL p n i (j + 1) := by
 subst hx
 apply List.ext_getElem (by simp [relL])
 intro a h1 h2
 rw [List.getElem_set]
 simp only [relL, List.getElem_map, List.getElem_range]
 by_cases c : i = a
 · subst c; simp
 · rw [if_neg c, if_neg (show ¬ a = i from fun h => c h.symm)]; simp [show ¬ a = i from fun h => c h.symm]
open Y4.rel Go.Proofs.YtcodionjhcmfhaaGreatDoor.Live in
theorem Y4.rel.relL_same (p : Nat → Nat → Bool) (n i j : Nat) (hx : p i j ≠ true) : relL p n i j = relL p n i (j + 1) := by
 simp only [relL, relRow, if_neg hx]
open Y4.rel Go.Proofs.YtcodionjhcmfhaaGreatDoor.Live in
theorem Y4.rel.relL_next (p : Nat → Nat → Bool) (n i : Nat) : relL p n i n = relL p n (i + 1) 0 := by
 simp only [relL]
 apply List.map_congr_left
 intro a _
 by_cases c : a < i
 · rw [if_pos c, if_pos (by omega)]
 · {
 by_cases c2 : a = i
 · subst c2; simp
 · rw [if_neg c, if_neg c2, if_neg (by omega)]; simp [relRow]}
open Y4.rel Go.Proofs.YtcodionjhcmfhaaGreatDoor.Live in
theorem Y4.rel.relL_start (p : Nat → Nat → Bool) (n : Nat) : relL p n 0 0 = List.replicate n 0 := by
 apply List.ext_getElem (by simp [relL]); intro a h2 h3; simp [relL, relRow]
open Y4.rel Go.Proofs.YtcodionjhcmfhaaGreatDoor.Live in
theorem Y4.rel.relL_end (p : Nat → Nat → Bool) (n : Nat) : relL p n n 0 = (List.range n).map fun a => relRow p a n := by
 simp only [relL]
 apply List.map_congr_left
 intro a ha
 rw [if_pos (List.mem_range.1 ha)]
theorem Y4.rel.shl_one (j : Nat) (h : j ≤ 60) : shl .i64 1 (j : Int) = wrap64 (2 ^ j) := by
 unfold shl
 rw [Int.toNat_natCast, show IntKind.i64.bits = 64 from rfl, Nat.min_eq_left (by omega), Int.one_mul]; exact Go.Proofs.YtcodionjhcmfhaaGreatDoorW.PrintLast.i64_w _
open Y4.rel Go.Proofs.YtcodionjhcmfhaaGreatDoor.Live in
theorem Y4.rel.gen (n : Nat) (g : Nat) (p : Nat → Nat → Bool) (w : World) (hn : n ≤ 60)
    (hcall : ∀ (w1 : World) (i j : Nat), i < n → j < n → Below w.heap.size w w1 → Calls Tryz.prog 87 #[.int .i64 (i : Int), .int .i64 (j : Int), .pointer (some ⟨g, 0, none⟩)] w1 fun e w2 => e = .returned (.bool (p i j)) ∧ Drawn0 w1 w2) :
    Calls Tryz.prog 78 #[.int .i64 (n : Int), .func (.func 87) #[] #[.pointer (some ⟨g, 0, none⟩)]] w fun e w' => ∃ v1_ : Value, e = .returned (.agg #[.int .i64 (n : Int), v1_]) ∧ Kd.R (Kd.int .i64) 3 w' w.heap.size (fun _ => True) v1_ ((List.range n).map fun a => relRow p a n) ∧ Below w.heap.size w w' := by
 have HF := aM hcall; clear hcall
 have H := Live.start w
 have h1 : ((n : Int) : Int).toNat = n := Int.toNat_natCast _
 go_enter Tryz.func78, Tryz.ntmps78
 go_wp2_with (first | ((with_reducible refine gate_dst (N := 10) rfl ?_); refine Kd.R_make (Kd.int .i64) _ 3 rfl (N := 10) rfl 24 _ _ rfl (n : Int) rfl rfl Tryz.underlying24 (.int .i64 0) 8 info3 rfl (by decide) (by omega) 0 (ok := fun _ => True) (okp := fun _ => True) rfl (fun _ hk => hk) trivial (by omega) (by omega) (Below.refl _ _) (Nat.le_refl _) ?_; intro v_ w1 hs_ hb hg_ hnew_; clear hg_ hnew_; replace H := (H.new #[.int .i64 0, .slice none 0 0] 26).add (o := row _ _ _ _) hb hs_; clear hs_ hb; obtain ⟨Ao, co, rfl, _, _⟩ := H.form 1 rfl))
 replace H := H.new #[.int .i64 (n : Int), .slice Ao (List.replicate ((n : Int) : Int).toNat (0 : Int)).length co] 26
 simp only [h1, List.length_replicate, List.nil_append, List.cons_append] at H
 rw [← relL_start p n] at H
 go_loopg [13] (n + 1) (fun kq v13 w' => ∃ i : Nat, v13 = .int .i64 (i : Int) ∧ Aside0 (i ≤ n ∧ kq = n - i + 1) ∧ Aside0 (Live w w' [var w.heap.size #[.int .i64 0, .slice none 0 0] 26, row (Kd.int .i64) 3 (.slice Ao n co) (relL p n i 0), var w1.heap.size #[.int .i64 (n : Int), .slice Ao n co] 26]))
 case atStart => exact ⟨0, rfl, ⟨Nat.zero_le _, rfl⟩, ⟨H⟩⟩
 case round => (
 clear H
 obtain ⟨i, rfl, HI, H⟩ := hrel
 rename World => wq
 by_cases ci : i < n
 · {
 have c1 : decide ((i : Int) < (n : Int)) = true := decide_eq_true (by omega)
 have c2 : decide (i < n) = true := decide_eq_true ci
 have HI1 : Aside0 (i + 1 ≤ n ∧ n - i = n - (i + 1) + 1) := ⟨by omega⟩
 have HIM : Aside0 (n - i < n - i + 1) := ⟨by omega⟩
 have HIW : Aside0 (Value.int .i64 (wrap64 ((i : Int) + 1)) = .int .i64 ((i + 1 : Nat) : Int)) := ⟨by rw [show wrap64 ((i : Int) + 1) = ((i + 1 : Nat) : Int) from by unfold wrap64; omega]⟩
 go_wp2_with (fail)
 go_loopg [17] (n + 1) (fun kq v17 w' => ∃ j : Nat, v17 = .int .i64 (j : Int) ∧ Aside0 (j ≤ n ∧ kq = n - j + 1) ∧ Aside0 (Live w w' [var w.heap.size #[.int .i64 0, .slice none 0 0] 26, row (Kd.int .i64) 3 (.slice Ao n co) (relL p n i j), var w1.heap.size #[.int .i64 (n : Int), .slice Ao n co] 26]))
 case atStart => exact ⟨0, rfl, ⟨Nat.zero_le _, rfl⟩, H⟩
 case round => (
 clear H
 obtain ⟨j, rfl, HJ, H⟩ := hrel
 by_cases cj : j < n
 · {
 have d1 : decide ((j : Int) < (n : Int)) = true := decide_eq_true (by omega)
 have d2 : decide (j < n) = true := decide_eq_true cj
 have HJ1 : Aside0 (j + 1 ≤ n ∧ n - j = n - (j + 1) + 1) := ⟨by omega⟩
 have HJM : Aside0 (n - j < n - j + 1) := ⟨by omega⟩
 have HJW : Aside0 (Value.int .i64 (wrap64 ((j : Int) + 1)) = .int .i64 ((j + 1 : Nat) : Int)) := ⟨by rw [show wrap64 ((j : Int) + 1) = ((j + 1 : Nat) : Int) from by unfold wrap64; omega]⟩
 have HC := aM (HF.out wr i j ci cj H.out.below)
 go_wp2_with (fail)
 refine HC.out.mono ?_
 rintro e w' ⟨rfl, nd, rfl⟩
 replace H := aM (H.out.drewN nd)
 generalize wr.drewN nd = wd at H ⊢
 obtain ⟨go1, c', e1, _, _⟩ := H.out.form1 1 rfl (by rw [relL_len]; omega)
 injection e1 with ea en ec
 subst ea; subst ec; clear en
 cases hq : p i j with
 | true => {
 have hbo : wd.cell? ⟨w1.heap.size, 1, none⟩ = some (.slice (some ⟨go1, 0, none⟩) n co) := H.out.cell 2 rfl 1
 obtain ⟨hxc, hfc⟩ := H.out.cellI 1 rfl i (by rw [relL_len]; omega)
 rw [relL_get _ _ _ _ ci] at hxc
 have HN := aM (H.out.putI 1 rfl i (Go.bits .or .i64 (relRow p i j) (wrap64 (2 ^ j))))
 rw [relL_set p n i j _ ci (by rw [relRow, if_pos hq, shl_one j (by omega)])] at HN
 go_wp2_with (fail)
 go_region
 go_wp2
 all_goals go_roundg (n - j)
 case measure => have := HJ.out; omega
 case rel => exact ⟨j + 1, rfl, HJ1, ⟨HN.out.drew⟩⟩}
 | false => {
 rw [relL_same p n i j (by rw [hq]; simp)] at H
 go_wp2
 go_roundg (n - j)
 case measure => have := HJ.out; omega
 case rel => exact ⟨j + 1, rfl, HJ1, H⟩}}
 · {
 have d1 : decide ((j : Int) < (n : Int)) = false := decide_eq_false (by omega)
 have d2 : decide (j < n) = false := decide_eq_false cj
 obtain rfl : j = n := by have := HJ.out; omega
 rw [relL_next] at H
 go_wp2
 go_roundg (j - i)
 case measure => have := HI.out; omega
 case rel => exact ⟨i + 1, rfl, HI1, H⟩})}
 · {
 have c1 : decide ((i : Int) < (n : Int)) = false := decide_eq_false (by omega)
 have c2 : decide (i < n) = false := decide_eq_false ci
 obtain rfl : i = n := by have := HI.out; omega
 rw [relL_end] at H
 have k1 : wq.heap[w1.heap.size]? = some (.cells #[.int .i64 (i : Int), .slice Ao i co] 26 (0, 0)) := H.out.blk 2 rfl
 have k2 : wq.cell? ⟨w1.heap.size, 0, none⟩ = some (.int .i64 (i : Int)) := H.out.cell 2 rfl 0
 have k3 : wq.cell? ⟨w1.heap.size, 1, none⟩ = some (.slice Ao i co) := H.out.cell 2 rfl 1
 have k4 : wq.cell? ⟨w.heap.size, 0, none⟩ = some (.int .i64 0) := H.out.cell 0 rfl 0
 have k5 : wq.cell? ⟨w.heap.size, 1, none⟩ = some (.slice none 0 0) := H.out.cell 0 rfl 1
 have k6 : ∀ j, wq.frozen? ⟨w.heap.size, j, none⟩ = false := H.out.frozen 0 rfl
 have HZ := aM ((H.out.setVar 0 rfl 0 (.int .i64 (i : Int))).setVar 0 rfl 1 (.slice Ao i co))
 go_wp2
 refine bodyPost_ret (results_cell_row rfl _ _ w.heap.size 26 #[.int .i64 (i : Int), .slice Ao i co] (0, 0) _ rfl (HZ.out.blk 0 rfl) Tryz.underlying26 rfl (by kernel_rfl)) rfl ?_
 exact ⟨_, rfl, HZ.out.get 1 rfl, HZ.out.below⟩})
def Y4.before (xs : List S70) (i j : Nat) : Bool := decide ((rd_T70 xs (i : Int)).f1 < (rd_T70 xs (j : Int)).f0)
def Y4.f (l0 : List S70) : Option (Int × List Int) := if l0.length ≤ 60 then some ((l0.length : Int), (List.range l0.length).map fun a => Y4.rel.relRow (Y4.before l0) a l0.length) else none
set_option maxHeartbeats 4000000 in
set_option maxRecDepth 100000 in
theorem Y4.ask (A : Option Addr) (c : Nat) (xs : List S70) (g : Nat) (i j : Nat) (w : World) (hg : w.cell? ⟨g, 0, none⟩ = some (.slice A xs.length c)) (hr : Kd.C k70 w A xs.length xs) (hi : i < xs.length) (hj : j < xs.length) :
    Calls Tryz.prog 87 #[.int .i64 (i : Int), .int .i64 (j : Int), .pointer (some ⟨g, 0, none⟩)] w fun e w' => e = .returned (.bool (Y4.before xs i j)) ∧ Drawn0 w w' := by
 obtain ⟨ad, rfl, hx0, hx1⟩ := at_T70 hr (i : Int) (by omega) (by omega)
 obtain ⟨ad2, e2, hy0, hy1⟩ := at_T70 hr (j : Int) (by omega) (by omega)
 obtain rfl : ad = ad2 := by injection e2
 clear e2 hr
 have h1 : decide ((i : Int) < (xs.length : Int)) = true := decide_eq_true (by omega)
 have h2 : decide ((j : Int) < (xs.length : Int)) = true := decide_eq_true (by omega)
 simp only [Int.toNat_natCast] at hx0 hx1 hy0 hy1
 go_enter Tryz.func87, Tryz.ntmps87
 go_wp2
 go_quiet (fail)
 go_wp2
 go_ret
 exact ⟨rfl, ⟨nq, rfl⟩⟩
set_option maxHeartbeats 4000000 in
set_option maxRecDepth 100000 in
open Go.Proofs.YtcodionjhcmfhaaGreatDoor.Live in
theorem Y4.calls (A0 : Option Addr) (c0 : Nat) (l0 : List S70) (r1 : Int) (r2 : List Int) (w : World) (hr0 : Kd.C k70 w A0 l0.length l0) (hc0 : l0.length ≤ c0) (h : Y4.f l0 = some (r1, r2)) :
    Calls Tryz.prog 45 #[.slice A0 l0.length c0] w fun e w' => ∃ v1_ : Value, e = .returned (.agg #[.int .i64 r1, v1_]) ∧ Kd.R (Kd.int .i64) 3 w' w.heap.size (fun _ => True) v1_ r2 ∧ Below w.heap.size w w' := by
 unfold Y4.f at h
 by_cases hn : l0.length ≤ 60
 · {
 rw [if_pos hn] at h
 obtain ⟨rfl, rfl⟩ := Prod.mk.inj (Option.some.inj h)
 clear h
 have H := ((Live.start w).new #[.slice A0 l0.length c0] 68).new #[.int .i64 0, .slice none 0 0] 26
 rw [size_alloc] at H
 have HH := aM H; clear H
 have HC := aM hr0; clear hr0
 go_enter Tryz.func45, Tryz.ntmps45
 go_wp2_with (fail)
 refine (Y4.rel.gen l0.length w.heap.size (Y4.before l0) _ hn ?_).mono ?_
 · {
 intro w1 i j hi hj hb
 have H1 := HH.out.step hb
 exact Y4.ask A0 c0 l0 w.heap.size i j w1 (H1.cell 0 rfl 0) (Kd.C_below HC.out H1.below) hi hj}
 rintro e w1 ⟨v_, rfl, hs_, hb⟩
 have H := HH.out.add (o := row _ _ _ _) hb hs_
 clear hb hs_ HH
 obtain ⟨A, c, rfl, _, _⟩ := H.form 2 rfl
 generalize hL : (List.range l0.length).map (fun a => Y4.rel.relRow (Y4.before l0) a l0.length) = L at H ⊢
 have HL := aM hL; clear hL
 have k4 : w1.cell? ⟨w.heap.size + 1, 0, none⟩ = some (.int .i64 0) := H.cell 1 rfl 0
 have k5 : w1.cell? ⟨w.heap.size + 1, 1, none⟩ = some (.slice none 0 0) := H.cell 1 rfl 1
 have k6 : ∀ j, w1.frozen? ⟨w.heap.size + 1, j, none⟩ = false := H.frozen 1 rfl
 have HZ := aM ((H.setVar 1 rfl 0 (.int .i64 (l0.length : Int))).setVar 1 rfl 1 (.slice A L.length c))
 clear H
 go_wp2
 refine bodyPost_ret (results_cell_row rfl _ _ (w.heap.size + 1) 26 #[.int .i64 (l0.length : Int), .slice A L.length c] (0, 0) _ rfl (HZ.out.blk 1 rfl) Tryz.underlying26 rfl (by kernel_rfl)) rfl ?_
 exact ⟨_, rfl, by rw [HL.out]; exact HZ.out.get 2 rfl, HZ.out.below⟩}
 · rw [if_neg hn] at h; exact absurd h (by simp)
mutual
def Y9.j0 : Nat → Bool → List (List Int) → Option (Int × List Int × Bool)
 | 0, _, _ => none
 | k + 1, x16, x427000 => if x16 = true then (some (0, ([] : List Int), false)) else (Y9.l0 k (([] : List (S70))) x427000 (x427000.length : Int) 0)
def Y9.l0 : Nat → List (S70) → List (List Int) → Int → Int → Option (Int × List Int × Bool)
 | 0, _, _, _, _ => none
 | k + 1, x4, x20, x21, x22 => if x22 < x21 then (if 0 ≤ x22 then (if x22 < (x20.length : Int) then (Y9.l1 k x4 x22 x20 x21 x22 (rd_L3 x20 x22) ((rd_L3 x20 x22).length : Int) 0) else (none)) else (none)) else ((Y4.f x4).bind fun bt433 => (some (bt433.1, bt433.2, true)))
def Y9.l1 : Nat → List (S70) → Int → List (List Int) → Int → Int → List Int → Int → Int → Option (Int × List Int × Bool)
 | 0, _, _, _, _, _, _, _, _ => none
 | k + 1, x4, x5, x20, x21, x22, x27, x28, x29 => if x29 < x28 then (if 0 ≤ x29 then (if x29 < (x27.length : Int) then (Y9.l2 k x4 x5 x29 x20 x21 x22 x27 x28 x29 (rd x27 x29) 0) else (none)) else (none)) else (Y9.l0 k x4 x20 x21 (wrap64 (x22 + 1)))
def Y9.l2 : Nat → List (S70) → Int → Int → List (List Int) → Int → Int → List Int → Int → Int → Int → Int → Option (Int × List Int × Bool)
 | 0, _, _, _, _, _, _, _, _, _, _, _ => none
 | k + 1, x4, x5, x7, x20, x21, x22, x27, x28, x29, x34, x35 => if x35 < x34 then (if x4.length < 8796093022208 then (Y9.l2 k (x4 ++ [(⟨x5, x7⟩ : S70)]) x5 x7 x20 x21 x22 x27 x28 x29 x34 (wrap64 (x35 + 1))) else (none)) else (Y9.l1 k x4 x5 x20 x21 x22 x27 x28 (wrap64 (x29 + 1)))
end
def Y9.f (k : Nat) (l0_0 : List (List Int)) : Option (Int × List Int × Bool) := (Y30.f k l0_0).bind fun t428 => (if t428 = true then ((Y35.f k l0_0).bind fun t429 => (Y9.j0 k (decide (t429 > 10)) l0_0)) else (Y9.j0 k true l0_0))
theorem Y9.calls (k : Nat) (A0_0 : Option Addr) (c0_0 : Nat) (l0_0 : List (List Int)) (r1 : Int) (r2 : List Int) (r3 : Bool) (w : World) (hr0_0 : Kd.C (Kd.slice 3 (Kd.int .i64)) w A0_0 l0_0.length l0_0) (hc0_0 : l0_0.length ≤ c0_0) (h : Y9.f k l0_0 = some (r1, r2, r3)) :
  Calls Tryz.prog 16 #[.agg #[.slice A0_0 l0_0.length c0_0]] w fun e w' => ∃ v1_ : Value, e = .returned (.tuple #[.agg #[.int .i64 r1, v1_], .bool r3]) ∧ Kd.R (Kd.int .i64) 3 w' w.heap.size (fun _ => True) v1_ r2 ∧ Below w.heap.size w w' := by
 have hu30 := Tryz.underlying30
 have hu26 := Tryz.underlying26
 have hu70 := Tryz.underlying70
 have HR0_0 := aM hr0_0
 have HC0_0 := aM hc0_0
 clear hr0_0 hc0_0
 have HB := aM (Below.refl w.heap.size w)
 unfold Y9.f at h
 have H := h
 clear h
 have HC2 := aM H
 clear H
 go_enter Tryz.func16, Tryz.ntmps16
 go_upto_region 1 with (first | ((with_reducible refine gate_dst (N := 1) rfl ?_); refine bF 1 30 #[.slice A0_0 l0_0.length c0_0] bq ?_; intro gb426 w3 hg hb _ _ _ _; clear HB; rename_i HB BK426 GW426 GE426; clear hb hg) | ((with_reducible refine gate_dst (N := 2) rfl ?_); refine bE 2 26 #[.int .i64 0, .slice none 0 0] ?_; intro gb427 hg w4 hbox hb; have _ := bK BK426 hb; have _ := bB hb; have _ := aM (hbox); have _ := aM ((gS hg)); have _ := aM ((gS hg)); have _ := aM (nL hg BK426); have _ := aM (nG hg BK426); clear BK426 HB; rename_i BK426 HB BK427 GW427 GE427 NB426_427 NB427_426; clear hb hbox hg))
 (try simp only [Act.put, List.setIfInBounds_toArray, List.set_cons_zero, List.set_cons_succ])
 go_cut [16] (fun v16 wc => ∃ (kq : Nat) (x16_1 : Bool), v16 = .bool x16_1 ∧ Aside0 (Y9.j0 kq x16_1 l0_0 = some (r1, r2, r3)) ∧ Aside0 (kq ≤ k) ∧ Aside0 (wc.heap[gb426]? = some (.cells #[(.slice A0_0 l0_0.length c0_0)] 30 (0, 0))) ∧ Aside0 (wc.heap[gb427]? = some (.cells #[.int .i64 0, (.slice none 0 0)] 26 (0, 0))) ∧ Aside0 (Below w.heap.size w wc))
 case first =>
  have H := HC2.out
  clear HC2
  replace H := bS H
  obtain ⟨t428, A5, H⟩ := H
  try dsimp only at H
  by_cases c6 : t428 = true
  ·subst c6
   have H1 : ((Y35.f k l0_0).bind fun t429 => (Y9.j0 k (decide (t429 > 10)) l0_0)) = some (r1, r2, r3) := by rw [if_pos rfl] at H; exact H
   clear H
   have H := H1
   clear H1
   replace H := bS H
   obtain ⟨t429, A7, H⟩ := H
   try dsimp only at H
   have H' := aM H
   clear H
   have hnb8 := NB426_427.out
   have hnc8 := NB427_426.out
   have hcz9_0 := zc10 BK426
   have hfz9_0 := blk_frozen BK426.out 0
   go_wp2_with (first | ((with_reducible refine gate_callee (f := 26) rfl ?_); refine gL (some 10) Tryz.func26 #[.agg #[.slice A0_0 l0_0.length c0_0]] ?_; (with_reducible refine (Y30.calls k _ _ l0_0 true _ (cQ (Kd.C_below HR0_0.out HB.out)) HC0_0.out A5.out).mono ?_); rintro e w10 ⟨rfl, hb⟩; refine ⟨_, rfl, ?_⟩; have _ := bK BK426 hb; have _ := bK BK427 hb; have _ := bB hb; clear BK426 BK427 HB; rename_i BK426 BK427 HB; (try clear hb); have hcz11_0 := zc10 BK426; have hfz11_0 := blk_frozen BK426.out 0) | (go_at_call 44; (with_reducible refine (Y35.calls k _ _ l0_0 t429 _ (cQ (Kd.C_below HR0_0.out HB.out)) HC0_0.out A7.out).mono ?_); rintro e w12 ⟨rfl, hb⟩; have _ := bK BK426 hb; have _ := bK BK427 hb; have _ := bB hb; clear BK426 BK427 HB; rename_i BK426 BK427 HB; (try clear hb)))
   go_meet
   case rel => exact ⟨_, (decide (t429 > 10)), eR, H', ⟨by first | omega | exact Nat.le_refl _⟩, ⟨qQ BK426⟩, ⟨qQ BK427⟩, ⟨bq⟩⟩
  ·replace c6 := Bool.eq_false_iff.mpr c6
   subst c6
   have H1 : (Y9.j0 k true l0_0) = some (r1, r2, r3) := by rw [if_neg (show ¬ (false = true) by decide)] at H; exact H
   clear H
   have H := H1
   clear H1
   have H' := aM H
   clear H
   have hnb13 := NB426_427.out
   have hnc13 := NB427_426.out
   have hcz14_0 := zc10 BK426
   have hfz14_0 := blk_frozen BK426.out 0
   go_wp2_with (first | ((with_reducible refine gate_callee (f := 26) rfl ?_); refine gL (some 10) Tryz.func26 #[.agg #[.slice A0_0 l0_0.length c0_0]] ?_; (with_reducible refine (Y30.calls k _ _ l0_0 false _ (cQ (Kd.C_below HR0_0.out HB.out)) HC0_0.out A5.out).mono ?_); rintro e w15 ⟨rfl, hb⟩; refine ⟨_, rfl, ?_⟩; have _ := bK BK426 hb; have _ := bK BK427 hb; have _ := bB hb; clear BK426 BK427 HB; rename_i BK426 BK427 HB; (try clear hb)))
   go_meet
   case rel => exact ⟨_, (true), eR, H', ⟨by first | omega | exact Nat.le_refl _⟩, ⟨qQ BK426⟩, ⟨qQ BK427⟩, ⟨bq⟩⟩
 case rest =>
  clear HC2
  try clear c6
  try clear hcz11_0
  try clear hcz14_0
  try clear hcz9_0
  try clear hfz11_0
  try clear hfz14_0
  try clear hfz9_0
  obtain ⟨kq, x16_1, rfl, HA, HJ1, BK426, BK427, HB⟩ := hcut
  cases kq with
  | zero => exact absurd HA.out (by simp [Y9.j0])
  | succ kj1 =>
   have H := HA.out
   clear HA
   simp only [Y9.j0] at H
   by_cases c16 : x16_1 = true
   ·subst c16
    have H1 : (some (0, ([] : List Int), false)) = some (r1, r2, r3) := by rw [if_pos rfl] at H; exact H
    clear H
    have H := H1
    clear H1
    simp only [Option.some.injEq, Prod.mk.injEq] at H
    obtain ⟨rfl, rfl, rfl⟩ := H
    have hnb17 := NB427_426.out
    have hnc17 := NB426_427.out
    have hcz18_0 := zc20 BK427
    have hcz18_1 := zc21 BK427
    have hfz18_0 := blk_frozen BK427.out 0
    have hfz18_1 := blk_frozen BK427.out 1
    go_wp2
    refine bodyPost_ret (results_ct rfl _ _ gb427 26 #[.int .i64 0, .slice none 0 0] (0, 0) _ rfl (by (with_reducible repeat first|apply qN|apply qD|apply qA); refine blk_put (cs := #[.int .i64 0, .slice none 0 0]) ?_ 1 _ rfl; (with_reducible repeat first|apply qN|apply qD|apply qA); refine blk_put (cs := #[.int .i64 0, .slice none 0 0]) ?_ 0 _ rfl; (with_reducible repeat first|apply qN|apply qD|apply qA); exact BK427.out) Tryz.underlying26 rfl (by kernel_rfl)) rfl ?_
    exact ⟨_, eE, by first | exact Kd.R_nil _ _ _ _ _ | exact Kd.N_nil _ _ _ _ _ | exact Kd.V_nil _ _ _ _ _ | exact Kd.Q_nil _ _ _ _ _ | exact Kd.S_nil _ _ _ _ _, bq⟩
   ·replace c16 := Bool.eq_false_iff.mpr c16
    subst c16
    have H1 : (Y9.l0 kj1 (([] : List (S70))) l0_0 (l0_0.length : Int) 0) = some (r1, r2, r3) := by rw [if_neg (show ¬ (false = true) by decide)] at H; exact H
    clear H
    have H := H1
    clear H1
    obtain ⟨y430, hy430⟩ := nE ((([] : List (S70))) : List (S70))
    try rw [← hy430] at H
    try with_reducible replace H := (Option.bind_some _ _).symm.trans H
    try dsimp only at H
    have Ny430 := aM hy430
    clear hy430
    have H' := aM H
    clear H
    go_wp2_with (first | ((with_reducible refine gate_dst (N := 18) rfl ?_); refine Kd.R_lit k70 _ 70 ?hg (N := 18) ?hd (xs := ([] : List (S70))) (inner := []) (ok := fun _ => True) (okp := fun _ => True) ?hr ?hp (fun _ hk => hk) trivial (Below.refl _ _) (Nat.le_refl _) (by simp) ?_; (case hd => rfl); (case hg => rfl); (case hr => first | (go_simp; done) | (go_simp; rfl)); (case hp => exact (Reps.none _ _)); intro v431 w19 ho20 hb hg_ hnew_; clear hg_ hnew_; (first | rw [← Ny430.out] at ho20 | (simp only [Int.reduceToNat] at ho20; rw [← Ny430.out] at ho20)); have _ := aM (Kd.R_lower ho20 (below_size bq)); have _ := bK BK426 hb; have _ := bK BK427 hb; have _ := bB hb; clear BK426 BK427 HB; rename_i HO432 BK426 BK427 HB; clear hb ho20; have hnb21 := NB426_427.out; have hnc21 := NB427_426.out; have hcz22_0 := zc10 BK426; have hfz22_0 := blk_frozen BK426.out 0))
    go_loopg [4, 22] kj1 (fun kq v4 v22 w' => ∃ (x4_2 : List (S70)) (x22_2 : Int), v22 = .int .i64 x22_2 ∧ Aside0 (Y9.l0 kq x4_2 l0_0 (l0_0.length : Int) x22_2 = some (r1, r2, r3)) ∧ Aside0 (kq ≤ kj1) ∧ Aside0 (Kd.R k70 70 w' w.heap.size (fun _ => True) v4 x4_2) ∧ Aside0 (w'.heap[gb426]? = some (.cells #[(.slice A0_0 l0_0.length c0_0)] 30 (0, 0))) ∧ Aside0 (w'.heap[gb427]? = some (.cells #[.int .i64 0, (.slice none 0 0)] 26 (0, 0))) ∧ Aside0 (Below w.heap.size w w'))
    case atStart => exact ⟨(y430), (0), eR, H', ⟨Nat.le_refl _⟩, ⟨rQ HO432⟩, ⟨qQ BK426⟩, ⟨qQ BK427⟩, ⟨bq⟩⟩
    case round =>
     clear H'
     try clear c6
     try clear c16
     try clear hcz11_0
     try clear hcz14_0
     try clear hcz18_0
     try clear hcz18_1
     try clear hcz22_0
     try clear hcz9_0
     try clear hfz11_0
     try clear hfz14_0
     try clear hfz18_0
     try clear hfz18_1
     try clear hfz22_0
     try clear hfz9_0
     obtain ⟨x4_2, x22_2, rfl, HA, HK2, HO_4, BK426, BK427, HB⟩ := hrel
     cases gk with
     | zero => exact absurd HA.out (by simp [Y9.l0])
     | succ k2 =>
      have H := HA.out
      clear HA
      simp only [Y9.l0] at H
      by_cases c23 : x22_2 < (l0_0.length : Int)
      ·rw [if_pos c23] at H
       have c23b0 := decide_eq_true c23
       clear c23
       replace H := iD2 H
       obtain ⟨c24b0, c25b0, H⟩ := H
       have H' := aM H
       clear H
       have p437 : 0 ≤ (x22_2 : Int) := odt
       have q437 : x22_2 < (l0_0.length : Int) := odt
       obtain ⟨ad437, A437_0, c437_0, e437, hx437_0, hl437_0, hi437_0⟩ := at_L3 HR0_0.out x22_2 p437 q437
       cases e437
       replace hx437_0 := (HB.out.cell (World.block_lt_of_cell? w _ hx437_0)).trans hx437_0
       have HR437_0 := aM hi437_0
       have HC437_0 := aM hl437_0
       clear hi437_0 hl437_0
       replace p437 := eq_true p437
       replace q437 := eq_true q437
       go_wp2
       go_loopg [4, 29] k2 (fun kq v4 v29 w' => ∃ (x4_3 : List (S70)) (x29_3 : Int), v29 = .int .i64 x29_3 ∧ Aside0 (Y9.l1 kq x4_3 x22_2 l0_0 (l0_0.length : Int) x22_2 (rd_L3 l0_0 x22_2) ((rd_L3 l0_0 x22_2).length : Int) x29_3 = some (r1, r2, r3)) ∧ Aside0 (kq ≤ k2) ∧ Aside0 (Kd.R k70 70 w' w.heap.size (fun _ => True) v4 x4_3) ∧ Aside0 (w'.heap[gb426]? = some (.cells #[(.slice (some ad437) l0_0.length c0_0)] 30 (0, 0))) ∧ Aside0 (w'.heap[gb427]? = some (.cells #[.int .i64 0, (.slice none 0 0)] 26 (0, 0))) ∧ Aside0 (Below w.heap.size w w'))
       case atStart => exact ⟨(x4_2), (0), eR, H', ⟨Nat.le_refl _⟩, ⟨rQ HO_4⟩, ⟨qQ BK426⟩, ⟨qQ BK427⟩, ⟨bq⟩⟩
       case round =>
        clear H'
        try clear c6
        try clear c16
        try clear c23
        try clear c23b0
        try clear c24b0
        try clear c25b0
        try clear hcz11_0
        try clear hcz14_0
        try clear hcz18_0
        try clear hcz18_1
        try clear hcz22_0
        try clear hcz9_0
        try clear hfz11_0
        try clear hfz14_0
        try clear hfz18_0
        try clear hfz18_1
        try clear hfz22_0
        try clear hfz9_0
        try clear hx437_0
        try clear p437
        try clear q437
        obtain ⟨x4_3, x29_3, rfl, HA, HK3, HO_4, BK426, BK427, HB⟩ := hrel
        cases gk with
        | zero => exact absurd HA.out (by simp [Y9.l1])
        | succ k3 =>
         have H := HA.out
         clear HA
         simp only [Y9.l1] at H
         by_cases c26 : x29_3 < ((rd_L3 l0_0 x22_2).length : Int)
         ·rw [if_pos c26] at H
          have c26b0 := decide_eq_true c26
          clear c26
          replace H := iD2 H
          obtain ⟨c27b0, c28b0, H⟩ := H
          have H' := aM H
          clear H
          have p438 : 0 ≤ (x29_3 : Int) := odt
          have q438 : x29_3 < ((rd_L3 l0_0 x22_2).length : Int) := odt
          obtain ⟨ad438, e438, hx438_0⟩ := Kd.at_int HR437_0.out x29_3 p438 q438
          cases e438
          replace hx438_0 := (HB.out.cell (World.block_lt_of_cell? w _ hx438_0)).trans hx438_0
          replace p438 := eq_true p438
          replace q438 := eq_true q438
          go_wp2
          go_loopg [4, 35] k3 (fun kq v4 v35 w' => ∃ (x4_4 : List (S70)) (x35_4 : Int), v35 = .int .i64 x35_4 ∧ Aside0 (Y9.l2 kq x4_4 x22_2 x29_3 l0_0 (l0_0.length : Int) x22_2 (rd_L3 l0_0 x22_2) ((rd_L3 l0_0 x22_2).length : Int) x29_3 (rd (rd_L3 l0_0 x22_2) x29_3) x35_4 = some (r1, r2, r3)) ∧ Aside0 (kq ≤ k3) ∧ Aside0 (Kd.R k70 70 w' w.heap.size (fun _ => True) v4 x4_4) ∧ Aside0 (w'.heap[gb426]? = some (.cells #[(.slice (some ad437) l0_0.length c0_0)] 30 (0, 0))) ∧ Aside0 (w'.heap[gb427]? = some (.cells #[.int .i64 0, (.slice none 0 0)] 26 (0, 0))) ∧ Aside0 (Below w.heap.size w w'))
          case atStart => exact ⟨(x4_3), (0), eR, H', ⟨Nat.le_refl _⟩, ⟨rQ HO_4⟩, ⟨qQ BK426⟩, ⟨qQ BK427⟩, ⟨bq⟩⟩
          case round =>
           clear H'
           try clear c6
           try clear c16
           try clear c23
           try clear c23b0
           try clear c24b0
           try clear c25b0
           try clear c26
           try clear c26b0
           try clear c27b0
           try clear c28b0
           try clear hcz11_0
           try clear hcz14_0
           try clear hcz18_0
           try clear hcz18_1
           try clear hcz22_0
           try clear hcz9_0
           try clear hfz11_0
           try clear hfz14_0
           try clear hfz18_0
           try clear hfz18_1
           try clear hfz22_0
           try clear hfz9_0
           try clear hx437_0
           try clear hx438_0
           try clear p437
           try clear p438
           try clear q437
           try clear q438
           obtain ⟨x4_4, x35_4, rfl, HA, HK4, HO_4, BK426, BK427, HB⟩ := hrel
           cases gk with
           | zero => exact absurd HA.out (by simp [Y9.l2])
           | succ k4 =>
            have H := HA.out
            clear HA
            simp only [Y9.l2] at H
            by_cases c29 : x35_4 < (rd (rd_L3 l0_0 x22_2) x29_3)
            ·rw [if_pos c29] at H
             have c29b0 := decide_eq_true c29
             clear c29
             replace H := iS H
             obtain ⟨c30, H⟩ := H
             have LMc30 := aM c30
             clear c30
             obtain ⟨y439, hy439⟩ := nE ((x4_4 ++ [(⟨x22_2, x29_3⟩ : S70)]) : List (S70))
             try rw [← hy439] at H
             try with_reducible replace H := (Option.bind_some _ _).symm.trans H
             try dsimp only at H
             have Ny439 := aM hy439
             clear hy439
             have H' := aM H
             clear H
             go_wp2_with (first | ((with_reducible refine gate_builtin (b := .append) (xs := #[.tmp 37, .tmp 41]) rfl ?_); at_builtin; refine Kd.R_append k70 (w0 := w) w.heap.size rfl (.tmp 37) (.tmp 41) 68 70 (.agg #[(.int .i64 0), (.int .i64 0)]) 16 rfl Tryz.underlying68 info70 rfl (by decide) (by omega) u4 x4_4 (⟨x22_2, x29_3⟩ : S70) [.int .i64 x22_2, .int .i64 x29_3] (fun _ => True) (fun _ => False) rfl rfl ?aP (fun _ hk => hk.elim) ?aF ?aO ?aB ?aS ?aL ?_; (case aP => exact k70_mkM _ _ _ (⟨x22_2, x29_3⟩ : S70)); (case aB => exact bq); (case aF => exact (fun _ _ => trivial)); (case aO => exact (rQ HO_4)); (case aS => exact (below_size bq)); (case aL => have := LMc30.out; omega); intro v440 w31 ho hb hg hat; rw [← Ny439.out] at ho; have _ := aM (blk_grown (g := gb426) (o := .cells #[.slice (some ad437) l0_0.length c0_0] 30 (0, 0)) (qQ BK426) hg (Kd.R_ne HO_4.out BK426.out (by decide))); have _ := aM (blk_grown (g := gb427) (o := .cells #[.int .i64 0, .slice none 0 0] 26 (0, 0)) (qQ BK427) hg (Kd.R_ne HO_4.out BK427.out (by decide))); have _ := aM (hb); have _ := aM (ho); clear BK426 BK427 HB HO_4; rename_i BK426 BK427 HB HO441; clear ho hb hg hat))
             go_roundg k4
             case measure => have := HJ1.out; have := HK2.out; have := HK3.out; have := HK4.out; omega
             case rel => exact ⟨(y439), (wrap64 (x35_4 + 1)), eR, H', ⟨by have := HJ1.out; have := HK2.out; have := HK3.out; have := HK4.out; omega⟩, ⟨rQ HO441⟩, ⟨qQ BK426⟩, ⟨qQ BK427⟩, ⟨bq⟩⟩
            ·rw [if_neg c29] at H
             have c29b0 := decide_eq_false c29
             clear c29
             have H' := aM H
             clear H
             go_wp2
             go_roundg k4
             case measure => have := HJ1.out; have := HK2.out; have := HK3.out; have := HK4.out; omega
             case rel => exact ⟨(x4_4), (wrap64 (x29_3 + 1)), eR, H', ⟨by have := HJ1.out; have := HK2.out; have := HK3.out; have := HK4.out; omega⟩, ⟨rQ HO_4⟩, ⟨qQ BK426⟩, ⟨qQ BK427⟩, ⟨bq⟩⟩
         ·rw [if_neg c26] at H
          have c26b0 := decide_eq_false c26
          clear c26
          have H' := aM H
          clear H
          go_wp2
          go_roundg k3
          case measure => have := HJ1.out; have := HK2.out; have := HK3.out; omega
          case rel => exact ⟨(x4_3), (wrap64 (x22_2 + 1)), eR, H', ⟨by have := HJ1.out; have := HK2.out; have := HK3.out; omega⟩, ⟨rQ HO_4⟩, ⟨qQ BK426⟩, ⟨qQ BK427⟩, ⟨bq⟩⟩
      ·rw [if_neg c23] at H
       have c23b0 := decide_eq_false c23
       clear c23
       replace H := bS H
       obtain ⟨⟨t433, t434⟩, A32, H⟩ := H
       try dsimp only at H
       simp only [Option.some.injEq, Prod.mk.injEq] at H
       obtain ⟨rfl, rfl, rfl⟩ := H
       obtain ⟨Ao33, co33, eo33⟩ := Kd.R_slice HO_4.out
       subst eo33
       go_wp2_with (first | ((with_reducible refine gate_callee (f := 45) rfl ?_); refine gL (some 47) Tryz.func45 #[.slice Ao33 x4_2.length co33] ?_; (with_reducible refine (Y4.calls _ _ x4_2 t433 t434 _ (cQ ((Kd.R_reads' HO_4.out).2.2)) ((Kd.R_reads' HO_4.out).2.1) A32.out).mono ?_); rintro e w34 ⟨v435, rfl, ho0, hb⟩; refine ⟨_, rfl, ?_⟩; have _ := aM (Kd.R_below (rQ HO_4) hb); have _ := aM (Kd.R_lower ho0 (below_size bq)); have _ := bK BK426 hb; have _ := bK BK427 hb; have _ := bB hb; clear HO_4 BK426 BK427 HB; rename_i HO_4 HO436 BK426 BK427 HB; (try clear hb); (try clear ho0); have hnb35 := NB427_426.out; have hnc35 := NB426_427.out; have hcz36_0 := zc20 BK427; have hcz36_1 := zc21 BK427; have hfz36_0 := blk_frozen BK427.out 0; have hfz36_1 := blk_frozen BK427.out 1; obtain ⟨Ao37, co37, eo37⟩ := Kd.R_slice HO436.out; subst eo37))
       refine bodyPost_ret (results_ct rfl _ _ gb427 26 #[.int .i64 t433, .slice Ao37 t434.length co37] (0, 0) _ rfl (by (with_reducible repeat first|apply qN|apply qD|apply qA); refine blk_put (cs := #[.int .i64 t433, .slice none 0 0]) ?_ 1 _ rfl; (with_reducible repeat first|apply qN|apply qD|apply qA); refine blk_put (cs := #[.int .i64 0, .slice none 0 0]) ?_ 0 _ rfl; (with_reducible repeat first|apply qN|apply qD|apply qA); exact BK427.out) Tryz.underlying26 rfl (by kernel_rfl)) rfl ?_
       exact ⟨_, eE, by (with_reducible repeat first|apply rA|apply rN|apply rD); exact Kd.R_mono (Kd.R_far (p := ⟨gb427, 1, none⟩) (Kd.R_far (p := ⟨gb427, 0, none⟩) (Kd.R_types HO436.out BK427.out (by decide)) (fun _ hk => hk.2) (.int .i64 t433)) (fun _ hk => hk.2) (.slice Ao37 t434.length co37)) (fun _ hk => trivial), bq⟩
def Y47.l0 : Nat → Int → List Int → Int → Int → Option (Int)
 | 0, _, _, _, _ => none
 | k + 1, x3, x6, x7, x8 => if x8 < x7 then (if 0 ≤ x8 then (if x8 < (x6.length : Int) then (Y47.l0 k (wrap64 (x3 + (rd x6 x8))) x6 x7 (wrap64 (x8 + 1))) else (none)) else (none)) else (some x3)
def Y47.f (k : Nat) (l0 : List Int) : Option (Int) := Y47.l0 k 0 l0 (l0.length : Int) 0
theorem Y47.calls (k : Nat) (A0 : Option Addr) (c0 : Nat) (l0 : List Int) (r : Int) (w : World) (hr0 : Kd.C (Kd.int .i64) w A0 l0.length l0) (hc0 : l0.length ≤ c0) (h : Y47.f k l0 = some r) :
  Calls Tryz.prog 88 #[.slice A0 l0.length c0] w fun e w' => e = .returned (.int .i64 r) ∧ Drawn0 w w' := by
 have HR0 := aM hr0
 have HC0 := aM hc0
 clear hr0 hc0
 have H : (Y47.l0 k 0 l0 (l0.length : Int) 0) = some r := h
 clear h
 have H' := aM H
 clear H
 go_enter Tryz.func88, Tryz.ntmps88
 go_wp2
 go_loopg [3, 8] k (fun kq v3 v8 w' => ∃ (x3_1 : Int) (x8_1 : Int), v3 = .int .i64 x3_1 ∧ v8 = .int .i64 x8_1 ∧ Aside0 (Y47.l0 kq x3_1 l0 (l0.length : Int) x8_1 = some r) ∧ Aside0 (kq ≤ k) ∧ Drawn0 w w')
 case atStart => exact ⟨(0), (0), eR, eR, H', ⟨Nat.le_refl _⟩, dQ⟩
 case round =>
  clear H'
  obtain ⟨x3_1, x8_1, rfl, rfl, HA, HK1, ⟨m1, rfl⟩⟩ := hrel
  cases gk with
  | zero => exact absurd HA.out (by simp [Y47.l0])
  | succ k1 =>
   have H := HA.out
   clear HA
   simp only [Y47.l0] at H
   by_cases c2 : x8_1 < (l0.length : Int)
   ·rw [if_pos c2] at H
    have c2b0 := decide_eq_true c2
    clear c2
    replace H := iD2 H
    obtain ⟨c3b0, c4b0, H⟩ := H
    have H' := aM H
    clear H
    have p442 : 0 ≤ (x8_1 : Int) := odt
    have q442 : x8_1 < (l0.length : Int) := odt
    obtain ⟨ad442, e442, hx442_0⟩ := Kd.at_int HR0.out x8_1 p442 q442
    cases e442
    replace p442 := eq_true p442
    replace q442 := eq_true q442
    go_wp2
    go_roundg k1
    case measure => have := HK1.out; omega
    case rel => exact ⟨(wrap64 (x3_1 + (rd l0 x8_1))), (wrap64 (x8_1 + 1)), eR, eR, H', ⟨by have := HK1.out; omega⟩, dQ⟩
   ·rw [if_neg c2] at H
    have c2b0 := decide_eq_false c2
    clear c2
    obtain rfl := Option.some.inj H
    go_wp2
    go_ret
    exact ⟨by first | rfl | (simp; done) | (simp [*]; done), dQ⟩
end Go.Proofs.YtcodionjhcmfhaaGreatDoor.Oa
