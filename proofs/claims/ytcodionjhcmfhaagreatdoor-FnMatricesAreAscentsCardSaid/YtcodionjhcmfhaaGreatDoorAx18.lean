-- Written by hook.py, a program of this session (wip/), which runs the kit's print.py with its own parts; Lean checks it.
import Derived.Test.YtcodionjhcmfhaaGreatDoorAx0
import Derived.Test.YtcodionjhcmfhaaGreatDoorAx16
import Derived.Test.YtcodionjhcmfhaaGreatDoorAx17
import Derived.Test.YtcodionjhcmfhaaGreatDoorAxXSq
namespace Go.Proofs.YtcodionjhcmfhaaGreatDoor.Ax
open Go.RowKit Go.Proofs.YtcodionjhcmfhaaGreatDoorW.PrintWords Go.Proofs.YtcodionjhcmfhaaGreatDoorW.PrintLast Go.Proofs.YtcodionjhcmfhaaGreatDoorW.PrintMore Go.Proofs.YtcodionjhcmfhaaGreatDoor.Sq
attribute [local go_sem] max2_int min2_int max_two min_two max_three min_three max_four min_four   -- for this text's walks alone
set_option linter.unusedVariables false
set_option linter.unusedSimpArgs false

mutual
def spec_maGood.l0 : Nat → Int → List (List Int) → Int → Int → List (List Int) → Option (Bool)
 | 0, _, _, _, _, _ => none
 | k + 1, x3, x15, x16, x17, x387000 => if x17 < x16 then (if 0 ≤ x17 then (if x17 < (x15.length : Int) then (if ((rd_L2 x15 x17).length : Int) = x3 then ((spec_l1All.f k (rd_L2 x15 x17) 0 12).bind fun t388 => (if t388 = true then ((spec_ivMost.f k (rd_L2 x15 x17)).bind fun t389 => (spec_maGood.j1 k x3 x17 (rd_L2 x15 x17) x15 x16 x17 (t389 == 0) x387000)) else (spec_maGood.j1 k x3 x17 (rd_L2 x15 x17) x15 x16 x17 true x387000))) else (spec_maGood.j1 k x3 x17 (rd_L2 x15 x17) x15 x16 x17 true x387000)) else (none)) else (none)) else (spec_maGood.l2 k (x387000.length : Int) 0 x387000)
def spec_maGood.j1 : Nat → Int → Int → List Int → List (List Int) → Int → Int → Bool → List (List Int) → Option (Bool)
 | 0, _, _, _, _, _, _, _, _ => none
 | k + 1, x3, x4, x5, x15, x16, x17, x35, x387000 => if x35 = true then (some false) else (spec_maGood.l1 k x3 x4 x15 x16 x17 x5 (x5.length : Int) 0 x387000)
def spec_maGood.l1 : Nat → Int → Int → List (List Int) → Int → Int → List Int → Int → Int → List (List Int) → Option (Bool)
 | 0, _, _, _, _, _, _, _, _, _ => none
 | k + 1, x3, x4, x15, x16, x17, x36, x37, x38, x387000 => if x38 < x37 then (if 0 ≤ x38 then (if x38 < (x36.length : Int) then (if x38 < x4 then (if (rd x36 x38) > 0 then (some false) else (spec_maGood.l1 k x3 x4 x15 x16 x17 x36 x37 (wrap64 (x38 + 1)) x387000)) else (spec_maGood.l1 k x3 x4 x15 x16 x17 x36 x37 (wrap64 (x38 + 1)) x387000)) else (none)) else (none)) else (spec_maGood.l0 k x3 x15 x16 (wrap64 (x17 + 1)) x387000)
def spec_maGood.l2 : Nat → Int → Int → List (List Int) → Option (Bool)
 | 0, _, _, _ => none
 | k + 1, x54, x55, x387000 => if x55 < x54 then ((spec_maColumn.f k x387000 x55).bind fun t392 => ((spec_ivMost.f k t392).bind fun t395 => (if t395 = 0 then (some false) else (spec_maGood.l2 k x54 (wrap64 (x55 + 1)) x387000)))) else ((spec_maSum.f k x387000).bind fun t391 => (some (decide (t391 ≤ 12))))
end
def spec_maGood.f (k : Nat) (l0_0 : List (List Int)) : Option (Bool) := if (l0_0.length : Int) > 12 then (some false) else (spec_maGood.l0 k (l0_0.length : Int) l0_0 (l0_0.length : Int) 0 l0_0)
set_option maxHeartbeats 8000000 in
set_option maxRecDepth 100000 in
theorem spec_maGood.calls (k : Nat) (A0_0 : Option Addr) (c0_0 : Nat) (l0_0 : List (List Int)) (r : Bool) (w : World) (hr0_0 : Kd.C (Kd.slice 3 (Kd.int .i64)) w A0_0 l0_0.length l0_0) (hc0_0 : l0_0.length ≤ c0_0) (h : spec_maGood.f k l0_0 = some r) :
  Calls Tryz.prog 39 #[.agg #[.slice A0_0 l0_0.length c0_0]] w fun e w' => e = .returned (.bool r) ∧ Below w.heap.size w w' := by
 have hu30 := Tryz.underlying30
 have HR0_0 := aM hr0_0
 have HC0_0 := aM hc0_0
 clear hr0_0 hc0_0
 have HB := aM (Below.refl w.heap.size w)
 have H : (if (l0_0.length : Int) > 12 then (some false) else (spec_maGood.l0 k (l0_0.length : Int) l0_0 (l0_0.length : Int) 0 l0_0)) = some r := h
 clear h
 by_cases c2 : (l0_0.length : Int) > 12
 ·rw [if_pos c2] at H
  have c2b0 := decide_eq_true c2
  have c2b1 : decide (12 < l0_0.length) = true := decide_eq_true (by omega)
  clear c2
  obtain rfl := Option.some.inj H
  go_enter Tryz.func39, Tryz.ntmps39
  go_wp2_with (first | ((with_reducible refine gate_dst (N := 1) rfl ?_); refine bE 1 30 #[.slice A0_0 l0_0.length c0_0] ?_; intro gb386 hg w3 hbox hb; have _ := aM (below_step bq hb); have _ := aM (hbox); have _ := aM ((gS hg)); have _ := aM ((gS hg)); clear HB; rename_i HB BK386 GW386 GE386; clear hb hbox hg; have hcz4_0 := c10 BK386; have hfz4_0 := blk_frozen BK386.out 0))
  go_ret
  exact ⟨eE, bq⟩
 ·rw [if_neg c2] at H
  have c2b0 := decide_eq_false c2
  have c2b1 : decide (12 < l0_0.length) = false := decide_eq_false (by omega)
  clear c2
  have H' := aM H
  clear H
  go_enter Tryz.func39, Tryz.ntmps39
  go_wp2_with (first | ((with_reducible refine gate_dst (N := 1) rfl ?_); refine bE 1 30 #[.slice A0_0 l0_0.length c0_0] ?_; intro gb386 hg w5 hbox hb; have _ := aM (below_step bq hb); have _ := aM (hbox); have _ := aM ((gS hg)); have _ := aM ((gS hg)); clear HB; rename_i HB BK386 GW386 GE386; clear hb hbox hg; have hcz6_0 := c10 BK386; have hfz6_0 := blk_frozen BK386.out 0))
  go_loopg [17] k (fun kq v17 w' => ∃ (x17_1 : Int), v17 = .int .i64 x17_1 ∧ Aside0 (spec_maGood.l0 kq (l0_0.length : Int) l0_0 (l0_0.length : Int) x17_1 l0_0 = some r) ∧ Aside0 (kq ≤ k) ∧ Aside0 (w'.heap[gb386]? = some (.cells #[(.slice A0_0 l0_0.length c0_0)] 30 (0, 0))) ∧ Aside0 (Below w.heap.size w w'))
  case atStart => exact ⟨(0), eR, H', ⟨Nat.le_refl _⟩, ⟨qQ BK386⟩, ⟨bq⟩⟩
  case round =>
   clear H'
   try clear c2
   try clear c2b0
   try clear c2b1
   try clear p2
   try clear c3
   try clear hcz4_0
   try clear hcz6_0
   try clear hfz4_0
   try clear hfz6_0
   obtain ⟨x17_1, rfl, HA, HK1, BK386, HB⟩ := hrel
   cases gk with
   | zero => exact absurd HA.out (by simp [spec_maGood.l0])
   | succ k1 =>
    have H := HA.out
    clear HA
    simp only [spec_maGood.l0] at H
    by_cases c7 : x17_1 < (l0_0.length : Int)
    ·rw [if_pos c7] at H
     have c7b0 := decide_eq_true c7
     clear c7
     replace H := iD2 H
     obtain ⟨c8b0, c9b0, H⟩ := H
     have HC10 := aM H
     clear H
     have p387 : 0 ≤ (x17_1 : Int) := odt
     have q387 : x17_1 < (l0_0.length : Int) := odt
     obtain ⟨ad387, A387_0, c387_0, e387, hx387_0, hl387_0, hi387_0⟩ := at_L2 HR0_0.out x17_1 p387 q387
     cases e387
     replace hx387_0 := (HB.out.cell (World.block_lt_of_cell? w _ hx387_0)).trans hx387_0
     have HR387_0 := aM hi387_0
     have HC387_0 := aM hl387_0
     clear hi387_0 hl387_0
     replace p387 := eq_true p387
     replace q387 := eq_true q387
     go_upto_region 7 with (fail)
     go_cut [35] (fun v35 wc => ∃ (kq : Nat) (x35_9 : Bool), v35 = .bool x35_9 ∧ Aside0 (spec_maGood.j1 kq (l0_0.length : Int) x17_1 (rd_L2 l0_0 x17_1) l0_0 (l0_0.length : Int) x17_1 x35_9 l0_0 = some r) ∧ Aside0 (kq ≤ k1) ∧ Aside0 (wc.heap[gb386]? = some (.cells #[(.slice (some ad387) l0_0.length c0_0)] 30 (0, 0))) ∧ Aside0 (Below w.heap.size w wc))
     case first =>
      have H := HC10.out
      clear HC10
      by_cases c11 : ((rd_L2 l0_0 x17_1).length : Int) = (l0_0.length : Int)
      ·rw [if_pos c11] at H
       have c11b0 : (((rd_L2 l0_0 x17_1).length : Int) == (l0_0.length : Int)) = true := beq_iff_eq.mpr c11
       have c11b1 : (((rd_L2 l0_0 x17_1).length : Int) != (l0_0.length : Int)) = false := bne_eq_false_iff_eq.mpr c11
       have c11b2 : ((rd_L2 l0_0 x17_1).length == l0_0.length) = true := by first | simpa using c11 | (simp at c11 ⊢; omega)
       clear c11
       (first | rw [c11b0] | (simp only [i64_w, i32_w]; rw [c11b0]) | skip)
       replace H := bS H
       obtain ⟨t388, A12, H⟩ := H
       try dsimp only at H
       by_cases c13 : t388 = true
       ·subst c13
        have H1 : ((spec_ivMost.f k1 (rd_L2 l0_0 x17_1)).bind fun t389 => (spec_maGood.j1 k1 (l0_0.length : Int) x17_1 (rd_L2 l0_0 x17_1) l0_0 (l0_0.length : Int) x17_1 (t389 == 0) l0_0)) = some r := by rw [if_pos rfl] at H; exact H
        clear H
        have H := H1
        clear H1
        replace H := bS H
        obtain ⟨t389, A14, H⟩ := H
        try dsimp only at H
        have H' := aM H
        clear H
        go_wp2_with (first | (go_at_call 76; (with_reducible refine (spec_l1All.calls k1 _ _ (rd_L2 l0_0 x17_1) 0 12 true _ (cQ (Kd.C_below HR387_0.out HB.out)) HC387_0.out A12.out).mono ?_); rintro e w' ⟨rfl, ⟨nd, rfl⟩⟩) | (go_at_call 74; (with_reducible refine (spec_ivMost.calls k1 _ _ (rd_L2 l0_0 x17_1) t389 _ (cQ (Kd.C_below HR387_0.out bq)) HC387_0.out A14.out).mono ?_); rintro e w' ⟨rfl, ⟨nd, rfl⟩⟩))
        go_meet
        case rel => exact ⟨_, ((t389 == 0)), eR, H', ⟨by have := HK1.out; first | omega | exact Nat.le_refl _⟩, ⟨qQ BK386⟩, ⟨bq⟩⟩
       ·replace c13 := Bool.eq_false_iff.mpr c13
        subst c13
        have H1 : (spec_maGood.j1 k1 (l0_0.length : Int) x17_1 (rd_L2 l0_0 x17_1) l0_0 (l0_0.length : Int) x17_1 true l0_0) = some r := by rw [if_neg (show ¬ (false = true) by decide)] at H; exact H
        clear H
        have H := H1
        clear H1
        have H' := aM H
        clear H
        go_wp2_with (first | (go_at_call 76; (with_reducible refine (spec_l1All.calls k1 _ _ (rd_L2 l0_0 x17_1) 0 12 false _ (cQ (Kd.C_below HR387_0.out HB.out)) HC387_0.out A12.out).mono ?_); rintro e w' ⟨rfl, ⟨nd, rfl⟩⟩))
        go_meet
        case rel => exact ⟨_, (true), eR, H', ⟨by have := HK1.out; first | omega | exact Nat.le_refl _⟩, ⟨qQ BK386⟩, ⟨bq⟩⟩
      ·rw [if_neg c11] at H
       have c11b0 : (((rd_L2 l0_0 x17_1).length : Int) == (l0_0.length : Int)) = false := beq_eq_false_iff_ne.mpr c11
       have c11b1 : (((rd_L2 l0_0 x17_1).length : Int) != (l0_0.length : Int)) = true := bne_iff_ne.mpr c11
       have c11b2 : ((rd_L2 l0_0 x17_1).length == l0_0.length) = false := by first | simpa using c11 | (simp at c11 ⊢; omega)
       (first | rw [c11b0] | (simp only [i64_w, i32_w]; rw [c11b0]) | skip)
       have H' := aM H
       clear H
       go_wp2
       go_meet
       case rel => exact ⟨_, (true), eR, H', ⟨by have := HK1.out; first | omega | exact Nat.le_refl _⟩, ⟨qQ BK386⟩, ⟨bq⟩⟩
     case rest =>
      clear HC10
      try clear c1
      try clear c2
      try clear c2b0
      try clear c2b1
      try clear p2
      try clear c3
      try clear p3
      try clear q3
      try clear hx3
      try clear c7
      try clear c7b0
      try clear c8
      try clear c8b0
      try clear c9
      try clear c9b0
      try clear c11
      try clear c11b0
      try clear c11b1
      try clear c11b2
      try clear c13
      try clear hcz4_0
      try clear hcz6_0
      try clear hfz4_0
      try clear hfz6_0
      try clear hx387_0
      try clear p2
      try clear p387
      try clear q387
      obtain ⟨kq, x35_9, rfl, HA, HJ9, BK386, HB⟩ := hcut
      cases kq with
      | zero => exact absurd HA.out (by simp [spec_maGood.j1])
      | succ kj9 =>
       have H := HA.out
       clear HA
       simp only [spec_maGood.j1] at H
       by_cases c15 : x35_9 = true
       ·subst c15
        have H1 : (some false) = some r := by rw [if_pos rfl] at H; exact H
        clear H
        have H := H1
        clear H1
        obtain rfl := Option.some.inj H
        go_wp2
        go_ret
        exact ⟨eE, bq⟩
       ·replace c15 := Bool.eq_false_iff.mpr c15
        subst c15
        have H1 : (spec_maGood.l1 kj9 (l0_0.length : Int) x17_1 l0_0 (l0_0.length : Int) x17_1 (rd_L2 l0_0 x17_1) ((rd_L2 l0_0 x17_1).length : Int) 0 l0_0) = some r := by rw [if_neg (show ¬ (false = true) by decide)] at H; exact H
        clear H
        have H := H1
        clear H1
        have H' := aM H
        clear H
        go_wp2
        go_loopg [38] kj9 (fun kq v38 w' => ∃ (x38_3 : Int), v38 = .int .i64 x38_3 ∧ Aside0 (spec_maGood.l1 kq (l0_0.length : Int) x17_1 l0_0 (l0_0.length : Int) x17_1 (rd_L2 l0_0 x17_1) ((rd_L2 l0_0 x17_1).length : Int) x38_3 l0_0 = some r) ∧ Aside0 (kq ≤ kj9) ∧ Aside0 (w'.heap[gb386]? = some (.cells #[(.slice (some ad387) l0_0.length c0_0)] 30 (0, 0))) ∧ Aside0 (Below w.heap.size w w'))
        case atStart => exact ⟨(0), eR, H', ⟨Nat.le_refl _⟩, ⟨qQ BK386⟩, ⟨bq⟩⟩
        case round =>
         clear H'
         try clear c1
         try clear c2
         try clear c2b0
         try clear c2b1
         try clear p2
         try clear c3
         try clear p3
         try clear q3
         try clear hx3
         try clear c7
         try clear c7b0
         try clear c8
         try clear c8b0
         try clear c9
         try clear c9b0
         try clear c11
         try clear c11b0
         try clear c11b1
         try clear c11b2
         try clear c13
         try clear c15
         try clear hcz4_0
         try clear hcz6_0
         try clear hfz4_0
         try clear hfz6_0
         try clear hx387_0
         try clear p2
         try clear p3
         try clear p387
         try clear q3
         try clear q387
         obtain ⟨x38_3, rfl, HA, HK3, BK386, HB⟩ := hrel
         cases gk with
         | zero => exact absurd HA.out (by simp [spec_maGood.l1])
         | succ k3 =>
          have H := HA.out
          clear HA
          simp only [spec_maGood.l1] at H
          by_cases c16 : x38_3 < ((rd_L2 l0_0 x17_1).length : Int)
          ·rw [if_pos c16] at H
           have c16b0 := decide_eq_true c16
           clear c16
           replace H := iD2 H
           obtain ⟨c17b0, c18b0, H⟩ := H
           by_cases c19 : x38_3 < x17_1
           ·rw [if_pos c19] at H
            have c19b0 := decide_eq_true c19
            clear c19
            by_cases c20 : (rd (rd_L2 l0_0 x17_1) x38_3) > 0
            ·rw [if_pos c20] at H
             have c20b0 := decide_eq_true c20
             clear c20
             obtain rfl := Option.some.inj H
             have p390 : 0 ≤ (x38_3 : Int) := odt
             have q390 : x38_3 < ((rd_L2 l0_0 x17_1).length : Int) := odt
             obtain ⟨ad390, e390, hx390_0⟩ := Kd.at_int HR387_0.out x38_3 p390 q390
             cases e390
             replace hx390_0 := (HB.out.cell (World.block_lt_of_cell? w _ hx390_0)).trans hx390_0
             replace p390 := eq_true p390
             replace q390 := eq_true q390
             go_wp2
             go_ret
             exact ⟨eE, bq⟩
            ·rw [if_neg c20] at H
             have c20b0 := decide_eq_false c20
             clear c20
             have H' := aM H
             clear H
             have p390 : 0 ≤ (x38_3 : Int) := odt
             have q390 : x38_3 < ((rd_L2 l0_0 x17_1).length : Int) := odt
             obtain ⟨ad390, e390, hx390_0⟩ := Kd.at_int HR387_0.out x38_3 p390 q390
             cases e390
             replace hx390_0 := (HB.out.cell (World.block_lt_of_cell? w _ hx390_0)).trans hx390_0
             replace p390 := eq_true p390
             replace q390 := eq_true q390
             go_wp2
             go_roundg k3
             case measure => have := HK1.out; have := HJ9.out; have := HK3.out; omega
             case rel => exact ⟨(wrap64 (x38_3 + 1)), eR, H', ⟨by have := HK1.out; have := HJ9.out; have := HK3.out; omega⟩, ⟨qQ BK386⟩, ⟨bq⟩⟩
           ·rw [if_neg c19] at H
            have c19b0 := decide_eq_false c19
            clear c19
            have H' := aM H
            clear H
            have p390 : 0 ≤ (x38_3 : Int) := odt
            have q390 : x38_3 < ((rd_L2 l0_0 x17_1).length : Int) := odt
            obtain ⟨ad390, e390, hx390_0⟩ := Kd.at_int HR387_0.out x38_3 p390 q390
            cases e390
            replace hx390_0 := (HB.out.cell (World.block_lt_of_cell? w _ hx390_0)).trans hx390_0
            replace p390 := eq_true p390
            replace q390 := eq_true q390
            go_wp2
            go_roundg k3
            case measure => have := HK1.out; have := HJ9.out; have := HK3.out; omega
            case rel => exact ⟨(wrap64 (x38_3 + 1)), eR, H', ⟨by have := HK1.out; have := HJ9.out; have := HK3.out; omega⟩, ⟨qQ BK386⟩, ⟨bq⟩⟩
          ·rw [if_neg c16] at H
           have c16b0 := decide_eq_false c16
           clear c16
           have H' := aM H
           clear H
           go_wp2
           go_roundg k3
           case measure => have := HK1.out; have := HJ9.out; have := HK3.out; omega
           case rel => exact ⟨(wrap64 (x17_1 + 1)), eR, H', ⟨by have := HK1.out; have := HJ9.out; have := HK3.out; omega⟩, ⟨qQ BK386⟩, ⟨bq⟩⟩
    ·rw [if_neg c7] at H
     have c7b0 := decide_eq_false c7
     clear c7
     have H' := aM H
     clear H
     have hcz21_0 := c10 BK386
     have hfz21_0 := blk_frozen BK386.out 0
     go_wp2
     go_loopg [55] k1 (fun kq v55 w' => ∃ (x55_2 : Int), v55 = .int .i64 x55_2 ∧ Aside0 (spec_maGood.l2 kq (l0_0.length : Int) x55_2 l0_0 = some r) ∧ Aside0 (kq ≤ k1) ∧ Aside0 (w'.heap[gb386]? = some (.cells #[(.slice A0_0 l0_0.length c0_0)] 30 (0, 0))) ∧ Aside0 (Below w.heap.size w w'))
     case atStart => exact ⟨(0), eR, H', ⟨Nat.le_refl _⟩, ⟨qQ BK386⟩, ⟨bq⟩⟩
     case round =>
      clear H'
      try clear c1
      try clear c2
      try clear c2b0
      try clear c2b1
      try clear p2
      try clear c3
      try clear p3
      try clear q3
      try clear hx3
      try clear p6
      try clear c7
      try clear c7b0
      try clear c8
      try clear c8b0
      try clear c9
      try clear c9b0
      try clear c11
      try clear c11b0
      try clear c11b1
      try clear c11b2
      try clear c13
      try clear c15
      try clear c16
      try clear c16b0
      try clear c17
      try clear c17b0
      try clear c18
      try clear c18b0
      try clear c19
      try clear c19b0
      try clear c20
      try clear c20b0
      try clear hcz21_0
      try clear hcz4_0
      try clear hcz6_0
      try clear hfz21_0
      try clear hfz4_0
      try clear hfz6_0
      try clear hx387_0
      try clear hx390_0
      try clear p2
      try clear p3
      try clear p387
      try clear p390
      try clear q3
      try clear q387
      try clear q390
      obtain ⟨x55_2, rfl, HA, HK2, BK386, HB⟩ := hrel
      cases gk with
      | zero => exact absurd HA.out (by simp [spec_maGood.l2])
      | succ k2 =>
       have H := HA.out
       clear HA
       simp only [spec_maGood.l2] at H
       by_cases c22 : x55_2 < (l0_0.length : Int)
       ·rw [if_pos c22] at H
        have c22b0 := decide_eq_true c22
        clear c22
        replace H := bS H
        obtain ⟨t392, A23, H⟩ := H
        try dsimp only at H
        replace H := bS H
        obtain ⟨t395, A24, H⟩ := H
        try dsimp only at H
        by_cases c25 : t395 = 0
        ·rw [if_pos c25] at H
         have c25b0 : (t395 == 0) = true := beq_iff_eq.mpr c25
         have c25b1 : (t395 != 0) = false := bne_eq_false_iff_eq.mpr c25
         clear c25
         obtain rfl := Option.some.inj H
         have hcz26_0 := c10 BK386
         have hfz26_0 := blk_frozen BK386.out 0
         go_wp2_with (first | ((with_reducible refine gate_callee (f := 77) rfl ?_); refine gL (some 60) Tryz.func77 #[.agg #[.slice A0_0 l0_0.length c0_0], .int .i64 x55_2] ?_; (with_reducible refine (spec_maColumn.calls k2 _ _ l0_0 x55_2 t392 _ (cQ (Kd.C_below HR0_0.out HB.out)) HC0_0.out A23.out).mono ?_); rintro e w27 ⟨v393, rfl, ho0, hb⟩; refine ⟨_, rfl, ?_⟩; have _ := aM (Kd.R_lower ho0 (below_size bq)); have _ := aM (blk_below (qQ BK386) hb); have _ := aM (below_step bq hb); clear BK386 HB; rename_i HO394 BK386 HB; (try clear hb); (try clear hb2); (try clear hk); (try clear hi); (try clear ho0); obtain ⟨Ao28, co28, eo28⟩ := Kd.R_slice HO394.out; subst eo28) | ((with_reducible refine gate_callee (f := 74) rfl ?_); refine gL (some 61) Tryz.func74 #[.slice Ao28 t392.length co28] ?_; (with_reducible refine (spec_ivMost.calls k2 _ _ t392 t395 _ (cQ ((Kd.R_reads' HO394.out).2.2)) ((Kd.R_reads' HO394.out).2.1) A24.out).mono ?_); rintro e w' ⟨rfl, ⟨nd, rfl⟩⟩; refine ⟨_, rfl, ?_⟩))
         go_ret
         exact ⟨eE, bq⟩
        ·rw [if_neg c25] at H
         have c25b0 : (t395 == 0) = false := beq_eq_false_iff_ne.mpr c25
         have c25b1 : (t395 != 0) = true := bne_iff_ne.mpr c25
         have H' := aM H
         clear H
         have hcz29_0 := c10 BK386
         have hfz29_0 := blk_frozen BK386.out 0
         go_wp2_with (first | ((with_reducible refine gate_callee (f := 77) rfl ?_); refine gL (some 60) Tryz.func77 #[.agg #[.slice A0_0 l0_0.length c0_0], .int .i64 x55_2] ?_; (with_reducible refine (spec_maColumn.calls k2 _ _ l0_0 x55_2 t392 _ (cQ (Kd.C_below HR0_0.out HB.out)) HC0_0.out A23.out).mono ?_); rintro e w30 ⟨v393, rfl, ho0, hb⟩; refine ⟨_, rfl, ?_⟩; have _ := aM (Kd.R_lower ho0 (below_size bq)); have _ := aM (blk_below (qQ BK386) hb); have _ := aM (below_step bq hb); clear BK386 HB; rename_i HO394 BK386 HB; (try clear hb); (try clear hb2); (try clear hk); (try clear hi); (try clear ho0); obtain ⟨Ao31, co31, eo31⟩ := Kd.R_slice HO394.out; subst eo31) | ((with_reducible refine gate_callee (f := 74) rfl ?_); refine gL (some 61) Tryz.func74 #[.slice Ao31 t392.length co31] ?_; (with_reducible refine (spec_ivMost.calls k2 _ _ t392 t395 _ (cQ ((Kd.R_reads' HO394.out).2.2)) ((Kd.R_reads' HO394.out).2.1) A24.out).mono ?_); rintro e w' ⟨rfl, ⟨nd, rfl⟩⟩; refine ⟨_, rfl, ?_⟩))
         go_roundg k2
         case measure => have := HK1.out; have := HK2.out; omega
         case rel => exact ⟨(wrap64 (x55_2 + 1)), eR, H', ⟨by have := HK1.out; have := HK2.out; omega⟩, ⟨qQ BK386⟩, ⟨bq⟩⟩
       ·rw [if_neg c22] at H
        have c22b0 := decide_eq_false c22
        clear c22
        replace H := bS H
        obtain ⟨t391, A32, H⟩ := H
        try dsimp only at H
        obtain rfl := Option.some.inj H
        have hcz33_0 := c10 BK386
        have hfz33_0 := blk_frozen BK386.out 0
        go_wp2_with (first | ((with_reducible refine gate_callee (f := 46) rfl ?_); refine gL (some 65) Tryz.func46 #[.agg #[.slice A0_0 l0_0.length c0_0]] ?_; (with_reducible refine (spec_maSum.calls k2 _ _ l0_0 t391 _ (cQ (Kd.C_below HR0_0.out HB.out)) HC0_0.out A32.out).mono ?_); rintro e w34 ⟨rfl, hb⟩; refine ⟨_, rfl, ?_⟩; have _ := aM (blk_below (qQ BK386) hb); have _ := aM (below_step bq hb); clear BK386 HB; rename_i BK386 HB; (try clear hb); (try clear hb2); (try clear hk); (try clear hi)))
        go_ret
        exact ⟨eE, bq⟩

end Go.Proofs.YtcodionjhcmfhaaGreatDoor.Ax
