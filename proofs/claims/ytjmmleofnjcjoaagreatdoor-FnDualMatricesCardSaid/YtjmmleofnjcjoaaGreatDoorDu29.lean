-- Written by hook.py (wip/), over the kit's print.py.
import Derived.Test.YtjmmleofnjcjoaaGreatDoorDu2
import Derived.Test.YtjmmleofnjcjoaaGreatDoorDu20
import Derived.Test.YtjmmleofnjcjoaaGreatDoorDu27
import Derived.Test.YtjmmleofnjcjoaaGreatDoorDuXSq
import Derived.Test.YtjmmleofnjcjoaaGreatDoorDu10
import Derived.Test.YtjmmleofnjcjoaaGreatDoorDu13
import Derived.Test.YtjmmleofnjcjoaaGreatDoorDu24
namespace Go.Proofs.YtjmmleofnjcjoaaGreatDoor.Du
open Go.RowKit Go.Proofs.YtjmmleofnjcjoaaGreatDoorW.PrintWords Go.Proofs.YtjmmleofnjcjoaaGreatDoorW.PrintLast Go.Proofs.YtjmmleofnjcjoaaGreatDoorW.PrintMore Go.Proofs.YtjmmleofnjcjoaaGreatDoor.Sq
attribute [local go_sem] max2_int min2_int max_two min_two max_three min_three max_four min_four
set_option linter.unusedVariables false
set_option linter.unusedSimpArgs false
mutual
def Y6.l0 : Nat → Int → List (List Int) → Int → Int → List (List Int) → Option (Bool)
 | 0, _, _, _, _, _ => none
 | k + 1, x3, x15, x16, x17, x600000 => if x17 < x16 then (if 0 ≤ x17 then (if x17 < (x15.length : Int) then (if ((rd_L4 x15 x17).length : Int) = x3 then ((Y31.f k (rd_L4 x15 x17) 0 12).bind fun t601 => (if t601 = true then ((Y28.f k (rd_L4 x15 x17)).bind fun t602 => (Y6.j1 k x3 x17 (rd_L4 x15 x17) x15 x16 x17 (t602 == 0) x600000)) else (Y6.j1 k x3 x17 (rd_L4 x15 x17) x15 x16 x17 true x600000))) else (Y6.j1 k x3 x17 (rd_L4 x15 x17) x15 x16 x17 true x600000)) else (none)) else (none)) else (Y6.l2 k (x600000.length : Int) 0 x600000)
def Y6.j1 : Nat → Int → Int → List Int → List (List Int) → Int → Int → Bool → List (List Int) → Option (Bool)
 | 0, _, _, _, _, _, _, _, _ => none
 | k + 1, x3, x4, x5, x15, x16, x17, x35, x600000 => if x35 = true then (some false) else (Y6.l1 k x3 x4 x15 x16 x17 x5 (x5.length : Int) 0 x600000)
def Y6.l1 : Nat → Int → Int → List (List Int) → Int → Int → List Int → Int → Int → List (List Int) → Option (Bool)
 | 0, _, _, _, _, _, _, _, _, _ => none
 | k + 1, x3, x4, x15, x16, x17, x36, x37, x38, x600000 => if x38 < x37 then (if 0 ≤ x38 then (if x38 < (x36.length : Int) then (if x38 < x4 then (if (rd x36 x38) > 0 then (some false) else (Y6.l1 k x3 x4 x15 x16 x17 x36 x37 (wrap64 (x38 + 1)) x600000)) else (Y6.l1 k x3 x4 x15 x16 x17 x36 x37 (wrap64 (x38 + 1)) x600000)) else (none)) else (none)) else (Y6.l0 k x3 x15 x16 (wrap64 (x17 + 1)) x600000)
def Y6.l2 : Nat → Int → Int → List (List Int) → Option (Bool)
 | 0, _, _, _ => none
 | k + 1, x54, x55, x600000 => if x55 < x54 then ((Y41.f k x600000 x55).bind fun t605 => ((Y28.f k t605).bind fun t608 => (if t608 = 0 then (some false) else (Y6.l2 k x54 (wrap64 (x55 + 1)) x600000)))) else ((Y44.f k x600000).bind fun t604 => (some (decide (t604 ≤ 12))))
end
def Y6.f (k : Nat) (l0_0 : List (List Int)) : Option (Bool) := if (l0_0.length : Int) > 12 then (some false) else (Y6.l0 k (l0_0.length : Int) l0_0 (l0_0.length : Int) 0 l0_0)
set_option maxHeartbeats 8000000 in
set_option maxRecDepth 100000 in
theorem Y6.calls (k : Nat) (A0_0 : Option Addr) (c0_0 : Nat) (l0_0 : List (List Int)) (r : Bool) (w : World) (hr0_0 : Kd.C (Kd.slice 3 (Kd.int .i64)) w A0_0 l0_0.length l0_0) (hc0_0 : l0_0.length ≤ c0_0) (h : Y6.f k l0_0 = some r) :
  Calls Tryz.prog 84 #[.agg #[.slice A0_0 l0_0.length c0_0]] w fun e w' => e = .returned (.bool r) ∧ Below w.heap.size w w' := by
 have hu41 := Tryz.underlying41
 have HR0_0 := aM hr0_0
 have HC0_0 := aM hc0_0
 clear hr0_0 hc0_0
 have HB := aM (Below.refl w.heap.size w)
 unfold Y6.f at h
 have H := h
 clear h
 by_cases c2 : (l0_0.length : Int) > 12
 ·rw [if_pos c2] at H
  have c2b0 := decide_eq_true c2
  have c2b1 : decide (12 < l0_0.length) = true := decide_eq_true (by omega)
  clear c2
  obtain rfl := Option.some.inj H
  go_enter Tryz.func84, Tryz.ntmps84
  go_wp2_with (first | ((with_reducible refine gate_dst (N := 1) rfl ?_); refine bF 1 41 #[.slice A0_0 l0_0.length c0_0] bq ?_; intro gb599 w3 hg hb _ _ _ _; clear HB; rename_i HB BK599 GW599 GE599; clear hb hg; have hcz4_0 := zc10 BK599; have hfz4_0 := blk_frozen BK599.out 0))
  go_ret
  exact ⟨eE, bq⟩
 ·rw [if_neg c2] at H
  have c2b0 := decide_eq_false c2
  have c2b1 : decide (12 < l0_0.length) = false := decide_eq_false (by omega)
  clear c2
  have H' := aM H
  clear H
  go_enter Tryz.func84, Tryz.ntmps84
  go_wp2_with (first | ((with_reducible refine gate_dst (N := 1) rfl ?_); refine bF 1 41 #[.slice A0_0 l0_0.length c0_0] bq ?_; intro gb599 w5 hg hb _ _ _ _; clear HB; rename_i HB BK599 GW599 GE599; clear hb hg; have hcz6_0 := zc10 BK599; have hfz6_0 := blk_frozen BK599.out 0))
  go_loopg [17] k (fun kq v17 w' => ∃ (x17_1 : Int), v17 = .int .i64 x17_1 ∧ Aside0 (Y6.l0 kq (l0_0.length : Int) l0_0 (l0_0.length : Int) x17_1 l0_0 = some r) ∧ Aside0 (kq ≤ k) ∧ Aside0 (w'.heap[gb599]? = some (.cells #[(.slice A0_0 l0_0.length c0_0)] 41 (0, 0))) ∧ Aside0 (Below w.heap.size w w'))
  case atStart => exact ⟨(0), eR, H', ⟨Nat.le_refl _⟩, ⟨qQ BK599⟩, ⟨bq⟩⟩
  case round =>
   clear H'
   try clear c2
   try clear c2b0
   try clear c2b1
   try clear hcz4_0
   try clear hcz6_0
   try clear hfz4_0
   try clear hfz6_0
   obtain ⟨x17_1, rfl, HA, HK1, BK599, HB⟩ := hrel
   cases gk with
   | zero => exact absurd HA.out (by simp [Y6.l0])
   | succ k1 =>
    have H := HA.out
    clear HA
    simp only [Y6.l0] at H
    by_cases c7 : x17_1 < (l0_0.length : Int)
    ·rw [if_pos c7] at H
     have c7b0 := decide_eq_true c7
     clear c7
     replace H := iD2 H
     obtain ⟨c8b0, c9b0, H⟩ := H
     have HC10 := aM H
     clear H
     have p600 : 0 ≤ (x17_1 : Int) := odt
     have q600 : x17_1 < (l0_0.length : Int) := odt
     obtain ⟨ad600, A600_0, c600_0, e600, hx600_0, hl600_0, hi600_0⟩ := at_L4 HR0_0.out x17_1 p600 q600
     cases e600
     replace hx600_0 := (HB.out.cell (World.block_lt_of_cell? w _ hx600_0)).trans hx600_0
     have HR600_0 := aM hi600_0
     have HC600_0 := aM hl600_0
     clear hi600_0 hl600_0
     replace p600 := eq_true p600
     replace q600 := eq_true q600
     go_upto_region 7 with (fail)
     go_cut [35] (fun v35 wc => ∃ (kq : Nat) (x35_9 : Bool), v35 = .bool x35_9 ∧ Aside0 (Y6.j1 kq (l0_0.length : Int) x17_1 (rd_L4 l0_0 x17_1) l0_0 (l0_0.length : Int) x17_1 x35_9 l0_0 = some r) ∧ Aside0 (kq ≤ k1) ∧ Aside0 (wc.heap[gb599]? = some (.cells #[(.slice (some ad600) l0_0.length c0_0)] 41 (0, 0))) ∧ Aside0 (Below w.heap.size w wc))
     case first =>
      have H := HC10.out
      clear HC10
      by_cases c11 : ((rd_L4 l0_0 x17_1).length : Int) = (l0_0.length : Int)
      ·rw [if_pos c11] at H
       have c11b0 : (((rd_L4 l0_0 x17_1).length : Int) == (l0_0.length : Int)) = true := beq_iff_eq.mpr c11
       have c11b1 : (((rd_L4 l0_0 x17_1).length : Int) != (l0_0.length : Int)) = false := bne_eq_false_iff_eq.mpr c11
       have c11b2 : ((rd_L4 l0_0 x17_1).length == l0_0.length) = true := by first | simpa using c11 | (simp at c11 ⊢; omega)
       clear c11
       (first | rw [c11b0] | (simp only [i64_w, i32_w]; rw [c11b0]) | skip)
       replace H := bS H
       obtain ⟨t601, A12, H⟩ := H
       try dsimp only at H
       by_cases c13 : t601 = true
       ·subst c13
        have H1 : ((Y28.f k1 (rd_L4 l0_0 x17_1)).bind fun t602 => (Y6.j1 k1 (l0_0.length : Int) x17_1 (rd_L4 l0_0 x17_1) l0_0 (l0_0.length : Int) x17_1 (t602 == 0) l0_0)) = some r := by rw [if_pos rfl] at H; exact H
        clear H
        have H := H1
        clear H1
        replace H := bS H
        obtain ⟨t602, A14, H⟩ := H
        try dsimp only at H
        have H' := aM H
        clear H
        go_wp2_with (first | (go_at_call 146; (with_reducible refine (Y31.calls k1 _ _ (rd_L4 l0_0 x17_1) 0 12 true _ (cQ (Kd.C_below HR600_0.out HB.out)) HC600_0.out A12.out).mono ?_); rintro e w' ⟨rfl, ⟨nd, rfl⟩⟩) | (go_at_call 158; (with_reducible refine (Y28.calls k1 _ _ (rd_L4 l0_0 x17_1) t602 _ (cQ (Kd.C_below HR600_0.out bq)) HC600_0.out A14.out).mono ?_); rintro e w' ⟨rfl, ⟨nd, rfl⟩⟩))
        go_meet
        case rel => exact ⟨_, ((t602 == 0)), eR, H', ⟨by have := HK1.out; first | omega | exact Nat.le_refl _⟩, ⟨qQ BK599⟩, ⟨bq⟩⟩
       ·replace c13 := Bool.eq_false_iff.mpr c13
        subst c13
        have H1 : (Y6.j1 k1 (l0_0.length : Int) x17_1 (rd_L4 l0_0 x17_1) l0_0 (l0_0.length : Int) x17_1 true l0_0) = some r := by rw [if_neg (show ¬ (false = true) by decide)] at H; exact H
        clear H
        have H := H1
        clear H1
        have H' := aM H
        clear H
        go_wp2_with (first | (go_at_call 146; (with_reducible refine (Y31.calls k1 _ _ (rd_L4 l0_0 x17_1) 0 12 false _ (cQ (Kd.C_below HR600_0.out HB.out)) HC600_0.out A12.out).mono ?_); rintro e w' ⟨rfl, ⟨nd, rfl⟩⟩))
        go_meet
        case rel => exact ⟨_, (true), eR, H', ⟨by have := HK1.out; first | omega | exact Nat.le_refl _⟩, ⟨qQ BK599⟩, ⟨bq⟩⟩
      ·rw [if_neg c11] at H
       have c11b0 : (((rd_L4 l0_0 x17_1).length : Int) == (l0_0.length : Int)) = false := beq_eq_false_iff_ne.mpr c11
       have c11b1 : (((rd_L4 l0_0 x17_1).length : Int) != (l0_0.length : Int)) = true := bne_iff_ne.mpr c11
       have c11b2 : ((rd_L4 l0_0 x17_1).length == l0_0.length) = false := by first | simpa using c11 | (simp at c11 ⊢; omega)
       (first | rw [c11b0] | (simp only [i64_w, i32_w]; rw [c11b0]) | skip)
       have H' := aM H
       clear H
       go_wp2
       go_meet
       case rel => exact ⟨_, (true), eR, H', ⟨by have := HK1.out; first | omega | exact Nat.le_refl _⟩, ⟨qQ BK599⟩, ⟨bq⟩⟩
     case rest =>
      clear HC10
      try clear c2
      try clear c2b0
      try clear c2b1
      try clear c7
      try clear c7b0
      try clear c8b0
      try clear c9b0
      try clear c11
      try clear c11b0
      try clear c11b1
      try clear c11b2
      try clear c13
      try clear hcz4_0
      try clear hcz6_0
      try clear hfz4_0
      try clear hfz6_0
      try clear hx600_0
      try clear p600
      try clear q600
      obtain ⟨kq, x35_9, rfl, HA, HJ9, BK599, HB⟩ := hcut
      cases kq with
      | zero => exact absurd HA.out (by simp [Y6.j1])
      | succ kj9 =>
       have H := HA.out
       clear HA
       simp only [Y6.j1] at H
       by_cases c15 : x35_9 = true
       ·subst c15
        have H1 : (some false) = some r := by rw [if_pos rfl] at H; exact H
        clear H
        have H := H1
        clear H1
        obtain rfl := Option.some.inj H
        go_wp2
        go_ret
        exact ⟨eE, bq⟩
       ·replace c15 := Bool.eq_false_iff.mpr c15
        subst c15
        have H1 : (Y6.l1 kj9 (l0_0.length : Int) x17_1 l0_0 (l0_0.length : Int) x17_1 (rd_L4 l0_0 x17_1) ((rd_L4 l0_0 x17_1).length : Int) 0 l0_0) = some r := by rw [if_neg (show ¬ (false = true) by decide)] at H; exact H
        clear H
        have H := H1
        clear H1
        have H' := aM H
        clear H
        go_wp2
        go_loopg [38] kj9 (fun kq v38 w' => ∃ (x38_3 : Int), v38 = .int .i64 x38_3 ∧ Aside0 (Y6.l1 kq (l0_0.length : Int) x17_1 l0_0 (l0_0.length : Int) x17_1 (rd_L4 l0_0 x17_1) ((rd_L4 l0_0 x17_1).length : Int) x38_3 l0_0 = some r) ∧ Aside0 (kq ≤ kj9) ∧ Aside0 (w'.heap[gb599]? = some (.cells #[(.slice (some ad600) l0_0.length c0_0)] 41 (0, 0))) ∧ Aside0 (Below w.heap.size w w'))
        case atStart => exact ⟨(0), eR, H', ⟨Nat.le_refl _⟩, ⟨qQ BK599⟩, ⟨bq⟩⟩
        case round =>
         clear H'
         try clear c2
         try clear c2b0
         try clear c2b1
         try clear c7
         try clear c7b0
         try clear c8b0
         try clear c9b0
         try clear c11
         try clear c11b0
         try clear c11b1
         try clear c11b2
         try clear c13
         try clear c15
         try clear hcz4_0
         try clear hcz6_0
         try clear hfz4_0
         try clear hfz6_0
         try clear hx600_0
         try clear p600
         try clear q600
         obtain ⟨x38_3, rfl, HA, HK3, BK599, HB⟩ := hrel
         cases gk with
         | zero => exact absurd HA.out (by simp [Y6.l1])
         | succ k3 =>
          have H := HA.out
          clear HA
          simp only [Y6.l1] at H
          by_cases c16 : x38_3 < ((rd_L4 l0_0 x17_1).length : Int)
          ·rw [if_pos c16] at H
           have c16b0 := decide_eq_true c16
           clear c16
           replace H := iD2 H
           obtain ⟨c17b0, c18b0, H⟩ := H
           by_cases c19 : x38_3 < x17_1
           ·rw [if_pos c19] at H
            have c19b0 := decide_eq_true c19
            clear c19
            by_cases c20 : (rd (rd_L4 l0_0 x17_1) x38_3) > 0
            ·rw [if_pos c20] at H
             have c20b0 := decide_eq_true c20
             clear c20
             obtain rfl := Option.some.inj H
             have p603 : 0 ≤ (x38_3 : Int) := odt
             have q603 : x38_3 < ((rd_L4 l0_0 x17_1).length : Int) := odt
             obtain ⟨ad603, e603, hx603_0⟩ := Kd.at_int HR600_0.out x38_3 p603 q603
             cases e603
             replace hx603_0 := (HB.out.cell (World.block_lt_of_cell? w _ hx603_0)).trans hx603_0
             replace p603 := eq_true p603
             replace q603 := eq_true q603
             go_wp2
             go_ret
             exact ⟨eE, bq⟩
            ·rw [if_neg c20] at H
             have c20b0 := decide_eq_false c20
             clear c20
             have H' := aM H
             clear H
             have p603 : 0 ≤ (x38_3 : Int) := odt
             have q603 : x38_3 < ((rd_L4 l0_0 x17_1).length : Int) := odt
             obtain ⟨ad603, e603, hx603_0⟩ := Kd.at_int HR600_0.out x38_3 p603 q603
             cases e603
             replace hx603_0 := (HB.out.cell (World.block_lt_of_cell? w _ hx603_0)).trans hx603_0
             replace p603 := eq_true p603
             replace q603 := eq_true q603
             go_wp2
             go_roundg k3
             case measure => have := HK1.out; have := HJ9.out; have := HK3.out; omega
             case rel => exact ⟨(wrap64 (x38_3 + 1)), eR, H', ⟨by have := HK1.out; have := HJ9.out; have := HK3.out; omega⟩, ⟨qQ BK599⟩, ⟨bq⟩⟩
           ·rw [if_neg c19] at H
            have c19b0 := decide_eq_false c19
            clear c19
            have H' := aM H
            clear H
            have p603 : 0 ≤ (x38_3 : Int) := odt
            have q603 : x38_3 < ((rd_L4 l0_0 x17_1).length : Int) := odt
            obtain ⟨ad603, e603, hx603_0⟩ := Kd.at_int HR600_0.out x38_3 p603 q603
            cases e603
            replace hx603_0 := (HB.out.cell (World.block_lt_of_cell? w _ hx603_0)).trans hx603_0
            replace p603 := eq_true p603
            replace q603 := eq_true q603
            go_wp2
            go_roundg k3
            case measure => have := HK1.out; have := HJ9.out; have := HK3.out; omega
            case rel => exact ⟨(wrap64 (x38_3 + 1)), eR, H', ⟨by have := HK1.out; have := HJ9.out; have := HK3.out; omega⟩, ⟨qQ BK599⟩, ⟨bq⟩⟩
          ·rw [if_neg c16] at H
           have c16b0 := decide_eq_false c16
           clear c16
           have H' := aM H
           clear H
           go_wp2
           go_roundg k3
           case measure => have := HK1.out; have := HJ9.out; have := HK3.out; omega
           case rel => exact ⟨(wrap64 (x17_1 + 1)), eR, H', ⟨by have := HK1.out; have := HJ9.out; have := HK3.out; omega⟩, ⟨qQ BK599⟩, ⟨bq⟩⟩
    ·rw [if_neg c7] at H
     have c7b0 := decide_eq_false c7
     clear c7
     have H' := aM H
     clear H
     have hcz21_0 := zc10 BK599
     have hfz21_0 := blk_frozen BK599.out 0
     go_wp2
     go_loopg [55] k1 (fun kq v55 w' => ∃ (x55_2 : Int), v55 = .int .i64 x55_2 ∧ Aside0 (Y6.l2 kq (l0_0.length : Int) x55_2 l0_0 = some r) ∧ Aside0 (kq ≤ k1) ∧ Aside0 (w'.heap[gb599]? = some (.cells #[(.slice A0_0 l0_0.length c0_0)] 41 (0, 0))) ∧ Aside0 (Below w.heap.size w w'))
     case atStart => exact ⟨(0), eR, H', ⟨Nat.le_refl _⟩, ⟨qQ BK599⟩, ⟨bq⟩⟩
     case round =>
      clear H'
      try clear c2
      try clear c2b0
      try clear c2b1
      try clear c7
      try clear c7b0
      try clear c8b0
      try clear c9b0
      try clear c11
      try clear c11b0
      try clear c11b1
      try clear c11b2
      try clear c13
      try clear c15
      try clear c16
      try clear c16b0
      try clear c17b0
      try clear c18b0
      try clear c19
      try clear c19b0
      try clear c20
      try clear c20b0
      try clear hcz21_0
      try clear hcz4_0
      try clear hcz6_0
      try clear hfz21_0
      try clear hfz4_0
      try clear hfz6_0
      try clear hx600_0
      try clear hx603_0
      try clear p600
      try clear p603
      try clear q600
      try clear q603
      obtain ⟨x55_2, rfl, HA, HK2, BK599, HB⟩ := hrel
      cases gk with
      | zero => exact absurd HA.out (by simp [Y6.l2])
      | succ k2 =>
       have H := HA.out
       clear HA
       simp only [Y6.l2] at H
       by_cases c22 : x55_2 < (l0_0.length : Int)
       ·rw [if_pos c22] at H
        have c22b0 := decide_eq_true c22
        clear c22
        replace H := bS H
        obtain ⟨t605, A23, H⟩ := H
        try dsimp only at H
        replace H := bS H
        obtain ⟨t608, A24, H⟩ := H
        try dsimp only at H
        by_cases c25 : t608 = 0
        ·rw [if_pos c25] at H
         have c25b0 : (t608 == 0) = true := beq_iff_eq.mpr c25
         have c25b1 : (t608 != 0) = false := bne_eq_false_iff_eq.mpr c25
         clear c25
         obtain rfl := Option.some.inj H
         have hcz26_0 := zc10 BK599
         have hfz26_0 := blk_frozen BK599.out 0
         go_wp2_with (first | ((with_reducible refine gate_callee (f := 170) rfl ?_); refine gL (some 60) Tryz.func170 #[.agg #[.slice A0_0 l0_0.length c0_0], .int .i64 x55_2] ?_; (with_reducible refine (Y41.calls k2 _ _ l0_0 x55_2 t605 _ (cQ (Kd.C_below HR0_0.out HB.out)) HC0_0.out A23.out).mono ?_); rintro e w27 ⟨v606, rfl, ho0, hb⟩; refine ⟨_, rfl, ?_⟩; have _ := aM (Kd.R_lower ho0 (below_size bq)); have _ := bK BK599 hb; have _ := bB hb; clear BK599 HB; rename_i HO607 BK599 HB; (try clear hb); (try clear ho0); obtain ⟨Ao28, co28, eo28⟩ := Kd.R_slice HO607.out; subst eo28) | ((with_reducible refine gate_callee (f := 158) rfl ?_); refine gL (some 61) Tryz.func158 #[.slice Ao28 t605.length co28] ?_; (with_reducible refine (Y28.calls k2 _ _ t605 t608 _ (cQ ((Kd.R_reads' HO607.out).2.2)) ((Kd.R_reads' HO607.out).2.1) A24.out).mono ?_); rintro e w' ⟨rfl, ⟨nd, rfl⟩⟩; refine ⟨_, rfl, ?_⟩))
         go_ret
         exact ⟨eE, bq⟩
        ·rw [if_neg c25] at H
         have c25b0 : (t608 == 0) = false := beq_eq_false_iff_ne.mpr c25
         have c25b1 : (t608 != 0) = true := bne_iff_ne.mpr c25
         have H' := aM H
         clear H
         have hcz29_0 := zc10 BK599
         have hfz29_0 := blk_frozen BK599.out 0
         go_wp2_with (first | ((with_reducible refine gate_callee (f := 170) rfl ?_); refine gL (some 60) Tryz.func170 #[.agg #[.slice A0_0 l0_0.length c0_0], .int .i64 x55_2] ?_; (with_reducible refine (Y41.calls k2 _ _ l0_0 x55_2 t605 _ (cQ (Kd.C_below HR0_0.out HB.out)) HC0_0.out A23.out).mono ?_); rintro e w30 ⟨v606, rfl, ho0, hb⟩; refine ⟨_, rfl, ?_⟩; have _ := aM (Kd.R_lower ho0 (below_size bq)); have _ := bK BK599 hb; have _ := bB hb; clear BK599 HB; rename_i HO607 BK599 HB; (try clear hb); (try clear ho0); obtain ⟨Ao31, co31, eo31⟩ := Kd.R_slice HO607.out; subst eo31) | ((with_reducible refine gate_callee (f := 158) rfl ?_); refine gL (some 61) Tryz.func158 #[.slice Ao31 t605.length co31] ?_; (with_reducible refine (Y28.calls k2 _ _ t605 t608 _ (cQ ((Kd.R_reads' HO607.out).2.2)) ((Kd.R_reads' HO607.out).2.1) A24.out).mono ?_); rintro e w' ⟨rfl, ⟨nd, rfl⟩⟩; refine ⟨_, rfl, ?_⟩))
         go_roundg k2
         case measure => have := HK1.out; have := HK2.out; omega
         case rel => exact ⟨(wrap64 (x55_2 + 1)), eR, H', ⟨by have := HK1.out; have := HK2.out; omega⟩, ⟨qQ BK599⟩, ⟨bq⟩⟩
       ·rw [if_neg c22] at H
        have c22b0 := decide_eq_false c22
        clear c22
        replace H := bS H
        obtain ⟨t604, A32, H⟩ := H
        try dsimp only at H
        obtain rfl := Option.some.inj H
        have hcz33_0 := zc10 BK599
        have hfz33_0 := blk_frozen BK599.out 0
        go_wp2_with (first | ((with_reducible refine gate_callee (f := 171) rfl ?_); refine gL (some 65) Tryz.func171 #[.agg #[.slice A0_0 l0_0.length c0_0]] ?_; (with_reducible refine (Y44.calls k2 _ _ l0_0 t604 _ (cQ (Kd.C_below HR0_0.out HB.out)) HC0_0.out A32.out).mono ?_); rintro e w34 ⟨rfl, hb⟩; refine ⟨_, rfl, ?_⟩; have _ := bK BK599 hb; have _ := bB hb; clear BK599 HB; rename_i BK599 HB; (try clear hb)))
        go_ret
        exact ⟨eE, bq⟩
end Go.Proofs.YtjmmleofnjcjoaaGreatDoor.Du
namespace Go.Proofs.YtjmmleofnjcjoaaGreatDoor.Du
open Go.RowKit Go.Proofs.YtjmmleofnjcjoaaGreatDoorW.PrintWords Go.Proofs.YtjmmleofnjcjoaaGreatDoorW.PrintLast Go.Proofs.YtjmmleofnjcjoaaGreatDoorW.PrintMore Go.Proofs.YtjmmleofnjcjoaaGreatDoor.Sq
attribute [local go_sem] max2_int min2_int max_two min_two max_three min_three max_four min_four
set_option linter.unusedVariables false
set_option linter.unusedSimpArgs false
set_option maxHeartbeats 8000000
set_option maxRecDepth 100000
mutual
def Y21.l0 : Nat → Int → Int → List (List Int) → List (List Int) → Option ((List (List Int)) × Bool)
 | 0, _, _, _, _ => none
 | k + 1, x4, x6, x610000, x613000 => if x6 < x4 then (Y21.l1 k x4 x6 ([] : List Int) 0 x610000 x613000) else (some (x613000, true))
def Y21.l1 : Nat → Int → Int → List Int → Int → List (List Int) → List (List Int) → Option ((List (List Int)) × Bool)
 | 0, _, _, _, _, _, _ => none
 | k + 1, x4, x6, x7, x8, x610000, x613000 => if x8 < x4 then (if 0 ≤ (wrap64 ((wrap64 (x4 - 1)) - x8)) then (if (wrap64 ((wrap64 (x4 - 1)) - x8)) < (x610000.length : Int) then (if 0 ≤ (wrap64 ((wrap64 (x4 - 1)) - x6)) then (if (wrap64 ((wrap64 (x4 - 1)) - x6)) < ((rd_L4 x610000 (wrap64 ((wrap64 (x4 - 1)) - x8))).length : Int) then (if x7.length < 17592186044416 then (Y21.l1 k x4 x6 (x7 ++ [rd (rd_L4 x610000 (wrap64 ((wrap64 (x4 - 1)) - x8))) (wrap64 ((wrap64 (x4 - 1)) - x6))]) (wrap64 (x8 + 1)) x610000 x613000) else (none)) else (none)) else (none)) else (none)) else (none)) else (if x613000.length < 5864062014805 then (Y21.l0 k x4 (wrap64 (x6 + 1)) x610000 (x613000 ++ [x7])) else (none))
end
def Y21.f (k : Nat) (l0_0 : List (List Int)) : Option ((List (List Int)) × Bool) := (Y6.f k l0_0).bind fun t611 => (if t611 = true then (Y21.l0 k (l0_0.length : Int) 0 l0_0 ([] : List (List Int))) else (some (([] : List (List Int)), false)))
theorem Y21.calls (k : Nat) (A0_0 : Option Addr) (c0_0 : Nat) (l0_0 : List (List Int)) (r1 : List (List Int)) (r2 : Bool) (w : World) (hr0_0 : Kd.C (Kd.slice 3 (Kd.int .i64)) w A0_0 l0_0.length l0_0) (hc0_0 : l0_0.length ≤ c0_0) (h : Y21.f k l0_0 = some (r1, r2)) :
  Calls Tryz.prog 22 #[.agg #[.slice A0_0 l0_0.length c0_0]] w fun e w' => ∃ v0_ : Value, e = .returned (.tuple #[.agg #[v0_], .bool r2]) ∧ Kd.S (Kd.slice 3 (Kd.int .i64)) 24 w' w.heap.size (fun _ => True) v0_ r1 ∧ Below w.heap.size w w' := by
 have hu41 := Tryz.underlying41
 have HR0_0 := aM hr0_0
 have HC0_0 := aM hc0_0
 clear hr0_0 hc0_0
 have HB := aM (Below.refl w.heap.size w)
 unfold Y21.f at h
 have H := h
 clear h
 replace H := bS H
 obtain ⟨t611, A2, H⟩ := H
 try dsimp only at H
 by_cases c3 : t611 = true
 ·subst c3
  have H1 : (Y21.l0 k (l0_0.length : Int) 0 l0_0 ([] : List (List Int))) = some (r1, r2) := by rw [if_pos rfl] at H; exact H
  clear H
  have H := H1
  clear H1
  have H' := aM H
  clear H
  go_enter Tryz.func22, Tryz.ntmps22
  go_wp2_with (first | ((with_reducible refine gate_dst (N := 1) rfl ?_); refine bF 1 41 #[.slice A0_0 l0_0.length c0_0] bq ?_; intro gb609 w4 hg hb _ _ _ _; clear HB; rename_i HB BK609 GW609 GE609; clear hb hg) | ((with_reducible refine gate_dst (N := 2) rfl ?_); refine bE 2 41 #[.slice none 0 0] ?_; intro gb610 hg w5 hbox hb; have _ := bK BK609 hb; have _ := bB hb; have _ := aM (hbox); have _ := aM ((gS hg)); have _ := aM ((gS hg)); have _ := aM (nL hg BK609); have _ := aM (nG hg BK609); clear BK609 HB; rename_i BK609 HB BK610 GW610 GE610 NB609_610 NB610_609; clear hb hbox hg; have hnb6 := NB609_610.out; have hnc6 := NB610_609.out; have hcz7_0 := zc10 BK609; have hfz7_0 := blk_frozen BK609.out 0) | ((with_reducible refine gate_callee (f := 84) rfl ?_); refine gL (some 10) Tryz.func84 #[.agg #[.slice A0_0 l0_0.length c0_0]] ?_; (with_reducible refine (Y6.calls k _ _ l0_0 true _ (cQ (Kd.C_below HR0_0.out HB.out)) HC0_0.out A2.out).mono ?_); rintro e w8 ⟨rfl, hb⟩; refine ⟨_, rfl, ?_⟩; have _ := bK BK609 hb; have _ := bK BK610 hb; have _ := bB hb; clear BK609 BK610 HB; rename_i BK609 BK610 HB; (try clear hb); have hcz9_0 := zc10 BK609; have hfz9_0 := blk_frozen BK609.out 0) | ((with_reducible refine gate_dst (N := 5) rfl ?_); refine bE 5 41 #[.slice none 0 0] ?_; intro gb612 hg w10 hbox hb; have _ := bK BK609 hb; have _ := bK BK610 hb; have _ := bB hb; have _ := aM (hbox); have _ := aM ((gS hg)); have _ := aM ((gS hg)); have _ := aM (nL hg BK609); have _ := aM (nG hg BK609); have _ := aM (nL hg BK610); have _ := aM (nG hg BK610); clear BK609 BK610 HB; rename_i BK609 BK610 HB BK612 GW612 GE612 NB609_612 NB612_609 NB610_612 NB612_610; clear hb hbox hg; have hnb11 := NB612_609.out; have hnc11 := NB609_612.out; have hnb12 := NB612_610.out; have hnc12 := NB610_612.out; have hcz13_0 := zc10 BK612; have hfz13_0 := blk_frozen BK612.out 0))
  go_loopg [6] k (fun kq v6 w' => ∃ (x6_1 : Int) (x613000_1 : List (List Int)) (u613000 : Value), v6 = .int .i64 x6_1 ∧ Aside0 (Y21.l0 kq (l0_0.length : Int) x6_1 l0_0 x613000_1 = some (r1, r2)) ∧ Aside0 (kq ≤ k) ∧ Aside0 (Kd.S (Kd.slice 3 (Kd.int .i64)) 24 w' w.heap.size (fun _ => True) u613000 x613000_1) ∧ Aside0 (w'.heap[gb609]? = some (.cells #[(.slice A0_0 l0_0.length c0_0)] 41 (0, 0))) ∧ Aside0 (w'.heap[gb610]? = some (.cells #[(.slice none 0 0)] 41 (0, 0))) ∧ Aside0 (w'.heap[gb612]? = some (.cells #[u613000] 41 (0, 0))) ∧ Aside0 (Below w.heap.size w w'))
  case atStart => exact ⟨(0), (([] : List (List Int))), (.slice none 0 0), eR, H', ⟨Nat.le_refl _⟩, ⟨by first | exact Kd.S_nil _ _ _ _ _ | exact Kd.N_nil _ _ _ _ _ | exact Kd.V_nil _ _ _ _ _ | exact Kd.Q_nil _ _ _ _ _ | exact Kd.R_nil _ _ _ _ _⟩, ⟨by (with_reducible repeat first|apply qN|apply qD|apply qA); refine blk_far ?_ NB609_612.out _; (with_reducible repeat first|apply qN|apply qD|apply qA); exact BK609.out⟩, ⟨by (with_reducible repeat first|apply qN|apply qD|apply qA); refine blk_far ?_ NB610_612.out _; (with_reducible repeat first|apply qN|apply qD|apply qA); exact BK610.out⟩, ⟨by (with_reducible repeat first|apply qN|apply qD|apply qA); refine blk_put (cs := #[.slice none 0 0]) ?_ 0 _ rfl; (with_reducible repeat first|apply qN|apply qD|apply qA); exact BK612.out⟩, ⟨bq⟩⟩
  case round =>
   clear H'
   try clear c3
   try clear hcz13_0
   try clear hcz7_0
   try clear hcz9_0
   try clear hfz13_0
   try clear hfz7_0
   try clear hfz9_0
   obtain ⟨x6_1, x613000_1, u613000, rfl, HA, HK1, HO_613000, BK609, BK610, BK612, HB⟩ := hrel
   cases gk with
   | zero => exact absurd HA.out (by simp [Y21.l0])
   | succ k1 =>
    have H := HA.out
    clear HA
    simp only [Y21.l0] at H
    by_cases c14 : x6_1 < (l0_0.length : Int)
    ·rw [if_pos c14] at H
     have c14b0 := decide_eq_true c14
     clear c14
     have H' := aM H
     clear H
     go_wp2
     go_loopg [7, 8] k1 (fun kq v7 v8 w' => ∃ (x7_2 : List Int) (x8_2 : Int), v8 = .int .i64 x8_2 ∧ Aside0 (Y21.l1 kq (l0_0.length : Int) x6_1 x7_2 x8_2 l0_0 x613000_1 = some (r1, r2)) ∧ Aside0 (kq ≤ k1) ∧ Aside0 (Kd.R (Kd.int .i64) 3 w' w.heap.size (fun _ => True) v7 x7_2) ∧ Aside0 (Kd.S (Kd.slice 3 (Kd.int .i64)) 24 w' w.heap.size (fun k_ => some k_ ≠ (v7 : Value).ownBlock) u613000 x613000_1) ∧ Aside0 (w'.heap[gb609]? = some (.cells #[(.slice A0_0 l0_0.length c0_0)] 41 (0, 0))) ∧ Aside0 (w'.heap[gb610]? = some (.cells #[(.slice none 0 0)] 41 (0, 0))) ∧ Aside0 (w'.heap[gb612]? = some (.cells #[u613000] 41 (0, 0))) ∧ Aside0 (Below w.heap.size w w'))
     case atStart => exact ⟨(([] : List Int)), (0), eR, H', ⟨Nat.le_refl _⟩, ⟨by first | exact Kd.R_nil _ _ _ _ _ | exact Kd.N_nil _ _ _ _ _ | exact Kd.V_nil _ _ _ _ _ | exact Kd.Q_nil _ _ _ _ _ | exact Kd.S_nil _ _ _ _ _⟩, ⟨by (with_reducible repeat first|apply sA|apply sN|apply sD); exact Kd.S_mono HO_613000.out (fun _ hk => (by simp [Value.ownBlock]))⟩, ⟨qQ BK609⟩, ⟨qQ BK610⟩, ⟨qQ BK612⟩, ⟨bq⟩⟩
     case round =>
      clear H'
      try clear c3
      try clear c14
      try clear c14b0
      try clear hcz13_0
      try clear hcz7_0
      try clear hcz9_0
      try clear hfz13_0
      try clear hfz7_0
      try clear hfz9_0
      obtain ⟨x7_2, x8_2, rfl, HA, HK2, HO_7, HO_613000, BK609, BK610, BK612, HB⟩ := hrel
      cases gk with
      | zero => exact absurd HA.out (by simp [Y21.l1])
      | succ k2 =>
       have H := HA.out
       clear HA
       simp only [Y21.l1] at H
       by_cases c15 : x8_2 < (l0_0.length : Int)
       ·rw [if_pos c15] at H
        have c15b0 := decide_eq_true c15
        clear c15
        obtain ⟨ji16, hji16⟩ : ∃ j_ : Int, (wrap64 ((wrap64 ((l0_0.length : Int) - 1)) - x8_2)) = j_ := ⟨_, rfl⟩
        replace H : (if 0 ≤ (ji16) then (if (ji16) < (l0_0.length : Int) then (if 0 ≤ (wrap64 ((wrap64 ((l0_0.length : Int) - 1)) - x6_1)) then (if (wrap64 ((wrap64 ((l0_0.length : Int) - 1)) - x6_1)) < ((rd_L4 l0_0 (ji16)).length : Int) then (if x7_2.length < 17592186044416 then (Y21.l1 k2 (l0_0.length : Int) x6_1 (x7_2 ++ [rd (rd_L4 l0_0 (ji16)) (wrap64 ((wrap64 ((l0_0.length : Int) - 1)) - x6_1))]) (wrap64 (x8_2 + 1)) l0_0 x613000_1) else (none)) else (none)) else (none)) else (none)) else (none)) = some (r1, r2) := by first | (rw [hji16] at H; exact H) | (simp only [hji16] at H ⊢; exact H)
        have hji16w : (IntKind.i64.wrap ((wrap64 ((l0_0.length : Int) - 1)) - x8_2)) = ji16 := (i64_w _).trans hji16
        replace H := iD2 H
        obtain ⟨c17b0, c18b0, H⟩ := H
        obtain ⟨ji19, hji19⟩ : ∃ j_ : Int, (wrap64 ((wrap64 ((l0_0.length : Int) - 1)) - x6_1)) = j_ := ⟨_, rfl⟩
        replace H : (if 0 ≤ (ji19) then (if (ji19) < ((rd_L4 l0_0 (ji16)).length : Int) then (if x7_2.length < 17592186044416 then (Y21.l1 k2 (l0_0.length : Int) x6_1 (x7_2 ++ [rd (rd_L4 l0_0 (ji16)) (ji19)]) (wrap64 (x8_2 + 1)) l0_0 x613000_1) else (none)) else (none)) else (none)) = some (r1, r2) := by first | (rw [hji19] at H; exact H) | (simp only [hji19] at H ⊢; exact H)
        have hji19w : (IntKind.i64.wrap ((wrap64 ((l0_0.length : Int) - 1)) - x6_1)) = ji19 := (i64_w _).trans hji19
        replace H := iD2 H
        obtain ⟨c20b0, c21b0, H⟩ := H
        replace H := iS H
        obtain ⟨c22, H⟩ := H
        have LMc22 := aM c22
        clear c22
        obtain ⟨y615, hy615⟩ := nE ((x7_2 ++ [rd (rd_L4 l0_0 (ji16)) (ji19)]) : List Int)
        try rw [← hy615] at H
        try with_reducible replace H := (Option.bind_some _ _).symm.trans H
        try dsimp only at H
        have Ny615 := aM hy615
        clear hy615
        have H' := aM H
        clear H
        have hnb23 := NB609_610.out
        have hnc23 := NB610_609.out
        have hnb24 := NB609_612.out
        have hnc24 := NB612_609.out
        have hcz25_0 := zc10 BK609
        have hfz25_0 := blk_frozen BK609.out 0
        have p613 : 0 ≤ ((ji16) : Int) := odt
        have q613 : (ji16) < (l0_0.length : Int) := odt
        obtain ⟨ad613, A613_0, c613_0, e613, hx613_0, hl613_0, hi613_0⟩ := at_L4 HR0_0.out (ji16) p613 q613
        cases e613
        replace hx613_0 := (HB.out.cell (World.block_lt_of_cell? w _ hx613_0)).trans hx613_0
        have HR613_0 := aM hi613_0
        have HC613_0 := aM hl613_0
        clear hi613_0 hl613_0
        replace p613 := eq_true p613
        replace q613 := eq_true q613
        have p614 : 0 ≤ ((ji19) : Int) := odt
        have q614 : (ji19) < ((rd_L4 l0_0 (ji16)).length : Int) := odt
        obtain ⟨ad614, e614, hx614_0⟩ := Kd.at_int HR613_0.out (ji19) p614 q614
        cases e614
        replace hx614_0 := (HB.out.cell (World.block_lt_of_cell? w _ hx614_0)).trans hx614_0
        replace p614 := eq_true p614
        replace q614 := eq_true q614
        go_wp2_with (first | ((with_reducible refine gate_builtin (b := .append) (xs := #[.tmp 27, .tmp 42]) rfl ?_); at_builtin; refine Kd.R_append (Kd.int .i64) (w0 := w) w.heap.size rfl (.tmp 27) (.tmp 42) 24 3 (.int .i64 0) 8 rfl Tryz.underlying24 info3 rfl (by decide) (by omega) u7 x7_2 (rd (rd_L4 l0_0 (ji16)) (ji19)) [.int .i64 (rd (rd_L4 l0_0 (ji16)) (ji19))] (fun _ => True) (fun _ => False) rfl rfl ?aP (fun _ hk => hk.elim) ?aF ?aO ?aB ?aS ?aL ?_; (case aP => exact rfl); (case aB => exact bq); (case aF => exact (fun _ _ => trivial)); (case aO => exact (rQ HO_7)); (case aS => exact (below_size bq)); (case aL => have := LMc22.out; omega); intro v616 w26 ho hb hg hat; rw [← Ny615.out] at ho; have _ := aM (Kd.S_after (ok := (fun _ => True)) (by (with_reducible repeat first|apply sA|apply sN|apply sD); exact Kd.S_mono HO_613000.out (fun _ hk => ⟨trivial, hk⟩)) hg hat); have _ := aM (blk_grown (g := gb609) (o := .cells #[.slice (some ad613) l0_0.length c0_0] 41 (0, 0)) (qQ BK609) hg (Kd.R_ne HO_7.out BK609.out (by decide))); have _ := aM (blk_grown (g := gb610) (o := .cells #[.slice none 0 0] 41 (0, 0)) (qQ BK610) hg (Kd.R_ne HO_7.out BK610.out (by decide))); have _ := aM (blk_grown (g := gb612) (o := .cells #[u613000] 41 (0, 0)) (qQ BK612) hg (Kd.R_ne HO_7.out BK612.out (by decide))); have _ := aM (hb); have _ := aM (ho); clear HO_613000 BK609 BK610 BK612 HB HO_7; rename_i HO_613000 BK609 BK610 BK612 HB HO617; clear ho hb hg hat))
        go_roundg k2
        case measure => have := HK1.out; have := HK2.out; omega
        case rel => exact ⟨(y615), (wrap64 (x8_2 + 1)), eR, H', ⟨by have := HK1.out; have := HK2.out; omega⟩, ⟨rQ HO617⟩, ⟨by (with_reducible repeat first|apply sA|apply sN|apply sD); exact Kd.S_mono HO_613000.out (fun _ hk => hk.2)⟩, ⟨qQ BK609⟩, ⟨qQ BK610⟩, ⟨qQ BK612⟩, ⟨bq⟩⟩
       ·rw [if_neg c15] at H
        have c15b0 := decide_eq_false c15
        clear c15
        replace H := iS H
        obtain ⟨c27, H⟩ := H
        have LMc27 := aM c27
        clear c27
        obtain ⟨y618, hy618⟩ := nE ((x613000_1 ++ [x7_2]) : List (List Int))
        try rw [← hy618] at H
        try with_reducible replace H := (Option.bind_some _ _).symm.trans H
        try dsimp only at H
        have Ny618 := aM hy618
        clear hy618
        have H' := aM H
        clear H
        have hnb28 := NB612_609.out
        have hnc28 := NB609_612.out
        have hnb29 := NB612_610.out
        have hnc29 := NB610_612.out
        have hcz30_0 := zc10 BK612
        have hfz30_0 := blk_frozen BK612.out 0
        obtain ⟨Ao32, co32, eo32⟩ := Kd.R_slice HO_7.out
        subst eo32
        go_wp2_with (first | ((with_reducible refine gate_builtin (b := .append) (xs := #[.tmp 45, .tmp 47]) rfl ?_); at_builtin; refine Kd.S_append (Kd.slice 3 (Kd.int .i64)) (w0 := w) w.heap.size rfl (.tmp 45) (.tmp 47) 39 24 (.slice none 0 0) 24 rfl Tryz.underlying39 info24 rfl (by decide) (by omega) u613000 x613000_1 x7_2 [.slice Ao32 x7_2.length co32] (fun _ => True) (fun k_ => some k_ = (.slice Ao32 x7_2.length co32 : Value).ownBlock) rfl rfl ?aP (fun k_ hk_ => ((Kd.R_mono (ok' := fun k_ => ((fun _ => True)) k_ ∧ some k_ ≠ (u613000 : Value).ownBlock) (Kd.R_apart' (HO_7.out) (Kd.S_typed HO_613000.out) (by decide)) (fun k_ hk => ⟨trivial, hk.2⟩))).1 k_ hk_.symm) ?aF ?aO ?aB ?aS ?aL ?_; (case aP => exact Kd.M_row (Kd.R_mono (Kd.R_tight rfl (Kd.R_mono (ok' := fun k_ => ((fun _ => True)) k_ ∧ some k_ ≠ (u613000 : Value).ownBlock) (Kd.R_apart' (HO_7.out) (Kd.S_typed HO_613000.out) (by decide)) (fun k_ hk => ⟨trivial, hk.2⟩))) (fun _ h_ => h_))); (case aB => exact bq); (case aF => exact (fun _ _ => trivial)); (case aO => exact (by (with_reducible repeat first|apply sA|apply sN|apply sD); exact Kd.S_mono HO_613000.out (fun k_ hk => ⟨trivial, fun e_ => hk e_⟩))); (case aS => exact (below_size bq)); (case aL => have := LMc27.out; omega); intro v619 w31 ho hb hg hat; rw [← Ny618.out] at ho; have _ := aM (blk_grown (g := gb609) (o := .cells #[.slice A0_0 l0_0.length c0_0] 41 (0, 0)) (qQ BK609) hg (Kd.S_ne HO_613000.out BK609.out (by decide))); have _ := aM (blk_grown (g := gb610) (o := .cells #[.slice none 0 0] 41 (0, 0)) (qQ BK610) hg (Kd.S_ne HO_613000.out BK610.out (by decide))); have _ := aM (blk_grown (g := gb612) (o := .cells #[u613000] 41 (0, 0)) (qQ BK612) hg (Kd.S_ne HO_613000.out BK612.out (by decide))); have _ := aM (hb); have _ := aM (ho); clear BK609 BK610 BK612 HB HO_613000 HO_7; rename_i BK609 BK610 BK612 HB HO620; clear ho hb hg hat; obtain ⟨Ao33, co33, eo33⟩ := Kd.S_slice HO620.out; subst eo33; have hcz34_0 := zc10 BK612; have hfz34_0 := blk_frozen BK612.out 0))
        go_roundg k2
        case measure => have := HK1.out; have := HK2.out; omega
        case rel => exact ⟨(wrap64 (x6_1 + 1)), (y618), (.slice Ao33 y618.length co33), eR, H', ⟨by have := HK1.out; have := HK2.out; omega⟩, ⟨by (with_reducible repeat first|apply sA|apply sN|apply sD); exact Kd.S_mono (Kd.S_far (p := ⟨gb612, 0, none⟩) (Kd.S_types HO620.out BK612.out (by decide)) (fun _ hk => hk.2) (.slice Ao33 y618.length co33)) (fun _ hk => trivial)⟩, ⟨by (with_reducible repeat first|apply qN|apply qD|apply qA); refine blk_far ?_ NB609_612.out _; (with_reducible repeat first|apply qN|apply qD|apply qA); exact BK609.out⟩, ⟨by (with_reducible repeat first|apply qN|apply qD|apply qA); refine blk_far ?_ NB610_612.out _; (with_reducible repeat first|apply qN|apply qD|apply qA); exact BK610.out⟩, ⟨by (with_reducible repeat first|apply qN|apply qD|apply qA); refine blk_put (cs := #[u613000]) ?_ 0 _ rfl; (with_reducible repeat first|apply qN|apply qD|apply qA); exact BK612.out⟩, ⟨bq⟩⟩
    ·rw [if_neg c14] at H
     have c14b0 := decide_eq_false c14
     clear c14
     simp only [Option.some.injEq, Prod.mk.injEq] at H
     obtain ⟨rfl, rfl⟩ := H
     have hnb35 := NB612_609.out
     have hnc35 := NB609_612.out
     have hnb36 := NB612_610.out
     have hnc36 := NB610_612.out
     have hcz37_0 := zc10 BK612
     have hfz37_0 := blk_frozen BK612.out 0
     obtain ⟨Ao38, co38, eo38⟩ := Kd.S_slice HO_613000.out
     subst eo38
     have hnb39 := NB610_609.out
     have hnc39 := NB609_610.out
     have hcz40_0 := zc10 BK610
     have hfz40_0 := blk_frozen BK610.out 0
     go_wp2
     refine bodyPost_ret (results_ct rfl _ _ gb610 41 #[.slice Ao38 x613000_1.length co38] (0, 0) _ rfl (by (with_reducible repeat first|apply qN|apply qD|apply qA); refine blk_put (cs := #[.slice none 0 0]) ?_ 0 _ rfl; (with_reducible repeat first|apply qN|apply qD|apply qA); exact BK610.out) Tryz.underlying41 rfl (by kernel_rfl)) rfl ?_
     exact ⟨_, eE, by (with_reducible repeat first|apply sA|apply sN|apply sD); exact Kd.S_mono (Kd.S_far (p := ⟨gb610, 0, none⟩) (Kd.S_types HO_613000.out BK610.out (by decide)) (fun _ hk => hk.2) (.slice Ao38 x613000_1.length co38)) (fun _ hk => trivial), bq⟩
 ·replace c3 := Bool.eq_false_iff.mpr c3
  subst c3
  have H1 : (some (([] : List (List Int)), false)) = some (r1, r2) := by rw [if_neg (show ¬ (false = true) by decide)] at H; exact H
  clear H
  have H := H1
  clear H1
  simp only [Option.some.injEq, Prod.mk.injEq] at H
  obtain ⟨rfl, rfl⟩ := H
  go_enter Tryz.func22, Tryz.ntmps22
  go_wp2_with (first | ((with_reducible refine gate_dst (N := 1) rfl ?_); refine bF 1 41 #[.slice A0_0 l0_0.length c0_0] bq ?_; intro gb609 w41 hg hb _ _ _ _; clear HB; rename_i HB BK609 GW609 GE609; clear hb hg) | ((with_reducible refine gate_dst (N := 2) rfl ?_); refine bE 2 41 #[.slice none 0 0] ?_; intro gb610 hg w42 hbox hb; have _ := bK BK609 hb; have _ := bB hb; have _ := aM (hbox); have _ := aM ((gS hg)); have _ := aM ((gS hg)); have _ := aM (nL hg BK609); have _ := aM (nG hg BK609); clear BK609 HB; rename_i BK609 HB BK610 GW610 GE610 NB609_610 NB610_609; clear hb hbox hg; have hnb43 := NB609_610.out; have hnc43 := NB610_609.out; have hcz44_0 := zc10 BK609; have hfz44_0 := blk_frozen BK609.out 0) | ((with_reducible refine gate_callee (f := 84) rfl ?_); refine gL (some 10) Tryz.func84 #[.agg #[.slice A0_0 l0_0.length c0_0]] ?_; (with_reducible refine (Y6.calls k _ _ l0_0 false _ (cQ (Kd.C_below HR0_0.out HB.out)) HC0_0.out A2.out).mono ?_); rintro e w45 ⟨rfl, hb⟩; refine ⟨_, rfl, ?_⟩; have _ := bK BK609 hb; have _ := bK BK610 hb; have _ := bB hb; clear BK609 BK610 HB; rename_i BK609 BK610 HB; (try clear hb); have hcz46_0 := zc10 BK610; have hfz46_0 := blk_frozen BK610.out 0))
  refine bodyPost_ret (results_ct rfl _ _ gb610 41 #[.slice none 0 0] (0, 0) _ rfl (by (with_reducible repeat first|apply qN|apply qD|apply qA); refine blk_put (cs := #[.slice none 0 0]) ?_ 0 _ rfl; (with_reducible repeat first|apply qN|apply qD|apply qA); exact BK610.out) Tryz.underlying41 rfl (by kernel_rfl)) rfl ?_
  exact ⟨_, eE, by first | exact Kd.S_nil _ _ _ _ _ | exact Kd.N_nil _ _ _ _ _ | exact Kd.V_nil _ _ _ _ _ | exact Kd.Q_nil _ _ _ _ _ | exact Kd.R_nil _ _ _ _ _, bq⟩
def Y56.f (k : Nat) (a0_0 : Int) (l0_1 : List Int) : Option (Int × List Int × Bool) := (Y49.f k a0_0 l0_1).bind fun t623 => (if t623 = true then ((Y3.f a0_0 l0_1).bind fun bt624 => (some (bt624.1, bt624.2, true))) else (some (0, ([] : List Int), false)))
theorem Y56.calls (k : Nat) (a0_0 : Int) (A0_1 : Option Addr) (c0_1 : Nat) (l0_1 : List Int) (r1 : Int) (r2 : List Int) (r3 : Bool) (w : World) (hr0_1 : Kd.C (Kd.int .i64) w A0_1 l0_1.length l0_1) (hc0_1 : l0_1.length ≤ c0_1) (h : Y56.f k a0_0 l0_1 = some (r1, r2, r3)) :
  Calls Tryz.prog 23 #[.agg #[.int .i64 a0_0, .slice A0_1 l0_1.length c0_1]] w fun e w' => ∃ v1_ : Value, e = .returned (.tuple #[.agg #[.int .i64 r1, v1_], .bool r3]) ∧ Kd.R (Kd.int .i64) 3 w' w.heap.size (fun _ => True) v1_ r2 ∧ Below w.heap.size w w' := by
 have hu26 := Tryz.underlying26
 have HR0_1 := aM hr0_1
 have HC0_1 := aM hc0_1
 clear hr0_1 hc0_1
 have HB := aM (Below.refl w.heap.size w)
 unfold Y56.f at h
 have H := h
 clear h
 replace H := bS H
 obtain ⟨t623, A2, H⟩ := H
 try dsimp only at H
 by_cases c3 : t623 = true
 ·subst c3
  have H1 : ((Y3.f a0_0 l0_1).bind fun bt624 => (some (bt624.1, bt624.2, true))) = some (r1, r2, r3) := by rw [if_pos rfl] at H; exact H
  clear H
  have H := H1
  clear H1
  replace H := bS H
  obtain ⟨⟨t624, t625⟩, A4, H⟩ := H
  try dsimp only at H
  simp only [Option.some.injEq, Prod.mk.injEq] at H
  obtain ⟨rfl, rfl, rfl⟩ := H
  go_enter Tryz.func23, Tryz.ntmps23
  go_wp2_with (first | ((with_reducible refine gate_dst (N := 1) rfl ?_); refine bF 1 26 #[.int .i64 a0_0, .slice A0_1 l0_1.length c0_1] bq ?_; intro gb621 w5 hg hb _ _ _ _; clear HB; rename_i HB BK621 GW621 GE621; clear hb hg) | ((with_reducible refine gate_dst (N := 2) rfl ?_); refine bE 2 26 #[.int .i64 0, .slice none 0 0] ?_; intro gb622 hg w6 hbox hb; have _ := bK BK621 hb; have _ := bB hb; have _ := aM (hbox); have _ := aM ((gS hg)); have _ := aM ((gS hg)); have _ := aM (nL hg BK621); have _ := aM (nG hg BK621); clear BK621 HB; rename_i BK621 HB BK622 GW622 GE622 NB621_622 NB622_621; clear hb hbox hg; have hnb7 := NB621_622.out; have hnc7 := NB622_621.out; have hcz8_0 := zc20 BK621; have hcz8_1 := zc21 BK621; have hfz8_0 := blk_frozen BK621.out 0; have hfz8_1 := blk_frozen BK621.out 1) | ((with_reducible refine gate_callee (f := 50) rfl ?_); refine gL (some 5) Tryz.func50 #[.agg #[.int .i64 a0_0, .slice A0_1 l0_1.length c0_1]] ?_; (with_reducible refine (Y49.calls k a0_0 _ _ l0_1 true _ (cQ (Kd.C_below HR0_1.out HB.out)) HC0_1.out A2.out).mono ?_); rintro e w9 ⟨rfl, hb⟩; refine ⟨_, rfl, ?_⟩; have _ := bK BK621 hb; have _ := bK BK622 hb; have _ := bB hb; clear BK621 BK622 HB; rename_i BK621 BK622 HB; (try clear hb); have hcz10_0 := zc20 BK621; have hcz10_1 := zc21 BK621; have hfz10_0 := blk_frozen BK621.out 0; have hfz10_1 := blk_frozen BK621.out 1) | ((with_reducible refine gate_callee (f := 85) rfl ?_); refine gL (some 9) Tryz.func85 #[.agg #[.int .i64 a0_0, .slice A0_1 l0_1.length c0_1]] ?_; (with_reducible refine (Y3.calls a0_0 _ _ l0_1 t624 t625 _ (cQ (Kd.C_below HR0_1.out HB.out)) HC0_1.out A4.out).mono ?_); rintro e w11 ⟨v626, rfl, ho0, hb⟩; refine ⟨_, rfl, ?_⟩; have _ := aM (Kd.R_lower ho0 (below_size bq)); have _ := bK BK621 hb; have _ := bK BK622 hb; have _ := bB hb; clear BK621 BK622 HB; rename_i HO627 BK621 BK622 HB; (try clear hb); (try clear ho0); have hcz12_0 := zc20 BK622; have hcz12_1 := zc21 BK622; have hfz12_0 := blk_frozen BK622.out 0; have hfz12_1 := blk_frozen BK622.out 1; obtain ⟨Ao13, co13, eo13⟩ := Kd.R_slice HO627.out; subst eo13))
  refine bodyPost_ret (results_ct rfl _ _ gb622 26 #[.int .i64 t624, .slice Ao13 t625.length co13] (0, 0) _ rfl (by (with_reducible repeat first|apply qN|apply qD|apply qA); refine blk_put (cs := #[.int .i64 t624, .slice none 0 0]) ?_ 1 _ rfl; (with_reducible repeat first|apply qN|apply qD|apply qA); refine blk_put (cs := #[.int .i64 0, .slice none 0 0]) ?_ 0 _ rfl; (with_reducible repeat first|apply qN|apply qD|apply qA); exact BK622.out) Tryz.underlying26 rfl (by kernel_rfl)) rfl ?_
  exact ⟨_, eE, by (with_reducible repeat first|apply rA|apply rN|apply rD); exact Kd.R_mono (Kd.R_far (p := ⟨gb622, 1, none⟩) (Kd.R_far (p := ⟨gb622, 0, none⟩) (Kd.R_types HO627.out BK622.out (by decide)) (fun _ hk => hk.2) (.int .i64 t624)) (fun _ hk => hk.2) (.slice Ao13 t625.length co13)) (fun _ hk => trivial), bq⟩
 ·replace c3 := Bool.eq_false_iff.mpr c3
  subst c3
  have H1 : (some (0, ([] : List Int), false)) = some (r1, r2, r3) := by rw [if_neg (show ¬ (false = true) by decide)] at H; exact H
  clear H
  have H := H1
  clear H1
  simp only [Option.some.injEq, Prod.mk.injEq] at H
  obtain ⟨rfl, rfl, rfl⟩ := H
  go_enter Tryz.func23, Tryz.ntmps23
  go_wp2_with (first | ((with_reducible refine gate_dst (N := 1) rfl ?_); refine bF 1 26 #[.int .i64 a0_0, .slice A0_1 l0_1.length c0_1] bq ?_; intro gb621 w14 hg hb _ _ _ _; clear HB; rename_i HB BK621 GW621 GE621; clear hb hg) | ((with_reducible refine gate_dst (N := 2) rfl ?_); refine bE 2 26 #[.int .i64 0, .slice none 0 0] ?_; intro gb622 hg w15 hbox hb; have _ := bK BK621 hb; have _ := bB hb; have _ := aM (hbox); have _ := aM ((gS hg)); have _ := aM ((gS hg)); have _ := aM (nL hg BK621); have _ := aM (nG hg BK621); clear BK621 HB; rename_i BK621 HB BK622 GW622 GE622 NB621_622 NB622_621; clear hb hbox hg; have hnb16 := NB621_622.out; have hnc16 := NB622_621.out; have hcz17_0 := zc20 BK621; have hcz17_1 := zc21 BK621; have hfz17_0 := blk_frozen BK621.out 0; have hfz17_1 := blk_frozen BK621.out 1) | ((with_reducible refine gate_callee (f := 50) rfl ?_); refine gL (some 5) Tryz.func50 #[.agg #[.int .i64 a0_0, .slice A0_1 l0_1.length c0_1]] ?_; (with_reducible refine (Y49.calls k a0_0 _ _ l0_1 false _ (cQ (Kd.C_below HR0_1.out HB.out)) HC0_1.out A2.out).mono ?_); rintro e w18 ⟨rfl, hb⟩; refine ⟨_, rfl, ?_⟩; have _ := bK BK621 hb; have _ := bK BK622 hb; have _ := bB hb; clear BK621 BK622 HB; rename_i BK621 BK622 HB; (try clear hb); have hcz19_0 := zc20 BK622; have hcz19_1 := zc21 BK622; have hfz19_0 := blk_frozen BK622.out 0; have hfz19_1 := blk_frozen BK622.out 1))
  refine bodyPost_ret (results_ct rfl _ _ gb622 26 #[.int .i64 0, .slice none 0 0] (0, 0) _ rfl (by (with_reducible repeat first|apply qN|apply qD|apply qA); refine blk_put (cs := #[.int .i64 0, .slice none 0 0]) ?_ 1 _ rfl; (with_reducible repeat first|apply qN|apply qD|apply qA); refine blk_put (cs := #[.int .i64 0, .slice none 0 0]) ?_ 0 _ rfl; (with_reducible repeat first|apply qN|apply qD|apply qA); exact BK622.out) Tryz.underlying26 rfl (by kernel_rfl)) rfl ?_
  exact ⟨_, eE, by first | exact Kd.R_nil _ _ _ _ _ | exact Kd.N_nil _ _ _ _ _ | exact Kd.V_nil _ _ _ _ _ | exact Kd.Q_nil _ _ _ _ _ | exact Kd.S_nil _ _ _ _ _, bq⟩
def Y50.f (k : Nat) (l0_0 : List (List Int)) : Option (List Int × List Int × Bool) := (Y33.f k l0_0).bind fun t629 => (if t629 = true then ((Y10.f k l0_0).bind fun bt630 => (some (bt630.1, bt630.2, true))) else (some (([] : List Int), ([] : List Int), false)))
theorem Y50.calls (k : Nat) (A0_0 : Option Addr) (c0_0 : Nat) (l0_0 : List (List Int)) (r1 : List Int) (r2 : List Int) (r3 : Bool) (w : World) (hr0_0 : Kd.C (Kd.slice 3 (Kd.int .i64)) w A0_0 l0_0.length l0_0) (hc0_0 : l0_0.length ≤ c0_0) (h : Y50.f k l0_0 = some (r1, r2, r3)) :
  Calls Tryz.prog 24 #[.agg #[.slice A0_0 l0_0.length c0_0]] w fun e w' => ∃ v0_ v1_ : Value, e = .returned (.tuple #[v0_, v1_, .bool r3]) ∧ Kd.R (Kd.int .i64) 3 w' w.heap.size (fun k_ => some k_ ≠ (v1_ : Value).ownBlock) v0_ r1 ∧ Kd.R (Kd.int .i64) 3 w' w.heap.size (fun k_ => some k_ ≠ (v0_ : Value).ownBlock) v1_ r2 ∧ Below w.heap.size w w' := by
 have hu41 := Tryz.underlying41
 have HR0_0 := aM hr0_0
 have HC0_0 := aM hc0_0
 clear hr0_0 hc0_0
 have HB := aM (Below.refl w.heap.size w)
 unfold Y50.f at h
 have H := h
 clear h
 replace H := bS H
 obtain ⟨t629, A2, H⟩ := H
 try dsimp only at H
 by_cases c3 : t629 = true
 ·subst c3
  have H1 : ((Y10.f k l0_0).bind fun bt630 => (some (bt630.1, bt630.2, true))) = some (r1, r2, r3) := by rw [if_pos rfl] at H; exact H
  clear H
  have H := H1
  clear H1
  replace H := bS H
  obtain ⟨⟨t630, t633⟩, A4, H⟩ := H
  try dsimp only at H
  simp only [Option.some.injEq, Prod.mk.injEq] at H
  obtain ⟨rfl, rfl, rfl⟩ := H
  go_enter Tryz.func24, Tryz.ntmps24
  go_wp2_with (first | ((with_reducible refine gate_dst (N := 1) rfl ?_); refine bF 1 41 #[.slice A0_0 l0_0.length c0_0] bq ?_; intro gb628 w5 hg hb _ _ _ _; clear HB; rename_i HB BK628 GW628 GE628; clear hb hg; have hcz6_0 := zc10 BK628; have hfz6_0 := blk_frozen BK628.out 0) | ((with_reducible refine gate_callee (f := 81) rfl ?_); refine gL (some 8) Tryz.func81 #[.agg #[.slice A0_0 l0_0.length c0_0]] ?_; (with_reducible refine (Y33.calls k _ _ l0_0 true _ (cQ (Kd.C_below HR0_0.out HB.out)) HC0_0.out A2.out).mono ?_); rintro e w7 ⟨rfl, hb⟩; refine ⟨_, rfl, ?_⟩; have _ := bK BK628 hb; have _ := bB hb; clear BK628 HB; rename_i BK628 HB; (try clear hb); have hcz8_0 := zc10 BK628; have hfz8_0 := blk_frozen BK628.out 0) | ((with_reducible refine gate_callee (f := 86) rfl ?_); refine gL (some 12) Tryz.func86 #[.agg #[.slice A0_0 l0_0.length c0_0]] ?_; (with_reducible refine (Y10.calls k _ _ l0_0 t630 t633 _ (cQ (Kd.C_below HR0_0.out HB.out)) HC0_0.out A4.out).mono ?_); rintro e w9 ⟨v631, v634, rfl, ho0, ho1, hb⟩; refine ⟨_, rfl, ?_⟩; have _ := aM (Kd.R_lower ho0 (below_size bq)); have _ := aM (Kd.R_lower ho1 (below_size bq)); have _ := bK BK628 hb; have _ := bB hb; clear BK628 HB; rename_i HO632 HO635 BK628 HB; (try clear hb); (try clear ho0); (try clear ho1)))
  go_ret3
  exact ⟨_, _, eE, rQ HO632, rQ HO635, bq⟩
 ·replace c3 := Bool.eq_false_iff.mpr c3
  subst c3
  have H1 : (some (([] : List Int), ([] : List Int), false)) = some (r1, r2, r3) := by rw [if_neg (show ¬ (false = true) by decide)] at H; exact H
  clear H
  have H := H1
  clear H1
  simp only [Option.some.injEq, Prod.mk.injEq] at H
  obtain ⟨rfl, rfl, rfl⟩ := H
  go_enter Tryz.func24, Tryz.ntmps24
  go_wp2_with (first | ((with_reducible refine gate_dst (N := 1) rfl ?_); refine bF 1 41 #[.slice A0_0 l0_0.length c0_0] bq ?_; intro gb628 w10 hg hb _ _ _ _; clear HB; rename_i HB BK628 GW628 GE628; clear hb hg; have hcz11_0 := zc10 BK628; have hfz11_0 := blk_frozen BK628.out 0) | ((with_reducible refine gate_callee (f := 81) rfl ?_); refine gL (some 8) Tryz.func81 #[.agg #[.slice A0_0 l0_0.length c0_0]] ?_; (with_reducible refine (Y33.calls k _ _ l0_0 false _ (cQ (Kd.C_below HR0_0.out HB.out)) HC0_0.out A2.out).mono ?_); rintro e w12 ⟨rfl, hb⟩; refine ⟨_, rfl, ?_⟩; have _ := bK BK628 hb; have _ := bB hb; clear BK628 HB; rename_i BK628 HB; (try clear hb)))
  go_ret3
  exact ⟨_, _, eE, by first | exact Kd.R_nil _ _ _ _ _ | exact Kd.N_nil _ _ _ _ _ | exact Kd.V_nil _ _ _ _ _ | exact Kd.Q_nil _ _ _ _ _ | exact Kd.S_nil _ _ _ _ _, by first | exact Kd.R_nil _ _ _ _ _ | exact Kd.N_nil _ _ _ _ _ | exact Kd.V_nil _ _ _ _ _ | exact Kd.Q_nil _ _ _ _ _ | exact Kd.S_nil _ _ _ _ _, bq⟩
end Go.Proofs.YtjmmleofnjcjoaaGreatDoor.Du
