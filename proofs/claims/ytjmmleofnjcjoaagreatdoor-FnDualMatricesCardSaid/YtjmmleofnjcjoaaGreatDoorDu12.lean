-- Written by hook.py (wip/), over the kit's print.py.
import Derived.Test.YtjmmleofnjcjoaaGreatDoorDu2
import Derived.Test.YtjmmleofnjcjoaaGreatDoorDu10
import Derived.Test.YtjmmleofnjcjoaaGreatDoorDuXSq
namespace Go.Proofs.YtjmmleofnjcjoaaGreatDoor.Du
open Go.RowKit Go.Proofs.YtjmmleofnjcjoaaGreatDoorW.PrintWords Go.Proofs.YtjmmleofnjcjoaaGreatDoorW.PrintLast Go.Proofs.YtjmmleofnjcjoaaGreatDoorW.PrintMore Go.Proofs.YtjmmleofnjcjoaaGreatDoor.Sq
attribute [local go_sem] max2_int min2_int max_two min_two max_three min_three max_four min_four
set_option linter.unusedVariables false
set_option linter.unusedSimpArgs false
mutual
def Y4.l0 : Nat → Int → Int → Int → List Int → Option (List Int)
 | 0, _, _, _, _ => none
 | k + 1, x8, x9, x319000, x319001 => if x9 < x8 then (Y4.l1 k x9 x8 x9 x319000 0 x319000 x319001) else (some ([] : List Int))
def Y4.l1 : Nat → Int → Int → Int → Int → Int → Int → List Int → Option (List Int)
 | 0, _, _, _, _, _, _, _ => none
 | k + 1, x3, x8, x9, x13, x14, x319000, x319001 => if x14 < x13 then (Y4.l2 k x3 x14 x8 x9 x13 x14 x319000 0 x319000 x319001) else (Y4.l0 k x8 (wrap64 (x9 + 1)) x319000 x319001)
def Y4.l2 : Nat → Int → Int → Int → Int → Int → Int → Int → Int → Int → List Int → Option (List Int)
 | 0, _, _, _, _, _, _, _, _, _, _ => none
 | k + 1, x3, x4, x8, x9, x13, x14, x18, x19, x319000, x319001 => if x19 < x18 then (Y4.l3 k x3 x4 x19 x8 x9 x13 x14 x18 x19 x319000 0 x319000 x319001) else (Y4.l1 k x3 x8 x9 x13 (wrap64 (x14 + 1)) x319000 x319001)
def Y4.l3 : Nat → Int → Int → Int → Int → Int → Int → Int → Int → Int → Int → Int → Int → List Int → Option (List Int)
 | 0, _, _, _, _, _, _, _, _, _, _, _, _, _ => none
 | k + 1, x3, x4, x5, x8, x9, x13, x14, x18, x19, x23, x24, x319000, x319001 => if x24 < x23 then ((Y9.f x319000 x319001 x3 x4).bind fun t319 => (if t319 = true then ((Y9.f x319000 x319001 x5 x24).bind fun t320 => (if t320 = true then ((Y9.f x319000 x319001 x5 x4).bind fun t321 => (if t321 = true then (Y4.l3 k x3 x4 x5 x8 x9 x13 x14 x18 x19 x23 (wrap64 (x24 + 1)) x319000 x319001) else ((Y9.f x319000 x319001 x3 x24).bind fun t322 => (if t322 = true then (Y4.l3 k x3 x4 x5 x8 x9 x13 x14 x18 x19 x23 (wrap64 (x24 + 1)) x319000 x319001) else (some (([x3, x4, x5, x24] : List Int))))))) else (Y4.l3 k x3 x4 x5 x8 x9 x13 x14 x18 x19 x23 (wrap64 (x24 + 1)) x319000 x319001))) else (Y4.l3 k x3 x4 x5 x8 x9 x13 x14 x18 x19 x23 (wrap64 (x24 + 1)) x319000 x319001))) else (Y4.l2 k x3 x4 x8 x9 x13 x14 x18 (wrap64 (x19 + 1)) x319000 x319001)
end
def Y4.f (k : Nat) (a0_0 : Int) (l0_1 : List Int) : Option (List Int) := Y4.l0 k a0_0 0 a0_0 l0_1
set_option maxHeartbeats 8000000 in
set_option maxRecDepth 100000 in
theorem Y4.callsN (k : Nat) (a0_0 : Int) (A0_1 : Option Addr) (c0_1 : Nat) (l0_1 : List Int) (r : List Int) (w : World) (hr0_1 : Kd.C (Kd.int .i64) w A0_1 l0_1.length l0_1) (hc0_1 : l0_1.length ≤ c0_1) (h : Y4.f k a0_0 l0_1 = some r) :
  Calls Tryz.prog 150 #[.agg #[.int .i64 a0_0, .slice A0_1 l0_1.length c0_1]] w fun e w' => ∃ v0_ : Value, e = .returned (v0_) ∧ Kd.R (Kd.int .i64) 3 w' w.heap.size (fun _ => True) v0_ r ∧ Below w.heap.size w w' ∧ (r = [] → v0_ = .slice none 0 0) := by
 have hu26 := Tryz.underlying26
 have HR0_1 := aM hr0_1
 have HC0_1 := aM hc0_1
 clear hr0_1 hc0_1
 have HB := aM (Below.refl w.heap.size w)
 have H : (Y4.l0 k a0_0 0 a0_0 l0_1) = some r := h
 clear h
 have H' := aM H
 clear H
 go_enter Tryz.func150, Tryz.ntmps150
 go_wp2_with (first | ((with_reducible refine gate_dst (N := 1) rfl ?_); refine bF 1 26 #[.int .i64 a0_0, .slice A0_1 l0_1.length c0_1] bq ?_; intro gb318 w2 hg hb _ _ _ _; clear HB; rename_i HB BK318 GW318 GE318; clear hb hg; have hcz3_0 := zc20 BK318; have hcz3_1 := zc21 BK318; have hfz3_0 := blk_frozen BK318.out 0; have hfz3_1 := blk_frozen BK318.out 1))
 go_loopg [9] k (fun kq v9 w' => ∃ (x9_1 : Int), v9 = .int .i64 x9_1 ∧ Aside0 (Y4.l0 kq a0_0 x9_1 a0_0 l0_1 = some r) ∧ Aside0 (kq ≤ k) ∧ Aside0 (w'.heap[gb318]? = some (.cells #[.int .i64 a0_0, (.slice A0_1 l0_1.length c0_1)] 26 (0, 0))) ∧ Aside0 (Below w.heap.size w w'))
 case atStart => exact ⟨(0), eR, H', ⟨Nat.le_refl _⟩, ⟨qQ BK318⟩, ⟨bq⟩⟩
 case round =>
  clear H'
  try clear hcz3_0
  try clear hcz3_1
  try clear hfz3_0
  try clear hfz3_1
  obtain ⟨x9_1, rfl, HA, HK1, BK318, HB⟩ := hrel
  cases gk with
  | zero => exact absurd HA.out (by simp [Y4.l0])
  | succ k1 =>
   have H := HA.out
   clear HA
   simp only [Y4.l0] at H
   by_cases c4 : x9_1 < a0_0
   ·rw [if_pos c4] at H
    have c4b0 := decide_eq_true c4
    clear c4
    have H' := aM H
    clear H
    have hcz5_0 := zc20 BK318
    have hcz5_1 := zc21 BK318
    have hfz5_0 := blk_frozen BK318.out 0
    have hfz5_1 := blk_frozen BK318.out 1
    go_wp2
    go_loopg [14] k1 (fun kq v14 w' => ∃ (x14_2 : Int), v14 = .int .i64 x14_2 ∧ Aside0 (Y4.l1 kq x9_1 a0_0 x9_1 a0_0 x14_2 a0_0 l0_1 = some r) ∧ Aside0 (kq ≤ k1) ∧ Aside0 (w'.heap[gb318]? = some (.cells #[.int .i64 a0_0, (.slice A0_1 l0_1.length c0_1)] 26 (0, 0))) ∧ Aside0 (Below w.heap.size w w'))
    case atStart => exact ⟨(0), eR, H', ⟨Nat.le_refl _⟩, ⟨qQ BK318⟩, ⟨bq⟩⟩
    case round =>
     clear H'
     try clear c4
     try clear c4b0
     try clear hcz3_0
     try clear hcz3_1
     try clear hcz5_0
     try clear hcz5_1
     try clear hfz3_0
     try clear hfz3_1
     try clear hfz5_0
     try clear hfz5_1
     obtain ⟨x14_2, rfl, HA, HK2, BK318, HB⟩ := hrel
     cases gk with
     | zero => exact absurd HA.out (by simp [Y4.l1])
     | succ k2 =>
      have H := HA.out
      clear HA
      simp only [Y4.l1] at H
      by_cases c6 : x14_2 < a0_0
      ·rw [if_pos c6] at H
       have c6b0 := decide_eq_true c6
       clear c6
       have H' := aM H
       clear H
       have hcz7_0 := zc20 BK318
       have hcz7_1 := zc21 BK318
       have hfz7_0 := blk_frozen BK318.out 0
       have hfz7_1 := blk_frozen BK318.out 1
       go_wp2
       go_loopg [19] k2 (fun kq v19 w' => ∃ (x19_3 : Int), v19 = .int .i64 x19_3 ∧ Aside0 (Y4.l2 kq x9_1 x14_2 a0_0 x9_1 a0_0 x14_2 a0_0 x19_3 a0_0 l0_1 = some r) ∧ Aside0 (kq ≤ k2) ∧ Aside0 (w'.heap[gb318]? = some (.cells #[.int .i64 a0_0, (.slice A0_1 l0_1.length c0_1)] 26 (0, 0))) ∧ Aside0 (Below w.heap.size w w'))
       case atStart => exact ⟨(0), eR, H', ⟨Nat.le_refl _⟩, ⟨qQ BK318⟩, ⟨bq⟩⟩
       case round =>
        clear H'
        try clear c4
        try clear c4b0
        try clear c6
        try clear c6b0
        try clear hcz3_0
        try clear hcz3_1
        try clear hcz5_0
        try clear hcz5_1
        try clear hcz7_0
        try clear hcz7_1
        try clear hfz3_0
        try clear hfz3_1
        try clear hfz5_0
        try clear hfz5_1
        try clear hfz7_0
        try clear hfz7_1
        obtain ⟨x19_3, rfl, HA, HK3, BK318, HB⟩ := hrel
        cases gk with
        | zero => exact absurd HA.out (by simp [Y4.l2])
        | succ k3 =>
         have H := HA.out
         clear HA
         simp only [Y4.l2] at H
         by_cases c8 : x19_3 < a0_0
         ·rw [if_pos c8] at H
          have c8b0 := decide_eq_true c8
          clear c8
          have H' := aM H
          clear H
          have hcz9_0 := zc20 BK318
          have hcz9_1 := zc21 BK318
          have hfz9_0 := blk_frozen BK318.out 0
          have hfz9_1 := blk_frozen BK318.out 1
          go_wp2
          go_loopg [24] k3 (fun kq v24 w' => ∃ (x24_4 : Int), v24 = .int .i64 x24_4 ∧ Aside0 (Y4.l3 kq x9_1 x14_2 x19_3 a0_0 x9_1 a0_0 x14_2 a0_0 x19_3 a0_0 x24_4 a0_0 l0_1 = some r) ∧ Aside0 (kq ≤ k3) ∧ Aside0 (w'.heap[gb318]? = some (.cells #[.int .i64 a0_0, (.slice A0_1 l0_1.length c0_1)] 26 (0, 0))) ∧ Aside0 (Below w.heap.size w w'))
          case atStart => exact ⟨(0), eR, H', ⟨Nat.le_refl _⟩, ⟨qQ BK318⟩, ⟨bq⟩⟩
          case round =>
           clear H'
           try clear c4
           try clear c4b0
           try clear c6
           try clear c6b0
           try clear c8
           try clear c8b0
           try clear hcz3_0
           try clear hcz3_1
           try clear hcz5_0
           try clear hcz5_1
           try clear hcz7_0
           try clear hcz7_1
           try clear hcz9_0
           try clear hcz9_1
           try clear hfz3_0
           try clear hfz3_1
           try clear hfz5_0
           try clear hfz5_1
           try clear hfz7_0
           try clear hfz7_1
           try clear hfz9_0
           try clear hfz9_1
           obtain ⟨x24_4, rfl, HA, HK4, BK318, HB⟩ := hrel
           cases gk with
           | zero => exact absurd HA.out (by simp [Y4.l3])
           | succ k4 =>
            have H := HA.out
            clear HA
            simp only [Y4.l3] at H
            by_cases c10 : x24_4 < a0_0
            ·rw [if_pos c10] at H
             have c10b0 := decide_eq_true c10
             clear c10
             replace H := bS H
             obtain ⟨t319, A11, H⟩ := H
             try dsimp only at H
             by_cases c12 : t319 = true
             ·subst c12
              have H1 : ((Y9.f a0_0 l0_1 x19_3 x24_4).bind fun t320 => (if t320 = true then ((Y9.f a0_0 l0_1 x19_3 x14_2).bind fun t321 => (if t321 = true then (Y4.l3 k4 x9_1 x14_2 x19_3 a0_0 x9_1 a0_0 x14_2 a0_0 x19_3 a0_0 (wrap64 (x24_4 + 1)) a0_0 l0_1) else ((Y9.f a0_0 l0_1 x9_1 x24_4).bind fun t322 => (if t322 = true then (Y4.l3 k4 x9_1 x14_2 x19_3 a0_0 x9_1 a0_0 x14_2 a0_0 x19_3 a0_0 (wrap64 (x24_4 + 1)) a0_0 l0_1) else (some (([x9_1, x14_2, x19_3, x24_4] : List Int))))))) else (Y4.l3 k4 x9_1 x14_2 x19_3 a0_0 x9_1 a0_0 x14_2 a0_0 x19_3 a0_0 (wrap64 (x24_4 + 1)) a0_0 l0_1))) = some r := by rw [if_pos rfl] at H; exact H
              clear H
              have H := H1
              clear H1
              replace H := bS H
              obtain ⟨t320, A13, H⟩ := H
              try dsimp only at H
              by_cases c14 : t320 = true
              ·subst c14
               have H1 : ((Y9.f a0_0 l0_1 x19_3 x14_2).bind fun t321 => (if t321 = true then (Y4.l3 k4 x9_1 x14_2 x19_3 a0_0 x9_1 a0_0 x14_2 a0_0 x19_3 a0_0 (wrap64 (x24_4 + 1)) a0_0 l0_1) else ((Y9.f a0_0 l0_1 x9_1 x24_4).bind fun t322 => (if t322 = true then (Y4.l3 k4 x9_1 x14_2 x19_3 a0_0 x9_1 a0_0 x14_2 a0_0 x19_3 a0_0 (wrap64 (x24_4 + 1)) a0_0 l0_1) else (some (([x9_1, x14_2, x19_3, x24_4] : List Int))))))) = some r := by rw [if_pos rfl] at H; exact H
               clear H
               have H := H1
               clear H1
               replace H := bS H
               obtain ⟨t321, A15, H⟩ := H
               try dsimp only at H
               by_cases c16 : t321 = true
               ·subst c16
                have H1 : (Y4.l3 k4 x9_1 x14_2 x19_3 a0_0 x9_1 a0_0 x14_2 a0_0 x19_3 a0_0 (wrap64 (x24_4 + 1)) a0_0 l0_1) = some r := by rw [if_pos rfl] at H; exact H
                clear H
                have H := H1
                clear H1
                have H' := aM H
                clear H
                have hcz17_0 := zc20 BK318
                have hcz17_1 := zc21 BK318
                have hfz17_0 := blk_frozen BK318.out 0
                have hfz17_1 := blk_frozen BK318.out 1
                go_wp2_with (first | ((with_reducible refine gate_callee (f := 99) rfl ?_); refine gL (some 30) Tryz.func99 #[.agg #[.int .i64 a0_0, .slice A0_1 l0_1.length c0_1], .int .i64 x9_1, .int .i64 x14_2] ?_; (with_reducible refine (Y9.calls a0_0 _ _ l0_1 x9_1 x14_2 true _ (cQ (Kd.C_below HR0_1.out HB.out)) HC0_1.out A11.out).mono ?_); rintro e w18 ⟨rfl, hb⟩; refine ⟨_, rfl, ?_⟩; have _ := bK BK318 hb; have _ := bB hb; clear BK318 HB; rename_i BK318 HB; (try clear hb); have hcz19_0 := zc20 BK318; have hcz19_1 := zc21 BK318; have hfz19_0 := blk_frozen BK318.out 0; have hfz19_1 := blk_frozen BK318.out 1) | (go_at_call 99; (with_reducible refine (Y9.calls a0_0 _ _ l0_1 x19_3 x24_4 true _ (cQ (Kd.C_below HR0_1.out HB.out)) HC0_1.out A13.out).mono ?_); rintro e w20 ⟨rfl, hb⟩; have _ := bK BK318 hb; have _ := bB hb; clear BK318 HB; rename_i BK318 HB; (try clear hb); have hcz21_0 := zc20 BK318; have hcz21_1 := zc21 BK318; have hfz21_0 := blk_frozen BK318.out 0; have hfz21_1 := blk_frozen BK318.out 1) | (go_at_call 99; (with_reducible refine (Y9.calls a0_0 _ _ l0_1 x19_3 x14_2 true _ (cQ (Kd.C_below HR0_1.out HB.out)) HC0_1.out A15.out).mono ?_); rintro e w22 ⟨rfl, hb⟩; have _ := bK BK318 hb; have _ := bB hb; clear BK318 HB; rename_i BK318 HB; (try clear hb)))
                go_roundg k4
                case measure => have := HK1.out; have := HK2.out; have := HK3.out; have := HK4.out; omega
                case rel => exact ⟨(wrap64 (x24_4 + 1)), eR, H', ⟨by have := HK1.out; have := HK2.out; have := HK3.out; have := HK4.out; omega⟩, ⟨qQ BK318⟩, ⟨bq⟩⟩
               ·replace c16 := Bool.eq_false_iff.mpr c16
                subst c16
                have H1 : ((Y9.f a0_0 l0_1 x9_1 x24_4).bind fun t322 => (if t322 = true then (Y4.l3 k4 x9_1 x14_2 x19_3 a0_0 x9_1 a0_0 x14_2 a0_0 x19_3 a0_0 (wrap64 (x24_4 + 1)) a0_0 l0_1) else (some (([x9_1, x14_2, x19_3, x24_4] : List Int))))) = some r := by rw [if_neg (show ¬ (false = true) by decide)] at H; exact H
                clear H
                have H := H1
                clear H1
                replace H := bS H
                obtain ⟨t322, A23, H⟩ := H
                try dsimp only at H
                by_cases c24 : t322 = true
                ·subst c24
                 have H1 : (Y4.l3 k4 x9_1 x14_2 x19_3 a0_0 x9_1 a0_0 x14_2 a0_0 x19_3 a0_0 (wrap64 (x24_4 + 1)) a0_0 l0_1) = some r := by rw [if_pos rfl] at H; exact H
                 clear H
                 have H := H1
                 clear H1
                 have H' := aM H
                 clear H
                 have hcz25_0 := zc20 BK318
                 have hcz25_1 := zc21 BK318
                 have hfz25_0 := blk_frozen BK318.out 0
                 have hfz25_1 := blk_frozen BK318.out 1
                 go_wp2_with (first | ((with_reducible refine gate_callee (f := 99) rfl ?_); refine gL (some 30) Tryz.func99 #[.agg #[.int .i64 a0_0, .slice A0_1 l0_1.length c0_1], .int .i64 x9_1, .int .i64 x14_2] ?_; (with_reducible refine (Y9.calls a0_0 _ _ l0_1 x9_1 x14_2 true _ (cQ (Kd.C_below HR0_1.out HB.out)) HC0_1.out A11.out).mono ?_); rintro e w26 ⟨rfl, hb⟩; refine ⟨_, rfl, ?_⟩; have _ := bK BK318 hb; have _ := bB hb; clear BK318 HB; rename_i BK318 HB; (try clear hb); have hcz27_0 := zc20 BK318; have hcz27_1 := zc21 BK318; have hfz27_0 := blk_frozen BK318.out 0; have hfz27_1 := blk_frozen BK318.out 1) | (go_at_call 99; (with_reducible refine (Y9.calls a0_0 _ _ l0_1 x19_3 x24_4 true _ (cQ (Kd.C_below HR0_1.out HB.out)) HC0_1.out A13.out).mono ?_); rintro e w28 ⟨rfl, hb⟩; have _ := bK BK318 hb; have _ := bB hb; clear BK318 HB; rename_i BK318 HB; (try clear hb); have hcz29_0 := zc20 BK318; have hcz29_1 := zc21 BK318; have hfz29_0 := blk_frozen BK318.out 0; have hfz29_1 := blk_frozen BK318.out 1) | (go_at_call 99; (with_reducible refine (Y9.calls a0_0 _ _ l0_1 x19_3 x14_2 false _ (cQ (Kd.C_below HR0_1.out HB.out)) HC0_1.out A15.out).mono ?_); rintro e w30 ⟨rfl, hb⟩; have _ := bK BK318 hb; have _ := bB hb; clear BK318 HB; rename_i BK318 HB; (try clear hb); have hcz31_0 := zc20 BK318; have hcz31_1 := zc21 BK318; have hfz31_0 := blk_frozen BK318.out 0; have hfz31_1 := blk_frozen BK318.out 1) | (go_at_call 99; (with_reducible refine (Y9.calls a0_0 _ _ l0_1 x9_1 x24_4 true _ (cQ (Kd.C_below HR0_1.out HB.out)) HC0_1.out A23.out).mono ?_); rintro e w32 ⟨rfl, hb⟩; have _ := bK BK318 hb; have _ := bB hb; clear BK318 HB; rename_i BK318 HB; (try clear hb)))
                 go_roundg k4
                 case measure => have := HK1.out; have := HK2.out; have := HK3.out; have := HK4.out; omega
                 case rel => exact ⟨(wrap64 (x24_4 + 1)), eR, H', ⟨by have := HK1.out; have := HK2.out; have := HK3.out; have := HK4.out; omega⟩, ⟨qQ BK318⟩, ⟨bq⟩⟩
                ·replace c24 := Bool.eq_false_iff.mpr c24
                 subst c24
                 have H1 : (some (([x9_1, x14_2, x19_3, x24_4] : List Int))) = some r := by rw [if_neg (show ¬ (false = true) by decide)] at H; exact H
                 clear H
                 have H := H1
                 clear H1
                 obtain ⟨y323, hy323⟩ := nE ((([x9_1, x14_2, x19_3, x24_4] : List Int)) : List Int)
                 try rw [← hy323] at H
                 try with_reducible replace H := (Option.bind_some _ _).symm.trans H
                 try dsimp only at H
                 have Ny323 := aM hy323
                 clear hy323
                 obtain rfl := Option.some.inj H
                 have hcz33_0 := zc20 BK318
                 have hcz33_1 := zc21 BK318
                 have hfz33_0 := blk_frozen BK318.out 0
                 have hfz33_1 := blk_frozen BK318.out 1
                 go_wp2_with (first | ((with_reducible refine gate_callee (f := 99) rfl ?_); refine gL (some 30) Tryz.func99 #[.agg #[.int .i64 a0_0, .slice A0_1 l0_1.length c0_1], .int .i64 x9_1, .int .i64 x14_2] ?_; (with_reducible refine (Y9.calls a0_0 _ _ l0_1 x9_1 x14_2 true _ (cQ (Kd.C_below HR0_1.out HB.out)) HC0_1.out A11.out).mono ?_); rintro e w34 ⟨rfl, hb⟩; refine ⟨_, rfl, ?_⟩; have _ := bK BK318 hb; have _ := bB hb; clear BK318 HB; rename_i BK318 HB; (try clear hb); have hcz35_0 := zc20 BK318; have hcz35_1 := zc21 BK318; have hfz35_0 := blk_frozen BK318.out 0; have hfz35_1 := blk_frozen BK318.out 1) | (go_at_call 99; (with_reducible refine (Y9.calls a0_0 _ _ l0_1 x19_3 x24_4 true _ (cQ (Kd.C_below HR0_1.out HB.out)) HC0_1.out A13.out).mono ?_); rintro e w36 ⟨rfl, hb⟩; have _ := bK BK318 hb; have _ := bB hb; clear BK318 HB; rename_i BK318 HB; (try clear hb); have hcz37_0 := zc20 BK318; have hcz37_1 := zc21 BK318; have hfz37_0 := blk_frozen BK318.out 0; have hfz37_1 := blk_frozen BK318.out 1) | (go_at_call 99; (with_reducible refine (Y9.calls a0_0 _ _ l0_1 x19_3 x14_2 false _ (cQ (Kd.C_below HR0_1.out HB.out)) HC0_1.out A15.out).mono ?_); rintro e w38 ⟨rfl, hb⟩; have _ := bK BK318 hb; have _ := bB hb; clear BK318 HB; rename_i BK318 HB; (try clear hb); have hcz39_0 := zc20 BK318; have hcz39_1 := zc21 BK318; have hfz39_0 := blk_frozen BK318.out 0; have hfz39_1 := blk_frozen BK318.out 1) | (go_at_call 99; (with_reducible refine (Y9.calls a0_0 _ _ l0_1 x9_1 x24_4 false _ (cQ (Kd.C_below HR0_1.out HB.out)) HC0_1.out A23.out).mono ?_); rintro e w40 ⟨rfl, hb⟩; have _ := bK BK318 hb; have _ := bB hb; clear BK318 HB; rename_i BK318 HB; (try clear hb)) | ((with_reducible refine gate_dst (N := 55) rfl ?_); refine Kd.R_lit (Kd.int .i64) _ 3 ?hg (N := 55) ?hd (xs := ([x9_1, x14_2, x19_3, x24_4] : List Int)) (inner := [.int .i64 x9_1, .int .i64 x14_2, .int .i64 x19_3, .int .i64 x24_4]) (ok := fun _ => True) (okp := fun _ => True) ?hr ?hp (fun _ hk => hk) trivial (Below.refl _ _) (Nat.le_refl _) (by simp) ?_; (case hd => rfl); (case hg => rfl); (case hr => first | (go_simp; done) | (go_simp; rfl)); (case hp => exact (Reps.one (show Kd.M (Kd.int .i64) _ _ _ x9_1 [.int .i64 x9_1] from rfl) (Reps.one (show Kd.M (Kd.int .i64) _ _ _ x14_2 [.int .i64 x14_2] from rfl) (Reps.one (show Kd.M (Kd.int .i64) _ _ _ x19_3 [.int .i64 x19_3] from rfl) (Reps.one (show Kd.M (Kd.int .i64) _ _ _ x24_4 [.int .i64 x24_4] from rfl) (Reps.none _ _)))))); intro v324 w41 ho42 hb hg_ hnew_; clear hg_ hnew_; (first | rw [← Ny323.out] at ho42 | (simp only [Int.reduceToNat] at ho42; rw [← Ny323.out] at ho42)); have _ := aM (Kd.R_lower ho42 (below_size bq)); have _ := bK BK318 hb; have _ := bB hb; clear BK318 HB; rename_i HO325 BK318 HB; clear hb ho42))
                 go_ret
                 exact ⟨_, eE, rQ HO325, by exact bq, fun h_ => by have q_ := Ny323.out; rw [h_] at q_; exact absurd q_ (by simp)⟩
              ·replace c14 := Bool.eq_false_iff.mpr c14
               subst c14
               have H1 : (Y4.l3 k4 x9_1 x14_2 x19_3 a0_0 x9_1 a0_0 x14_2 a0_0 x19_3 a0_0 (wrap64 (x24_4 + 1)) a0_0 l0_1) = some r := by rw [if_neg (show ¬ (false = true) by decide)] at H; exact H
               clear H
               have H := H1
               clear H1
               have H' := aM H
               clear H
               have hcz43_0 := zc20 BK318
               have hcz43_1 := zc21 BK318
               have hfz43_0 := blk_frozen BK318.out 0
               have hfz43_1 := blk_frozen BK318.out 1
               go_wp2_with (first | ((with_reducible refine gate_callee (f := 99) rfl ?_); refine gL (some 30) Tryz.func99 #[.agg #[.int .i64 a0_0, .slice A0_1 l0_1.length c0_1], .int .i64 x9_1, .int .i64 x14_2] ?_; (with_reducible refine (Y9.calls a0_0 _ _ l0_1 x9_1 x14_2 true _ (cQ (Kd.C_below HR0_1.out HB.out)) HC0_1.out A11.out).mono ?_); rintro e w44 ⟨rfl, hb⟩; refine ⟨_, rfl, ?_⟩; have _ := bK BK318 hb; have _ := bB hb; clear BK318 HB; rename_i BK318 HB; (try clear hb); have hcz45_0 := zc20 BK318; have hcz45_1 := zc21 BK318; have hfz45_0 := blk_frozen BK318.out 0; have hfz45_1 := blk_frozen BK318.out 1) | (go_at_call 99; (with_reducible refine (Y9.calls a0_0 _ _ l0_1 x19_3 x24_4 false _ (cQ (Kd.C_below HR0_1.out HB.out)) HC0_1.out A13.out).mono ?_); rintro e w46 ⟨rfl, hb⟩; have _ := bK BK318 hb; have _ := bB hb; clear BK318 HB; rename_i BK318 HB; (try clear hb)))
               go_roundg k4
               case measure => have := HK1.out; have := HK2.out; have := HK3.out; have := HK4.out; omega
               case rel => exact ⟨(wrap64 (x24_4 + 1)), eR, H', ⟨by have := HK1.out; have := HK2.out; have := HK3.out; have := HK4.out; omega⟩, ⟨qQ BK318⟩, ⟨bq⟩⟩
             ·replace c12 := Bool.eq_false_iff.mpr c12
              subst c12
              have H1 : (Y4.l3 k4 x9_1 x14_2 x19_3 a0_0 x9_1 a0_0 x14_2 a0_0 x19_3 a0_0 (wrap64 (x24_4 + 1)) a0_0 l0_1) = some r := by rw [if_neg (show ¬ (false = true) by decide)] at H; exact H
              clear H
              have H := H1
              clear H1
              have H' := aM H
              clear H
              have hcz47_0 := zc20 BK318
              have hcz47_1 := zc21 BK318
              have hfz47_0 := blk_frozen BK318.out 0
              have hfz47_1 := blk_frozen BK318.out 1
              go_wp2_with (first | ((with_reducible refine gate_callee (f := 99) rfl ?_); refine gL (some 30) Tryz.func99 #[.agg #[.int .i64 a0_0, .slice A0_1 l0_1.length c0_1], .int .i64 x9_1, .int .i64 x14_2] ?_; (with_reducible refine (Y9.calls a0_0 _ _ l0_1 x9_1 x14_2 false _ (cQ (Kd.C_below HR0_1.out HB.out)) HC0_1.out A11.out).mono ?_); rintro e w48 ⟨rfl, hb⟩; refine ⟨_, rfl, ?_⟩; have _ := bK BK318 hb; have _ := bB hb; clear BK318 HB; rename_i BK318 HB; (try clear hb)))
              go_roundg k4
              case measure => have := HK1.out; have := HK2.out; have := HK3.out; have := HK4.out; omega
              case rel => exact ⟨(wrap64 (x24_4 + 1)), eR, H', ⟨by have := HK1.out; have := HK2.out; have := HK3.out; have := HK4.out; omega⟩, ⟨qQ BK318⟩, ⟨bq⟩⟩
            ·rw [if_neg c10] at H
             have c10b0 := decide_eq_false c10
             clear c10
             have H' := aM H
             clear H
             go_wp2
             go_roundg k4
             case measure => have := HK1.out; have := HK2.out; have := HK3.out; have := HK4.out; omega
             case rel => exact ⟨(wrap64 (x19_3 + 1)), eR, H', ⟨by have := HK1.out; have := HK2.out; have := HK3.out; have := HK4.out; omega⟩, ⟨qQ BK318⟩, ⟨bq⟩⟩
         ·rw [if_neg c8] at H
          have c8b0 := decide_eq_false c8
          clear c8
          have H' := aM H
          clear H
          go_wp2
          go_roundg k3
          case measure => have := HK1.out; have := HK2.out; have := HK3.out; omega
          case rel => exact ⟨(wrap64 (x14_2 + 1)), eR, H', ⟨by have := HK1.out; have := HK2.out; have := HK3.out; omega⟩, ⟨qQ BK318⟩, ⟨bq⟩⟩
      ·rw [if_neg c6] at H
       have c6b0 := decide_eq_false c6
       clear c6
       have H' := aM H
       clear H
       go_wp2
       go_roundg k2
       case measure => have := HK1.out; have := HK2.out; omega
       case rel => exact ⟨(wrap64 (x9_1 + 1)), eR, H', ⟨by have := HK1.out; have := HK2.out; omega⟩, ⟨qQ BK318⟩, ⟨bq⟩⟩
   ·rw [if_neg c4] at H
    have c4b0 := decide_eq_false c4
    clear c4
    obtain rfl := Option.some.inj H
    go_wp2
    go_ret
    exact ⟨_, eE, by first | exact Kd.R_nil _ _ _ _ _ | exact Kd.N_nil _ _ _ _ _ | exact Kd.V_nil _ _ _ _ _ | exact Kd.Q_nil _ _ _ _ _ | exact Kd.S_nil _ _ _ _ _, by exact bq, by first | exact fun _ => rfl | exact rfl⟩
theorem Y4.calls (k : Nat) (a0_0 : Int) (A0_1 : Option Addr) (c0_1 : Nat) (l0_1 : List Int) (r : List Int) (w : World) (hr0_1 : Kd.C (Kd.int .i64) w A0_1 l0_1.length l0_1) (hc0_1 : l0_1.length ≤ c0_1) (h : Y4.f k a0_0 l0_1 = some r) :
  Calls Tryz.prog 150 #[.agg #[.int .i64 a0_0, .slice A0_1 l0_1.length c0_1]] w fun e w' => ∃ v0_ : Value, e = .returned (v0_) ∧ Kd.R (Kd.int .i64) 3 w' w.heap.size (fun _ => True) v0_ r ∧ Below w.heap.size w w' :=
 (Y4.callsN k a0_0 A0_1 c0_1 l0_1 r w hr0_1 hc0_1 h).mono fun e w' ⟨v, h1, h2, h3, _⟩ => ⟨v, h1, h2, h3⟩
def Y54.f (k : Nat) (a0_0 : Int) (l0_1 : List Int) : Option Bool := (Y29.f k a0_0 l0_1).bind fun t => if t = true then ((Y4.f k a0_0 l0_1).bind fun s => some s.isEmpty) else some false
set_option maxHeartbeats 4000000 in
set_option maxRecDepth 100000 in
open Go.Proofs.YtjmmleofnjcjoaaGreatDoor.Live in
theorem Y54.calls (k : Nat) (a0_0 : Int) (A0_1 : Option Addr) (c0_1 : Nat) (l0_1 : List Int) (r : Bool) (w : World) (hV : TabZ w) (hr0_1 : Kd.C (Kd.int .i64) w A0_1 l0_1.length l0_1) (hc0_1 : l0_1.length ≤ c0_1) (h : Y54.f k a0_0 l0_1 = some r) :
    Calls Tryz.prog 69 #[.agg #[.int .i64 a0_0, .slice A0_1 l0_1.length c0_1]] w fun e w' => e = .returned (.bool r) ∧ Below w.heap.size w w' := by
 have hu31 := Tryz.underlying26
 have hnil : ∀ (w_ : World) (a_ : Option Addr) (l_ c_ : Nat), (Op.equal 24 (.slice a_ l_ c_) (.slice none 0 0)).run Tryz.prog w_ = .ok a_.isNone w_ := fun w_ a_ l_ c_ => run_equal_slice_nil w_ _ _ a_ l_ c_ Tryz.underlying24
 have hnil2 : ∀ (w_ : World) (a_ : Option Addr) (l_ c_ : Nat), (Go.binOp .eql 24 (.slice a_ l_ c_) (.slice none 0 0)).run Tryz.prog w_ = .ok (.bool a_.isNone) w_ := fun w_ a_ l_ c_ => by {
 simp only [Go.binOp]
 simp [hnil]}
 unfold Y54.f at h
 obtain ⟨t, h1, h2⟩ := Option.bind_eq_some_iff.mp h
 have HV := aM hV
 have HR := aM hr0_1
 have HC := aM hc0_1
 have H1 := aM h1
 have H2 := aM h2
 have HH := aM ((Live.start w).new #[.int .i64 a0_0, .slice A0_1 l0_1.length c0_1] 26)
 clear hV hr0_1 hc0_1 h h1 h2
 have k0 := HH.out.cell 0 rfl 0
 have k1 := HH.out.cell 0 rfl 1
 go_enter Tryz.func69, Tryz.ntmps69
 go_wp2_with (fail)
 refine (Y29.calls k a0_0 A0_1 c0_1 l0_1 t _ (HV.out.below HH.out.below) (Kd.C_below HR.out HH.out.below) HC.out H1.out).mono ?_
 rintro e w1 ⟨rfl, hb_⟩
 have HI := aM (HH.out.step hb_)
 clear hb_ HH k0 k1
 have k0 := HI.out.cell 0 rfl 0
 have k1 := HI.out.cell 0 rfl 1
 have h2 := H2.out
 clear H2
 cases t with
 | false => {
 rw [if_neg (by simp)] at h2
 obtain rfl := Option.some.inj h2
 clear h2
 go_wp2
 go_ret
 exact ⟨rfl, HI.out.below⟩}
 | true => {
 rw [if_pos rfl] at h2
 obtain ⟨s, h3, h4⟩ := Option.bind_eq_some_iff.mp h2
 obtain rfl := Option.some.inj h4
 have H3 := aM h3
 clear h2 h3 h4
 go_wp2_with (fail)
 refine (Y4.callsN k a0_0 A0_1 c0_1 l0_1 s _ (Kd.C_below HR.out HI.out.below) HC.out H3.out).mono ?_
 rintro e w2 ⟨v_, rfl, hs_, hb_, hn_⟩
 have HJ := aM (HI.out.add (o := row (Kd.int .i64) 3 v_ s) hb_ hs_)
 clear hs_ hb_ HI k0 k1
 cases s with
 | nil => {
 obtain rfl := hn_ rfl
 clear hn_
 go_wp2
 go_ret
 exact ⟨rfl, HJ.out.below⟩}
 | cons x xs => {
 clear hn_
 obtain ⟨g, c, rfl, _, _⟩ := HJ.out.form1 1 rfl (by simp)
 go_wp2
 go_ret
 exact ⟨rfl, HJ.out.below⟩}}
def Y19.l0 : Nat → Int → Int → Int → List (List Int) → Option ((List (List Int)))
 | 0, _, _, _, _ => none
 | k + 1, x0, x5, x6, x328000 => if x6 < x5 then (if 0 ≤ x0 then (if (x0 : Int).toNat ≤ 35184372088832 then (if x328000.length < 5864062014805 then (Y19.l0 k x0 x5 (wrap64 (x6 + 1)) (x328000 ++ [(List.replicate (x0 : Int).toNat 0)])) else (none)) else (none)) else (none)) else (some x328000)
def Y19.f (k : Nat) (a0 : Int) : Option ((List (List Int))) := Y19.l0 k a0 a0 0 ([] : List (List Int))
def Y19.T4 : Bool × List (List Nat × List Nat) := (true, [([], []), ([0], [0]), ([], []), ([2, 2], [2]), ([3], [3]), ([1, 4], [1, 4]), ([0, 1, 2, 3, 4, 5], []), ([6, 5, 5, 0, 1, 2, 3, 4, 5], [5, 6])])
def Y19.B4 : List Nat := [0, 1, 0, 4, 12, 31, 63, 127]
theorem Y19.tab4 : rtab .any (opsOf Tryz.f83 4) = Y19.T4 := by kernel_rfl
theorem Y19.bits4 : waitsOk Y19.T4.2 Y19.B4 = true := by kernel_rfl
set_option maxHeartbeats 8000000 in
set_option maxRecDepth 100000 in
theorem Y19.calls (k : Nat) (a0 : Int) (r : List (List Int)) (w : World) (h : Y19.f k a0 = some r) :
  Calls Tryz.prog 83 #[.int .i64 a0] w fun e w' => ∃ v0_ : Value, e = .returned (.agg #[v0_]) ∧ Kd.S (Kd.slice 3 (Kd.int .i64)) 24 w' w.heap.size (fun _ => True) v0_ r ∧ Below w.heap.size w w' := by
 have hu41 := Tryz.underlying41
 have HB := aM (Below.refl w.heap.size w)
 have H : (Y19.l0 k a0 a0 0 ([] : List (List Int))) = some r := h
 clear h
 have H' := aM H
 clear H
 go_enter Tryz.func83, Tryz.ntmps83
 go_wp2_with (first | ((with_reducible refine gate_dst (N := 2) rfl ?_); refine bF 2 41 #[.slice none 0 0] bq ?_; intro gb326 w2 hg hb _ _ _ _; clear HB; rename_i HB BK326 GW326 GE326; clear hb hg) | ((with_reducible refine gate_dst (N := 3) rfl ?_); refine bE 3 41 #[.slice none 0 0] ?_; intro gb327 hg w3 hbox hb; have _ := bK BK326 hb; have _ := bB hb; have _ := aM (hbox); have _ := aM ((gS hg)); have _ := aM ((gS hg)); have _ := aM (nL hg BK326); have _ := aM (nG hg BK326); clear BK326 HB; rename_i BK326 HB BK327 GW327 GE327 NB326_327 NB327_326; clear hb hbox hg; have hnb4 := NB327_326.out; have hnc4 := NB326_327.out; have hcz5_0 := zc10 BK327; have hfz5_0 := blk_frozen BK327.out 0))
 go_loopg [6] k (fun kq v6 w' => ∃ (x6_1 : Int) (x328000_1 : List (List Int)) (u328000 : Value), v6 = .int .i64 x6_1 ∧ Aside0 (Y19.l0 kq a0 a0 x6_1 x328000_1 = some r) ∧ Aside0 (kq ≤ k) ∧ Aside0 (Kd.S (Kd.slice 3 (Kd.int .i64)) 24 w' w.heap.size (fun _ => True) u328000 x328000_1) ∧ Aside0 (w'.heap[gb326]? = some (.cells #[(.slice none 0 0)] 41 (0, 0))) ∧ Aside0 (w'.heap[gb327]? = some (.cells #[u328000] 41 (0, 0))) ∧ Aside0 (Below w.heap.size w w'))
 case atStart => exact ⟨(0), (([] : List (List Int))), (.slice none 0 0), eR, H', ⟨Nat.le_refl _⟩, ⟨by first | exact Kd.S_nil _ _ _ _ _ | exact Kd.N_nil _ _ _ _ _ | exact Kd.V_nil _ _ _ _ _ | exact Kd.Q_nil _ _ _ _ _ | exact Kd.R_nil _ _ _ _ _⟩, ⟨by (with_reducible repeat first|apply qN|apply qD|apply qA); refine blk_far ?_ NB326_327.out _; (with_reducible repeat first|apply qN|apply qD|apply qA); exact BK326.out⟩, ⟨by (with_reducible repeat first|apply qN|apply qD|apply qA); refine blk_put (cs := #[.slice none 0 0]) ?_ 0 _ rfl; (with_reducible repeat first|apply qN|apply qD|apply qA); exact BK327.out⟩, ⟨bq⟩⟩
 case round =>
  clear H'
  try clear hcz5_0
  try clear hfz5_0
  obtain ⟨x6_1, x328000_1, u328000, rfl, HA, HK1, HO_328000, BK326, BK327, HB⟩ := hrel
  cases gk with
  | zero => exact absurd HA.out (by simp [Y19.l0])
  | succ k1 =>
   have H := HA.out
   clear HA
   simp only [Y19.l0] at H
   by_cases c6 : x6_1 < a0
   ·rw [if_pos c6] at H
    have c6b0 := decide_eq_true c6
    clear c6
    replace H := iS H
    obtain ⟨c7, H⟩ := H
    have c7b0 := eq_true c7
    have c7b1 := decide_eq_true c7
    clear c7
    replace H := iS H
    obtain ⟨c8, H⟩ := H
    have c8b0 := eq_true c8
    have c8b1 := decide_eq_true c8
    clear c8
    obtain ⟨y328, hy328⟩ := nE ((List.replicate (a0 : Int).toNat 0) : List Int)
    try rw [← hy328] at H
    try with_reducible replace H := (Option.bind_some _ _).symm.trans H
    try dsimp only at H
    have Ny328 := aM hy328
    clear hy328
    replace H := iS H
    obtain ⟨c9, H⟩ := H
    have LMc9 := aM c9
    clear c9
    obtain ⟨y331, hy331⟩ := nE ((x328000_1 ++ [y328]) : List (List Int))
    try rw [← hy331] at H
    try with_reducible replace H := (Option.bind_some _ _).symm.trans H
    try dsimp only at H
    have Ny331 := aM hy331
    clear hy331
    have H' := aM H
    clear H
    try go_wp2
    have n0_ := aM (Kd.S_drew HO_328000.out)
    have n1_ := aM (blk_drew BK326.out)
    have n2_ := aM (blk_drew BK327.out)
    have n3_ := aM (below_drew1 HB.out)
    clear HO_328000
    clear BK326
    clear BK327
    clear HB
    have HO_328000 := n0_
    have BK326 := n1_
    have BK327 := n2_
    have HB := n3_
    clear n0_ n1_ n2_ n3_
    refine start_ (n := 8) (S := fun w' => w'.cell? ⟨gb327, 0, none⟩ = some (u328000)) (ds := [7]) #[false, false, false, false, false, false, false, false] (by kernel_rfl) rfl rfl ((blk_cell BK327.out 0).trans rfl) (fun hHeld => ?_); refine with_tabW Y19.tab4 Y19.bits4 (fun HT_ HW_ => ?_)
    generalize wr.drew = w10 at HO_328000 BK326 BK327 HB hHeld ⊢
    refine pA 0 8 (h := ?_)
    refine pA 2 10 (h := ?_)
    refine tA 1 9 hHeld (h := ?_)
    refine one_ (i := 3) (N := some 11) #[true, true, true, true, false, false, false, false] rfl rfl (one_of HT_.out (by kernel_rfl)) (by decide) (fun K hK => ?_)
    refine Kd.R_make_step (Kd.int .i64) _ 3 (by rfl) (N := 11) rfl 24 _ _ rfl a0 rfl rfl Tryz.underlying24 (.int .i64 0) 8 info3 rfl (by decide) (by omega) 0 (ok := fun _ => True) (okp := fun _ => True) rfl (fun _ hk => hk) trivial (odt) (Nat.le_trans (Nat.mul_le_mul_right _ (odt : a0.toNat ≤ 35184372088832)) (by omega)) (Below.refl _ _) (Nat.le_refl _) ?_
    intro v329 w11 ho12 hb hg_ hnew_
    clear hg_ hnew_
    (first | rw [← Ny328.out] at ho12 | (simp only [Int.reduceToNat] at ho12; rw [← Ny328.out] at ho12))
    have n0_ := aM (Kd.S_elder' (sQ HO_328000) (Kd.R_base ho12) hb)
    have n1_ := aM (Kd.R_lower ho12 (below_size bq))
    have n2_ := aM (blk_below (qQ BK326) hb)
    have n3_ := aM (blk_below (qQ BK327) hb)
    have n4_ := aM (below_step bq hb)
    clear HO_328000
    clear BK326
    clear BK327
    clear HB
    have HO_328000 := n0_
    have HO330 := n1_
    have BK326 := n2_
    have BK327 := n3_
    have HB := n4_
    clear n0_ n1_ n2_ n3_ n4_
    clear hb ho12
    obtain ⟨Ao14, co14, eo14⟩ := Kd.R_slice HO330.out
    (first | subst eo14 | (injection eo14 with f1_ f2_ f3_; have f4_ := f1_.symm; have f5_ := f3_.symm; clear f1_ f2_ f3_; subst f4_; subst f5_))
    refine hK.out _ _ ((blk_cell BK327.out 0).trans rfl) (fun hHeld => ?_)
    clear hK K
    refine nA 11 (h := ?_)
    refine one_ (i := 4) (N := some 12) #[true, true, true, true, true, false, false, false] rfl rfl (one_of HT_.out (by kernel_rfl)) (by decide) (fun K hK => ?_)
    refine value_ (w1 := ?_) (v := ?_) (by rfl) rfl ?_ ?_
    rotate_left 2
    ·go_simp
     constructor
     ·rfl
     ·rfl
    refine hK.out _ _ ((blk_cell (blk_alloc BK327.out _) 0).trans rfl) (fun hHeld => ?_)
    clear hK K
    refine nA 12 (h := ?_)
    refine one_ (i := 5) (N := some 13) #[true, true, true, true, true, true, false, false] rfl rfl (one_of HT_.out (by kernel_rfl)) (by decide) (fun K hK => ?_)
    refine Kd.S_append_step (Kd.slice 3 (Kd.int .i64)) (w0 := w) w.heap.size (by rfl) (.tmp 9) (.tmp 12) 39 24 (.slice none 0 0) 24 rfl Tryz.underlying39 info24 rfl (by decide) (by omega) u328000 x328000_1 y328 [.slice Ao14 y328.length co14] (fun _ => True) (fun k_ => some k_ = (.slice Ao14 y328.length co14 : Value).ownBlock) rfl rfl ?aP (fun k_ hk_ => ((Kd.R_mono (ok' := fun k_ => ((fun _ => True)) k_ ∧ some k_ ≠ (u328000 : Value).ownBlock) (Kd.R_apart' (HO330.out) (Kd.S_typed HO_328000.out) (by decide)) (fun k_ hk => ⟨trivial, hk.2⟩))).1 k_ hk_.symm) ?aF ?aO ?aB ?aS ?aL ?_
    (case aP => exact Kd.M_row (Kd.R_mono (Kd.R_tight rfl (Kd.R_mono (ok' := fun k_ => ((fun _ => True)) k_ ∧ some k_ ≠ (u328000 : Value).ownBlock) (Kd.R_apart' (HO330.out) (Kd.S_typed HO_328000.out) (by decide)) (fun k_ hk => ⟨trivial, hk.2⟩))) (fun _ h_ => h_)))
    (case aB => exact bq)
    (case aF => exact (fun _ _ => trivial))
    (case aO => exact (by (with_reducible repeat first|apply sA|apply sN|apply sD); exact Kd.S_mono HO_328000.out (fun k_ hk => ⟨trivial, fun e_ => hk.2 e_⟩)))
    (case aS => exact (below_size bq))
    (case aL => have := LMc9.out; omega)
    intro v332 w13 ho hb hg hat
    rw [← Ny331.out] at ho
    have n0_ := aM (blk_grown (g := gb326) (o := .cells #[.slice none 0 0] 41 (0, 0)) (qQ BK326) hg (Kd.S_ne HO_328000.out BK326.out (by decide)))
    have n1_ := aM (blk_grown (g := gb327) (o := .cells #[u328000] 41 (0, 0)) (qQ BK327) hg (Kd.S_ne HO_328000.out BK327.out (by decide)))
    have n2_ := aM (hb)
    have n3_ := aM (ho)
    clear BK326
    clear BK327
    clear HB
    clear HO_328000
    clear HO330
    have BK326 := n0_
    have BK327 := n1_
    have HB := n2_
    have HO333 := n3_
    clear n0_ n1_ n2_ n3_
    clear ho hb hg hat
    obtain ⟨Ao15, co15, eo15⟩ := Kd.S_slice HO333.out
    (first | subst eo15 | (injection eo15 with f1_ f2_ f3_; have f4_ := f1_.symm; have f5_ := f3_.symm; clear f1_ f2_ f3_; subst f4_; subst f5_))
    refine hK.out _ _ ((blk_cell BK327.out 0).trans rfl) (fun hHeld => ?_)
    clear hK K
    refine nA 13 (h := ?_)
    refine pA 6 14 (h := ?_)
    refine last_ (i := 7) (N := none) #[true, true, true, true, true, true, true, true] rfl rfl (one_of HT_.out (by kernel_rfl)) (by decide) (fun K hK => ?_)
    have hs16 := zc10 BK327
    have hfs16 := blk_frozen BK327.out 0
    have hns16_0 := NB326_327.out
    have hms16_0 := NB327_326.out
    refine skip_ (w1 := ?_) (by rfl) rfl ?_ ?_
    rotate_left
    ·go_simp
     rfl
    refine hK.out _ _ ?_
    clear hK K
    refine done_ (done_of HT_.out (by kernel_rfl)) ?_
    try go_wp2
    go_roundg k1
    case measure => have := HK1.out; omega
    case rel => exact ⟨(wrap64 (x6_1 + 1)), (y331), (.slice Ao15 y331.length co15), eR, H', ⟨by have := HK1.out; omega⟩, ⟨by (with_reducible repeat first|apply sA|apply sN|apply sD); exact Kd.S_mono (Kd.S_far (p := ⟨gb327, 0, none⟩) (Kd.S_types HO333.out BK327.out (by decide)) (fun _ hk => hk.2) (.slice Ao15 y331.length co15)) (fun _ hk => trivial)⟩, ⟨by (with_reducible repeat first|apply qN|apply qD|apply qA); refine blk_far ?_ NB326_327.out _; (with_reducible repeat first|apply qN|apply qD|apply qA); exact BK326.out⟩, ⟨by (with_reducible repeat first|apply qN|apply qD|apply qA); refine blk_put (cs := #[u328000]) ?_ 0 _ rfl; (with_reducible repeat first|apply qN|apply qD|apply qA); exact BK327.out⟩, ⟨bq⟩⟩
   ·rw [if_neg c6] at H
    have c6b0 := decide_eq_false c6
    clear c6
    obtain rfl := Option.some.inj H
    have hnb17 := NB327_326.out
    have hnc17 := NB326_327.out
    have hcz18_0 := zc10 BK327
    have hfz18_0 := blk_frozen BK327.out 0
    obtain ⟨Ao19, co19, eo19⟩ := Kd.S_slice HO_328000.out
    subst eo19
    have hcz20_0 := zc10 BK326
    have hfz20_0 := blk_frozen BK326.out 0
    go_wp2
    refine bodyPost_ret (results_cell_row rfl _ _ gb326 41 #[.slice Ao19 x328000_1.length co19] (0, 0) _ rfl (by (with_reducible repeat first|apply qN|apply qD|apply qA); refine blk_put (cs := #[.slice none 0 0]) ?_ 0 _ rfl; (with_reducible repeat first|apply qN|apply qD|apply qA); exact BK326.out) Tryz.underlying41 rfl (by kernel_rfl)) rfl ?_
    exact ⟨_, eE, by (with_reducible repeat first|apply sA|apply sN|apply sD); exact Kd.S_mono (Kd.S_far (p := ⟨gb326, 0, none⟩) (Kd.S_types HO_328000.out BK326.out (by decide)) (fun _ hk => hk.2) (.slice Ao19 x328000_1.length co19)) (fun _ hk => trivial), bq⟩
end Go.Proofs.YtjmmleofnjcjoaaGreatDoor.Du
