-- Written by hook.py, a program of this session (wip/), which runs the kit's print.py with its own parts; Lean checks it.
import Derived.Test.YtcodionjhcmfhaaDoorBe0
import Derived.Test.YtcodionjhcmfhaaDoorBe2
import Derived.Test.YtcodionjhcmfhaaDoorBe3
import Derived.Test.YtcodionjhcmfhaaDoorBeXSq
namespace Go.Proofs.YtcodionjhcmfhaaDoor.Be
open Go.RowKit Go.Proofs.YtcodionjhcmfhaaDoorW.PrintWords Go.Proofs.YtcodionjhcmfhaaDoorW.PrintLast Go.Proofs.YtcodionjhcmfhaaDoorW.PrintMore Go.Proofs.YtcodionjhcmfhaaDoor.Sq
attribute [local go_sem] max2_int min2_int max_two min_two max_three min_three max_four min_four   -- for this text's walks alone
set_option linter.unusedVariables false
set_option linter.unusedSimpArgs false

mutual
def impl_Order_twoTwo.l0 : Nat → Int → Int → Int → List Int → Option (List Int)
 | 0, _, _, _, _ => none
 | k + 1, x8, x9, x118000, x118001 => if x9 < x8 then (impl_Order_twoTwo.l1 k x9 x8 x9 x118000 0 x118000 x118001) else (some ([] : List Int))
def impl_Order_twoTwo.l1 : Nat → Int → Int → Int → Int → Int → Int → List Int → Option (List Int)
 | 0, _, _, _, _, _, _, _ => none
 | k + 1, x3, x8, x9, x13, x14, x118000, x118001 => if x14 < x13 then (impl_Order_twoTwo.l2 k x3 x14 x8 x9 x13 x14 x118000 0 x118000 x118001) else (impl_Order_twoTwo.l0 k x8 (wrap64 (x9 + 1)) x118000 x118001)
def impl_Order_twoTwo.l2 : Nat → Int → Int → Int → Int → Int → Int → Int → Int → Int → List Int → Option (List Int)
 | 0, _, _, _, _, _, _, _, _, _, _ => none
 | k + 1, x3, x4, x8, x9, x13, x14, x18, x19, x118000, x118001 => if x19 < x18 then (impl_Order_twoTwo.l3 k x3 x4 x19 x8 x9 x13 x14 x18 x19 x118000 0 x118000 x118001) else (impl_Order_twoTwo.l1 k x3 x8 x9 x13 (wrap64 (x14 + 1)) x118000 x118001)
def impl_Order_twoTwo.l3 : Nat → Int → Int → Int → Int → Int → Int → Int → Int → Int → Int → Int → Int → List Int → Option (List Int)
 | 0, _, _, _, _, _, _, _, _, _, _, _, _, _ => none
 | k + 1, x3, x4, x5, x8, x9, x13, x14, x18, x19, x23, x24, x118000, x118001 => if x24 < x23 then ((impl_Order_better.f x118000 x118001 x3 x4).bind fun t118 => (if t118 = true then ((impl_Order_better.f x118000 x118001 x5 x24).bind fun t119 => (if t119 = true then ((impl_Order_better.f x118000 x118001 x5 x4).bind fun t120 => (if t120 = true then (impl_Order_twoTwo.l3 k x3 x4 x5 x8 x9 x13 x14 x18 x19 x23 (wrap64 (x24 + 1)) x118000 x118001) else ((impl_Order_better.f x118000 x118001 x3 x24).bind fun t121 => (if t121 = true then (impl_Order_twoTwo.l3 k x3 x4 x5 x8 x9 x13 x14 x18 x19 x23 (wrap64 (x24 + 1)) x118000 x118001) else (some (([x3, x4, x5, x24] : List Int))))))) else (impl_Order_twoTwo.l3 k x3 x4 x5 x8 x9 x13 x14 x18 x19 x23 (wrap64 (x24 + 1)) x118000 x118001))) else (impl_Order_twoTwo.l3 k x3 x4 x5 x8 x9 x13 x14 x18 x19 x23 (wrap64 (x24 + 1)) x118000 x118001))) else (impl_Order_twoTwo.l2 k x3 x4 x8 x9 x13 x14 x18 (wrap64 (x19 + 1)) x118000 x118001)
end
def impl_Order_twoTwo.f (k : Nat) (a0_0 : Int) (l0_1 : List Int) : Option (List Int) := impl_Order_twoTwo.l0 k a0_0 0 a0_0 l0_1
set_option maxHeartbeats 8000000 in
set_option maxRecDepth 100000 in
theorem impl_Order_twoTwo.callsN (k : Nat) (a0_0 : Int) (A0_1 : Option Addr) (c0_1 : Nat) (l0_1 : List Int) (r : List Int) (w : World) (hr0_1 : Kd.C (Kd.int .i64) w A0_1 l0_1.length l0_1) (hc0_1 : l0_1.length ≤ c0_1) (h : impl_Order_twoTwo.f k a0_0 l0_1 = some r) :
  Calls Tryd.prog 69 #[.agg #[.int .i64 a0_0, .slice A0_1 l0_1.length c0_1]] w fun e w' => ∃ v0_ : Value, e = .returned (v0_) ∧ Kd.R (Kd.int .i64) 3 w' w.heap.size (fun _ => True) v0_ r ∧ Below w.heap.size w w' ∧ (r = [] → v0_ = .slice none 0 0) := by
 have hu31 := Tryd.underlying31
 have HR0_1 := aM hr0_1
 have HC0_1 := aM hc0_1
 clear hr0_1 hc0_1
 have HB := aM (Below.refl w.heap.size w)
 have H : (impl_Order_twoTwo.l0 k a0_0 0 a0_0 l0_1) = some r := h
 clear h
 have H' := aM H
 clear H
 go_enter Tryd.func69, Tryd.ntmps69
 go_wp2_with (first | ((with_reducible refine gate_dst (N := 1) rfl ?_); refine bE 1 31 #[.int .i64 a0_0, .slice A0_1 l0_1.length c0_1] ?_; intro gb117 hg w2 hbox hb; have _ := aM (below_step bq hb); have _ := aM (hbox); have _ := aM ((gS hg)); have _ := aM ((gS hg)); clear HB; rename_i HB BK117 GW117 GE117; clear hb hbox hg; have hcz3_0 := zc20 BK117; have hcz3_1 := zc21 BK117; have hfz3_0 := blk_frozen BK117.out 0; have hfz3_1 := blk_frozen BK117.out 1))
 go_loopg [9] k (fun kq v9 w' => ∃ (x9_1 : Int), v9 = .int .i64 x9_1 ∧ Aside0 (impl_Order_twoTwo.l0 kq a0_0 x9_1 a0_0 l0_1 = some r) ∧ Aside0 (kq ≤ k) ∧ Aside0 (w'.heap[gb117]? = some (.cells #[.int .i64 a0_0, (.slice A0_1 l0_1.length c0_1)] 31 (0, 0))) ∧ Aside0 (Below w.heap.size w w'))
 case atStart => exact ⟨(0), eR, H', ⟨Nat.le_refl _⟩, ⟨qQ BK117⟩, ⟨bq⟩⟩
 case round =>
  clear H'
  try clear p2
  try clear hcz3_0
  try clear hcz3_1
  try clear hfz3_0
  try clear hfz3_1
  obtain ⟨x9_1, rfl, HA, HK1, BK117, HB⟩ := hrel
  cases gk with
  | zero => exact absurd HA.out (by simp [impl_Order_twoTwo.l0])
  | succ k1 =>
   have H := HA.out
   clear HA
   simp only [impl_Order_twoTwo.l0] at H
   by_cases c4 : x9_1 < a0_0
   ·rw [if_pos c4] at H
    have c4b0 := decide_eq_true c4
    clear c4
    have H' := aM H
    clear H
    have hcz5_0 := zc20 BK117
    have hcz5_1 := zc21 BK117
    have hfz5_0 := blk_frozen BK117.out 0
    have hfz5_1 := blk_frozen BK117.out 1
    go_wp2
    go_loopg [14] k1 (fun kq v14 w' => ∃ (x14_2 : Int), v14 = .int .i64 x14_2 ∧ Aside0 (impl_Order_twoTwo.l1 kq x9_1 a0_0 x9_1 a0_0 x14_2 a0_0 l0_1 = some r) ∧ Aside0 (kq ≤ k1) ∧ Aside0 (w'.heap[gb117]? = some (.cells #[.int .i64 a0_0, (.slice A0_1 l0_1.length c0_1)] 31 (0, 0))) ∧ Aside0 (Below w.heap.size w w'))
    case atStart => exact ⟨(0), eR, H', ⟨Nat.le_refl _⟩, ⟨qQ BK117⟩, ⟨bq⟩⟩
    case round =>
     clear H'
     try clear p2
     try clear c4
     try clear c4b0
     try clear hcz3_0
     try clear hcz3_1
     try clear hcz5_0
     try clear hcz5_1
     try clear hfz3_0
     try clear hfz3_1
     try clear hfz5_0
     try clear hfz5_1
     try clear p2
     obtain ⟨x14_2, rfl, HA, HK2, BK117, HB⟩ := hrel
     cases gk with
     | zero => exact absurd HA.out (by simp [impl_Order_twoTwo.l1])
     | succ k2 =>
      have H := HA.out
      clear HA
      simp only [impl_Order_twoTwo.l1] at H
      by_cases c6 : x14_2 < a0_0
      ·rw [if_pos c6] at H
       have c6b0 := decide_eq_true c6
       clear c6
       have H' := aM H
       clear H
       have hcz7_0 := zc20 BK117
       have hcz7_1 := zc21 BK117
       have hfz7_0 := blk_frozen BK117.out 0
       have hfz7_1 := blk_frozen BK117.out 1
       go_wp2
       go_loopg [19] k2 (fun kq v19 w' => ∃ (x19_3 : Int), v19 = .int .i64 x19_3 ∧ Aside0 (impl_Order_twoTwo.l2 kq x9_1 x14_2 a0_0 x9_1 a0_0 x14_2 a0_0 x19_3 a0_0 l0_1 = some r) ∧ Aside0 (kq ≤ k2) ∧ Aside0 (w'.heap[gb117]? = some (.cells #[.int .i64 a0_0, (.slice A0_1 l0_1.length c0_1)] 31 (0, 0))) ∧ Aside0 (Below w.heap.size w w'))
       case atStart => exact ⟨(0), eR, H', ⟨Nat.le_refl _⟩, ⟨qQ BK117⟩, ⟨bq⟩⟩
       case round =>
        clear H'
        try clear p2
        try clear c4
        try clear c4b0
        try clear c6
        try clear c6b0
        try clear hcz3_0
        try clear hcz3_1
        try clear hcz5_0
        try clear hcz5_1
        try clear hcz7_0
        try clear hcz7_1
        try clear hfz3_0
        try clear hfz3_1
        try clear hfz5_0
        try clear hfz5_1
        try clear hfz7_0
        try clear hfz7_1
        try clear p2
        obtain ⟨x19_3, rfl, HA, HK3, BK117, HB⟩ := hrel
        cases gk with
        | zero => exact absurd HA.out (by simp [impl_Order_twoTwo.l2])
        | succ k3 =>
         have H := HA.out
         clear HA
         simp only [impl_Order_twoTwo.l2] at H
         by_cases c8 : x19_3 < a0_0
         ·rw [if_pos c8] at H
          have c8b0 := decide_eq_true c8
          clear c8
          have H' := aM H
          clear H
          have hcz9_0 := zc20 BK117
          have hcz9_1 := zc21 BK117
          have hfz9_0 := blk_frozen BK117.out 0
          have hfz9_1 := blk_frozen BK117.out 1
          go_wp2
          go_loopg [24] k3 (fun kq v24 w' => ∃ (x24_4 : Int), v24 = .int .i64 x24_4 ∧ Aside0 (impl_Order_twoTwo.l3 kq x9_1 x14_2 x19_3 a0_0 x9_1 a0_0 x14_2 a0_0 x19_3 a0_0 x24_4 a0_0 l0_1 = some r) ∧ Aside0 (kq ≤ k3) ∧ Aside0 (w'.heap[gb117]? = some (.cells #[.int .i64 a0_0, (.slice A0_1 l0_1.length c0_1)] 31 (0, 0))) ∧ Aside0 (Below w.heap.size w w'))
          case atStart => exact ⟨(0), eR, H', ⟨Nat.le_refl _⟩, ⟨qQ BK117⟩, ⟨bq⟩⟩
          case round =>
           clear H'
           try clear p2
           try clear c4
           try clear c4b0
           try clear c6
           try clear c6b0
           try clear c8
           try clear c8b0
           try clear hcz3_0
           try clear hcz3_1
           try clear hcz5_0
           try clear hcz5_1
           try clear hcz7_0
           try clear hcz7_1
           try clear hcz9_0
           try clear hcz9_1
           try clear hfz3_0
           try clear hfz3_1
           try clear hfz5_0
           try clear hfz5_1
           try clear hfz7_0
           try clear hfz7_1
           try clear hfz9_0
           try clear hfz9_1
           try clear p2
           obtain ⟨x24_4, rfl, HA, HK4, BK117, HB⟩ := hrel
           cases gk with
           | zero => exact absurd HA.out (by simp [impl_Order_twoTwo.l3])
           | succ k4 =>
            have H := HA.out
            clear HA
            simp only [impl_Order_twoTwo.l3] at H
            by_cases c10 : x24_4 < a0_0
            ·rw [if_pos c10] at H
             have c10b0 := decide_eq_true c10
             clear c10
             replace H := bS H
             obtain ⟨t118, A11, H⟩ := H
             try dsimp only at H
             by_cases c12 : t118 = true
             ·subst c12
              have H1 : ((impl_Order_better.f a0_0 l0_1 x19_3 x24_4).bind fun t119 => (if t119 = true then ((impl_Order_better.f a0_0 l0_1 x19_3 x14_2).bind fun t120 => (if t120 = true then (impl_Order_twoTwo.l3 k4 x9_1 x14_2 x19_3 a0_0 x9_1 a0_0 x14_2 a0_0 x19_3 a0_0 (wrap64 (x24_4 + 1)) a0_0 l0_1) else ((impl_Order_better.f a0_0 l0_1 x9_1 x24_4).bind fun t121 => (if t121 = true then (impl_Order_twoTwo.l3 k4 x9_1 x14_2 x19_3 a0_0 x9_1 a0_0 x14_2 a0_0 x19_3 a0_0 (wrap64 (x24_4 + 1)) a0_0 l0_1) else (some (([x9_1, x14_2, x19_3, x24_4] : List Int))))))) else (impl_Order_twoTwo.l3 k4 x9_1 x14_2 x19_3 a0_0 x9_1 a0_0 x14_2 a0_0 x19_3 a0_0 (wrap64 (x24_4 + 1)) a0_0 l0_1))) = some r := by rw [if_pos rfl] at H; exact H
              clear H
              have H := H1
              clear H1
              replace H := bS H
              obtain ⟨t119, A13, H⟩ := H
              try dsimp only at H
              by_cases c14 : t119 = true
              ·subst c14
               have H1 : ((impl_Order_better.f a0_0 l0_1 x19_3 x14_2).bind fun t120 => (if t120 = true then (impl_Order_twoTwo.l3 k4 x9_1 x14_2 x19_3 a0_0 x9_1 a0_0 x14_2 a0_0 x19_3 a0_0 (wrap64 (x24_4 + 1)) a0_0 l0_1) else ((impl_Order_better.f a0_0 l0_1 x9_1 x24_4).bind fun t121 => (if t121 = true then (impl_Order_twoTwo.l3 k4 x9_1 x14_2 x19_3 a0_0 x9_1 a0_0 x14_2 a0_0 x19_3 a0_0 (wrap64 (x24_4 + 1)) a0_0 l0_1) else (some (([x9_1, x14_2, x19_3, x24_4] : List Int))))))) = some r := by rw [if_pos rfl] at H; exact H
               clear H
               have H := H1
               clear H1
               replace H := bS H
               obtain ⟨t120, A15, H⟩ := H
               try dsimp only at H
               by_cases c16 : t120 = true
               ·subst c16
                have H1 : (impl_Order_twoTwo.l3 k4 x9_1 x14_2 x19_3 a0_0 x9_1 a0_0 x14_2 a0_0 x19_3 a0_0 (wrap64 (x24_4 + 1)) a0_0 l0_1) = some r := by rw [if_pos rfl] at H; exact H
                clear H
                have H := H1
                clear H1
                have H' := aM H
                clear H
                have hcz17_0 := zc20 BK117
                have hcz17_1 := zc21 BK117
                have hfz17_0 := blk_frozen BK117.out 0
                have hfz17_1 := blk_frozen BK117.out 1
                go_wp2_with (first | ((with_reducible refine gate_callee (f := 87) rfl ?_); refine gL (some 30) Tryd.func87 #[.agg #[.int .i64 a0_0, .slice A0_1 l0_1.length c0_1], .int .i64 x9_1, .int .i64 x14_2] ?_; (with_reducible refine (impl_Order_better.calls a0_0 _ _ l0_1 x9_1 x14_2 true _ (cQ (Kd.C_below HR0_1.out HB.out)) HC0_1.out A11.out).mono ?_); rintro e w18 ⟨rfl, hb⟩; refine ⟨_, rfl, ?_⟩; have _ := aM (blk_below (qQ BK117) hb); have _ := aM (below_step bq hb); clear BK117 HB; rename_i BK117 HB; (try clear hb); (try clear hb2); (try clear hk); (try clear hi); have hcz19_0 := zc20 BK117; have hcz19_1 := zc21 BK117; have hfz19_0 := blk_frozen BK117.out 0; have hfz19_1 := blk_frozen BK117.out 1) | (go_at_call 87; (with_reducible refine (impl_Order_better.calls a0_0 _ _ l0_1 x19_3 x24_4 true _ (cQ (Kd.C_below HR0_1.out HB.out)) HC0_1.out A13.out).mono ?_); rintro e w20 ⟨rfl, hb⟩; have _ := aM (blk_below (qQ BK117) hb); have _ := aM (below_step bq hb); clear BK117 HB; rename_i BK117 HB; (try clear hb); (try clear hb2); (try clear hk); (try clear hi); have hcz21_0 := zc20 BK117; have hcz21_1 := zc21 BK117; have hfz21_0 := blk_frozen BK117.out 0; have hfz21_1 := blk_frozen BK117.out 1) | (go_at_call 87; (with_reducible refine (impl_Order_better.calls a0_0 _ _ l0_1 x19_3 x14_2 true _ (cQ (Kd.C_below HR0_1.out HB.out)) HC0_1.out A15.out).mono ?_); rintro e w22 ⟨rfl, hb⟩; have _ := aM (blk_below (qQ BK117) hb); have _ := aM (below_step bq hb); clear BK117 HB; rename_i BK117 HB; (try clear hb); (try clear hb2); (try clear hk); (try clear hi)))
                go_roundg k4
                case measure => have := HK1.out; have := HK2.out; have := HK3.out; have := HK4.out; omega
                case rel => exact ⟨(wrap64 (x24_4 + 1)), eR, H', ⟨by have := HK1.out; have := HK2.out; have := HK3.out; have := HK4.out; omega⟩, ⟨qQ BK117⟩, ⟨bq⟩⟩
               ·replace c16 := Bool.eq_false_iff.mpr c16
                subst c16
                have H1 : ((impl_Order_better.f a0_0 l0_1 x9_1 x24_4).bind fun t121 => (if t121 = true then (impl_Order_twoTwo.l3 k4 x9_1 x14_2 x19_3 a0_0 x9_1 a0_0 x14_2 a0_0 x19_3 a0_0 (wrap64 (x24_4 + 1)) a0_0 l0_1) else (some (([x9_1, x14_2, x19_3, x24_4] : List Int))))) = some r := by rw [if_neg (show ¬ (false = true) by decide)] at H; exact H
                clear H
                have H := H1
                clear H1
                replace H := bS H
                obtain ⟨t121, A23, H⟩ := H
                try dsimp only at H
                by_cases c24 : t121 = true
                ·subst c24
                 have H1 : (impl_Order_twoTwo.l3 k4 x9_1 x14_2 x19_3 a0_0 x9_1 a0_0 x14_2 a0_0 x19_3 a0_0 (wrap64 (x24_4 + 1)) a0_0 l0_1) = some r := by rw [if_pos rfl] at H; exact H
                 clear H
                 have H := H1
                 clear H1
                 have H' := aM H
                 clear H
                 have hcz25_0 := zc20 BK117
                 have hcz25_1 := zc21 BK117
                 have hfz25_0 := blk_frozen BK117.out 0
                 have hfz25_1 := blk_frozen BK117.out 1
                 go_wp2_with (first | ((with_reducible refine gate_callee (f := 87) rfl ?_); refine gL (some 30) Tryd.func87 #[.agg #[.int .i64 a0_0, .slice A0_1 l0_1.length c0_1], .int .i64 x9_1, .int .i64 x14_2] ?_; (with_reducible refine (impl_Order_better.calls a0_0 _ _ l0_1 x9_1 x14_2 true _ (cQ (Kd.C_below HR0_1.out HB.out)) HC0_1.out A11.out).mono ?_); rintro e w26 ⟨rfl, hb⟩; refine ⟨_, rfl, ?_⟩; have _ := aM (blk_below (qQ BK117) hb); have _ := aM (below_step bq hb); clear BK117 HB; rename_i BK117 HB; (try clear hb); (try clear hb2); (try clear hk); (try clear hi); have hcz27_0 := zc20 BK117; have hcz27_1 := zc21 BK117; have hfz27_0 := blk_frozen BK117.out 0; have hfz27_1 := blk_frozen BK117.out 1) | (go_at_call 87; (with_reducible refine (impl_Order_better.calls a0_0 _ _ l0_1 x19_3 x24_4 true _ (cQ (Kd.C_below HR0_1.out HB.out)) HC0_1.out A13.out).mono ?_); rintro e w28 ⟨rfl, hb⟩; have _ := aM (blk_below (qQ BK117) hb); have _ := aM (below_step bq hb); clear BK117 HB; rename_i BK117 HB; (try clear hb); (try clear hb2); (try clear hk); (try clear hi); have hcz29_0 := zc20 BK117; have hcz29_1 := zc21 BK117; have hfz29_0 := blk_frozen BK117.out 0; have hfz29_1 := blk_frozen BK117.out 1) | (go_at_call 87; (with_reducible refine (impl_Order_better.calls a0_0 _ _ l0_1 x19_3 x14_2 false _ (cQ (Kd.C_below HR0_1.out HB.out)) HC0_1.out A15.out).mono ?_); rintro e w30 ⟨rfl, hb⟩; have _ := aM (blk_below (qQ BK117) hb); have _ := aM (below_step bq hb); clear BK117 HB; rename_i BK117 HB; (try clear hb); (try clear hb2); (try clear hk); (try clear hi); have hcz31_0 := zc20 BK117; have hcz31_1 := zc21 BK117; have hfz31_0 := blk_frozen BK117.out 0; have hfz31_1 := blk_frozen BK117.out 1) | (go_at_call 87; (with_reducible refine (impl_Order_better.calls a0_0 _ _ l0_1 x9_1 x24_4 true _ (cQ (Kd.C_below HR0_1.out HB.out)) HC0_1.out A23.out).mono ?_); rintro e w32 ⟨rfl, hb⟩; have _ := aM (blk_below (qQ BK117) hb); have _ := aM (below_step bq hb); clear BK117 HB; rename_i BK117 HB; (try clear hb); (try clear hb2); (try clear hk); (try clear hi)))
                 go_roundg k4
                 case measure => have := HK1.out; have := HK2.out; have := HK3.out; have := HK4.out; omega
                 case rel => exact ⟨(wrap64 (x24_4 + 1)), eR, H', ⟨by have := HK1.out; have := HK2.out; have := HK3.out; have := HK4.out; omega⟩, ⟨qQ BK117⟩, ⟨bq⟩⟩
                ·replace c24 := Bool.eq_false_iff.mpr c24
                 subst c24
                 have H1 : (some (([x9_1, x14_2, x19_3, x24_4] : List Int))) = some r := by rw [if_neg (show ¬ (false = true) by decide)] at H; exact H
                 clear H
                 have H := H1
                 clear H1
                 obtain ⟨y122, hy122⟩ : ∃ y_ : List Int, y_ = (([x9_1, x14_2, x19_3, x24_4] : List Int)) := ⟨_, rfl⟩
                 replace H : (some y122) = some r := by first | (rw [hy122]; with_reducible exact H) | (have H2_ := (Option.bind_some _ _).symm.trans H; rw [hy122]; with_reducible exact H2_) | (have H2_ := (Option.bind_some _ _).symm.trans H; with_reducible exact H2_) | with_reducible exact H | (rw [hy122]; exact H) | exact H
                 have Ny122 := aM hy122
                 clear hy122
                 obtain rfl := Option.some.inj H
                 have hcz33_0 := zc20 BK117
                 have hcz33_1 := zc21 BK117
                 have hfz33_0 := blk_frozen BK117.out 0
                 have hfz33_1 := blk_frozen BK117.out 1
                 go_wp2_with (first | ((with_reducible refine gate_callee (f := 87) rfl ?_); refine gL (some 30) Tryd.func87 #[.agg #[.int .i64 a0_0, .slice A0_1 l0_1.length c0_1], .int .i64 x9_1, .int .i64 x14_2] ?_; (with_reducible refine (impl_Order_better.calls a0_0 _ _ l0_1 x9_1 x14_2 true _ (cQ (Kd.C_below HR0_1.out HB.out)) HC0_1.out A11.out).mono ?_); rintro e w34 ⟨rfl, hb⟩; refine ⟨_, rfl, ?_⟩; have _ := aM (blk_below (qQ BK117) hb); have _ := aM (below_step bq hb); clear BK117 HB; rename_i BK117 HB; (try clear hb); (try clear hb2); (try clear hk); (try clear hi); have hcz35_0 := zc20 BK117; have hcz35_1 := zc21 BK117; have hfz35_0 := blk_frozen BK117.out 0; have hfz35_1 := blk_frozen BK117.out 1) | (go_at_call 87; (with_reducible refine (impl_Order_better.calls a0_0 _ _ l0_1 x19_3 x24_4 true _ (cQ (Kd.C_below HR0_1.out HB.out)) HC0_1.out A13.out).mono ?_); rintro e w36 ⟨rfl, hb⟩; have _ := aM (blk_below (qQ BK117) hb); have _ := aM (below_step bq hb); clear BK117 HB; rename_i BK117 HB; (try clear hb); (try clear hb2); (try clear hk); (try clear hi); have hcz37_0 := zc20 BK117; have hcz37_1 := zc21 BK117; have hfz37_0 := blk_frozen BK117.out 0; have hfz37_1 := blk_frozen BK117.out 1) | (go_at_call 87; (with_reducible refine (impl_Order_better.calls a0_0 _ _ l0_1 x19_3 x14_2 false _ (cQ (Kd.C_below HR0_1.out HB.out)) HC0_1.out A15.out).mono ?_); rintro e w38 ⟨rfl, hb⟩; have _ := aM (blk_below (qQ BK117) hb); have _ := aM (below_step bq hb); clear BK117 HB; rename_i BK117 HB; (try clear hb); (try clear hb2); (try clear hk); (try clear hi); have hcz39_0 := zc20 BK117; have hcz39_1 := zc21 BK117; have hfz39_0 := blk_frozen BK117.out 0; have hfz39_1 := blk_frozen BK117.out 1) | (go_at_call 87; (with_reducible refine (impl_Order_better.calls a0_0 _ _ l0_1 x9_1 x24_4 false _ (cQ (Kd.C_below HR0_1.out HB.out)) HC0_1.out A23.out).mono ?_); rintro e w40 ⟨rfl, hb⟩; have _ := aM (blk_below (qQ BK117) hb); have _ := aM (below_step bq hb); clear BK117 HB; rename_i BK117 HB; (try clear hb); (try clear hb2); (try clear hk); (try clear hi)) | ((with_reducible refine gate_dst (N := 55) rfl ?_); refine Kd.R_lit (Kd.int .i64) _ 3 ?hg (N := 55) ?hd (xs := ([x9_1, x14_2, x19_3, x24_4] : List Int)) (inner := [.int .i64 x9_1, .int .i64 x14_2, .int .i64 x19_3, .int .i64 x24_4]) (ok := fun _ => True) (okp := fun _ => True) ?hr ?hp (fun _ hk => hk) trivial (Below.refl _ _) (Nat.le_refl _) (by simp) ?_; (case hd => rfl); (case hg => rfl); (case hr => first | (go_simp; done) | (go_simp; rfl)); (case hp => exact (Reps.one (show Kd.M (Kd.int .i64) _ _ _ x9_1 [.int .i64 x9_1] from rfl) (Reps.one (show Kd.M (Kd.int .i64) _ _ _ x14_2 [.int .i64 x14_2] from rfl) (Reps.one (show Kd.M (Kd.int .i64) _ _ _ x19_3 [.int .i64 x19_3] from rfl) (Reps.one (show Kd.M (Kd.int .i64) _ _ _ x24_4 [.int .i64 x24_4] from rfl) (Reps.none _ _)))))); intro v123 w41 ho42 hb hg_ hnew_; clear hg_ hnew_; (first | rw [← Ny122.out] at ho42 | (simp only [Int.reduceToNat] at ho42; rw [← Ny122.out] at ho42)); have _ := aM (Kd.R_lower ho42 (below_size bq)); have _ := aM (blk_below (qQ BK117) hb); have _ := aM (below_step bq hb); clear BK117 HB; rename_i HO124 BK117 HB; clear hb ho42))
                 go_ret
                 exact ⟨_, eE, rQ HO124, by exact bq, fun h_ => by have q_ := Ny122.out; rw [h_] at q_; exact absurd q_ (by simp)⟩
              ·replace c14 := Bool.eq_false_iff.mpr c14
               subst c14
               have H1 : (impl_Order_twoTwo.l3 k4 x9_1 x14_2 x19_3 a0_0 x9_1 a0_0 x14_2 a0_0 x19_3 a0_0 (wrap64 (x24_4 + 1)) a0_0 l0_1) = some r := by rw [if_neg (show ¬ (false = true) by decide)] at H; exact H
               clear H
               have H := H1
               clear H1
               have H' := aM H
               clear H
               have hcz43_0 := zc20 BK117
               have hcz43_1 := zc21 BK117
               have hfz43_0 := blk_frozen BK117.out 0
               have hfz43_1 := blk_frozen BK117.out 1
               go_wp2_with (first | ((with_reducible refine gate_callee (f := 87) rfl ?_); refine gL (some 30) Tryd.func87 #[.agg #[.int .i64 a0_0, .slice A0_1 l0_1.length c0_1], .int .i64 x9_1, .int .i64 x14_2] ?_; (with_reducible refine (impl_Order_better.calls a0_0 _ _ l0_1 x9_1 x14_2 true _ (cQ (Kd.C_below HR0_1.out HB.out)) HC0_1.out A11.out).mono ?_); rintro e w44 ⟨rfl, hb⟩; refine ⟨_, rfl, ?_⟩; have _ := aM (blk_below (qQ BK117) hb); have _ := aM (below_step bq hb); clear BK117 HB; rename_i BK117 HB; (try clear hb); (try clear hb2); (try clear hk); (try clear hi); have hcz45_0 := zc20 BK117; have hcz45_1 := zc21 BK117; have hfz45_0 := blk_frozen BK117.out 0; have hfz45_1 := blk_frozen BK117.out 1) | (go_at_call 87; (with_reducible refine (impl_Order_better.calls a0_0 _ _ l0_1 x19_3 x24_4 false _ (cQ (Kd.C_below HR0_1.out HB.out)) HC0_1.out A13.out).mono ?_); rintro e w46 ⟨rfl, hb⟩; have _ := aM (blk_below (qQ BK117) hb); have _ := aM (below_step bq hb); clear BK117 HB; rename_i BK117 HB; (try clear hb); (try clear hb2); (try clear hk); (try clear hi)))
               go_roundg k4
               case measure => have := HK1.out; have := HK2.out; have := HK3.out; have := HK4.out; omega
               case rel => exact ⟨(wrap64 (x24_4 + 1)), eR, H', ⟨by have := HK1.out; have := HK2.out; have := HK3.out; have := HK4.out; omega⟩, ⟨qQ BK117⟩, ⟨bq⟩⟩
             ·replace c12 := Bool.eq_false_iff.mpr c12
              subst c12
              have H1 : (impl_Order_twoTwo.l3 k4 x9_1 x14_2 x19_3 a0_0 x9_1 a0_0 x14_2 a0_0 x19_3 a0_0 (wrap64 (x24_4 + 1)) a0_0 l0_1) = some r := by rw [if_neg (show ¬ (false = true) by decide)] at H; exact H
              clear H
              have H := H1
              clear H1
              have H' := aM H
              clear H
              have hcz47_0 := zc20 BK117
              have hcz47_1 := zc21 BK117
              have hfz47_0 := blk_frozen BK117.out 0
              have hfz47_1 := blk_frozen BK117.out 1
              go_wp2_with (first | ((with_reducible refine gate_callee (f := 87) rfl ?_); refine gL (some 30) Tryd.func87 #[.agg #[.int .i64 a0_0, .slice A0_1 l0_1.length c0_1], .int .i64 x9_1, .int .i64 x14_2] ?_; (with_reducible refine (impl_Order_better.calls a0_0 _ _ l0_1 x9_1 x14_2 false _ (cQ (Kd.C_below HR0_1.out HB.out)) HC0_1.out A11.out).mono ?_); rintro e w48 ⟨rfl, hb⟩; refine ⟨_, rfl, ?_⟩; have _ := aM (blk_below (qQ BK117) hb); have _ := aM (below_step bq hb); clear BK117 HB; rename_i BK117 HB; (try clear hb); (try clear hb2); (try clear hk); (try clear hi)))
              go_roundg k4
              case measure => have := HK1.out; have := HK2.out; have := HK3.out; have := HK4.out; omega
              case rel => exact ⟨(wrap64 (x24_4 + 1)), eR, H', ⟨by have := HK1.out; have := HK2.out; have := HK3.out; have := HK4.out; omega⟩, ⟨qQ BK117⟩, ⟨bq⟩⟩
            ·rw [if_neg c10] at H
             have c10b0 := decide_eq_false c10
             clear c10
             have H' := aM H
             clear H
             go_wp2
             go_roundg k4
             case measure => have := HK1.out; have := HK2.out; have := HK3.out; have := HK4.out; omega
             case rel => exact ⟨(wrap64 (x19_3 + 1)), eR, H', ⟨by have := HK1.out; have := HK2.out; have := HK3.out; have := HK4.out; omega⟩, ⟨qQ BK117⟩, ⟨bq⟩⟩
         ·rw [if_neg c8] at H
          have c8b0 := decide_eq_false c8
          clear c8
          have H' := aM H
          clear H
          go_wp2
          go_roundg k3
          case measure => have := HK1.out; have := HK2.out; have := HK3.out; omega
          case rel => exact ⟨(wrap64 (x14_2 + 1)), eR, H', ⟨by have := HK1.out; have := HK2.out; have := HK3.out; omega⟩, ⟨qQ BK117⟩, ⟨bq⟩⟩
      ·rw [if_neg c6] at H
       have c6b0 := decide_eq_false c6
       clear c6
       have H' := aM H
       clear H
       go_wp2
       go_roundg k2
       case measure => have := HK1.out; have := HK2.out; omega
       case rel => exact ⟨(wrap64 (x9_1 + 1)), eR, H', ⟨by have := HK1.out; have := HK2.out; omega⟩, ⟨qQ BK117⟩, ⟨bq⟩⟩
   ·rw [if_neg c4] at H
    have c4b0 := decide_eq_false c4
    clear c4
    obtain rfl := Option.some.inj H
    go_wp2
    go_ret
    exact ⟨_, eE, by first | exact Kd.R_nil _ _ _ _ _ | exact Kd.N_nil _ _ _ _ _ | exact Kd.V_nil _ _ _ _ _ | exact Kd.Q_nil _ _ _ _ _ | exact Kd.S_nil _ _ _ _ _, by exact bq, by first | exact fun _ => rfl | exact rfl⟩
theorem impl_Order_twoTwo.calls (k : Nat) (a0_0 : Int) (A0_1 : Option Addr) (c0_1 : Nat) (l0_1 : List Int) (r : List Int) (w : World) (hr0_1 : Kd.C (Kd.int .i64) w A0_1 l0_1.length l0_1) (hc0_1 : l0_1.length ≤ c0_1) (h : impl_Order_twoTwo.f k a0_0 l0_1 = some r) :
  Calls Tryd.prog 69 #[.agg #[.int .i64 a0_0, .slice A0_1 l0_1.length c0_1]] w fun e w' => ∃ v0_ : Value, e = .returned (v0_) ∧ Kd.R (Kd.int .i64) 3 w' w.heap.size (fun _ => True) v0_ r ∧ Below w.heap.size w w' :=
 (impl_Order_twoTwo.callsN k a0_0 A0_1 c0_1 l0_1 r w hr0_1 hc0_1 h).mono fun e w' ⟨v, h1, h2, h3, _⟩ => ⟨v, h1, h2, h3⟩

def impl_isInterval.f (k : Nat) (a0_0 : Int) (l0_1 : List Int) : Option Bool := (impl_IsOrder.f k a0_0 l0_1).bind fun t => if t = true then ((impl_Order_twoTwo.f k a0_0 l0_1).bind fun s => some s.isEmpty) else some false
set_option maxHeartbeats 4000000 in
set_option maxRecDepth 100000 in
open Go.Proofs.YtcodionjhcmfhaaDoor.Live in
theorem impl_isInterval.calls (k : Nat) (a0_0 : Int) (A0_1 : Option Addr) (c0_1 : Nat) (l0_1 : List Int) (r : Bool) (w : World) (hV : TabZ w) (hr0_1 : Kd.C (Kd.int .i64) w A0_1 l0_1.length l0_1) (hc0_1 : l0_1.length ≤ c0_1) (h : impl_isInterval.f k a0_0 l0_1 = some r) :
    Calls Tryd.prog 40 #[.agg #[.int .i64 a0_0, .slice A0_1 l0_1.length c0_1]] w fun e w' => e = .returned (.bool r) ∧ Below w.heap.size w w' := by
 have hu31 := Tryd.underlying31
 have hnil : ∀ (w_ : World) (a_ : Option Addr) (l_ c_ : Nat), (Op.equal 22 (.slice a_ l_ c_) (.slice none 0 0)).run Tryd.prog w_ = .ok a_.isNone w_ := fun w_ a_ l_ c_ => run_equal_slice_nil w_ _ _ a_ l_ c_ Tryd.underlying22
 have hnil2 : ∀ (w_ : World) (a_ : Option Addr) (l_ c_ : Nat), (Go.binOp .eql 22 (.slice a_ l_ c_) (.slice none 0 0)).run Tryd.prog w_ = .ok (.bool a_.isNone) w_ := fun w_ a_ l_ c_ => by {
 simp only [Go.binOp]
 simp [hnil]}
 unfold impl_isInterval.f at h
 obtain ⟨t, h1, h2⟩ := Option.bind_eq_some_iff.mp h
 have HV := aM hV
 have HR := aM hr0_1
 have HC := aM hc0_1
 have H1 := aM h1
 have H2 := aM h2
 have HH := aM ((Live.start w).new #[.int .i64 a0_0, .slice A0_1 l0_1.length c0_1] 31)
 clear hV hr0_1 hc0_1 h h1 h2
 have k0 := HH.out.cell 0 rfl 0
 have k1 := HH.out.cell 0 rfl 1
 go_enter Tryd.func40, Tryd.ntmps40
 go_wp2_with (fail)
 refine (impl_IsOrder.calls k a0_0 A0_1 c0_1 l0_1 t _ (HV.out.below HH.out.below) (Kd.C_below HR.out HH.out.below) HC.out H1.out).mono ?_
 rintro e w1 ⟨rfl, hb_⟩
 have HI := aM (HH.out.step hb_)
 clear hb_ HH k0 k1
 have k0 := HI.out.cell 0 rfl 0
 have k1 := HI.out.cell 0 rfl 1
 have h2 := H2.out
 clear H2
 cases t with
 | false => {
 rw [if_neg (by simp)] at h2
 obtain rfl := Option.some.inj h2
 clear h2
 go_wp2
 go_ret
 exact ⟨rfl, HI.out.below⟩}
 | true => {
 rw [if_pos rfl] at h2
 obtain ⟨s, h3, h4⟩ := Option.bind_eq_some_iff.mp h2
 obtain rfl := Option.some.inj h4
 have H3 := aM h3
 clear h2 h3 h4
 go_wp2_with (fail)
 refine (impl_Order_twoTwo.callsN k a0_0 A0_1 c0_1 l0_1 s _ (Kd.C_below HR.out HI.out.below) HC.out H3.out).mono ?_
 rintro e w2 ⟨v_, rfl, hs_, hb_, hn_⟩
 have HJ := aM (HI.out.add (o := row (Kd.int .i64) 3 v_ s) hb_ hs_)
 clear hs_ hb_ HI k0 k1
 cases s with
 | nil => {
 obtain rfl := hn_ rfl
 clear hn_
 go_wp2
 go_ret
 exact ⟨rfl, HJ.out.below⟩}
 | cons x xs => {
 clear hn_
 obtain ⟨g, c, rfl, _, _⟩ := HJ.out.form1 1 rfl (by simp)
 go_wp2
 go_ret
 exact ⟨rfl, HJ.out.below⟩}}
-- NOT PRINTED: function 84 (impl_relation)

end Go.Proofs.YtcodionjhcmfhaaDoor.Be
