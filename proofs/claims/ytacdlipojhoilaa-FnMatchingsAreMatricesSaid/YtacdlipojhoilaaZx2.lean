-- Written by hook.py, a program of this session (wip/), which runs the kit's print.py with its own parts; Lean checks it.
import Derived.Test.YtacdlipojhoilaaZx0
import Derived.Test.YtacdlipojhoilaaZx1
import Derived.Test.YtacdlipojhoilaaZxXSq
namespace Go.Proofs.Ytacdlipojhoilaa.Zx
open Go.RowKit Go.Proofs.YtacdlipojhoilaaW.PrintWords Go.Proofs.YtacdlipojhoilaaW.PrintLast Go.Proofs.YtacdlipojhoilaaW.PrintMore Go.Proofs.Ytacdlipojhoilaa.Sq
attribute [local go_sem] max2_int min2_int max_two min_two max_three min_three max_four min_four   -- for this text's walks alone
set_option linter.unusedVariables false
set_option linter.unusedSimpArgs false

mutual
def impl_IsMatching.j0 : Nat → List Int → Bool → Option (Bool)
 | 0, _, _ => none
 | k + 1, x0, x21 => if x21 = true then (some false) else (impl_IsMatching.l0 k x0 x0 (x0.length : Int) 0)
def impl_IsMatching.l0 : Nat → List Int → List Int → Int → Int → Option (Bool)
 | 0, _, _, _, _ => none
 | k + 1, x0, x22, x23, x24 => if x24 < x23 then (if 0 ≤ x24 then (if x24 < (x22.length : Int) then (if (rd x22 x24) = x24 then (some false) else (if 0 ≤ (rd x22 x24) then (if (rd x22 x24) < (x0.length : Int) then (if (rd x0 (rd x22 x24)) = x24 then (impl_IsMatching.l0 k x0 x22 x23 (wrap64 (x24 + 1))) else (some false)) else (none)) else (none))) else (none)) else (none)) else (some true)
end
def impl_IsMatching.f (k : Nat) (l0 : List Int) : Option (Bool) := if ((l0.length : Int) % 2) = 1 then (impl_IsMatching.j0 k l0 true) else (if (l0.length : Int) > 24 then (impl_IsMatching.j0 k l0 true) else ((impl_allWithin.f k l0 0 (wrap64 ((l0.length : Int) - 1))).bind fun t105 => (impl_IsMatching.j0 k l0 (!t105))))
theorem impl_IsMatching.mono_l : ∀ k, (∀ y0 y1, LeO (impl_IsMatching.j0 k y0 y1) (impl_IsMatching.j0 (k + 1) y0 y1)) ∧ (∀ y0 y1 y2 y3, LeO (impl_IsMatching.l0 k y0 y1 y2 y3) (impl_IsMatching.l0 (k + 1) y0 y1 y2 y3))
 | 0 => ⟨fun _ _ r h => by simp [impl_IsMatching.j0] at h, fun _ _ _ _ r h => by simp [impl_IsMatching.l0] at h⟩
 | k + 1 => by
  obtain ⟨ih0, ih1⟩ := impl_IsMatching.mono_l k
  refine ⟨?_, ?_⟩
  ·intro y0 y1
   unfold impl_IsMatching.j0
   repeat' first | with_reducible first | exact ih0 _ _ | exact ih1 _ _ _ _ | exact impl_allWithin.mono _ _ _ _ | exact LeO.refl _ | exact LeO.none _ | refine LeO.ite ?_ ?_ | refine LeO.bind ?_ (fun _ => ?_)
  ·intro y0 y1 y2 y3
   unfold impl_IsMatching.l0
   repeat' first | with_reducible first | exact ih0 _ _ | exact ih1 _ _ _ _ | exact impl_allWithin.mono _ _ _ _ | exact LeO.refl _ | exact LeO.none _ | refine LeO.ite ?_ ?_ | refine LeO.bind ?_ (fun _ => ?_)
theorem impl_IsMatching.mono : ∀ a0 k, LeO (impl_IsMatching.f k a0) (impl_IsMatching.f (k + 1) a0) := by
 intro a0 k
 obtain ⟨ih0, ih1⟩ := impl_IsMatching.mono_l k
 unfold impl_IsMatching.f
 repeat' first | with_reducible first | exact ih0 _ _ | exact ih1 _ _ _ _ | exact impl_allWithin.mono _ _ _ _ | exact LeO.refl _ | exact LeO.none _ | refine LeO.ite ?_ ?_ | refine LeO.bind ?_ (fun _ => ?_)
set_option maxHeartbeats 8000000 in
set_option maxRecDepth 100000 in
theorem impl_IsMatching.calls (k : Nat) (A0 : Option Addr) (c0 : Nat) (l0 : List Int) (r : Bool) (w : World) (hr0 : Kd.C (Kd.int .i64) w A0 l0.length l0) (hc0 : l0.length ≤ c0) (h : impl_IsMatching.f k l0 = some r) :
  Calls Try.prog 15 #[.slice A0 l0.length c0] w fun e w' => e = .returned (.bool r) ∧ Drawn0 w w' := by
 have HR0 := aM hr0
 have HC0 := aM hc0
 clear hr0 hc0
 have H : (if ((l0.length : Int) % 2) = 1 then (impl_IsMatching.j0 k l0 true) else (if (l0.length : Int) > 24 then (impl_IsMatching.j0 k l0 true) else ((impl_allWithin.f k l0 0 (wrap64 ((l0.length : Int) - 1))).bind fun t105 => (impl_IsMatching.j0 k l0 (!t105))))) = some r := h
 clear h
 have HC2 := aM H
 clear H
 go_enter Try.func15, Try.ntmps15
 go_upto_region 1 with (fail)
 go_cut [21] (fun v21 wc => ∃ (kq : Nat) (x21_1 : Bool), v21 = .bool x21_1 ∧ Aside0 (impl_IsMatching.j0 kq l0 x21_1 = some r) ∧ Aside0 (kq ≤ k) ∧ Drawn0 w wc)
 case first =>
  have H := HC2.out
  clear HC2
  by_cases c3 : ((l0.length : Int) % 2) = 1
  ·rw [if_pos c3] at H
   have c3b0 : (((l0.length : Int) % 2) == 1) = true := beq_iff_eq.mpr c3
   have c3b1 : (((l0.length : Int) % 2) != 1) = false := bne_eq_false_iff_eq.mpr c3
   clear c3
   (first | rw [c3b0] | (simp only [i64_w, i32_w]; rw [c3b0]) | skip)
   have H' := aM H
   clear H
   go_wp2
   go_meet
   case rel => exact ⟨_, (true), (by first | rfl | (simp; done) | (simp [*]; done)), H', ⟨by first | omega | exact Nat.le_refl _⟩, by repeat (first | exact Drawn0.refl _ | apply Drawn0.step)⟩
  ·rw [if_neg c3] at H
   have c3b0 : (((l0.length : Int) % 2) == 1) = false := beq_eq_false_iff_ne.mpr c3
   have c3b1 : (((l0.length : Int) % 2) != 1) = true := bne_iff_ne.mpr c3
   (first | rw [c3b0] | (simp only [i64_w, i32_w]; rw [c3b0]) | skip)
   by_cases c4 : (l0.length : Int) > 24
   ·rw [if_pos c4] at H
    have c4b0 : decide (24 < (l0.length : Int)) = true := decide_eq_true c4
    have c4b1 : decide (24 < l0.length) = true := decide_eq_true (by omega)
    clear c4
    have H' := aM H
    clear H
    go_wp2
    go_meet
    case rel => exact ⟨_, (true), (by first | rfl | (simp; done) | (simp [*]; done)), H', ⟨by first | omega | exact Nat.le_refl _⟩, by repeat (first | exact Drawn0.refl _ | apply Drawn0.step)⟩
   ·rw [if_neg c4] at H
    have c4b0 : decide (24 < (l0.length : Int)) = false := decide_eq_false c4
    have c4b1 : decide (24 < l0.length) = false := decide_eq_false (by omega)
    clear c4
    replace H := Option.bind_eq_some_iff.mp H
    obtain ⟨t105, A50, H⟩ := H
    replace H : (impl_IsMatching.j0 k l0 (!t105)) = some r := H
    have A5 := aM A50
    clear A50
    have H' := aM H
    clear H
    go_wp2_with (first | (go_at_call 74; (with_reducible refine (impl_allWithin.calls k _ _ l0 0 (wrap64 ((l0.length : Int) - 1)) t105 _ (cQ HR0.out) HC0.out A5.out).mono ?_); rintro e w' ⟨rfl, ⟨nd, rfl⟩⟩))
    go_meet
    case rel => exact ⟨_, (!t105), (by first | rfl | (simp; done) | (simp [*]; done)), H', ⟨by first | omega | exact Nat.le_refl _⟩, by repeat (first | exact Drawn0.refl _ | apply Drawn0.step)⟩
 case rest =>
  clear HC2
  try clear c1
  try clear p2
  try clear c3
  try clear c3b0
  try clear c3b1
  try clear c4
  try clear c4b0
  try clear c4b1
  obtain ⟨kq, x21_1, rfl, HA, HJ1, ⟨mc1, rfl⟩⟩ := hcut
  cases kq with
  | zero => exact absurd HA.out (by simp [impl_IsMatching.j0])
  | succ kj1 =>
   have H := HA.out
   clear HA
   simp only [impl_IsMatching.j0] at H
   by_cases c6 : x21_1 = true
   ·subst c6
    have H1 : (some false) = some r := by rw [if_pos rfl] at H; exact H
    clear H
    have H := H1
    clear H1
    obtain rfl := Option.some.inj H
    go_wp2
    go_ret
    exact ⟨by first | rfl | (simp; done) | (simp [*]; done), by repeat (first | exact Drawn0.refl _ | apply Drawn0.step)⟩
   ·replace c6 := Bool.eq_false_iff.mpr c6
    subst c6
    have H1 : (impl_IsMatching.l0 kj1 l0 l0 (l0.length : Int) 0) = some r := by rw [if_neg (show ¬ (false = true) by decide)] at H; exact H
    clear H
    have H := H1
    clear H1
    have H' := aM H
    clear H
    go_wp2
    go_loopg [24] kj1 (fun kq v24 w' => ∃ (x24_2 : Int), v24 = .int .i64 x24_2 ∧ Aside0 (impl_IsMatching.l0 kq l0 l0 (l0.length : Int) x24_2 = some r) ∧ Aside0 (kq ≤ kj1) ∧ Drawn0 w w')
    case atStart => exact ⟨(0), (by first | rfl | (simp; done) | (simp [*]; done)), H', ⟨Nat.le_refl _⟩, by repeat (first | exact Drawn0.refl _ | apply Drawn0.step)⟩
    case round =>
     clear H'
     try clear c1
     try clear p2
     try clear c3
     try clear c3b0
     try clear c3b1
     try clear c4
     try clear c4b0
     try clear c4b1
     try clear c6
     try clear p6
     try clear p2
     obtain ⟨x24_2, rfl, HA, HK2, ⟨m2, rfl⟩⟩ := hrel
     cases gk with
     | zero => exact absurd HA.out (by simp [impl_IsMatching.l0])
     | succ k2 =>
      have H := HA.out
      clear HA
      simp only [impl_IsMatching.l0] at H
      by_cases c7 : x24_2 < (l0.length : Int)
      ·rw [if_pos c7] at H
       have c7b0 : decide (x24_2 < (l0.length : Int)) = true := decide_eq_true c7
       clear c7
       by_cases c8 : 0 ≤ x24_2
       ·rw [if_pos c8] at H
        have c8b0 : decide (0 ≤ x24_2) = true := decide_eq_true c8
        clear c8
        by_cases c9 : x24_2 < (l0.length : Int)
        ·rw [if_pos c9] at H
         have c9b0 : decide (x24_2 < (l0.length : Int)) = true := decide_eq_true c9
         clear c9
         by_cases c10 : (rd l0 x24_2) = x24_2
         ·rw [if_pos c10] at H
          have c10b0 : ((rd l0 x24_2) == x24_2) = true := beq_iff_eq.mpr c10
          have c10b1 : ((rd l0 x24_2) != x24_2) = false := bne_eq_false_iff_eq.mpr c10
          clear c10
          obtain rfl := Option.some.inj H
          have p106 : 0 ≤ (x24_2 : Int) := odt
          have q106 : x24_2 < (l0.length : Int) := odt
          obtain ⟨ad106, e106, hx106_0⟩ := Kd.at_int HR0.out x24_2 p106 q106
          cases e106
          replace p106 := eq_true p106
          replace q106 := eq_true q106
          go_wp2
          go_ret
          exact ⟨by first | rfl | (simp; done) | (simp [*]; done), by repeat (first | exact Drawn0.refl _ | apply Drawn0.step)⟩
         ·rw [if_neg c10] at H
          have c10b0 : ((rd l0 x24_2) == x24_2) = false := beq_eq_false_iff_ne.mpr c10
          have c10b1 : ((rd l0 x24_2) != x24_2) = true := bne_iff_ne.mpr c10
          by_cases c11 : 0 ≤ (rd l0 x24_2)
          ·rw [if_pos c11] at H
           have c11b0 : decide (0 ≤ (rd l0 x24_2)) = true := decide_eq_true c11
           clear c11
           by_cases c12 : (rd l0 x24_2) < (l0.length : Int)
           ·rw [if_pos c12] at H
            have c12b0 : decide ((rd l0 x24_2) < (l0.length : Int)) = true := decide_eq_true c12
            clear c12
            by_cases c13 : (rd l0 (rd l0 x24_2)) = x24_2
            ·rw [if_pos c13] at H
             have c13b0 : ((rd l0 (rd l0 x24_2)) == x24_2) = true := beq_iff_eq.mpr c13
             have c13b1 : ((rd l0 (rd l0 x24_2)) != x24_2) = false := bne_eq_false_iff_eq.mpr c13
             clear c13
             have H' := aM H
             clear H
             have p106 : 0 ≤ (x24_2 : Int) := odt
             have q106 : x24_2 < (l0.length : Int) := odt
             obtain ⟨ad106, e106, hx106_0⟩ := Kd.at_int HR0.out x24_2 p106 q106
             cases e106
             replace p106 := eq_true p106
             replace q106 := eq_true q106
             have p107 : 0 ≤ ((rd l0 x24_2) : Int) := odt
             have q107 : (rd l0 x24_2) < (l0.length : Int) := odt
             obtain ⟨ad107, e107, hx107_0⟩ := Kd.at_int HR0.out (rd l0 x24_2) p107 q107
             obtain rfl : ad106 = ad107 := (by injection e107)
             replace p107 := eq_true p107
             replace q107 := eq_true q107
             go_wp2
             go_roundg k2
             case measure => have := HJ1.out; have := HK2.out; omega
             case rel => exact ⟨(wrap64 (x24_2 + 1)), (by first | rfl | (simp; done) | (simp [*]; done)), H', ⟨by have := HJ1.out; have := HK2.out; omega⟩, by repeat (first | exact Drawn0.refl _ | apply Drawn0.step)⟩
            ·rw [if_neg c13] at H
             have c13b0 : ((rd l0 (rd l0 x24_2)) == x24_2) = false := beq_eq_false_iff_ne.mpr c13
             have c13b1 : ((rd l0 (rd l0 x24_2)) != x24_2) = true := bne_iff_ne.mpr c13
             obtain rfl := Option.some.inj H
             have p106 : 0 ≤ (x24_2 : Int) := odt
             have q106 : x24_2 < (l0.length : Int) := odt
             obtain ⟨ad106, e106, hx106_0⟩ := Kd.at_int HR0.out x24_2 p106 q106
             cases e106
             replace p106 := eq_true p106
             replace q106 := eq_true q106
             have p107 : 0 ≤ ((rd l0 x24_2) : Int) := odt
             have q107 : (rd l0 x24_2) < (l0.length : Int) := odt
             obtain ⟨ad107, e107, hx107_0⟩ := Kd.at_int HR0.out (rd l0 x24_2) p107 q107
             obtain rfl : ad106 = ad107 := (by injection e107)
             replace p107 := eq_true p107
             replace q107 := eq_true q107
             go_wp2
             go_ret
             exact ⟨by first | rfl | (simp; done) | (simp [*]; done), by repeat (first | exact Drawn0.refl _ | apply Drawn0.step)⟩
           ·rw [if_neg c12] at H
            exact absurd H (by simp)
          ·rw [if_neg c11] at H
           exact absurd H (by simp)
        ·rw [if_neg c9] at H
         exact absurd H (by simp)
       ·rw [if_neg c8] at H
        exact absurd H (by simp)
      ·rw [if_neg c7] at H
       have c7b0 : decide (x24_2 < (l0.length : Int)) = false := decide_eq_false c7
       clear c7
       obtain rfl := Option.some.inj H
       go_wp2
       go_ret
       exact ⟨by first | rfl | (simp; done) | (simp [*]; done), by repeat (first | exact Drawn0.refl _ | apply Drawn0.step)⟩

def impl_isOpener.f (l0 : List Int) (a1 : Int) : Option (Bool) := if 0 ≤ a1 then (if a1 < (l0.length : Int) then (some (decide ((rd l0 a1) > a1))) else (none)) else (none)
set_option maxHeartbeats 8000000 in
set_option maxRecDepth 100000 in
theorem impl_isOpener.calls (A0 : Option Addr) (c0 : Nat) (l0 : List Int) (a1 : Int) (r : Bool) (w : World) (hr0 : Kd.C (Kd.int .i64) w A0 l0.length l0) (hc0 : l0.length ≤ c0) (h : impl_isOpener.f l0 a1 = some r) :
  Calls Try.prog 100 #[.slice A0 l0.length c0, .int .i64 a1] w fun e w' => e = .returned (.bool r) ∧ Drawn0 w w' := by
 have HR0 := aM hr0
 have HC0 := aM hc0
 clear hr0 hc0
 have H : (if 0 ≤ a1 then (if a1 < (l0.length : Int) then (some (decide ((rd l0 a1) > a1))) else (none)) else (none)) = some r := h
 clear h
 by_cases c3 : 0 ≤ a1
 ·rw [if_pos c3] at H
  have c3b0 : decide (0 ≤ a1) = true := decide_eq_true c3
  clear c3
  by_cases c4 : a1 < (l0.length : Int)
  ·rw [if_pos c4] at H
   have c4b0 : decide (a1 < (l0.length : Int)) = true := decide_eq_true c4
   clear c4
   obtain rfl := Option.some.inj H
   have p108 : 0 ≤ (a1 : Int) := odt
   have q108 : a1 < (l0.length : Int) := odt
   obtain ⟨ad108, e108, hx108_0⟩ := Kd.at_int HR0.out a1 p108 q108
   cases e108
   replace p108 := eq_true p108
   replace q108 := eq_true q108
   go_enter Try.func100, Try.ntmps100
   go_wp2
   go_ret
   exact ⟨by first | rfl | (simp; done) | (simp [*]; done), by repeat (first | exact Drawn0.refl _ | apply Drawn0.step)⟩
  ·rw [if_neg c4] at H
   exact absurd H (by simp)
 ·rw [if_neg c3] at H
  exact absurd H (by simp)

end Go.Proofs.Ytacdlipojhoilaa.Zx
