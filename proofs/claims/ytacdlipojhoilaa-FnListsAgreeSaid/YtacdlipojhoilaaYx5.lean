-- Written by hook.py, a program of this session (wip/), which runs the kit's print.py with its own parts; Lean checks it.
import Derived.Test.YtacdlipojhoilaaYx0
import Derived.Test.YtacdlipojhoilaaYx1
import Derived.Test.YtacdlipojhoilaaYx4
import Derived.Test.YtacdlipojhoilaaYxXSq
namespace Go.Proofs.Ytacdlipojhoilaa.Yx
open Go.RowKit Go.Proofs.YtacdlipojhoilaaW.PrintWords Go.Proofs.YtacdlipojhoilaaW.PrintLast Go.Proofs.YtacdlipojhoilaaW.PrintMore Go.Proofs.Ytacdlipojhoilaa.Sq
attribute [local go_sem] max2_int min2_int max_two min_two max_three min_three max_four min_four   -- for this text's walks alone
set_option linter.unusedVariables false
set_option linter.unusedSimpArgs false

def impl_IsAscent.l0 : Nat → List Int → List Int → Int → Int → Option (Bool)
 | 0, _, _, _, _ => none
 | k + 1, x0, x8, x9, x10 => if x10 < x9 then (if 0 ≤ x10 then (if x10 < (x8.length : Int) then (if x10 = 0 then (if (rd x8 x10) = 0 then (if x10 > 0 then (if x10 ≤ (x0.length : Int) then ((impl_ascents.f k (x0.take (x10 : Int).toNat)).bind fun t172 => ((impl_within.f (rd x8 x10) 0 (wrap64 (t172 + 1))).bind fun t173 => (if t173 = true then (impl_IsAscent.l0 k x0 x8 x9 (wrap64 (x10 + 1))) else (some false)))) else (none)) else (impl_IsAscent.l0 k x0 x8 x9 (wrap64 (x10 + 1)))) else (some false)) else (if x10 > 0 then (if x10 ≤ (x0.length : Int) then ((impl_ascents.f k (x0.take (x10 : Int).toNat)).bind fun t175 => ((impl_within.f (rd x8 x10) 0 (wrap64 (t175 + 1))).bind fun t176 => (if t176 = true then (impl_IsAscent.l0 k x0 x8 x9 (wrap64 (x10 + 1))) else (some false)))) else (none)) else (impl_IsAscent.l0 k x0 x8 x9 (wrap64 (x10 + 1))))) else (none)) else (none)) else (some true)
def impl_IsAscent.f (k : Nat) (l0 : List Int) : Option (Bool) := if (l0.length : Int) > 12 then (some false) else (impl_IsAscent.l0 k l0 l0 (l0.length : Int) 0)
theorem impl_IsAscent.mono_l : ∀ k, (∀ y0 y1 y2 y3, LeO (impl_IsAscent.l0 k y0 y1 y2 y3) (impl_IsAscent.l0 (k + 1) y0 y1 y2 y3))
 | 0 => fun _ _ _ _ r h => by simp [impl_IsAscent.l0] at h
 | k + 1 => by
  have ih0 := impl_IsAscent.mono_l k
  ·intro y0 y1 y2 y3
   unfold impl_IsAscent.l0
   repeat' first | with_reducible first | exact ih0 _ _ _ _ | exact impl_ascents.mono _ _ | exact LeO.refl _ | exact LeO.none _ | refine LeO.ite ?_ ?_ | refine LeO.bind ?_ (fun _ => ?_)
theorem impl_IsAscent.mono : ∀ a0 k, LeO (impl_IsAscent.f k a0) (impl_IsAscent.f (k + 1) a0) := by
 intro a0 k
 have ih0 := impl_IsAscent.mono_l k
 unfold impl_IsAscent.f
 repeat' first | with_reducible first | exact ih0 _ _ _ _ | exact impl_ascents.mono _ _ | exact LeO.refl _ | exact LeO.none _ | refine LeO.ite ?_ ?_ | refine LeO.bind ?_ (fun _ => ?_)
set_option maxHeartbeats 8000000 in
set_option maxRecDepth 100000 in
theorem impl_IsAscent.calls (k : Nat) (A0 : Option Addr) (c0 : Nat) (l0 : List Int) (r : Bool) (w : World) (hr0 : Kd.C (Kd.int .i64) w A0 l0.length l0) (hc0 : l0.length ≤ c0) (h : impl_IsAscent.f k l0 = some r) :
  Calls Try.prog 85 #[.slice A0 l0.length c0] w fun e w' => e = .returned (.bool r) ∧ Drawn0 w w' := by
 have HR0 := aM hr0
 have HC0 := aM hc0
 clear hr0 hc0
 have H : (if (l0.length : Int) > 12 then (some false) else (impl_IsAscent.l0 k l0 l0 (l0.length : Int) 0)) = some r := h
 clear h
 by_cases c2 : (l0.length : Int) > 12
 ·rw [if_pos c2] at H
  have c2b0 : decide (12 < (l0.length : Int)) = true := decide_eq_true c2
  have c2b1 : decide (12 < l0.length) = true := decide_eq_true (by omega)
  clear c2
  obtain rfl := Option.some.inj H
  go_enter Try.func85, Try.ntmps85
  go_wp2
  go_ret
  exact ⟨by first | rfl | (simp; done) | (simp [*]; done), by repeat (first | exact Drawn0.refl _ | apply Drawn0.step)⟩
 ·rw [if_neg c2] at H
  have c2b0 : decide (12 < (l0.length : Int)) = false := decide_eq_false c2
  have c2b1 : decide (12 < l0.length) = false := decide_eq_false (by omega)
  clear c2
  have H' := aM H
  clear H
  go_enter Try.func85, Try.ntmps85
  go_wp2
  go_loopg [10] k (fun kq v10 w' => ∃ (x10_1 : Int), v10 = .int .i64 x10_1 ∧ Aside0 (impl_IsAscent.l0 kq l0 l0 (l0.length : Int) x10_1 = some r) ∧ Aside0 (kq ≤ k) ∧ Drawn0 w w')
  case atStart => exact ⟨(0), (by first | rfl | (simp; done) | (simp [*]; done)), H', ⟨Nat.le_refl _⟩, by repeat (first | exact Drawn0.refl _ | apply Drawn0.step)⟩
  case round =>
   clear H'
   try clear c2
   try clear c2b0
   try clear c2b1
   try clear p2
   obtain ⟨x10_1, rfl, HA, HK1, ⟨m1, rfl⟩⟩ := hrel
   cases gk with
   | zero => exact absurd HA.out (by simp [impl_IsAscent.l0])
   | succ k1 =>
    have H := HA.out
    clear HA
    simp only [impl_IsAscent.l0] at H
    by_cases c3 : x10_1 < (l0.length : Int)
    ·rw [if_pos c3] at H
     have c3b0 : decide (x10_1 < (l0.length : Int)) = true := decide_eq_true c3
     clear c3
     by_cases c4 : 0 ≤ x10_1
     ·rw [if_pos c4] at H
      have c4b0 : decide (0 ≤ x10_1) = true := decide_eq_true c4
      clear c4
      by_cases c5 : x10_1 < (l0.length : Int)
      ·rw [if_pos c5] at H
       have c5b0 : decide (x10_1 < (l0.length : Int)) = true := decide_eq_true c5
       clear c5
       by_cases c6 : x10_1 = 0
       ·rw [if_pos c6] at H
        have c6b0 : (x10_1 == 0) = true := beq_iff_eq.mpr c6
        have c6b1 : (x10_1 != 0) = false := bne_eq_false_iff_eq.mpr c6
        clear c6
        by_cases c7 : (rd l0 x10_1) = 0
        ·rw [if_pos c7] at H
         have c7b0 : ((rd l0 x10_1) == 0) = true := beq_iff_eq.mpr c7
         have c7b1 : ((rd l0 x10_1) != 0) = false := bne_eq_false_iff_eq.mpr c7
         clear c7
         by_cases c8 : x10_1 > 0
         ·rw [if_pos c8] at H
          have c8b0 : decide (0 < x10_1) = true := decide_eq_true c8
          clear c8
          have c9b0 := eq_true (odt : 0 ≤ x10_1)
          by_cases c10 : x10_1 ≤ (l0.length : Int)
          ·rw [if_pos c10] at H
           have c10b0 := eq_true c10
           have c10b1 : decide (x10_1 ≤ (l0.length : Int)) = true := decide_eq_true c10
           clear c10
           replace H := Option.bind_eq_some_iff.mp H
           obtain ⟨t172, A110, H⟩ := H
           replace H : ((impl_within.f (rd l0 x10_1) 0 (wrap64 (t172 + 1))).bind fun t173 => (if t173 = true then (impl_IsAscent.l0 k1 l0 l0 (l0.length : Int) (wrap64 (x10_1 + 1))) else (some false))) = some r := H
           have A11 := aM A110
           clear A110
           replace H := Option.bind_eq_some_iff.mp H
           obtain ⟨t173, A120, H⟩ := H
           replace H : (if t173 = true then (impl_IsAscent.l0 k1 l0 l0 (l0.length : Int) (wrap64 (x10_1 + 1))) else (some false)) = some r := H
           have A12 := aM A120
           clear A120
           by_cases c13 : t173 = true
           ·subst c13
            have H1 : (impl_IsAscent.l0 k1 l0 l0 (l0.length : Int) (wrap64 (x10_1 + 1))) = some r := by rw [if_pos rfl] at H; exact H
            clear H
            have H := H1
            clear H1
            have H' := aM H
            clear H
            have p170 : 0 ≤ (x10_1 : Int) := odt
            have q170 : x10_1 < (l0.length : Int) := odt
            obtain ⟨ad170, e170, hx170_0⟩ := Kd.at_int HR0.out x10_1 p170 q170
            cases e170
            replace p170 := eq_true p170
            replace q170 := eq_true q170
            obtain ⟨i014, hi014, _, hsz14, _⟩ := info_parts info3
            obtain ⟨hcut14, hA14, hC14⟩ := print_take_of (P := Try.prog) (Value.int .i64) 0 24 3 .i64 Try.underlying24 hi014 hsz14 (some ad170) c0 l0 x10_1 (odt) (odt) HC0.out
            have HR171 := aM (Kd.C_of_reads (h1 := fun _ => rfl) (hA14 _ (Kd.reads_of_C HR0.out)))
            have HC171 := aM hC14
            clear hA14 hC14 hi014 hsz14
            go_wp2_with (first | (go_at_call 87; (refine calls_of_args (args' := #[.slice (some ad170) ((l0).take (x10_1 : Int).toNat).length c0]) ?argeq ?_); (case argeq => rw [List.length_take, Nat.min_eq_left (by have h_ : x10_1 ≤ ((l0).length : Int) := odt; omega)]); (with_reducible refine (impl_ascents.calls k1 _ _ (l0.take (x10_1 : Int).toNat) t172 _ ?side1 ?side2 A11.out).mono ?_); (case side1 => repeat (first | exact HR171.out | (with_reducible refine Kd.C_alloc ?_ _) | (with_reducible refine Kd.C_drewN ?_ _) | (with_reducible refine Kd.C_drew ?_))); (case side2 => exact HC171.out); rintro e w' ⟨rfl, ⟨nd, rfl⟩⟩) | (go_at_call 103; (with_reducible refine (impl_within.calls (rd l0 x10_1) 0 (wrap64 (t172 + 1)) true _ A12.out).mono ?_); rintro e w' ⟨rfl, ⟨nd, rfl⟩⟩))
            go_roundg k1
            case measure => have := HK1.out; omega
            case rel => exact ⟨(wrap64 (x10_1 + 1)), (by first | rfl | (simp; done) | (simp [*]; done)), H', ⟨by have := HK1.out; omega⟩, by repeat (first | exact Drawn0.refl _ | apply Drawn0.step)⟩
           ·replace c13 := Bool.eq_false_iff.mpr c13
            subst c13
            have H1 : (some false) = some r := by rw [if_neg (show ¬ (false = true) by decide)] at H; exact H
            clear H
            have H := H1
            clear H1
            obtain rfl := Option.some.inj H
            have p170 : 0 ≤ (x10_1 : Int) := odt
            have q170 : x10_1 < (l0.length : Int) := odt
            obtain ⟨ad170, e170, hx170_0⟩ := Kd.at_int HR0.out x10_1 p170 q170
            cases e170
            replace p170 := eq_true p170
            replace q170 := eq_true q170
            obtain ⟨i015, hi015, _, hsz15, _⟩ := info_parts info3
            obtain ⟨hcut15, hA15, hC15⟩ := print_take_of (P := Try.prog) (Value.int .i64) 0 24 3 .i64 Try.underlying24 hi015 hsz15 (some ad170) c0 l0 x10_1 (odt) (odt) HC0.out
            have HR171 := aM (Kd.C_of_reads (h1 := fun _ => rfl) (hA15 _ (Kd.reads_of_C HR0.out)))
            have HC171 := aM hC15
            clear hA15 hC15 hi015 hsz15
            go_wp2_with (first | (go_at_call 87; (refine calls_of_args (args' := #[.slice (some ad170) ((l0).take (x10_1 : Int).toNat).length c0]) ?argeq ?_); (case argeq => rw [List.length_take, Nat.min_eq_left (by have h_ : x10_1 ≤ ((l0).length : Int) := odt; omega)]); (with_reducible refine (impl_ascents.calls k1 _ _ (l0.take (x10_1 : Int).toNat) t172 _ ?side1 ?side2 A11.out).mono ?_); (case side1 => repeat (first | exact HR171.out | (with_reducible refine Kd.C_alloc ?_ _) | (with_reducible refine Kd.C_drewN ?_ _) | (with_reducible refine Kd.C_drew ?_))); (case side2 => exact HC171.out); rintro e w' ⟨rfl, ⟨nd, rfl⟩⟩) | (go_at_call 103; (with_reducible refine (impl_within.calls (rd l0 x10_1) 0 (wrap64 (t172 + 1)) false _ A12.out).mono ?_); rintro e w' ⟨rfl, ⟨nd, rfl⟩⟩))
            go_ret
            exact ⟨by first | rfl | (simp; done) | (simp [*]; done), by repeat (first | exact Drawn0.refl _ | apply Drawn0.step)⟩
          ·rw [if_neg c10] at H
           exact absurd H (by simp)
         ·rw [if_neg c8] at H
          have c8b0 : decide (0 < x10_1) = false := decide_eq_false c8
          clear c8
          have H' := aM H
          clear H
          have p170 : 0 ≤ (x10_1 : Int) := odt
          have q170 : x10_1 < (l0.length : Int) := odt
          obtain ⟨ad170, e170, hx170_0⟩ := Kd.at_int HR0.out x10_1 p170 q170
          cases e170
          replace p170 := eq_true p170
          replace q170 := eq_true q170
          go_wp2
          go_roundg k1
          case measure => have := HK1.out; omega
          case rel => exact ⟨(wrap64 (x10_1 + 1)), (by first | rfl | (simp; done) | (simp [*]; done)), H', ⟨by have := HK1.out; omega⟩, by repeat (first | exact Drawn0.refl _ | apply Drawn0.step)⟩
        ·rw [if_neg c7] at H
         have c7b0 : ((rd l0 x10_1) == 0) = false := beq_eq_false_iff_ne.mpr c7
         have c7b1 : ((rd l0 x10_1) != 0) = true := bne_iff_ne.mpr c7
         obtain rfl := Option.some.inj H
         have p170 : 0 ≤ (x10_1 : Int) := odt
         have q170 : x10_1 < (l0.length : Int) := odt
         obtain ⟨ad170, e170, hx170_0⟩ := Kd.at_int HR0.out x10_1 p170 q170
         cases e170
         replace p170 := eq_true p170
         replace q170 := eq_true q170
         go_wp2
         go_ret
         exact ⟨by first | rfl | (simp; done) | (simp [*]; done), by repeat (first | exact Drawn0.refl _ | apply Drawn0.step)⟩
       ·rw [if_neg c6] at H
        have c6b0 : (x10_1 == 0) = false := beq_eq_false_iff_ne.mpr c6
        have c6b1 : (x10_1 != 0) = true := bne_iff_ne.mpr c6
        by_cases c16 : x10_1 > 0
        ·rw [if_pos c16] at H
         have c16b0 : decide (0 < x10_1) = true := decide_eq_true c16
         clear c16
         have c17b0 := eq_true (odt : 0 ≤ x10_1)
         by_cases c18 : x10_1 ≤ (l0.length : Int)
         ·rw [if_pos c18] at H
          have c18b0 := eq_true c18
          have c18b1 : decide (x10_1 ≤ (l0.length : Int)) = true := decide_eq_true c18
          clear c18
          replace H := Option.bind_eq_some_iff.mp H
          obtain ⟨t175, A190, H⟩ := H
          replace H : ((impl_within.f (rd l0 x10_1) 0 (wrap64 (t175 + 1))).bind fun t176 => (if t176 = true then (impl_IsAscent.l0 k1 l0 l0 (l0.length : Int) (wrap64 (x10_1 + 1))) else (some false))) = some r := H
          have A19 := aM A190
          clear A190
          replace H := Option.bind_eq_some_iff.mp H
          obtain ⟨t176, A200, H⟩ := H
          replace H : (if t176 = true then (impl_IsAscent.l0 k1 l0 l0 (l0.length : Int) (wrap64 (x10_1 + 1))) else (some false)) = some r := H
          have A20 := aM A200
          clear A200
          by_cases c21 : t176 = true
          ·subst c21
           have H1 : (impl_IsAscent.l0 k1 l0 l0 (l0.length : Int) (wrap64 (x10_1 + 1))) = some r := by rw [if_pos rfl] at H; exact H
           clear H
           have H := H1
           clear H1
           have H' := aM H
           clear H
           have p170 : 0 ≤ (x10_1 : Int) := odt
           have q170 : x10_1 < (l0.length : Int) := odt
           obtain ⟨ad170, e170, hx170_0⟩ := Kd.at_int HR0.out x10_1 p170 q170
           cases e170
           replace p170 := eq_true p170
           replace q170 := eq_true q170
           obtain ⟨i022, hi022, _, hsz22, _⟩ := info_parts info3
           obtain ⟨hcut22, hA22, hC22⟩ := print_take_of (P := Try.prog) (Value.int .i64) 0 24 3 .i64 Try.underlying24 hi022 hsz22 (some ad170) c0 l0 x10_1 (odt) (odt) HC0.out
           have HR174 := aM (Kd.C_of_reads (h1 := fun _ => rfl) (hA22 _ (Kd.reads_of_C HR0.out)))
           have HC174 := aM hC22
           clear hA22 hC22 hi022 hsz22
           go_wp2_with (first | (go_at_call 87; (refine calls_of_args (args' := #[.slice (some ad170) ((l0).take (x10_1 : Int).toNat).length c0]) ?argeq ?_); (case argeq => rw [List.length_take, Nat.min_eq_left (by have h_ : x10_1 ≤ ((l0).length : Int) := odt; omega)]); (with_reducible refine (impl_ascents.calls k1 _ _ (l0.take (x10_1 : Int).toNat) t175 _ ?side1 ?side2 A19.out).mono ?_); (case side1 => repeat (first | exact HR174.out | (with_reducible refine Kd.C_alloc ?_ _) | (with_reducible refine Kd.C_drewN ?_ _) | (with_reducible refine Kd.C_drew ?_))); (case side2 => exact HC174.out); rintro e w' ⟨rfl, ⟨nd, rfl⟩⟩) | (go_at_call 103; (with_reducible refine (impl_within.calls (rd l0 x10_1) 0 (wrap64 (t175 + 1)) true _ A20.out).mono ?_); rintro e w' ⟨rfl, ⟨nd, rfl⟩⟩))
           go_roundg k1
           case measure => have := HK1.out; omega
           case rel => exact ⟨(wrap64 (x10_1 + 1)), (by first | rfl | (simp; done) | (simp [*]; done)), H', ⟨by have := HK1.out; omega⟩, by repeat (first | exact Drawn0.refl _ | apply Drawn0.step)⟩
          ·replace c21 := Bool.eq_false_iff.mpr c21
           subst c21
           have H1 : (some false) = some r := by rw [if_neg (show ¬ (false = true) by decide)] at H; exact H
           clear H
           have H := H1
           clear H1
           obtain rfl := Option.some.inj H
           have p170 : 0 ≤ (x10_1 : Int) := odt
           have q170 : x10_1 < (l0.length : Int) := odt
           obtain ⟨ad170, e170, hx170_0⟩ := Kd.at_int HR0.out x10_1 p170 q170
           cases e170
           replace p170 := eq_true p170
           replace q170 := eq_true q170
           obtain ⟨i023, hi023, _, hsz23, _⟩ := info_parts info3
           obtain ⟨hcut23, hA23, hC23⟩ := print_take_of (P := Try.prog) (Value.int .i64) 0 24 3 .i64 Try.underlying24 hi023 hsz23 (some ad170) c0 l0 x10_1 (odt) (odt) HC0.out
           have HR174 := aM (Kd.C_of_reads (h1 := fun _ => rfl) (hA23 _ (Kd.reads_of_C HR0.out)))
           have HC174 := aM hC23
           clear hA23 hC23 hi023 hsz23
           go_wp2_with (first | (go_at_call 87; (refine calls_of_args (args' := #[.slice (some ad170) ((l0).take (x10_1 : Int).toNat).length c0]) ?argeq ?_); (case argeq => rw [List.length_take, Nat.min_eq_left (by have h_ : x10_1 ≤ ((l0).length : Int) := odt; omega)]); (with_reducible refine (impl_ascents.calls k1 _ _ (l0.take (x10_1 : Int).toNat) t175 _ ?side1 ?side2 A19.out).mono ?_); (case side1 => repeat (first | exact HR174.out | (with_reducible refine Kd.C_alloc ?_ _) | (with_reducible refine Kd.C_drewN ?_ _) | (with_reducible refine Kd.C_drew ?_))); (case side2 => exact HC174.out); rintro e w' ⟨rfl, ⟨nd, rfl⟩⟩) | (go_at_call 103; (with_reducible refine (impl_within.calls (rd l0 x10_1) 0 (wrap64 (t175 + 1)) false _ A20.out).mono ?_); rintro e w' ⟨rfl, ⟨nd, rfl⟩⟩))
           go_ret
           exact ⟨by first | rfl | (simp; done) | (simp [*]; done), by repeat (first | exact Drawn0.refl _ | apply Drawn0.step)⟩
         ·rw [if_neg c18] at H
          exact absurd H (by simp)
        ·rw [if_neg c16] at H
         have c16b0 : decide (0 < x10_1) = false := decide_eq_false c16
         clear c16
         have H' := aM H
         clear H
         have p170 : 0 ≤ (x10_1 : Int) := odt
         have q170 : x10_1 < (l0.length : Int) := odt
         obtain ⟨ad170, e170, hx170_0⟩ := Kd.at_int HR0.out x10_1 p170 q170
         cases e170
         replace p170 := eq_true p170
         replace q170 := eq_true q170
         go_wp2
         go_roundg k1
         case measure => have := HK1.out; omega
         case rel => exact ⟨(wrap64 (x10_1 + 1)), (by first | rfl | (simp; done) | (simp [*]; done)), H', ⟨by have := HK1.out; omega⟩, by repeat (first | exact Drawn0.refl _ | apply Drawn0.step)⟩
      ·rw [if_neg c5] at H
       exact absurd H (by simp)
     ·rw [if_neg c4] at H
      exact absurd H (by simp)
    ·rw [if_neg c3] at H
     have c3b0 : decide (x10_1 < (l0.length : Int)) = false := decide_eq_false c3
     clear c3
     obtain rfl := Option.some.inj H
     go_wp2
     go_ret
     exact ⟨by first | rfl | (simp; done) | (simp [*]; done), by repeat (first | exact Drawn0.refl _ | apply Drawn0.step)⟩

def impl_Matrix_size.f (l0_0 : List (List Int)) : Option (Int) := some (l0_0.length : Int)
set_option maxHeartbeats 8000000 in
set_option maxRecDepth 100000 in
theorem impl_Matrix_size.calls (A0_0 : Option Addr) (c0_0 : Nat) (l0_0 : List (List Int)) (r : Int) (w : World) (hr0_0 : Kd.C (Kd.slice 3 (Kd.int .i64)) w A0_0 l0_0.length l0_0) (hc0_0 : l0_0.length ≤ c0_0) (h : impl_Matrix_size.f l0_0 = some r) :
  Calls Try.prog 89 #[.agg #[.slice A0_0 l0_0.length c0_0]] w fun e w' => e = .returned (.int .i64 r) ∧ Below w.heap.size w w' := by
 have hu36 := Try.underlying36
 have HR0_0 := aM hr0_0
 have HC0_0 := aM hc0_0
 clear hr0_0 hc0_0
 have HB := aM (Below.refl w.heap.size w)
 have H : (some (l0_0.length : Int)) = some r := h
 clear h
 obtain rfl := Option.some.inj H
 go_enter Try.func89, Try.ntmps89
 go_wp2_with (first | ((with_reducible refine gate_dst (N := 1) rfl ?_); refine bE 1 36 #[.slice A0_0 l0_0.length c0_0] ?_; intro gb177 hg w2 hbox hb; have _ := aM (below_step bq hb); have _ := aM (hbox); have _ := aM ((gS hg)); have _ := aM ((gS hg)); clear HB; rename_i HB BK177 GW177 GE177; clear hb hbox hg; have hcz3_0 : w2.cell? ⟨gb177, 0, none⟩ = some (.slice A0_0 l0_0.length c0_0) := (blk_cell BK177.out 0).trans rfl; have hfz3_0 := blk_frozen BK177.out 0))
 go_ret
 exact ⟨by first | rfl | (simp [errW_none, errW_some] <;> rfl) | (simp [*, errW_none, errW_some] <;> rfl), by exact bq⟩

def impl_Matrix_top_1.f (l0 : List Int) : Option (Bool) := if 0 ≤ (wrap64 ((l0.length : Int) - 1)) then (if (wrap64 ((l0.length : Int) - 1)) < (l0.length : Int) then (some ((rd l0 (wrap64 ((l0.length : Int) - 1))) != 0)) else (none)) else (none)
set_option maxHeartbeats 8000000 in
set_option maxRecDepth 100000 in
theorem impl_Matrix_top_1.calls (A0 : Option Addr) (c0 : Nat) (l0 : List Int) (r : Bool) (w : World) (hr0 : Kd.C (Kd.int .i64) w A0 l0.length l0) (hc0 : l0.length ≤ c0) (h : impl_Matrix_top_1.f l0 = some r) :
  Calls Try.prog 139 #[.slice A0 l0.length c0] w fun e w' => e = .returned (.bool r) ∧ Drawn0 w w' := by
 have HR0 := aM hr0
 have HC0 := aM hc0
 clear hr0 hc0
 have H : (if 0 ≤ (wrap64 ((l0.length : Int) - 1)) then (if (wrap64 ((l0.length : Int) - 1)) < (l0.length : Int) then (some ((rd l0 (wrap64 ((l0.length : Int) - 1))) != 0)) else (none)) else (none)) = some r := h
 clear h
 obtain ⟨ji2, hji2⟩ : ∃ j_ : Int, (wrap64 ((l0.length : Int) - 1)) = j_ := ⟨_, rfl⟩
 replace H : (if 0 ≤ (ji2) then (if (ji2) < (l0.length : Int) then (some ((rd l0 (ji2)) != 0)) else (none)) else (none)) = some r := by first | (rw [hji2] at H; exact H) | (simp only [hji2] at H ⊢; exact H)
 have hji2w : (IntKind.i64.wrap ((l0.length : Int) - 1)) = ji2 := (i64_w _).trans hji2
 by_cases c3 : 0 ≤ (ji2)
 ·rw [if_pos c3] at H
  have c3b0 : decide (0 ≤ (ji2)) = true := decide_eq_true c3
  clear c3
  by_cases c4 : (ji2) < (l0.length : Int)
  ·rw [if_pos c4] at H
   have c4b0 : decide ((ji2) < (l0.length : Int)) = true := decide_eq_true c4
   clear c4
   obtain rfl := Option.some.inj H
   have p178 : 0 ≤ ((ji2) : Int) := odt
   have q178 : (ji2) < (l0.length : Int) := odt
   obtain ⟨ad178, e178, hx178_0⟩ := Kd.at_int HR0.out (ji2) p178 q178
   cases e178
   replace p178 := eq_true p178
   replace q178 := eq_true q178
   go_enter Try.func139, Try.ntmps139
   go_wp2
   go_ret
   exact ⟨by first | rfl | (simp; done) | (simp only [← hji2] <;> (first | rfl | simp)) | (simp [*]; done), by repeat (first | exact Drawn0.refl _ | apply Drawn0.step)⟩
  ·rw [if_neg c4] at H
   exact absurd H (by simp)
 ·rw [if_neg c3] at H
  exact absurd H (by simp)

def slices_IndexFunc_int_int_138.seek : List (List Int) → Int → Option Int
  | [], _ => some (-1)
  | row :: rest, i => (impl_Matrix_top_1.f row).bind fun b => if b = true then some i else slices_IndexFunc_int_int_138.seek rest (i + 1)
def slices_IndexFunc_int_int_138.f (l0 : List (List Int)) : Option Int := slices_IndexFunc_int_int_138.seek l0 0
set_option maxHeartbeats 2000000 in
set_option maxRecDepth 100000 in
theorem slices_IndexFunc_int_int_138.calls (A0 : Option Addr) (c0 : Nat) (l0 : List (List Int)) (r : Int) (w : World) (hr0 : Kd.C (Kd.slice 3 (Kd.int .i64)) w A0 l0.length l0) (hc0 : l0.length ≤ c0) (h : slices_IndexFunc_int_int_138.f l0 = some r) :
    Calls Try.prog 138 #[.slice A0 l0.length c0, .func (.func 139) #[] #[]] w fun e w' => e = .returned (.int .i64 r) ∧ Below w.heap.size w w' := by
 have HL := aM hr0.2.1
 have HR0 := aM hr0
 have HH := aM h
 clear hr0 hc0 h
 have hle := HL.out
 go_enter Try.func138, Try.ntmps138
 go_wp2
 go_loopg [5, 8] l0.length (fun gg _ s8 w' => ∃ i : Nat, i ≤ l0.length ∧ l0.length - i ≤ gg ∧ s8 = .int .i64 i ∧ Aside0 (slices_IndexFunc_int_int_138.seek (l0.drop i) (i : Int) = some r) ∧ Drawn0 w w')
 case atStart => exact ⟨0, Nat.zero_le _, by omega, rfl, ⟨by rw [List.drop_zero]; exact HH.out⟩, Drawn0.refl _⟩
 case round => (
 clear HH
 obtain ⟨i, hi, hg, rfl, HZ, ⟨m1, rfl⟩⟩ := hrel
 by_cases hlt : i < l0.length
 · {
 obtain ⟨ad, A1, c1, ea, hx, hl1, hi1⟩ := at_L2 HR0.out (i : Int) (by omega) (by omega)
 cases ea
 have hlz : (i : Int) < (l0.length : Int) := by omega
 simp only [Int.toNat_natCast] at hx
 have hz := HZ.out
 clear HZ
 rw [List.drop_eq_getElem_cons hlt] at hz
 have er : rd_L2 l0 (i : Int) = l0[i] := by unfold rd_L2; simp [List.getD_eq_getElem?_getD, hlt]
 rw [← er] at hz
 obtain ⟨b, hb, hz⟩ := Option.bind_eq_some_iff.mp (show (impl_Matrix_top_1.f (rd_L2 l0 (i : Int))).bind _ = some r from hz)
 clear er
 have HBB := aM hb
 have HR1 := aM hi1
 have HC1 := aM hl1
 have HZ := aM hz
 clear hb hi1 hl1 hz
 cases b with
 | false => {
 go_wp2_with (first | (go_at_call 139; refine (impl_Matrix_top_1.calls A1 c1 (rd_L2 l0 (i : Int)) false _ ?side1 HC1.out HBB.out).mono ?_; (case side1 => repeat (first | exact HR1.out | (with_reducible refine Kd.C_drewN ?_ _))); rintro e w' ⟨rfl, ⟨nd, rfl⟩⟩))
 obtain ⟨k, rfl⟩ : ∃ k, gk = k + 1 := ⟨gk - 1, by omega⟩
 go_roundg k
 case measure => omega
 case rel => exact ⟨i + 1, by omega, by omega, by go_num, ⟨by have := HZ.out; simp only [Bool.false_eq_true, if_false] at this; rw [show ((i + 1 : Nat) : Int) = (i : Int) + 1 from by omega]; exact this⟩, by repeat (first | exact Drawn0.refl _ | apply Drawn0.step)⟩}
 | true => {
 go_wp2_with (first | (go_at_call 139; refine (impl_Matrix_top_1.calls A1 c1 (rd_L2 l0 (i : Int)) true _ ?side1 HC1.out HBB.out).mono ?_; (case side1 => repeat (first | exact HR1.out | (with_reducible refine Kd.C_drewN ?_ _))); rintro e w' ⟨rfl, ⟨nd, rfl⟩⟩))
 go_ret
 have e1 : some (i : Int) = some r := by have := HZ.out; simpa using this
 obtain rfl := Option.some.inj e1
 exact ⟨rfl, by repeat (first | exact Below.refl _ _ | apply pw_below_drewN)⟩}}
 · {
 go_wp2
 go_ret
 have e1 := HZ.out
 rw [List.drop_eq_nil_of_le (by omega)] at e1
 obtain rfl := Option.some.inj e1
 exact ⟨rfl, by repeat (first | exact Below.refl _ _ | apply pw_below_drewN)⟩})
def impl_Matrix_top.f (l0_0 : List (List Int)) : Option (Int) := (slices_IndexFunc_int_int_138.f l0_0).bind fun t180 => (some t180)
set_option maxHeartbeats 8000000 in
set_option maxRecDepth 100000 in
theorem impl_Matrix_top.calls (A0_0 : Option Addr) (c0_0 : Nat) (l0_0 : List (List Int)) (r : Int) (w : World) (hr0_0 : Kd.C (Kd.slice 3 (Kd.int .i64)) w A0_0 l0_0.length l0_0) (hc0_0 : l0_0.length ≤ c0_0) (h : impl_Matrix_top.f l0_0 = some r) :
  Calls Try.prog 97 #[.agg #[.slice A0_0 l0_0.length c0_0]] w fun e w' => e = .returned (.int .i64 r) ∧ Below w.heap.size w w' := by
 have hu36 := Try.underlying36
 have HR0_0 := aM hr0_0
 have HC0_0 := aM hc0_0
 clear hr0_0 hc0_0
 have HB := aM (Below.refl w.heap.size w)
 have H : ((slices_IndexFunc_int_int_138.f l0_0).bind fun t180 => (some t180)) = some r := h
 clear h
 replace H := Option.bind_eq_some_iff.mp H
 obtain ⟨t180, A20, H⟩ := H
 replace H : (some t180) = some r := H
 have A2 := aM A20
 clear A20
 obtain rfl := Option.some.inj H
 go_enter Try.func97, Try.ntmps97
 go_wp2_with (first | ((with_reducible refine gate_dst (N := 1) rfl ?_); refine bE 1 36 #[.slice A0_0 l0_0.length c0_0] ?_; intro gb179 hg w3 hbox hb; have _ := aM (below_step bq hb); have _ := aM (hbox); have _ := aM ((gS hg)); have _ := aM ((gS hg)); clear HB; rename_i HB BK179 GW179 GE179; clear hb hbox hg; have hcz4_0 : w3.cell? ⟨gb179, 0, none⟩ = some (.slice A0_0 l0_0.length c0_0) := (blk_cell BK179.out 0).trans rfl; have hfz4_0 := blk_frozen BK179.out 0) | ((with_reducible refine gate_callee (f := 138) rfl ?_); refine gL (some 5) Try.func138 #[.slice A0_0 l0_0.length c0_0, .func (.func 139) #[] #[]] ?_; (with_reducible refine (slices_IndexFunc_int_int_138.calls _ _ l0_0  t180 _ (cQ (Kd.C_below HR0_0.out HB.out)) HC0_0.out A2.out).mono ?_); rintro e w5 ⟨rfl, hb⟩; refine ⟨_, rfl, ?_⟩; have _ := aM (blk_below (g := gb179) (o := .cells #[.slice A0_0 l0_0.length c0_0] 36 (0, 0)) (qQ BK179) hb); have _ := aM (below_step bq hb); clear BK179 HB; rename_i BK179 HB; (try clear hb); (try clear hb2); (try clear hk); (try clear hi)))
 go_ret
 exact ⟨by first | rfl | (simp [errW_none, errW_some] <;> rfl) | (simp [*, errW_none, errW_some] <;> rfl), by exact bq⟩

def slices_Clone_int_int.f (l0 : List Int) : Option (List Int) := if l0.length < 17592186044416 then some l0 else none
set_option maxHeartbeats 8000000 in
set_option maxRecDepth 100000 in
theorem slices_Clone_int_int.calls (A0 : Option Addr) (c0 : Nat) (l0 : List Int) (r : List Int) (w : World) (hr0 : Kd.C (Kd.int .i64) w A0 l0.length l0) (hc0 : l0.length ≤ c0) (h : slices_Clone_int_int.f l0 = some r) :
    Calls Try.prog 153 #[.slice A0 l0.length c0] w fun e w' => ∃ v0_ : Value, e = .returned (v0_) ∧ Kd.R (Kd.int .i64) 3 w' w.heap.size (fun _ => True) v0_ r ∧ Below w.heap.size w w' := by
 have HB := aM (Below.refl w.heap.size w)
 unfold slices_Clone_int_int.f at h
 by_cases c2 : l0.length < 17592186044416
 · {
 rw [if_pos c2] at h
 obtain rfl := Option.some.inj h
 clear h
 have LMc2 := aM c2
 clear c2
 cases A0 with
 | none => {
 have hn : l0.length = 0 := by {
 rcases Nat.eq_zero_or_pos l0.length with h0 | h0
 · exact h0
 · {
 obtain ⟨ad, he, _⟩ := hr0.2.2 h0
 cases he}}
 obtain rfl : l0 = [] := List.eq_nil_of_length_eq_zero hn
 clear hn hr0 hc0
 have q1 : ∀ (W : World) (n c n' c' : Nat), (binOp .eql 24 (.slice none n c) (.slice none n' c')).run Try.prog W = .ok (.bool true) W := fun W n c n' c' => Go.Lib.run_eql_slice_nil W _ _ none n c n' c' Try.underlying24
 go_enter Try.func153, Try.ntmps153
 go_wp2
 go_ret
 exact ⟨_, rfl, Kd.R_nil _ _ _ _ _, by repeat (first | (with_reducible first | exact HB.out | apply below_alloc | apply pw_below_drewN | apply below_drew1) | exact HB.out)⟩}
 | some ad0 => {
 have HR0 := aM hr0
 have HC0 := aM hc0
 clear hr0 hc0
 obtain ⟨y580, hy580⟩ : ∃ y_ : List Int, y_ = (([] : List Int)) := ⟨_, rfl⟩
 have Ny580 := aM hy580
 clear hy580
 obtain ⟨y583, hy583⟩ : ∃ y_ : List Int, y_ = (y580 ++ l0) := ⟨_, rfl⟩
 have Ny583 := aM hy583
 clear hy583
 have q1 : ∀ (W : World) (n c n' c' : Nat), (binOp .eql 24 (.slice (some ad0) n c) (.slice none n' c')).run Try.prog W = .ok (.bool false) W := fun W n c n' c' => Go.Lib.run_eql_slice_nil W _ _ (some ad0) n c n' c' Try.underlying24
 have E583 : Aside0 (y583 = l0) := ⟨by rw [Ny583.out, Ny580.out]; rfl⟩
 go_enter Try.func153, Try.ntmps153
 go_wp2_with (first | ((with_reducible refine gate_dst (N := 5) rfl ?_); refine Kd.R_lit (Kd.int .i64) _ 3 ?hg (N := 5) ?hd (xs := ([] : List Int)) (inner := []) (ok := fun _ => True) (okp := fun _ => True) ?hr ?hp (fun _ hk => hk) trivial (Below.refl _ _) (Nat.le_refl _) (by simp) ?_; (case hd => rfl); (case hg => rfl); (case hr => first | (go_simp; done) | (go_simp; rfl)); (case hp => exact (Reps.none _ _)); intro v581 w3 ho4 hb hg_ hnew_; clear hg_ hnew_; (first | rw [← Ny580.out] at ho4 | (simp only [Int.reduceToNat] at ho4; rw [← Ny580.out] at ho4)); have _ := aM (Kd.R_lower ho4 (below_size (by repeat (first | (with_reducible first | exact HB.out | apply below_alloc | apply pw_below_drewN | apply below_drew1) | exact HB.out)))); have _ := aM (below_step (by repeat (first | (with_reducible first | exact HB.out | apply below_alloc | apply pw_below_drewN | apply below_drew1) | exact HB.out)) hb); clear HB; rename_i HO582 HB; clear hb ho4) | ((with_reducible refine gate_builtin (b := .append) (xs := #[.tmp 5, .tmp 6]) rfl ?_); at_builtin; refine Kd.R_append_rows (Kd.int .i64) (w0 := w) w.heap.size rfl (.tmp 5) (.tmp 6) 24 3 (.int .i64 0) 8 rfl Try.underlying24 info3 rfl (by decide) (by omega) v581 y580 l0 _ _ _ (fun _ => True) (fun _ => False) rfl rfl ?aO ?aR (fun _ _ h => h) (fun _ h => h.elim) ?aF ?aB ?aS ?aL ?_; (case aR => repeat (first | exact (Kd.C_below HR0.out HB.out) | (with_reducible refine Kd.C_alloc ?_ _) | (with_reducible refine Kd.C_drewN ?_ _) | (with_reducible refine Kd.C_drew ?_))); (case aB => exact (by repeat (first | (with_reducible first | exact HB.out | apply below_alloc | apply pw_below_drewN | apply below_drew1) | exact HB.out))); (case aF => exact (fun _ _ => trivial)); (case aO => exact (by (with_reducible repeat (first | apply Kd.R_alloc | apply Kd.R_drewN | apply Kd.R_drew)); exact HO582.out)); (case aS => exact (below_size (by repeat (first | (with_reducible first | exact HB.out | apply below_alloc | apply pw_below_drewN | apply below_drew1) | exact HB.out)))); (case aL => have := LMc2.out; have := Ny580.out; simp_all; omega); intro v584 w5 ho hb hg hat; rw [← Ny583.out] at ho; have _ := aM (hb); have _ := aM (ho); clear HB HO582; rename_i HB HO585; clear ho hb hg hat))
 go_ret
 exact ⟨_, rfl, by (with_reducible repeat (first | apply Kd.R_alloc | apply Kd.R_drewN | apply Kd.R_drew)); (have := HO585.out; rw [E583.out] at this; exact this), by repeat (first | (with_reducible first | exact HB.out | apply below_alloc | apply pw_below_drewN | apply below_drew1) | exact HB.out)⟩}}
 · {
 rw [if_neg c2] at h
 exact absurd h (by simp)}
end Go.Proofs.Ytacdlipojhoilaa.Yx
