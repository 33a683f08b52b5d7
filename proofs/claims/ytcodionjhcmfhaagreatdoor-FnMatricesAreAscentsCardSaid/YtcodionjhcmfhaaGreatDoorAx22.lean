-- Written by hook.py, a program of this session (wip/), which runs the kit's print.py with its own parts; Lean checks it.
import Derived.Test.YtcodionjhcmfhaaGreatDoorAx0
import Derived.Test.YtcodionjhcmfhaaGreatDoorAx3
import Derived.Test.YtcodionjhcmfhaaGreatDoorAx21
import Derived.Test.YtcodionjhcmfhaaGreatDoorAxXSq
namespace Go.Proofs.YtcodionjhcmfhaaGreatDoor.Ax
open Go.RowKit Go.Proofs.YtcodionjhcmfhaaGreatDoorW.PrintWords Go.Proofs.YtcodionjhcmfhaaGreatDoorW.PrintLast Go.Proofs.YtcodionjhcmfhaaGreatDoorW.PrintMore Go.Proofs.YtcodionjhcmfhaaGreatDoor.Sq
attribute [local go_sem] max2_int min2_int max_two min_two max_three min_three max_four min_four   -- for this text's walks alone
set_option linter.unusedVariables false
set_option linter.unusedSimpArgs false

def impl_IsAscent.l0 : Nat → List Int → List Int → Int → Int → Option (Bool)
 | 0, _, _, _, _ => none
 | k + 1, x0, x8, x9, x10 => if x10 < x9 then (if 0 ≤ x10 then (if x10 < (x8.length : Int) then (if x10 = 0 then (if (rd x8 x10) = 0 then (if x10 > 0 then (if x10 ≤ (x0.length : Int) then ((impl_ascents.f k (x0.take (x10 : Int).toNat)).bind fun t465 => ((impl_within.f (rd x8 x10) 0 (wrap64 (t465 + 1))).bind fun t466 => (if t466 = true then (impl_IsAscent.l0 k x0 x8 x9 (wrap64 (x10 + 1))) else (some false)))) else (none)) else (impl_IsAscent.l0 k x0 x8 x9 (wrap64 (x10 + 1)))) else (some false)) else (if x10 > 0 then (if x10 ≤ (x0.length : Int) then ((impl_ascents.f k (x0.take (x10 : Int).toNat)).bind fun t468 => ((impl_within.f (rd x8 x10) 0 (wrap64 (t468 + 1))).bind fun t469 => (if t469 = true then (impl_IsAscent.l0 k x0 x8 x9 (wrap64 (x10 + 1))) else (some false)))) else (none)) else (impl_IsAscent.l0 k x0 x8 x9 (wrap64 (x10 + 1))))) else (none)) else (none)) else (some true)
def impl_IsAscent.f (k : Nat) (l0 : List Int) : Option (Bool) := if (l0.length : Int) > 12 then (some false) else (impl_IsAscent.l0 k l0 l0 (l0.length : Int) 0)
set_option maxHeartbeats 8000000 in
set_option maxRecDepth 100000 in
theorem impl_IsAscent.calls (k : Nat) (A0 : Option Addr) (c0 : Nat) (l0 : List Int) (r : Bool) (w : World) (hr0 : Kd.C (Kd.int .i64) w A0 l0.length l0) (hc0 : l0.length ≤ c0) (h : impl_IsAscent.f k l0 = some r) :
  Calls Tryz.prog 31 #[.slice A0 l0.length c0] w fun e w' => e = .returned (.bool r) ∧ Drawn0 w w' := by
 have HR0 := aM hr0
 have HC0 := aM hc0
 clear hr0 hc0
 have H : (if (l0.length : Int) > 12 then (some false) else (impl_IsAscent.l0 k l0 l0 (l0.length : Int) 0)) = some r := h
 clear h
 by_cases c2 : (l0.length : Int) > 12
 ·rw [if_pos c2] at H
  have c2b0 := decide_eq_true c2
  have c2b1 : decide (12 < l0.length) = true := decide_eq_true (by omega)
  clear c2
  obtain rfl := Option.some.inj H
  go_enter Tryz.func31, Tryz.ntmps31
  go_wp2
  go_ret
  exact ⟨by first | rfl | (simp; done) | (simp [*]; done), by repeat (first | exact Drawn0.refl _ | apply Drawn0.step)⟩
 ·rw [if_neg c2] at H
  have c2b0 := decide_eq_false c2
  have c2b1 : decide (12 < l0.length) = false := decide_eq_false (by omega)
  clear c2
  have H' := aM H
  clear H
  go_enter Tryz.func31, Tryz.ntmps31
  go_wp2
  go_loopg [10] k (fun kq v10 w' => ∃ (x10_1 : Int), v10 = .int .i64 x10_1 ∧ Aside0 (impl_IsAscent.l0 kq l0 l0 (l0.length : Int) x10_1 = some r) ∧ Aside0 (kq ≤ k) ∧ Drawn0 w w')
  case atStart => exact ⟨(0), eR, H', ⟨Nat.le_refl _⟩, by repeat (first | exact Drawn0.refl _ | apply Drawn0.step)⟩
  case round =>
   clear H'
   try clear c2
   try clear c2b0
   try clear c2b1
   try clear p2
   obtain ⟨x10_1, rfl, HA, HK1, ⟨m1, rfl⟩⟩ := hrel
   cases gk with
   | zero => exact absurd HA.out (by simp [impl_IsAscent.l0])
   | succ k1 =>
    have H := HA.out
    clear HA
    simp only [impl_IsAscent.l0] at H
    by_cases c3 : x10_1 < (l0.length : Int)
    ·rw [if_pos c3] at H
     have c3b0 := decide_eq_true c3
     clear c3
     replace H := iD2 H
     obtain ⟨c4b0, c5b0, H⟩ := H
     by_cases c6 : x10_1 = 0
     ·rw [if_pos c6] at H
      have c6b0 : (x10_1 == 0) = true := beq_iff_eq.mpr c6
      have c6b1 : (x10_1 != 0) = false := bne_eq_false_iff_eq.mpr c6
      clear c6
      by_cases c7 : (rd l0 x10_1) = 0
      ·rw [if_pos c7] at H
       have c7b0 : ((rd l0 x10_1) == 0) = true := beq_iff_eq.mpr c7
       have c7b1 : ((rd l0 x10_1) != 0) = false := bne_eq_false_iff_eq.mpr c7
       clear c7
       by_cases c8 : x10_1 > 0
       ·rw [if_pos c8] at H
        have c8b0 := decide_eq_true c8
        clear c8
        have c9b0 := eq_true (odt : 0 ≤ x10_1)
        replace H := iS H
        obtain ⟨c10, H⟩ := H
        have c10b0 := eq_true c10
        have c10b1 := decide_eq_true c10
        clear c10
        replace H := bS H
        obtain ⟨t465, A11, H⟩ := H
        try dsimp only at H
        replace H := bS H
        obtain ⟨t466, A12, H⟩ := H
        try dsimp only at H
        by_cases c13 : t466 = true
        ·subst c13
         have H1 : (impl_IsAscent.l0 k1 l0 l0 (l0.length : Int) (wrap64 (x10_1 + 1))) = some r := by rw [if_pos rfl] at H; exact H
         clear H
         have H := H1
         clear H1
         have H' := aM H
         clear H
         have p463 : 0 ≤ (x10_1 : Int) := odt
         have q463 : x10_1 < (l0.length : Int) := odt
         obtain ⟨ad463, e463, hx463_0⟩ := Kd.at_int HR0.out x10_1 p463 q463
         cases e463
         replace p463 := eq_true p463
         replace q463 := eq_true q463
         obtain ⟨i014, hi014, _, hsz14, _⟩ := info_parts info3
         obtain ⟨hcut14, hA14, hC14⟩ := print_take_of (P := Tryz.prog) (Value.int .i64) 0 24 3 .i64 Tryz.underlying24 hi014 hsz14 (some ad463) c0 l0 x10_1 (odt) (odt) HC0.out
         have HR464 := aM (Kd.C_of_reads (h1 := fun _ => rfl) (hA14 _ (Kd.reads_of_C HR0.out)))
         have HC464 := aM hC14
         clear hA14 hC14 hi014 hsz14
         go_wp2_with (first | (go_at_call 62; (refine calls_of_args (args' := #[.slice (some ad463) ((l0).take (x10_1 : Int).toNat).length c0]) ?argeq ?_); (case argeq => rw [List.length_take, Nat.min_eq_left (by have h_ : x10_1 ≤ ((l0).length : Int) := odt; omega)]); (with_reducible refine (impl_ascents.calls k1 _ _ (l0.take (x10_1 : Int).toNat) t465 _ ?side1 ?side2 A11.out).mono ?_); (case side1 => repeat (first | exact HR464.out | (with_reducible refine Kd.C_alloc ?_ _) | (with_reducible refine Kd.C_drewN ?_ _) | (with_reducible refine Kd.C_drew ?_))); (case side2 => exact HC464.out); rintro e w' ⟨rfl, ⟨nd, rfl⟩⟩) | (go_at_call 61; (with_reducible refine (impl_within.calls (rd l0 x10_1) 0 (wrap64 (t465 + 1)) true _ A12.out).mono ?_); rintro e w' ⟨rfl, ⟨nd, rfl⟩⟩))
         go_roundg k1
         case measure => have := HK1.out; omega
         case rel => exact ⟨(wrap64 (x10_1 + 1)), eR, H', ⟨by have := HK1.out; omega⟩, by repeat (first | exact Drawn0.refl _ | apply Drawn0.step)⟩
        ·replace c13 := Bool.eq_false_iff.mpr c13
         subst c13
         have H1 : (some false) = some r := by rw [if_neg (show ¬ (false = true) by decide)] at H; exact H
         clear H
         have H := H1
         clear H1
         obtain rfl := Option.some.inj H
         have p463 : 0 ≤ (x10_1 : Int) := odt
         have q463 : x10_1 < (l0.length : Int) := odt
         obtain ⟨ad463, e463, hx463_0⟩ := Kd.at_int HR0.out x10_1 p463 q463
         cases e463
         replace p463 := eq_true p463
         replace q463 := eq_true q463
         obtain ⟨i015, hi015, _, hsz15, _⟩ := info_parts info3
         obtain ⟨hcut15, hA15, hC15⟩ := print_take_of (P := Tryz.prog) (Value.int .i64) 0 24 3 .i64 Tryz.underlying24 hi015 hsz15 (some ad463) c0 l0 x10_1 (odt) (odt) HC0.out
         have HR464 := aM (Kd.C_of_reads (h1 := fun _ => rfl) (hA15 _ (Kd.reads_of_C HR0.out)))
         have HC464 := aM hC15
         clear hA15 hC15 hi015 hsz15
         go_wp2_with (first | (go_at_call 62; (refine calls_of_args (args' := #[.slice (some ad463) ((l0).take (x10_1 : Int).toNat).length c0]) ?argeq ?_); (case argeq => rw [List.length_take, Nat.min_eq_left (by have h_ : x10_1 ≤ ((l0).length : Int) := odt; omega)]); (with_reducible refine (impl_ascents.calls k1 _ _ (l0.take (x10_1 : Int).toNat) t465 _ ?side1 ?side2 A11.out).mono ?_); (case side1 => repeat (first | exact HR464.out | (with_reducible refine Kd.C_alloc ?_ _) | (with_reducible refine Kd.C_drewN ?_ _) | (with_reducible refine Kd.C_drew ?_))); (case side2 => exact HC464.out); rintro e w' ⟨rfl, ⟨nd, rfl⟩⟩) | (go_at_call 61; (with_reducible refine (impl_within.calls (rd l0 x10_1) 0 (wrap64 (t465 + 1)) false _ A12.out).mono ?_); rintro e w' ⟨rfl, ⟨nd, rfl⟩⟩))
         go_ret
         exact ⟨by first | rfl | (simp; done) | (simp [*]; done), by repeat (first | exact Drawn0.refl _ | apply Drawn0.step)⟩
       ·rw [if_neg c8] at H
        have c8b0 := decide_eq_false c8
        clear c8
        have H' := aM H
        clear H
        have p463 : 0 ≤ (x10_1 : Int) := odt
        have q463 : x10_1 < (l0.length : Int) := odt
        obtain ⟨ad463, e463, hx463_0⟩ := Kd.at_int HR0.out x10_1 p463 q463
        cases e463
        replace p463 := eq_true p463
        replace q463 := eq_true q463
        go_wp2
        go_roundg k1
        case measure => have := HK1.out; omega
        case rel => exact ⟨(wrap64 (x10_1 + 1)), eR, H', ⟨by have := HK1.out; omega⟩, by repeat (first | exact Drawn0.refl _ | apply Drawn0.step)⟩
      ·rw [if_neg c7] at H
       have c7b0 : ((rd l0 x10_1) == 0) = false := beq_eq_false_iff_ne.mpr c7
       have c7b1 : ((rd l0 x10_1) != 0) = true := bne_iff_ne.mpr c7
       obtain rfl := Option.some.inj H
       have p463 : 0 ≤ (x10_1 : Int) := odt
       have q463 : x10_1 < (l0.length : Int) := odt
       obtain ⟨ad463, e463, hx463_0⟩ := Kd.at_int HR0.out x10_1 p463 q463
       cases e463
       replace p463 := eq_true p463
       replace q463 := eq_true q463
       go_wp2
       go_ret
       exact ⟨by first | rfl | (simp; done) | (simp [*]; done), by repeat (first | exact Drawn0.refl _ | apply Drawn0.step)⟩
     ·rw [if_neg c6] at H
      have c6b0 : (x10_1 == 0) = false := beq_eq_false_iff_ne.mpr c6
      have c6b1 : (x10_1 != 0) = true := bne_iff_ne.mpr c6
      by_cases c16 : x10_1 > 0
      ·rw [if_pos c16] at H
       have c16b0 := decide_eq_true c16
       clear c16
       have c17b0 := eq_true (odt : 0 ≤ x10_1)
       replace H := iS H
       obtain ⟨c18, H⟩ := H
       have c18b0 := eq_true c18
       have c18b1 := decide_eq_true c18
       clear c18
       replace H := bS H
       obtain ⟨t468, A19, H⟩ := H
       try dsimp only at H
       replace H := bS H
       obtain ⟨t469, A20, H⟩ := H
       try dsimp only at H
       by_cases c21 : t469 = true
       ·subst c21
        have H1 : (impl_IsAscent.l0 k1 l0 l0 (l0.length : Int) (wrap64 (x10_1 + 1))) = some r := by rw [if_pos rfl] at H; exact H
        clear H
        have H := H1
        clear H1
        have H' := aM H
        clear H
        have p463 : 0 ≤ (x10_1 : Int) := odt
        have q463 : x10_1 < (l0.length : Int) := odt
        obtain ⟨ad463, e463, hx463_0⟩ := Kd.at_int HR0.out x10_1 p463 q463
        cases e463
        replace p463 := eq_true p463
        replace q463 := eq_true q463
        obtain ⟨i022, hi022, _, hsz22, _⟩ := info_parts info3
        obtain ⟨hcut22, hA22, hC22⟩ := print_take_of (P := Tryz.prog) (Value.int .i64) 0 24 3 .i64 Tryz.underlying24 hi022 hsz22 (some ad463) c0 l0 x10_1 (odt) (odt) HC0.out
        have HR467 := aM (Kd.C_of_reads (h1 := fun _ => rfl) (hA22 _ (Kd.reads_of_C HR0.out)))
        have HC467 := aM hC22
        clear hA22 hC22 hi022 hsz22
        go_wp2_with (first | (go_at_call 62; (refine calls_of_args (args' := #[.slice (some ad463) ((l0).take (x10_1 : Int).toNat).length c0]) ?argeq ?_); (case argeq => rw [List.length_take, Nat.min_eq_left (by have h_ : x10_1 ≤ ((l0).length : Int) := odt; omega)]); (with_reducible refine (impl_ascents.calls k1 _ _ (l0.take (x10_1 : Int).toNat) t468 _ ?side1 ?side2 A19.out).mono ?_); (case side1 => repeat (first | exact HR467.out | (with_reducible refine Kd.C_alloc ?_ _) | (with_reducible refine Kd.C_drewN ?_ _) | (with_reducible refine Kd.C_drew ?_))); (case side2 => exact HC467.out); rintro e w' ⟨rfl, ⟨nd, rfl⟩⟩) | (go_at_call 61; (with_reducible refine (impl_within.calls (rd l0 x10_1) 0 (wrap64 (t468 + 1)) true _ A20.out).mono ?_); rintro e w' ⟨rfl, ⟨nd, rfl⟩⟩))
        go_roundg k1
        case measure => have := HK1.out; omega
        case rel => exact ⟨(wrap64 (x10_1 + 1)), eR, H', ⟨by have := HK1.out; omega⟩, by repeat (first | exact Drawn0.refl _ | apply Drawn0.step)⟩
       ·replace c21 := Bool.eq_false_iff.mpr c21
        subst c21
        have H1 : (some false) = some r := by rw [if_neg (show ¬ (false = true) by decide)] at H; exact H
        clear H
        have H := H1
        clear H1
        obtain rfl := Option.some.inj H
        have p463 : 0 ≤ (x10_1 : Int) := odt
        have q463 : x10_1 < (l0.length : Int) := odt
        obtain ⟨ad463, e463, hx463_0⟩ := Kd.at_int HR0.out x10_1 p463 q463
        cases e463
        replace p463 := eq_true p463
        replace q463 := eq_true q463
        obtain ⟨i023, hi023, _, hsz23, _⟩ := info_parts info3
        obtain ⟨hcut23, hA23, hC23⟩ := print_take_of (P := Tryz.prog) (Value.int .i64) 0 24 3 .i64 Tryz.underlying24 hi023 hsz23 (some ad463) c0 l0 x10_1 (odt) (odt) HC0.out
        have HR467 := aM (Kd.C_of_reads (h1 := fun _ => rfl) (hA23 _ (Kd.reads_of_C HR0.out)))
        have HC467 := aM hC23
        clear hA23 hC23 hi023 hsz23
        go_wp2_with (first | (go_at_call 62; (refine calls_of_args (args' := #[.slice (some ad463) ((l0).take (x10_1 : Int).toNat).length c0]) ?argeq ?_); (case argeq => rw [List.length_take, Nat.min_eq_left (by have h_ : x10_1 ≤ ((l0).length : Int) := odt; omega)]); (with_reducible refine (impl_ascents.calls k1 _ _ (l0.take (x10_1 : Int).toNat) t468 _ ?side1 ?side2 A19.out).mono ?_); (case side1 => repeat (first | exact HR467.out | (with_reducible refine Kd.C_alloc ?_ _) | (with_reducible refine Kd.C_drewN ?_ _) | (with_reducible refine Kd.C_drew ?_))); (case side2 => exact HC467.out); rintro e w' ⟨rfl, ⟨nd, rfl⟩⟩) | (go_at_call 61; (with_reducible refine (impl_within.calls (rd l0 x10_1) 0 (wrap64 (t468 + 1)) false _ A20.out).mono ?_); rintro e w' ⟨rfl, ⟨nd, rfl⟩⟩))
        go_ret
        exact ⟨by first | rfl | (simp; done) | (simp [*]; done), by repeat (first | exact Drawn0.refl _ | apply Drawn0.step)⟩
      ·rw [if_neg c16] at H
       have c16b0 := decide_eq_false c16
       clear c16
       have H' := aM H
       clear H
       have p463 : 0 ≤ (x10_1 : Int) := odt
       have q463 : x10_1 < (l0.length : Int) := odt
       obtain ⟨ad463, e463, hx463_0⟩ := Kd.at_int HR0.out x10_1 p463 q463
       cases e463
       replace p463 := eq_true p463
       replace q463 := eq_true q463
       go_wp2
       go_roundg k1
       case measure => have := HK1.out; omega
       case rel => exact ⟨(wrap64 (x10_1 + 1)), eR, H', ⟨by have := HK1.out; omega⟩, by repeat (first | exact Drawn0.refl _ | apply Drawn0.step)⟩
    ·rw [if_neg c3] at H
     have c3b0 := decide_eq_false c3
     clear c3
     obtain rfl := Option.some.inj H
     go_wp2
     go_ret
     exact ⟨by first | rfl | (simp; done) | (simp [*]; done), by repeat (first | exact Drawn0.refl _ | apply Drawn0.step)⟩

end Go.Proofs.YtcodionjhcmfhaaGreatDoor.Ax
