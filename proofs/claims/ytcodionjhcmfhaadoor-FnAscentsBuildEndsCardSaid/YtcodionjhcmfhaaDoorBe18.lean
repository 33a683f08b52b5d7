-- Written by hook.py, a program of this session (wip/), which runs the kit's print.py with its own parts; Lean checks it.
import Derived.Test.YtcodionjhcmfhaaDoorBe0
import Derived.Test.YtcodionjhcmfhaaDoorBe14
import Derived.Test.YtcodionjhcmfhaaDoorBe16
import Derived.Test.YtcodionjhcmfhaaDoorBe17
import Derived.Test.YtcodionjhcmfhaaDoorBeXSq
namespace Go.Proofs.YtcodionjhcmfhaaDoor.Be
open Go.RowKit Go.Proofs.YtcodionjhcmfhaaDoorW.PrintWords Go.Proofs.YtcodionjhcmfhaaDoorW.PrintLast Go.Proofs.YtcodionjhcmfhaaDoorW.PrintMore Go.Proofs.YtcodionjhcmfhaaDoor.Sq
attribute [local go_sem] max2_int min2_int max_two min_two max_three min_three max_four min_four   -- for this text's walks alone
set_option linter.unusedVariables false
set_option linter.unusedSimpArgs false

def impl_intervalsOf.l0 : Nat → List (S76) → List Int → Int → Int → Option ((List (S76)))
 | 0, _, _, _, _ => none
 | k + 1, x3, x7, x8, x9 => if x9 < x8 then (if 0 ≤ x9 then (if x9 < (x7.length : Int) then ((impl_build.f k x3 (rd x7 x9)).bind fun t342 => (impl_intervalsOf.l0 k t342 x7 x8 (wrap64 (x9 + 1)))) else (none)) else (none)) else (some x3)
def impl_intervalsOf.f (k : Nat) (l0 : List Int) : Option ((List (S76))) := impl_intervalsOf.l0 k (([] : List (S76))) l0 (l0.length : Int) 0
set_option maxHeartbeats 8000000 in
set_option maxRecDepth 100000 in
theorem impl_intervalsOf.calls (k : Nat) (A0 : Option Addr) (c0 : Nat) (l0 : List Int) (r : List (S76)) (w : World) (hr0 : Kd.C (Kd.int .i64) w A0 l0.length l0) (hc0 : l0.length ≤ c0) (h : impl_intervalsOf.f k l0 = some r) :
  Calls Tryd.prog 51 #[.slice A0 l0.length c0] w fun e w' => ∃ v0_ : Value, e = .returned (v0_) ∧ Kd.R k76 76 w' w.heap.size (fun _ => True) v0_ r ∧ Below w.heap.size w w' := by
 have HR0 := aM hr0
 have HC0 := aM hc0
 clear hr0 hc0
 have HB := aM (Below.refl w.heap.size w)
 have H : (impl_intervalsOf.l0 k (([] : List (S76))) l0 (l0.length : Int) 0) = some r := h
 clear h
 obtain ⟨y338, hy338⟩ : ∃ y_ : List (S76), y_ = (([] : List (S76))) := ⟨_, rfl⟩
 replace H : (impl_intervalsOf.l0 k y338 l0 (l0.length : Int) 0) = some r := by first | (rw [hy338]; with_reducible exact H) | (have H2_ := (Option.bind_some _ _).symm.trans H; rw [hy338]; with_reducible exact H2_) | (have H2_ := (Option.bind_some _ _).symm.trans H; with_reducible exact H2_) | with_reducible exact H | (rw [hy338]; exact H) | exact H
 have Ny338 := aM hy338
 clear hy338
 have H' := aM H
 clear H
 go_enter Tryd.func51, Tryd.ntmps51
 go_wp2_with (first | ((with_reducible refine gate_dst (N := 6) rfl ?_); refine Kd.R_lit k76 _ 76 ?hg (N := 6) ?hd (xs := ([] : List (S76))) (inner := []) (ok := fun _ => True) (okp := fun _ => True) ?hr ?hp (fun _ hk => hk) trivial (Below.refl _ _) (Nat.le_refl _) (by simp) ?_; (case hd => rfl); (case hg => rfl); (case hr => first | (go_simp; done) | (go_simp; rfl)); (case hp => exact (Reps.none _ _)); intro v339 w2 ho3 hb hg_ hnew_; clear hg_ hnew_; (first | rw [← Ny338.out] at ho3 | (simp only [Int.reduceToNat] at ho3; rw [← Ny338.out] at ho3)); have _ := aM (Kd.R_lower ho3 (below_size bq)); have _ := aM (below_step bq hb); clear HB; rename_i HO340 HB; clear hb ho3))
 go_loopg [3, 9] k (fun kq v3 v9 w' => ∃ (x3_1 : List (S76)) (x9_1 : Int), v9 = .int .i64 x9_1 ∧ Aside0 (impl_intervalsOf.l0 kq x3_1 l0 (l0.length : Int) x9_1 = some r) ∧ Aside0 (kq ≤ k) ∧ Aside0 (Kd.R k76 76 w' w.heap.size (fun _ => True) v3 x3_1) ∧ Aside0 (Below w.heap.size w w'))
 case atStart => exact ⟨(y338), (0), eR, H', ⟨Nat.le_refl _⟩, ⟨rQ HO340⟩, ⟨bq⟩⟩
 case round =>
  clear H'
  try clear p2
  obtain ⟨x3_1, x9_1, rfl, HA, HK1, HO_3, HB⟩ := hrel
  cases gk with
  | zero => exact absurd HA.out (by simp [impl_intervalsOf.l0])
  | succ k1 =>
   have H := HA.out
   clear HA
   simp only [impl_intervalsOf.l0] at H
   by_cases c4 : x9_1 < (l0.length : Int)
   ·rw [if_pos c4] at H
    have c4b0 := decide_eq_true c4
    clear c4
    replace H := iD2 H
    obtain ⟨c5b0, c6b0, H⟩ := H
    replace H := bS H
    obtain ⟨t342, A7, H⟩ := H
    try dsimp only at H
    have H' := aM H
    clear H
    have p341 : 0 ≤ (x9_1 : Int) := odt
    have q341 : x9_1 < (l0.length : Int) := odt
    obtain ⟨ad341, e341, hx341_0⟩ := Kd.at_int HR0.out x9_1 p341 q341
    cases e341
    replace hx341_0 := (HB.out.cell (World.block_lt_of_cell? w _ hx341_0)).trans hx341_0
    replace p341 := eq_true p341
    replace q341 := eq_true q341
    obtain ⟨Ao8, co8, eo8⟩ := Kd.R_slice HO_3.out
    subst eo8
    go_wp2_with (first | ((with_reducible refine gate_callee (f := 81) rfl ?_); refine gL (some 15) Tryd.func81 #[.slice Ao8 x3_1.length co8, .int .i64 (rd l0 x9_1)] ?_; (with_reducible refine (impl_build.calls k1 _ _ x3_1 (rd l0 x9_1) t342 _ (cQ ((Kd.R_reads' HO_3.out).2.2)) ((Kd.R_reads' HO_3.out).2.1) A7.out).mono ?_); rintro e w9 ⟨v343, rfl, ho0, hb⟩; refine ⟨_, rfl, ?_⟩; have _ := aM (Kd.R_elder' (rQ HO_3) (Kd.R_base ho0) hb); have _ := aM (Kd.R_lower (Kd.R_new' ho0 (Kd.R_lt (rQ HO_3))) (below_size bq)); have _ := aM (below_step bq hb); clear HO_3 HB; rename_i HO_3 HO344 HB; (try clear hb); (try clear hb2); (try clear hk); (try clear hi); (try clear ho0)))
    go_roundg k1
    case measure => have := HK1.out; omega
    case rel => exact ⟨(t342), (wrap64 (x9_1 + 1)), eR, H', ⟨by have := HK1.out; omega⟩, ⟨by (with_reducible repeat first|apply rA|apply rN|apply rD); exact Kd.R_mono HO344.out (fun _ hk => trivial)⟩, ⟨bq⟩⟩
   ·rw [if_neg c4] at H
    have c4b0 := decide_eq_false c4
    clear c4
    obtain rfl := Option.some.inj H
    go_wp2
    go_ret
    exact ⟨_, eE, rQ HO_3, bq⟩

def impl_IntervalsOfAscent.f (k : Nat) (l0 : List Int) : Option ((List (S76)) × Bool) := (impl_isSmallAscent.f k l0).bind fun t345 => (if t345 = true then ((impl_intervalsOf.f k l0).bind fun t346 => (some (t346, true))) else (some (([] : List (S76)), false)))
set_option maxHeartbeats 8000000 in
set_option maxRecDepth 100000 in
theorem impl_IntervalsOfAscent.calls (k : Nat) (A0 : Option Addr) (c0 : Nat) (l0 : List Int) (r1 : List (S76)) (r2 : Bool) (w : World) (hr0 : Kd.C (Kd.int .i64) w A0 l0.length l0) (hc0 : l0.length ≤ c0) (h : impl_IntervalsOfAscent.f k l0 = some (r1, r2)) :
  Calls Tryd.prog 25 #[.slice A0 l0.length c0] w fun e w' => ∃ v0_ : Value, e = .returned (.tuple #[v0_, .bool r2]) ∧ Kd.R k76 76 w' w.heap.size (fun _ => True) v0_ r1 ∧ Below w.heap.size w w' := by
 have HR0 := aM hr0
 have HC0 := aM hc0
 clear hr0 hc0
 have HB := aM (Below.refl w.heap.size w)
 have H : ((impl_isSmallAscent.f k l0).bind fun t345 => (if t345 = true then ((impl_intervalsOf.f k l0).bind fun t346 => (some (t346, true))) else (some (([] : List (S76)), false)))) = some (r1, r2) := h
 clear h
 replace H := bS H
 obtain ⟨t345, A2, H⟩ := H
 try dsimp only at H
 by_cases c3 : t345 = true
 ·subst c3
  have H1 : ((impl_intervalsOf.f k l0).bind fun t346 => (some (t346, true))) = some (r1, r2) := by rw [if_pos rfl] at H; exact H
  clear H
  have H := H1
  clear H1
  replace H := bS H
  obtain ⟨t346, A4, H⟩ := H
  try dsimp only at H
  simp only [Option.some.injEq, Prod.mk.injEq] at H
  obtain ⟨rfl, rfl⟩ := H
  go_enter Tryd.func25, Tryd.ntmps25
  go_wp2_with (first | ((with_reducible refine gate_callee (f := 50) rfl ?_); refine gL (some 5) Tryd.func50 #[.slice A0 l0.length c0] ?_; (with_reducible refine (impl_isSmallAscent.calls k _ _ l0 true _ (cQ HR0.out) HC0.out A2.out).mono ?_); rintro e w' ⟨rfl, ⟨nd, rfl⟩⟩; refine ⟨_, rfl, ?_⟩) | ((with_reducible refine gate_callee (f := 51) rfl ?_); refine gL (some 8) Tryd.func51 #[.slice A0 l0.length c0] ?_; (with_reducible refine (impl_intervalsOf.calls k _ _ l0 t346 _ (cQ HR0.out) HC0.out A4.out).mono ?_); rintro e w5 ⟨v347, rfl, ho0, hb⟩; refine ⟨_, rfl, ?_⟩; have _ := aM (Kd.R_lower ho0 (below_size bq)); have _ := aM (below_step bq hb); clear HB; rename_i HO348 HB; (try clear hb); (try clear hb2); (try clear hk); (try clear hi); (try clear ho0)))
  go_ret2
  exact ⟨_, eE, rQ HO348, bq⟩
 ·replace c3 := Bool.eq_false_iff.mpr c3
  subst c3
  have H1 : (some (([] : List (S76)), false)) = some (r1, r2) := by rw [if_neg (show ¬ (false = true) by decide)] at H; exact H
  clear H
  have H := H1
  clear H1
  simp only [Option.some.injEq, Prod.mk.injEq] at H
  obtain ⟨rfl, rfl⟩ := H
  go_enter Tryd.func25, Tryd.ntmps25
  go_wp2_with (first | ((with_reducible refine gate_callee (f := 50) rfl ?_); refine gL (some 5) Tryd.func50 #[.slice A0 l0.length c0] ?_; (with_reducible refine (impl_isSmallAscent.calls k _ _ l0 false _ (cQ HR0.out) HC0.out A2.out).mono ?_); rintro e w' ⟨rfl, ⟨nd, rfl⟩⟩; refine ⟨_, rfl, ?_⟩))
  go_ret2
  exact ⟨_, eE, by first | exact Kd.R_nil _ _ _ _ _ | exact Kd.N_nil _ _ _ _ _ | exact Kd.V_nil _ _ _ _ _ | exact Kd.Q_nil _ _ _ _ _ | exact Kd.S_nil _ _ _ _ _, bq⟩

def spec_l1In.f (a0 : Int) (a1 : Int) (a2 : Int) : Option (Bool) := if a0 ≥ a1 then (some (decide (a0 ≤ a2))) else (some false)
set_option maxHeartbeats 8000000 in
set_option maxRecDepth 100000 in
theorem spec_l1In.calls (a0 : Int) (a1 : Int) (a2 : Int) (r : Bool) (w : World) (h : spec_l1In.f a0 a1 a2 = some r) :
  Calls Tryd.prog 82 #[.int .i64 a0, .int .i64 a1, .int .i64 a2] w fun e w' => e = .returned (.bool r) ∧ Drawn0 w w' := by
 have H : (if a0 ≥ a1 then (some (decide (a0 ≤ a2))) else (some false)) = some r := h
 clear h
 by_cases c4 : a0 ≥ a1
 ·rw [if_pos c4] at H
  have c4b0 := decide_eq_true c4
  clear c4
  obtain rfl := Option.some.inj H
  go_enter Tryd.func82, Tryd.ntmps82
  go_wp2
  go_ret
  exact ⟨by first | rfl | (simp; done) | (simp [*]; done), by repeat (first | exact Drawn0.refl _ | apply Drawn0.step)⟩
 ·rw [if_neg c4] at H
  have c4b0 := decide_eq_false c4
  clear c4
  obtain rfl := Option.some.inj H
  go_enter Tryd.func82, Tryd.ntmps82
  go_wp2
  go_ret
  exact ⟨by first | rfl | (simp; done) | (simp [*]; done), by repeat (first | exact Drawn0.refl _ | apply Drawn0.step)⟩

def spec_asGood.l0 : Nat → List Int → List Int → Int → Int → Option (Bool)
 | 0, _, _, _, _ => none
 | k + 1, x0, x8, x9, x10 => if x10 < x9 then (if 0 ≤ x10 then (if x10 < (x8.length : Int) then (if x10 ≤ (x0.length : Int) then ((spec_asBound.f k (x0.take (x10 : Int).toNat)).bind fun t351 => ((spec_l1In.f (rd x8 x10) 0 t351).bind fun t352 => (if t352 = true then (spec_asGood.l0 k x0 x8 x9 (wrap64 (x10 + 1))) else (some false)))) else (none)) else (none)) else (none)) else (some true)
def spec_asGood.f (k : Nat) (l0 : List Int) : Option (Bool) := if (l0.length : Int) > 12 then (some false) else (spec_asGood.l0 k l0 l0 (l0.length : Int) 0)
set_option maxHeartbeats 8000000 in
set_option maxRecDepth 100000 in
theorem spec_asGood.calls (k : Nat) (A0 : Option Addr) (c0 : Nat) (l0 : List Int) (r : Bool) (w : World) (hr0 : Kd.C (Kd.int .i64) w A0 l0.length l0) (hc0 : l0.length ≤ c0) (h : spec_asGood.f k l0 = some r) :
  Calls Tryd.prog 52 #[.slice A0 l0.length c0] w fun e w' => e = .returned (.bool r) ∧ Drawn0 w w' := by
 have HR0 := aM hr0
 have HC0 := aM hc0
 clear hr0 hc0
 have H : (if (l0.length : Int) > 12 then (some false) else (spec_asGood.l0 k l0 l0 (l0.length : Int) 0)) = some r := h
 clear h
 by_cases c2 : (l0.length : Int) > 12
 ·rw [if_pos c2] at H
  have c2b0 := decide_eq_true c2
  have c2b1 : decide (12 < l0.length) = true := decide_eq_true (by omega)
  clear c2
  obtain rfl := Option.some.inj H
  go_enter Tryd.func52, Tryd.ntmps52
  go_wp2
  go_ret
  exact ⟨by first | rfl | (simp; done) | (simp [*]; done), by repeat (first | exact Drawn0.refl _ | apply Drawn0.step)⟩
 ·rw [if_neg c2] at H
  have c2b0 := decide_eq_false c2
  have c2b1 : decide (12 < l0.length) = false := decide_eq_false (by omega)
  clear c2
  have H' := aM H
  clear H
  go_enter Tryd.func52, Tryd.ntmps52
  go_wp2
  go_loopg [10] k (fun kq v10 w' => ∃ (x10_1 : Int), v10 = .int .i64 x10_1 ∧ Aside0 (spec_asGood.l0 kq l0 l0 (l0.length : Int) x10_1 = some r) ∧ Aside0 (kq ≤ k) ∧ Drawn0 w w')
  case atStart => exact ⟨(0), eR, H', ⟨Nat.le_refl _⟩, by repeat (first | exact Drawn0.refl _ | apply Drawn0.step)⟩
  case round =>
   clear H'
   try clear c2
   try clear c2b0
   try clear c2b1
   try clear p2
   obtain ⟨x10_1, rfl, HA, HK1, ⟨m1, rfl⟩⟩ := hrel
   cases gk with
   | zero => exact absurd HA.out (by simp [spec_asGood.l0])
   | succ k1 =>
    have H := HA.out
    clear HA
    simp only [spec_asGood.l0] at H
    by_cases c3 : x10_1 < (l0.length : Int)
    ·rw [if_pos c3] at H
     have c3b0 := decide_eq_true c3
     clear c3
     replace H := iD2 H
     obtain ⟨c4b0, c5b0, H⟩ := H
     have c6b0 := eq_true (odt : 0 ≤ x10_1)
     replace H := iS H
     obtain ⟨c7, H⟩ := H
     have c7b0 := eq_true c7
     have c7b1 := decide_eq_true c7
     clear c7
     replace H := bS H
     obtain ⟨t351, A8, H⟩ := H
     try dsimp only at H
     replace H := bS H
     obtain ⟨t352, A9, H⟩ := H
     try dsimp only at H
     by_cases c10 : t352 = true
     ·subst c10
      have H1 : (spec_asGood.l0 k1 l0 l0 (l0.length : Int) (wrap64 (x10_1 + 1))) = some r := by rw [if_pos rfl] at H; exact H
      clear H
      have H := H1
      clear H1
      have H' := aM H
      clear H
      have p349 : 0 ≤ (x10_1 : Int) := odt
      have q349 : x10_1 < (l0.length : Int) := odt
      obtain ⟨ad349, e349, hx349_0⟩ := Kd.at_int HR0.out x10_1 p349 q349
      cases e349
      replace p349 := eq_true p349
      replace q349 := eq_true q349
      obtain ⟨i011, hi011, _, hsz11, _⟩ := info_parts info3
      obtain ⟨hcut11, hA11, hC11⟩ := print_take_of (P := Tryd.prog) (Value.int .i64) 0 22 3 .i64 Tryd.underlying22 hi011 hsz11 (some ad349) c0 l0 x10_1 (odt) (odt) HC0.out
      have HR350 := aM (Kd.C_of_reads (h1 := fun _ => rfl) (hA11 _ (Kd.reads_of_C HR0.out)))
      have HC350 := aM hC11
      clear hA11 hC11 hi011 hsz11
      go_wp2_with (first | ((with_reducible refine gate_callee (f := 80) rfl ?_); refine goesL_ (some 19) rfl rfl Tryd.func80 (by kernel_rfl) rfl #[.slice (some ad349) (l0.take (x10_1 : Int).toNat).length c0] rfl (by (try simp only [List.map_toArray, List.map_cons, List.map_nil]); first | done | (rw [show (l0.take (x10_1 : Int).toNat).length = x10_1.toNat from (by rw [List.length_take]; have h_ : (x10_1 : Int) ≤ (l0.length : Int) := odt; omega)] <;> rfl) | rfl | (simp only [List.length_drop, List.length_take]; rfl)) ?_; (with_reducible refine (spec_asBound.calls k1 _ _ (l0.take (x10_1 : Int).toNat) t351 _ ?side1 ?side2 A8.out).mono ?_); (case side1 => repeat (first | exact HR350.out | (with_reducible refine Kd.C_alloc ?_ _) | (with_reducible refine Kd.C_drewN ?_ _) | (with_reducible refine Kd.C_drew ?_))); (case side2 => exact HC350.out); rintro e w' ⟨rfl, ⟨nd, rfl⟩⟩; refine ⟨_, rfl, ?_⟩) | ((with_reducible refine gate_callee (f := 82) rfl ?_); refine gL (some 20) Tryd.func82 #[.int .i64 (rd l0 x10_1), .int .i64 0, .int .i64 t351] ?_; (with_reducible refine (spec_l1In.calls (rd l0 x10_1) 0 t351 true _ A9.out).mono ?_); rintro e w' ⟨rfl, ⟨nd, rfl⟩⟩; refine ⟨_, rfl, ?_⟩))
      go_roundg k1
      case measure => have := HK1.out; omega
      case rel => exact ⟨(wrap64 (x10_1 + 1)), eR, H', ⟨by have := HK1.out; omega⟩, by repeat (first | exact Drawn0.refl _ | apply Drawn0.step)⟩
     ·replace c10 := Bool.eq_false_iff.mpr c10
      subst c10
      have H1 : (some false) = some r := by rw [if_neg (show ¬ (false = true) by decide)] at H; exact H
      clear H
      have H := H1
      clear H1
      obtain rfl := Option.some.inj H
      have p349 : 0 ≤ (x10_1 : Int) := odt
      have q349 : x10_1 < (l0.length : Int) := odt
      obtain ⟨ad349, e349, hx349_0⟩ := Kd.at_int HR0.out x10_1 p349 q349
      cases e349
      replace p349 := eq_true p349
      replace q349 := eq_true q349
      obtain ⟨i012, hi012, _, hsz12, _⟩ := info_parts info3
      obtain ⟨hcut12, hA12, hC12⟩ := print_take_of (P := Tryd.prog) (Value.int .i64) 0 22 3 .i64 Tryd.underlying22 hi012 hsz12 (some ad349) c0 l0 x10_1 (odt) (odt) HC0.out
      have HR350 := aM (Kd.C_of_reads (h1 := fun _ => rfl) (hA12 _ (Kd.reads_of_C HR0.out)))
      have HC350 := aM hC12
      clear hA12 hC12 hi012 hsz12
      go_wp2_with (first | ((with_reducible refine gate_callee (f := 80) rfl ?_); refine goesL_ (some 19) rfl rfl Tryd.func80 (by kernel_rfl) rfl #[.slice (some ad349) (l0.take (x10_1 : Int).toNat).length c0] rfl (by (try simp only [List.map_toArray, List.map_cons, List.map_nil]); first | done | (rw [show (l0.take (x10_1 : Int).toNat).length = x10_1.toNat from (by rw [List.length_take]; have h_ : (x10_1 : Int) ≤ (l0.length : Int) := odt; omega)] <;> rfl) | rfl | (simp only [List.length_drop, List.length_take]; rfl)) ?_; (with_reducible refine (spec_asBound.calls k1 _ _ (l0.take (x10_1 : Int).toNat) t351 _ ?side1 ?side2 A8.out).mono ?_); (case side1 => repeat (first | exact HR350.out | (with_reducible refine Kd.C_alloc ?_ _) | (with_reducible refine Kd.C_drewN ?_ _) | (with_reducible refine Kd.C_drew ?_))); (case side2 => exact HC350.out); rintro e w' ⟨rfl, ⟨nd, rfl⟩⟩; refine ⟨_, rfl, ?_⟩) | ((with_reducible refine gate_callee (f := 82) rfl ?_); refine gL (some 20) Tryd.func82 #[.int .i64 (rd l0 x10_1), .int .i64 0, .int .i64 t351] ?_; (with_reducible refine (spec_l1In.calls (rd l0 x10_1) 0 t351 false _ A9.out).mono ?_); rintro e w' ⟨rfl, ⟨nd, rfl⟩⟩; refine ⟨_, rfl, ?_⟩))
      go_ret
      exact ⟨by first | rfl | (simp; done) | (simp [*]; done), by repeat (first | exact Drawn0.refl _ | apply Drawn0.step)⟩
    ·rw [if_neg c3] at H
     have c3b0 := decide_eq_false c3
     clear c3
     obtain rfl := Option.some.inj H
     go_wp2
     go_ret
     exact ⟨by first | rfl | (simp; done) | (simp [*]; done), by repeat (first | exact Drawn0.refl _ | apply Drawn0.step)⟩

def spec_l1Least.f (a0 : Int) (a1 : Int) : Option (Int) := if a0 < a1 then (some a0) else (some a1)
set_option maxHeartbeats 8000000 in
set_option maxRecDepth 100000 in
theorem spec_l1Least.calls (a0 : Int) (a1 : Int) (r : Int) (w : World) (h : spec_l1Least.f a0 a1 = some r) :
  Calls Tryd.prog 117 #[.int .i64 a0, .int .i64 a1] w fun e w' => e = .returned (.int .i64 r) ∧ Drawn0 w w' := by
 have H : (if a0 < a1 then (some a0) else (some a1)) = some r := h
 clear h
 by_cases c3 : a0 < a1
 ·rw [if_pos c3] at H
  have c3b0 := decide_eq_true c3
  clear c3
  obtain rfl := Option.some.inj H
  go_enter Tryd.func117, Tryd.ntmps117
  go_wp2
  go_ret
  exact ⟨by first | rfl | (simp; done) | (simp [*]; done), by repeat (first | exact Drawn0.refl _ | apply Drawn0.step)⟩
 ·rw [if_neg c3] at H
  have c3b0 := decide_eq_false c3
  clear c3
  obtain rfl := Option.some.inj H
  go_enter Tryd.func117, Tryd.ntmps117
  go_wp2
  go_ret
  exact ⟨by first | rfl | (simp; done) | (simp [*]; done), by repeat (first | exact Drawn0.refl _ | apply Drawn0.step)⟩

end Go.Proofs.YtcodionjhcmfhaaDoor.Be
