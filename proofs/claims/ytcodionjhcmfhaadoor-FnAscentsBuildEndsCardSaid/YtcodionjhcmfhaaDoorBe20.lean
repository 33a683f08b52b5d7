-- Written by hook.py, a program of this session (wip/), which runs the kit's print.py with its own parts; Lean checks it.
import Derived.Test.YtcodionjhcmfhaaDoorBe0
import Derived.Test.YtcodionjhcmfhaaDoorBe1
import Derived.Test.YtcodionjhcmfhaaDoorBe18
import Derived.Test.YtcodionjhcmfhaaDoorBe19
import Derived.Test.YtcodionjhcmfhaaDoorBeXSq
namespace Go.Proofs.YtcodionjhcmfhaaDoor.Be
open Go.RowKit Go.Proofs.YtcodionjhcmfhaaDoorW.PrintWords Go.Proofs.YtcodionjhcmfhaaDoorW.PrintLast Go.Proofs.YtcodionjhcmfhaaDoorW.PrintMore Go.Proofs.YtcodionjhcmfhaaDoor.Sq
attribute [local go_sem] max2_int min2_int max_two min_two max_three min_three max_four min_four   -- for this text's walks alone
set_option linter.unusedVariables false
set_option linter.unusedSimpArgs false

attribute [local go_sem high] eqA76
def spec_asIntervals.l0 : Nat → List (S76) → Int → List Int → Int → Int → Option ((List (S76)))
 | 0, _, _, _, _, _ => none
 | k + 1, x3, x4, x7, x8, x9 => if x9 < x8 then (if 0 ≤ x9 then (if x9 < (x7.length : Int) then ((spec_asGrow.f k x3 (rd x7 x9) x4).bind fun bt390 => (spec_asIntervals.l0 k bt390.1 bt390.2 x7 x8 (wrap64 (x9 + 1)))) else (none)) else (none)) else (some x3)
def spec_asIntervals.f (k : Nat) (l0 : List Int) : Option ((List (S76))) := spec_asIntervals.l0 k ([] : List (S76)) 0 l0 (l0.length : Int) 0
set_option maxHeartbeats 8000000 in
set_option maxRecDepth 100000 in
theorem spec_asIntervals.calls (k : Nat) (A0 : Option Addr) (c0 : Nat) (l0 : List Int) (r : List (S76)) (w : World) (hr0 : Kd.C (Kd.int .i64) w A0 l0.length l0) (hc0 : l0.length ≤ c0) (h : spec_asIntervals.f k l0 = some r) :
  Calls Tryd.prog 53 #[.slice A0 l0.length c0] w fun e w' => ∃ v0_ : Value, e = .returned (v0_) ∧ Kd.R k76 76 w' w.heap.size (fun _ => True) v0_ r ∧ Below w.heap.size w w' := by
 have HR0 := aM hr0
 have HC0 := aM hc0
 clear hr0 hc0
 have HB := aM (Below.refl w.heap.size w)
 have H : (spec_asIntervals.l0 k ([] : List (S76)) 0 l0 (l0.length : Int) 0) = some r := h
 clear h
 have H' := aM H
 clear H
 go_enter Tryd.func53, Tryd.ntmps53
 go_wp2
 go_loopg [3, 4, 9] k (fun kq v3 v4 v9 w' => ∃ (x3_1 : List (S76)) (x4_1 : Int) (x9_1 : Int), v4 = .int .i64 x4_1 ∧ v9 = .int .i64 x9_1 ∧ Aside0 (spec_asIntervals.l0 kq x3_1 x4_1 l0 (l0.length : Int) x9_1 = some r) ∧ Aside0 (kq ≤ k) ∧ Aside0 (Kd.R k76 76 w' w.heap.size (fun _ => True) v3 x3_1) ∧ Aside0 (Below w.heap.size w w'))
 case atStart => exact ⟨(([] : List (S76))), (0), (0), eR, eR, H', ⟨Nat.le_refl _⟩, ⟨by first | exact Kd.R_nil _ _ _ _ _ | exact Kd.N_nil _ _ _ _ _ | exact Kd.V_nil _ _ _ _ _ | exact Kd.Q_nil _ _ _ _ _ | exact Kd.S_nil _ _ _ _ _⟩, ⟨bq⟩⟩
 case round =>
  clear H'
  obtain ⟨x3_1, x4_1, x9_1, rfl, rfl, HA, HK1, HO_3, HB⟩ := hrel
  cases gk with
  | zero => exact absurd HA.out (by simp [spec_asIntervals.l0])
  | succ k1 =>
   have H := HA.out
   clear HA
   simp only [spec_asIntervals.l0] at H
   by_cases c2 : x9_1 < (l0.length : Int)
   ·rw [if_pos c2] at H
    have c2b0 := decide_eq_true c2
    clear c2
    replace H := iD2 H
    obtain ⟨c3b0, c4b0, H⟩ := H
    replace H := bS H
    obtain ⟨⟨t390, t391⟩, A5, H⟩ := H
    try dsimp only at H
    have H' := aM H
    clear H
    have p389 : 0 ≤ (x9_1 : Int) := odt
    have q389 : x9_1 < (l0.length : Int) := odt
    obtain ⟨ad389, e389, hx389_0⟩ := Kd.at_int HR0.out x9_1 p389 q389
    cases e389
    replace hx389_0 := (HB.out.cell (World.block_lt_of_cell? w _ hx389_0)).trans hx389_0
    replace p389 := eq_true p389
    replace q389 := eq_true q389
    obtain ⟨Ao6, co6, eo6⟩ := Kd.R_slice HO_3.out
    subst eo6
    go_wp2_with (first | ((with_reducible refine gate_callee (f := 83) rfl ?_); refine gL (some 17) Tryd.func83 #[.slice Ao6 x3_1.length co6, .int .i64 (rd l0 x9_1), .int .i64 x4_1] ?_; (with_reducible refine (spec_asGrow.calls k1 _ _ x3_1 (rd l0 x9_1) x4_1 t390 t391 _ (cQ ((Kd.R_reads' HO_3.out).2.2)) ((Kd.R_reads' HO_3.out).2.1) A5.out).mono ?_); rintro e w7 ⟨v392, rfl, ho0, hb⟩; refine ⟨_, rfl, ?_⟩; have _ := aM (Kd.R_elder' (rQ HO_3) (Kd.R_base ho0) hb); have _ := aM (Kd.R_lower (Kd.R_new' ho0 (Kd.R_lt (rQ HO_3))) (below_size bq)); have _ := aM (below_step bq hb); clear HO_3 HB; rename_i HO_3 HO393 HB; (try clear hb); (try clear hb2); (try clear hk); (try clear hi); (try clear ho0)))
    go_roundg k1
    case measure => have := HK1.out; omega
    case rel => exact ⟨(t390), (t391), (wrap64 (x9_1 + 1)), eR, eR, H', ⟨by have := HK1.out; omega⟩, ⟨by (with_reducible repeat first|apply rA|apply rN|apply rD); exact Kd.R_mono HO393.out (fun _ hk => trivial)⟩, ⟨bq⟩⟩
   ·rw [if_neg c2] at H
    have c2b0 := decide_eq_false c2
    clear c2
    obtain rfl := Option.some.inj H
    go_wp2
    go_ret
    exact ⟨_, eE, rQ HO_3, bq⟩

def spec_IntervalsOfAscent.f (k : Nat) (l0 : List Int) : Option ((List (S76)) × Bool) := (spec_asGood.f k l0).bind fun t394 => (if t394 = true then (if (l0.length : Int) > 10 then (some (([] : List (S76)), false)) else ((spec_asIntervals.f k l0).bind fun t395 => (some (t395, true)))) else (some (([] : List (S76)), false)))
set_option maxHeartbeats 8000000 in
set_option maxRecDepth 100000 in
theorem spec_IntervalsOfAscent.calls (k : Nat) (A0 : Option Addr) (c0 : Nat) (l0 : List Int) (r1 : List (S76)) (r2 : Bool) (w : World) (hr0 : Kd.C (Kd.int .i64) w A0 l0.length l0) (hc0 : l0.length ≤ c0) (h : spec_IntervalsOfAscent.f k l0 = some (r1, r2)) :
  Calls Tryd.prog 26 #[.slice A0 l0.length c0] w fun e w' => ∃ v0_ : Value, e = .returned (.tuple #[v0_, .bool r2]) ∧ Kd.R k76 76 w' w.heap.size (fun _ => True) v0_ r1 ∧ Below w.heap.size w w' := by
 have HR0 := aM hr0
 have HC0 := aM hc0
 clear hr0 hc0
 have HB := aM (Below.refl w.heap.size w)
 have H : ((spec_asGood.f k l0).bind fun t394 => (if t394 = true then (if (l0.length : Int) > 10 then (some (([] : List (S76)), false)) else ((spec_asIntervals.f k l0).bind fun t395 => (some (t395, true)))) else (some (([] : List (S76)), false)))) = some (r1, r2) := h
 clear h
 replace H := bS H
 obtain ⟨t394, A2, H⟩ := H
 try dsimp only at H
 by_cases c3 : t394 = true
 ·subst c3
  have H1 : (if (l0.length : Int) > 10 then (some (([] : List (S76)), false)) else ((spec_asIntervals.f k l0).bind fun t395 => (some (t395, true)))) = some (r1, r2) := by rw [if_pos rfl] at H; exact H
  clear H
  have H := H1
  clear H1
  by_cases c4 : (l0.length : Int) > 10
  ·rw [if_pos c4] at H
   have c4b0 := decide_eq_true c4
   have c4b1 : decide (10 < l0.length) = true := decide_eq_true (by omega)
   clear c4
   simp only [Option.some.injEq, Prod.mk.injEq] at H
   obtain ⟨rfl, rfl⟩ := H
   go_enter Tryd.func26, Tryd.ntmps26
   go_wp2_with (first | ((with_reducible refine gate_callee (f := 52) rfl ?_); refine gL (some 5) Tryd.func52 #[.slice A0 l0.length c0] ?_; (with_reducible refine (spec_asGood.calls k _ _ l0 true _ (cQ HR0.out) HC0.out A2.out).mono ?_); rintro e w' ⟨rfl, ⟨nd, rfl⟩⟩; refine ⟨_, rfl, ?_⟩))
   go_ret2
   exact ⟨_, eE, by first | exact Kd.R_nil _ _ _ _ _ | exact Kd.N_nil _ _ _ _ _ | exact Kd.V_nil _ _ _ _ _ | exact Kd.Q_nil _ _ _ _ _ | exact Kd.S_nil _ _ _ _ _, bq⟩
  ·rw [if_neg c4] at H
   have c4b0 := decide_eq_false c4
   have c4b1 : decide (10 < l0.length) = false := decide_eq_false (by omega)
   clear c4
   replace H := bS H
   obtain ⟨t395, A5, H⟩ := H
   try dsimp only at H
   simp only [Option.some.injEq, Prod.mk.injEq] at H
   obtain ⟨rfl, rfl⟩ := H
   go_enter Tryd.func26, Tryd.ntmps26
   go_wp2_with (first | ((with_reducible refine gate_callee (f := 52) rfl ?_); refine gL (some 5) Tryd.func52 #[.slice A0 l0.length c0] ?_; (with_reducible refine (spec_asGood.calls k _ _ l0 true _ (cQ HR0.out) HC0.out A2.out).mono ?_); rintro e w' ⟨rfl, ⟨nd, rfl⟩⟩; refine ⟨_, rfl, ?_⟩) | ((with_reducible refine gate_callee (f := 53) rfl ?_); refine gL (some 13) Tryd.func53 #[.slice A0 l0.length c0] ?_; (with_reducible refine (spec_asIntervals.calls k _ _ l0 t395 _ (cQ HR0.out) HC0.out A5.out).mono ?_); rintro e w6 ⟨v396, rfl, ho0, hb⟩; refine ⟨_, rfl, ?_⟩; have _ := aM (Kd.R_lower ho0 (below_size bq)); have _ := aM (below_step bq hb); clear HB; rename_i HO397 HB; (try clear hb); (try clear hb2); (try clear hk); (try clear hi); (try clear ho0)))
   go_ret2
   exact ⟨_, eE, rQ HO397, bq⟩
 ·replace c3 := Bool.eq_false_iff.mpr c3
  subst c3
  have H1 : (some (([] : List (S76)), false)) = some (r1, r2) := by rw [if_neg (show ¬ (false = true) by decide)] at H; exact H
  clear H
  have H := H1
  clear H1
  simp only [Option.some.injEq, Prod.mk.injEq] at H
  obtain ⟨rfl, rfl⟩ := H
  go_enter Tryd.func26, Tryd.ntmps26
  go_wp2_with (first | ((with_reducible refine gate_callee (f := 52) rfl ?_); refine gL (some 5) Tryd.func52 #[.slice A0 l0.length c0] ?_; (with_reducible refine (spec_asGood.calls k _ _ l0 false _ (cQ HR0.out) HC0.out A2.out).mono ?_); rintro e w' ⟨rfl, ⟨nd, rfl⟩⟩; refine ⟨_, rfl, ?_⟩))
  go_ret2
  exact ⟨_, eE, by first | exact Kd.R_nil _ _ _ _ _ | exact Kd.N_nil _ _ _ _ _ | exact Kd.V_nil _ _ _ _ _ | exact Kd.Q_nil _ _ _ _ _ | exact Kd.S_nil _ _ _ _ _, bq⟩

def laws_pSameIntervals.l0 : Nat → List (S76) → List (S76) → Int → Int → Option (Bool)
 | 0, _, _, _, _ => none
 | k + 1, x0, x1, x12, x13 => if x13 < x12 then (if 0 ≤ x13 then (if x13 < (x0.length : Int) then (if x13 < (x1.length : Int) then (if (!(((rd_T76 x0 x13).f0) == ((rd_T76 x1 x13).f0)) || (!(((rd_T76 x0 x13).f1) == ((rd_T76 x1 x13).f1)))) = true then (some false) else (laws_pSameIntervals.l0 k x0 x1 x12 (wrap64 (x13 + 1)))) else (none)) else (none)) else (none)) else (some true)
def laws_pSameIntervals.f (k : Nat) (l0 : List (S76)) (l1 : List (S76)) : Option (Bool) := if (l0.length : Int) = (l1.length : Int) then (laws_pSameIntervals.l0 k l0 l1 (l0.length : Int) 0) else (some false)
set_option maxHeartbeats 8000000 in
set_option maxRecDepth 100000 in
theorem laws_pSameIntervals.calls (k : Nat) (A0 : Option Addr) (c0 : Nat) (l0 : List (S76)) (A1 : Option Addr) (c1 : Nat) (l1 : List (S76)) (r : Bool) (w : World) (hr0 : Kd.C k76 w A0 l0.length l0) (hc0 : l0.length ≤ c0) (hr1 : Kd.C k76 w A1 l1.length l1) (hc1 : l1.length ≤ c1) (h : laws_pSameIntervals.f k l0 l1 = some r) :
  Calls Tryd.prog 27 #[.slice A0 l0.length c0, .slice A1 l1.length c1] w fun e w' => e = .returned (.bool r) ∧ Drawn0 w w' := by
 have hu76 := Tryd.underlying76
 have HR0 := aM hr0
 have HC0 := aM hc0
 clear hr0 hc0
 have HR1 := aM hr1
 have HC1 := aM hc1
 clear hr1 hc1
 have H : (if (l0.length : Int) = (l1.length : Int) then (laws_pSameIntervals.l0 k l0 l1 (l0.length : Int) 0) else (some false)) = some r := h
 clear h
 by_cases c3 : (l0.length : Int) = (l1.length : Int)
 ·rw [if_pos c3] at H
  have c3b0 : ((l0.length : Int) == (l1.length : Int)) = true := beq_iff_eq.mpr c3
  have c3b1 : ((l0.length : Int) != (l1.length : Int)) = false := bne_eq_false_iff_eq.mpr c3
  have c3b2 : (l0.length == l1.length) = true := by first | simpa using c3 | (simp at c3 ⊢; omega)
  clear c3
  have H' := aM H
  clear H
  go_enter Tryd.func27, Tryd.ntmps27
  go_wp2
  repeat (go_quiet (fail); try go_wp2)
  go_loopg [13] k (fun kq v13 w' => ∃ (x13_1 : Int), v13 = .int .i64 x13_1 ∧ Aside0 (laws_pSameIntervals.l0 kq l0 l1 (l0.length : Int) x13_1 = some r) ∧ Aside0 (kq ≤ k) ∧ Drawn0 w w')
  case atStart => exact ⟨(0), eR, H', ⟨Nat.le_refl _⟩, by repeat (first | exact Drawn0.refl _ | apply Drawn0.step)⟩
  case round =>
   clear H'
   try clear c1
   try clear c2
   try clear p2
   try clear c3
   try clear c3b0
   try clear c3b1
   try clear c3b2
   obtain ⟨x13_1, rfl, HA, HK1, ⟨m1, rfl⟩⟩ := hrel
   cases gk with
   | zero => exact absurd HA.out (by simp [laws_pSameIntervals.l0])
   | succ k1 =>
    have H := HA.out
    clear HA
    simp only [laws_pSameIntervals.l0] at H
    by_cases c4 : x13_1 < (l0.length : Int)
    ·rw [if_pos c4] at H
     have c4b0 := decide_eq_true c4
     clear c4
     replace H := iD3 H
     obtain ⟨c5b0, c6b0, c7b0, H⟩ := H
     by_cases c8 : (!(((rd_T76 l0 x13_1).f0) == ((rd_T76 l1 x13_1).f0)) || (!(((rd_T76 l0 x13_1).f1) == ((rd_T76 l1 x13_1).f1)))) = true
     ·rw [if_pos c8] at H
      have c8b0 : (!(((rd_T76 l0 x13_1).f0) == ((rd_T76 l1 x13_1).f0)) || (!(((rd_T76 l0 x13_1).f1) == ((rd_T76 l1 x13_1).f1)))) = true := c8
      clear c8
      obtain rfl := Option.some.inj H
      have p398 : 0 ≤ (x13_1 : Int) := odt
      have q398 : x13_1 < (l0.length : Int) := odt
      obtain ⟨ad398, e398, hx398_0, hx398_1⟩ := at_T76 HR0.out x13_1 p398 q398
      cases e398
      replace p398 := eq_true p398
      replace q398 := eq_true q398
      have p399 : 0 ≤ (x13_1 : Int) := odt
      have q399 : x13_1 < (l1.length : Int) := odt
      obtain ⟨ad399, e399, hx399_0, hx399_1⟩ := at_T76 HR1.out x13_1 p399 q399
      cases e399
      replace p399 := eq_true p399
      replace q399 := eq_true q399
      go_wp2
      repeat (go_quiet (fail); try go_wp2)
      go_ret
      exact ⟨by first | rfl | (simp; done) | (simp [*]; done), by repeat (first | exact Drawn0.refl _ | apply Drawn0.step)⟩
     ·rw [if_neg c8] at H
      have c8b0 : (!(((rd_T76 l0 x13_1).f0) == ((rd_T76 l1 x13_1).f0)) || (!(((rd_T76 l0 x13_1).f1) == ((rd_T76 l1 x13_1).f1)))) = false := by simpa using c8
      clear c8
      have H' := aM H
      clear H
      have p398 : 0 ≤ (x13_1 : Int) := odt
      have q398 : x13_1 < (l0.length : Int) := odt
      obtain ⟨ad398, e398, hx398_0, hx398_1⟩ := at_T76 HR0.out x13_1 p398 q398
      cases e398
      replace p398 := eq_true p398
      replace q398 := eq_true q398
      have p399 : 0 ≤ (x13_1 : Int) := odt
      have q399 : x13_1 < (l1.length : Int) := odt
      obtain ⟨ad399, e399, hx399_0, hx399_1⟩ := at_T76 HR1.out x13_1 p399 q399
      cases e399
      replace p399 := eq_true p399
      replace q399 := eq_true q399
      go_wp2
      repeat (go_quiet (fail); try go_wp2)
      go_roundg k1
      case measure => have := HK1.out; omega
      case rel => exact ⟨(wrap64 (x13_1 + 1)), eR, H', ⟨by have := HK1.out; omega⟩, by repeat (first | exact Drawn0.refl _ | apply Drawn0.step)⟩
    ·rw [if_neg c4] at H
     have c4b0 := decide_eq_false c4
     clear c4
     obtain rfl := Option.some.inj H
     go_wp2
     repeat (go_quiet (fail); try go_wp2)
     go_ret
     exact ⟨by first | rfl | (simp; done) | (simp [*]; done), by repeat (first | exact Drawn0.refl _ | apply Drawn0.step)⟩
 ·rw [if_neg c3] at H
  have c3b0 : ((l0.length : Int) == (l1.length : Int)) = false := beq_eq_false_iff_ne.mpr c3
  have c3b1 : ((l0.length : Int) != (l1.length : Int)) = true := bne_iff_ne.mpr c3
  have c3b2 : (l0.length == l1.length) = false := by first | simpa using c3 | (simp at c3 ⊢; omega)
  obtain rfl := Option.some.inj H
  go_enter Tryd.func27, Tryd.ntmps27
  go_wp2
  repeat (go_quiet (fail); try go_wp2)
  go_ret
  exact ⟨by first | rfl | (simp; done) | (simp [*]; done), by repeat (first | exact Drawn0.refl _ | apply Drawn0.step)⟩

def impl_orderOf.rel.relRow (p : Nat → Nat → Bool) (i : Nat) : Nat → Int
  | 0 => 0
  | j + 1 => if p i j = true then Go.bits .or .i64 (impl_orderOf.rel.relRow p i j) (shl .i64 1 (j : Int)) else impl_orderOf.rel.relRow p i j
def impl_orderOf.rel.relL (p : Nat → Nat → Bool) (n i j : Nat) : List Int := (List.range n).map fun (a : Nat) => if a < i then impl_orderOf.rel.relRow p a n else if a = i then impl_orderOf.rel.relRow p i j else 0
open impl_orderOf.rel Go.Proofs.YtcodionjhcmfhaaDoor.Live in
theorem impl_orderOf.rel.relL_len (p : Nat → Nat → Bool) (n i j : Nat) : (relL p n i j).length = n := by simp [relL]
open impl_orderOf.rel Go.Proofs.YtcodionjhcmfhaaDoor.Live in
theorem impl_orderOf.rel.relL_get (p : Nat → Nat → Bool) (n i j : Nat) (h : i < n) : (relL p n i j).getD i 0 = relRow p i j := by simp [relL, List.getD_eq_getElem?_getD, h]
open impl_orderOf.rel Go.Proofs.YtcodionjhcmfhaaDoor.Live in
theorem impl_orderOf.rel.relL_set (p : Nat → Nat → Bool) (n i j : Nat) (x : Int) (h : i < n) (hx : relRow p i (j + 1) = x) : (relL p n i j).set i x = relL p n i (j + 1) := by
 subst hx
 apply List.ext_getElem (by simp [relL])
 intro a h1 h2
 rw [List.getElem_set]
 simp only [relL, List.getElem_map, List.getElem_range]
 by_cases c : i = a
 · subst c; simp
 · rw [if_neg c, if_neg (show ¬ a = i from fun h => c h.symm)]; simp [show ¬ a = i from fun h => c h.symm]
open impl_orderOf.rel Go.Proofs.YtcodionjhcmfhaaDoor.Live in
theorem impl_orderOf.rel.relL_same (p : Nat → Nat → Bool) (n i j : Nat) (hx : p i j ≠ true) : relL p n i j = relL p n i (j + 1) := by
 simp only [relL, relRow, if_neg hx]
open impl_orderOf.rel Go.Proofs.YtcodionjhcmfhaaDoor.Live in
theorem impl_orderOf.rel.relL_next (p : Nat → Nat → Bool) (n i : Nat) : relL p n i n = relL p n (i + 1) 0 := by
 simp only [relL]
 apply List.map_congr_left
 intro a _
 by_cases c : a < i
 · rw [if_pos c, if_pos (by omega)]
 · {
 by_cases c2 : a = i
 · subst c2; simp
 · rw [if_neg c, if_neg c2, if_neg (by omega)]; simp [relRow]}
open impl_orderOf.rel Go.Proofs.YtcodionjhcmfhaaDoor.Live in
theorem impl_orderOf.rel.relL_start (p : Nat → Nat → Bool) (n : Nat) : relL p n 0 0 = List.replicate n 0 := by
 apply List.ext_getElem (by simp [relL]); intro a h2 h3; simp [relL, relRow]
open impl_orderOf.rel Go.Proofs.YtcodionjhcmfhaaDoor.Live in
theorem impl_orderOf.rel.relL_end (p : Nat → Nat → Bool) (n : Nat) : relL p n n 0 = (List.range n).map fun a => relRow p a n := by
 simp only [relL]
 apply List.map_congr_left
 intro a ha
 rw [if_pos (List.mem_range.1 ha)]
theorem impl_orderOf.rel.shl_one (j : Nat) (h : j ≤ 60) : shl .i64 1 (j : Int) = wrap64 (2 ^ j) := by
 unfold shl
 rw [Int.toNat_natCast, show IntKind.i64.bits = 64 from rfl, Nat.min_eq_left (by omega), Int.one_mul]; exact Go.Proofs.YtcodionjhcmfhaaDoorW.PrintLast.i64_w _
set_option maxHeartbeats 8000000 in
set_option maxRecDepth 100000 in
open impl_orderOf.rel Go.Proofs.YtcodionjhcmfhaaDoor.Live in
theorem impl_orderOf.rel.gen (n : Nat) (g : Nat) (p : Nat → Nat → Bool) (w : World) (hn : n ≤ 60)
    (hcall : ∀ (w1 : World) (i j : Nat), i < n → j < n → Below w.heap.size w w1 → Calls Tryd.prog 85 #[.int .i64 (i : Int), .int .i64 (j : Int), .pointer (some ⟨g, 0, none⟩)] w1 fun e w2 => e = .returned (.bool (p i j)) ∧ Drawn0 w1 w2) :
    Calls Tryd.prog 84 #[.int .i64 (n : Int), .func (.func 85) #[] #[.pointer (some ⟨g, 0, none⟩)]] w fun e w' => ∃ v1_ : Value, e = .returned (.agg #[.int .i64 (n : Int), v1_]) ∧ Kd.R (Kd.int .i64) 3 w' w.heap.size (fun _ => True) v1_ ((List.range n).map fun a => relRow p a n) ∧ Below w.heap.size w w' := by
 have HF := aM hcall; clear hcall
 have H := Live.start w
 have h1 : ((n : Int) : Int).toNat = n := Int.toNat_natCast _
 go_enter Tryd.func84, Tryd.ntmps84
 go_wp2_with (first | ((with_reducible refine gate_dst (N := 10) rfl ?_); refine Kd.R_make (Kd.int .i64) _ 3 rfl (N := 10) rfl 22 _ _ rfl (n : Int) rfl rfl Tryd.underlying22 (.int .i64 0) 8 info3 rfl (by decide) (by omega) 0 (ok := fun _ => True) (okp := fun _ => True) rfl (fun _ hk => hk) trivial (by omega) (by omega) (Below.refl _ _) (Nat.le_refl _) ?_; intro v_ w1 hs_ hb hg_ hnew_; clear hg_ hnew_; replace H := (H.new #[.int .i64 0, .slice none 0 0] 31).add (o := row _ _ _ _) hb hs_; clear hs_ hb; obtain ⟨Ao, co, rfl, _, _⟩ := H.form 1 rfl))
 replace H := H.new #[.int .i64 (n : Int), .slice Ao (List.replicate ((n : Int) : Int).toNat (0 : Int)).length co] 31
 simp only [h1, List.length_replicate, List.nil_append, List.cons_append] at H
 rw [← relL_start p n] at H
 go_loopg [13] (n + 1) (fun kq v13 w' => ∃ i : Nat, v13 = .int .i64 (i : Int) ∧ Aside0 (i ≤ n ∧ kq = n - i + 1) ∧ Aside0 (Live w w' [var w.heap.size #[.int .i64 0, .slice none 0 0] 31, row (Kd.int .i64) 3 (.slice Ao n co) (relL p n i 0), var w1.heap.size #[.int .i64 (n : Int), .slice Ao n co] 31]))
 case atStart => exact ⟨0, rfl, ⟨Nat.zero_le _, rfl⟩, ⟨H⟩⟩
 case round => (
 clear H
 obtain ⟨i, rfl, HI, H⟩ := hrel
 rename World => wq
 by_cases ci : i < n
 · {
 have c1 : decide ((i : Int) < (n : Int)) = true := decide_eq_true (by omega)
 have c2 : decide (i < n) = true := decide_eq_true ci
 have HI1 : Aside0 (i + 1 ≤ n ∧ n - i = n - (i + 1) + 1) := ⟨by omega⟩
 have HIM : Aside0 (n - i < n - i + 1) := ⟨by omega⟩
 have HIW : Aside0 (Value.int .i64 (wrap64 ((i : Int) + 1)) = .int .i64 ((i + 1 : Nat) : Int)) := ⟨by rw [show wrap64 ((i : Int) + 1) = ((i + 1 : Nat) : Int) from by unfold wrap64; omega]⟩
 go_wp2_with (fail)
 go_loopg [17] (n + 1) (fun kq v17 w' => ∃ j : Nat, v17 = .int .i64 (j : Int) ∧ Aside0 (j ≤ n ∧ kq = n - j + 1) ∧ Aside0 (Live w w' [var w.heap.size #[.int .i64 0, .slice none 0 0] 31, row (Kd.int .i64) 3 (.slice Ao n co) (relL p n i j), var w1.heap.size #[.int .i64 (n : Int), .slice Ao n co] 31]))
 case atStart => exact ⟨0, rfl, ⟨Nat.zero_le _, rfl⟩, H⟩
 case round => (
 clear H
 obtain ⟨j, rfl, HJ, H⟩ := hrel
 by_cases cj : j < n
 · {
 have d1 : decide ((j : Int) < (n : Int)) = true := decide_eq_true (by omega)
 have d2 : decide (j < n) = true := decide_eq_true cj
 have HJ1 : Aside0 (j + 1 ≤ n ∧ n - j = n - (j + 1) + 1) := ⟨by omega⟩
 have HJM : Aside0 (n - j < n - j + 1) := ⟨by omega⟩
 have HJW : Aside0 (Value.int .i64 (wrap64 ((j : Int) + 1)) = .int .i64 ((j + 1 : Nat) : Int)) := ⟨by rw [show wrap64 ((j : Int) + 1) = ((j + 1 : Nat) : Int) from by unfold wrap64; omega]⟩
 have HC := aM (HF.out wr i j ci cj H.out.below)
 go_wp2_with (fail)
 refine HC.out.mono ?_
 rintro e w' ⟨rfl, nd, rfl⟩
 replace H := aM (H.out.drewN nd)
 generalize wr.drewN nd = wd at H ⊢
 obtain ⟨go1, c', e1, _, _⟩ := H.out.form1 1 rfl (by rw [relL_len]; omega)
 injection e1 with ea en ec
 subst ea; subst ec; clear en
 cases hq : p i j with
 | true => {
 have hbo : wd.cell? ⟨w1.heap.size, 1, none⟩ = some (.slice (some ⟨go1, 0, none⟩) n co) := H.out.cell 2 rfl 1
 obtain ⟨hxc, hfc⟩ := H.out.cellI 1 rfl i (by rw [relL_len]; omega)
 rw [relL_get _ _ _ _ ci] at hxc
 have HN := aM (H.out.putI 1 rfl i (Go.bits .or .i64 (relRow p i j) (wrap64 (2 ^ j))))
 rw [relL_set p n i j _ ci (by rw [relRow, if_pos hq, shl_one j (by omega)])] at HN
 go_wp2_with (fail)
 go_region
 go_wp2
 all_goals go_roundg (n - j)
 case measure => have := HJ.out; omega
 case rel => exact ⟨j + 1, rfl, HJ1, ⟨HN.out.drew⟩⟩}
 | false => {
 rw [relL_same p n i j (by rw [hq]; simp)] at H
 go_wp2
 go_roundg (n - j)
 case measure => have := HJ.out; omega
 case rel => exact ⟨j + 1, rfl, HJ1, H⟩}}
 · {
 have d1 : decide ((j : Int) < (n : Int)) = false := decide_eq_false (by omega)
 have d2 : decide (j < n) = false := decide_eq_false cj
 obtain rfl : j = n := by have := HJ.out; omega
 rw [relL_next] at H
 go_wp2
 go_roundg (j - i)
 case measure => have := HI.out; omega
 case rel => exact ⟨i + 1, rfl, HI1, H⟩})}
 · {
 have c1 : decide ((i : Int) < (n : Int)) = false := decide_eq_false (by omega)
 have c2 : decide (i < n) = false := decide_eq_false ci
 obtain rfl : i = n := by have := HI.out; omega
 rw [relL_end] at H
 have k1 : wq.heap[w1.heap.size]? = some (.cells #[.int .i64 (i : Int), .slice Ao i co] 31 (0, 0)) := H.out.blk 2 rfl
 have k2 : wq.cell? ⟨w1.heap.size, 0, none⟩ = some (.int .i64 (i : Int)) := H.out.cell 2 rfl 0
 have k3 : wq.cell? ⟨w1.heap.size, 1, none⟩ = some (.slice Ao i co) := H.out.cell 2 rfl 1
 have k4 : wq.cell? ⟨w.heap.size, 0, none⟩ = some (.int .i64 0) := H.out.cell 0 rfl 0
 have k5 : wq.cell? ⟨w.heap.size, 1, none⟩ = some (.slice none 0 0) := H.out.cell 0 rfl 1
 have k6 : ∀ j, wq.frozen? ⟨w.heap.size, j, none⟩ = false := H.out.frozen 0 rfl
 have HZ := aM ((H.out.setVar 0 rfl 0 (.int .i64 (i : Int))).setVar 0 rfl 1 (.slice Ao i co))
 go_wp2
 refine bodyPost_ret (results_cell_row rfl _ _ w.heap.size 31 #[.int .i64 (i : Int), .slice Ao i co] (0, 0) _ rfl (HZ.out.blk 0 rfl) Tryd.underlying31 rfl (by kernel_rfl)) rfl ?_
 exact ⟨_, rfl, HZ.out.get 1 rfl, HZ.out.below⟩})
def impl_orderOf.before (xs : List S76) (i j : Nat) : Bool := decide ((rd_T76 xs (i : Int)).f1 < (rd_T76 xs (j : Int)).f0)
def impl_orderOf.f (l0 : List S76) : Option (Int × List Int) := if l0.length ≤ 60 then some ((l0.length : Int), (List.range l0.length).map fun a => impl_orderOf.rel.relRow (impl_orderOf.before l0) a l0.length) else none
set_option maxHeartbeats 4000000 in
set_option maxRecDepth 100000 in
theorem impl_orderOf.ask (A : Option Addr) (c : Nat) (xs : List S76) (g : Nat) (i j : Nat) (w : World) (hg : w.cell? ⟨g, 0, none⟩ = some (.slice A xs.length c)) (hr : Kd.C k76 w A xs.length xs) (hi : i < xs.length) (hj : j < xs.length) :
    Calls Tryd.prog 85 #[.int .i64 (i : Int), .int .i64 (j : Int), .pointer (some ⟨g, 0, none⟩)] w fun e w' => e = .returned (.bool (impl_orderOf.before xs i j)) ∧ Drawn0 w w' := by
 obtain ⟨ad, rfl, hx0, hx1⟩ := at_T76 hr (i : Int) (by omega) (by omega)
 obtain ⟨ad2, e2, hy0, hy1⟩ := at_T76 hr (j : Int) (by omega) (by omega)
 obtain rfl : ad = ad2 := by injection e2
 clear e2 hr
 have h1 : decide ((i : Int) < (xs.length : Int)) = true := decide_eq_true (by omega)
 have h2 : decide ((j : Int) < (xs.length : Int)) = true := decide_eq_true (by omega)
 simp only [Int.toNat_natCast] at hx0 hx1 hy0 hy1
 go_enter Tryd.func85, Tryd.ntmps85
 go_wp2
 go_quiet (fail)
 go_wp2
 go_ret
 exact ⟨rfl, ⟨nq, rfl⟩⟩
set_option maxHeartbeats 4000000 in
set_option maxRecDepth 100000 in
open Go.Proofs.YtcodionjhcmfhaaDoor.Live in
theorem impl_orderOf.calls (A0 : Option Addr) (c0 : Nat) (l0 : List S76) (r1 : Int) (r2 : List Int) (w : World) (hr0 : Kd.C k76 w A0 l0.length l0) (hc0 : l0.length ≤ c0) (h : impl_orderOf.f l0 = some (r1, r2)) :
    Calls Tryd.prog 54 #[.slice A0 l0.length c0] w fun e w' => ∃ v1_ : Value, e = .returned (.agg #[.int .i64 r1, v1_]) ∧ Kd.R (Kd.int .i64) 3 w' w.heap.size (fun _ => True) v1_ r2 ∧ Below w.heap.size w w' := by
 unfold impl_orderOf.f at h
 by_cases hn : l0.length ≤ 60
 · {
 rw [if_pos hn] at h
 obtain ⟨rfl, rfl⟩ := Prod.mk.inj (Option.some.inj h)
 clear h
 have H := ((Live.start w).new #[.slice A0 l0.length c0] 48).new #[.int .i64 0, .slice none 0 0] 31
 rw [size_alloc] at H
 have HH := aM H; clear H
 have HC := aM hr0; clear hr0
 go_enter Tryd.func54, Tryd.ntmps54
 go_wp2_with (fail)
 refine (impl_orderOf.rel.gen l0.length w.heap.size (impl_orderOf.before l0) _ hn ?_).mono ?_
 · {
 intro w1 i j hi hj hb
 have H1 := HH.out.step hb
 exact impl_orderOf.ask A0 c0 l0 w.heap.size i j w1 (H1.cell 0 rfl 0) (Kd.C_below HC.out H1.below) hi hj}
 rintro e w1 ⟨v_, rfl, hs_, hb⟩
 have H := HH.out.add (o := row _ _ _ _) hb hs_
 clear hb hs_ HH
 obtain ⟨A, c, rfl, _, _⟩ := H.form 2 rfl
 generalize hL : (List.range l0.length).map (fun a => impl_orderOf.rel.relRow (impl_orderOf.before l0) a l0.length) = L at H ⊢
 have HL := aM hL; clear hL
 have k4 : w1.cell? ⟨w.heap.size + 1, 0, none⟩ = some (.int .i64 0) := H.cell 1 rfl 0
 have k5 : w1.cell? ⟨w.heap.size + 1, 1, none⟩ = some (.slice none 0 0) := H.cell 1 rfl 1
 have k6 : ∀ j, w1.frozen? ⟨w.heap.size + 1, j, none⟩ = false := H.frozen 1 rfl
 have HZ := aM ((H.setVar 1 rfl 0 (.int .i64 (l0.length : Int))).setVar 1 rfl 1 (.slice A L.length c))
 clear H
 go_wp2
 refine bodyPost_ret (results_cell_row rfl _ _ (w.heap.size + 1) 31 #[.int .i64 (l0.length : Int), .slice A L.length c] (0, 0) _ rfl (HZ.out.blk 1 rfl) Tryd.underlying31 rfl (by kernel_rfl)) rfl ?_
 exact ⟨_, rfl, by rw [HL.out]; exact HZ.out.get 2 rfl, HZ.out.below⟩}
 · rw [if_neg hn] at h; exact absurd h (by simp)
end Go.Proofs.YtcodionjhcmfhaaDoor.Be
