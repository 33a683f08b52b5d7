-- Written by hook.py (wip/), over the kit's print.py.
import Derived.Test.YtcodionjhcmfhaaGreatDoorOa2
import Derived.Test.YtcodionjhcmfhaaGreatDoorOa11
import Derived.Test.YtcodionjhcmfhaaGreatDoorOa21
import Derived.Test.YtcodionjhcmfhaaGreatDoorOaXSq
namespace Go.Proofs.YtcodionjhcmfhaaGreatDoor.Oa
open Go.RowKit Go.Proofs.YtcodionjhcmfhaaGreatDoorW.PrintWords Go.Proofs.YtcodionjhcmfhaaGreatDoorW.PrintLast Go.Proofs.YtcodionjhcmfhaaGreatDoorW.PrintMore Go.Proofs.YtcodionjhcmfhaaGreatDoor.Sq
attribute [local go_sem] max2_int min2_int max_two min_two max_three min_three max_four min_four
set_option linter.unusedVariables false
set_option linter.unusedSimpArgs false
set_option maxHeartbeats 8000000
set_option maxRecDepth 100000
def Y40.l0 : Nat → Int → List (List Int) → Int → Int → Option (Int)
 | 0, _, _, _, _ => none
 | k + 1, x3, x7, x8, x9 => if x9 < x8 then (if 0 ≤ x9 then (if x9 < (x7.length : Int) then ((Y47.f k (rd_L3 x7 x9)).bind fun t445 => (Y40.l0 k (wrap64 (x3 + t445)) x7 x8 (wrap64 (x9 + 1)))) else (none)) else (none)) else (some x3)
def Y40.f (k : Nat) (l0_0 : List (List Int)) : Option (Int) := Y40.l0 k 0 l0_0 (l0_0.length : Int) 0
theorem Y40.calls (k : Nat) (A0_0 : Option Addr) (c0_0 : Nat) (l0_0 : List (List Int)) (r : Int) (w : World) (hr0_0 : Kd.C (Kd.slice 3 (Kd.int .i64)) w A0_0 l0_0.length l0_0) (hc0_0 : l0_0.length ≤ c0_0) (h : Y40.f k l0_0 = some r) :
  Calls Tryz.prog 46 #[.agg #[.slice A0_0 l0_0.length c0_0]] w fun e w' => e = .returned (.int .i64 r) ∧ Below w.heap.size w w' := by
 have hu30 := Tryz.underlying30
 have HR0_0 := aM hr0_0
 have HC0_0 := aM hc0_0
 clear hr0_0 hc0_0
 have HB := aM (Below.refl w.heap.size w)
 have H : (Y40.l0 k 0 l0_0 (l0_0.length : Int) 0) = some r := h
 clear h
 have H' := aM H
 clear H
 go_enter Tryz.func46, Tryz.ntmps46
 go_wp2_with (first | ((with_reducible refine gate_dst (N := 1) rfl ?_); refine bF 1 30 #[.slice A0_0 l0_0.length c0_0] bq ?_; intro gb443 w2 hg hb _ _ _ _; clear HB; rename_i HB BK443 GW443 GE443; clear hb hg; have hcz3_0 := zc10 BK443; have hfz3_0 := blk_frozen BK443.out 0))
 go_loopg [3, 9] k (fun kq v3 v9 w' => ∃ (x3_1 : Int) (x9_1 : Int), v3 = .int .i64 x3_1 ∧ v9 = .int .i64 x9_1 ∧ Aside0 (Y40.l0 kq x3_1 l0_0 (l0_0.length : Int) x9_1 = some r) ∧ Aside0 (kq ≤ k) ∧ Aside0 (w'.heap[gb443]? = some (.cells #[(.slice A0_0 l0_0.length c0_0)] 30 (0, 0))) ∧ Aside0 (Below w.heap.size w w'))
 case atStart => exact ⟨(0), (0), eR, eR, H', ⟨Nat.le_refl _⟩, ⟨qQ BK443⟩, ⟨bq⟩⟩
 case round =>
  clear H'
  try clear hcz3_0
  try clear hfz3_0
  obtain ⟨x3_1, x9_1, rfl, rfl, HA, HK1, BK443, HB⟩ := hrel
  cases gk with
  | zero => exact absurd HA.out (by simp [Y40.l0])
  | succ k1 =>
   have H := HA.out
   clear HA
   simp only [Y40.l0] at H
   by_cases c4 : x9_1 < (l0_0.length : Int)
   ·rw [if_pos c4] at H
    have c4b0 := decide_eq_true c4
    clear c4
    replace H := iD2 H
    obtain ⟨c5b0, c6b0, H⟩ := H
    replace H := bS H
    obtain ⟨t445, A7, H⟩ := H
    try dsimp only at H
    have H' := aM H
    clear H
    have p444 : 0 ≤ (x9_1 : Int) := odt
    have q444 : x9_1 < (l0_0.length : Int) := odt
    obtain ⟨ad444, A444_0, c444_0, e444, hx444_0, hl444_0, hi444_0⟩ := at_L3 HR0_0.out x9_1 p444 q444
    cases e444
    replace hx444_0 := (HB.out.cell (World.block_lt_of_cell? w _ hx444_0)).trans hx444_0
    have HR444_0 := aM hi444_0
    have HC444_0 := aM hl444_0
    clear hi444_0 hl444_0
    replace p444 := eq_true p444
    replace q444 := eq_true q444
    go_wp2_with (first | ((with_reducible refine gate_callee (f := 88) rfl ?_); refine gL (some 15) Tryz.func88 #[.slice A444_0 (rd_L3 l0_0 x9_1).length c444_0] ?_; (with_reducible refine (Y47.calls k1 _ _ (rd_L3 l0_0 x9_1) t445 _ (cQ (Kd.C_below HR444_0.out HB.out)) HC444_0.out A7.out).mono ?_); rintro e w' ⟨rfl, ⟨nd, rfl⟩⟩; refine ⟨_, rfl, ?_⟩))
    go_roundg k1
    case measure => have := HK1.out; omega
    case rel => exact ⟨(wrap64 (x3_1 + t445)), (wrap64 (x9_1 + 1)), eR, eR, H', ⟨by have := HK1.out; omega⟩, ⟨qQ BK443⟩, ⟨bq⟩⟩
   ·rw [if_neg c4] at H
    have c4b0 := decide_eq_false c4
    clear c4
    obtain rfl := Option.some.inj H
    go_wp2
    go_ret
    exact ⟨eE, bq⟩
def Y77.f (a0 : Int) (a1 : Int) : Option (Int) := if a0 > a1 then (some a0) else (some a1)
theorem Y77.calls (a0 : Int) (a1 : Int) (r : Int) (w : World) (h : Y77.f a0 a1 = some r) :
  Calls Tryz.prog 111 #[.int .i64 a0, .int .i64 a1] w fun e w' => e = .returned (.int .i64 r) ∧ Drawn0 w w' := by
 have H : (if a0 > a1 then (some a0) else (some a1)) = some r := h
 clear h
 by_cases c3 : a0 > a1
 ·rw [if_pos c3] at H
  have c3b0 := decide_eq_true c3
  clear c3
  obtain rfl := Option.some.inj H
  go_enter Tryz.func111, Tryz.ntmps111
  go_wp2
  go_ret
  exact ⟨by first | rfl | (simp; done) | (simp [*]; done), dQ⟩
 ·rw [if_neg c3] at H
  have c3b0 := decide_eq_false c3
  clear c3
  obtain rfl := Option.some.inj H
  go_enter Tryz.func111, Tryz.ntmps111
  go_wp2
  go_ret
  exact ⟨by first | rfl | (simp; done) | (simp [*]; done), dQ⟩
def Y39.l0 : Nat → Int → List Int → Int → Int → Option (Int)
 | 0, _, _, _, _ => none
 | k + 1, x3, x6, x7, x8 => if x8 < x7 then (if 0 ≤ x8 then (if x8 < (x6.length : Int) then ((Y77.f x3 (rd x6 x8)).bind fun t447 => (Y39.l0 k t447 x6 x7 (wrap64 (x8 + 1)))) else (none)) else (none)) else (some x3)
def Y39.f (k : Nat) (l0 : List Int) : Option (Int) := Y39.l0 k (-1) l0 (l0.length : Int) 0
theorem Y39.calls (k : Nat) (A0 : Option Addr) (c0 : Nat) (l0 : List Int) (r : Int) (w : World) (hr0 : Kd.C (Kd.int .i64) w A0 l0.length l0) (hc0 : l0.length ≤ c0) (h : Y39.f k l0 = some r) :
  Calls Tryz.prog 74 #[.slice A0 l0.length c0] w fun e w' => e = .returned (.int .i64 r) ∧ Drawn0 w w' := by
 have HR0 := aM hr0
 have HC0 := aM hc0
 clear hr0 hc0
 have H : (Y39.l0 k (-1) l0 (l0.length : Int) 0) = some r := h
 clear h
 have H' := aM H
 clear H
 go_enter Tryz.func74, Tryz.ntmps74
 go_wp2
 go_loopg [3, 8] k (fun kq v3 v8 w' => ∃ (x3_1 : Int) (x8_1 : Int), v3 = .int .i64 x3_1 ∧ v8 = .int .i64 x8_1 ∧ Aside0 (Y39.l0 kq x3_1 l0 (l0.length : Int) x8_1 = some r) ∧ Aside0 (kq ≤ k) ∧ Drawn0 w w')
 case atStart => exact ⟨((-1)), (0), eR, eR, H', ⟨Nat.le_refl _⟩, dQ⟩
 case round =>
  clear H'
  obtain ⟨x3_1, x8_1, rfl, rfl, HA, HK1, ⟨m1, rfl⟩⟩ := hrel
  cases gk with
  | zero => exact absurd HA.out (by simp [Y39.l0])
  | succ k1 =>
   have H := HA.out
   clear HA
   simp only [Y39.l0] at H
   by_cases c2 : x8_1 < (l0.length : Int)
   ·rw [if_pos c2] at H
    have c2b0 := decide_eq_true c2
    clear c2
    replace H := iD2 H
    obtain ⟨c3b0, c4b0, H⟩ := H
    replace H := bS H
    obtain ⟨t447, A5, H⟩ := H
    try dsimp only at H
    have H' := aM H
    clear H
    have p446 : 0 ≤ (x8_1 : Int) := odt
    have q446 : x8_1 < (l0.length : Int) := odt
    obtain ⟨ad446, e446, hx446_0⟩ := Kd.at_int HR0.out x8_1 p446 q446
    cases e446
    replace p446 := eq_true p446
    replace q446 := eq_true q446
    go_wp2_with (first | ((with_reducible refine gate_callee (f := 111) rfl ?_); refine gL (some 14) Tryz.func111 #[.int .i64 x3_1, .int .i64 (rd l0 x8_1)] ?_; (with_reducible refine (Y77.calls x3_1 (rd l0 x8_1) t447 _ A5.out).mono ?_); rintro e w' ⟨rfl, ⟨nd, rfl⟩⟩; refine ⟨_, rfl, ?_⟩))
    go_roundg k1
    case measure => have := HK1.out; omega
    case rel => exact ⟨(t447), (wrap64 (x8_1 + 1)), eR, eR, H', ⟨by have := HK1.out; omega⟩, dQ⟩
   ·rw [if_neg c2] at H
    have c2b0 := decide_eq_false c2
    clear c2
    obtain rfl := Option.some.inj H
    go_wp2
    go_ret
    exact ⟨by first | rfl | (simp; done) | (simp [*]; done), dQ⟩
def Y45.l0 : Nat → Int → Int → List Int → Int → Int → Option (Bool)
 | 0, _, _, _, _, _ => none
 | k + 1, x1, x2, x9, x10, x11 => if x11 < x10 then (if 0 ≤ x11 then (if x11 < (x9.length : Int) then ((Y54.f (rd x9 x11) x1 x2).bind fun t449 => (if t449 = true then (Y45.l0 k x1 x2 x9 x10 (wrap64 (x11 + 1))) else (some false))) else (none)) else (none)) else (some true)
def Y45.f (k : Nat) (l0 : List Int) (a1 : Int) (a2 : Int) : Option (Bool) := Y45.l0 k a1 a2 l0 (l0.length : Int) 0
theorem Y45.calls (k : Nat) (A0 : Option Addr) (c0 : Nat) (l0 : List Int) (a1 : Int) (a2 : Int) (r : Bool) (w : World) (hr0 : Kd.C (Kd.int .i64) w A0 l0.length l0) (hc0 : l0.length ≤ c0) (h : Y45.f k l0 a1 a2 = some r) :
  Calls Tryz.prog 76 #[.slice A0 l0.length c0, .int .i64 a1, .int .i64 a2] w fun e w' => e = .returned (.bool r) ∧ Drawn0 w w' := by
 have HR0 := aM hr0
 have HC0 := aM hc0
 clear hr0 hc0
 have H : (Y45.l0 k a1 a2 l0 (l0.length : Int) 0) = some r := h
 clear h
 have H' := aM H
 clear H
 go_enter Tryz.func76, Tryz.ntmps76
 go_wp2
 go_loopg [11] k (fun kq v11 w' => ∃ (x11_1 : Int), v11 = .int .i64 x11_1 ∧ Aside0 (Y45.l0 kq a1 a2 l0 (l0.length : Int) x11_1 = some r) ∧ Aside0 (kq ≤ k) ∧ Drawn0 w w')
 case atStart => exact ⟨(0), eR, H', ⟨Nat.le_refl _⟩, dQ⟩
 case round =>
  clear H'
  obtain ⟨x11_1, rfl, HA, HK1, ⟨m1, rfl⟩⟩ := hrel
  cases gk with
  | zero => exact absurd HA.out (by simp [Y45.l0])
  | succ k1 =>
   have H := HA.out
   clear HA
   simp only [Y45.l0] at H
   by_cases c4 : x11_1 < (l0.length : Int)
   ·rw [if_pos c4] at H
    have c4b0 := decide_eq_true c4
    clear c4
    replace H := iD2 H
    obtain ⟨c5b0, c6b0, H⟩ := H
    replace H := bS H
    obtain ⟨t449, A7, H⟩ := H
    try dsimp only at H
    by_cases c8 : t449 = true
    ·subst c8
     have H1 : (Y45.l0 k1 a1 a2 l0 (l0.length : Int) (wrap64 (x11_1 + 1))) = some r := by rw [if_pos rfl] at H; exact H
     clear H
     have H := H1
     clear H1
     have H' := aM H
     clear H
     have p448 : 0 ≤ (x11_1 : Int) := odt
     have q448 : x11_1 < (l0.length : Int) := odt
     obtain ⟨ad448, e448, hx448_0⟩ := Kd.at_int HR0.out x11_1 p448 q448
     cases e448
     replace p448 := eq_true p448
     replace q448 := eq_true q448
     go_wp2_with (first | ((with_reducible refine gate_callee (f := 101) rfl ?_); refine gL (some 18) Tryz.func101 #[.int .i64 (rd l0 x11_1), .int .i64 a1, .int .i64 a2] ?_; (with_reducible refine (Y54.calls (rd l0 x11_1) a1 a2 true _ A7.out).mono ?_); rintro e w' ⟨rfl, ⟨nd, rfl⟩⟩; refine ⟨_, rfl, ?_⟩))
     go_roundg k1
     case measure => have := HK1.out; omega
     case rel => exact ⟨(wrap64 (x11_1 + 1)), eR, H', ⟨by have := HK1.out; omega⟩, dQ⟩
    ·replace c8 := Bool.eq_false_iff.mpr c8
     subst c8
     have H1 : (some false) = some r := by rw [if_neg (show ¬ (false = true) by decide)] at H; exact H
     clear H
     have H := H1
     clear H1
     obtain rfl := Option.some.inj H
     have p448 : 0 ≤ (x11_1 : Int) := odt
     have q448 : x11_1 < (l0.length : Int) := odt
     obtain ⟨ad448, e448, hx448_0⟩ := Kd.at_int HR0.out x11_1 p448 q448
     cases e448
     replace p448 := eq_true p448
     replace q448 := eq_true q448
     go_wp2_with (first | ((with_reducible refine gate_callee (f := 101) rfl ?_); refine gL (some 18) Tryz.func101 #[.int .i64 (rd l0 x11_1), .int .i64 a1, .int .i64 a2] ?_; (with_reducible refine (Y54.calls (rd l0 x11_1) a1 a2 false _ A7.out).mono ?_); rintro e w' ⟨rfl, ⟨nd, rfl⟩⟩; refine ⟨_, rfl, ?_⟩))
     go_ret
     exact ⟨by first | rfl | (simp; done) | (simp [*]; done), dQ⟩
   ·rw [if_neg c4] at H
    have c4b0 := decide_eq_false c4
    clear c4
    obtain rfl := Option.some.inj H
    go_wp2
    go_ret
    exact ⟨by first | rfl | (simp; done) | (simp [*]; done), dQ⟩
def Y49.l0 : Nat → Int → List Int → List (List Int) → Int → Int → Option (List Int)
 | 0, _, _, _, _, _ => none
 | k + 1, x1, x5, x9, x10, x11 => if x11 < x10 then (if 0 ≤ x11 then (if x11 < (x9.length : Int) then (if 0 ≤ x1 then (if x1 < ((rd_L3 x9 x11).length : Int) then (if x5.length < 17592186044416 then (Y49.l0 k x1 (x5 ++ [rd (rd_L3 x9 x11) x1]) x9 x10 (wrap64 (x11 + 1))) else (none)) else (none)) else (none)) else (none)) else (none)) else (some x5)
def Y49.f (k : Nat) (l0_0 : List (List Int)) (a1 : Int) : Option (List Int) := Y49.l0 k a1 ([] : List Int) l0_0 (l0_0.length : Int) 0
theorem Y49.calls (k : Nat) (A0_0 : Option Addr) (c0_0 : Nat) (l0_0 : List (List Int)) (a1 : Int) (r : List Int) (w : World) (hr0_0 : Kd.C (Kd.slice 3 (Kd.int .i64)) w A0_0 l0_0.length l0_0) (hc0_0 : l0_0.length ≤ c0_0) (h : Y49.f k l0_0 a1 = some r) :
  Calls Tryz.prog 77 #[.agg #[.slice A0_0 l0_0.length c0_0], .int .i64 a1] w fun e w' => ∃ v0_ : Value, e = .returned (v0_) ∧ Kd.R (Kd.int .i64) 3 w' w.heap.size (fun _ => True) v0_ r ∧ Below w.heap.size w w' := by
 have hu30 := Tryz.underlying30
 have HR0_0 := aM hr0_0
 have HC0_0 := aM hc0_0
 clear hr0_0 hc0_0
 have HB := aM (Below.refl w.heap.size w)
 have H : (Y49.l0 k a1 ([] : List Int) l0_0 (l0_0.length : Int) 0) = some r := h
 clear h
 have H' := aM H
 clear H
 go_enter Tryz.func77, Tryz.ntmps77
 go_wp2_with (first | ((with_reducible refine gate_dst (N := 2) rfl ?_); refine bF 2 30 #[.slice A0_0 l0_0.length c0_0] bq ?_; intro gb450 w3 hg hb _ _ _ _; clear HB; rename_i HB BK450 GW450 GE450; clear hb hg; have hcz4_0 := zc10 BK450; have hfz4_0 := blk_frozen BK450.out 0))
 go_loopg [5, 11] k (fun kq v5 v11 w' => ∃ (x5_1 : List Int) (x11_1 : Int), v11 = .int .i64 x11_1 ∧ Aside0 (Y49.l0 kq a1 x5_1 l0_0 (l0_0.length : Int) x11_1 = some r) ∧ Aside0 (kq ≤ k) ∧ Aside0 (Kd.R (Kd.int .i64) 3 w' w.heap.size (fun _ => True) v5 x5_1) ∧ Aside0 (w'.heap[gb450]? = some (.cells #[(.slice A0_0 l0_0.length c0_0)] 30 (0, 0))) ∧ Aside0 (Below w.heap.size w w'))
 case atStart => exact ⟨(([] : List Int)), (0), eR, H', ⟨Nat.le_refl _⟩, ⟨by first | exact Kd.R_nil _ _ _ _ _ | exact Kd.N_nil _ _ _ _ _ | exact Kd.V_nil _ _ _ _ _ | exact Kd.Q_nil _ _ _ _ _ | exact Kd.S_nil _ _ _ _ _⟩, ⟨qQ BK450⟩, ⟨bq⟩⟩
 case round =>
  clear H'
  try clear hcz4_0
  try clear hfz4_0
  obtain ⟨x5_1, x11_1, rfl, HA, HK1, HO_5, BK450, HB⟩ := hrel
  cases gk with
  | zero => exact absurd HA.out (by simp [Y49.l0])
  | succ k1 =>
   have H := HA.out
   clear HA
   simp only [Y49.l0] at H
   by_cases c5 : x11_1 < (l0_0.length : Int)
   ·rw [if_pos c5] at H
    have c5b0 := decide_eq_true c5
    clear c5
    replace H := iD4 H
    obtain ⟨c6b0, c7b0, c8b0, c9b0, H⟩ := H
    replace H := iS H
    obtain ⟨c10, H⟩ := H
    have LMc10 := aM c10
    clear c10
    obtain ⟨y453, hy453⟩ := nE ((x5_1 ++ [rd (rd_L3 l0_0 x11_1) a1]) : List Int)
    try rw [← hy453] at H
    try with_reducible replace H := (Option.bind_some _ _).symm.trans H
    try dsimp only at H
    have Ny453 := aM hy453
    clear hy453
    have H' := aM H
    clear H
    have p451 : 0 ≤ (x11_1 : Int) := odt
    have q451 : x11_1 < (l0_0.length : Int) := odt
    obtain ⟨ad451, A451_0, c451_0, e451, hx451_0, hl451_0, hi451_0⟩ := at_L3 HR0_0.out x11_1 p451 q451
    cases e451
    replace hx451_0 := (HB.out.cell (World.block_lt_of_cell? w _ hx451_0)).trans hx451_0
    have HR451_0 := aM hi451_0
    have HC451_0 := aM hl451_0
    clear hi451_0 hl451_0
    replace p451 := eq_true p451
    replace q451 := eq_true q451
    have p452 : 0 ≤ (a1 : Int) := odt
    have q452 : a1 < ((rd_L3 l0_0 x11_1).length : Int) := odt
    obtain ⟨ad452, e452, hx452_0⟩ := Kd.at_int HR451_0.out a1 p452 q452
    cases e452
    replace hx452_0 := (HB.out.cell (World.block_lt_of_cell? w _ hx452_0)).trans hx452_0
    replace p452 := eq_true p452
    replace q452 := eq_true q452
    go_wp2_with (first | ((with_reducible refine gate_builtin (b := .append) (xs := #[.tmp 15, .tmp 20]) rfl ?_); at_builtin; refine Kd.R_append (Kd.int .i64) (w0 := w) w.heap.size rfl (.tmp 15) (.tmp 20) 24 3 (.int .i64 0) 8 rfl Tryz.underlying24 info3 rfl (by decide) (by omega) u5 x5_1 (rd (rd_L3 l0_0 x11_1) a1) [.int .i64 (rd (rd_L3 l0_0 x11_1) a1)] (fun _ => True) (fun _ => False) rfl rfl ?aP (fun _ hk => hk.elim) ?aF ?aO ?aB ?aS ?aL ?_; (case aP => exact rfl); (case aB => exact bq); (case aF => exact (fun _ _ => trivial)); (case aO => exact (rQ HO_5)); (case aS => exact (below_size bq)); (case aL => have := LMc10.out; omega); intro v454 w11 ho hb hg hat; rw [← Ny453.out] at ho; have _ := aM (blk_grown (g := gb450) (o := .cells #[.slice (some ad451) l0_0.length c0_0] 30 (0, 0)) (qQ BK450) hg (Kd.R_ne HO_5.out BK450.out (by decide))); have _ := aM (hb); have _ := aM (ho); clear BK450 HB HO_5; rename_i BK450 HB HO455; clear ho hb hg hat))
    go_roundg k1
    case measure => have := HK1.out; omega
    case rel => exact ⟨(y453), (wrap64 (x11_1 + 1)), eR, H', ⟨by have := HK1.out; omega⟩, ⟨rQ HO455⟩, ⟨qQ BK450⟩, ⟨bq⟩⟩
   ·rw [if_neg c5] at H
    have c5b0 := decide_eq_false c5
    clear c5
    obtain rfl := Option.some.inj H
    go_wp2
    go_ret
    exact ⟨_, eE, rQ HO_5, bq⟩
mutual
def Y7.l0 : Nat → Int → List (List Int) → Int → Int → List (List Int) → Option (Bool)
 | 0, _, _, _, _, _ => none
 | k + 1, x3, x15, x16, x17, x457000 => if x17 < x16 then (if 0 ≤ x17 then (if x17 < (x15.length : Int) then (if ((rd_L3 x15 x17).length : Int) = x3 then ((Y45.f k (rd_L3 x15 x17) 0 12).bind fun t458 => (if t458 = true then ((Y39.f k (rd_L3 x15 x17)).bind fun t459 => (Y7.j1 k x3 x17 (rd_L3 x15 x17) x15 x16 x17 (t459 == 0) x457000)) else (Y7.j1 k x3 x17 (rd_L3 x15 x17) x15 x16 x17 true x457000))) else (Y7.j1 k x3 x17 (rd_L3 x15 x17) x15 x16 x17 true x457000)) else (none)) else (none)) else (Y7.l2 k (x457000.length : Int) 0 x457000)
def Y7.j1 : Nat → Int → Int → List Int → List (List Int) → Int → Int → Bool → List (List Int) → Option (Bool)
 | 0, _, _, _, _, _, _, _, _ => none
 | k + 1, x3, x4, x5, x15, x16, x17, x35, x457000 => if x35 = true then (some false) else (Y7.l1 k x3 x4 x15 x16 x17 x5 (x5.length : Int) 0 x457000)
def Y7.l1 : Nat → Int → Int → List (List Int) → Int → Int → List Int → Int → Int → List (List Int) → Option (Bool)
 | 0, _, _, _, _, _, _, _, _, _ => none
 | k + 1, x3, x4, x15, x16, x17, x36, x37, x38, x457000 => if x38 < x37 then (if 0 ≤ x38 then (if x38 < (x36.length : Int) then (if x38 < x4 then (if (rd x36 x38) > 0 then (some false) else (Y7.l1 k x3 x4 x15 x16 x17 x36 x37 (wrap64 (x38 + 1)) x457000)) else (Y7.l1 k x3 x4 x15 x16 x17 x36 x37 (wrap64 (x38 + 1)) x457000)) else (none)) else (none)) else (Y7.l0 k x3 x15 x16 (wrap64 (x17 + 1)) x457000)
def Y7.l2 : Nat → Int → Int → List (List Int) → Option (Bool)
 | 0, _, _, _ => none
 | k + 1, x54, x55, x457000 => if x55 < x54 then ((Y49.f k x457000 x55).bind fun t462 => ((Y39.f k t462).bind fun t465 => (if t465 = 0 then (some false) else (Y7.l2 k x54 (wrap64 (x55 + 1)) x457000)))) else ((Y40.f k x457000).bind fun t461 => (some (decide (t461 ≤ 12))))
end
def Y7.f (k : Nat) (l0_0 : List (List Int)) : Option (Bool) := if (l0_0.length : Int) > 12 then (some false) else (Y7.l0 k (l0_0.length : Int) l0_0 (l0_0.length : Int) 0 l0_0)
set_option maxHeartbeats 8000000 in
set_option maxRecDepth 100000 in
theorem Y7.calls (k : Nat) (A0_0 : Option Addr) (c0_0 : Nat) (l0_0 : List (List Int)) (r : Bool) (w : World) (hr0_0 : Kd.C (Kd.slice 3 (Kd.int .i64)) w A0_0 l0_0.length l0_0) (hc0_0 : l0_0.length ≤ c0_0) (h : Y7.f k l0_0 = some r) :
  Calls Tryz.prog 39 #[.agg #[.slice A0_0 l0_0.length c0_0]] w fun e w' => e = .returned (.bool r) ∧ Below w.heap.size w w' := by
 have hu30 := Tryz.underlying30
 have HR0_0 := aM hr0_0
 have HC0_0 := aM hc0_0
 clear hr0_0 hc0_0
 have HB := aM (Below.refl w.heap.size w)
 unfold Y7.f at h
 have H := h
 clear h
 by_cases c2 : (l0_0.length : Int) > 12
 ·rw [if_pos c2] at H
  have c2b0 := decide_eq_true c2
  have c2b1 : decide (12 < l0_0.length) = true := decide_eq_true (by omega)
  clear c2
  obtain rfl := Option.some.inj H
  go_enter Tryz.func39, Tryz.ntmps39
  go_wp2_with (first | ((with_reducible refine gate_dst (N := 1) rfl ?_); refine bF 1 30 #[.slice A0_0 l0_0.length c0_0] bq ?_; intro gb456 w3 hg hb _ _ _ _; clear HB; rename_i HB BK456 GW456 GE456; clear hb hg; have hcz4_0 := zc10 BK456; have hfz4_0 := blk_frozen BK456.out 0))
  go_ret
  exact ⟨eE, bq⟩
 ·rw [if_neg c2] at H
  have c2b0 := decide_eq_false c2
  have c2b1 : decide (12 < l0_0.length) = false := decide_eq_false (by omega)
  clear c2
  have H' := aM H
  clear H
  go_enter Tryz.func39, Tryz.ntmps39
  go_wp2_with (first | ((with_reducible refine gate_dst (N := 1) rfl ?_); refine bF 1 30 #[.slice A0_0 l0_0.length c0_0] bq ?_; intro gb456 w5 hg hb _ _ _ _; clear HB; rename_i HB BK456 GW456 GE456; clear hb hg; have hcz6_0 := zc10 BK456; have hfz6_0 := blk_frozen BK456.out 0))
  go_loopg [17] k (fun kq v17 w' => ∃ (x17_1 : Int), v17 = .int .i64 x17_1 ∧ Aside0 (Y7.l0 kq (l0_0.length : Int) l0_0 (l0_0.length : Int) x17_1 l0_0 = some r) ∧ Aside0 (kq ≤ k) ∧ Aside0 (w'.heap[gb456]? = some (.cells #[(.slice A0_0 l0_0.length c0_0)] 30 (0, 0))) ∧ Aside0 (Below w.heap.size w w'))
  case atStart => exact ⟨(0), eR, H', ⟨Nat.le_refl _⟩, ⟨qQ BK456⟩, ⟨bq⟩⟩
  case round =>
   clear H'
   try clear c2
   try clear c2b0
   try clear c2b1
   try clear hcz4_0
   try clear hcz6_0
   try clear hfz4_0
   try clear hfz6_0
   obtain ⟨x17_1, rfl, HA, HK1, BK456, HB⟩ := hrel
   cases gk with
   | zero => exact absurd HA.out (by simp [Y7.l0])
   | succ k1 =>
    have H := HA.out
    clear HA
    simp only [Y7.l0] at H
    by_cases c7 : x17_1 < (l0_0.length : Int)
    ·rw [if_pos c7] at H
     have c7b0 := decide_eq_true c7
     clear c7
     replace H := iD2 H
     obtain ⟨c8b0, c9b0, H⟩ := H
     have HC10 := aM H
     clear H
     have p457 : 0 ≤ (x17_1 : Int) := odt
     have q457 : x17_1 < (l0_0.length : Int) := odt
     obtain ⟨ad457, A457_0, c457_0, e457, hx457_0, hl457_0, hi457_0⟩ := at_L3 HR0_0.out x17_1 p457 q457
     cases e457
     replace hx457_0 := (HB.out.cell (World.block_lt_of_cell? w _ hx457_0)).trans hx457_0
     have HR457_0 := aM hi457_0
     have HC457_0 := aM hl457_0
     clear hi457_0 hl457_0
     replace p457 := eq_true p457
     replace q457 := eq_true q457
     go_upto_region 7 with (fail)
     go_cut [35] (fun v35 wc => ∃ (kq : Nat) (x35_9 : Bool), v35 = .bool x35_9 ∧ Aside0 (Y7.j1 kq (l0_0.length : Int) x17_1 (rd_L3 l0_0 x17_1) l0_0 (l0_0.length : Int) x17_1 x35_9 l0_0 = some r) ∧ Aside0 (kq ≤ k1) ∧ Aside0 (wc.heap[gb456]? = some (.cells #[(.slice (some ad457) l0_0.length c0_0)] 30 (0, 0))) ∧ Aside0 (Below w.heap.size w wc))
     case first =>
      have H := HC10.out
      clear HC10
      by_cases c11 : ((rd_L3 l0_0 x17_1).length : Int) = (l0_0.length : Int)
      ·rw [if_pos c11] at H
       have c11b0 : (((rd_L3 l0_0 x17_1).length : Int) == (l0_0.length : Int)) = true := beq_iff_eq.mpr c11
       have c11b1 : (((rd_L3 l0_0 x17_1).length : Int) != (l0_0.length : Int)) = false := bne_eq_false_iff_eq.mpr c11
       have c11b2 : ((rd_L3 l0_0 x17_1).length == l0_0.length) = true := by first | simpa using c11 | (simp at c11 ⊢; omega)
       clear c11
       (first | rw [c11b0] | (simp only [i64_w, i32_w]; rw [c11b0]) | skip)
       replace H := bS H
       obtain ⟨t458, A12, H⟩ := H
       try dsimp only at H
       by_cases c13 : t458 = true
       ·subst c13
        have H1 : ((Y39.f k1 (rd_L3 l0_0 x17_1)).bind fun t459 => (Y7.j1 k1 (l0_0.length : Int) x17_1 (rd_L3 l0_0 x17_1) l0_0 (l0_0.length : Int) x17_1 (t459 == 0) l0_0)) = some r := by rw [if_pos rfl] at H; exact H
        clear H
        have H := H1
        clear H1
        replace H := bS H
        obtain ⟨t459, A14, H⟩ := H
        try dsimp only at H
        have H' := aM H
        clear H
        go_wp2_with (first | (go_at_call 76; (with_reducible refine (Y45.calls k1 _ _ (rd_L3 l0_0 x17_1) 0 12 true _ (cQ (Kd.C_below HR457_0.out HB.out)) HC457_0.out A12.out).mono ?_); rintro e w' ⟨rfl, ⟨nd, rfl⟩⟩) | (go_at_call 74; (with_reducible refine (Y39.calls k1 _ _ (rd_L3 l0_0 x17_1) t459 _ (cQ (Kd.C_below HR457_0.out bq)) HC457_0.out A14.out).mono ?_); rintro e w' ⟨rfl, ⟨nd, rfl⟩⟩))
        go_meet
        case rel => exact ⟨_, ((t459 == 0)), eR, H', ⟨by have := HK1.out; first | omega | exact Nat.le_refl _⟩, ⟨qQ BK456⟩, ⟨bq⟩⟩
       ·replace c13 := Bool.eq_false_iff.mpr c13
        subst c13
        have H1 : (Y7.j1 k1 (l0_0.length : Int) x17_1 (rd_L3 l0_0 x17_1) l0_0 (l0_0.length : Int) x17_1 true l0_0) = some r := by rw [if_neg (show ¬ (false = true) by decide)] at H; exact H
        clear H
        have H := H1
        clear H1
        have H' := aM H
        clear H
        go_wp2_with (first | (go_at_call 76; (with_reducible refine (Y45.calls k1 _ _ (rd_L3 l0_0 x17_1) 0 12 false _ (cQ (Kd.C_below HR457_0.out HB.out)) HC457_0.out A12.out).mono ?_); rintro e w' ⟨rfl, ⟨nd, rfl⟩⟩))
        go_meet
        case rel => exact ⟨_, (true), eR, H', ⟨by have := HK1.out; first | omega | exact Nat.le_refl _⟩, ⟨qQ BK456⟩, ⟨bq⟩⟩
      ·rw [if_neg c11] at H
       have c11b0 : (((rd_L3 l0_0 x17_1).length : Int) == (l0_0.length : Int)) = false := beq_eq_false_iff_ne.mpr c11
       have c11b1 : (((rd_L3 l0_0 x17_1).length : Int) != (l0_0.length : Int)) = true := bne_iff_ne.mpr c11
       have c11b2 : ((rd_L3 l0_0 x17_1).length == l0_0.length) = false := by first | simpa using c11 | (simp at c11 ⊢; omega)
       (first | rw [c11b0] | (simp only [i64_w, i32_w]; rw [c11b0]) | skip)
       have H' := aM H
       clear H
       go_wp2
       go_meet
       case rel => exact ⟨_, (true), eR, H', ⟨by have := HK1.out; first | omega | exact Nat.le_refl _⟩, ⟨qQ BK456⟩, ⟨bq⟩⟩
     case rest =>
      clear HC10
      try clear c2
      try clear c2b0
      try clear c2b1
      try clear c7
      try clear c7b0
      try clear c8b0
      try clear c9b0
      try clear c11
      try clear c11b0
      try clear c11b1
      try clear c11b2
      try clear c13
      try clear hcz4_0
      try clear hcz6_0
      try clear hfz4_0
      try clear hfz6_0
      try clear hx457_0
      try clear p457
      try clear q457
      obtain ⟨kq, x35_9, rfl, HA, HJ9, BK456, HB⟩ := hcut
      cases kq with
      | zero => exact absurd HA.out (by simp [Y7.j1])
      | succ kj9 =>
       have H := HA.out
       clear HA
       simp only [Y7.j1] at H
       by_cases c15 : x35_9 = true
       ·subst c15
        have H1 : (some false) = some r := by rw [if_pos rfl] at H; exact H
        clear H
        have H := H1
        clear H1
        obtain rfl := Option.some.inj H
        go_wp2
        go_ret
        exact ⟨eE, bq⟩
       ·replace c15 := Bool.eq_false_iff.mpr c15
        subst c15
        have H1 : (Y7.l1 kj9 (l0_0.length : Int) x17_1 l0_0 (l0_0.length : Int) x17_1 (rd_L3 l0_0 x17_1) ((rd_L3 l0_0 x17_1).length : Int) 0 l0_0) = some r := by rw [if_neg (show ¬ (false = true) by decide)] at H; exact H
        clear H
        have H := H1
        clear H1
        have H' := aM H
        clear H
        go_wp2
        go_loopg [38] kj9 (fun kq v38 w' => ∃ (x38_3 : Int), v38 = .int .i64 x38_3 ∧ Aside0 (Y7.l1 kq (l0_0.length : Int) x17_1 l0_0 (l0_0.length : Int) x17_1 (rd_L3 l0_0 x17_1) ((rd_L3 l0_0 x17_1).length : Int) x38_3 l0_0 = some r) ∧ Aside0 (kq ≤ kj9) ∧ Aside0 (w'.heap[gb456]? = some (.cells #[(.slice (some ad457) l0_0.length c0_0)] 30 (0, 0))) ∧ Aside0 (Below w.heap.size w w'))
        case atStart => exact ⟨(0), eR, H', ⟨Nat.le_refl _⟩, ⟨qQ BK456⟩, ⟨bq⟩⟩
        case round =>
         clear H'
         try clear c2
         try clear c2b0
         try clear c2b1
         try clear c7
         try clear c7b0
         try clear c8b0
         try clear c9b0
         try clear c11
         try clear c11b0
         try clear c11b1
         try clear c11b2
         try clear c13
         try clear c15
         try clear hcz4_0
         try clear hcz6_0
         try clear hfz4_0
         try clear hfz6_0
         try clear hx457_0
         try clear p457
         try clear q457
         obtain ⟨x38_3, rfl, HA, HK3, BK456, HB⟩ := hrel
         cases gk with
         | zero => exact absurd HA.out (by simp [Y7.l1])
         | succ k3 =>
          have H := HA.out
          clear HA
          simp only [Y7.l1] at H
          by_cases c16 : x38_3 < ((rd_L3 l0_0 x17_1).length : Int)
          ·rw [if_pos c16] at H
           have c16b0 := decide_eq_true c16
           clear c16
           replace H := iD2 H
           obtain ⟨c17b0, c18b0, H⟩ := H
           by_cases c19 : x38_3 < x17_1
           ·rw [if_pos c19] at H
            have c19b0 := decide_eq_true c19
            clear c19
            by_cases c20 : (rd (rd_L3 l0_0 x17_1) x38_3) > 0
            ·rw [if_pos c20] at H
             have c20b0 := decide_eq_true c20
             clear c20
             obtain rfl := Option.some.inj H
             have p460 : 0 ≤ (x38_3 : Int) := odt
             have q460 : x38_3 < ((rd_L3 l0_0 x17_1).length : Int) := odt
             obtain ⟨ad460, e460, hx460_0⟩ := Kd.at_int HR457_0.out x38_3 p460 q460
             cases e460
             replace hx460_0 := (HB.out.cell (World.block_lt_of_cell? w _ hx460_0)).trans hx460_0
             replace p460 := eq_true p460
             replace q460 := eq_true q460
             go_wp2
             go_ret
             exact ⟨eE, bq⟩
            ·rw [if_neg c20] at H
             have c20b0 := decide_eq_false c20
             clear c20
             have H' := aM H
             clear H
             have p460 : 0 ≤ (x38_3 : Int) := odt
             have q460 : x38_3 < ((rd_L3 l0_0 x17_1).length : Int) := odt
             obtain ⟨ad460, e460, hx460_0⟩ := Kd.at_int HR457_0.out x38_3 p460 q460
             cases e460
             replace hx460_0 := (HB.out.cell (World.block_lt_of_cell? w _ hx460_0)).trans hx460_0
             replace p460 := eq_true p460
             replace q460 := eq_true q460
             go_wp2
             go_roundg k3
             case measure => have := HK1.out; have := HJ9.out; have := HK3.out; omega
             case rel => exact ⟨(wrap64 (x38_3 + 1)), eR, H', ⟨by have := HK1.out; have := HJ9.out; have := HK3.out; omega⟩, ⟨qQ BK456⟩, ⟨bq⟩⟩
           ·rw [if_neg c19] at H
            have c19b0 := decide_eq_false c19
            clear c19
            have H' := aM H
            clear H
            have p460 : 0 ≤ (x38_3 : Int) := odt
            have q460 : x38_3 < ((rd_L3 l0_0 x17_1).length : Int) := odt
            obtain ⟨ad460, e460, hx460_0⟩ := Kd.at_int HR457_0.out x38_3 p460 q460
            cases e460
            replace hx460_0 := (HB.out.cell (World.block_lt_of_cell? w _ hx460_0)).trans hx460_0
            replace p460 := eq_true p460
            replace q460 := eq_true q460
            go_wp2
            go_roundg k3
            case measure => have := HK1.out; have := HJ9.out; have := HK3.out; omega
            case rel => exact ⟨(wrap64 (x38_3 + 1)), eR, H', ⟨by have := HK1.out; have := HJ9.out; have := HK3.out; omega⟩, ⟨qQ BK456⟩, ⟨bq⟩⟩
          ·rw [if_neg c16] at H
           have c16b0 := decide_eq_false c16
           clear c16
           have H' := aM H
           clear H
           go_wp2
           go_roundg k3
           case measure => have := HK1.out; have := HJ9.out; have := HK3.out; omega
           case rel => exact ⟨(wrap64 (x17_1 + 1)), eR, H', ⟨by have := HK1.out; have := HJ9.out; have := HK3.out; omega⟩, ⟨qQ BK456⟩, ⟨bq⟩⟩
    ·rw [if_neg c7] at H
     have c7b0 := decide_eq_false c7
     clear c7
     have H' := aM H
     clear H
     have hcz21_0 := zc10 BK456
     have hfz21_0 := blk_frozen BK456.out 0
     go_wp2
     go_loopg [55] k1 (fun kq v55 w' => ∃ (x55_2 : Int), v55 = .int .i64 x55_2 ∧ Aside0 (Y7.l2 kq (l0_0.length : Int) x55_2 l0_0 = some r) ∧ Aside0 (kq ≤ k1) ∧ Aside0 (w'.heap[gb456]? = some (.cells #[(.slice A0_0 l0_0.length c0_0)] 30 (0, 0))) ∧ Aside0 (Below w.heap.size w w'))
     case atStart => exact ⟨(0), eR, H', ⟨Nat.le_refl _⟩, ⟨qQ BK456⟩, ⟨bq⟩⟩
     case round =>
      clear H'
      try clear c2
      try clear c2b0
      try clear c2b1
      try clear c7
      try clear c7b0
      try clear c8b0
      try clear c9b0
      try clear c11
      try clear c11b0
      try clear c11b1
      try clear c11b2
      try clear c13
      try clear c15
      try clear c16
      try clear c16b0
      try clear c17b0
      try clear c18b0
      try clear c19
      try clear c19b0
      try clear c20
      try clear c20b0
      try clear hcz21_0
      try clear hcz4_0
      try clear hcz6_0
      try clear hfz21_0
      try clear hfz4_0
      try clear hfz6_0
      try clear hx457_0
      try clear hx460_0
      try clear p457
      try clear p460
      try clear q457
      try clear q460
      obtain ⟨x55_2, rfl, HA, HK2, BK456, HB⟩ := hrel
      cases gk with
      | zero => exact absurd HA.out (by simp [Y7.l2])
      | succ k2 =>
       have H := HA.out
       clear HA
       simp only [Y7.l2] at H
       by_cases c22 : x55_2 < (l0_0.length : Int)
       ·rw [if_pos c22] at H
        have c22b0 := decide_eq_true c22
        clear c22
        replace H := bS H
        obtain ⟨t462, A23, H⟩ := H
        try dsimp only at H
        replace H := bS H
        obtain ⟨t465, A24, H⟩ := H
        try dsimp only at H
        by_cases c25 : t465 = 0
        ·rw [if_pos c25] at H
         have c25b0 : (t465 == 0) = true := beq_iff_eq.mpr c25
         have c25b1 : (t465 != 0) = false := bne_eq_false_iff_eq.mpr c25
         clear c25
         obtain rfl := Option.some.inj H
         have hcz26_0 := zc10 BK456
         have hfz26_0 := blk_frozen BK456.out 0
         go_wp2_with (first | ((with_reducible refine gate_callee (f := 77) rfl ?_); refine gL (some 60) Tryz.func77 #[.agg #[.slice A0_0 l0_0.length c0_0], .int .i64 x55_2] ?_; (with_reducible refine (Y49.calls k2 _ _ l0_0 x55_2 t462 _ (cQ (Kd.C_below HR0_0.out HB.out)) HC0_0.out A23.out).mono ?_); rintro e w27 ⟨v463, rfl, ho0, hb⟩; refine ⟨_, rfl, ?_⟩; have _ := aM (Kd.R_lower ho0 (below_size bq)); have _ := bK BK456 hb; have _ := bB hb; clear BK456 HB; rename_i HO464 BK456 HB; (try clear hb); (try clear ho0); obtain ⟨Ao28, co28, eo28⟩ := Kd.R_slice HO464.out; subst eo28) | ((with_reducible refine gate_callee (f := 74) rfl ?_); refine gL (some 61) Tryz.func74 #[.slice Ao28 t462.length co28] ?_; (with_reducible refine (Y39.calls k2 _ _ t462 t465 _ (cQ ((Kd.R_reads' HO464.out).2.2)) ((Kd.R_reads' HO464.out).2.1) A24.out).mono ?_); rintro e w' ⟨rfl, ⟨nd, rfl⟩⟩; refine ⟨_, rfl, ?_⟩))
         go_ret
         exact ⟨eE, bq⟩
        ·rw [if_neg c25] at H
         have c25b0 : (t465 == 0) = false := beq_eq_false_iff_ne.mpr c25
         have c25b1 : (t465 != 0) = true := bne_iff_ne.mpr c25
         have H' := aM H
         clear H
         have hcz29_0 := zc10 BK456
         have hfz29_0 := blk_frozen BK456.out 0
         go_wp2_with (first | ((with_reducible refine gate_callee (f := 77) rfl ?_); refine gL (some 60) Tryz.func77 #[.agg #[.slice A0_0 l0_0.length c0_0], .int .i64 x55_2] ?_; (with_reducible refine (Y49.calls k2 _ _ l0_0 x55_2 t462 _ (cQ (Kd.C_below HR0_0.out HB.out)) HC0_0.out A23.out).mono ?_); rintro e w30 ⟨v463, rfl, ho0, hb⟩; refine ⟨_, rfl, ?_⟩; have _ := aM (Kd.R_lower ho0 (below_size bq)); have _ := bK BK456 hb; have _ := bB hb; clear BK456 HB; rename_i HO464 BK456 HB; (try clear hb); (try clear ho0); obtain ⟨Ao31, co31, eo31⟩ := Kd.R_slice HO464.out; subst eo31) | ((with_reducible refine gate_callee (f := 74) rfl ?_); refine gL (some 61) Tryz.func74 #[.slice Ao31 t462.length co31] ?_; (with_reducible refine (Y39.calls k2 _ _ t462 t465 _ (cQ ((Kd.R_reads' HO464.out).2.2)) ((Kd.R_reads' HO464.out).2.1) A24.out).mono ?_); rintro e w' ⟨rfl, ⟨nd, rfl⟩⟩; refine ⟨_, rfl, ?_⟩))
         go_roundg k2
         case measure => have := HK1.out; have := HK2.out; omega
         case rel => exact ⟨(wrap64 (x55_2 + 1)), eR, H', ⟨by have := HK1.out; have := HK2.out; omega⟩, ⟨qQ BK456⟩, ⟨bq⟩⟩
       ·rw [if_neg c22] at H
        have c22b0 := decide_eq_false c22
        clear c22
        replace H := bS H
        obtain ⟨t461, A32, H⟩ := H
        try dsimp only at H
        obtain rfl := Option.some.inj H
        have hcz33_0 := zc10 BK456
        have hfz33_0 := blk_frozen BK456.out 0
        go_wp2_with (first | ((with_reducible refine gate_callee (f := 46) rfl ?_); refine gL (some 65) Tryz.func46 #[.agg #[.slice A0_0 l0_0.length c0_0]] ?_; (with_reducible refine (Y40.calls k2 _ _ l0_0 t461 _ (cQ (Kd.C_below HR0_0.out HB.out)) HC0_0.out A32.out).mono ?_); rintro e w34 ⟨rfl, hb⟩; refine ⟨_, rfl, ?_⟩; have _ := bK BK456 hb; have _ := bB hb; clear BK456 HB; rename_i BK456 HB; (try clear hb)))
        go_ret
        exact ⟨eE, bq⟩
mutual
def Y22.l0 : Nat → List (S70) → List (S70) → Int → Int → Int → List Int → Option (Int × List Int)
 | 0, _, _, _, _, _, _ => none
 | k + 1, x0, x12, x13, x14, x468000, x468001 => if x14 < x13 then (if 0 ≤ x14 then (if x14 < (x12.length : Int) then (Y22.l1 k x0 0 x12 x13 x14 x0 (x0.length : Int) 0 x468000 x468001 ((rd_T70 x12 x14).f0) ((rd_T70 x12 x14).f1)) else (none)) else (none)) else (some (x468000, x468001))
def Y22.l1 : Nat → List (S70) → Int → List (S70) → Int → Int → List (S70) → Int → Int → Int → List Int → Int → Int → Option (Int × List Int)
 | 0, _, _, _, _, _, _, _, _, _, _, _, _ => none
 | k + 1, x0, x6, x12, x13, x14, x18, x19, x20, x468000, x468001, x470000, x470001 => if x20 < x19 then (if 0 ≤ x20 then (if x20 < (x18.length : Int) then (if x470001 < ((rd_T70 x18 x20).f0) then (Y22.l1 k x0 (Go.bits .or .i64 x6 (shl .i64 1 x20)) x12 x13 x14 x18 x19 (wrap64 (x20 + 1)) x468000 x468001 x470000 x470001) else (Y22.l1 k x0 x6 x12 x13 x14 x18 x19 (wrap64 (x20 + 1)) x468000 x468001 x470000 x470001)) else (none)) else (none)) else (if x468001.length < 17592186044416 then (Y22.l0 k x0 x12 x13 (wrap64 (x14 + 1)) x468000 (x468001 ++ [x6])) else (none))
end
def Y22.f (k : Nat) (l0 : List (S70)) : Option (Int × List Int) := Y22.l0 k l0 l0 (l0.length : Int) 0 (l0.length : Int) ([] : List Int)
set_option maxHeartbeats 8000000 in
set_option maxRecDepth 100000 in
theorem Y22.calls (k : Nat) (A0 : Option Addr) (c0 : Nat) (l0 : List (S70)) (r1 : Int) (r2 : List Int) (w : World) (hr0 : Kd.C k70 w A0 l0.length l0) (hc0 : l0.length ≤ c0) (h : Y22.f k l0 = some (r1, r2)) :
  Calls Tryz.prog 47 #[.slice A0 l0.length c0] w fun e w' => ∃ v1_ : Value, e = .returned (.agg #[.int .i64 r1, v1_]) ∧ Kd.R (Kd.int .i64) 3 w' w.heap.size (fun _ => True) v1_ r2 ∧ Below w.heap.size w w' := by
 have hu26 := Tryz.underlying26
 have hu70 := Tryz.underlying70
 have HR0 := aM hr0
 have HC0 := aM hc0
 clear hr0 hc0
 have HB := aM (Below.refl w.heap.size w)
 unfold Y22.f at h
 have H := h
 clear h
 have H' := aM H
 clear H
 go_enter Tryz.func47, Tryz.ntmps47
 go_wp2_with (first | ((with_reducible refine gate_dst (N := 2) rfl ?_); refine bF 2 26 #[.int .i64 0, .slice none 0 0] bq ?_; intro gb466 w2 hg hb _ _ _ _; clear HB; rename_i HB BK466 GW466 GE466; clear hb hg) | ((with_reducible refine gate_dst (N := 3) rfl ?_); refine bE 3 26 #[.int .i64 0, .slice none 0 0] ?_; intro gb467 hg w3 hbox hb; have _ := bK BK466 hb; have _ := bB hb; have _ := aM (hbox); have _ := aM ((gS hg)); have _ := aM ((gS hg)); have _ := aM (nL hg BK466); have _ := aM (nG hg BK466); clear BK466 HB; rename_i BK466 HB BK467 GW467 GE467 NB466_467 NB467_466; clear hb hbox hg; have hnb4 := NB467_466.out; have hnc4 := NB466_467.out; have hcz5_0 := zc20 BK467; have hcz5_1 := zc21 BK467; have hfz5_0 := blk_frozen BK467.out 0; have hfz5_1 := blk_frozen BK467.out 1))
 go_loopg [14] k (fun kq v14 w' => ∃ (x14_1 : Int) (x468001_1 : List Int) (u468001 : Value), v14 = .int .i64 x14_1 ∧ Aside0 (Y22.l0 kq l0 l0 (l0.length : Int) x14_1 (l0.length : Int) x468001_1 = some (r1, r2)) ∧ Aside0 (kq ≤ k) ∧ Aside0 (Kd.R (Kd.int .i64) 3 w' w.heap.size (fun _ => True) u468001 x468001_1) ∧ Aside0 (w'.heap[gb466]? = some (.cells #[.int .i64 0, (.slice none 0 0)] 26 (0, 0))) ∧ Aside0 (w'.heap[gb467]? = some (.cells #[.int .i64 (l0.length : Int), u468001] 26 (0, 0))) ∧ Aside0 (Below w.heap.size w w'))
 case atStart => exact ⟨(0), (([] : List Int)), (.slice none 0 0), eR, H', ⟨Nat.le_refl _⟩, ⟨by first | exact Kd.R_nil _ _ _ _ _ | exact Kd.N_nil _ _ _ _ _ | exact Kd.V_nil _ _ _ _ _ | exact Kd.Q_nil _ _ _ _ _ | exact Kd.S_nil _ _ _ _ _⟩, ⟨by (with_reducible repeat first|apply qN|apply qD|apply qA); refine blk_far ?_ NB466_467.out _; (with_reducible repeat first|apply qN|apply qD|apply qA); refine blk_far ?_ NB466_467.out _; (with_reducible repeat first|apply qN|apply qD|apply qA); exact BK466.out⟩, ⟨by (with_reducible repeat first|apply qN|apply qD|apply qA); refine blk_put (cs := #[.int .i64 (l0.length : Int), .slice none 0 0]) ?_ 1 _ rfl; (with_reducible repeat first|apply qN|apply qD|apply qA); refine blk_put (cs := #[.int .i64 0, .slice none 0 0]) ?_ 0 _ rfl; (with_reducible repeat first|apply qN|apply qD|apply qA); exact BK467.out⟩, ⟨bq⟩⟩
 case round =>
  clear H'
  try clear hcz5_0
  try clear hcz5_1
  try clear hfz5_0
  try clear hfz5_1
  obtain ⟨x14_1, x468001_1, u468001, rfl, HA, HK1, HO_468001, BK466, BK467, HB⟩ := hrel
  cases gk with
  | zero => exact absurd HA.out (by simp [Y22.l0])
  | succ k1 =>
   have H := HA.out
   clear HA
   simp only [Y22.l0] at H
   by_cases c6 : x14_1 < (l0.length : Int)
   ·rw [if_pos c6] at H
    have c6b0 := decide_eq_true c6
    clear c6
    replace H := iD2 H
    obtain ⟨c7b0, c8b0, H⟩ := H
    have H' := aM H
    clear H
    have p468 : 0 ≤ (x14_1 : Int) := odt
    have q468 : x14_1 < (l0.length : Int) := odt
    obtain ⟨ad468, e468, hx468_0, hx468_1⟩ := at_T70 HR0.out x14_1 p468 q468
    cases e468
    replace hx468_0 := (HB.out.cell (World.block_lt_of_cell? w _ hx468_0)).trans hx468_0
    replace hx468_1 := (HB.out.cell (World.block_lt_of_cell? w _ hx468_1)).trans hx468_1
    replace p468 := eq_true p468
    replace q468 := eq_true q468
    go_wp2_with (first | ((with_reducible refine gate_dst (N := 5) rfl ?_); refine bE 5 70 #[.int .i64 0, .int .i64 0] ?_; intro gb469 hg w9 hbox hb; have _ := aM (Kd.R_below (rQ HO_468001) hb); have _ := bK BK466 hb; have _ := bK BK467 hb; have _ := bB hb; have _ := aM (hbox); have _ := aM ((gS hg)); have _ := aM ((gS hg)); have _ := aM (nL hg BK466); have _ := aM (nG hg BK466); have _ := aM (nL hg BK467); have _ := aM (nG hg BK467); clear HO_468001 BK466 BK467 HB; rename_i HO_468001 BK466 BK467 HB BK469 GW469 GE469 NB466_469 NB469_466 NB467_469 NB469_467; clear hb hbox hg; have hnb10 := NB469_466.out; have hnc10 := NB466_469.out; have hnb11 := NB469_467.out; have hnc11 := NB467_469.out; have hcz12_0 := zc20 BK469; have hcz12_1 := zc21 BK469; have hfz12_0 := blk_frozen BK469.out 0; have hfz12_1 := blk_frozen BK469.out 1))
    go_loopg [6, 20] k1 (fun kq v6 v20 w' => ∃ (x6_2 : Int) (x20_2 : Int), v6 = .int .i64 x6_2 ∧ v20 = .int .i64 x20_2 ∧ Aside0 (Y22.l1 kq l0 x6_2 l0 (l0.length : Int) x14_1 l0 (l0.length : Int) x20_2 (l0.length : Int) x468001_1 ((rd_T70 l0 x14_1).f0) ((rd_T70 l0 x14_1).f1) = some (r1, r2)) ∧ Aside0 (kq ≤ k1) ∧ Aside0 (Kd.R (Kd.int .i64) 3 w' w.heap.size (fun _ => True) u468001 x468001_1) ∧ Aside0 (w'.heap[gb466]? = some (.cells #[.int .i64 0, (.slice none 0 0)] 26 (0, 0))) ∧ Aside0 (w'.heap[gb467]? = some (.cells #[.int .i64 (l0.length : Int), u468001] 26 (0, 0))) ∧ Aside0 (w'.heap[gb469]? = some (.cells #[.int .i64 ((rd_T70 l0 x14_1).f0), .int .i64 ((rd_T70 l0 x14_1).f1)] 70 (0, 0))) ∧ Aside0 (Below w.heap.size w w'))
    case atStart => exact ⟨(0), (0), eR, eR, H', ⟨Nat.le_refl _⟩, ⟨by (with_reducible repeat first|apply rA|apply rN|apply rD); exact Kd.R_mono (Kd.R_far (p := ⟨gb469, 1, none⟩) (Kd.R_far (p := ⟨gb469, 0, none⟩) (Kd.R_types HO_468001.out BK469.out (by decide)) (fun _ hk => hk.2) (.int .i64 ((rd_T70 l0 x14_1).f0))) (fun _ hk => hk.2) (.int .i64 ((rd_T70 l0 x14_1).f1))) (fun _ hk => trivial)⟩, ⟨by (with_reducible repeat first|apply qN|apply qD|apply qA); refine blk_far ?_ NB466_469.out _; (with_reducible repeat first|apply qN|apply qD|apply qA); refine blk_far ?_ NB466_469.out _; (with_reducible repeat first|apply qN|apply qD|apply qA); exact BK466.out⟩, ⟨by (with_reducible repeat first|apply qN|apply qD|apply qA); refine blk_far ?_ NB467_469.out _; (with_reducible repeat first|apply qN|apply qD|apply qA); refine blk_far ?_ NB467_469.out _; (with_reducible repeat first|apply qN|apply qD|apply qA); exact BK467.out⟩, ⟨by (with_reducible repeat first|apply qN|apply qD|apply qA); refine blk_put (cs := #[.int .i64 ((rd_T70 l0 x14_1).f0), .int .i64 0]) ?_ 1 _ rfl; (with_reducible repeat first|apply qN|apply qD|apply qA); refine blk_put (cs := #[.int .i64 0, .int .i64 0]) ?_ 0 _ rfl; (with_reducible repeat first|apply qN|apply qD|apply qA); exact BK469.out⟩, ⟨bq⟩⟩
    case round =>
     clear H'
     try clear c6
     try clear c6b0
     try clear c7b0
     try clear c8b0
     try clear hcz12_0
     try clear hcz12_1
     try clear hcz5_0
     try clear hcz5_1
     try clear hfz12_0
     try clear hfz12_1
     try clear hfz5_0
     try clear hfz5_1
     try clear hx468_0
     try clear hx468_1
     try clear p468
     try clear q468
     obtain ⟨x6_2, x20_2, rfl, rfl, HA, HK2, HO_468001, BK466, BK467, BK469, HB⟩ := hrel
     cases gk with
     | zero => exact absurd HA.out (by simp [Y22.l1])
     | succ k2 =>
      have H := HA.out
      clear HA
      simp only [Y22.l1] at H
      by_cases c13 : x20_2 < (l0.length : Int)
      ·rw [if_pos c13] at H
       have c13b0 := decide_eq_true c13
       clear c13
       replace H := iD2 H
       obtain ⟨c14b0, c15b0, H⟩ := H
       by_cases c16 : ((rd_T70 l0 x14_1).f1) < ((rd_T70 l0 x20_2).f0)
       ·rw [if_pos c16] at H
        have c16b0 := decide_eq_true c16
        clear c16
        have c17b0 := eq_true (odt : 0 ≤ x20_2)
        obtain ⟨ji18, hji18⟩ : ∃ j_ : Int, (shl .i64 1 x20_2) = j_ := ⟨_, rfl⟩
        replace H : (Y22.l1 k2 l0 (Go.bits .or .i64 x6_2 (ji18)) l0 (l0.length : Int) x14_1 l0 (l0.length : Int) (wrap64 (x20_2 + 1)) (l0.length : Int) x468001_1 ((rd_T70 l0 x14_1).f0) ((rd_T70 l0 x14_1).f1)) = some (r1, r2) := by first | (rw [hji18] at H; exact H) | (simp only [hji18] at H ⊢; exact H)
        have hji18_ : (IntKind.i64.wrap (1 * 2 ^ min x20_2.toNat 64)) = ji18 := hji18
        have hji18z : x20_2 ≤ 64 → (IntKind.i64.wrap (1 * 2 ^ x20_2.toNat)) = ji18 := shl_small hji18
        have hji18u : (IntKind.i64.wrap (2 ^ min x20_2.toNat 64)) = ji18 := by have h_ := hji18_; rw [Int.one_mul] at h_; exact h_
        have hji18v : x20_2 ≤ 64 → (IntKind.i64.wrap (2 ^ x20_2.toNat)) = ji18 := fun hle_ => by have h_ := hji18z hle_; rw [Int.one_mul] at h_; exact h_
        have hji18y : (wrap64 (1 * 2 ^ min x20_2.toNat 64)) = ji18 := (i64_w _).symm.trans hji18_
        have hji18x : x20_2 ≤ 64 → (wrap64 (1 * 2 ^ x20_2.toNat)) = ji18 := fun h_ => (i64_w _).symm.trans (hji18z h_)
        have H' := aM H
        clear H
        have p470 : 0 ≤ (x20_2 : Int) := odt
        have q470 : x20_2 < (l0.length : Int) := odt
        obtain ⟨ad470, e470, hx470_0, hx470_1⟩ := at_T70 HR0.out x20_2 p470 q470
        obtain rfl : ad468 = ad470 := (by injection e470)
        replace hx470_0 := (HB.out.cell (World.block_lt_of_cell? w _ hx470_0)).trans hx470_0
        replace hx470_1 := (HB.out.cell (World.block_lt_of_cell? w _ hx470_1)).trans hx470_1
        replace p470 := eq_true p470
        replace q470 := eq_true q470
        go_wp2_with (first | ((with_reducible refine gate_dst (N := 8) rfl ?_); refine bE 8 70 #[.int .i64 0, .int .i64 0] ?_; intro gb471 hg w19 hbox hb; have _ := aM (Kd.R_below (rQ HO_468001) hb); have _ := bK BK466 hb; have _ := bK BK467 hb; have _ := bK BK469 hb; have _ := bB hb; have _ := aM (hbox); have _ := aM ((gS hg)); have _ := aM ((gS hg)); have _ := aM (nL hg BK466); have _ := aM (nG hg BK466); have _ := aM (nL hg BK467); have _ := aM (nG hg BK467); have _ := aM (nL hg BK469); have _ := aM (nG hg BK469); clear HO_468001 BK466 BK467 BK469 HB; rename_i HO_468001 BK466 BK467 BK469 HB BK471 GW471 GE471 NB466_471 NB471_466 NB467_471 NB471_467 NB469_471 NB471_469; clear hb hbox hg; have hnb20 := NB471_466.out; have hnc20 := NB466_471.out; have hnb21 := NB471_467.out; have hnc21 := NB467_471.out; have hnb22 := NB471_469.out; have hnc22 := NB469_471.out; have hcz23_0 := zc20 BK471; have hcz23_1 := zc21 BK471; have hfz23_0 := blk_frozen BK471.out 0; have hfz23_1 := blk_frozen BK471.out 1; have hnb24 := NB469_466.out; have hnc24 := NB466_469.out; have hnb25 := NB469_467.out; have hnc25 := NB467_469.out; have hcz26_0 := zc20 BK469; have hcz26_1 := zc21 BK469; have hfz26_0 := blk_frozen BK469.out 0; have hfz26_1 := blk_frozen BK469.out 1))
        go_roundg k2
        case measure => have := HK1.out; have := HK2.out; omega
        case rel => exact ⟨(Go.bits .or .i64 x6_2 (ji18)), (wrap64 (x20_2 + 1)), (by first | rfl | (simp; done) | (simp only [← hji18] <;> (first | rfl | simp)) | (simp [*]; done)), eR, H', ⟨by have := HK1.out; have := HK2.out; omega⟩, ⟨by (with_reducible repeat first|apply rA|apply rN|apply rD); exact Kd.R_mono (Kd.R_far (p := ⟨gb471, 1, none⟩) (Kd.R_far (p := ⟨gb471, 0, none⟩) (Kd.R_types HO_468001.out BK471.out (by decide)) (fun _ hk => hk.2) (.int .i64 ((rd_T70 l0 x20_2).f0))) (fun _ hk => hk.2) (.int .i64 ((rd_T70 l0 x20_2).f1))) (fun _ hk => trivial)⟩, ⟨by (with_reducible repeat first|apply qN|apply qD|apply qA); refine blk_far ?_ NB466_471.out _; (with_reducible repeat first|apply qN|apply qD|apply qA); refine blk_far ?_ NB466_471.out _; (with_reducible repeat first|apply qN|apply qD|apply qA); exact BK466.out⟩, ⟨by (with_reducible repeat first|apply qN|apply qD|apply qA); refine blk_far ?_ NB467_471.out _; (with_reducible repeat first|apply qN|apply qD|apply qA); refine blk_far ?_ NB467_471.out _; (with_reducible repeat first|apply qN|apply qD|apply qA); exact BK467.out⟩, ⟨by (with_reducible repeat first|apply qN|apply qD|apply qA); refine blk_far ?_ NB469_471.out _; (with_reducible repeat first|apply qN|apply qD|apply qA); refine blk_far ?_ NB469_471.out _; (with_reducible repeat first|apply qN|apply qD|apply qA); exact BK469.out⟩, ⟨bq⟩⟩
       ·rw [if_neg c16] at H
        have c16b0 := decide_eq_false c16
        clear c16
        have H' := aM H
        clear H
        have p470 : 0 ≤ (x20_2 : Int) := odt
        have q470 : x20_2 < (l0.length : Int) := odt
        obtain ⟨ad470, e470, hx470_0, hx470_1⟩ := at_T70 HR0.out x20_2 p470 q470
        obtain rfl : ad468 = ad470 := (by injection e470)
        replace hx470_0 := (HB.out.cell (World.block_lt_of_cell? w _ hx470_0)).trans hx470_0
        replace hx470_1 := (HB.out.cell (World.block_lt_of_cell? w _ hx470_1)).trans hx470_1
        replace p470 := eq_true p470
        replace q470 := eq_true q470
        go_wp2_with (first | ((with_reducible refine gate_dst (N := 8) rfl ?_); refine bE 8 70 #[.int .i64 0, .int .i64 0] ?_; intro gb471 hg w27 hbox hb; have _ := aM (Kd.R_below (rQ HO_468001) hb); have _ := bK BK466 hb; have _ := bK BK467 hb; have _ := bK BK469 hb; have _ := bB hb; have _ := aM (hbox); have _ := aM ((gS hg)); have _ := aM ((gS hg)); have _ := aM (nL hg BK466); have _ := aM (nG hg BK466); have _ := aM (nL hg BK467); have _ := aM (nG hg BK467); have _ := aM (nL hg BK469); have _ := aM (nG hg BK469); clear HO_468001 BK466 BK467 BK469 HB; rename_i HO_468001 BK466 BK467 BK469 HB BK471 GW471 GE471 NB466_471 NB471_466 NB467_471 NB471_467 NB469_471 NB471_469; clear hb hbox hg; have hnb28 := NB471_466.out; have hnc28 := NB466_471.out; have hnb29 := NB471_467.out; have hnc29 := NB467_471.out; have hnb30 := NB471_469.out; have hnc30 := NB469_471.out; have hcz31_0 := zc20 BK471; have hcz31_1 := zc21 BK471; have hfz31_0 := blk_frozen BK471.out 0; have hfz31_1 := blk_frozen BK471.out 1; have hnb32 := NB469_466.out; have hnc32 := NB466_469.out; have hnb33 := NB469_467.out; have hnc33 := NB467_469.out; have hcz34_0 := zc20 BK469; have hcz34_1 := zc21 BK469; have hfz34_0 := blk_frozen BK469.out 0; have hfz34_1 := blk_frozen BK469.out 1))
        go_roundg k2
        case measure => have := HK1.out; have := HK2.out; omega
        case rel => exact ⟨(x6_2), (wrap64 (x20_2 + 1)), eR, eR, H', ⟨by have := HK1.out; have := HK2.out; omega⟩, ⟨by (with_reducible repeat first|apply rA|apply rN|apply rD); exact Kd.R_mono (Kd.R_far (p := ⟨gb471, 1, none⟩) (Kd.R_far (p := ⟨gb471, 0, none⟩) (Kd.R_types HO_468001.out BK471.out (by decide)) (fun _ hk => hk.2) (.int .i64 ((rd_T70 l0 x20_2).f0))) (fun _ hk => hk.2) (.int .i64 ((rd_T70 l0 x20_2).f1))) (fun _ hk => trivial)⟩, ⟨by (with_reducible repeat first|apply qN|apply qD|apply qA); refine blk_far ?_ NB466_471.out _; (with_reducible repeat first|apply qN|apply qD|apply qA); refine blk_far ?_ NB466_471.out _; (with_reducible repeat first|apply qN|apply qD|apply qA); exact BK466.out⟩, ⟨by (with_reducible repeat first|apply qN|apply qD|apply qA); refine blk_far ?_ NB467_471.out _; (with_reducible repeat first|apply qN|apply qD|apply qA); refine blk_far ?_ NB467_471.out _; (with_reducible repeat first|apply qN|apply qD|apply qA); exact BK467.out⟩, ⟨by (with_reducible repeat first|apply qN|apply qD|apply qA); refine blk_far ?_ NB469_471.out _; (with_reducible repeat first|apply qN|apply qD|apply qA); refine blk_far ?_ NB469_471.out _; (with_reducible repeat first|apply qN|apply qD|apply qA); exact BK469.out⟩, ⟨bq⟩⟩
      ·rw [if_neg c13] at H
       have c13b0 := decide_eq_false c13
       clear c13
       replace H := iS H
       obtain ⟨c35, H⟩ := H
       have LMc35 := aM c35
       clear c35
       obtain ⟨y472, hy472⟩ := nE ((x468001_1 ++ [x6_2]) : List Int)
       try rw [← hy472] at H
       try with_reducible replace H := (Option.bind_some _ _).symm.trans H
       try dsimp only at H
       have Ny472 := aM hy472
       clear hy472
       have H' := aM H
       clear H
       have hnb36 := NB467_466.out
       have hnc36 := NB466_467.out
       have hnb37 := NB467_469.out
       have hnc37 := NB469_467.out
       have hcz38_0 := zc20 BK467
       have hcz38_1 := zc21 BK467
       have hfz38_0 := blk_frozen BK467.out 0
       have hfz38_1 := blk_frozen BK467.out 1
       go_wp2_with (first | ((with_reducible refine gate_builtin (b := .append) (xs := #[.tmp 36, .tmp 38]) rfl ?_); at_builtin; refine Kd.R_append (Kd.int .i64) (w0 := w) w.heap.size rfl (.tmp 36) (.tmp 38) 24 3 (.int .i64 0) 8 rfl Tryz.underlying24 info3 rfl (by decide) (by omega) u468001 x468001_1 x6_2 [.int .i64 x6_2] (fun _ => True) (fun _ => False) rfl rfl ?aP (fun _ hk => hk.elim) ?aF ?aO ?aB ?aS ?aL ?_; (case aP => exact rfl); (case aB => exact bq); (case aF => exact (fun _ _ => trivial)); (case aO => exact (rQ HO_468001)); (case aS => exact (below_size bq)); (case aL => have := LMc35.out; omega); intro v473 w39 ho hb hg hat; rw [← Ny472.out] at ho; have _ := aM (blk_grown (g := gb466) (o := .cells #[.int .i64 0, .slice none 0 0] 26 (0, 0)) (qQ BK466) hg (Kd.R_ne HO_468001.out BK466.out (by decide))); have _ := aM (blk_grown (g := gb467) (o := .cells #[.int .i64 (l0.length : Int), u468001] 26 (0, 0)) (qQ BK467) hg (Kd.R_ne HO_468001.out BK467.out (by decide))); have _ := aM (blk_grown (g := gb469) (o := .cells #[.int .i64 ((rd_T70 l0 x14_1).f0), .int .i64 ((rd_T70 l0 x14_1).f1)] 70 (0, 0)) (qQ BK469) hg (Kd.R_ne HO_468001.out BK469.out (by decide))); have _ := aM (hb); have _ := aM (ho); clear BK466 BK467 BK469 HB HO_468001; rename_i BK466 BK467 BK469 HB HO474; clear ho hb hg hat; obtain ⟨Ao40, co40, eo40⟩ := Kd.R_slice HO474.out; subst eo40; have hcz41_0 := zc20 BK467; have hcz41_1 := zc21 BK467; have hfz41_0 := blk_frozen BK467.out 0; have hfz41_1 := blk_frozen BK467.out 1))
       go_roundg k2
       case measure => have := HK1.out; have := HK2.out; omega
       case rel => exact ⟨(wrap64 (x14_1 + 1)), (y472), (.slice Ao40 y472.length co40), eR, H', ⟨by have := HK1.out; have := HK2.out; omega⟩, ⟨by (with_reducible repeat first|apply rA|apply rN|apply rD); exact Kd.R_mono (Kd.R_far (p := ⟨gb467, 1, none⟩) (Kd.R_types HO474.out BK467.out (by decide)) (fun _ hk => hk.2) (.slice Ao40 y472.length co40)) (fun _ hk => trivial)⟩, ⟨by (with_reducible repeat first|apply qN|apply qD|apply qA); refine blk_far ?_ NB466_467.out _; (with_reducible repeat first|apply qN|apply qD|apply qA); exact BK466.out⟩, ⟨by (with_reducible repeat first|apply qN|apply qD|apply qA); refine blk_put (cs := #[.int .i64 (l0.length : Int), u468001]) ?_ 1 _ rfl; (with_reducible repeat first|apply qN|apply qD|apply qA); exact BK467.out⟩, ⟨bq⟩⟩
   ·rw [if_neg c6] at H
    have c6b0 := decide_eq_false c6
    clear c6
    simp only [Option.some.injEq, Prod.mk.injEq] at H
    obtain ⟨rfl, rfl⟩ := H
    have hnb42 := NB467_466.out
    have hnc42 := NB466_467.out
    have hcz43_0 := zc20 BK467
    have hcz43_1 := zc21 BK467
    have hfz43_0 := blk_frozen BK467.out 0
    have hfz43_1 := blk_frozen BK467.out 1
    have hcz44_0 := zc20 BK466
    have hcz44_1 := zc21 BK466
    have hfz44_0 := blk_frozen BK466.out 0
    have hfz44_1 := blk_frozen BK466.out 1
    obtain ⟨Ao45, co45, eo45⟩ := Kd.R_slice HO_468001.out
    subst eo45
    go_wp2
    refine bodyPost_ret (results_cell_row rfl _ _ gb466 26 #[.int .i64 (l0.length : Int), .slice Ao45 x468001_1.length co45] (0, 0) _ rfl (by (with_reducible repeat first|apply qN|apply qD|apply qA); refine blk_put (cs := #[.int .i64 (l0.length : Int), .slice none 0 0]) ?_ 1 _ rfl; (with_reducible repeat first|apply qN|apply qD|apply qA); refine blk_put (cs := #[.int .i64 0, .slice none 0 0]) ?_ 0 _ rfl; (with_reducible repeat first|apply qN|apply qD|apply qA); exact BK466.out) Tryz.underlying26 rfl (by kernel_rfl)) rfl ?_
    exact ⟨_, eE, by (with_reducible repeat first|apply rA|apply rN|apply rD); exact Kd.R_mono (Kd.R_far (p := ⟨gb466, 1, none⟩) (Kd.R_far (p := ⟨gb466, 0, none⟩) (Kd.R_types HO_468001.out BK466.out (by decide)) (fun _ hk => hk.2) (.int .i64 (l0.length : Int))) (fun _ hk => hk.2) (.slice Ao45 x468001_1.length co45)) (fun _ hk => trivial), bq⟩
end Go.Proofs.YtcodionjhcmfhaaGreatDoor.Oa
