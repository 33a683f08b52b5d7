-- Written by hook.py (wip/), over the kit's print.py.
import Derived.Test.YtjmmleofnjcjoaaGreatDoorDu2
import Derived.Test.YtjmmleofnjcjoaaGreatDoorDu18
import Derived.Test.YtjmmleofnjcjoaaGreatDoorDuXSq
namespace Go.Proofs.YtjmmleofnjcjoaaGreatDoor.Du
open Go.RowKit Go.Proofs.YtjmmleofnjcjoaaGreatDoorW.PrintWords Go.Proofs.YtjmmleofnjcjoaaGreatDoorW.PrintLast Go.Proofs.YtjmmleofnjcjoaaGreatDoorW.PrintMore Go.Proofs.YtjmmleofnjcjoaaGreatDoor.Sq
attribute [local go_sem] max2_int min2_int max_two min_two max_three min_three max_four min_four
set_option linter.unusedVariables false
set_option linter.unusedSimpArgs false
mutual
def Y13.l0 : Nat → List Int → Int → Int → Int → List Int → Option (List Int)
 | 0, _, _, _, _, _ => none
 | k + 1, x3, x12, x13, x474000, x474001 => if x13 < x12 then ((Y17.f k x474000 x474001 x13).bind fun t474 => ((Y45.f k x3 t474).bind fun t475 => (Y13.l0 k t475 x12 (wrap64 (x13 + 1)) x474000 x474001))) else (Y13.l1 k x3 ([] : List Int) (x474001.length : Int) 0 x474000 x474001)
def Y13.l1 : Nat → List Int → List Int → Int → Int → Int → List Int → Option (List Int)
 | 0, _, _, _, _, _, _ => none
 | k + 1, x3, x5, x24, x25, x474000, x474001 => if x25 < x24 then (Y13.l2 k x3 x5 x25 0 x24 x25 x3 (x3.length : Int) 0 x474000 x474001) else (some x5)
def Y13.l2 : Nat → List Int → List Int → Int → Int → Int → Int → List Int → Int → Int → Int → List Int → Option (List Int)
 | 0, _, _, _, _, _, _, _, _, _, _, _ => none
 | k + 1, x3, x5, x6, x7, x24, x25, x28, x29, x30, x474000, x474001 => if x30 < x29 then (if 0 ≤ x30 then (if x30 < (x28.length : Int) then ((Y17.f k x474000 x474001 x6).bind fun t482 => (if (rd x28 x30) = t482 then (Y13.l2 k x3 x5 x6 x7 x24 x25 x28 x29 (wrap64 (x30 + 1)) x474000 x474001) else ((Y17.f k x474000 x474001 x6).bind fun t483 => (if (Go.bits .andNot .i64 (rd x28 x30) t483) = 0 then (Y13.l2 k x3 x5 x6 (wrap64 (x7 + 1)) x24 x25 x28 x29 (wrap64 (x30 + 1)) x474000 x474001) else (Y13.l2 k x3 x5 x6 x7 x24 x25 x28 x29 (wrap64 (x30 + 1)) x474000 x474001))))) else (none)) else (none)) else (if x5.length < 17592186044416 then (Y13.l1 k x3 (x5 ++ [x7]) x24 (wrap64 (x25 + 1)) x474000 x474001) else (none))
end
def Y13.f (k : Nat) (a0_0 : Int) (l0_1 : List Int) : Option (List Int) := Y13.l0 k ([] : List Int) (l0_1.length : Int) 0 a0_0 l0_1
set_option maxHeartbeats 8000000 in
set_option maxRecDepth 100000 in
theorem Y13.calls (k : Nat) (a0_0 : Int) (A0_1 : Option Addr) (c0_1 : Nat) (l0_1 : List Int) (r : List Int) (w : World) (hr0_1 : Kd.C (Kd.int .i64) w A0_1 l0_1.length l0_1) (hc0_1 : l0_1.length ≤ c0_1) (h : Y13.f k a0_0 l0_1 = some r) :
  Calls Tryz.prog 159 #[.agg #[.int .i64 a0_0, .slice A0_1 l0_1.length c0_1]] w fun e w' => ∃ v0_ : Value, e = .returned (v0_) ∧ Kd.R (Kd.int .i64) 3 w' w.heap.size (fun _ => True) v0_ r ∧ Below w.heap.size w w' := by
 have hu26 := Tryz.underlying26
 have HR0_1 := aM hr0_1
 have HC0_1 := aM hc0_1
 clear hr0_1 hc0_1
 have HB := aM (Below.refl w.heap.size w)
 unfold Y13.f at h
 have H := h
 clear h
 have H' := aM H
 clear H
 go_enter Tryz.func159, Tryz.ntmps159
 go_wp2_with (first | ((with_reducible refine gate_dst (N := 1) rfl ?_); refine bF 1 26 #[.int .i64 a0_0, .slice A0_1 l0_1.length c0_1] bq ?_; intro gb473 w2 hg hb _ _ _ _; clear HB; rename_i HB BK473 GW473 GE473; clear hb hg; have hcz3_0 := zc20 BK473; have hcz3_1 := zc21 BK473; have hfz3_0 := blk_frozen BK473.out 0; have hfz3_1 := blk_frozen BK473.out 1))
 go_loopg [3, 13] k (fun kq v3 v13 w' => ∃ (x3_1 : List Int) (x13_1 : Int), v13 = .int .i64 x13_1 ∧ Aside0 (Y13.l0 kq x3_1 (l0_1.length : Int) x13_1 a0_0 l0_1 = some r) ∧ Aside0 (kq ≤ k) ∧ Aside0 (Kd.R (Kd.int .i64) 3 w' w.heap.size (fun _ => True) v3 x3_1) ∧ Aside0 (w'.heap[gb473]? = some (.cells #[.int .i64 a0_0, (.slice A0_1 l0_1.length c0_1)] 26 (0, 0))) ∧ Aside0 (Below w.heap.size w w'))
 case atStart => exact ⟨(([] : List Int)), (0), eR, H', ⟨Nat.le_refl _⟩, ⟨by first | exact Kd.R_nil _ _ _ _ _ | exact Kd.N_nil _ _ _ _ _ | exact Kd.V_nil _ _ _ _ _ | exact Kd.Q_nil _ _ _ _ _ | exact Kd.S_nil _ _ _ _ _⟩, ⟨qQ BK473⟩, ⟨bq⟩⟩
 case round =>
  clear H'
  try clear hcz3_0
  try clear hcz3_1
  try clear hfz3_0
  try clear hfz3_1
  obtain ⟨x3_1, x13_1, rfl, HA, HK1, HO_3, BK473, HB⟩ := hrel
  cases gk with
  | zero => exact absurd HA.out (by simp [Y13.l0])
  | succ k1 =>
   have H := HA.out
   clear HA
   simp only [Y13.l0] at H
   by_cases c4 : x13_1 < (l0_1.length : Int)
   ·rw [if_pos c4] at H
    have c4b0 := decide_eq_true c4
    clear c4
    replace H := bS H
    obtain ⟨t474, A5, H⟩ := H
    try dsimp only at H
    replace H := bS H
    obtain ⟨t475, A6, H⟩ := H
    try dsimp only at H
    have H' := aM H
    clear H
    have hcz7_0 := zc20 BK473
    have hcz7_1 := zc21 BK473
    have hfz7_0 := blk_frozen BK473.out 0
    have hfz7_1 := blk_frozen BK473.out 1
    go_wp2_with (first | ((with_reducible refine gate_callee (f := 129) rfl ?_); refine gL (some 19) Tryz.func129 #[.agg #[.int .i64 a0_0, .slice A0_1 l0_1.length c0_1], .int .i64 x13_1] ?_; (with_reducible refine (Y17.calls k1 a0_0 _ _ l0_1 x13_1 t474 _ (cQ (Kd.C_below HR0_1.out HB.out)) HC0_1.out A5.out).mono ?_); rintro e w8 ⟨rfl, hb⟩; refine ⟨_, rfl, ?_⟩; have _ := aM (Kd.R_below (rQ HO_3) hb); have _ := bK BK473 hb; have _ := bB hb; clear HO_3 BK473 HB; rename_i HO_3 BK473 HB; (try clear hb); obtain ⟨Ao9, co9, eo9⟩ := Kd.R_slice HO_3.out; subst eo9) | ((with_reducible refine gate_callee (f := 195) rfl ?_); refine gL (some 20) Tryz.func195 #[.slice Ao9 x3_1.length co9, .int .i64 t474] ?_; (with_reducible refine (Y45.calls k1 (fun k_ => some k_ = (.slice Ao9 x3_1.length co9 : Value).ownBlock) (.slice Ao9 x3_1.length co9) x3_1 t474 t475 w _ ?side1 ?side2 A6.out).mono ?_); (case side1 => exact bq); (case side2 => exact Kd.R_tight rfl HO_3.out); rintro e w10 ⟨v476, rfl, ho0, hb, hkp⟩; refine ⟨_, rfl, ?_⟩; have _ := aM (blk_kept (qQ BK473) hkp (fun hs_ => (fun e_ => (Kd.R_ne HO_3.out BK473.out (by decide)) e_) hs_)); have _ := aM (Kd.R_mono (ok' := fun k_ => True) ho0 (fun k_ hk_ => trivial)); have _ := aM (hb); clear BK473 HB HO_3; rename_i BK473 HO477 HB; (try clear hb); (try clear hkp); (try clear ho0)))
    go_roundg k1
    case measure => have := HK1.out; omega
    case rel => exact ⟨(t475), (wrap64 (x13_1 + 1)), eR, H', ⟨by have := HK1.out; omega⟩, ⟨rQ HO477⟩, ⟨qQ BK473⟩, ⟨bq⟩⟩
   ·rw [if_neg c4] at H
    have c4b0 := decide_eq_false c4
    clear c4
    have H' := aM H
    clear H
    have hcz11_0 := zc20 BK473
    have hcz11_1 := zc21 BK473
    have hfz11_0 := blk_frozen BK473.out 0
    have hfz11_1 := blk_frozen BK473.out 1
    go_wp2
    go_loopg [5, 25] k1 (fun kq v5 v25 w' => ∃ (x5_2 : List Int) (x25_2 : Int), v25 = .int .i64 x25_2 ∧ Aside0 (Y13.l1 kq x3_1 x5_2 (l0_1.length : Int) x25_2 a0_0 l0_1 = some r) ∧ Aside0 (kq ≤ k1) ∧ Aside0 (Kd.R (Kd.int .i64) 3 w' w.heap.size (fun k_ => some k_ ≠ (v5 : Value).ownBlock) u3 x3_1) ∧ Aside0 (Kd.R (Kd.int .i64) 3 w' w.heap.size (fun k_ => some k_ ≠ (u3 : Value).ownBlock) v5 x5_2) ∧ Aside0 (w'.heap[gb473]? = some (.cells #[.int .i64 a0_0, (.slice A0_1 l0_1.length c0_1)] 26 (0, 0))) ∧ Aside0 (Below w.heap.size w w'))
    case atStart => exact ⟨(([] : List Int)), (0), eR, H', ⟨Nat.le_refl _⟩, ⟨by (with_reducible repeat first|apply rA|apply rN|apply rD); exact Kd.R_mono HO_3.out (fun _ hk => (by simp [Value.ownBlock]))⟩, ⟨by first | exact Kd.R_nil _ _ _ _ _ | exact Kd.N_nil _ _ _ _ _ | exact Kd.V_nil _ _ _ _ _ | exact Kd.Q_nil _ _ _ _ _ | exact Kd.S_nil _ _ _ _ _⟩, ⟨qQ BK473⟩, ⟨bq⟩⟩
    case round =>
     clear H'
     try clear c4
     try clear c4b0
     try clear hcz11_0
     try clear hcz11_1
     try clear hcz3_0
     try clear hcz3_1
     try clear hcz7_0
     try clear hcz7_1
     try clear hfz11_0
     try clear hfz11_1
     try clear hfz3_0
     try clear hfz3_1
     try clear hfz7_0
     try clear hfz7_1
     obtain ⟨x5_2, x25_2, rfl, HA, HK2, HO_3, HO_5, BK473, HB⟩ := hrel
     cases gk with
     | zero => exact absurd HA.out (by simp [Y13.l1])
     | succ k2 =>
      have H := HA.out
      clear HA
      simp only [Y13.l1] at H
      by_cases c12 : x25_2 < (l0_1.length : Int)
      ·rw [if_pos c12] at H
       have c12b0 := decide_eq_true c12
       clear c12
       have H' := aM H
       clear H
       obtain ⟨Ao13, co13, eo13⟩ := Kd.R_slice HO_3.out
       subst eo13
       go_wp2
       go_loopg [7, 30] k2 (fun kq v7 v30 w' => ∃ (x7_3 : Int) (x30_3 : Int), v7 = .int .i64 x7_3 ∧ v30 = .int .i64 x30_3 ∧ Aside0 (Y13.l2 kq x3_1 x5_2 x25_2 x7_3 (l0_1.length : Int) x25_2 x3_1 (x3_1.length : Int) x30_3 a0_0 l0_1 = some r) ∧ Aside0 (kq ≤ k2) ∧ Aside0 (Kd.R (Kd.int .i64) 3 w' w.heap.size (fun k_ => some k_ ≠ (u5 : Value).ownBlock) (.slice Ao13 x3_1.length co13) x3_1) ∧ Aside0 (Kd.R (Kd.int .i64) 3 w' w.heap.size (fun k_ => some k_ ≠ ((.slice Ao13 x3_1.length co13) : Value).ownBlock ∧ some k_ ≠ ((.slice Ao13 x3_1.length co13) : Value).ownBlock) u5 x5_2) ∧ Aside0 (Kd.R (Kd.int .i64) 3 w' w.heap.size (fun k_ => some k_ ≠ (u5 : Value).ownBlock) (.slice Ao13 x3_1.length co13) x3_1) ∧ Aside0 (w'.heap[gb473]? = some (.cells #[.int .i64 a0_0, (.slice A0_1 l0_1.length c0_1)] 26 (0, 0))) ∧ Aside0 (Below w.heap.size w w'))
       case atStart => exact ⟨(0), (0), eR, eR, H', ⟨Nat.le_refl _⟩, ⟨rQ HO_3⟩, ⟨by (with_reducible repeat first|apply rA|apply rN|apply rD); exact Kd.R_mono HO_5.out (fun _ hk => ⟨hk, hk⟩)⟩, ⟨rQ HO_3⟩, ⟨qQ BK473⟩, ⟨bq⟩⟩
       case round =>
        clear H'
        try clear c4
        try clear c4b0
        try clear c12
        try clear c12b0
        try clear hcz11_0
        try clear hcz11_1
        try clear hcz3_0
        try clear hcz3_1
        try clear hcz7_0
        try clear hcz7_1
        try clear hfz11_0
        try clear hfz11_1
        try clear hfz3_0
        try clear hfz3_1
        try clear hfz7_0
        try clear hfz7_1
        obtain ⟨x7_3, x30_3, rfl, rfl, HA, HK3, HO_3, HO_5, HO_28, BK473, HB⟩ := hrel
        cases gk with
        | zero => exact absurd HA.out (by simp [Y13.l2])
        | succ k3 =>
         have H := HA.out
         clear HA
         simp only [Y13.l2] at H
         by_cases c14 : x30_3 < (x3_1.length : Int)
         ·rw [if_pos c14] at H
          have c14b0 := decide_eq_true c14
          clear c14
          replace H := iD2 H
          obtain ⟨c15b0, c16b0, H⟩ := H
          replace H := bS H
          obtain ⟨t482, A17, H⟩ := H
          try dsimp only at H
          by_cases c18 : (rd x3_1 x30_3) = t482
          ·rw [if_pos c18] at H
           have c18b0 : ((rd x3_1 x30_3) == t482) = true := beq_iff_eq.mpr c18
           have c18b1 : ((rd x3_1 x30_3) != t482) = false := bne_eq_false_iff_eq.mpr c18
           clear c18
           have H' := aM H
           clear H
           have p481 : 0 ≤ (x30_3 : Int) := odt
           have q481 : x30_3 < (x3_1.length : Int) := odt
           obtain ⟨ad481, e481, hx481_0⟩ := Kd.at_int (Kd.R_reads' HO_28.out).2.2 x30_3 p481 q481
           cases e481
           replace p481 := eq_true p481
           replace q481 := eq_true q481
           have hcz19_0 := zc20 BK473
           have hcz19_1 := zc21 BK473
           have hfz19_0 := blk_frozen BK473.out 0
           have hfz19_1 := blk_frozen BK473.out 1
           go_wp2_with (first | ((with_reducible refine gate_callee (f := 129) rfl ?_); refine gL (some 37) Tryz.func129 #[.agg #[.int .i64 a0_0, .slice A0_1 l0_1.length c0_1], .int .i64 x25_2] ?_; (with_reducible refine (Y17.calls k3 a0_0 _ _ l0_1 x25_2 t482 _ (cQ (Kd.C_below HR0_1.out HB.out)) HC0_1.out A17.out).mono ?_); rintro e w20 ⟨rfl, hb⟩; refine ⟨_, rfl, ?_⟩; have _ := aM (Kd.R_below (rQ HO_3) hb); have _ := aM (Kd.R_below (rQ HO_5) hb); have _ := aM (Kd.R_below (rQ HO_28) hb); have _ := bK BK473 hb; have _ := bB hb; clear HO_3 HO_5 HO_28 BK473 HB; rename_i HO_3 HO_5 HO_28 BK473 HB; (try clear hb)))
           go_roundg k3
           case measure => have := HK1.out; have := HK2.out; have := HK3.out; omega
           case rel => exact ⟨(x7_3), (wrap64 (x30_3 + 1)), eR, eR, H', ⟨by have := HK1.out; have := HK2.out; have := HK3.out; omega⟩, ⟨rQ HO_3⟩, ⟨rQ HO_5⟩, ⟨rQ HO_28⟩, ⟨qQ BK473⟩, ⟨bq⟩⟩
          ·rw [if_neg c18] at H
           have c18b0 : ((rd x3_1 x30_3) == t482) = false := beq_eq_false_iff_ne.mpr c18
           have c18b1 : ((rd x3_1 x30_3) != t482) = true := bne_iff_ne.mpr c18
           replace H := bS H
           obtain ⟨t483, A21, H⟩ := H
           try dsimp only at H
           by_cases c22 : (Go.bits .andNot .i64 (rd x3_1 x30_3) t483) = 0
           ·rw [if_pos c22] at H
            have c22b0 : ((Go.bits .andNot .i64 (rd x3_1 x30_3) t483) == 0) = true := beq_iff_eq.mpr c22
            have c22b1 : ((Go.bits .andNot .i64 (rd x3_1 x30_3) t483) != 0) = false := bne_eq_false_iff_eq.mpr c22
            clear c22
            have H' := aM H
            clear H
            have p481 : 0 ≤ (x30_3 : Int) := odt
            have q481 : x30_3 < (x3_1.length : Int) := odt
            obtain ⟨ad481, e481, hx481_0⟩ := Kd.at_int (Kd.R_reads' HO_28.out).2.2 x30_3 p481 q481
            cases e481
            replace p481 := eq_true p481
            replace q481 := eq_true q481
            have hcz23_0 := zc20 BK473
            have hcz23_1 := zc21 BK473
            have hfz23_0 := blk_frozen BK473.out 0
            have hfz23_1 := blk_frozen BK473.out 1
            go_wp2_with (first | ((with_reducible refine gate_callee (f := 129) rfl ?_); refine gL (some 37) Tryz.func129 #[.agg #[.int .i64 a0_0, .slice A0_1 l0_1.length c0_1], .int .i64 x25_2] ?_; (with_reducible refine (Y17.calls k3 a0_0 _ _ l0_1 x25_2 t482 _ (cQ (Kd.C_below HR0_1.out HB.out)) HC0_1.out A17.out).mono ?_); rintro e w24 ⟨rfl, hb⟩; refine ⟨_, rfl, ?_⟩; have _ := aM (Kd.R_below (rQ HO_3) hb); have _ := aM (Kd.R_below (rQ HO_5) hb); have _ := aM (Kd.R_below (rQ HO_28) hb); have _ := bK BK473 hb; have _ := bB hb; clear HO_3 HO_5 HO_28 BK473 HB; rename_i HO_3 HO_5 HO_28 BK473 HB; (try clear hb); have hcz25_0 := zc20 BK473; have hcz25_1 := zc21 BK473; have hfz25_0 := blk_frozen BK473.out 0; have hfz25_1 := blk_frozen BK473.out 1) | (go_at_call 129; (with_reducible refine (Y17.calls k3 a0_0 _ _ l0_1 x25_2 t483 _ (cQ (Kd.C_below HR0_1.out HB.out)) HC0_1.out A21.out).mono ?_); rintro e w26 ⟨rfl, hb⟩; have _ := aM (Kd.R_below (rQ HO_3) hb); have _ := aM (Kd.R_below (rQ HO_5) hb); have _ := aM (Kd.R_below (rQ HO_28) hb); have _ := bK BK473 hb; have _ := bB hb; clear HO_3 HO_5 HO_28 BK473 HB; rename_i HO_3 HO_5 HO_28 BK473 HB; (try clear hb)))
            go_roundg k3
            case measure => have := HK1.out; have := HK2.out; have := HK3.out; omega
            case rel => exact ⟨(wrap64 (x7_3 + 1)), (wrap64 (x30_3 + 1)), eR, eR, H', ⟨by have := HK1.out; have := HK2.out; have := HK3.out; omega⟩, ⟨rQ HO_3⟩, ⟨rQ HO_5⟩, ⟨rQ HO_28⟩, ⟨qQ BK473⟩, ⟨bq⟩⟩
           ·rw [if_neg c22] at H
            have c22b0 : ((Go.bits .andNot .i64 (rd x3_1 x30_3) t483) == 0) = false := beq_eq_false_iff_ne.mpr c22
            have c22b1 : ((Go.bits .andNot .i64 (rd x3_1 x30_3) t483) != 0) = true := bne_iff_ne.mpr c22
            have H' := aM H
            clear H
            have p481 : 0 ≤ (x30_3 : Int) := odt
            have q481 : x30_3 < (x3_1.length : Int) := odt
            obtain ⟨ad481, e481, hx481_0⟩ := Kd.at_int (Kd.R_reads' HO_28.out).2.2 x30_3 p481 q481
            cases e481
            replace p481 := eq_true p481
            replace q481 := eq_true q481
            have hcz27_0 := zc20 BK473
            have hcz27_1 := zc21 BK473
            have hfz27_0 := blk_frozen BK473.out 0
            have hfz27_1 := blk_frozen BK473.out 1
            go_wp2_with (first | ((with_reducible refine gate_callee (f := 129) rfl ?_); refine gL (some 37) Tryz.func129 #[.agg #[.int .i64 a0_0, .slice A0_1 l0_1.length c0_1], .int .i64 x25_2] ?_; (with_reducible refine (Y17.calls k3 a0_0 _ _ l0_1 x25_2 t482 _ (cQ (Kd.C_below HR0_1.out HB.out)) HC0_1.out A17.out).mono ?_); rintro e w28 ⟨rfl, hb⟩; refine ⟨_, rfl, ?_⟩; have _ := aM (Kd.R_below (rQ HO_3) hb); have _ := aM (Kd.R_below (rQ HO_5) hb); have _ := aM (Kd.R_below (rQ HO_28) hb); have _ := bK BK473 hb; have _ := bB hb; clear HO_3 HO_5 HO_28 BK473 HB; rename_i HO_3 HO_5 HO_28 BK473 HB; (try clear hb); have hcz29_0 := zc20 BK473; have hcz29_1 := zc21 BK473; have hfz29_0 := blk_frozen BK473.out 0; have hfz29_1 := blk_frozen BK473.out 1) | (go_at_call 129; (with_reducible refine (Y17.calls k3 a0_0 _ _ l0_1 x25_2 t483 _ (cQ (Kd.C_below HR0_1.out HB.out)) HC0_1.out A21.out).mono ?_); rintro e w30 ⟨rfl, hb⟩; have _ := aM (Kd.R_below (rQ HO_3) hb); have _ := aM (Kd.R_below (rQ HO_5) hb); have _ := aM (Kd.R_below (rQ HO_28) hb); have _ := bK BK473 hb; have _ := bB hb; clear HO_3 HO_5 HO_28 BK473 HB; rename_i HO_3 HO_5 HO_28 BK473 HB; (try clear hb)))
            go_roundg k3
            case measure => have := HK1.out; have := HK2.out; have := HK3.out; omega
            case rel => exact ⟨(x7_3), (wrap64 (x30_3 + 1)), eR, eR, H', ⟨by have := HK1.out; have := HK2.out; have := HK3.out; omega⟩, ⟨rQ HO_3⟩, ⟨rQ HO_5⟩, ⟨rQ HO_28⟩, ⟨qQ BK473⟩, ⟨bq⟩⟩
         ·rw [if_neg c14] at H
          have c14b0 := decide_eq_false c14
          clear c14
          replace H := iS H
          obtain ⟨c31, H⟩ := H
          have LMc31 := aM c31
          clear c31
          obtain ⟨y478, hy478⟩ := nE ((x5_2 ++ [x7_3]) : List Int)
          try rw [← hy478] at H
          try with_reducible replace H := (Option.bind_some _ _).symm.trans H
          try dsimp only at H
          have Ny478 := aM hy478
          clear hy478
          have H' := aM H
          clear H
          go_wp2_with (first | ((with_reducible refine gate_builtin (b := .append) (xs := #[.tmp 50, .tmp 52]) rfl ?_); at_builtin; refine Kd.R_append (Kd.int .i64) (w0 := w) w.heap.size rfl (.tmp 50) (.tmp 52) 24 3 (.int .i64 0) 8 rfl Tryz.underlying24 info3 rfl (by decide) (by omega) u5 x5_2 x7_3 [.int .i64 x7_3] (fun k_ => some k_ ≠ (.slice Ao13 x3_1.length co13 : Value).ownBlock ∧ some k_ ≠ (.slice Ao13 x3_1.length co13 : Value).ownBlock) (fun _ => False) rfl rfl ?aP (fun _ hk => hk.elim) ?aF ?aO ?aB ?aS ?aL ?_; (case aP => exact rfl); (case aB => exact bq); (case aF => exact (fun k_ hk => ⟨Kd.fresh' (Kd.R_lt (rQ HO_3)) k_ hk, Kd.fresh' (Kd.R_lt (rQ HO_28)) k_ hk⟩)); (case aO => exact (rQ HO_5)); (case aS => exact (below_size bq)); (case aL => have := LMc31.out; omega); intro v479 w32 ho hb hg hat; rw [← Ny478.out] at ho; have _ := aM (Kd.R_after (ok := (fun _ => True)) (by (with_reducible repeat first|apply rA|apply rN|apply rD); exact Kd.R_mono HO_3.out (fun _ hk => ⟨trivial, hk⟩)) hg hat); have _ := aM (Kd.R_after (ok := (fun _ => True)) (by (with_reducible repeat first|apply rA|apply rN|apply rD); exact Kd.R_mono HO_28.out (fun _ hk => ⟨trivial, hk⟩)) hg hat); have _ := aM (blk_grown (g := gb473) (o := .cells #[.int .i64 a0_0, .slice A0_1 l0_1.length c0_1] 26 (0, 0)) (qQ BK473) hg (Kd.R_ne HO_5.out BK473.out (by decide))); have _ := aM (hb); have _ := aM (ho); clear HO_3 HO_28 BK473 HB HO_5; rename_i HO_3 HO_28 BK473 HB HO480; clear ho hb hg hat))
          go_roundg k3
          case measure => have := HK1.out; have := HK2.out; have := HK3.out; omega
          case rel => exact ⟨(y478), (wrap64 (x25_2 + 1)), eR, H', ⟨by have := HK1.out; have := HK2.out; have := HK3.out; omega⟩, ⟨by (with_reducible repeat first|apply rA|apply rN|apply rD); exact Kd.R_mono HO_3.out (fun _ hk => hk.2)⟩, ⟨by (with_reducible repeat first|apply rA|apply rN|apply rD); exact Kd.R_mono HO480.out (fun _ hk => hk.1)⟩, ⟨qQ BK473⟩, ⟨bq⟩⟩
      ·rw [if_neg c12] at H
       have c12b0 := decide_eq_false c12
       clear c12
       obtain rfl := Option.some.inj H
       go_wp2
       go_ret
       exact ⟨_, eE, by (with_reducible repeat first|apply rA|apply rN|apply rD); exact Kd.R_mono HO_5.out (fun _ hk => trivial), bq⟩
end Go.Proofs.YtjmmleofnjcjoaaGreatDoor.Du
namespace Go.Proofs.YtjmmleofnjcjoaaGreatDoor.Du
open Go.RowKit Go.Proofs.YtjmmleofnjcjoaaGreatDoorW.PrintWords Go.Proofs.YtjmmleofnjcjoaaGreatDoorW.PrintLast Go.Proofs.YtjmmleofnjcjoaaGreatDoorW.PrintMore Go.Proofs.YtjmmleofnjcjoaaGreatDoor.Sq
attribute [local go_sem] max2_int min2_int max_two min_two max_three min_three max_four min_four
set_option linter.unusedVariables false
set_option linter.unusedSimpArgs false
set_option maxHeartbeats 8000000
set_option maxRecDepth 100000
mutual
def Y22.l0 : Nat → List Int → List (S130) → List Int → Int → Int → Int → List Int → Option ((List (S130)))
 | 0, _, _, _, _, _, _, _ => none
 | k + 1, x3, x4, x12, x13, x14, x485000, x485001 => if x14 < x13 then (if 0 ≤ x14 then (if x14 < (x12.length : Int) then (Y22.l1 k x3 x4 x14 x12 x13 x14 x3 (x3.length : Int) 0 x485000 x485001 (rd x12 x14) (rd x12 x14)) else (none)) else (none)) else (some x4)
def Y22.l1 : Nat → List Int → List (S130) → Int → List Int → Int → Int → List Int → Int → Int → Int → List Int → Int → Int → Option ((List (S130)))
 | 0, _, _, _, _, _, _, _, _, _, _, _, _, _ => none
 | k + 1, x3, x4, x5, x12, x13, x14, x22, x23, x24, x485000, x485001, x490000, x490001 => if x24 < x23 then (if 0 ≤ x24 then (if x24 < (x22.length : Int) then (if 0 ≤ x5 then (if x5 < (x485001.length : Int) then ((Y7.f (rd x485001 x5) x24).bind fun t495 => (if t495 = true then (Y22.l1 k x3 x4 x5 x12 x13 x14 x22 x23 (wrap64 (x24 + 1)) x485000 x485001 x490000 x490001) else ((Y47.f x490001 (rd x22 x24)).bind fun t496 => (Y22.l1 k x3 x4 x5 x12 x13 x14 x22 x23 (wrap64 (x24 + 1)) x485000 x485001 x490000 t496)))) else (none)) else (none)) else (none)) else (none)) else (if x4.length < 8796093022208 then (Y22.l0 k x3 (x4 ++ [(⟨x490000, x490001⟩ : S130)]) x12 x13 (wrap64 (x14 + 1)) x485000 x485001) else (none))
end
def Y22.f (k : Nat) (a0_0 : Int) (l0_1 : List Int) : Option ((List (S130))) := (Y13.f k a0_0 l0_1).bind fun t485 => (Y22.l0 k t485 ([] : List (S130)) t485 (t485.length : Int) 0 a0_0 l0_1)
theorem Y22.calls (k : Nat) (a0_0 : Int) (A0_1 : Option Addr) (c0_1 : Nat) (l0_1 : List Int) (r : List (S130)) (w : World) (hr0_1 : Kd.C (Kd.int .i64) w A0_1 l0_1.length l0_1) (hc0_1 : l0_1.length ≤ c0_1) (h : Y22.f k a0_0 l0_1 = some r) :
  Calls Tryz.prog 157 #[.agg #[.int .i64 a0_0, .slice A0_1 l0_1.length c0_1]] w fun e w' => ∃ v0_ : Value, e = .returned (v0_) ∧ Kd.R k130 130 w' w.heap.size (fun _ => True) v0_ r ∧ Below w.heap.size w w' := by
 have hu26 := Tryz.underlying26
 have hu130 := Tryz.underlying130
 have HR0_1 := aM hr0_1
 have HC0_1 := aM hc0_1
 clear hr0_1 hc0_1
 have HB := aM (Below.refl w.heap.size w)
 unfold Y22.f at h
 have H := h
 clear h
 replace H := bS H
 obtain ⟨t485, A2, H⟩ := H
 try dsimp only at H
 have H' := aM H
 clear H
 go_enter Tryz.func157, Tryz.ntmps157
 go_wp2_with (first | ((with_reducible refine gate_dst (N := 1) rfl ?_); refine bF 1 26 #[.int .i64 a0_0, .slice A0_1 l0_1.length c0_1] bq ?_; intro gb484 w3 hg hb _ _ _ _; clear HB; rename_i HB BK484 GW484 GE484; clear hb hg; have hcz4_0 := zc20 BK484; have hcz4_1 := zc21 BK484; have hfz4_0 := blk_frozen BK484.out 0; have hfz4_1 := blk_frozen BK484.out 1) | ((with_reducible refine gate_callee (f := 159) rfl ?_); refine gL (some 11) Tryz.func159 #[.agg #[.int .i64 a0_0, .slice A0_1 l0_1.length c0_1]] ?_; (with_reducible refine (Y13.calls k a0_0 _ _ l0_1 t485 _ (cQ (Kd.C_below HR0_1.out HB.out)) HC0_1.out A2.out).mono ?_); rintro e w5 ⟨v486, rfl, ho0, hb⟩; refine ⟨_, rfl, ?_⟩; have _ := aM (Kd.R_lower ho0 (below_size bq)); have _ := bK BK484 hb; have _ := bB hb; clear BK484 HB; rename_i HO487 BK484 HB; (try clear hb); (try clear ho0); obtain ⟨Ao6, co6, eo6⟩ := Kd.R_slice HO487.out; subst eo6))
 go_loopg [4, 14] k (fun kq v4 v14 w' => ∃ (x4_1 : List (S130)) (x14_1 : Int), v14 = .int .i64 x14_1 ∧ Aside0 (Y22.l0 kq t485 x4_1 t485 (t485.length : Int) x14_1 a0_0 l0_1 = some r) ∧ Aside0 (kq ≤ k) ∧ Aside0 (Kd.R (Kd.int .i64) 3 w' w.heap.size (fun _ => True) (.slice Ao6 t485.length co6) t485) ∧ Aside0 (Kd.R k130 130 w' w.heap.size (fun _ => True) v4 x4_1) ∧ Aside0 (Kd.R (Kd.int .i64) 3 w' w.heap.size (fun _ => True) (.slice Ao6 t485.length co6) t485) ∧ Aside0 (w'.heap[gb484]? = some (.cells #[.int .i64 a0_0, (.slice A0_1 l0_1.length c0_1)] 26 (0, 0))) ∧ Aside0 (Below w.heap.size w w'))
 case atStart => exact ⟨(([] : List (S130))), (0), eR, H', ⟨Nat.le_refl _⟩, ⟨rQ HO487⟩, ⟨by first | exact Kd.R_nil _ _ _ _ _ | exact Kd.N_nil _ _ _ _ _ | exact Kd.V_nil _ _ _ _ _ | exact Kd.Q_nil _ _ _ _ _ | exact Kd.S_nil _ _ _ _ _⟩, ⟨rQ HO487⟩, ⟨qQ BK484⟩, ⟨bq⟩⟩
 case round =>
  clear H'
  try clear hcz4_0
  try clear hcz4_1
  try clear hfz4_0
  try clear hfz4_1
  obtain ⟨x4_1, x14_1, rfl, HA, HK1, HO_3, HO_4, HO_12, BK484, HB⟩ := hrel
  cases gk with
  | zero => exact absurd HA.out (by simp [Y22.l0])
  | succ k1 =>
   have H := HA.out
   clear HA
   simp only [Y22.l0] at H
   by_cases c7 : x14_1 < (t485.length : Int)
   ·rw [if_pos c7] at H
    have c7b0 := decide_eq_true c7
    clear c7
    replace H := iD2 H
    obtain ⟨c8b0, c9b0, H⟩ := H
    have H' := aM H
    clear H
    have p488 : 0 ≤ (x14_1 : Int) := odt
    have q488 : x14_1 < (t485.length : Int) := odt
    obtain ⟨ad488, e488, hx488_0⟩ := Kd.at_int (Kd.R_reads' HO_12.out).2.2 x14_1 p488 q488
    cases e488
    replace p488 := eq_true p488
    replace q488 := eq_true q488
    go_wp2_with (first | ((with_reducible refine gate_dst (N := 7) rfl ?_); refine bE 7 130 #[.int .i64 0, .int .i64 0] ?_; intro gb489 hg w10 hbox hb; have _ := aM (Kd.R_below (rQ HO_3) hb); have _ := aM (Kd.R_below (Kd.R_elderB (rQ HO_4) gb489 (Nat.le_of_eq hg.symm)) hb); have _ := aM (Kd.R_below (rQ HO_12) hb); have _ := bK BK484 hb; have _ := bB hb; have _ := aM (hbox); have _ := aM ((gS hg)); have _ := aM ((gS hg)); have _ := aM (nL hg BK484); have _ := aM (nG hg BK484); clear HO_3 HO_4 HO_12 BK484 HB; rename_i HO_3 HO_4 HO_12 BK484 HB BK489 GW489 GE489 NB484_489 NB489_484; clear hb hbox hg; have hnb11 := NB489_484.out; have hnc11 := NB484_489.out; have hcz12_0 := zc20 BK489; have hcz12_1 := zc21 BK489; have hfz12_0 := blk_frozen BK489.out 0; have hfz12_1 := blk_frozen BK489.out 1))
    go_loopg [24] k1 (fun kq v24 w' => ∃ (x24_2 : Int) (x490001_2 : Int), v24 = .int .i64 x24_2 ∧ Aside0 (Y22.l1 kq t485 x4_1 x14_1 t485 (t485.length : Int) x14_1 t485 (t485.length : Int) x24_2 a0_0 l0_1 (rd t485 x14_1) x490001_2 = some r) ∧ Aside0 (kq ≤ k1) ∧ Aside0 (Kd.R (Kd.int .i64) 3 w' w.heap.size (fun _ => True) (.slice (some ad488) t485.length co6) t485) ∧ Aside0 (Kd.R k130 130 w' w.heap.size (fun k_ => k_ ≠ gb489) u4 x4_1) ∧ Aside0 (Kd.R (Kd.int .i64) 3 w' w.heap.size (fun _ => True) (.slice (some ad488) t485.length co6) t485) ∧ Aside0 (Kd.R (Kd.int .i64) 3 w' w.heap.size (fun _ => True) (.slice (some ad488) t485.length co6) t485) ∧ Aside0 (w'.heap[gb484]? = some (.cells #[.int .i64 a0_0, (.slice A0_1 l0_1.length c0_1)] 26 (0, 0))) ∧ Aside0 (w'.heap[gb489]? = some (.cells #[.int .i64 (rd t485 x14_1), .int .i64 x490001_2] 130 (0, 0))) ∧ Aside0 (Below w.heap.size w w'))
    case atStart => exact ⟨(0), (rd t485 x14_1), eR, H', ⟨Nat.le_refl _⟩, ⟨by (with_reducible repeat first|apply rA|apply rN|apply rD); exact Kd.R_mono (Kd.R_far (p := ⟨gb489, 1, none⟩) (Kd.R_far (p := ⟨gb489, 0, none⟩) (Kd.R_types HO_3.out BK489.out (by decide)) (fun _ hk => hk.2) (.int .i64 (rd t485 x14_1))) (fun _ hk => hk.2) (.int .i64 (rd t485 x14_1))) (fun _ hk => trivial)⟩, ⟨by (with_reducible repeat first|apply rA|apply rN|apply rD); exact Kd.R_mono (Kd.R_far (p := ⟨gb489, 1, none⟩) (Kd.R_far (p := ⟨gb489, 0, none⟩) (Kd.R_mono HO_4.out (fun k_ hk => (⟨hk, hk.2⟩ : _ ∧ k_ ≠ gb489))) (fun _ hk => hk.2) (.int .i64 (rd t485 x14_1))) (fun _ hk => hk.2) (.int .i64 (rd t485 x14_1))) (fun _ hk => hk.1.2)⟩, ⟨by (with_reducible repeat first|apply rA|apply rN|apply rD); exact Kd.R_mono (Kd.R_far (p := ⟨gb489, 1, none⟩) (Kd.R_far (p := ⟨gb489, 0, none⟩) (Kd.R_types HO_12.out BK489.out (by decide)) (fun _ hk => hk.2) (.int .i64 (rd t485 x14_1))) (fun _ hk => hk.2) (.int .i64 (rd t485 x14_1))) (fun _ hk => trivial)⟩, ⟨by (with_reducible repeat first|apply rA|apply rN|apply rD); exact Kd.R_mono (Kd.R_far (p := ⟨gb489, 1, none⟩) (Kd.R_far (p := ⟨gb489, 0, none⟩) (Kd.R_types HO_3.out BK489.out (by decide)) (fun _ hk => hk.2) (.int .i64 (rd t485 x14_1))) (fun _ hk => hk.2) (.int .i64 (rd t485 x14_1))) (fun _ hk => trivial)⟩, ⟨by (with_reducible repeat first|apply qN|apply qD|apply qA); refine blk_far ?_ NB484_489.out _; (with_reducible repeat first|apply qN|apply qD|apply qA); refine blk_far ?_ NB484_489.out _; (with_reducible repeat first|apply qN|apply qD|apply qA); exact BK484.out⟩, ⟨by (with_reducible repeat first|apply qN|apply qD|apply qA); refine blk_put (cs := #[.int .i64 (rd t485 x14_1), .int .i64 0]) ?_ 1 _ rfl; (with_reducible repeat first|apply qN|apply qD|apply qA); refine blk_put (cs := #[.int .i64 0, .int .i64 0]) ?_ 0 _ rfl; (with_reducible repeat first|apply qN|apply qD|apply qA); exact BK489.out⟩, ⟨bq⟩⟩
    case round =>
     clear H'
     try clear c7
     try clear c7b0
     try clear c8b0
     try clear c9b0
     try clear hcz12_0
     try clear hcz12_1
     try clear hcz4_0
     try clear hcz4_1
     try clear hfz12_0
     try clear hfz12_1
     try clear hfz4_0
     try clear hfz4_1
     try clear hx488_0
     try clear p488
     try clear q488
     obtain ⟨x24_2, x490001_2, rfl, HA, HK2, HO_3, HO_4, HO_12, HO_22, BK484, BK489, HB⟩ := hrel
     cases gk with
     | zero => exact absurd HA.out (by simp [Y22.l1])
     | succ k2 =>
      have H := HA.out
      clear HA
      simp only [Y22.l1] at H
      by_cases c13 : x24_2 < (t485.length : Int)
      ·rw [if_pos c13] at H
       have c13b0 := decide_eq_true c13
       clear c13
       replace H := iD4 H
       obtain ⟨c14b0, c15b0, c16b0, c17b0, H⟩ := H
       replace H := bS H
       obtain ⟨t495, A18, H⟩ := H
       try dsimp only at H
       by_cases c19 : t495 = true
       ·subst c19
        have H1 : (Y22.l1 k2 t485 x4_1 x14_1 t485 (t485.length : Int) x14_1 t485 (t485.length : Int) (wrap64 (x24_2 + 1)) a0_0 l0_1 (rd t485 x14_1) x490001_2) = some r := by rw [if_pos rfl] at H; exact H
        clear H
        have H := H1
        clear H1
        have H' := aM H
        clear H
        have p493 : 0 ≤ (x24_2 : Int) := odt
        have q493 : x24_2 < (t485.length : Int) := odt
        obtain ⟨ad493, e493, hx493_0⟩ := Kd.at_int (Kd.R_reads' HO_22.out).2.2 x24_2 p493 q493
        obtain rfl : ad488 = ad493 := (by injection e493)
        replace p493 := eq_true p493
        replace q493 := eq_true q493
        have hnb20 := NB484_489.out
        have hnc20 := NB489_484.out
        have hcz21_0 := zc20 BK484
        have hcz21_1 := zc21 BK484
        have hfz21_0 := blk_frozen BK484.out 0
        have hfz21_1 := blk_frozen BK484.out 1
        have p494 : 0 ≤ (x14_1 : Int) := odt
        have q494 : x14_1 < (l0_1.length : Int) := odt
        obtain ⟨ad494, e494, hx494_0⟩ := Kd.at_int HR0_1.out x14_1 p494 q494
        cases e494
        replace hx494_0 := (HB.out.cell (World.block_lt_of_cell? w _ hx494_0)).trans hx494_0
        replace p494 := eq_true p494
        replace q494 := eq_true q494
        go_wp2_with (first | ((with_reducible refine gate_callee (f := 149) rfl ?_); refine gL (some 35) Tryz.func149 #[.int .i64 (rd l0_1 x14_1), .int .i64 x24_2] ?_; (with_reducible refine (Y7.calls (rd l0_1 x14_1) x24_2 true _ A18.out).mono ?_); rintro e w' ⟨rfl, ⟨nd, rfl⟩⟩; refine ⟨_, rfl, ?_⟩))
        go_roundg k2
        case measure => have := HK1.out; have := HK2.out; omega
        case rel => exact ⟨(wrap64 (x24_2 + 1)), (x490001_2), eR, H', ⟨by have := HK1.out; have := HK2.out; omega⟩, ⟨rQ HO_3⟩, ⟨rQ HO_4⟩, ⟨rQ HO_12⟩, ⟨rQ HO_22⟩, ⟨qQ BK484⟩, ⟨qQ BK489⟩, ⟨bq⟩⟩
       ·replace c19 := Bool.eq_false_iff.mpr c19
        subst c19
        have H1 : ((Y47.f x490001_2 (rd t485 x24_2)).bind fun t496 => (Y22.l1 k2 t485 x4_1 x14_1 t485 (t485.length : Int) x14_1 t485 (t485.length : Int) (wrap64 (x24_2 + 1)) a0_0 l0_1 (rd t485 x14_1) t496)) = some r := by rw [if_neg (show ¬ (false = true) by decide)] at H; exact H
        clear H
        have H := H1
        clear H1
        replace H := bS H
        obtain ⟨t496, A22, H⟩ := H
        try dsimp only at H
        have H' := aM H
        clear H
        have p493 : 0 ≤ (x24_2 : Int) := odt
        have q493 : x24_2 < (t485.length : Int) := odt
        obtain ⟨ad493, e493, hx493_0⟩ := Kd.at_int (Kd.R_reads' HO_22.out).2.2 x24_2 p493 q493
        obtain rfl : ad488 = ad493 := (by injection e493)
        replace p493 := eq_true p493
        replace q493 := eq_true q493
        have hnb23 := NB484_489.out
        have hnc23 := NB489_484.out
        have hcz24_0 := zc20 BK484
        have hcz24_1 := zc21 BK484
        have hfz24_0 := blk_frozen BK484.out 0
        have hfz24_1 := blk_frozen BK484.out 1
        have p494 : 0 ≤ (x14_1 : Int) := odt
        have q494 : x14_1 < (l0_1.length : Int) := odt
        obtain ⟨ad494, e494, hx494_0⟩ := Kd.at_int HR0_1.out x14_1 p494 q494
        cases e494
        replace hx494_0 := (HB.out.cell (World.block_lt_of_cell? w _ hx494_0)).trans hx494_0
        replace p494 := eq_true p494
        replace q494 := eq_true q494
        go_wp2_with (first | ((with_reducible refine gate_callee (f := 149) rfl ?_); refine gL (some 35) Tryz.func149 #[.int .i64 (rd l0_1 x14_1), .int .i64 x24_2] ?_; (with_reducible refine (Y7.calls (rd l0_1 x14_1) x24_2 false _ A18.out).mono ?_); rintro e w' ⟨rfl, ⟨nd, rfl⟩⟩; refine ⟨_, rfl, ?_⟩; (try (rw [drewN_self wr]; generalize hq_ : World.drewN wr _ = wr; have _ : Aside0 (Kd.R (Kd.int .i64) 3 wr w.heap.size (fun _ => True) (.slice (some ad488) t485.length co6) t485) := ⟨by rw [← hq_]; exact (rQ HO_12)⟩; have _ : Aside0 (Kd.R (Kd.int .i64) 3 wr w.heap.size (fun _ => True) (.slice (some ad488) t485.length co6) t485) := ⟨by rw [← hq_]; exact (rQ HO_22)⟩; have _ : Aside0 (Kd.R (Kd.int .i64) 3 wr w.heap.size (fun _ => True) (.slice (some ad488) t485.length co6) t485) := ⟨by rw [← hq_]; exact (rQ HO_3)⟩; have _ : Aside0 (Kd.R k130 130 wr w.heap.size (fun k_ => k_ ≠ gb489) u4 x4_1) := ⟨by rw [← hq_]; exact (rQ HO_4)⟩; have _ : Aside0 (wr.heap[gb484]? = some (.cells #[.int .i64 a0_0, .slice (some ad494) l0_1.length c0_1] 26 (0, 0))) := ⟨by rw [← hq_]; exact (qQ BK484)⟩; have _ : Aside0 (wr.heap[gb489]? = some (.cells #[.int .i64 (rd t485 x14_1), .int .i64 x490001_2] 130 (0, 0))) := ⟨by rw [← hq_]; exact (qQ BK489)⟩; have _ : Aside0 (Below w.heap.size w wr) := ⟨by rw [← hq_]; exact bq⟩; clear HO_12 HO_22 HO_3 HO_4 BK484 BK489 HB hq_; rename_i HO_12 HO_22 HO_3 HO_4 BK484 BK489 HB; (try have hcq484_0 := zc20 BK484); (try have hfq484_0 := blk_frozen BK484.out 0); (try have hcq484_1 := zc21 BK484); (try have hfq484_1 := blk_frozen BK484.out 1); (try have hcq489_0 := zc20 BK489); (try have hfq489_0 := blk_frozen BK489.out 0); (try have hcq489_1 := zc21 BK489); (try have hfq489_1 := blk_frozen BK489.out 1))); have hcz25_0 := zc20 BK489; have hcz25_1 := zc21 BK489; have hfz25_0 := blk_frozen BK489.out 0; have hfz25_1 := blk_frozen BK489.out 1) | ((with_reducible refine gate_callee (f := 78) rfl ?_); refine gL (some 40) Tryz.func78 #[.int .i64 x490001_2, .int .i64 (rd t485 x24_2)] ?_; (with_reducible refine (Y47.calls x490001_2 (rd t485 x24_2) t496 _ A22.out).mono ?_); rintro e w' ⟨rfl, ⟨nd, rfl⟩⟩; refine ⟨_, rfl, ?_⟩; (try (rw [drewN_self wr]; generalize hq_ : World.drewN wr _ = wr; have _ : Aside0 (Kd.R (Kd.int .i64) 3 wr w.heap.size (fun _ => True) (.slice (some ad488) t485.length co6) t485) := ⟨by rw [← hq_]; exact (rQ HO_12)⟩; have _ : Aside0 (Kd.R (Kd.int .i64) 3 wr w.heap.size (fun _ => True) (.slice (some ad488) t485.length co6) t485) := ⟨by rw [← hq_]; exact (rQ HO_22)⟩; have _ : Aside0 (Kd.R (Kd.int .i64) 3 wr w.heap.size (fun _ => True) (.slice (some ad488) t485.length co6) t485) := ⟨by rw [← hq_]; exact (rQ HO_3)⟩; have _ : Aside0 (Kd.R k130 130 wr w.heap.size (fun k_ => k_ ≠ gb489) u4 x4_1) := ⟨by rw [← hq_]; exact (rQ HO_4)⟩; have _ : Aside0 (wr.heap[gb484]? = some (.cells #[.int .i64 a0_0, .slice (some ad494) l0_1.length c0_1] 26 (0, 0))) := ⟨by rw [← hq_]; exact (qQ BK484)⟩; have _ : Aside0 (wr.heap[gb489]? = some (.cells #[.int .i64 (rd t485 x14_1), .int .i64 x490001_2] 130 (0, 0))) := ⟨by rw [← hq_]; exact (qQ BK489)⟩; have _ : Aside0 (Below w.heap.size w wr) := ⟨by rw [← hq_]; exact bq⟩; clear HO_12 HO_22 HO_3 HO_4 BK484 BK489 HB hq_; rename_i HO_12 HO_22 HO_3 HO_4 BK484 BK489 HB; (try have hcq484_0 := zc20 BK484); (try have hfq484_0 := blk_frozen BK484.out 0); (try have hcq484_1 := zc21 BK484); (try have hfq484_1 := blk_frozen BK484.out 1); (try have hcq489_0 := zc20 BK489); (try have hfq489_0 := blk_frozen BK489.out 0); (try have hcq489_1 := zc21 BK489); (try have hfq489_1 := blk_frozen BK489.out 1)))))
        go_roundg k2
        case measure => have := HK1.out; have := HK2.out; omega
        case rel => exact ⟨(wrap64 (x24_2 + 1)), (t496), eR, H', ⟨by have := HK1.out; have := HK2.out; omega⟩, ⟨by (with_reducible repeat first|apply rA|apply rN|apply rD); exact Kd.R_mono (Kd.R_far (p := ⟨gb489, 1, none⟩) (Kd.R_types HO_3.out BK489.out (by decide)) (fun _ hk => hk.2) (.int .i64 t496)) (fun _ hk => trivial)⟩, ⟨by (with_reducible repeat first|apply rA|apply rN|apply rD); exact Kd.R_mono (Kd.R_far (p := ⟨gb489, 1, none⟩) (Kd.R_mono HO_4.out (fun k_ hk => (⟨hk, hk⟩ : _ ∧ k_ ≠ gb489))) (fun _ hk => hk.2) (.int .i64 t496)) (fun _ hk => hk.1)⟩, ⟨by (with_reducible repeat first|apply rA|apply rN|apply rD); exact Kd.R_mono (Kd.R_far (p := ⟨gb489, 1, none⟩) (Kd.R_types HO_12.out BK489.out (by decide)) (fun _ hk => hk.2) (.int .i64 t496)) (fun _ hk => trivial)⟩, ⟨by (with_reducible repeat first|apply rA|apply rN|apply rD); exact Kd.R_mono (Kd.R_far (p := ⟨gb489, 1, none⟩) (Kd.R_types HO_22.out BK489.out (by decide)) (fun _ hk => hk.2) (.int .i64 t496)) (fun _ hk => trivial)⟩, ⟨by (with_reducible repeat first|apply qN|apply qD|apply qA); refine blk_far ?_ NB484_489.out _; (with_reducible repeat first|apply qN|apply qD|apply qA); exact BK484.out⟩, ⟨by (with_reducible repeat first|apply qN|apply qD|apply qA); refine blk_put (cs := #[.int .i64 (rd t485 x14_1), .int .i64 x490001_2]) ?_ 1 _ rfl; (with_reducible repeat first|apply qN|apply qD|apply qA); exact BK489.out⟩, ⟨bq⟩⟩
      ·rw [if_neg c13] at H
       have c13b0 := decide_eq_false c13
       clear c13
       replace H := iS H
       obtain ⟨c26, H⟩ := H
       have LMc26 := aM c26
       clear c26
       obtain ⟨y490, hy490⟩ := nE ((x4_1 ++ [(⟨(rd t485 x14_1), x490001_2⟩ : S130)]) : List (S130))
       try rw [← hy490] at H
       try with_reducible replace H := (Option.bind_some _ _).symm.trans H
       try dsimp only at H
       have Ny490 := aM hy490
       clear hy490
       have H' := aM H
       clear H
       have hnb27 := NB489_484.out
       have hnc27 := NB484_489.out
       have hcz28_0 := zc20 BK489
       have hcz28_1 := zc21 BK489
       have hfz28_0 := blk_frozen BK489.out 0
       have hfz28_1 := blk_frozen BK489.out 1
       go_wp2_with (first | ((with_reducible refine gate_builtin (b := .append) (xs := #[.tmp 43, .tmp 45]) rfl ?_); at_builtin; refine Kd.R_append k130 (w0 := w) w.heap.size rfl (.tmp 43) (.tmp 45) 122 130 (.agg #[(.int .i64 0), (.int .i64 0)]) 16 rfl Tryz.underlying122 info130 rfl (by decide) (by omega) u4 x4_1 (⟨(rd t485 x14_1), x490001_2⟩ : S130) [.int .i64 (rd t485 x14_1), .int .i64 x490001_2] (fun k_ => k_ ≠ gb489) (fun _ => False) rfl rfl ?aP (fun _ hk => hk.elim) ?aF ?aO ?aB ?aS ?aL ?_; (case aP => exact k130_mkM _ _ _ (⟨(rd t485 x14_1), x490001_2⟩ : S130)); (case aB => exact bq); (case aF => exact (fun k_ hk => Kd.freshB (g := gb489) (o := .cells #[.int .i64 (rd t485 x14_1), .int .i64 x490001_2] 130 (0, 0)) (qQ BK489) k_ hk)); (case aO => exact (rQ HO_4)); (case aS => exact (below_size bq)); (case aL => have := LMc26.out; omega); intro v491 w29 ho hb hg hat; rw [← Ny490.out] at ho; have _ := aM (Kd.R_over' (rQ HO_3) (Kd.R_typed (rQ HO_4)) (by decide) hg); have _ := aM (Kd.R_over' (rQ HO_12) (Kd.R_typed (rQ HO_4)) (by decide) hg); have _ := aM (Kd.R_over' (rQ HO_22) (Kd.R_typed (rQ HO_4)) (by decide) hg); have _ := aM (blk_grown (g := gb484) (o := .cells #[.int .i64 a0_0, .slice A0_1 l0_1.length c0_1] 26 (0, 0)) (qQ BK484) hg (Kd.R_ne HO_4.out BK484.out (by decide))); have _ := aM (blk_grown (g := gb489) (o := .cells #[.int .i64 (rd t485 x14_1), .int .i64 x490001_2] 130 (0, 0)) (qQ BK489) hg (Kd.R_away HO_4.out (fun _ hk => hk))); have _ := aM (hb); have _ := aM (ho); clear HO_3 HO_12 HO_22 BK484 BK489 HB HO_4; rename_i HO_3 HO_12 HO_22 BK484 BK489 HB HO492; clear ho hb hg hat))
       go_roundg k2
       case measure => have := HK1.out; have := HK2.out; omega
       case rel => exact ⟨(y490), (wrap64 (x14_1 + 1)), eR, H', ⟨by have := HK1.out; have := HK2.out; omega⟩, ⟨rQ HO_3⟩, ⟨by (with_reducible repeat first|apply rA|apply rN|apply rD); exact Kd.R_mono HO492.out (fun _ hk => trivial)⟩, ⟨rQ HO_12⟩, ⟨qQ BK484⟩, ⟨bq⟩⟩
   ·rw [if_neg c7] at H
    have c7b0 := decide_eq_false c7
    clear c7
    obtain rfl := Option.some.inj H
    go_wp2
    go_ret
    exact ⟨_, eE, rQ HO_4, bq⟩
def Y28.l0 : Nat → Int → List Int → Int → Int → Option (Int)
 | 0, _, _, _, _ => none
 | k + 1, x3, x6, x7, x8 => if x8 < x7 then (if 0 ≤ x8 then (if x8 < (x6.length : Int) then ((Y47.f x3 (rd x6 x8)).bind fun t498 => (Y28.l0 k t498 x6 x7 (wrap64 (x8 + 1)))) else (none)) else (none)) else (some x3)
def Y28.f (k : Nat) (l0 : List Int) : Option (Int) := Y28.l0 k (-1) l0 (l0.length : Int) 0
theorem Y28.calls (k : Nat) (A0 : Option Addr) (c0 : Nat) (l0 : List Int) (r : Int) (w : World) (hr0 : Kd.C (Kd.int .i64) w A0 l0.length l0) (hc0 : l0.length ≤ c0) (h : Y28.f k l0 = some r) :
  Calls Tryz.prog 158 #[.slice A0 l0.length c0] w fun e w' => e = .returned (.int .i64 r) ∧ Drawn0 w w' := by
 have HR0 := aM hr0
 have HC0 := aM hc0
 clear hr0 hc0
 have H : (Y28.l0 k (-1) l0 (l0.length : Int) 0) = some r := h
 clear h
 have H' := aM H
 clear H
 go_enter Tryz.func158, Tryz.ntmps158
 go_wp2
 go_loopg [3, 8] k (fun kq v3 v8 w' => ∃ (x3_1 : Int) (x8_1 : Int), v3 = .int .i64 x3_1 ∧ v8 = .int .i64 x8_1 ∧ Aside0 (Y28.l0 kq x3_1 l0 (l0.length : Int) x8_1 = some r) ∧ Aside0 (kq ≤ k) ∧ Drawn0 w w')
 case atStart => exact ⟨((-1)), (0), eR, eR, H', ⟨Nat.le_refl _⟩, dQ⟩
 case round =>
  clear H'
  obtain ⟨x3_1, x8_1, rfl, rfl, HA, HK1, ⟨m1, rfl⟩⟩ := hrel
  cases gk with
  | zero => exact absurd HA.out (by simp [Y28.l0])
  | succ k1 =>
   have H := HA.out
   clear HA
   simp only [Y28.l0] at H
   by_cases c2 : x8_1 < (l0.length : Int)
   ·rw [if_pos c2] at H
    have c2b0 := decide_eq_true c2
    clear c2
    replace H := iD2 H
    obtain ⟨c3b0, c4b0, H⟩ := H
    replace H := bS H
    obtain ⟨t498, A5, H⟩ := H
    try dsimp only at H
    have H' := aM H
    clear H
    have p497 : 0 ≤ (x8_1 : Int) := odt
    have q497 : x8_1 < (l0.length : Int) := odt
    obtain ⟨ad497, e497, hx497_0⟩ := Kd.at_int HR0.out x8_1 p497 q497
    cases e497
    replace p497 := eq_true p497
    replace q497 := eq_true q497
    go_wp2_with (first | ((with_reducible refine gate_callee (f := 78) rfl ?_); refine gL (some 14) Tryz.func78 #[.int .i64 x3_1, .int .i64 (rd l0 x8_1)] ?_; (with_reducible refine (Y47.calls x3_1 (rd l0 x8_1) t498 _ A5.out).mono ?_); rintro e w' ⟨rfl, ⟨nd, rfl⟩⟩; refine ⟨_, rfl, ?_⟩))
    go_roundg k1
    case measure => have := HK1.out; omega
    case rel => exact ⟨(t498), (wrap64 (x8_1 + 1)), eR, eR, H', ⟨by have := HK1.out; omega⟩, dQ⟩
   ·rw [if_neg c2] at H
    have c2b0 := decide_eq_false c2
    clear c2
    obtain rfl := Option.some.inj H
    go_wp2
    go_ret
    exact ⟨by first | rfl | (simp; done) | (simp [*]; done), dQ⟩
end Go.Proofs.YtjmmleofnjcjoaaGreatDoor.Du
