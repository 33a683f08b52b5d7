-- Written by hook.py, a program of this session (wip/), which runs the kit's print.py with its own parts; Lean checks it.
import Derived.Test.YtcodionjhcmfhaaDoorMo0
import Derived.Test.YtcodionjhcmfhaaDoorMo4
import Derived.Test.YtcodionjhcmfhaaDoorMoXSq
namespace Go.Proofs.YtcodionjhcmfhaaDoor.Mo
open Go.RowKit Go.Proofs.YtcodionjhcmfhaaDoorW.PrintWords Go.Proofs.YtcodionjhcmfhaaDoorW.PrintLast Go.Proofs.YtcodionjhcmfhaaDoorW.PrintMore Go.Proofs.YtcodionjhcmfhaaDoor.Sq
attribute [local go_sem] max2_int min2_int max_two min_two max_three min_three max_four min_four   -- for this text's walks alone
set_option linter.unusedVariables false
set_option linter.unusedSimpArgs false

mutual
def spec_ivLevels.l0 : Nat → List Int → Int → Int → Int → List Int → Option (List Int)
 | 0, _, _, _, _, _ => none
 | k + 1, x3, x12, x13, x189000, x189001 => if x13 < x12 then ((spec_orBelow.f k x189000 x189001 x13).bind fun t189 => ((spec_l1Put.f k x3 t189).bind fun t190 => (spec_ivLevels.l0 k t190 x12 (wrap64 (x13 + 1)) x189000 x189001))) else (spec_ivLevels.l1 k x3 ([] : List Int) (x189001.length : Int) 0 x189000 x189001)
def spec_ivLevels.l1 : Nat → List Int → List Int → Int → Int → Int → List Int → Option (List Int)
 | 0, _, _, _, _, _, _ => none
 | k + 1, x3, x5, x24, x25, x189000, x189001 => if x25 < x24 then (spec_ivLevels.l2 k x3 x5 x25 0 x24 x25 x3 (x3.length : Int) 0 x189000 x189001) else (some x5)
def spec_ivLevels.l2 : Nat → List Int → List Int → Int → Int → Int → Int → List Int → Int → Int → Int → List Int → Option (List Int)
 | 0, _, _, _, _, _, _, _, _, _, _, _ => none
 | k + 1, x3, x5, x6, x7, x24, x25, x28, x29, x30, x189000, x189001 => if x30 < x29 then (if 0 ≤ x30 then (if x30 < (x28.length : Int) then ((spec_orBelow.f k x189000 x189001 x6).bind fun t197 => (if (rd x28 x30) = t197 then (spec_ivLevels.l2 k x3 x5 x6 x7 x24 x25 x28 x29 (wrap64 (x30 + 1)) x189000 x189001) else ((spec_orBelow.f k x189000 x189001 x6).bind fun t198 => (if (Go.bits .andNot .i64 (rd x28 x30) t198) = 0 then (spec_ivLevels.l2 k x3 x5 x6 (wrap64 (x7 + 1)) x24 x25 x28 x29 (wrap64 (x30 + 1)) x189000 x189001) else (spec_ivLevels.l2 k x3 x5 x6 x7 x24 x25 x28 x29 (wrap64 (x30 + 1)) x189000 x189001))))) else (none)) else (none)) else (if x5.length < 17592186044416 then (spec_ivLevels.l1 k x3 (x5 ++ [x7]) x24 (wrap64 (x25 + 1)) x189000 x189001) else (none))
end
def spec_ivLevels.f (k : Nat) (a0_0 : Int) (l0_1 : List Int) : Option (List Int) := spec_ivLevels.l0 k ([] : List Int) (l0_1.length : Int) 0 a0_0 l0_1
set_option maxHeartbeats 8000000 in
set_option maxRecDepth 100000 in
theorem spec_ivLevels.calls (k : Nat) (a0_0 : Int) (A0_1 : Option Addr) (c0_1 : Nat) (l0_1 : List Int) (r : List Int) (w : World) (hr0_1 : Kd.C (Kd.int .i64) w A0_1 l0_1.length l0_1) (hc0_1 : l0_1.length ≤ c0_1) (h : spec_ivLevels.f k a0_0 l0_1 = some r) :
  Calls Tryd.prog 67 #[.agg #[.int .i64 a0_0, .slice A0_1 l0_1.length c0_1]] w fun e w' => ∃ v0_ : Value, e = .returned (v0_) ∧ Kd.R (Kd.int .i64) 3 w' w.heap.size (fun _ => True) v0_ r ∧ Below w.heap.size w w' := by
 have hu31 := Tryd.underlying31
 have HR0_1 := aM hr0_1
 have HC0_1 := aM hc0_1
 clear hr0_1 hc0_1
 have HB := aM (Below.refl w.heap.size w)
 have H : (spec_ivLevels.l0 k ([] : List Int) (l0_1.length : Int) 0 a0_0 l0_1) = some r := h
 clear h
 have H' := aM H
 clear H
 go_enter Tryd.func67, Tryd.ntmps67
 go_wp2_with (first | ((with_reducible refine gate_dst (N := 1) rfl ?_); refine bE 1 31 #[.int .i64 a0_0, .slice A0_1 l0_1.length c0_1] ?_; intro gb188 hg w2 hbox hb; have _ := aM (below_step bq hb); have _ := aM (hbox); have _ := aM ((gS hg)); have _ := aM ((gS hg)); clear HB; rename_i HB BK188 GW188 GE188; clear hb hbox hg; have hcz3_0 := zc20 BK188; have hcz3_1 := zc21 BK188; have hfz3_0 := blk_frozen BK188.out 0; have hfz3_1 := blk_frozen BK188.out 1))
 go_loopg [3, 13] k (fun kq v3 v13 w' => ∃ (x3_1 : List Int) (x13_1 : Int), v13 = .int .i64 x13_1 ∧ Aside0 (spec_ivLevels.l0 kq x3_1 (l0_1.length : Int) x13_1 a0_0 l0_1 = some r) ∧ Aside0 (kq ≤ k) ∧ Aside0 (Kd.R (Kd.int .i64) 3 w' w.heap.size (fun _ => True) v3 x3_1) ∧ Aside0 (w'.heap[gb188]? = some (.cells #[.int .i64 a0_0, (.slice A0_1 l0_1.length c0_1)] 31 (0, 0))) ∧ Aside0 (Below w.heap.size w w'))
 case atStart => exact ⟨(([] : List Int)), (0), eR, H', ⟨Nat.le_refl _⟩, ⟨by first | exact Kd.R_nil _ _ _ _ _ | exact Kd.N_nil _ _ _ _ _ | exact Kd.V_nil _ _ _ _ _ | exact Kd.Q_nil _ _ _ _ _ | exact Kd.S_nil _ _ _ _ _⟩, ⟨qQ BK188⟩, ⟨bq⟩⟩
 case round =>
  clear H'
  try clear p2
  try clear hcz3_0
  try clear hcz3_1
  try clear hfz3_0
  try clear hfz3_1
  obtain ⟨x3_1, x13_1, rfl, HA, HK1, HO_3, BK188, HB⟩ := hrel
  cases gk with
  | zero => exact absurd HA.out (by simp [spec_ivLevels.l0])
  | succ k1 =>
   have H := HA.out
   clear HA
   simp only [spec_ivLevels.l0] at H
   by_cases c4 : x13_1 < (l0_1.length : Int)
   ·rw [if_pos c4] at H
    have c4b0 := decide_eq_true c4
    clear c4
    replace H := bS H
    obtain ⟨t189, A5, H⟩ := H
    try dsimp only at H
    replace H := bS H
    obtain ⟨t190, A6, H⟩ := H
    try dsimp only at H
    have H' := aM H
    clear H
    have hcz7_0 := zc20 BK188
    have hcz7_1 := zc21 BK188
    have hfz7_0 := blk_frozen BK188.out 0
    have hfz7_1 := blk_frozen BK188.out 1
    go_wp2_with (first | ((with_reducible refine gate_callee (f := 98) rfl ?_); refine gL (some 19) Tryd.func98 #[.agg #[.int .i64 a0_0, .slice A0_1 l0_1.length c0_1], .int .i64 x13_1] ?_; (with_reducible refine (spec_orBelow.calls k1 a0_0 _ _ l0_1 x13_1 t189 _ (cQ (Kd.C_below HR0_1.out HB.out)) HC0_1.out A5.out).mono ?_); rintro e w8 ⟨rfl, hb⟩; refine ⟨_, rfl, ?_⟩; have _ := aM (Kd.R_below (rQ HO_3) hb); have _ := aM (blk_below (qQ BK188) hb); have _ := aM (below_step bq hb); clear HO_3 BK188 HB; rename_i HO_3 BK188 HB; (try clear hb); (try clear hb2); (try clear hk); (try clear hi); obtain ⟨Ao9, co9, eo9⟩ := Kd.R_slice HO_3.out; subst eo9) | ((with_reducible refine gate_callee (f := 97) rfl ?_); refine gL (some 20) Tryd.func97 #[.slice Ao9 x3_1.length co9, .int .i64 t189] ?_; (with_reducible refine (spec_l1Put.calls k1 (fun k_ => some k_ = (.slice Ao9 x3_1.length co9 : Value).ownBlock) (.slice Ao9 x3_1.length co9) x3_1 t189 t190 w _ ?side1 ?side2 A6.out).mono ?_); (case side1 => exact bq); (case side2 => exact Kd.R_tight rfl HO_3.out); rintro e w10 ⟨v191, rfl, ho0, hb, hkp⟩; refine ⟨_, rfl, ?_⟩; have _ := aM (blk_kept (qQ BK188) hkp (fun hs_ => (fun e_ => (Kd.R_ne HO_3.out BK188.out (by decide)) e_) hs_)); have _ := aM (Kd.R_mono (ok' := fun k_ => True) ho0 (fun k_ hk_ => trivial)); have _ := aM (hb); clear BK188 HB HO_3; rename_i BK188 HO192 HB; (try clear hb); (try clear hkp); (try clear ho0)))
    go_roundg k1
    case measure => have := HK1.out; omega
    case rel => exact ⟨(t190), (wrap64 (x13_1 + 1)), eR, H', ⟨by have := HK1.out; omega⟩, ⟨rQ HO192⟩, ⟨qQ BK188⟩, ⟨bq⟩⟩
   ·rw [if_neg c4] at H
    have c4b0 := decide_eq_false c4
    clear c4
    have H' := aM H
    clear H
    have hcz11_0 := zc20 BK188
    have hcz11_1 := zc21 BK188
    have hfz11_0 := blk_frozen BK188.out 0
    have hfz11_1 := blk_frozen BK188.out 1
    go_wp2
    go_loopg [5, 25] k1 (fun kq v5 v25 w' => ∃ (x5_2 : List Int) (x25_2 : Int), v25 = .int .i64 x25_2 ∧ Aside0 (spec_ivLevels.l1 kq x3_1 x5_2 (l0_1.length : Int) x25_2 a0_0 l0_1 = some r) ∧ Aside0 (kq ≤ k1) ∧ Aside0 (Kd.R (Kd.int .i64) 3 w' w.heap.size (fun k_ => some k_ ≠ (v5 : Value).ownBlock) u3 x3_1) ∧ Aside0 (Kd.R (Kd.int .i64) 3 w' w.heap.size (fun k_ => some k_ ≠ (u3 : Value).ownBlock) v5 x5_2) ∧ Aside0 (w'.heap[gb188]? = some (.cells #[.int .i64 a0_0, (.slice A0_1 l0_1.length c0_1)] 31 (0, 0))) ∧ Aside0 (Below w.heap.size w w'))
    case atStart => exact ⟨(([] : List Int)), (0), eR, H', ⟨Nat.le_refl _⟩, ⟨by (with_reducible repeat first|apply rA|apply rN|apply rD); exact Kd.R_mono HO_3.out (fun _ hk => (by simp [Value.ownBlock]))⟩, ⟨by first | exact Kd.R_nil _ _ _ _ _ | exact Kd.N_nil _ _ _ _ _ | exact Kd.V_nil _ _ _ _ _ | exact Kd.Q_nil _ _ _ _ _ | exact Kd.S_nil _ _ _ _ _⟩, ⟨qQ BK188⟩, ⟨bq⟩⟩
    case round =>
     clear H'
     try clear p2
     try clear c4
     try clear c4b0
     try clear c6
     try clear p6
     try clear c9
     try clear hcz11_0
     try clear hcz11_1
     try clear hcz3_0
     try clear hcz3_1
     try clear hcz7_0
     try clear hcz7_1
     try clear hfz11_0
     try clear hfz11_1
     try clear hfz3_0
     try clear hfz3_1
     try clear hfz7_0
     try clear hfz7_1
     try clear p2
     obtain ⟨x5_2, x25_2, rfl, HA, HK2, HO_3, HO_5, BK188, HB⟩ := hrel
     cases gk with
     | zero => exact absurd HA.out (by simp [spec_ivLevels.l1])
     | succ k2 =>
      have H := HA.out
      clear HA
      simp only [spec_ivLevels.l1] at H
      by_cases c12 : x25_2 < (l0_1.length : Int)
      ·rw [if_pos c12] at H
       have c12b0 := decide_eq_true c12
       clear c12
       have H' := aM H
       clear H
       obtain ⟨Ao13, co13, eo13⟩ := Kd.R_slice HO_3.out
       subst eo13
       go_wp2
       go_loopg [7, 30] k2 (fun kq v7 v30 w' => ∃ (x7_3 : Int) (x30_3 : Int), v7 = .int .i64 x7_3 ∧ v30 = .int .i64 x30_3 ∧ Aside0 (spec_ivLevels.l2 kq x3_1 x5_2 x25_2 x7_3 (l0_1.length : Int) x25_2 x3_1 (x3_1.length : Int) x30_3 a0_0 l0_1 = some r) ∧ Aside0 (kq ≤ k2) ∧ Aside0 (Kd.R (Kd.int .i64) 3 w' w.heap.size (fun k_ => some k_ ≠ (u5 : Value).ownBlock) (.slice Ao13 x3_1.length co13) x3_1) ∧ Aside0 (Kd.R (Kd.int .i64) 3 w' w.heap.size (fun k_ => some k_ ≠ ((.slice Ao13 x3_1.length co13) : Value).ownBlock ∧ some k_ ≠ ((.slice Ao13 x3_1.length co13) : Value).ownBlock) u5 x5_2) ∧ Aside0 (Kd.R (Kd.int .i64) 3 w' w.heap.size (fun k_ => some k_ ≠ (u5 : Value).ownBlock) (.slice Ao13 x3_1.length co13) x3_1) ∧ Aside0 (w'.heap[gb188]? = some (.cells #[.int .i64 a0_0, (.slice A0_1 l0_1.length c0_1)] 31 (0, 0))) ∧ Aside0 (Below w.heap.size w w'))
       case atStart => exact ⟨(0), (0), eR, eR, H', ⟨Nat.le_refl _⟩, ⟨rQ HO_3⟩, ⟨by (with_reducible repeat first|apply rA|apply rN|apply rD); exact Kd.R_mono HO_5.out (fun _ hk => ⟨hk, hk⟩)⟩, ⟨rQ HO_3⟩, ⟨qQ BK188⟩, ⟨bq⟩⟩
       case round =>
        clear H'
        try clear c1
        try clear p2
        try clear c4
        try clear c4b0
        try clear c6
        try clear p6
        try clear c9
        try clear c12
        try clear c12b0
        try clear hcz11_0
        try clear hcz11_1
        try clear hcz3_0
        try clear hcz3_1
        try clear hcz7_0
        try clear hcz7_1
        try clear hfz11_0
        try clear hfz11_1
        try clear hfz3_0
        try clear hfz3_1
        try clear hfz7_0
        try clear hfz7_1
        try clear p2
        try clear p6
        obtain ⟨x7_3, x30_3, rfl, rfl, HA, HK3, HO_3, HO_5, HO_28, BK188, HB⟩ := hrel
        cases gk with
        | zero => exact absurd HA.out (by simp [spec_ivLevels.l2])
        | succ k3 =>
         have H := HA.out
         clear HA
         simp only [spec_ivLevels.l2] at H
         by_cases c14 : x30_3 < (x3_1.length : Int)
         ·rw [if_pos c14] at H
          have c14b0 := decide_eq_true c14
          clear c14
          replace H := iD2 H
          obtain ⟨c15b0, c16b0, H⟩ := H
          replace H := bS H
          obtain ⟨t197, A17, H⟩ := H
          try dsimp only at H
          by_cases c18 : (rd x3_1 x30_3) = t197
          ·rw [if_pos c18] at H
           have c18b0 : ((rd x3_1 x30_3) == t197) = true := beq_iff_eq.mpr c18
           have c18b1 : ((rd x3_1 x30_3) != t197) = false := bne_eq_false_iff_eq.mpr c18
           clear c18
           have H' := aM H
           clear H
           have p196 : 0 ≤ (x30_3 : Int) := odt
           have q196 : x30_3 < (x3_1.length : Int) := odt
           obtain ⟨ad196, e196, hx196_0⟩ := Kd.at_int (Kd.R_reads' HO_28.out).2.2 x30_3 p196 q196
           cases e196
           replace p196 := eq_true p196
           replace q196 := eq_true q196
           have hcz19_0 := zc20 BK188
           have hcz19_1 := zc21 BK188
           have hfz19_0 := blk_frozen BK188.out 0
           have hfz19_1 := blk_frozen BK188.out 1
           go_wp2_with (first | ((with_reducible refine gate_callee (f := 98) rfl ?_); refine gL (some 37) Tryd.func98 #[.agg #[.int .i64 a0_0, .slice A0_1 l0_1.length c0_1], .int .i64 x25_2] ?_; (with_reducible refine (spec_orBelow.calls k3 a0_0 _ _ l0_1 x25_2 t197 _ (cQ (Kd.C_below HR0_1.out HB.out)) HC0_1.out A17.out).mono ?_); rintro e w20 ⟨rfl, hb⟩; refine ⟨_, rfl, ?_⟩; have _ := aM (Kd.R_below (rQ HO_3) hb); have _ := aM (Kd.R_below (rQ HO_5) hb); have _ := aM (Kd.R_below (rQ HO_28) hb); have _ := aM (blk_below (qQ BK188) hb); have _ := aM (below_step bq hb); clear HO_3 HO_5 HO_28 BK188 HB; rename_i HO_3 HO_5 HO_28 BK188 HB; (try clear hb); (try clear hb2); (try clear hk); (try clear hi)))
           go_roundg k3
           case measure => have := HK1.out; have := HK2.out; have := HK3.out; omega
           case rel => exact ⟨(x7_3), (wrap64 (x30_3 + 1)), eR, eR, H', ⟨by have := HK1.out; have := HK2.out; have := HK3.out; omega⟩, ⟨rQ HO_3⟩, ⟨rQ HO_5⟩, ⟨rQ HO_28⟩, ⟨qQ BK188⟩, ⟨bq⟩⟩
          ·rw [if_neg c18] at H
           have c18b0 : ((rd x3_1 x30_3) == t197) = false := beq_eq_false_iff_ne.mpr c18
           have c18b1 : ((rd x3_1 x30_3) != t197) = true := bne_iff_ne.mpr c18
           replace H := bS H
           obtain ⟨t198, A21, H⟩ := H
           try dsimp only at H
           by_cases c22 : (Go.bits .andNot .i64 (rd x3_1 x30_3) t198) = 0
           ·rw [if_pos c22] at H
            have c22b0 : ((Go.bits .andNot .i64 (rd x3_1 x30_3) t198) == 0) = true := beq_iff_eq.mpr c22
            have c22b1 : ((Go.bits .andNot .i64 (rd x3_1 x30_3) t198) != 0) = false := bne_eq_false_iff_eq.mpr c22
            clear c22
            have H' := aM H
            clear H
            have p196 : 0 ≤ (x30_3 : Int) := odt
            have q196 : x30_3 < (x3_1.length : Int) := odt
            obtain ⟨ad196, e196, hx196_0⟩ := Kd.at_int (Kd.R_reads' HO_28.out).2.2 x30_3 p196 q196
            cases e196
            replace p196 := eq_true p196
            replace q196 := eq_true q196
            have hcz23_0 := zc20 BK188
            have hcz23_1 := zc21 BK188
            have hfz23_0 := blk_frozen BK188.out 0
            have hfz23_1 := blk_frozen BK188.out 1
            go_wp2_with (first | ((with_reducible refine gate_callee (f := 98) rfl ?_); refine gL (some 37) Tryd.func98 #[.agg #[.int .i64 a0_0, .slice A0_1 l0_1.length c0_1], .int .i64 x25_2] ?_; (with_reducible refine (spec_orBelow.calls k3 a0_0 _ _ l0_1 x25_2 t197 _ (cQ (Kd.C_below HR0_1.out HB.out)) HC0_1.out A17.out).mono ?_); rintro e w24 ⟨rfl, hb⟩; refine ⟨_, rfl, ?_⟩; have _ := aM (Kd.R_below (rQ HO_3) hb); have _ := aM (Kd.R_below (rQ HO_5) hb); have _ := aM (Kd.R_below (rQ HO_28) hb); have _ := aM (blk_below (qQ BK188) hb); have _ := aM (below_step bq hb); clear HO_3 HO_5 HO_28 BK188 HB; rename_i HO_3 HO_5 HO_28 BK188 HB; (try clear hb); (try clear hb2); (try clear hk); (try clear hi); have hcz25_0 := zc20 BK188; have hcz25_1 := zc21 BK188; have hfz25_0 := blk_frozen BK188.out 0; have hfz25_1 := blk_frozen BK188.out 1) | (go_at_call 98; (with_reducible refine (spec_orBelow.calls k3 a0_0 _ _ l0_1 x25_2 t198 _ (cQ (Kd.C_below HR0_1.out HB.out)) HC0_1.out A21.out).mono ?_); rintro e w26 ⟨rfl, hb⟩; have _ := aM (Kd.R_below (rQ HO_3) hb); have _ := aM (Kd.R_below (rQ HO_5) hb); have _ := aM (Kd.R_below (rQ HO_28) hb); have _ := aM (blk_below (qQ BK188) hb); have _ := aM (below_step bq hb); clear HO_3 HO_5 HO_28 BK188 HB; rename_i HO_3 HO_5 HO_28 BK188 HB; (try clear hb); (try clear hb2); (try clear hk); (try clear hi)))
            go_roundg k3
            case measure => have := HK1.out; have := HK2.out; have := HK3.out; omega
            case rel => exact ⟨(wrap64 (x7_3 + 1)), (wrap64 (x30_3 + 1)), eR, eR, H', ⟨by have := HK1.out; have := HK2.out; have := HK3.out; omega⟩, ⟨rQ HO_3⟩, ⟨rQ HO_5⟩, ⟨rQ HO_28⟩, ⟨qQ BK188⟩, ⟨bq⟩⟩
           ·rw [if_neg c22] at H
            have c22b0 : ((Go.bits .andNot .i64 (rd x3_1 x30_3) t198) == 0) = false := beq_eq_false_iff_ne.mpr c22
            have c22b1 : ((Go.bits .andNot .i64 (rd x3_1 x30_3) t198) != 0) = true := bne_iff_ne.mpr c22
            have H' := aM H
            clear H
            have p196 : 0 ≤ (x30_3 : Int) := odt
            have q196 : x30_3 < (x3_1.length : Int) := odt
            obtain ⟨ad196, e196, hx196_0⟩ := Kd.at_int (Kd.R_reads' HO_28.out).2.2 x30_3 p196 q196
            cases e196
            replace p196 := eq_true p196
            replace q196 := eq_true q196
            have hcz27_0 := zc20 BK188
            have hcz27_1 := zc21 BK188
            have hfz27_0 := blk_frozen BK188.out 0
            have hfz27_1 := blk_frozen BK188.out 1
            go_wp2_with (first | ((with_reducible refine gate_callee (f := 98) rfl ?_); refine gL (some 37) Tryd.func98 #[.agg #[.int .i64 a0_0, .slice A0_1 l0_1.length c0_1], .int .i64 x25_2] ?_; (with_reducible refine (spec_orBelow.calls k3 a0_0 _ _ l0_1 x25_2 t197 _ (cQ (Kd.C_below HR0_1.out HB.out)) HC0_1.out A17.out).mono ?_); rintro e w28 ⟨rfl, hb⟩; refine ⟨_, rfl, ?_⟩; have _ := aM (Kd.R_below (rQ HO_3) hb); have _ := aM (Kd.R_below (rQ HO_5) hb); have _ := aM (Kd.R_below (rQ HO_28) hb); have _ := aM (blk_below (qQ BK188) hb); have _ := aM (below_step bq hb); clear HO_3 HO_5 HO_28 BK188 HB; rename_i HO_3 HO_5 HO_28 BK188 HB; (try clear hb); (try clear hb2); (try clear hk); (try clear hi); have hcz29_0 := zc20 BK188; have hcz29_1 := zc21 BK188; have hfz29_0 := blk_frozen BK188.out 0; have hfz29_1 := blk_frozen BK188.out 1) | (go_at_call 98; (with_reducible refine (spec_orBelow.calls k3 a0_0 _ _ l0_1 x25_2 t198 _ (cQ (Kd.C_below HR0_1.out HB.out)) HC0_1.out A21.out).mono ?_); rintro e w30 ⟨rfl, hb⟩; have _ := aM (Kd.R_below (rQ HO_3) hb); have _ := aM (Kd.R_below (rQ HO_5) hb); have _ := aM (Kd.R_below (rQ HO_28) hb); have _ := aM (blk_below (qQ BK188) hb); have _ := aM (below_step bq hb); clear HO_3 HO_5 HO_28 BK188 HB; rename_i HO_3 HO_5 HO_28 BK188 HB; (try clear hb); (try clear hb2); (try clear hk); (try clear hi)))
            go_roundg k3
            case measure => have := HK1.out; have := HK2.out; have := HK3.out; omega
            case rel => exact ⟨(x7_3), (wrap64 (x30_3 + 1)), eR, eR, H', ⟨by have := HK1.out; have := HK2.out; have := HK3.out; omega⟩, ⟨rQ HO_3⟩, ⟨rQ HO_5⟩, ⟨rQ HO_28⟩, ⟨qQ BK188⟩, ⟨bq⟩⟩
         ·rw [if_neg c14] at H
          have c14b0 := decide_eq_false c14
          clear c14
          replace H := iS H
          obtain ⟨c31, H⟩ := H
          have LMc31 := aM c31
          clear c31
          obtain ⟨y193, hy193⟩ : ∃ y_ : List Int, y_ = (x5_2 ++ [x7_3]) := ⟨_, rfl⟩
          replace H : (spec_ivLevels.l1 k3 x3_1 y193 (l0_1.length : Int) (wrap64 (x25_2 + 1)) a0_0 l0_1) = some r := by first | (rw [hy193]; with_reducible exact H) | (have H2_ := (Option.bind_some _ _).symm.trans H; rw [hy193]; with_reducible exact H2_) | (have H2_ := (Option.bind_some _ _).symm.trans H; with_reducible exact H2_) | with_reducible exact H | (rw [hy193]; exact H) | exact H
          have Ny193 := aM hy193
          clear hy193
          have H' := aM H
          clear H
          go_wp2_with (first | ((with_reducible refine gate_builtin (b := .append) (xs := #[.tmp 50, .tmp 52]) rfl ?_); at_builtin; refine Kd.R_append (Kd.int .i64) (w0 := w) w.heap.size rfl (.tmp 50) (.tmp 52) 22 3 (.int .i64 0) 8 rfl Tryd.underlying22 info3 rfl (by decide) (by omega) u5 x5_2 x7_3 [.int .i64 x7_3] (fun k_ => some k_ ≠ (.slice Ao13 x3_1.length co13 : Value).ownBlock ∧ some k_ ≠ (.slice Ao13 x3_1.length co13 : Value).ownBlock) (fun _ => False) rfl rfl ?aP (fun _ hk => hk.elim) ?aF ?aO ?aB ?aS ?aL ?_; (case aP => exact rfl); (case aB => exact bq); (case aF => exact (fun k_ hk => ⟨Kd.fresh' (Kd.R_lt (rQ HO_3)) k_ hk, Kd.fresh' (Kd.R_lt (rQ HO_28)) k_ hk⟩)); (case aO => exact (rQ HO_5)); (case aS => exact (below_size bq)); (case aL => have := LMc31.out; omega); intro v194 w32 ho hb hg hat; rw [← Ny193.out] at ho; have _ := aM (Kd.R_after (ok := (fun _ => True)) (by (with_reducible repeat first|apply rA|apply rN|apply rD); exact Kd.R_mono HO_3.out (fun _ hk => ⟨trivial, hk⟩)) hg hat); have _ := aM (Kd.R_after (ok := (fun _ => True)) (by (with_reducible repeat first|apply rA|apply rN|apply rD); exact Kd.R_mono HO_28.out (fun _ hk => ⟨trivial, hk⟩)) hg hat); have _ := aM (blk_grown (g := gb188) (o := .cells #[.int .i64 a0_0, .slice A0_1 l0_1.length c0_1] 31 (0, 0)) (qQ BK188) hg (Kd.R_ne HO_5.out BK188.out (by decide))); have _ := aM (hb); have _ := aM (ho); clear HO_3 HO_28 BK188 HB HO_5; rename_i HO_3 HO_28 BK188 HB HO195; clear ho hb hg hat))
          go_roundg k3
          case measure => have := HK1.out; have := HK2.out; have := HK3.out; omega
          case rel => exact ⟨(y193), (wrap64 (x25_2 + 1)), eR, H', ⟨by have := HK1.out; have := HK2.out; have := HK3.out; omega⟩, ⟨by (with_reducible repeat first|apply rA|apply rN|apply rD); exact Kd.R_mono HO_3.out (fun _ hk => hk.2)⟩, ⟨by (with_reducible repeat first|apply rA|apply rN|apply rD); exact Kd.R_mono HO195.out (fun _ hk => hk.1)⟩, ⟨qQ BK188⟩, ⟨bq⟩⟩
      ·rw [if_neg c12] at H
       have c12b0 := decide_eq_false c12
       clear c12
       obtain rfl := Option.some.inj H
       go_wp2
       go_ret
       exact ⟨_, eE, by (with_reducible repeat first|apply rA|apply rN|apply rD); exact Kd.R_mono HO_5.out (fun _ hk => trivial), bq⟩

def spec_l1Most.f (a0 : Int) (a1 : Int) : Option (Int) := if a0 > a1 then (some a0) else (some a1)
set_option maxHeartbeats 8000000 in
set_option maxRecDepth 100000 in
theorem spec_l1Most.calls (a0 : Int) (a1 : Int) (r : Int) (w : World) (h : spec_l1Most.f a0 a1 = some r) :
  Calls Tryd.prog 96 #[.int .i64 a0, .int .i64 a1] w fun e w' => e = .returned (.int .i64 r) ∧ Drawn0 w w' := by
 have H : (if a0 > a1 then (some a0) else (some a1)) = some r := h
 clear h
 by_cases c3 : a0 > a1
 ·rw [if_pos c3] at H
  have c3b0 := decide_eq_true c3
  clear c3
  obtain rfl := Option.some.inj H
  go_enter Tryd.func96, Tryd.ntmps96
  go_wp2
  go_ret
  exact ⟨by first | rfl | (simp; done) | (simp [*]; done), by repeat (first | exact Drawn0.refl _ | apply Drawn0.step)⟩
 ·rw [if_neg c3] at H
  have c3b0 := decide_eq_false c3
  clear c3
  obtain rfl := Option.some.inj H
  go_enter Tryd.func96, Tryd.ntmps96
  go_wp2
  go_ret
  exact ⟨by first | rfl | (simp; done) | (simp [*]; done), by repeat (first | exact Drawn0.refl _ | apply Drawn0.step)⟩

end Go.Proofs.YtcodionjhcmfhaaDoor.Mo
