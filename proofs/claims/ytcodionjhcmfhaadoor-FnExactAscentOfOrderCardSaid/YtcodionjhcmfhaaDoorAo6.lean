-- Written by hook.py, a program of this session (wip/), which runs the kit's print.py with its own parts; Lean checks it.
import Derived.Test.YtcodionjhcmfhaaDoorAo0
import Derived.Test.YtcodionjhcmfhaaDoorAo5
import Derived.Test.YtcodionjhcmfhaaDoorAoXSq
namespace Go.Proofs.YtcodionjhcmfhaaDoor.Ao
open Go.RowKit Go.Proofs.YtcodionjhcmfhaaDoorW.PrintWords Go.Proofs.YtcodionjhcmfhaaDoorW.PrintLast Go.Proofs.YtcodionjhcmfhaaDoorW.PrintMore Go.Proofs.YtcodionjhcmfhaaDoor.Sq
attribute [local go_sem] max2_int min2_int max_two min_two max_three min_three max_four min_four   -- for this text's walks alone
set_option linter.unusedVariables false
set_option linter.unusedSimpArgs false

mutual
def spec_ivLevels.l0 : Nat → List Int → Int → Int → Int → List Int → Option (List Int)
 | 0, _, _, _, _, _ => none
 | k + 1, x3, x12, x13, x209000, x209001 => if x13 < x12 then ((spec_orBelow.f k x209000 x209001 x13).bind fun t209 => ((spec_l1Put.f k x3 t209).bind fun t210 => (spec_ivLevels.l0 k t210 x12 (wrap64 (x13 + 1)) x209000 x209001))) else (spec_ivLevels.l1 k x3 ([] : List Int) (x209001.length : Int) 0 x209000 x209001)
def spec_ivLevels.l1 : Nat → List Int → List Int → Int → Int → Int → List Int → Option (List Int)
 | 0, _, _, _, _, _, _ => none
 | k + 1, x3, x5, x24, x25, x209000, x209001 => if x25 < x24 then (spec_ivLevels.l2 k x3 x5 x25 0 x24 x25 x3 (x3.length : Int) 0 x209000 x209001) else (some x5)
def spec_ivLevels.l2 : Nat → List Int → List Int → Int → Int → Int → Int → List Int → Int → Int → Int → List Int → Option (List Int)
 | 0, _, _, _, _, _, _, _, _, _, _, _ => none
 | k + 1, x3, x5, x6, x7, x24, x25, x28, x29, x30, x209000, x209001 => if x30 < x29 then (if 0 ≤ x30 then (if x30 < (x28.length : Int) then ((spec_orBelow.f k x209000 x209001 x6).bind fun t217 => (if (rd x28 x30) = t217 then (spec_ivLevels.l2 k x3 x5 x6 x7 x24 x25 x28 x29 (wrap64 (x30 + 1)) x209000 x209001) else ((spec_orBelow.f k x209000 x209001 x6).bind fun t218 => (if (Go.bits .andNot .i64 (rd x28 x30) t218) = 0 then (spec_ivLevels.l2 k x3 x5 x6 (wrap64 (x7 + 1)) x24 x25 x28 x29 (wrap64 (x30 + 1)) x209000 x209001) else (spec_ivLevels.l2 k x3 x5 x6 x7 x24 x25 x28 x29 (wrap64 (x30 + 1)) x209000 x209001))))) else (none)) else (none)) else (if x5.length < 17592186044416 then (spec_ivLevels.l1 k x3 (x5 ++ [x7]) x24 (wrap64 (x25 + 1)) x209000 x209001) else (none))
end
def spec_ivLevels.f (k : Nat) (a0_0 : Int) (l0_1 : List Int) : Option (List Int) := spec_ivLevels.l0 k ([] : List Int) (l0_1.length : Int) 0 a0_0 l0_1
theorem spec_ivLevels.mono_l : ∀ k, (∀ y0 y1 y2 y3 y4, LeO (spec_ivLevels.l0 k y0 y1 y2 y3 y4) (spec_ivLevels.l0 (k + 1) y0 y1 y2 y3 y4)) ∧ (∀ y0 y1 y2 y3 y4 y5, LeO (spec_ivLevels.l1 k y0 y1 y2 y3 y4 y5) (spec_ivLevels.l1 (k + 1) y0 y1 y2 y3 y4 y5)) ∧ (∀ y0 y1 y2 y3 y4 y5 y6 y7 y8 y9 y10, LeO (spec_ivLevels.l2 k y0 y1 y2 y3 y4 y5 y6 y7 y8 y9 y10) (spec_ivLevels.l2 (k + 1) y0 y1 y2 y3 y4 y5 y6 y7 y8 y9 y10))
 | 0 => ⟨fun _ _ _ _ _ r h => by simp [spec_ivLevels.l0] at h, fun _ _ _ _ _ _ r h => by simp [spec_ivLevels.l1] at h, fun _ _ _ _ _ _ _ _ _ _ _ r h => by simp [spec_ivLevels.l2] at h⟩
 | k + 1 => by
  obtain ⟨ih0, ih1, ih2⟩ := spec_ivLevels.mono_l k
  refine ⟨?_, ?_, ?_⟩
  ·intro y0 y1 y2 y3 y4
   unfold spec_ivLevels.l0
   repeat' first | with_reducible first | exact ih0 _ _ _ _ _ | exact ih1 _ _ _ _ _ _ | exact ih2 _ _ _ _ _ _ _ _ _ _ _ | exact spec_l1Put.mono _ _ _ | exact spec_orBelow.mono _ _ _ _ | exact LeO.refl _ | exact LeO.none _ | refine LeO.ite ?_ ?_ | refine LeO.bind ?_ (fun _ => ?_)
  ·intro y0 y1 y2 y3 y4 y5
   unfold spec_ivLevels.l1
   repeat' first | with_reducible first | exact ih0 _ _ _ _ _ | exact ih1 _ _ _ _ _ _ | exact ih2 _ _ _ _ _ _ _ _ _ _ _ | exact spec_l1Put.mono _ _ _ | exact spec_orBelow.mono _ _ _ _ | exact LeO.refl _ | exact LeO.none _ | refine LeO.ite ?_ ?_ | refine LeO.bind ?_ (fun _ => ?_)
  ·intro y0 y1 y2 y3 y4 y5 y6 y7 y8 y9 y10
   unfold spec_ivLevels.l2
   repeat' first | with_reducible first | exact ih0 _ _ _ _ _ | exact ih1 _ _ _ _ _ _ | exact ih2 _ _ _ _ _ _ _ _ _ _ _ | exact spec_l1Put.mono _ _ _ | exact spec_orBelow.mono _ _ _ _ | exact LeO.refl _ | exact LeO.none _ | refine LeO.ite ?_ ?_ | refine LeO.bind ?_ (fun _ => ?_)
theorem spec_ivLevels.mono : ∀ a0 a1 k, LeO (spec_ivLevels.f k a0 a1) (spec_ivLevels.f (k + 1) a0 a1) := by
 intro a0 a1 k
 obtain ⟨ih0, ih1, ih2⟩ := spec_ivLevels.mono_l k
 unfold spec_ivLevels.f
 repeat' first | with_reducible first | exact ih0 _ _ _ _ _ | exact ih1 _ _ _ _ _ _ | exact ih2 _ _ _ _ _ _ _ _ _ _ _ | exact spec_l1Put.mono _ _ _ | exact spec_orBelow.mono _ _ _ _ | exact LeO.refl _ | exact LeO.none _ | refine LeO.ite ?_ ?_ | refine LeO.bind ?_ (fun _ => ?_)
set_option maxHeartbeats 8000000 in
set_option maxRecDepth 100000 in
theorem spec_ivLevels.calls (k : Nat) (a0_0 : Int) (A0_1 : Option Addr) (c0_1 : Nat) (l0_1 : List Int) (r : List Int) (w : World) (hr0_1 : Kd.C (Kd.int .i64) w A0_1 l0_1.length l0_1) (hc0_1 : l0_1.length ≤ c0_1) (h : spec_ivLevels.f k a0_0 l0_1 = some r) :
  Calls Tryd.prog 67 #[.agg #[.int .i64 a0_0, .slice A0_1 l0_1.length c0_1]] w fun e w' => ∃ v0_ : Value, e = .returned (v0_) ∧ Kd.R (Kd.int .i64) 3 w' w.heap.size (fun _ => True) v0_ r ∧ Below w.heap.size w w' := by
 have hu31 := Tryd.underlying31
 have HR0_1 := aM hr0_1
 have HC0_1 := aM hc0_1
 clear hr0_1 hc0_1
 have HB := aM (Below.refl w.heap.size w)
 have H : (spec_ivLevels.l0 k ([] : List Int) (l0_1.length : Int) 0 a0_0 l0_1) = some r := h
 clear h
 have H' := aM H
 clear H
 go_enter Tryd.func67, Tryd.ntmps67
 go_wp2_with (first | ((with_reducible refine gate_dst (N := 1) rfl ?_); refine bE 1 31 #[.int .i64 a0_0, .slice A0_1 l0_1.length c0_1] ?_; intro gb208 hg w2 hbox hb; have _ := aM (below_step bq hb); have _ := aM (hbox); have _ := aM ((gS hg)); have _ := aM ((gS hg)); clear HB; rename_i HB BK208 GW208 GE208; clear hb hbox hg; have hcz3_0 : w2.cell? ⟨gb208, 0, none⟩ = some (.int .i64 a0_0) := (blk_cell BK208.out 0).trans rfl; have hcz3_1 : w2.cell? ⟨gb208, 1, none⟩ = some (.slice A0_1 l0_1.length c0_1) := (blk_cell BK208.out 1).trans rfl; have hfz3_0 := blk_frozen BK208.out 0; have hfz3_1 := blk_frozen BK208.out 1))
 go_loopg [3, 13] k (fun kq v3 v13 w' => ∃ (x3_1 : List Int) (x13_1 : Int), v13 = .int .i64 x13_1 ∧ Aside0 (spec_ivLevels.l0 kq x3_1 (l0_1.length : Int) x13_1 a0_0 l0_1 = some r) ∧ Aside0 (kq ≤ k) ∧ Aside0 (Kd.R (Kd.int .i64) 3 w' w.heap.size (fun _ => True) v3 x3_1) ∧ Aside0 (w'.heap[gb208]? = some (.cells #[.int .i64 a0_0, (.slice A0_1 l0_1.length c0_1)] 31 (0, 0))) ∧ Aside0 (Below w.heap.size w w'))
 case atStart => exact ⟨(([] : List Int)), (0), (by first | rfl | (simp; done) | (simp [*]; done)), H', ⟨Nat.le_refl _⟩, ⟨by first | exact Kd.R_nil _ _ _ _ _ | exact Kd.N_nil _ _ _ _ _ | exact Kd.V_nil _ _ _ _ _ | exact Kd.Q_nil _ _ _ _ _ | exact Kd.S_nil _ _ _ _ _⟩, ⟨by (with_reducible repeat first|apply qN|apply qD|apply qA); exact BK208.out⟩, ⟨by exact bq⟩⟩
 case round =>
  clear H'
  try clear p2
  try clear hcz3_0
  try clear hcz3_1
  try clear hfz3_0
  try clear hfz3_1
  obtain ⟨x3_1, x13_1, rfl, HA, HK1, HO_3, BK208, HB⟩ := hrel
  cases gk with
  | zero => exact absurd HA.out (by simp [spec_ivLevels.l0])
  | succ k1 =>
   have H := HA.out
   clear HA
   simp only [spec_ivLevels.l0] at H
   by_cases c4 : x13_1 < (l0_1.length : Int)
   ·rw [if_pos c4] at H
    have c4b0 : decide (x13_1 < (l0_1.length : Int)) = true := decide_eq_true c4
    clear c4
    replace H := Option.bind_eq_some_iff.mp H
    obtain ⟨t209, A50, H⟩ := H
    replace H : ((spec_l1Put.f k1 x3_1 t209).bind fun t210 => (spec_ivLevels.l0 k1 t210 (l0_1.length : Int) (wrap64 (x13_1 + 1)) a0_0 l0_1)) = some r := H
    have A5 := aM A50
    clear A50
    replace H := Option.bind_eq_some_iff.mp H
    obtain ⟨t210, A60, H⟩ := H
    replace H : (spec_ivLevels.l0 k1 t210 (l0_1.length : Int) (wrap64 (x13_1 + 1)) a0_0 l0_1) = some r := H
    have A6 := aM A60
    clear A60
    have H' := aM H
    clear H
    have hcz7_0 : wr.cell? ⟨gb208, 0, none⟩ = some (.int .i64 a0_0) := (blk_cell BK208.out 0).trans rfl
    have hcz7_1 : wr.cell? ⟨gb208, 1, none⟩ = some (.slice A0_1 l0_1.length c0_1) := (blk_cell BK208.out 1).trans rfl
    have hfz7_0 := blk_frozen BK208.out 0
    have hfz7_1 := blk_frozen BK208.out 1
    go_wp2_with (first | ((with_reducible refine gate_callee (f := 98) rfl ?_); refine gL (some 19) Tryd.func98 #[.agg #[.int .i64 a0_0, .slice A0_1 l0_1.length c0_1], .int .i64 x13_1] ?_; (with_reducible refine (spec_orBelow.calls k1 a0_0 _ _ l0_1 x13_1 t209 _ (cQ (Kd.C_below HR0_1.out HB.out)) HC0_1.out A5.out).mono ?_); rintro e w8 ⟨rfl, hb⟩; refine ⟨_, rfl, ?_⟩; have _ := aM (Kd.R_below (rQ HO_3) hb); have _ := aM (blk_below (g := gb208) (o := .cells #[.int .i64 a0_0, .slice A0_1 l0_1.length c0_1] 31 (0, 0)) (qQ BK208) hb); have _ := aM (below_step bq hb); clear HO_3 BK208 HB; rename_i HO_3 BK208 HB; (try clear hb); (try clear hb2); (try clear hk); (try clear hi); obtain ⟨Ao9, co9, eo9⟩ := Kd.R_slice HO_3.out; subst eo9) | ((with_reducible refine gate_callee (f := 97) rfl ?_); refine gL (some 20) Tryd.func97 #[.slice Ao9 x3_1.length co9, .int .i64 t209] ?_; (with_reducible refine (spec_l1Put.calls k1 (fun k_ => some k_ = (.slice Ao9 x3_1.length co9 : Value).ownBlock) (.slice Ao9 x3_1.length co9) x3_1 t209 t210 w _ ?side1 ?side2 A6.out).mono ?_); (case side1 => exact bq); (case side2 => exact Kd.R_tight rfl HO_3.out); rintro e w10 ⟨v211, rfl, ho0, hb, hkp⟩; refine ⟨_, rfl, ?_⟩; have _ := aM (blk_kept (qQ BK208) hkp (fun hs_ => (fun e_ => (Kd.R_ne HO_3.out BK208.out (by decide)) e_) hs_)); have _ := aM (Kd.R_mono (ok' := fun k_ => True) ho0 (fun k_ hk_ => trivial)); have _ := aM (hb); clear BK208 HB HO_3; rename_i BK208 HO212 HB; (try clear hb); (try clear hkp); (try clear ho0)))
    go_roundg k1
    case measure => have := HK1.out; omega
    case rel => exact ⟨(t210), (wrap64 (x13_1 + 1)), (by first | rfl | (simp; done) | (simp [*]; done)), H', ⟨by have := HK1.out; omega⟩, ⟨by (with_reducible repeat first|apply rA|apply rN|apply rD); exact HO212.out⟩, ⟨by (with_reducible repeat first|apply qN|apply qD|apply qA); exact BK208.out⟩, ⟨by exact bq⟩⟩
   ·rw [if_neg c4] at H
    have c4b0 : decide (x13_1 < (l0_1.length : Int)) = false := decide_eq_false c4
    clear c4
    have H' := aM H
    clear H
    have hcz11_0 : wr.cell? ⟨gb208, 0, none⟩ = some (.int .i64 a0_0) := (blk_cell BK208.out 0).trans rfl
    have hcz11_1 : wr.cell? ⟨gb208, 1, none⟩ = some (.slice A0_1 l0_1.length c0_1) := (blk_cell BK208.out 1).trans rfl
    have hfz11_0 := blk_frozen BK208.out 0
    have hfz11_1 := blk_frozen BK208.out 1
    go_wp2
    go_loopg [5, 25] k1 (fun kq v5 v25 w' => ∃ (x5_2 : List Int) (x25_2 : Int), v25 = .int .i64 x25_2 ∧ Aside0 (spec_ivLevels.l1 kq x3_1 x5_2 (l0_1.length : Int) x25_2 a0_0 l0_1 = some r) ∧ Aside0 (kq ≤ k1) ∧ Aside0 (Kd.R (Kd.int .i64) 3 w' w.heap.size (fun k_ => some k_ ≠ (v5 : Value).ownBlock) u3 x3_1) ∧ Aside0 (Kd.R (Kd.int .i64) 3 w' w.heap.size (fun k_ => some k_ ≠ (u3 : Value).ownBlock) v5 x5_2) ∧ Aside0 (w'.heap[gb208]? = some (.cells #[.int .i64 a0_0, (.slice A0_1 l0_1.length c0_1)] 31 (0, 0))) ∧ Aside0 (Below w.heap.size w w'))
    case atStart => exact ⟨(([] : List Int)), (0), (by first | rfl | (simp; done) | (simp [*]; done)), H', ⟨Nat.le_refl _⟩, ⟨by (with_reducible repeat first|apply rA|apply rN|apply rD); exact Kd.R_mono HO_3.out (fun _ hk => (by simp [Value.ownBlock]))⟩, ⟨by first | exact Kd.R_nil _ _ _ _ _ | exact Kd.N_nil _ _ _ _ _ | exact Kd.V_nil _ _ _ _ _ | exact Kd.Q_nil _ _ _ _ _ | exact Kd.S_nil _ _ _ _ _⟩, ⟨by (with_reducible repeat first|apply qN|apply qD|apply qA); exact BK208.out⟩, ⟨by exact bq⟩⟩
    case round =>
     clear H'
     try clear p2
     try clear c4
     try clear c4b0
     try clear c6
     try clear p6
     try clear c9
     try clear hcz11_0
     try clear hcz11_1
     try clear hcz3_0
     try clear hcz3_1
     try clear hcz7_0
     try clear hcz7_1
     try clear hfz11_0
     try clear hfz11_1
     try clear hfz3_0
     try clear hfz3_1
     try clear hfz7_0
     try clear hfz7_1
     try clear p2
     obtain ⟨x5_2, x25_2, rfl, HA, HK2, HO_3, HO_5, BK208, HB⟩ := hrel
     cases gk with
     | zero => exact absurd HA.out (by simp [spec_ivLevels.l1])
     | succ k2 =>
      have H := HA.out
      clear HA
      simp only [spec_ivLevels.l1] at H
      by_cases c12 : x25_2 < (l0_1.length : Int)
      ·rw [if_pos c12] at H
       have c12b0 : decide (x25_2 < (l0_1.length : Int)) = true := decide_eq_true c12
       clear c12
       have H' := aM H
       clear H
       obtain ⟨Ao13, co13, eo13⟩ := Kd.R_slice HO_3.out
       subst eo13
       go_wp2
       go_loopg [7, 30] k2 (fun kq v7 v30 w' => ∃ (x7_3 : Int) (x30_3 : Int), v7 = .int .i64 x7_3 ∧ v30 = .int .i64 x30_3 ∧ Aside0 (spec_ivLevels.l2 kq x3_1 x5_2 x25_2 x7_3 (l0_1.length : Int) x25_2 x3_1 (x3_1.length : Int) x30_3 a0_0 l0_1 = some r) ∧ Aside0 (kq ≤ k2) ∧ Aside0 (Kd.R (Kd.int .i64) 3 w' w.heap.size (fun k_ => some k_ ≠ (u5 : Value).ownBlock) (.slice Ao13 x3_1.length co13) x3_1) ∧ Aside0 (Kd.R (Kd.int .i64) 3 w' w.heap.size (fun k_ => some k_ ≠ ((.slice Ao13 x3_1.length co13) : Value).ownBlock ∧ some k_ ≠ ((.slice Ao13 x3_1.length co13) : Value).ownBlock) u5 x5_2) ∧ Aside0 (Kd.R (Kd.int .i64) 3 w' w.heap.size (fun k_ => some k_ ≠ (u5 : Value).ownBlock) (.slice Ao13 x3_1.length co13) x3_1) ∧ Aside0 (w'.heap[gb208]? = some (.cells #[.int .i64 a0_0, (.slice A0_1 l0_1.length c0_1)] 31 (0, 0))) ∧ Aside0 (Below w.heap.size w w'))
       case atStart => exact ⟨(0), (0), (by first | rfl | (simp; done) | (simp [*]; done)), (by first | rfl | (simp; done) | (simp [*]; done)), H', ⟨Nat.le_refl _⟩, ⟨by (with_reducible repeat first|apply rA|apply rN|apply rD); exact HO_3.out⟩, ⟨by (with_reducible repeat first|apply rA|apply rN|apply rD); exact Kd.R_mono HO_5.out (fun _ hk => ⟨hk, hk⟩)⟩, ⟨by (with_reducible repeat first|apply rA|apply rN|apply rD); exact HO_3.out⟩, ⟨by (with_reducible repeat first|apply qN|apply qD|apply qA); exact BK208.out⟩, ⟨by exact bq⟩⟩
       case round =>
        clear H'
        try clear c1
        try clear p2
        try clear c4
        try clear c4b0
        try clear c6
        try clear p6
        try clear c9
        try clear c12
        try clear c12b0
        try clear hcz11_0
        try clear hcz11_1
        try clear hcz3_0
        try clear hcz3_1
        try clear hcz7_0
        try clear hcz7_1
        try clear hfz11_0
        try clear hfz11_1
        try clear hfz3_0
        try clear hfz3_1
        try clear hfz7_0
        try clear hfz7_1
        try clear p2
        try clear p6
        obtain ⟨x7_3, x30_3, rfl, rfl, HA, HK3, HO_3, HO_5, HO_28, BK208, HB⟩ := hrel
        cases gk with
        | zero => exact absurd HA.out (by simp [spec_ivLevels.l2])
        | succ k3 =>
         have H := HA.out
         clear HA
         simp only [spec_ivLevels.l2] at H
         by_cases c14 : x30_3 < (x3_1.length : Int)
         ·rw [if_pos c14] at H
          have c14b0 : decide (x30_3 < (x3_1.length : Int)) = true := decide_eq_true c14
          clear c14
          by_cases c15 : 0 ≤ x30_3
          ·rw [if_pos c15] at H
           have c15b0 : decide (0 ≤ x30_3) = true := decide_eq_true c15
           clear c15
           by_cases c16 : x30_3 < (x3_1.length : Int)
           ·rw [if_pos c16] at H
            have c16b0 : decide (x30_3 < (x3_1.length : Int)) = true := decide_eq_true c16
            clear c16
            replace H := Option.bind_eq_some_iff.mp H
            obtain ⟨t217, A170, H⟩ := H
            replace H : (if (rd x3_1 x30_3) = t217 then (spec_ivLevels.l2 k3 x3_1 x5_2 x25_2 x7_3 (l0_1.length : Int) x25_2 x3_1 (x3_1.length : Int) (wrap64 (x30_3 + 1)) a0_0 l0_1) else ((spec_orBelow.f k3 a0_0 l0_1 x25_2).bind fun t218 => (if (Go.bits .andNot .i64 (rd x3_1 x30_3) t218) = 0 then (spec_ivLevels.l2 k3 x3_1 x5_2 x25_2 (wrap64 (x7_3 + 1)) (l0_1.length : Int) x25_2 x3_1 (x3_1.length : Int) (wrap64 (x30_3 + 1)) a0_0 l0_1) else (spec_ivLevels.l2 k3 x3_1 x5_2 x25_2 x7_3 (l0_1.length : Int) x25_2 x3_1 (x3_1.length : Int) (wrap64 (x30_3 + 1)) a0_0 l0_1)))) = some r := H
            have A17 := aM A170
            clear A170
            by_cases c18 : (rd x3_1 x30_3) = t217
            ·rw [if_pos c18] at H
             have c18b0 : ((rd x3_1 x30_3) == t217) = true := beq_iff_eq.mpr c18
             have c18b1 : ((rd x3_1 x30_3) != t217) = false := bne_eq_false_iff_eq.mpr c18
             clear c18
             have H' := aM H
             clear H
             have p216 : 0 ≤ (x30_3 : Int) := odt
             have q216 : x30_3 < (x3_1.length : Int) := odt
             obtain ⟨ad216, e216, hx216_0⟩ := Kd.at_int (Kd.R_reads' HO_28.out).2.2 x30_3 p216 q216
             cases e216
             replace p216 := eq_true p216
             replace q216 := eq_true q216
             have hcz19_0 : wr.cell? ⟨gb208, 0, none⟩ = some (.int .i64 a0_0) := (blk_cell BK208.out 0).trans rfl
             have hcz19_1 : wr.cell? ⟨gb208, 1, none⟩ = some (.slice A0_1 l0_1.length c0_1) := (blk_cell BK208.out 1).trans rfl
             have hfz19_0 := blk_frozen BK208.out 0
             have hfz19_1 := blk_frozen BK208.out 1
             go_wp2_with (first | ((with_reducible refine gate_callee (f := 98) rfl ?_); refine gL (some 37) Tryd.func98 #[.agg #[.int .i64 a0_0, .slice A0_1 l0_1.length c0_1], .int .i64 x25_2] ?_; (with_reducible refine (spec_orBelow.calls k3 a0_0 _ _ l0_1 x25_2 t217 _ (cQ (Kd.C_below HR0_1.out HB.out)) HC0_1.out A17.out).mono ?_); rintro e w20 ⟨rfl, hb⟩; refine ⟨_, rfl, ?_⟩; have _ := aM (Kd.R_below (rQ HO_3) hb); have _ := aM (Kd.R_below (rQ HO_5) hb); have _ := aM (Kd.R_below (rQ HO_28) hb); have _ := aM (blk_below (g := gb208) (o := .cells #[.int .i64 a0_0, .slice A0_1 l0_1.length c0_1] 31 (0, 0)) (qQ BK208) hb); have _ := aM (below_step bq hb); clear HO_3 HO_5 HO_28 BK208 HB; rename_i HO_3 HO_5 HO_28 BK208 HB; (try clear hb); (try clear hb2); (try clear hk); (try clear hi)))
             go_roundg k3
             case measure => have := HK1.out; have := HK2.out; have := HK3.out; omega
             case rel => exact ⟨(x7_3), (wrap64 (x30_3 + 1)), (by first | rfl | (simp; done) | (simp [*]; done)), (by first | rfl | (simp; done) | (simp [*]; done)), H', ⟨by have := HK1.out; have := HK2.out; have := HK3.out; omega⟩, ⟨by (with_reducible repeat first|apply rA|apply rN|apply rD); exact HO_3.out⟩, ⟨by (with_reducible repeat first|apply rA|apply rN|apply rD); exact HO_5.out⟩, ⟨by (with_reducible repeat first|apply rA|apply rN|apply rD); exact HO_28.out⟩, ⟨by (with_reducible repeat first|apply qN|apply qD|apply qA); exact BK208.out⟩, ⟨by exact bq⟩⟩
            ·rw [if_neg c18] at H
             have c18b0 : ((rd x3_1 x30_3) == t217) = false := beq_eq_false_iff_ne.mpr c18
             have c18b1 : ((rd x3_1 x30_3) != t217) = true := bne_iff_ne.mpr c18
             replace H := Option.bind_eq_some_iff.mp H
             obtain ⟨t218, A210, H⟩ := H
             replace H : (if (Go.bits .andNot .i64 (rd x3_1 x30_3) t218) = 0 then (spec_ivLevels.l2 k3 x3_1 x5_2 x25_2 (wrap64 (x7_3 + 1)) (l0_1.length : Int) x25_2 x3_1 (x3_1.length : Int) (wrap64 (x30_3 + 1)) a0_0 l0_1) else (spec_ivLevels.l2 k3 x3_1 x5_2 x25_2 x7_3 (l0_1.length : Int) x25_2 x3_1 (x3_1.length : Int) (wrap64 (x30_3 + 1)) a0_0 l0_1)) = some r := H
             have A21 := aM A210
             clear A210
             by_cases c22 : (Go.bits .andNot .i64 (rd x3_1 x30_3) t218) = 0
             ·rw [if_pos c22] at H
              have c22b0 : ((Go.bits .andNot .i64 (rd x3_1 x30_3) t218) == 0) = true := beq_iff_eq.mpr c22
              have c22b1 : ((Go.bits .andNot .i64 (rd x3_1 x30_3) t218) != 0) = false := bne_eq_false_iff_eq.mpr c22
              clear c22
              have H' := aM H
              clear H
              have p216 : 0 ≤ (x30_3 : Int) := odt
              have q216 : x30_3 < (x3_1.length : Int) := odt
              obtain ⟨ad216, e216, hx216_0⟩ := Kd.at_int (Kd.R_reads' HO_28.out).2.2 x30_3 p216 q216
              cases e216
              replace p216 := eq_true p216
              replace q216 := eq_true q216
              have hcz23_0 : wr.cell? ⟨gb208, 0, none⟩ = some (.int .i64 a0_0) := (blk_cell BK208.out 0).trans rfl
              have hcz23_1 : wr.cell? ⟨gb208, 1, none⟩ = some (.slice A0_1 l0_1.length c0_1) := (blk_cell BK208.out 1).trans rfl
              have hfz23_0 := blk_frozen BK208.out 0
              have hfz23_1 := blk_frozen BK208.out 1
              go_wp2_with (first | ((with_reducible refine gate_callee (f := 98) rfl ?_); refine gL (some 37) Tryd.func98 #[.agg #[.int .i64 a0_0, .slice A0_1 l0_1.length c0_1], .int .i64 x25_2] ?_; (with_reducible refine (spec_orBelow.calls k3 a0_0 _ _ l0_1 x25_2 t217 _ (cQ (Kd.C_below HR0_1.out HB.out)) HC0_1.out A17.out).mono ?_); rintro e w24 ⟨rfl, hb⟩; refine ⟨_, rfl, ?_⟩; have _ := aM (Kd.R_below (rQ HO_3) hb); have _ := aM (Kd.R_below (rQ HO_5) hb); have _ := aM (Kd.R_below (rQ HO_28) hb); have _ := aM (blk_below (g := gb208) (o := .cells #[.int .i64 a0_0, .slice A0_1 l0_1.length c0_1] 31 (0, 0)) (qQ BK208) hb); have _ := aM (below_step bq hb); clear HO_3 HO_5 HO_28 BK208 HB; rename_i HO_3 HO_5 HO_28 BK208 HB; (try clear hb); (try clear hb2); (try clear hk); (try clear hi); have hcz25_0 : w24.cell? ⟨gb208, 0, none⟩ = some (.int .i64 a0_0) := (blk_cell BK208.out 0).trans rfl; have hcz25_1 : w24.cell? ⟨gb208, 1, none⟩ = some (.slice A0_1 l0_1.length c0_1) := (blk_cell BK208.out 1).trans rfl; have hfz25_0 := blk_frozen BK208.out 0; have hfz25_1 := blk_frozen BK208.out 1) | (go_at_call 98; (with_reducible refine (spec_orBelow.calls k3 a0_0 _ _ l0_1 x25_2 t218 _ (cQ (Kd.C_below HR0_1.out HB.out)) HC0_1.out A21.out).mono ?_); rintro e w26 ⟨rfl, hb⟩; have _ := aM (Kd.R_below (rQ HO_3) hb); have _ := aM (Kd.R_below (rQ HO_5) hb); have _ := aM (Kd.R_below (rQ HO_28) hb); have _ := aM (blk_below (g := gb208) (o := .cells #[.int .i64 a0_0, .slice A0_1 l0_1.length c0_1] 31 (0, 0)) (qQ BK208) hb); have _ := aM (below_step bq hb); clear HO_3 HO_5 HO_28 BK208 HB; rename_i HO_3 HO_5 HO_28 BK208 HB; (try clear hb); (try clear hb2); (try clear hk); (try clear hi)))
              go_roundg k3
              case measure => have := HK1.out; have := HK2.out; have := HK3.out; omega
              case rel => exact ⟨(wrap64 (x7_3 + 1)), (wrap64 (x30_3 + 1)), (by first | rfl | (simp; done) | (simp [*]; done)), (by first | rfl | (simp; done) | (simp [*]; done)), H', ⟨by have := HK1.out; have := HK2.out; have := HK3.out; omega⟩, ⟨by (with_reducible repeat first|apply rA|apply rN|apply rD); exact HO_3.out⟩, ⟨by (with_reducible repeat first|apply rA|apply rN|apply rD); exact HO_5.out⟩, ⟨by (with_reducible repeat first|apply rA|apply rN|apply rD); exact HO_28.out⟩, ⟨by (with_reducible repeat first|apply qN|apply qD|apply qA); exact BK208.out⟩, ⟨by exact bq⟩⟩
             ·rw [if_neg c22] at H
              have c22b0 : ((Go.bits .andNot .i64 (rd x3_1 x30_3) t218) == 0) = false := beq_eq_false_iff_ne.mpr c22
              have c22b1 : ((Go.bits .andNot .i64 (rd x3_1 x30_3) t218) != 0) = true := bne_iff_ne.mpr c22
              have H' := aM H
              clear H
              have p216 : 0 ≤ (x30_3 : Int) := odt
              have q216 : x30_3 < (x3_1.length : Int) := odt
              obtain ⟨ad216, e216, hx216_0⟩ := Kd.at_int (Kd.R_reads' HO_28.out).2.2 x30_3 p216 q216
              cases e216
              replace p216 := eq_true p216
              replace q216 := eq_true q216
              have hcz27_0 : wr.cell? ⟨gb208, 0, none⟩ = some (.int .i64 a0_0) := (blk_cell BK208.out 0).trans rfl
              have hcz27_1 : wr.cell? ⟨gb208, 1, none⟩ = some (.slice A0_1 l0_1.length c0_1) := (blk_cell BK208.out 1).trans rfl
              have hfz27_0 := blk_frozen BK208.out 0
              have hfz27_1 := blk_frozen BK208.out 1
              go_wp2_with (first | ((with_reducible refine gate_callee (f := 98) rfl ?_); refine gL (some 37) Tryd.func98 #[.agg #[.int .i64 a0_0, .slice A0_1 l0_1.length c0_1], .int .i64 x25_2] ?_; (with_reducible refine (spec_orBelow.calls k3 a0_0 _ _ l0_1 x25_2 t217 _ (cQ (Kd.C_below HR0_1.out HB.out)) HC0_1.out A17.out).mono ?_); rintro e w28 ⟨rfl, hb⟩; refine ⟨_, rfl, ?_⟩; have _ := aM (Kd.R_below (rQ HO_3) hb); have _ := aM (Kd.R_below (rQ HO_5) hb); have _ := aM (Kd.R_below (rQ HO_28) hb); have _ := aM (blk_below (g := gb208) (o := .cells #[.int .i64 a0_0, .slice A0_1 l0_1.length c0_1] 31 (0, 0)) (qQ BK208) hb); have _ := aM (below_step bq hb); clear HO_3 HO_5 HO_28 BK208 HB; rename_i HO_3 HO_5 HO_28 BK208 HB; (try clear hb); (try clear hb2); (try clear hk); (try clear hi); have hcz29_0 : w28.cell? ⟨gb208, 0, none⟩ = some (.int .i64 a0_0) := (blk_cell BK208.out 0).trans rfl; have hcz29_1 : w28.cell? ⟨gb208, 1, none⟩ = some (.slice A0_1 l0_1.length c0_1) := (blk_cell BK208.out 1).trans rfl; have hfz29_0 := blk_frozen BK208.out 0; have hfz29_1 := blk_frozen BK208.out 1) | (go_at_call 98; (with_reducible refine (spec_orBelow.calls k3 a0_0 _ _ l0_1 x25_2 t218 _ (cQ (Kd.C_below HR0_1.out HB.out)) HC0_1.out A21.out).mono ?_); rintro e w30 ⟨rfl, hb⟩; have _ := aM (Kd.R_below (rQ HO_3) hb); have _ := aM (Kd.R_below (rQ HO_5) hb); have _ := aM (Kd.R_below (rQ HO_28) hb); have _ := aM (blk_below (g := gb208) (o := .cells #[.int .i64 a0_0, .slice A0_1 l0_1.length c0_1] 31 (0, 0)) (qQ BK208) hb); have _ := aM (below_step bq hb); clear HO_3 HO_5 HO_28 BK208 HB; rename_i HO_3 HO_5 HO_28 BK208 HB; (try clear hb); (try clear hb2); (try clear hk); (try clear hi)))
              go_roundg k3
              case measure => have := HK1.out; have := HK2.out; have := HK3.out; omega
              case rel => exact ⟨(x7_3), (wrap64 (x30_3 + 1)), (by first | rfl | (simp; done) | (simp [*]; done)), (by first | rfl | (simp; done) | (simp [*]; done)), H', ⟨by have := HK1.out; have := HK2.out; have := HK3.out; omega⟩, ⟨by (with_reducible repeat first|apply rA|apply rN|apply rD); exact HO_3.out⟩, ⟨by (with_reducible repeat first|apply rA|apply rN|apply rD); exact HO_5.out⟩, ⟨by (with_reducible repeat first|apply rA|apply rN|apply rD); exact HO_28.out⟩, ⟨by (with_reducible repeat first|apply qN|apply qD|apply qA); exact BK208.out⟩, ⟨by exact bq⟩⟩
           ·rw [if_neg c16] at H
            exact absurd H (by simp)
          ·rw [if_neg c15] at H
           exact absurd H (by simp)
         ·rw [if_neg c14] at H
          have c14b0 : decide (x30_3 < (x3_1.length : Int)) = false := decide_eq_false c14
          clear c14
          by_cases c31 : x5_2.length < 17592186044416
          ·rw [if_pos c31] at H
           have LMc31 := aM c31
           clear c31
           obtain ⟨y213, hy213⟩ : ∃ y_ : List Int, y_ = (x5_2 ++ [x7_3]) := ⟨_, rfl⟩
           replace H : (spec_ivLevels.l1 k3 x3_1 y213 (l0_1.length : Int) (wrap64 (x25_2 + 1)) a0_0 l0_1) = some r := by first | (rw [hy213]; with_reducible exact H) | (have H2_ := (Option.bind_some _ _).symm.trans H; rw [hy213]; with_reducible exact H2_) | (have H2_ := (Option.bind_some _ _).symm.trans H; with_reducible exact H2_) | with_reducible exact H | (rw [hy213]; exact H) | exact H
           have Ny213 := aM hy213
           clear hy213
           have H' := aM H
           clear H
           go_wp2_with (first | ((with_reducible refine gate_builtin (b := .append) (xs := #[.tmp 50, .tmp 52]) rfl ?_); at_builtin; refine Kd.R_append (Kd.int .i64) (w0 := w) w.heap.size rfl (.tmp 50) (.tmp 52) 22 3 (.int .i64 0) 8 rfl Tryd.underlying22 info3 rfl (by decide) (by omega) u5 x5_2 x7_3 [.int .i64 x7_3] (fun k_ => some k_ ≠ (.slice Ao13 x3_1.length co13 : Value).ownBlock ∧ some k_ ≠ (.slice Ao13 x3_1.length co13 : Value).ownBlock) (fun _ => False) rfl rfl ?aP (fun _ hk => hk.elim) ?aF ?aO ?aB ?aS ?aL ?_; (case aP => exact rfl); (case aB => exact bq); (case aF => exact (fun k_ hk => ⟨Kd.fresh' (Kd.R_lt (rQ HO_3)) k_ hk, Kd.fresh' (Kd.R_lt (rQ HO_28)) k_ hk⟩)); (case aO => exact (rQ HO_5)); (case aS => exact (below_size bq)); (case aL => have := LMc31.out; omega); intro v214 w32 ho hb hg hat; rw [← Ny213.out] at ho; have _ := aM (Kd.R_after (ok := (fun _ => True)) (by (with_reducible repeat first|apply rA|apply rN|apply rD); exact Kd.R_mono HO_3.out (fun _ hk => ⟨trivial, hk⟩)) hg hat); have _ := aM (Kd.R_after (ok := (fun _ => True)) (by (with_reducible repeat first|apply rA|apply rN|apply rD); exact Kd.R_mono HO_28.out (fun _ hk => ⟨trivial, hk⟩)) hg hat); have _ := aM (blk_grown (g := gb208) (o := .cells #[.int .i64 a0_0, .slice A0_1 l0_1.length c0_1] 31 (0, 0)) (qQ BK208) hg (Kd.R_ne HO_5.out BK208.out (by decide))); have _ := aM (hb); have _ := aM (ho); clear HO_3 HO_28 BK208 HB HO_5; rename_i HO_3 HO_28 BK208 HB HO215; clear ho hb hg hat))
           go_roundg k3
           case measure => have := HK1.out; have := HK2.out; have := HK3.out; omega
           case rel => exact ⟨(y213), (wrap64 (x25_2 + 1)), (by first | rfl | (simp; done) | (simp [*]; done)), H', ⟨by have := HK1.out; have := HK2.out; have := HK3.out; omega⟩, ⟨by (with_reducible repeat first|apply rA|apply rN|apply rD); exact Kd.R_mono HO_3.out (fun _ hk => hk.2)⟩, ⟨by (with_reducible repeat first|apply rA|apply rN|apply rD); exact Kd.R_mono HO215.out (fun _ hk => hk.1)⟩, ⟨by (with_reducible repeat first|apply qN|apply qD|apply qA); exact BK208.out⟩, ⟨by exact bq⟩⟩
          ·rw [if_neg c31] at H
           exact absurd H (by simp)
      ·rw [if_neg c12] at H
       have c12b0 : decide (x25_2 < (l0_1.length : Int)) = false := decide_eq_false c12
       clear c12
       obtain rfl := Option.some.inj H
       go_wp2
       go_ret
       exact ⟨_, by first | rfl | (simp [errW_none, errW_some] <;> rfl) | (simp [*, errW_none, errW_some] <;> rfl), by (with_reducible repeat first|apply rA|apply rN|apply rD); exact Kd.R_mono HO_5.out (fun _ hk => trivial), by exact bq⟩

def spec_l1Most.f (a0 : Int) (a1 : Int) : Option (Int) := if a0 > a1 then (some a0) else (some a1)
set_option maxHeartbeats 8000000 in
set_option maxRecDepth 100000 in
theorem spec_l1Most.calls (a0 : Int) (a1 : Int) (r : Int) (w : World) (h : spec_l1Most.f a0 a1 = some r) :
  Calls Tryd.prog 96 #[.int .i64 a0, .int .i64 a1] w fun e w' => e = .returned (.int .i64 r) ∧ Drawn0 w w' := by
 have H : (if a0 > a1 then (some a0) else (some a1)) = some r := h
 clear h
 by_cases c3 : a0 > a1
 ·rw [if_pos c3] at H
  have c3b0 : decide (a1 < a0) = true := decide_eq_true c3
  clear c3
  obtain rfl := Option.some.inj H
  go_enter Tryd.func96, Tryd.ntmps96
  go_wp2
  go_ret
  exact ⟨by first | rfl | (simp; done) | (simp [*]; done), by repeat (first | exact Drawn0.refl _ | apply Drawn0.step)⟩
 ·rw [if_neg c3] at H
  have c3b0 : decide (a1 < a0) = false := decide_eq_false c3
  clear c3
  obtain rfl := Option.some.inj H
  go_enter Tryd.func96, Tryd.ntmps96
  go_wp2
  go_ret
  exact ⟨by first | rfl | (simp; done) | (simp [*]; done), by repeat (first | exact Drawn0.refl _ | apply Drawn0.step)⟩

end Go.Proofs.YtcodionjhcmfhaaDoor.Ao
