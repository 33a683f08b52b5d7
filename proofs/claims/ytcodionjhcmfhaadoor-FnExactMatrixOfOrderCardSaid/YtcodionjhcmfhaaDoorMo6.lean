-- Written by hook.py, a program of this session (wip/), which runs the kit's print.py with its own parts; Lean checks it.
import Derived.Test.YtcodionjhcmfhaaDoorMo0
import Derived.Test.YtcodionjhcmfhaaDoorMo1
import Derived.Test.YtcodionjhcmfhaaDoorMo5
import Derived.Test.YtcodionjhcmfhaaDoorMoXSq
namespace Go.Proofs.YtcodionjhcmfhaaDoor.Mo
open Go.RowKit Go.Proofs.YtcodionjhcmfhaaDoorW.PrintWords Go.Proofs.YtcodionjhcmfhaaDoorW.PrintLast Go.Proofs.YtcodionjhcmfhaaDoorW.PrintMore Go.Proofs.YtcodionjhcmfhaaDoor.Sq
attribute [local go_sem] max2_int min2_int max_two min_two max_three min_three max_four min_four   -- for this text's walks alone
set_option linter.unusedVariables false
set_option linter.unusedSimpArgs false

mutual
def spec_ivEnds.l0 : Nat → List Int → List (S76) → List Int → Int → Int → Int → List Int → Option ((List (S76)))
 | 0, _, _, _, _, _, _, _ => none
 | k + 1, x3, x4, x12, x13, x14, x200000, x200001 => if x14 < x13 then (if 0 ≤ x14 then (if x14 < (x12.length : Int) then (spec_ivEnds.l1 k x3 x4 x14 x12 x13 x14 x3 (x3.length : Int) 0 x200000 x200001 (rd x12 x14) (rd x12 x14)) else (none)) else (none)) else (some x4)
def spec_ivEnds.l1 : Nat → List Int → List (S76) → Int → List Int → Int → Int → List Int → Int → Int → Int → List Int → Int → Int → Option ((List (S76)))
 | 0, _, _, _, _, _, _, _, _, _, _, _, _, _ => none
 | k + 1, x3, x4, x5, x12, x13, x14, x22, x23, x24, x200000, x200001, x205000, x205001 => if x24 < x23 then (if 0 ≤ x24 then (if x24 < (x22.length : Int) then (if 0 ≤ x5 then (if x5 < (x200001.length : Int) then ((spec_orHas.f (rd x200001 x5) x24).bind fun t210 => (if t210 = true then (spec_ivEnds.l1 k x3 x4 x5 x12 x13 x14 x22 x23 (wrap64 (x24 + 1)) x200000 x200001 x205000 x205001) else ((spec_l1Most.f x205001 (rd x22 x24)).bind fun t211 => (spec_ivEnds.l1 k x3 x4 x5 x12 x13 x14 x22 x23 (wrap64 (x24 + 1)) x200000 x200001 x205000 t211)))) else (none)) else (none)) else (none)) else (none)) else (if x4.length < 8796093022208 then (spec_ivEnds.l0 k x3 (x4 ++ [(⟨x205000, x205001⟩ : S76)]) x12 x13 (wrap64 (x14 + 1)) x200000 x200001) else (none))
end
def spec_ivEnds.f (k : Nat) (a0_0 : Int) (l0_1 : List Int) : Option ((List (S76))) := (spec_ivLevels.f k a0_0 l0_1).bind fun t200 => (spec_ivEnds.l0 k t200 ([] : List (S76)) t200 (t200.length : Int) 0 a0_0 l0_1)
set_option maxHeartbeats 8000000 in
set_option maxRecDepth 100000 in
theorem spec_ivEnds.calls (k : Nat) (a0_0 : Int) (A0_1 : Option Addr) (c0_1 : Nat) (l0_1 : List Int) (r : List (S76)) (w : World) (hr0_1 : Kd.C (Kd.int .i64) w A0_1 l0_1.length l0_1) (hc0_1 : l0_1.length ≤ c0_1) (h : spec_ivEnds.f k a0_0 l0_1 = some r) :
  Calls Tryd.prog 65 #[.agg #[.int .i64 a0_0, .slice A0_1 l0_1.length c0_1]] w fun e w' => ∃ v0_ : Value, e = .returned (v0_) ∧ Kd.R k76 76 w' w.heap.size (fun _ => True) v0_ r ∧ Below w.heap.size w w' := by
 have hu31 := Tryd.underlying31
 have hu76 := Tryd.underlying76
 have HR0_1 := aM hr0_1
 have HC0_1 := aM hc0_1
 clear hr0_1 hc0_1
 have HB := aM (Below.refl w.heap.size w)
 have H : ((spec_ivLevels.f k a0_0 l0_1).bind fun t200 => (spec_ivEnds.l0 k t200 ([] : List (S76)) t200 (t200.length : Int) 0 a0_0 l0_1)) = some r := h
 clear h
 replace H := bS H
 obtain ⟨t200, A2, H⟩ := H
 try dsimp only at H
 have H' := aM H
 clear H
 go_enter Tryd.func65, Tryd.ntmps65
 go_wp2_with (first | ((with_reducible refine gate_dst (N := 1) rfl ?_); refine bE 1 31 #[.int .i64 a0_0, .slice A0_1 l0_1.length c0_1] ?_; intro gb199 hg w3 hbox hb; have _ := aM (below_step bq hb); have _ := aM (hbox); have _ := aM ((gS hg)); have _ := aM ((gS hg)); clear HB; rename_i HB BK199 GW199 GE199; clear hb hbox hg; have hcz4_0 := zc20 BK199; have hcz4_1 := zc21 BK199; have hfz4_0 := blk_frozen BK199.out 0; have hfz4_1 := blk_frozen BK199.out 1) | ((with_reducible refine gate_callee (f := 67) rfl ?_); refine gL (some 11) Tryd.func67 #[.agg #[.int .i64 a0_0, .slice A0_1 l0_1.length c0_1]] ?_; (with_reducible refine (spec_ivLevels.calls k a0_0 _ _ l0_1 t200 _ (cQ (Kd.C_below HR0_1.out HB.out)) HC0_1.out A2.out).mono ?_); rintro e w5 ⟨v201, rfl, ho0, hb⟩; refine ⟨_, rfl, ?_⟩; have _ := aM (Kd.R_lower ho0 (below_size bq)); have _ := aM (blk_below (qQ BK199) hb); have _ := aM (below_step bq hb); clear BK199 HB; rename_i HO202 BK199 HB; (try clear hb); (try clear hb2); (try clear hk); (try clear hi); (try clear ho0); obtain ⟨Ao6, co6, eo6⟩ := Kd.R_slice HO202.out; subst eo6))
 go_loopg [4, 14] k (fun kq v4 v14 w' => ∃ (x4_1 : List (S76)) (x14_1 : Int), v14 = .int .i64 x14_1 ∧ Aside0 (spec_ivEnds.l0 kq t200 x4_1 t200 (t200.length : Int) x14_1 a0_0 l0_1 = some r) ∧ Aside0 (kq ≤ k) ∧ Aside0 (Kd.R (Kd.int .i64) 3 w' w.heap.size (fun _ => True) (.slice Ao6 t200.length co6) t200) ∧ Aside0 (Kd.R k76 76 w' w.heap.size (fun _ => True) v4 x4_1) ∧ Aside0 (Kd.R (Kd.int .i64) 3 w' w.heap.size (fun _ => True) (.slice Ao6 t200.length co6) t200) ∧ Aside0 (w'.heap[gb199]? = some (.cells #[.int .i64 a0_0, (.slice A0_1 l0_1.length c0_1)] 31 (0, 0))) ∧ Aside0 (Below w.heap.size w w'))
 case atStart => exact ⟨(([] : List (S76))), (0), eR, H', ⟨Nat.le_refl _⟩, ⟨rQ HO202⟩, ⟨by first | exact Kd.R_nil _ _ _ _ _ | exact Kd.N_nil _ _ _ _ _ | exact Kd.V_nil _ _ _ _ _ | exact Kd.Q_nil _ _ _ _ _ | exact Kd.S_nil _ _ _ _ _⟩, ⟨rQ HO202⟩, ⟨qQ BK199⟩, ⟨bq⟩⟩
 case round =>
  clear H'
  try clear p2
  try clear c6
  try clear hcz4_0
  try clear hcz4_1
  try clear hfz4_0
  try clear hfz4_1
  obtain ⟨x4_1, x14_1, rfl, HA, HK1, HO_3, HO_4, HO_12, BK199, HB⟩ := hrel
  cases gk with
  | zero => exact absurd HA.out (by simp [spec_ivEnds.l0])
  | succ k1 =>
   have H := HA.out
   clear HA
   simp only [spec_ivEnds.l0] at H
   by_cases c7 : x14_1 < (t200.length : Int)
   ·rw [if_pos c7] at H
    have c7b0 := decide_eq_true c7
    clear c7
    replace H := iD2 H
    obtain ⟨c8b0, c9b0, H⟩ := H
    have H' := aM H
    clear H
    have p203 : 0 ≤ (x14_1 : Int) := odt
    have q203 : x14_1 < (t200.length : Int) := odt
    obtain ⟨ad203, e203, hx203_0⟩ := Kd.at_int (Kd.R_reads' HO_12.out).2.2 x14_1 p203 q203
    cases e203
    replace p203 := eq_true p203
    replace q203 := eq_true q203
    go_wp2_with (first | ((with_reducible refine gate_dst (N := 7) rfl ?_); refine bE 7 76 #[.int .i64 0, .int .i64 0] ?_; intro gb204 hg w10 hbox hb; have _ := aM (Kd.R_below (rQ HO_3) hb); have _ := aM (Kd.R_below (Kd.R_elderB (rQ HO_4) gb204 (Nat.le_of_eq hg.symm)) hb); have _ := aM (Kd.R_below (rQ HO_12) hb); have _ := aM (blk_below (qQ BK199) hb); have _ := aM (below_step bq hb); have _ := aM (hbox); have _ := aM ((gS hg)); have _ := aM ((gS hg)); have _ := aM ((by rw [hg]; exact Nat.ne_of_lt (blk_lt (g := gb199) (o := .cells #[.int .i64 a0_0, .slice A0_1 l0_1.length c0_1] 31 (0, 0)) (qQ BK199)) : gb199 ≠ gb204)); have _ := aM ((by rw [hg]; exact Nat.ne_of_gt (blk_lt (g := gb199) (o := .cells #[.int .i64 a0_0, .slice A0_1 l0_1.length c0_1] 31 (0, 0)) (qQ BK199)) : gb204 ≠ gb199)); clear HO_3 HO_4 HO_12 BK199 HB; rename_i HO_3 HO_4 HO_12 BK199 HB BK204 GW204 GE204 NB199_204 NB204_199; clear hb hbox hg; have hnb11 := NB204_199.out; have hnc11 := NB199_204.out; have hcz12_0 := zc20 BK204; have hcz12_1 := zc21 BK204; have hfz12_0 := blk_frozen BK204.out 0; have hfz12_1 := blk_frozen BK204.out 1))
    go_loopg [24] k1 (fun kq v24 w' => ∃ (x24_2 : Int) (x205001_2 : Int), v24 = .int .i64 x24_2 ∧ Aside0 (spec_ivEnds.l1 kq t200 x4_1 x14_1 t200 (t200.length : Int) x14_1 t200 (t200.length : Int) x24_2 a0_0 l0_1 (rd t200 x14_1) x205001_2 = some r) ∧ Aside0 (kq ≤ k1) ∧ Aside0 (Kd.R (Kd.int .i64) 3 w' w.heap.size (fun _ => True) (.slice (some ad203) t200.length co6) t200) ∧ Aside0 (Kd.R k76 76 w' w.heap.size (fun k_ => k_ ≠ gb204) u4 x4_1) ∧ Aside0 (Kd.R (Kd.int .i64) 3 w' w.heap.size (fun _ => True) (.slice (some ad203) t200.length co6) t200) ∧ Aside0 (Kd.R (Kd.int .i64) 3 w' w.heap.size (fun _ => True) (.slice (some ad203) t200.length co6) t200) ∧ Aside0 (w'.heap[gb199]? = some (.cells #[.int .i64 a0_0, (.slice A0_1 l0_1.length c0_1)] 31 (0, 0))) ∧ Aside0 (w'.heap[gb204]? = some (.cells #[.int .i64 (rd t200 x14_1), .int .i64 x205001_2] 76 (0, 0))) ∧ Aside0 (Below w.heap.size w w'))
    case atStart => exact ⟨(0), (rd t200 x14_1), eR, H', ⟨Nat.le_refl _⟩, ⟨by (with_reducible repeat first|apply rA|apply rN|apply rD); exact Kd.R_mono (Kd.R_far (p := ⟨gb204, 1, none⟩) (Kd.R_far (p := ⟨gb204, 0, none⟩) (Kd.R_types HO_3.out BK204.out (by decide)) (fun _ hk => hk.2) (.int .i64 (rd t200 x14_1))) (fun _ hk => hk.2) (.int .i64 (rd t200 x14_1))) (fun _ hk => trivial)⟩, ⟨by (with_reducible repeat first|apply rA|apply rN|apply rD); exact Kd.R_mono (Kd.R_far (p := ⟨gb204, 1, none⟩) (Kd.R_far (p := ⟨gb204, 0, none⟩) (Kd.R_mono HO_4.out (fun k_ hk => (⟨hk, hk.2⟩ : _ ∧ k_ ≠ gb204))) (fun _ hk => hk.2) (.int .i64 (rd t200 x14_1))) (fun _ hk => hk.2) (.int .i64 (rd t200 x14_1))) (fun _ hk => hk.1.2)⟩, ⟨by (with_reducible repeat first|apply rA|apply rN|apply rD); exact Kd.R_mono (Kd.R_far (p := ⟨gb204, 1, none⟩) (Kd.R_far (p := ⟨gb204, 0, none⟩) (Kd.R_types HO_12.out BK204.out (by decide)) (fun _ hk => hk.2) (.int .i64 (rd t200 x14_1))) (fun _ hk => hk.2) (.int .i64 (rd t200 x14_1))) (fun _ hk => trivial)⟩, ⟨by (with_reducible repeat first|apply rA|apply rN|apply rD); exact Kd.R_mono (Kd.R_far (p := ⟨gb204, 1, none⟩) (Kd.R_far (p := ⟨gb204, 0, none⟩) (Kd.R_types HO_3.out BK204.out (by decide)) (fun _ hk => hk.2) (.int .i64 (rd t200 x14_1))) (fun _ hk => hk.2) (.int .i64 (rd t200 x14_1))) (fun _ hk => trivial)⟩, ⟨by (with_reducible repeat first|apply qN|apply qD|apply qA); refine blk_far ?_ NB199_204.out _; (with_reducible repeat first|apply qN|apply qD|apply qA); refine blk_far ?_ NB199_204.out _; (with_reducible repeat first|apply qN|apply qD|apply qA); exact BK199.out⟩, ⟨by (with_reducible repeat first|apply qN|apply qD|apply qA); refine blk_put (cs := #[.int .i64 (rd t200 x14_1), .int .i64 0]) ?_ 1 _ rfl; (with_reducible repeat first|apply qN|apply qD|apply qA); refine blk_put (cs := #[.int .i64 0, .int .i64 0]) ?_ 0 _ rfl; (with_reducible repeat first|apply qN|apply qD|apply qA); exact BK204.out⟩, ⟨bq⟩⟩
    case round =>
     clear H'
     try clear c1
     try clear p2
     try clear q2
     try clear hx2
     try clear c6
     try clear c7
     try clear c7b0
     try clear c8
     try clear c8b0
     try clear c9
     try clear c9b0
     try clear c11
     try clear hcz12_0
     try clear hcz12_1
     try clear hcz4_0
     try clear hcz4_1
     try clear hfz12_0
     try clear hfz12_1
     try clear hfz4_0
     try clear hfz4_1
     try clear hx203_0
     try clear p2
     try clear p203
     try clear q203
     obtain ⟨x24_2, x205001_2, rfl, HA, HK2, HO_3, HO_4, HO_12, HO_22, BK199, BK204, HB⟩ := hrel
     cases gk with
     | zero => exact absurd HA.out (by simp [spec_ivEnds.l1])
     | succ k2 =>
      have H := HA.out
      clear HA
      simp only [spec_ivEnds.l1] at H
      by_cases c13 : x24_2 < (t200.length : Int)
      ·rw [if_pos c13] at H
       have c13b0 := decide_eq_true c13
       clear c13
       replace H := iD4 H
       obtain ⟨c14b0, c15b0, c16b0, c17b0, H⟩ := H
       replace H := bS H
       obtain ⟨t210, A18, H⟩ := H
       try dsimp only at H
       by_cases c19 : t210 = true
       ·subst c19
        have H1 : (spec_ivEnds.l1 k2 t200 x4_1 x14_1 t200 (t200.length : Int) x14_1 t200 (t200.length : Int) (wrap64 (x24_2 + 1)) a0_0 l0_1 (rd t200 x14_1) x205001_2) = some r := by rw [if_pos rfl] at H; exact H
        clear H
        have H := H1
        clear H1
        have H' := aM H
        clear H
        have p208 : 0 ≤ (x24_2 : Int) := odt
        have q208 : x24_2 < (t200.length : Int) := odt
        obtain ⟨ad208, e208, hx208_0⟩ := Kd.at_int (Kd.R_reads' HO_22.out).2.2 x24_2 p208 q208
        obtain rfl : ad203 = ad208 := (by injection e208)
        replace p208 := eq_true p208
        replace q208 := eq_true q208
        have hnb20 := NB199_204.out
        have hnc20 := NB204_199.out
        have hcz21_0 := zc20 BK199
        have hcz21_1 := zc21 BK199
        have hfz21_0 := blk_frozen BK199.out 0
        have hfz21_1 := blk_frozen BK199.out 1
        have p209 : 0 ≤ (x14_1 : Int) := odt
        have q209 : x14_1 < (l0_1.length : Int) := odt
        obtain ⟨ad209, e209, hx209_0⟩ := Kd.at_int HR0_1.out x14_1 p209 q209
        cases e209
        replace hx209_0 := (HB.out.cell (World.block_lt_of_cell? w _ hx209_0)).trans hx209_0
        replace p209 := eq_true p209
        replace q209 := eq_true q209
        go_wp2_with (first | ((with_reducible refine gate_callee (f := 93) rfl ?_); refine gL (some 35) Tryd.func93 #[.int .i64 (rd l0_1 x14_1), .int .i64 x24_2] ?_; (with_reducible refine (spec_orHas.calls (rd l0_1 x14_1) x24_2 true _ A18.out).mono ?_); rintro e w' ⟨rfl, ⟨nd, rfl⟩⟩; refine ⟨_, rfl, ?_⟩))
        go_roundg k2
        case measure => have := HK1.out; have := HK2.out; omega
        case rel => exact ⟨(wrap64 (x24_2 + 1)), (x205001_2), eR, H', ⟨by have := HK1.out; have := HK2.out; omega⟩, ⟨rQ HO_3⟩, ⟨rQ HO_4⟩, ⟨rQ HO_12⟩, ⟨rQ HO_22⟩, ⟨qQ BK199⟩, ⟨qQ BK204⟩, ⟨bq⟩⟩
       ·replace c19 := Bool.eq_false_iff.mpr c19
        subst c19
        have H1 : ((spec_l1Most.f x205001_2 (rd t200 x24_2)).bind fun t211 => (spec_ivEnds.l1 k2 t200 x4_1 x14_1 t200 (t200.length : Int) x14_1 t200 (t200.length : Int) (wrap64 (x24_2 + 1)) a0_0 l0_1 (rd t200 x14_1) t211)) = some r := by rw [if_neg (show ¬ (false = true) by decide)] at H; exact H
        clear H
        have H := H1
        clear H1
        replace H := bS H
        obtain ⟨t211, A22, H⟩ := H
        try dsimp only at H
        have H' := aM H
        clear H
        have p208 : 0 ≤ (x24_2 : Int) := odt
        have q208 : x24_2 < (t200.length : Int) := odt
        obtain ⟨ad208, e208, hx208_0⟩ := Kd.at_int (Kd.R_reads' HO_22.out).2.2 x24_2 p208 q208
        obtain rfl : ad203 = ad208 := (by injection e208)
        replace p208 := eq_true p208
        replace q208 := eq_true q208
        have hnb23 := NB199_204.out
        have hnc23 := NB204_199.out
        have hcz24_0 := zc20 BK199
        have hcz24_1 := zc21 BK199
        have hfz24_0 := blk_frozen BK199.out 0
        have hfz24_1 := blk_frozen BK199.out 1
        have p209 : 0 ≤ (x14_1 : Int) := odt
        have q209 : x14_1 < (l0_1.length : Int) := odt
        obtain ⟨ad209, e209, hx209_0⟩ := Kd.at_int HR0_1.out x14_1 p209 q209
        cases e209
        replace hx209_0 := (HB.out.cell (World.block_lt_of_cell? w _ hx209_0)).trans hx209_0
        replace p209 := eq_true p209
        replace q209 := eq_true q209
        go_wp2_with (first | ((with_reducible refine gate_callee (f := 93) rfl ?_); refine gL (some 35) Tryd.func93 #[.int .i64 (rd l0_1 x14_1), .int .i64 x24_2] ?_; (with_reducible refine (spec_orHas.calls (rd l0_1 x14_1) x24_2 false _ A18.out).mono ?_); rintro e w' ⟨rfl, ⟨nd, rfl⟩⟩; refine ⟨_, rfl, ?_⟩; (try (rw [drewN_self wr]; generalize hq_ : World.drewN wr _ = wr; have _ : Aside0 (Kd.R (Kd.int .i64) 3 wr w.heap.size (fun _ => True) (.slice (some ad203) t200.length co6) t200) := ⟨by rw [← hq_]; exact (rQ HO_12)⟩; have _ : Aside0 (Kd.R (Kd.int .i64) 3 wr w.heap.size (fun _ => True) (.slice (some ad203) t200.length co6) t200) := ⟨by rw [← hq_]; exact (rQ HO_22)⟩; have _ : Aside0 (Kd.R (Kd.int .i64) 3 wr w.heap.size (fun _ => True) (.slice (some ad203) t200.length co6) t200) := ⟨by rw [← hq_]; exact (rQ HO_3)⟩; have _ : Aside0 (Kd.R k76 76 wr w.heap.size (fun k_ => k_ ≠ gb204) u4 x4_1) := ⟨by rw [← hq_]; exact (rQ HO_4)⟩; have _ : Aside0 (wr.heap[gb199]? = some (.cells #[.int .i64 a0_0, .slice (some ad209) l0_1.length c0_1] 31 (0, 0))) := ⟨by rw [← hq_]; exact (qQ BK199)⟩; have _ : Aside0 (wr.heap[gb204]? = some (.cells #[.int .i64 (rd t200 x14_1), .int .i64 x205001_2] 76 (0, 0))) := ⟨by rw [← hq_]; exact (qQ BK204)⟩; have _ : Aside0 (Below w.heap.size w wr) := ⟨by rw [← hq_]; exact bq⟩; clear HO_12 HO_22 HO_3 HO_4 BK199 BK204 HB hq_; rename_i HO_12 HO_22 HO_3 HO_4 BK199 BK204 HB; (try have hcq199_0 := zc20 BK199); (try have hfq199_0 := blk_frozen BK199.out 0); (try have hcq199_1 := zc21 BK199); (try have hfq199_1 := blk_frozen BK199.out 1); (try have hcq204_0 := zc20 BK204); (try have hfq204_0 := blk_frozen BK204.out 0); (try have hcq204_1 := zc21 BK204); (try have hfq204_1 := blk_frozen BK204.out 1))); have hcz25_0 := zc20 BK204; have hcz25_1 := zc21 BK204; have hfz25_0 := blk_frozen BK204.out 0; have hfz25_1 := blk_frozen BK204.out 1) | ((with_reducible refine gate_callee (f := 96) rfl ?_); refine gL (some 40) Tryd.func96 #[.int .i64 x205001_2, .int .i64 (rd t200 x24_2)] ?_; (with_reducible refine (spec_l1Most.calls x205001_2 (rd t200 x24_2) t211 _ A22.out).mono ?_); rintro e w' ⟨rfl, ⟨nd, rfl⟩⟩; refine ⟨_, rfl, ?_⟩; (try (rw [drewN_self wr]; generalize hq_ : World.drewN wr _ = wr; have _ : Aside0 (Kd.R (Kd.int .i64) 3 wr w.heap.size (fun _ => True) (.slice (some ad203) t200.length co6) t200) := ⟨by rw [← hq_]; exact (rQ HO_12)⟩; have _ : Aside0 (Kd.R (Kd.int .i64) 3 wr w.heap.size (fun _ => True) (.slice (some ad203) t200.length co6) t200) := ⟨by rw [← hq_]; exact (rQ HO_22)⟩; have _ : Aside0 (Kd.R (Kd.int .i64) 3 wr w.heap.size (fun _ => True) (.slice (some ad203) t200.length co6) t200) := ⟨by rw [← hq_]; exact (rQ HO_3)⟩; have _ : Aside0 (Kd.R k76 76 wr w.heap.size (fun k_ => k_ ≠ gb204) u4 x4_1) := ⟨by rw [← hq_]; exact (rQ HO_4)⟩; have _ : Aside0 (wr.heap[gb199]? = some (.cells #[.int .i64 a0_0, .slice (some ad209) l0_1.length c0_1] 31 (0, 0))) := ⟨by rw [← hq_]; exact (qQ BK199)⟩; have _ : Aside0 (wr.heap[gb204]? = some (.cells #[.int .i64 (rd t200 x14_1), .int .i64 x205001_2] 76 (0, 0))) := ⟨by rw [← hq_]; exact (qQ BK204)⟩; have _ : Aside0 (Below w.heap.size w wr) := ⟨by rw [← hq_]; exact bq⟩; clear HO_12 HO_22 HO_3 HO_4 BK199 BK204 HB hq_; rename_i HO_12 HO_22 HO_3 HO_4 BK199 BK204 HB; (try have hcq199_0 := zc20 BK199); (try have hfq199_0 := blk_frozen BK199.out 0); (try have hcq199_1 := zc21 BK199); (try have hfq199_1 := blk_frozen BK199.out 1); (try have hcq204_0 := zc20 BK204); (try have hfq204_0 := blk_frozen BK204.out 0); (try have hcq204_1 := zc21 BK204); (try have hfq204_1 := blk_frozen BK204.out 1)))))
        go_roundg k2
        case measure => have := HK1.out; have := HK2.out; omega
        case rel => exact ⟨(wrap64 (x24_2 + 1)), (t211), eR, H', ⟨by have := HK1.out; have := HK2.out; omega⟩, ⟨by (with_reducible repeat first|apply rA|apply rN|apply rD); exact Kd.R_mono (Kd.R_far (p := ⟨gb204, 1, none⟩) (Kd.R_types HO_3.out BK204.out (by decide)) (fun _ hk => hk.2) (.int .i64 t211)) (fun _ hk => trivial)⟩, ⟨by (with_reducible repeat first|apply rA|apply rN|apply rD); exact Kd.R_mono (Kd.R_far (p := ⟨gb204, 1, none⟩) (Kd.R_mono HO_4.out (fun k_ hk => (⟨hk, hk⟩ : _ ∧ k_ ≠ gb204))) (fun _ hk => hk.2) (.int .i64 t211)) (fun _ hk => hk.1)⟩, ⟨by (with_reducible repeat first|apply rA|apply rN|apply rD); exact Kd.R_mono (Kd.R_far (p := ⟨gb204, 1, none⟩) (Kd.R_types HO_12.out BK204.out (by decide)) (fun _ hk => hk.2) (.int .i64 t211)) (fun _ hk => trivial)⟩, ⟨by (with_reducible repeat first|apply rA|apply rN|apply rD); exact Kd.R_mono (Kd.R_far (p := ⟨gb204, 1, none⟩) (Kd.R_types HO_22.out BK204.out (by decide)) (fun _ hk => hk.2) (.int .i64 t211)) (fun _ hk => trivial)⟩, ⟨by (with_reducible repeat first|apply qN|apply qD|apply qA); refine blk_far ?_ NB199_204.out _; (with_reducible repeat first|apply qN|apply qD|apply qA); exact BK199.out⟩, ⟨by (with_reducible repeat first|apply qN|apply qD|apply qA); refine blk_put (cs := #[.int .i64 (rd t200 x14_1), .int .i64 x205001_2]) ?_ 1 _ rfl; (with_reducible repeat first|apply qN|apply qD|apply qA); exact BK204.out⟩, ⟨bq⟩⟩
      ·rw [if_neg c13] at H
       have c13b0 := decide_eq_false c13
       clear c13
       replace H := iS H
       obtain ⟨c26, H⟩ := H
       have LMc26 := aM c26
       clear c26
       obtain ⟨y205, hy205⟩ : ∃ y_ : List (S76), y_ = (x4_1 ++ [(⟨(rd t200 x14_1), x205001_2⟩ : S76)]) := ⟨_, rfl⟩
       replace H : (spec_ivEnds.l0 k2 t200 y205 t200 (t200.length : Int) (wrap64 (x14_1 + 1)) a0_0 l0_1) = some r := by first | (rw [hy205]; with_reducible exact H) | (have H2_ := (Option.bind_some _ _).symm.trans H; rw [hy205]; with_reducible exact H2_) | (have H2_ := (Option.bind_some _ _).symm.trans H; with_reducible exact H2_) | with_reducible exact H | (rw [hy205]; exact H) | exact H
       have Ny205 := aM hy205
       clear hy205
       have H' := aM H
       clear H
       have hnb27 := NB204_199.out
       have hnc27 := NB199_204.out
       have hcz28_0 := zc20 BK204
       have hcz28_1 := zc21 BK204
       have hfz28_0 := blk_frozen BK204.out 0
       have hfz28_1 := blk_frozen BK204.out 1
       go_wp2_with (first | ((with_reducible refine gate_builtin (b := .append) (xs := #[.tmp 43, .tmp 45]) rfl ?_); at_builtin; refine Kd.R_append k76 (w0 := w) w.heap.size rfl (.tmp 43) (.tmp 45) 48 76 (.agg #[(.int .i64 0), (.int .i64 0)]) 16 rfl Tryd.underlying48 info76 rfl (by decide) (by omega) u4 x4_1 (⟨(rd t200 x14_1), x205001_2⟩ : S76) [.int .i64 (rd t200 x14_1), .int .i64 x205001_2] (fun k_ => k_ ≠ gb204) (fun _ => False) rfl rfl ?aP (fun _ hk => hk.elim) ?aF ?aO ?aB ?aS ?aL ?_; (case aP => exact k76_mkM _ _ _ (⟨(rd t200 x14_1), x205001_2⟩ : S76)); (case aB => exact bq); (case aF => exact (fun k_ hk => Kd.freshB (g := gb204) (o := .cells #[.int .i64 (rd t200 x14_1), .int .i64 x205001_2] 76 (0, 0)) (qQ BK204) k_ hk)); (case aO => exact (rQ HO_4)); (case aS => exact (below_size bq)); (case aL => have := LMc26.out; omega); intro v206 w29 ho hb hg hat; rw [← Ny205.out] at ho; have _ := aM (Kd.R_over' (rQ HO_3) (Kd.R_typed (rQ HO_4)) (by decide) hg); have _ := aM (Kd.R_over' (rQ HO_12) (Kd.R_typed (rQ HO_4)) (by decide) hg); have _ := aM (Kd.R_over' (rQ HO_22) (Kd.R_typed (rQ HO_4)) (by decide) hg); have _ := aM (blk_grown (g := gb199) (o := .cells #[.int .i64 a0_0, .slice A0_1 l0_1.length c0_1] 31 (0, 0)) (qQ BK199) hg (Kd.R_ne HO_4.out BK199.out (by decide))); have _ := aM (blk_grown (g := gb204) (o := .cells #[.int .i64 (rd t200 x14_1), .int .i64 x205001_2] 76 (0, 0)) (qQ BK204) hg (Kd.R_away HO_4.out (fun _ hk => hk))); have _ := aM (hb); have _ := aM (ho); clear HO_3 HO_12 HO_22 BK199 BK204 HB HO_4; rename_i HO_3 HO_12 HO_22 BK199 BK204 HB HO207; clear ho hb hg hat))
       go_roundg k2
       case measure => have := HK1.out; have := HK2.out; omega
       case rel => exact ⟨(y205), (wrap64 (x14_1 + 1)), eR, H', ⟨by have := HK1.out; have := HK2.out; omega⟩, ⟨rQ HO_3⟩, ⟨by (with_reducible repeat first|apply rA|apply rN|apply rD); exact Kd.R_mono HO207.out (fun _ hk => trivial)⟩, ⟨rQ HO_12⟩, ⟨qQ BK199⟩, ⟨bq⟩⟩
   ·rw [if_neg c7] at H
    have c7b0 := decide_eq_false c7
    clear c7
    obtain rfl := Option.some.inj H
    go_wp2
    go_ret
    exact ⟨_, eE, rQ HO_4, bq⟩

def spec_ivMost.l0 : Nat → Int → List Int → Int → Int → Option (Int)
 | 0, _, _, _, _ => none
 | k + 1, x3, x6, x7, x8 => if x8 < x7 then (if 0 ≤ x8 then (if x8 < (x6.length : Int) then ((spec_l1Most.f x3 (rd x6 x8)).bind fun t213 => (spec_ivMost.l0 k t213 x6 x7 (wrap64 (x8 + 1)))) else (none)) else (none)) else (some x3)
def spec_ivMost.f (k : Nat) (l0 : List Int) : Option (Int) := spec_ivMost.l0 k (-1) l0 (l0.length : Int) 0
set_option maxHeartbeats 8000000 in
set_option maxRecDepth 100000 in
theorem spec_ivMost.calls (k : Nat) (A0 : Option Addr) (c0 : Nat) (l0 : List Int) (r : Int) (w : World) (hr0 : Kd.C (Kd.int .i64) w A0 l0.length l0) (hc0 : l0.length ≤ c0) (h : spec_ivMost.f k l0 = some r) :
  Calls Tryd.prog 66 #[.slice A0 l0.length c0] w fun e w' => e = .returned (.int .i64 r) ∧ Drawn0 w w' := by
 have HR0 := aM hr0
 have HC0 := aM hc0
 clear hr0 hc0
 have H : (spec_ivMost.l0 k (-1) l0 (l0.length : Int) 0) = some r := h
 clear h
 have H' := aM H
 clear H
 go_enter Tryd.func66, Tryd.ntmps66
 go_wp2
 go_loopg [3, 8] k (fun kq v3 v8 w' => ∃ (x3_1 : Int) (x8_1 : Int), v3 = .int .i64 x3_1 ∧ v8 = .int .i64 x8_1 ∧ Aside0 (spec_ivMost.l0 kq x3_1 l0 (l0.length : Int) x8_1 = some r) ∧ Aside0 (kq ≤ k) ∧ Drawn0 w w')
 case atStart => exact ⟨((-1)), (0), eR, eR, H', ⟨Nat.le_refl _⟩, by repeat (first | exact Drawn0.refl _ | apply Drawn0.step)⟩
 case round =>
  clear H'
  obtain ⟨x3_1, x8_1, rfl, rfl, HA, HK1, ⟨m1, rfl⟩⟩ := hrel
  cases gk with
  | zero => exact absurd HA.out (by simp [spec_ivMost.l0])
  | succ k1 =>
   have H := HA.out
   clear HA
   simp only [spec_ivMost.l0] at H
   by_cases c2 : x8_1 < (l0.length : Int)
   ·rw [if_pos c2] at H
    have c2b0 := decide_eq_true c2
    clear c2
    replace H := iD2 H
    obtain ⟨c3b0, c4b0, H⟩ := H
    replace H := bS H
    obtain ⟨t213, A5, H⟩ := H
    try dsimp only at H
    have H' := aM H
    clear H
    have p212 : 0 ≤ (x8_1 : Int) := odt
    have q212 : x8_1 < (l0.length : Int) := odt
    obtain ⟨ad212, e212, hx212_0⟩ := Kd.at_int HR0.out x8_1 p212 q212
    cases e212
    replace p212 := eq_true p212
    replace q212 := eq_true q212
    go_wp2_with (first | ((with_reducible refine gate_callee (f := 96) rfl ?_); refine gL (some 14) Tryd.func96 #[.int .i64 x3_1, .int .i64 (rd l0 x8_1)] ?_; (with_reducible refine (spec_l1Most.calls x3_1 (rd l0 x8_1) t213 _ A5.out).mono ?_); rintro e w' ⟨rfl, ⟨nd, rfl⟩⟩; refine ⟨_, rfl, ?_⟩))
    go_roundg k1
    case measure => have := HK1.out; omega
    case rel => exact ⟨(t213), (wrap64 (x8_1 + 1)), eR, eR, H', ⟨by have := HK1.out; omega⟩, by repeat (first | exact Drawn0.refl _ | apply Drawn0.step)⟩
   ·rw [if_neg c2] at H
    have c2b0 := decide_eq_false c2
    clear c2
    obtain rfl := Option.some.inj H
    go_wp2
    go_ret
    exact ⟨by first | rfl | (simp; done) | (simp [*]; done), by repeat (first | exact Drawn0.refl _ | apply Drawn0.step)⟩

end Go.Proofs.YtcodionjhcmfhaaDoor.Mo
