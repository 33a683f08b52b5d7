-- Written by hook.py (wip/), over the kit's print.py.
import Derived.Test.YtjmmleofnjcjoaaGreatDoorDu2
import Derived.Test.YtjmmleofnjcjoaaGreatDoorDu6
import Derived.Test.YtjmmleofnjcjoaaGreatDoorDu7
import Derived.Test.YtjmmleofnjcjoaaGreatDoorDuXSq
namespace Go.Proofs.YtjmmleofnjcjoaaGreatDoor.Du
open Go.RowKit Go.Proofs.YtjmmleofnjcjoaaGreatDoorW.PrintWords Go.Proofs.YtjmmleofnjcjoaaGreatDoorW.PrintLast Go.Proofs.YtjmmleofnjcjoaaGreatDoorW.PrintMore Go.Proofs.YtjmmleofnjcjoaaGreatDoor.Sq
attribute [local go_sem] max2_int min2_int max_two min_two max_three min_three max_four min_four
set_option linter.unusedVariables false
set_option linter.unusedSimpArgs false
set_option maxHeartbeats 8000000
set_option maxRecDepth 100000
mutual
def Y14.l0 : Nat → List (S130) → List (S130) → Int → Int → Int → List Int → Option (Int × List Int)
 | 0, _, _, _, _, _, _ => none
 | k + 1, x0, x12, x13, x14, x275000, x275001 => if x14 < x13 then (if 0 ≤ x14 then (if x14 < (x12.length : Int) then (Y14.l1 k x0 0 x12 x13 x14 x0 (x0.length : Int) 0 x275000 x275001 ((rd_T130 x12 x14).f0) ((rd_T130 x12 x14).f1)) else (none)) else (none)) else (some (x275000, x275001))
def Y14.l1 : Nat → List (S130) → Int → List (S130) → Int → Int → List (S130) → Int → Int → Int → List Int → Int → Int → Option (Int × List Int)
 | 0, _, _, _, _, _, _, _, _, _, _, _, _ => none
 | k + 1, x0, x6, x12, x13, x14, x18, x19, x20, x275000, x275001, x277000, x277001 => if x20 < x19 then (if 0 ≤ x20 then (if x20 < (x18.length : Int) then (if x277001 < ((rd_T130 x18 x20).f0) then (Y14.l1 k x0 (Go.bits .or .i64 x6 (shl .i64 1 x20)) x12 x13 x14 x18 x19 (wrap64 (x20 + 1)) x275000 x275001 x277000 x277001) else (Y14.l1 k x0 x6 x12 x13 x14 x18 x19 (wrap64 (x20 + 1)) x275000 x275001 x277000 x277001)) else (none)) else (none)) else (if x275001.length < 17592186044416 then (Y14.l0 k x0 x12 x13 (wrap64 (x14 + 1)) x275000 (x275001 ++ [x6])) else (none))
end
def Y14.f (k : Nat) (l0 : List (S130)) : Option (Int × List Int) := Y14.l0 k l0 l0 (l0.length : Int) 0 (l0.length : Int) ([] : List Int)
theorem Y14.calls (k : Nat) (A0 : Option Addr) (c0 : Nat) (l0 : List (S130)) (r1 : Int) (r2 : List Int) (w : World) (hr0 : Kd.C k130 w A0 l0.length l0) (hc0 : l0.length ≤ c0) (h : Y14.f k l0 = some (r1, r2)) :
  Calls Tryz.prog 144 #[.slice A0 l0.length c0] w fun e w' => ∃ v1_ : Value, e = .returned (.agg #[.int .i64 r1, v1_]) ∧ Kd.R (Kd.int .i64) 3 w' w.heap.size (fun _ => True) v1_ r2 ∧ Below w.heap.size w w' := by
 have hu26 := Tryz.underlying26
 have hu130 := Tryz.underlying130
 have HR0 := aM hr0
 have HC0 := aM hc0
 clear hr0 hc0
 have HB := aM (Below.refl w.heap.size w)
 unfold Y14.f at h
 have H := h
 clear h
 have H' := aM H
 clear H
 go_enter Tryz.func144, Tryz.ntmps144
 go_wp2_with (first | ((with_reducible refine gate_dst (N := 2) rfl ?_); refine bF 2 26 #[.int .i64 0, .slice none 0 0] bq ?_; intro gb273 w2 hg hb _ _ _ _; clear HB; rename_i HB BK273 GW273 GE273; clear hb hg) | ((with_reducible refine gate_dst (N := 3) rfl ?_); refine bE 3 26 #[.int .i64 0, .slice none 0 0] ?_; intro gb274 hg w3 hbox hb; have _ := bK BK273 hb; have _ := bB hb; have _ := aM (hbox); have _ := aM ((gS hg)); have _ := aM ((gS hg)); have _ := aM (nL hg BK273); have _ := aM (nG hg BK273); clear BK273 HB; rename_i BK273 HB BK274 GW274 GE274 NB273_274 NB274_273; clear hb hbox hg; have hnb4 := NB274_273.out; have hnc4 := NB273_274.out; have hcz5_0 := zc20 BK274; have hcz5_1 := zc21 BK274; have hfz5_0 := blk_frozen BK274.out 0; have hfz5_1 := blk_frozen BK274.out 1))
 go_loopg [14] k (fun kq v14 w' => ∃ (x14_1 : Int) (x275001_1 : List Int) (u275001 : Value), v14 = .int .i64 x14_1 ∧ Aside0 (Y14.l0 kq l0 l0 (l0.length : Int) x14_1 (l0.length : Int) x275001_1 = some (r1, r2)) ∧ Aside0 (kq ≤ k) ∧ Aside0 (Kd.R (Kd.int .i64) 3 w' w.heap.size (fun _ => True) u275001 x275001_1) ∧ Aside0 (w'.heap[gb273]? = some (.cells #[.int .i64 0, (.slice none 0 0)] 26 (0, 0))) ∧ Aside0 (w'.heap[gb274]? = some (.cells #[.int .i64 (l0.length : Int), u275001] 26 (0, 0))) ∧ Aside0 (Below w.heap.size w w'))
 case atStart => exact ⟨(0), (([] : List Int)), (.slice none 0 0), eR, H', ⟨Nat.le_refl _⟩, ⟨by first | exact Kd.R_nil _ _ _ _ _ | exact Kd.N_nil _ _ _ _ _ | exact Kd.V_nil _ _ _ _ _ | exact Kd.Q_nil _ _ _ _ _ | exact Kd.S_nil _ _ _ _ _⟩, ⟨by (with_reducible repeat first|apply qN|apply qD|apply qA); refine blk_far ?_ NB273_274.out _; (with_reducible repeat first|apply qN|apply qD|apply qA); refine blk_far ?_ NB273_274.out _; (with_reducible repeat first|apply qN|apply qD|apply qA); exact BK273.out⟩, ⟨by (with_reducible repeat first|apply qN|apply qD|apply qA); refine blk_put (cs := #[.int .i64 (l0.length : Int), .slice none 0 0]) ?_ 1 _ rfl; (with_reducible repeat first|apply qN|apply qD|apply qA); refine blk_put (cs := #[.int .i64 0, .slice none 0 0]) ?_ 0 _ rfl; (with_reducible repeat first|apply qN|apply qD|apply qA); exact BK274.out⟩, ⟨bq⟩⟩
 case round =>
  clear H'
  try clear hcz5_0
  try clear hcz5_1
  try clear hfz5_0
  try clear hfz5_1
  obtain ⟨x14_1, x275001_1, u275001, rfl, HA, HK1, HO_275001, BK273, BK274, HB⟩ := hrel
  cases gk with
  | zero => exact absurd HA.out (by simp [Y14.l0])
  | succ k1 =>
   have H := HA.out
   clear HA
   simp only [Y14.l0] at H
   by_cases c6 : x14_1 < (l0.length : Int)
   ·rw [if_pos c6] at H
    have c6b0 := decide_eq_true c6
    clear c6
    replace H := iD2 H
    obtain ⟨c7b0, c8b0, H⟩ := H
    have H' := aM H
    clear H
    have p275 : 0 ≤ (x14_1 : Int) := odt
    have q275 : x14_1 < (l0.length : Int) := odt
    obtain ⟨ad275, e275, hx275_0, hx275_1⟩ := at_T130 HR0.out x14_1 p275 q275
    cases e275
    replace hx275_0 := (HB.out.cell (World.block_lt_of_cell? w _ hx275_0)).trans hx275_0
    replace hx275_1 := (HB.out.cell (World.block_lt_of_cell? w _ hx275_1)).trans hx275_1
    replace p275 := eq_true p275
    replace q275 := eq_true q275
    go_wp2_with (first | ((with_reducible refine gate_dst (N := 5) rfl ?_); refine bE 5 130 #[.int .i64 0, .int .i64 0] ?_; intro gb276 hg w9 hbox hb; have _ := aM (Kd.R_below (rQ HO_275001) hb); have _ := bK BK273 hb; have _ := bK BK274 hb; have _ := bB hb; have _ := aM (hbox); have _ := aM ((gS hg)); have _ := aM ((gS hg)); have _ := aM (nL hg BK273); have _ := aM (nG hg BK273); have _ := aM (nL hg BK274); have _ := aM (nG hg BK274); clear HO_275001 BK273 BK274 HB; rename_i HO_275001 BK273 BK274 HB BK276 GW276 GE276 NB273_276 NB276_273 NB274_276 NB276_274; clear hb hbox hg; have hnb10 := NB276_273.out; have hnc10 := NB273_276.out; have hnb11 := NB276_274.out; have hnc11 := NB274_276.out; have hcz12_0 := zc20 BK276; have hcz12_1 := zc21 BK276; have hfz12_0 := blk_frozen BK276.out 0; have hfz12_1 := blk_frozen BK276.out 1))
    go_loopg [6, 20] k1 (fun kq v6 v20 w' => ∃ (x6_2 : Int) (x20_2 : Int), v6 = .int .i64 x6_2 ∧ v20 = .int .i64 x20_2 ∧ Aside0 (Y14.l1 kq l0 x6_2 l0 (l0.length : Int) x14_1 l0 (l0.length : Int) x20_2 (l0.length : Int) x275001_1 ((rd_T130 l0 x14_1).f0) ((rd_T130 l0 x14_1).f1) = some (r1, r2)) ∧ Aside0 (kq ≤ k1) ∧ Aside0 (Kd.R (Kd.int .i64) 3 w' w.heap.size (fun _ => True) u275001 x275001_1) ∧ Aside0 (w'.heap[gb273]? = some (.cells #[.int .i64 0, (.slice none 0 0)] 26 (0, 0))) ∧ Aside0 (w'.heap[gb274]? = some (.cells #[.int .i64 (l0.length : Int), u275001] 26 (0, 0))) ∧ Aside0 (w'.heap[gb276]? = some (.cells #[.int .i64 ((rd_T130 l0 x14_1).f0), .int .i64 ((rd_T130 l0 x14_1).f1)] 130 (0, 0))) ∧ Aside0 (Below w.heap.size w w'))
    case atStart => exact ⟨(0), (0), eR, eR, H', ⟨Nat.le_refl _⟩, ⟨by (with_reducible repeat first|apply rA|apply rN|apply rD); exact Kd.R_mono (Kd.R_far (p := ⟨gb276, 1, none⟩) (Kd.R_far (p := ⟨gb276, 0, none⟩) (Kd.R_types HO_275001.out BK276.out (by decide)) (fun _ hk => hk.2) (.int .i64 ((rd_T130 l0 x14_1).f0))) (fun _ hk => hk.2) (.int .i64 ((rd_T130 l0 x14_1).f1))) (fun _ hk => trivial)⟩, ⟨by (with_reducible repeat first|apply qN|apply qD|apply qA); refine blk_far ?_ NB273_276.out _; (with_reducible repeat first|apply qN|apply qD|apply qA); refine blk_far ?_ NB273_276.out _; (with_reducible repeat first|apply qN|apply qD|apply qA); exact BK273.out⟩, ⟨by (with_reducible repeat first|apply qN|apply qD|apply qA); refine blk_far ?_ NB274_276.out _; (with_reducible repeat first|apply qN|apply qD|apply qA); refine blk_far ?_ NB274_276.out _; (with_reducible repeat first|apply qN|apply qD|apply qA); exact BK274.out⟩, ⟨by (with_reducible repeat first|apply qN|apply qD|apply qA); refine blk_put (cs := #[.int .i64 ((rd_T130 l0 x14_1).f0), .int .i64 0]) ?_ 1 _ rfl; (with_reducible repeat first|apply qN|apply qD|apply qA); refine blk_put (cs := #[.int .i64 0, .int .i64 0]) ?_ 0 _ rfl; (with_reducible repeat first|apply qN|apply qD|apply qA); exact BK276.out⟩, ⟨bq⟩⟩
    case round =>
     clear H'
     try clear c6
     try clear c6b0
     try clear c7b0
     try clear c8b0
     try clear hcz12_0
     try clear hcz12_1
     try clear hcz5_0
     try clear hcz5_1
     try clear hfz12_0
     try clear hfz12_1
     try clear hfz5_0
     try clear hfz5_1
     try clear hx275_0
     try clear hx275_1
     try clear p275
     try clear q275
     obtain ⟨x6_2, x20_2, rfl, rfl, HA, HK2, HO_275001, BK273, BK274, BK276, HB⟩ := hrel
     cases gk with
     | zero => exact absurd HA.out (by simp [Y14.l1])
     | succ k2 =>
      have H := HA.out
      clear HA
      simp only [Y14.l1] at H
      by_cases c13 : x20_2 < (l0.length : Int)
      ·rw [if_pos c13] at H
       have c13b0 := decide_eq_true c13
       clear c13
       replace H := iD2 H
       obtain ⟨c14b0, c15b0, H⟩ := H
       by_cases c16 : ((rd_T130 l0 x14_1).f1) < ((rd_T130 l0 x20_2).f0)
       ·rw [if_pos c16] at H
        have c16b0 := decide_eq_true c16
        clear c16
        have c17b0 := eq_true (odt : 0 ≤ x20_2)
        obtain ⟨ji18, hji18⟩ : ∃ j_ : Int, (shl .i64 1 x20_2) = j_ := ⟨_, rfl⟩
        replace H : (Y14.l1 k2 l0 (Go.bits .or .i64 x6_2 (ji18)) l0 (l0.length : Int) x14_1 l0 (l0.length : Int) (wrap64 (x20_2 + 1)) (l0.length : Int) x275001_1 ((rd_T130 l0 x14_1).f0) ((rd_T130 l0 x14_1).f1)) = some (r1, r2) := by first | (rw [hji18] at H; exact H) | (simp only [hji18] at H ⊢; exact H)
        have hji18_ : (IntKind.i64.wrap (1 * 2 ^ min x20_2.toNat 64)) = ji18 := hji18
        have hji18z : x20_2 ≤ 64 → (IntKind.i64.wrap (1 * 2 ^ x20_2.toNat)) = ji18 := shl_small hji18
        have hji18u : (IntKind.i64.wrap (2 ^ min x20_2.toNat 64)) = ji18 := by have h_ := hji18_; rw [Int.one_mul] at h_; exact h_
        have hji18v : x20_2 ≤ 64 → (IntKind.i64.wrap (2 ^ x20_2.toNat)) = ji18 := fun hle_ => by have h_ := hji18z hle_; rw [Int.one_mul] at h_; exact h_
        have hji18y : (wrap64 (1 * 2 ^ min x20_2.toNat 64)) = ji18 := (i64_w _).symm.trans hji18_
        have hji18x : x20_2 ≤ 64 → (wrap64 (1 * 2 ^ x20_2.toNat)) = ji18 := fun h_ => (i64_w _).symm.trans (hji18z h_)
        have H' := aM H
        clear H
        have p277 : 0 ≤ (x20_2 : Int) := odt
        have q277 : x20_2 < (l0.length : Int) := odt
        obtain ⟨ad277, e277, hx277_0, hx277_1⟩ := at_T130 HR0.out x20_2 p277 q277
        obtain rfl : ad275 = ad277 := (by injection e277)
        replace hx277_0 := (HB.out.cell (World.block_lt_of_cell? w _ hx277_0)).trans hx277_0
        replace hx277_1 := (HB.out.cell (World.block_lt_of_cell? w _ hx277_1)).trans hx277_1
        replace p277 := eq_true p277
        replace q277 := eq_true q277
        go_wp2_with (first | ((with_reducible refine gate_dst (N := 8) rfl ?_); refine bE 8 130 #[.int .i64 0, .int .i64 0] ?_; intro gb278 hg w19 hbox hb; have _ := aM (Kd.R_below (rQ HO_275001) hb); have _ := bK BK273 hb; have _ := bK BK274 hb; have _ := bK BK276 hb; have _ := bB hb; have _ := aM (hbox); have _ := aM ((gS hg)); have _ := aM ((gS hg)); have _ := aM (nL hg BK273); have _ := aM (nG hg BK273); have _ := aM (nL hg BK274); have _ := aM (nG hg BK274); have _ := aM (nL hg BK276); have _ := aM (nG hg BK276); clear HO_275001 BK273 BK274 BK276 HB; rename_i HO_275001 BK273 BK274 BK276 HB BK278 GW278 GE278 NB273_278 NB278_273 NB274_278 NB278_274 NB276_278 NB278_276; clear hb hbox hg; have hnb20 := NB278_273.out; have hnc20 := NB273_278.out; have hnb21 := NB278_274.out; have hnc21 := NB274_278.out; have hnb22 := NB278_276.out; have hnc22 := NB276_278.out; have hcz23_0 := zc20 BK278; have hcz23_1 := zc21 BK278; have hfz23_0 := blk_frozen BK278.out 0; have hfz23_1 := blk_frozen BK278.out 1; have hnb24 := NB276_273.out; have hnc24 := NB273_276.out; have hnb25 := NB276_274.out; have hnc25 := NB274_276.out; have hcz26_0 := zc20 BK276; have hcz26_1 := zc21 BK276; have hfz26_0 := blk_frozen BK276.out 0; have hfz26_1 := blk_frozen BK276.out 1))
        go_roundg k2
        case measure => have := HK1.out; have := HK2.out; omega
        case rel => exact ⟨(Go.bits .or .i64 x6_2 (ji18)), (wrap64 (x20_2 + 1)), (by first | rfl | (simp; done) | (simp only [← hji18] <;> (first | rfl | simp)) | (simp [*]; done)), eR, H', ⟨by have := HK1.out; have := HK2.out; omega⟩, ⟨by (with_reducible repeat first|apply rA|apply rN|apply rD); exact Kd.R_mono (Kd.R_far (p := ⟨gb278, 1, none⟩) (Kd.R_far (p := ⟨gb278, 0, none⟩) (Kd.R_types HO_275001.out BK278.out (by decide)) (fun _ hk => hk.2) (.int .i64 ((rd_T130 l0 x20_2).f0))) (fun _ hk => hk.2) (.int .i64 ((rd_T130 l0 x20_2).f1))) (fun _ hk => trivial)⟩, ⟨by (with_reducible repeat first|apply qN|apply qD|apply qA); refine blk_far ?_ NB273_278.out _; (with_reducible repeat first|apply qN|apply qD|apply qA); refine blk_far ?_ NB273_278.out _; (with_reducible repeat first|apply qN|apply qD|apply qA); exact BK273.out⟩, ⟨by (with_reducible repeat first|apply qN|apply qD|apply qA); refine blk_far ?_ NB274_278.out _; (with_reducible repeat first|apply qN|apply qD|apply qA); refine blk_far ?_ NB274_278.out _; (with_reducible repeat first|apply qN|apply qD|apply qA); exact BK274.out⟩, ⟨by (with_reducible repeat first|apply qN|apply qD|apply qA); refine blk_far ?_ NB276_278.out _; (with_reducible repeat first|apply qN|apply qD|apply qA); refine blk_far ?_ NB276_278.out _; (with_reducible repeat first|apply qN|apply qD|apply qA); exact BK276.out⟩, ⟨bq⟩⟩
       ·rw [if_neg c16] at H
        have c16b0 := decide_eq_false c16
        clear c16
        have H' := aM H
        clear H
        have p277 : 0 ≤ (x20_2 : Int) := odt
        have q277 : x20_2 < (l0.length : Int) := odt
        obtain ⟨ad277, e277, hx277_0, hx277_1⟩ := at_T130 HR0.out x20_2 p277 q277
        obtain rfl : ad275 = ad277 := (by injection e277)
        replace hx277_0 := (HB.out.cell (World.block_lt_of_cell? w _ hx277_0)).trans hx277_0
        replace hx277_1 := (HB.out.cell (World.block_lt_of_cell? w _ hx277_1)).trans hx277_1
        replace p277 := eq_true p277
        replace q277 := eq_true q277
        go_wp2_with (first | ((with_reducible refine gate_dst (N := 8) rfl ?_); refine bE 8 130 #[.int .i64 0, .int .i64 0] ?_; intro gb278 hg w27 hbox hb; have _ := aM (Kd.R_below (rQ HO_275001) hb); have _ := bK BK273 hb; have _ := bK BK274 hb; have _ := bK BK276 hb; have _ := bB hb; have _ := aM (hbox); have _ := aM ((gS hg)); have _ := aM ((gS hg)); have _ := aM (nL hg BK273); have _ := aM (nG hg BK273); have _ := aM (nL hg BK274); have _ := aM (nG hg BK274); have _ := aM (nL hg BK276); have _ := aM (nG hg BK276); clear HO_275001 BK273 BK274 BK276 HB; rename_i HO_275001 BK273 BK274 BK276 HB BK278 GW278 GE278 NB273_278 NB278_273 NB274_278 NB278_274 NB276_278 NB278_276; clear hb hbox hg; have hnb28 := NB278_273.out; have hnc28 := NB273_278.out; have hnb29 := NB278_274.out; have hnc29 := NB274_278.out; have hnb30 := NB278_276.out; have hnc30 := NB276_278.out; have hcz31_0 := zc20 BK278; have hcz31_1 := zc21 BK278; have hfz31_0 := blk_frozen BK278.out 0; have hfz31_1 := blk_frozen BK278.out 1; have hnb32 := NB276_273.out; have hnc32 := NB273_276.out; have hnb33 := NB276_274.out; have hnc33 := NB274_276.out; have hcz34_0 := zc20 BK276; have hcz34_1 := zc21 BK276; have hfz34_0 := blk_frozen BK276.out 0; have hfz34_1 := blk_frozen BK276.out 1))
        go_roundg k2
        case measure => have := HK1.out; have := HK2.out; omega
        case rel => exact ⟨(x6_2), (wrap64 (x20_2 + 1)), eR, eR, H', ⟨by have := HK1.out; have := HK2.out; omega⟩, ⟨by (with_reducible repeat first|apply rA|apply rN|apply rD); exact Kd.R_mono (Kd.R_far (p := ⟨gb278, 1, none⟩) (Kd.R_far (p := ⟨gb278, 0, none⟩) (Kd.R_types HO_275001.out BK278.out (by decide)) (fun _ hk => hk.2) (.int .i64 ((rd_T130 l0 x20_2).f0))) (fun _ hk => hk.2) (.int .i64 ((rd_T130 l0 x20_2).f1))) (fun _ hk => trivial)⟩, ⟨by (with_reducible repeat first|apply qN|apply qD|apply qA); refine blk_far ?_ NB273_278.out _; (with_reducible repeat first|apply qN|apply qD|apply qA); refine blk_far ?_ NB273_278.out _; (with_reducible repeat first|apply qN|apply qD|apply qA); exact BK273.out⟩, ⟨by (with_reducible repeat first|apply qN|apply qD|apply qA); refine blk_far ?_ NB274_278.out _; (with_reducible repeat first|apply qN|apply qD|apply qA); refine blk_far ?_ NB274_278.out _; (with_reducible repeat first|apply qN|apply qD|apply qA); exact BK274.out⟩, ⟨by (with_reducible repeat first|apply qN|apply qD|apply qA); refine blk_far ?_ NB276_278.out _; (with_reducible repeat first|apply qN|apply qD|apply qA); refine blk_far ?_ NB276_278.out _; (with_reducible repeat first|apply qN|apply qD|apply qA); exact BK276.out⟩, ⟨bq⟩⟩
      ·rw [if_neg c13] at H
       have c13b0 := decide_eq_false c13
       clear c13
       replace H := iS H
       obtain ⟨c35, H⟩ := H
       have LMc35 := aM c35
       clear c35
       obtain ⟨y279, hy279⟩ := nE ((x275001_1 ++ [x6_2]) : List Int)
       try rw [← hy279] at H
       try with_reducible replace H := (Option.bind_some _ _).symm.trans H
       try dsimp only at H
       have Ny279 := aM hy279
       clear hy279
       have H' := aM H
       clear H
       have hnb36 := NB274_273.out
       have hnc36 := NB273_274.out
       have hnb37 := NB274_276.out
       have hnc37 := NB276_274.out
       have hcz38_0 := zc20 BK274
       have hcz38_1 := zc21 BK274
       have hfz38_0 := blk_frozen BK274.out 0
       have hfz38_1 := blk_frozen BK274.out 1
       go_wp2_with (first | ((with_reducible refine gate_builtin (b := .append) (xs := #[.tmp 36, .tmp 38]) rfl ?_); at_builtin; refine Kd.R_append (Kd.int .i64) (w0 := w) w.heap.size rfl (.tmp 36) (.tmp 38) 24 3 (.int .i64 0) 8 rfl Tryz.underlying24 info3 rfl (by decide) (by omega) u275001 x275001_1 x6_2 [.int .i64 x6_2] (fun _ => True) (fun _ => False) rfl rfl ?aP (fun _ hk => hk.elim) ?aF ?aO ?aB ?aS ?aL ?_; (case aP => exact rfl); (case aB => exact bq); (case aF => exact (fun _ _ => trivial)); (case aO => exact (rQ HO_275001)); (case aS => exact (below_size bq)); (case aL => have := LMc35.out; omega); intro v280 w39 ho hb hg hat; rw [← Ny279.out] at ho; have _ := aM (blk_grown (g := gb273) (o := .cells #[.int .i64 0, .slice none 0 0] 26 (0, 0)) (qQ BK273) hg (Kd.R_ne HO_275001.out BK273.out (by decide))); have _ := aM (blk_grown (g := gb274) (o := .cells #[.int .i64 (l0.length : Int), u275001] 26 (0, 0)) (qQ BK274) hg (Kd.R_ne HO_275001.out BK274.out (by decide))); have _ := aM (blk_grown (g := gb276) (o := .cells #[.int .i64 ((rd_T130 l0 x14_1).f0), .int .i64 ((rd_T130 l0 x14_1).f1)] 130 (0, 0)) (qQ BK276) hg (Kd.R_ne HO_275001.out BK276.out (by decide))); have _ := aM (hb); have _ := aM (ho); clear BK273 BK274 BK276 HB HO_275001; rename_i BK273 BK274 BK276 HB HO281; clear ho hb hg hat; obtain ⟨Ao40, co40, eo40⟩ := Kd.R_slice HO281.out; subst eo40; have hcz41_0 := zc20 BK274; have hcz41_1 := zc21 BK274; have hfz41_0 := blk_frozen BK274.out 0; have hfz41_1 := blk_frozen BK274.out 1))
       go_roundg k2
       case measure => have := HK1.out; have := HK2.out; omega
       case rel => exact ⟨(wrap64 (x14_1 + 1)), (y279), (.slice Ao40 y279.length co40), eR, H', ⟨by have := HK1.out; have := HK2.out; omega⟩, ⟨by (with_reducible repeat first|apply rA|apply rN|apply rD); exact Kd.R_mono (Kd.R_far (p := ⟨gb274, 1, none⟩) (Kd.R_types HO281.out BK274.out (by decide)) (fun _ hk => hk.2) (.slice Ao40 y279.length co40)) (fun _ hk => trivial)⟩, ⟨by (with_reducible repeat first|apply qN|apply qD|apply qA); refine blk_far ?_ NB273_274.out _; (with_reducible repeat first|apply qN|apply qD|apply qA); exact BK273.out⟩, ⟨by (with_reducible repeat first|apply qN|apply qD|apply qA); refine blk_put (cs := #[.int .i64 (l0.length : Int), u275001]) ?_ 1 _ rfl; (with_reducible repeat first|apply qN|apply qD|apply qA); exact BK274.out⟩, ⟨bq⟩⟩
   ·rw [if_neg c6] at H
    have c6b0 := decide_eq_false c6
    clear c6
    simp only [Option.some.injEq, Prod.mk.injEq] at H
    obtain ⟨rfl, rfl⟩ := H
    have hnb42 := NB274_273.out
    have hnc42 := NB273_274.out
    have hcz43_0 := zc20 BK274
    have hcz43_1 := zc21 BK274
    have hfz43_0 := blk_frozen BK274.out 0
    have hfz43_1 := blk_frozen BK274.out 1
    have hcz44_0 := zc20 BK273
    have hcz44_1 := zc21 BK273
    have hfz44_0 := blk_frozen BK273.out 0
    have hfz44_1 := blk_frozen BK273.out 1
    obtain ⟨Ao45, co45, eo45⟩ := Kd.R_slice HO_275001.out
    subst eo45
    go_wp2
    refine bodyPost_ret (results_cell_row rfl _ _ gb273 26 #[.int .i64 (l0.length : Int), .slice Ao45 x275001_1.length co45] (0, 0) _ rfl (by (with_reducible repeat first|apply qN|apply qD|apply qA); refine blk_put (cs := #[.int .i64 (l0.length : Int), .slice none 0 0]) ?_ 1 _ rfl; (with_reducible repeat first|apply qN|apply qD|apply qA); refine blk_put (cs := #[.int .i64 0, .slice none 0 0]) ?_ 0 _ rfl; (with_reducible repeat first|apply qN|apply qD|apply qA); exact BK273.out) Tryz.underlying26 rfl (by kernel_rfl)) rfl ?_
    exact ⟨_, eE, by (with_reducible repeat first|apply rA|apply rN|apply rD); exact Kd.R_mono (Kd.R_far (p := ⟨gb273, 1, none⟩) (Kd.R_far (p := ⟨gb273, 0, none⟩) (Kd.R_types HO_275001.out BK273.out (by decide)) (fun _ hk => hk.2) (.int .i64 (l0.length : Int))) (fun _ hk => hk.2) (.slice Ao45 x275001_1.length co45)) (fun _ hk => trivial), bq⟩
def Y36.j0 : Nat → Int → List (S130) → Bool → List Int → Int → Int → Option (Int × List Int × Int × Int)
 | 0, _, _, _, _, _, _ => none
 | k + 1, x1, x5, x15, x1000, x1001, x1002 => if x15 = true then ((Y14.f k x5).bind fun bt292 => (some (bt292.1, bt292.2, x1001, x1002))) else ((Y37.f k x1000 x1001 x1002 x1).bind fun bt296 => (some (bt296.1, bt296.2.1, bt296.2.2.1, bt296.2.2.2)))
def Y36.f (k : Nat) (s0_0 : List Int) (s0_1 : Int) (s0_2 : Int) (a1 : Int) : Option (Int × List Int × Int × Int) := (Y18.f k s0_0 s0_1 s0_2 a1).bind fun bt283 => ((Y34.f k bt283.1).bind fun t288 => (if t288 = true then ((Y38.f s0_0 bt283.2.1 bt283.2.2 4).bind fun bt289 => (Y36.j0 k a1 bt283.1 (!bt289.1) s0_0 bt289.2.1 bt289.2.2)) else (Y36.j0 k a1 bt283.1 false s0_0 bt283.2.1 bt283.2.2)))
theorem Y36.calls (k : Nat) (g : Nat) (s0_0 : List Int) (s0_1 : Int) (s0_2 : Int) (a1 : Int) (r1 : Int) (r2 : List Int) (r3 : Int) (r4 : Int) (w0 w : World) (hI : IsS70 w0 w g s0_0 s0_1 s0_2) (hB : Below w0.heap.size w0 w) (h : Y36.f k s0_0 s0_1 s0_2 a1 = some (r1, r2, r3, r4)) :
  Calls Tryz.prog 63 #[.pointer (some ⟨g, 0, none⟩), .int .i64 a1] w fun e w' => ∃ v1_ : Value, e = .returned (.agg #[.int .i64 r1, v1_]) ∧ Kd.R (Kd.int .i64) 3 w' w.heap.size (fun _ => True) v1_ r2 ∧ IsS70 w0 w' g s0_0 r3 r4 ∧ Below w0.heap.size w0 w' ∧ KeepBut w w' g none := by
 have hu26 := Tryz.underlying26
 have HI0 := aM hI
 have HK := aM (KeepBut.refl w g none)
 have HL := aM hB.size
 clear hI
 have HW0 := aM hB.size
 have HB := aM hB
 clear hB
 unfold Y36.f at h
 have H := h
 clear h
 replace H := bS H
 obtain ⟨⟨t283, t286, t287⟩, A3, H⟩ := H
 try dsimp only at H
 have HC4 := aM H
 clear H
 go_enter Tryz.func63, Tryz.ntmps63
 go_upto_region 2 with (first | ((with_reducible refine gate_dst (N := 4) rfl ?_); refine bE 4 26 #[.int .i64 0, .slice none 0 0] ?_; intro gb282 hg w5 hbox hb; have _ := aM (IsS70.below iI hb); have _ := aM (KeepBut.trans (kI (w := w)) (KeepBut.of_below hb g none) (.inl rfl)); have _ := aM (below_step (bI (w0 := w0)) hb); have _ := aM (hbox); have _ := aM ((by rw [hg]; exact (keep_size (w := w) (g := g) (row := none) kI) : w.heap.size ≤ gb282)); have _ := aM ((Nat.le_trans HW0.out (by rw [hg]; exact (keep_size (w := w) (g := g) (row := none) kI) : w.heap.size ≤ gb282) : w0.heap.size ≤ gb282)); have _ := aM ((by rw [hg]; exact Nat.ne_of_lt (IsS70.lt (show IsS70 w0 _ g s0_0 s0_1 s0_2 from iI)) : g ≠ gb282)); have _ := aM ((by rw [hg]; exact Nat.ne_of_gt (IsS70.lt (show IsS70 w0 _ g s0_0 s0_1 s0_2 from iI)) : gb282 ≠ g)); clear HI0 HK HB; rename_i HI0 HK HB BK282 GW282 GE282 NB0_282 NB282_0; clear hb hbox hg) | ((with_reducible refine gate_callee (f := 142) rfl ?_); refine gL (some 8) Tryz.func142 #[.pointer (some ⟨g, 0, none⟩), .int .i64 a1] ?_; (with_reducible refine (Y18.calls k g s0_0 s0_1 s0_2 a1 t283 t286 t287 w0 _ ?side1 ?side2 A3.out).mono ?_); (case side1 => exact iI); (case side2 => exact bI); rintro e w6 ⟨v284, rfl, ho0, hi, hb, hk⟩; refine ⟨_, rfl, ?_⟩; have _ := aM (KeepBut.blk hk (g' := gb282) (o := .cells #[.int .i64 0, .slice none 0 0] 26 (0, 0)) (qQ BK282) NB282_0.out (by simp)); have _ := aM (Kd.R_lower ho0 (keep_size (w := w) (g := g) (row := none) kI)); have _ := aM (KeepBut.trans (kI (w := w)) hk (.inl rfl)); have _ := aM (hb); have _ := aM (hi); clear BK282 HK HB HI0; rename_i BK282 HO285 HK HB HI0; (try clear hb); (try clear hk); (try clear hi); (try clear ho0)))
 (try simp only [Act.put, List.setIfInBounds_toArray, List.set_cons_zero, List.set_cons_succ])
 go_cut [15] (fun v15 wc => ∃ (kq : Nat) (x15_3 : Bool) (x1001_3 : Int) (x1002_3 : Int), v15 = .bool x15_3 ∧ Aside0 (Y36.j0 kq a1 t283 x15_3 s0_0 x1001_3 x1002_3 = some (r1, r2, r3, r4)) ∧ Aside0 (kq ≤ k) ∧ Aside0 (Kd.R k130 130 wc w.heap.size (fun _ => True) v284 t283) ∧ Aside0 (wc.heap[gb282]? = some (.cells #[.int .i64 0, (.slice none 0 0)] 26 (0, 0))) ∧ Aside0 (IsS70 w0 wc g s0_0 x1001_3 x1002_3) ∧ Aside0 (KeepBut w wc g none) ∧ Aside0 (Below w0.heap.size w0 wc))
 case first =>
  have H := HC4.out
  clear HC4
  replace H := bS H
  obtain ⟨t288, A7, H⟩ := H
  try dsimp only at H
  by_cases c8 : t288 = true
  ·subst c8
   have H1 : ((Y38.f s0_0 t286 t287 4).bind fun bt289 => (Y36.j0 k a1 t283 (!bt289.1) s0_0 bt289.2.1 bt289.2.2)) = some (r1, r2, r3, r4) := by rw [if_pos rfl] at H; exact H
   clear H
   have H := H1
   clear H1
   replace H := bS H
   obtain ⟨⟨t289, t290, t291⟩, A9, H⟩ := H
   try dsimp only at H
   have H' := aM H
   clear H
   obtain ⟨Ao10, co10, eo10⟩ := Kd.R_slice HO285.out
   subst eo10
   go_wp2_with (first | ((with_reducible refine gate_callee (f := 143) rfl ?_); refine gL (some 10) Tryz.func143 #[.slice Ao10 t283.length co10] ?_; (with_reducible refine (Y34.calls k _ _ t283 true _ (cQ ((Kd.R_reads' HO285.out).2.2)) ((Kd.R_reads' HO285.out).2.1) A7.out).mono ?_); rintro e w11 ⟨rfl, hb⟩; refine ⟨_, rfl, ?_⟩; have _ := aM (Kd.R_below (rQ HO285) hb); have _ := aM (IsS70.below iI hb); have _ := bK BK282 hb; have _ := aM (KeepBut.trans (kI (w := w)) (KeepBut.of_below hb g none) (.inl rfl)); have _ := aM (below_step (bI (w0 := w0)) hb); clear HO285 HI0 BK282 HK HB; rename_i HO285 HI0 BK282 HK HB; (try clear hb)) | (go_at_call 65; (with_reducible refine (Y38.calls g s0_0 t286 t287 4 t289 t290 t291 w0 _ ?side1 ?side2 A9.out).mono ?_); (case side1 => exact iI); (case side2 => exact bI); rintro e w12 ⟨rfl, hi, hb, hk⟩; have _ := aM (KeepBut.blk hk (g' := gb282) (o := .cells #[.int .i64 0, .slice none 0 0] 26 (0, 0)) (qQ BK282) NB282_0.out (by simp)); have _ := aM (Kd.R_mono (Kd.R_keep (IsS70.apart (show IsS70 w0 _ g s0_0 t286 t287 from iI) (rQ HO285) (by decide)) hk (fun _ h => h.2)) (fun _ h => h.1)); have _ := aM (KeepBut.trans (kI (w := w)) hk (.inl rfl)); have _ := aM (hb); have _ := aM (hi); clear BK282 HO285 HK HB HI0; rename_i BK282 HO285 HK HB HI0; (try clear hb); (try clear hk); (try clear hi)))
   go_meet
   case rel => exact ⟨_, (!t289), (t290), (t291), eR, H', ⟨by first | omega | exact Nat.le_refl _⟩, ⟨rQ HO285⟩, ⟨qQ BK282⟩, ⟨iI⟩, ⟨kI⟩, ⟨bI⟩⟩
  ·replace c8 := Bool.eq_false_iff.mpr c8
   subst c8
   have H1 : (Y36.j0 k a1 t283 false s0_0 t286 t287) = some (r1, r2, r3, r4) := by rw [if_neg (show ¬ (false = true) by decide)] at H; exact H
   clear H
   have H := H1
   clear H1
   have H' := aM H
   clear H
   obtain ⟨Ao13, co13, eo13⟩ := Kd.R_slice HO285.out
   subst eo13
   go_wp2_with (first | ((with_reducible refine gate_callee (f := 143) rfl ?_); refine gL (some 10) Tryz.func143 #[.slice Ao13 t283.length co13] ?_; (with_reducible refine (Y34.calls k _ _ t283 false _ (cQ ((Kd.R_reads' HO285.out).2.2)) ((Kd.R_reads' HO285.out).2.1) A7.out).mono ?_); rintro e w14 ⟨rfl, hb⟩; refine ⟨_, rfl, ?_⟩; have _ := aM (Kd.R_below (rQ HO285) hb); have _ := aM (IsS70.below iI hb); have _ := bK BK282 hb; have _ := aM (KeepBut.trans (kI (w := w)) (KeepBut.of_below hb g none) (.inl rfl)); have _ := aM (below_step (bI (w0 := w0)) hb); clear HO285 HI0 BK282 HK HB; rename_i HO285 HI0 BK282 HK HB; (try clear hb)))
   go_meet
   case rel => exact ⟨_, (false), (t286), (t287), eR, H', ⟨by first | omega | exact Nat.le_refl _⟩, ⟨rQ HO285⟩, ⟨qQ BK282⟩, ⟨iI⟩, ⟨kI⟩, ⟨bI⟩⟩
 case rest =>
  clear HC4
  try clear c8
  obtain ⟨kq, x15_3, x1001_3, x1002_3, rfl, HA, HJ3, HO_5, BK282, HI0, HK, HB⟩ := hcut
  cases kq with
  | zero => exact absurd HA.out (by simp [Y36.j0])
  | succ kj3 =>
   have H := HA.out
   clear HA
   simp only [Y36.j0] at H
   by_cases c15 : x15_3 = true
   ·subst c15
    have H1 : ((Y14.f kj3 t283).bind fun bt292 => (some (bt292.1, bt292.2, x1001_3, x1002_3))) = some (r1, r2, r3, r4) := by rw [if_pos rfl] at H; exact H
    clear H
    have H := H1
    clear H1
    replace H := bS H
    obtain ⟨⟨t292, t293⟩, A16, H⟩ := H
    try dsimp only at H
    simp only [Option.some.injEq, Prod.mk.injEq] at H
    obtain ⟨rfl, rfl, rfl, rfl⟩ := H
    obtain ⟨Ao17, co17, eo17⟩ := Kd.R_slice HO_5.out
    subst eo17
    go_wp2_with (first | ((with_reducible refine gate_callee (f := 144) rfl ?_); refine gL (some 17) Tryz.func144 #[.slice Ao17 t283.length co17] ?_; (with_reducible refine (Y14.calls kj3 _ _ t283 t292 t293 _ (cQ ((Kd.R_reads' HO_5.out).2.2)) ((Kd.R_reads' HO_5.out).2.1) A16.out).mono ?_); rintro e w18 ⟨v294, rfl, ho0, hb⟩; refine ⟨_, rfl, ?_⟩; have _ := aM (Kd.R_below (rQ HO_5) hb); have _ := aM (Kd.R_lower ho0 (keep_size (w := w) (g := g) (row := none) kI)); have _ := bK BK282 hb; have _ := aM (IsS70.below iI hb); have _ := aM (KeepBut.trans (kI (w := w)) (KeepBut.of_below hb g none) (.inl rfl)); have _ := aM (below_step (bI (w0 := w0)) hb); clear HO_5 BK282 HI0 HK HB; rename_i HO_5 HO295 BK282 HI0 HK HB; (try clear hb); (try clear ho0); have hnb19 := NB282_0.out; have hnc19 := NB0_282.out; have hcz20_0 := zc20 BK282; have hcz20_1 := zc21 BK282; have hfz20_0 := blk_frozen BK282.out 0; have hfz20_1 := blk_frozen BK282.out 1; obtain ⟨Ao21, co21, eo21⟩ := Kd.R_slice HO295.out; subst eo21))
    refine bodyPost_ret (results_cell_row rfl _ _ gb282 26 #[.int .i64 t292, .slice Ao21 t293.length co21] (0, 0) _ rfl (by (with_reducible repeat first|apply qN|apply qD|apply qA); refine blk_put (cs := #[.int .i64 t292, .slice none 0 0]) ?_ 1 _ rfl; (with_reducible repeat first|apply qN|apply qD|apply qA); refine blk_put (cs := #[.int .i64 0, .slice none 0 0]) ?_ 0 _ rfl; (with_reducible repeat first|apply qN|apply qD|apply qA); exact BK282.out) Tryz.underlying26 rfl (by kernel_rfl)) rfl ?_
    exact ⟨_, eE, by (with_reducible repeat first|apply rA|apply rN|apply rD); exact Kd.R_mono (Kd.R_far (p := ⟨gb282, 1, none⟩) (Kd.R_far (p := ⟨gb282, 0, none⟩) (Kd.R_types HO295.out BK282.out (by decide)) (fun _ hk => hk.2) (.int .i64 t292)) (fun _ hk => hk.2) (.slice Ao21 t293.length co21)) (fun _ hk => trivial), iI, bI, kI⟩
   ·replace c15 := Bool.eq_false_iff.mpr c15
    subst c15
    have H1 : ((Y37.f kj3 s0_0 x1001_3 x1002_3 a1).bind fun bt296 => (some (bt296.1, bt296.2.1, bt296.2.2.1, bt296.2.2.2))) = some (r1, r2, r3, r4) := by rw [if_neg (show ¬ (false = true) by decide)] at H; exact H
    clear H
    have H := H1
    clear H1
    replace H := bS H
    obtain ⟨⟨t296, t297, t300, t301⟩, A22, H⟩ := H
    try dsimp only at H
    simp only [Option.some.injEq, Prod.mk.injEq] at H
    obtain ⟨rfl, rfl, rfl, rfl⟩ := H
    go_wp2_with (first | ((with_reducible refine gate_callee (f := 77) rfl ?_); refine gL (some 20) Tryz.func77 #[.pointer (some ⟨g, 0, none⟩), .int .i64 a1] ?_; (with_reducible refine (Y37.calls kj3 g s0_0 x1001_3 x1002_3 a1 t296 t297 t300 t301 w0 _ ?side1 ?side2 A22.out).mono ?_); (case side1 => exact iI); (case side2 => exact bI); rintro e w23 ⟨v298, rfl, ho0, hi, hb, hk⟩; refine ⟨_, rfl, ?_⟩; have _ := aM (Kd.R_mono (Kd.R_keep (IsS70.apart (show IsS70 w0 _ g s0_0 x1001_3 x1002_3 from iI) (rQ HO_5) (by decide)) hk (fun _ h => h.2)) (fun _ h => h.1)); have _ := aM (KeepBut.blk hk (g' := gb282) (o := .cells #[.int .i64 0, .slice none 0 0] 26 (0, 0)) (qQ BK282) NB282_0.out (by simp)); have _ := aM (Kd.R_lower ho0 (keep_size (w := w) (g := g) (row := none) kI)); have _ := aM (KeepBut.trans (kI (w := w)) hk (.inl rfl)); have _ := aM (hb); have _ := aM (hi); clear HO_5 BK282 HK HB HI0; rename_i HO_5 BK282 HO299 HK HB HI0; (try clear hb); (try clear hk); (try clear hi); (try clear ho0); have hnb24 := NB282_0.out; have hnc24 := NB0_282.out; have hcz25_0 := zc20 BK282; have hcz25_1 := zc21 BK282; have hfz25_0 := blk_frozen BK282.out 0; have hfz25_1 := blk_frozen BK282.out 1; obtain ⟨Ao26, co26, eo26⟩ := Kd.R_slice HO299.out; subst eo26))
    refine bodyPost_ret (results_cell_row rfl _ _ gb282 26 #[.int .i64 t296, .slice Ao26 t297.length co26] (0, 0) _ rfl (by (with_reducible repeat first|apply qN|apply qD|apply qA); refine blk_put (cs := #[.int .i64 t296, .slice none 0 0]) ?_ 1 _ rfl; (with_reducible repeat first|apply qN|apply qD|apply qA); refine blk_put (cs := #[.int .i64 0, .slice none 0 0]) ?_ 0 _ rfl; (with_reducible repeat first|apply qN|apply qD|apply qA); exact BK282.out) Tryz.underlying26 rfl (by kernel_rfl)) rfl ?_
    exact ⟨_, eE, by (with_reducible repeat first|apply rA|apply rN|apply rD); exact Kd.R_mono (Kd.R_far (p := ⟨gb282, 1, none⟩) (Kd.R_far (p := ⟨gb282, 0, none⟩) (Kd.R_types HO299.out BK282.out (by decide)) (fun _ hk => hk.2) (.int .i64 t296)) (fun _ hk => hk.2) (.slice Ao26 t297.length co26)) (fun _ hk => trivial), iI, bI, kI⟩
def Y61.f (k : Nat) (l0 : List Int) : Option (Int × List Int) := (Y36.f k l0 0 0 8).bind fun b => some (b.1, b.2.1)
theorem Y61.calls (k : Nat) (A0 : Option Addr) (c0 : Nat) (l0 : List Int) (r1 : Int) (r2 : List Int) (w : World) (hr0 : Kd.C (Kd.int .u8) w A0 l0.length l0) (hc0 : l0.length ≤ c0) (h : Y61.f k l0 = some (r1, r2)) :
    Calls Tryz.prog 17 #[.slice A0 l0.length c0] w fun e w' => ∃ v1_ : Value, e = .returned (.agg #[.int .i64 r1, v1_]) ∧ Kd.R (Kd.int .i64) 3 w' w.heap.size (fun _ => True) v1_ r2 ∧ Below w.heap.size w w' := by
 obtain ⟨⟨q1, q2, r3, r4⟩, e1, e2⟩ := Option.bind_eq_some_iff.mp h
 obtain ⟨rfl, rfl⟩ := Prod.mk.inj (Option.some.inj e2)
 clear h e2
 have HC := aM hr0
 have E1 := aM e1
 clear hr0 e1
 have sz1 : (w.alloc (.cells #[.int .i64 0, .slice none 0 0] 26)).heap.size = w.heap.size + 1 := Live.size_alloc _ _
 go_enter Tryz.func17, Tryz.ntmps17
 go_wp2_with (fail)
 refine (Y36.calls k (w.heap.size + 1) l0 0 0 8 _ _ r3 r4 w _ ⟨A0, c0, ?c1, ?c2, ?c3⟩ ?c4 E1.out).mono ?_
 case c1 => rw [← sz1]; exact blk_new _ _
 case c2 => exact Nat.le_succ _
 case c3 => exact HC.out
 case c4 => exact below_alloc (below_alloc (Below.refl _ _) _) _
 rintro e w' ⟨v0, rfl, hr, hi, hb, hk⟩
 obtain ⟨Ao, co, rfl⟩ := Kd.R_slice hr
 have HR := aM hr
 have HB := aM hb
 have HK := aM (hk.blk (blk_alloc (blk_new w (.cells #[.int .i64 0, .slice none 0 0] 26)) _) (by omega) (by simp))
 have HZ := aM hk.1
 clear hr hi hb hk
 have k1 : w'.cell? ⟨w.heap.size, 0, none⟩ = some (.int .i64 0) := blk_cell HK.out 0
 have k2 : w'.frozen? ⟨w.heap.size, 0, none⟩ = false := blk_frozen HK.out 0
 have k3 : w'.cell? ⟨w.heap.size, 1, none⟩ = some (.slice none 0 0) := blk_cell HK.out 1
 have k4 : w'.frozen? ⟨w.heap.size, 1, none⟩ = false := blk_frozen HK.out 1
 go_wp2_with (fail)
 refine bodyPost_ret (results_cell_row rfl _ _ w.heap.size 26 #[.int .i64 q1, .slice Ao q2.length co] (0, 0) _ rfl (blk_put (cs := #[.int .i64 q1, .slice none 0 0]) (blk_put (cs := #[.int .i64 0, .slice none 0 0]) HK.out 0 _ rfl) 1 _ rfl) Tryz.underlying26 rfl (by kernel_rfl)) rfl ?_
 refine ⟨_, rfl, Kd.R_lower (Kd.R_mono (Kd.R_far (p := ⟨w.heap.size, 1, none⟩) (Kd.R_far (p := ⟨w.heap.size, 0, none⟩) (Kd.R_types HR.out HK.out (by decide)) (fun _ hk => hk.2) _) (fun _ hk => hk.2) _) (fun _ _ => trivial)) ?_, below_set (below_set HB.out (Nat.le_refl _)) (Nat.le_refl _)⟩
 rw [Live.size_alloc, sz1]; omega
def Y39.f (a0 : Int) (a1 : Int) (a2 : Int) : Option (Bool) := if a0 ≥ a1 then (some (decide (a0 ≤ a2))) else (some false)
theorem Y39.calls (a0 : Int) (a1 : Int) (a2 : Int) (r : Bool) (w : World) (h : Y39.f a0 a1 a2 = some r) :
  Calls Tryz.prog 101 #[.int .i64 a0, .int .i64 a1, .int .i64 a2] w fun e w' => e = .returned (.bool r) ∧ Drawn0 w w' := by
 have H : (if a0 ≥ a1 then (some (decide (a0 ≤ a2))) else (some false)) = some r := h
 clear h
 by_cases c4 : a0 ≥ a1
 ·rw [if_pos c4] at H
  have c4b0 := decide_eq_true c4
  clear c4
  obtain rfl := Option.some.inj H
  go_enter Tryz.func101, Tryz.ntmps101
  go_wp2
  go_ret
  exact ⟨by first | rfl | (simp; done) | (simp [*]; done), dQ⟩
 ·rw [if_neg c4] at H
  have c4b0 := decide_eq_false c4
  clear c4
  obtain rfl := Option.some.inj H
  go_enter Tryz.func101, Tryz.ntmps101
  go_wp2
  go_ret
  exact ⟨by first | rfl | (simp; done) | (simp [*]; done), dQ⟩
end Go.Proofs.YtjmmleofnjcjoaaGreatDoor.Du
