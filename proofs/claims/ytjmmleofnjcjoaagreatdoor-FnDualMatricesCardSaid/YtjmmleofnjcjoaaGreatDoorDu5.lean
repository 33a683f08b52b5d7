-- Written by hook.py (wip/), over the kit's print.py.
import Derived.Test.YtjmmleofnjcjoaaGreatDoorDu2
import Derived.Test.YtjmmleofnjcjoaaGreatDoorDuXSq
namespace Go.Proofs.YtjmmleofnjcjoaaGreatDoor.Du
open Go.RowKit Go.Proofs.YtjmmleofnjcjoaaGreatDoorW.PrintWords Go.Proofs.YtjmmleofnjcjoaaGreatDoorW.PrintLast Go.Proofs.YtjmmleofnjcjoaaGreatDoorW.PrintMore Go.Proofs.YtjmmleofnjcjoaaGreatDoor.Sq
attribute [local go_sem] max2_int min2_int max_two min_two max_three min_three max_four min_four
set_option linter.unusedVariables false
set_option linter.unusedSimpArgs false
mutual
def Y23.l0 : Nat → List Int → Int → Int → Int → List Int → Option (Int × List Int × Int × Int)
 | 0, _, _, _, _, _ => none
 | k + 1, x1000, x1001, x1002, x189000, x189001 => if (x189001.length : Int) < x189000 then (Y23.l1 k 0 0 x1000 x1001 x1002 x189000 x189001) else (some (x189000, x189001, x1001, x1002))
def Y23.l1 : Nat → Int → Int → List Int → Int → Int → Int → List Int → Option (Int × List Int × Int × Int)
 | 0, _, _, _, _, _, _, _ => none
 | k + 1, x6, x7, x1000, x1001, x1002, x189000, x189001 => if x7 < x189000 then ((Y38.f x1000 x1001 x1002 4).bind fun bt189 => (if bt189.1 = true then (if 0 ≤ x7 then (Y23.l1 k (Go.bits .or .i64 x6 (shl .i64 1 x7)) (wrap64 (x7 + 1)) x1000 bt189.2.1 bt189.2.2 x189000 x189001) else (none)) else (Y23.l1 k x6 (wrap64 (x7 + 1)) x1000 bt189.2.1 bt189.2.2 x189000 x189001))) else (if x189001.length < 17592186044416 then (Y23.l0 k x1000 x1001 x1002 x189000 (x189001 ++ [x6])) else (none))
end
def Y23.f (k : Nat) (s0_0 : List Int) (s0_1 : Int) (s0_2 : Int) (a1 : Int) : Option (Int × List Int × Int × Int) := (Y8.f s0_0 s0_1 s0_2 (wrap64 (a1 + 1))).bind fun bt185 => (Y23.l0 k s0_0 bt185.2.1 bt185.2.2 bt185.1 ([] : List Int))
set_option maxHeartbeats 8000000 in
set_option maxRecDepth 100000 in
theorem Y23.calls (k : Nat) (g : Nat) (s0_0 : List Int) (s0_1 : Int) (s0_2 : Int) (a1 : Int) (r1 : Int) (r2 : List Int) (r3 : Int) (r4 : Int) (w0 w : World) (hI : IsS70 w0 w g s0_0 s0_1 s0_2) (hB : Below w0.heap.size w0 w) (h : Y23.f k s0_0 s0_1 s0_2 a1 = some (r1, r2, r3, r4)) :
  Calls Tryz.prog 165 #[.pointer (some ⟨g, 0, none⟩), .int .i64 a1] w fun e w' => ∃ v1_ : Value, e = .returned (.agg #[.int .i64 r1, v1_]) ∧ Kd.R (Kd.int .i64) 3 w' w.heap.size (fun _ => True) v1_ r2 ∧ IsS70 w0 w' g s0_0 r3 r4 ∧ Below w0.heap.size w0 w' ∧ KeepBut w w' g none := by
 have hu26 := Tryz.underlying26
 have HI0 := aM hI
 have HK := aM (KeepBut.refl w g none)
 have HL := aM hB.size
 clear hI
 have HW0 := aM hB.size
 have HB := aM hB
 clear hB
 unfold Y23.f at h
 have H := h
 clear h
 replace H := bS H
 obtain ⟨⟨t185, t186, t187⟩, A3, H⟩ := H
 try dsimp only at H
 have H' := aM H
 clear H
 go_enter Tryz.func165, Tryz.ntmps165
 go_wp2_with (first | ((with_reducible refine gate_dst (N := 4) rfl ?_); refine bE 4 26 #[.int .i64 0, .slice none 0 0] ?_; intro gb184 hg w4 hbox hb; have _ := aM (IsS70.below iI hb); have _ := aM (KeepBut.trans (kI (w := w)) (KeepBut.of_below hb g none) (.inl rfl)); have _ := aM (below_step (bI (w0 := w0)) hb); have _ := aM (hbox); have _ := aM ((by rw [hg]; exact (keep_size (w := w) (g := g) (row := none) kI) : w.heap.size ≤ gb184)); have _ := aM ((Nat.le_trans HW0.out (by rw [hg]; exact (keep_size (w := w) (g := g) (row := none) kI) : w.heap.size ≤ gb184) : w0.heap.size ≤ gb184)); have _ := aM ((by rw [hg]; exact Nat.ne_of_lt (IsS70.lt (show IsS70 w0 _ g s0_0 s0_1 s0_2 from iI)) : g ≠ gb184)); have _ := aM ((by rw [hg]; exact Nat.ne_of_gt (IsS70.lt (show IsS70 w0 _ g s0_0 s0_1 s0_2 from iI)) : gb184 ≠ g)); clear HI0 HK HB; rename_i HI0 HK HB BK184 GW184 GE184 NB0_184 NB184_0; clear hb hbox hg) | ((with_reducible refine gate_callee (f := 107) rfl ?_); refine gL (some 11) Tryz.func107 #[.pointer (some ⟨g, 0, none⟩), .int .i64 (wrap64 (a1 + 1))] ?_; (with_reducible refine (Y8.calls g s0_0 s0_1 s0_2 (wrap64 (a1 + 1)) t185 t186 t187 w0 _ ?side1 ?side2 A3.out).mono ?_); (case side1 => exact iI); (case side2 => exact bI); rintro e w5 ⟨rfl, hi, hb, hk⟩; refine ⟨_, rfl, ?_⟩; have _ := aM (KeepBut.blk hk (g' := gb184) (o := .cells #[.int .i64 0, .slice none 0 0] 26 (0, 0)) (qQ BK184) NB184_0.out (by simp)); have _ := aM (KeepBut.trans (kI (w := w)) hk (.inl rfl)); have _ := aM (hb); have _ := aM (hi); clear BK184 HK HB HI0; rename_i BK184 HK HB HI0; (try clear hb); (try clear hk); (try clear hi)) | ((with_reducible refine gate_dst (N := 5) rfl ?_); refine bE 5 26 #[.int .i64 0, .slice none 0 0] ?_; intro gb188 hg w6 hbox hb; have _ := aM (IsS70.below iI hb); have _ := bK BK184 hb; have _ := aM (KeepBut.trans (kI (w := w)) (KeepBut.of_below hb g none) (.inl rfl)); have _ := aM (below_step (bI (w0 := w0)) hb); have _ := aM (hbox); have _ := aM ((by rw [hg]; exact (keep_size (w := w) (g := g) (row := none) kI) : w.heap.size ≤ gb188)); have _ := aM ((Nat.le_trans HW0.out (by rw [hg]; exact (keep_size (w := w) (g := g) (row := none) kI) : w.heap.size ≤ gb188) : w0.heap.size ≤ gb188)); have _ := aM (nL hg BK184); have _ := aM (nG hg BK184); have _ := aM ((by rw [hg]; exact Nat.ne_of_lt (IsS70.lt (show IsS70 w0 _ g s0_0 t186 t187 from iI)) : g ≠ gb188)); have _ := aM ((by rw [hg]; exact Nat.ne_of_gt (IsS70.lt (show IsS70 w0 _ g s0_0 t186 t187 from iI)) : gb188 ≠ g)); clear HI0 BK184 HK HB; rename_i HI0 BK184 HK HB BK188 GW188 GE188 NB184_188 NB188_184 NB0_188 NB188_0; clear hb hbox hg; have hnb7 := NB188_184.out; have hnc7 := NB184_188.out; have hnb8 := NB188_0.out; have hnc8 := NB0_188.out; have hcz9_0 := zc20 BK188; have hcz9_1 := zc21 BK188; have hfz9_0 := blk_frozen BK188.out 0; have hfz9_1 := blk_frozen BK188.out 1))
 go_loopg [] k (fun kq w' => ∃ (x1001_1 : Int) (x1002_1 : Int) (x189001_1 : List Int) (u189001 : Value), Aside0 (Y23.l0 kq s0_0 x1001_1 x1002_1 t185 x189001_1 = some (r1, r2, r3, r4)) ∧ Aside0 (kq ≤ k) ∧ Aside0 (Kd.R (Kd.int .i64) 3 w' w.heap.size (fun _ => True) u189001 x189001_1) ∧ Aside0 (w'.heap[gb184]? = some (.cells #[.int .i64 0, (.slice none 0 0)] 26 (0, 0))) ∧ Aside0 (w'.heap[gb188]? = some (.cells #[.int .i64 t185, u189001] 26 (0, 0))) ∧ Aside0 (IsS70 w0 w' g s0_0 x1001_1 x1002_1) ∧ Aside0 (KeepBut w w' g none) ∧ Aside0 (Below w0.heap.size w0 w'))
 case atStart => exact ⟨(t186), (t187), (([] : List Int)), (.slice none 0 0), H', ⟨Nat.le_refl _⟩, ⟨by first | exact Kd.R_nil _ _ _ _ _ | exact Kd.N_nil _ _ _ _ _ | exact Kd.V_nil _ _ _ _ _ | exact Kd.Q_nil _ _ _ _ _ | exact Kd.S_nil _ _ _ _ _⟩, ⟨by (with_reducible repeat first|apply qN|apply qD|apply qA); refine blk_far ?_ NB184_188.out _; (with_reducible repeat first|apply qN|apply qD|apply qA); refine blk_far ?_ NB184_188.out _; (with_reducible repeat first|apply qN|apply qD|apply qA); exact BK184.out⟩, ⟨by (with_reducible repeat first|apply qN|apply qD|apply qA); refine blk_put (cs := #[.int .i64 t185, .slice none 0 0]) ?_ 1 _ rfl; (with_reducible repeat first|apply qN|apply qD|apply qA); refine blk_put (cs := #[.int .i64 0, .slice none 0 0]) ?_ 0 _ rfl; (with_reducible repeat first|apply qN|apply qD|apply qA); exact BK188.out⟩, ⟨iI⟩, ⟨kI⟩, ⟨bI⟩⟩
 case round =>
  clear H'
  try clear hcz9_0
  try clear hcz9_1
  try clear hfz9_0
  try clear hfz9_1
  obtain ⟨x1001_1, x1002_1, x189001_1, u189001, HA, HK1, HO_189001, BK184, BK188, HI0, HK, HB⟩ := hrel
  cases gk with
  | zero => exact absurd HA.out (by simp [Y23.l0])
  | succ k1 =>
   have H := HA.out
   clear HA
   simp only [Y23.l0] at H
   by_cases c10 : (x189001_1.length : Int) < t185
   ·rw [if_pos c10] at H
    have c10b0 := decide_eq_true c10
    clear c10
    have H' := aM H
    clear H
    have hnb11 := NB188_184.out
    have hnc11 := NB184_188.out
    have hnb12 := NB188_0.out
    have hnc12 := NB0_188.out
    have hcz13_0 := zc20 BK188
    have hcz13_1 := zc21 BK188
    have hfz13_0 := blk_frozen BK188.out 0
    have hfz13_1 := blk_frozen BK188.out 1
    obtain ⟨Ao14, co14, eo14⟩ := Kd.R_slice HO_189001.out
    subst eo14
    go_wp2
    go_loopg [6, 7] k1 (fun kq v6 v7 w' => ∃ (x6_2 : Int) (x7_2 : Int) (x1001_2 : Int) (x1002_2 : Int), v6 = .int .i64 x6_2 ∧ v7 = .int .i64 x7_2 ∧ Aside0 (Y23.l1 kq x6_2 x7_2 s0_0 x1001_2 x1002_2 t185 x189001_1 = some (r1, r2, r3, r4)) ∧ Aside0 (kq ≤ k1) ∧ Aside0 (Kd.R (Kd.int .i64) 3 w' w.heap.size (fun _ => True) (.slice Ao14 x189001_1.length co14) x189001_1) ∧ Aside0 (w'.heap[gb184]? = some (.cells #[.int .i64 0, (.slice none 0 0)] 26 (0, 0))) ∧ Aside0 (w'.heap[gb188]? = some (.cells #[.int .i64 t185, (.slice Ao14 x189001_1.length co14)] 26 (0, 0))) ∧ Aside0 (IsS70 w0 w' g s0_0 x1001_2 x1002_2) ∧ Aside0 (KeepBut w w' g none) ∧ Aside0 (Below w0.heap.size w0 w'))
    case atStart => exact ⟨(0), (0), (x1001_1), (x1002_1), eR, eR, H', ⟨Nat.le_refl _⟩, ⟨rQ HO_189001⟩, ⟨qQ BK184⟩, ⟨qQ BK188⟩, ⟨iI⟩, ⟨kI⟩, ⟨bI⟩⟩
    case round =>
     clear H'
     try clear c10
     try clear c10b0
     try clear hcz13_0
     try clear hcz13_1
     try clear hcz9_0
     try clear hcz9_1
     try clear hfz13_0
     try clear hfz13_1
     try clear hfz9_0
     try clear hfz9_1
     obtain ⟨x6_2, x7_2, x1001_2, x1002_2, rfl, rfl, HA, HK2, HO_189001, BK184, BK188, HI0, HK, HB⟩ := hrel
     cases gk with
     | zero => exact absurd HA.out (by simp [Y23.l1])
     | succ k2 =>
      have H := HA.out
      clear HA
      simp only [Y23.l1] at H
      by_cases c15 : x7_2 < t185
      ·rw [if_pos c15] at H
       have c15b0 := decide_eq_true c15
       clear c15
       replace H := bS H
       obtain ⟨⟨t189, t190, t191⟩, A16, H⟩ := H
       try dsimp only at H
       by_cases c17 : t189 = true
       ·subst c17
        have H1 : (if 0 ≤ x7_2 then (Y23.l1 k2 (Go.bits .or .i64 x6_2 (shl .i64 1 x7_2)) (wrap64 (x7_2 + 1)) s0_0 t190 t191 t185 x189001_1) else (none)) = some (r1, r2, r3, r4) := by rw [if_pos rfl] at H; exact H
        clear H
        have H := H1
        clear H1
        replace H := iS H
        obtain ⟨c18, H⟩ := H
        have c18b0 := eq_true c18
        have c18b1 := decide_eq_true c18
        clear c18
        obtain ⟨ji19, hji19⟩ : ∃ j_ : Int, (shl .i64 1 x7_2) = j_ := ⟨_, rfl⟩
        replace H : (Y23.l1 k2 (Go.bits .or .i64 x6_2 (ji19)) (wrap64 (x7_2 + 1)) s0_0 t190 t191 t185 x189001_1) = some (r1, r2, r3, r4) := by first | (rw [hji19] at H; exact H) | (simp only [hji19] at H ⊢; exact H)
        (try rw [hji19] at A16)
        have hji19_ : (IntKind.i64.wrap (1 * 2 ^ min x7_2.toNat 64)) = ji19 := hji19
        have hji19z : x7_2 ≤ 64 → (IntKind.i64.wrap (1 * 2 ^ x7_2.toNat)) = ji19 := shl_small hji19
        have hji19u : (IntKind.i64.wrap (2 ^ min x7_2.toNat 64)) = ji19 := by have h_ := hji19_; rw [Int.one_mul] at h_; exact h_
        have hji19v : x7_2 ≤ 64 → (IntKind.i64.wrap (2 ^ x7_2.toNat)) = ji19 := fun hle_ => by have h_ := hji19z hle_; rw [Int.one_mul] at h_; exact h_
        have hji19y : (wrap64 (1 * 2 ^ min x7_2.toNat 64)) = ji19 := (i64_w _).symm.trans hji19_
        have hji19x : x7_2 ≤ 64 → (wrap64 (1 * 2 ^ x7_2.toNat)) = ji19 := fun h_ => (i64_w _).symm.trans (hji19z h_)
        have H' := aM H
        clear H
        have hnb20 := NB188_184.out
        have hnc20 := NB184_188.out
        have hnb21 := NB188_0.out
        have hnc21 := NB0_188.out
        have hcz22_0 := zc20 BK188
        have hcz22_1 := zc21 BK188
        have hfz22_0 := blk_frozen BK188.out 0
        have hfz22_1 := blk_frozen BK188.out 1
        go_wp2_with (first | ((with_reducible refine gate_callee (f := 65) rfl ?_); refine gL (some 26) Tryz.func65 #[.pointer (some ⟨g, 0, none⟩), .int .i64 4] ?_; (with_reducible refine (Y38.calls g s0_0 x1001_2 x1002_2 4 true t190 t191 w0 _ ?side1 ?side2 A16.out).mono ?_); (case side1 => exact iI); (case side2 => exact bI); rintro e w23 ⟨rfl, hi, hb, hk⟩; refine ⟨_, rfl, ?_⟩; have _ := aM (Kd.R_mono (Kd.R_keep (IsS70.apart (show IsS70 w0 _ g s0_0 x1001_2 x1002_2 from iI) (rQ HO_189001) (by decide)) hk (fun _ h => h.2)) (fun _ h => h.1)); have _ := aM (KeepBut.blk hk (g' := gb184) (o := .cells #[.int .i64 0, .slice none 0 0] 26 (0, 0)) (qQ BK184) NB184_0.out (by simp)); have _ := aM (KeepBut.blk hk (g' := gb188) (o := .cells #[.int .i64 t185, .slice Ao14 x189001_1.length co14] 26 (0, 0)) (qQ BK188) NB188_0.out (by simp)); have _ := aM (KeepBut.trans (kI (w := w)) hk (.inl rfl)); have _ := aM (hb); have _ := aM (hi); clear HO_189001 BK184 BK188 HK HB HI0; rename_i HO_189001 BK184 BK188 HK HB HI0; (try clear hb); (try clear hk); (try clear hi)))
        go_roundg k2
        case measure => have := HK1.out; have := HK2.out; omega
        case rel => exact ⟨(Go.bits .or .i64 x6_2 (ji19)), (wrap64 (x7_2 + 1)), (t190), (t191), (by first | rfl | (simp; done) | (simp only [← hji19] <;> (first | rfl | simp)) | (simp [*]; done)), eR, H', ⟨by have := HK1.out; have := HK2.out; omega⟩, ⟨rQ HO_189001⟩, ⟨qQ BK184⟩, ⟨qQ BK188⟩, ⟨iI⟩, ⟨kI⟩, ⟨bI⟩⟩
       ·replace c17 := Bool.eq_false_iff.mpr c17
        subst c17
        have H1 : (Y23.l1 k2 x6_2 (wrap64 (x7_2 + 1)) s0_0 t190 t191 t185 x189001_1) = some (r1, r2, r3, r4) := by rw [if_neg (show ¬ (false = true) by decide)] at H; exact H
        clear H
        have H := H1
        clear H1
        have H' := aM H
        clear H
        have hnb24 := NB188_184.out
        have hnc24 := NB184_188.out
        have hnb25 := NB188_0.out
        have hnc25 := NB0_188.out
        have hcz26_0 := zc20 BK188
        have hcz26_1 := zc21 BK188
        have hfz26_0 := blk_frozen BK188.out 0
        have hfz26_1 := blk_frozen BK188.out 1
        go_wp2_with (first | ((with_reducible refine gate_callee (f := 65) rfl ?_); refine gL (some 26) Tryz.func65 #[.pointer (some ⟨g, 0, none⟩), .int .i64 4] ?_; (with_reducible refine (Y38.calls g s0_0 x1001_2 x1002_2 4 false t190 t191 w0 _ ?side1 ?side2 A16.out).mono ?_); (case side1 => exact iI); (case side2 => exact bI); rintro e w27 ⟨rfl, hi, hb, hk⟩; refine ⟨_, rfl, ?_⟩; have _ := aM (Kd.R_mono (Kd.R_keep (IsS70.apart (show IsS70 w0 _ g s0_0 x1001_2 x1002_2 from iI) (rQ HO_189001) (by decide)) hk (fun _ h => h.2)) (fun _ h => h.1)); have _ := aM (KeepBut.blk hk (g' := gb184) (o := .cells #[.int .i64 0, .slice none 0 0] 26 (0, 0)) (qQ BK184) NB184_0.out (by simp)); have _ := aM (KeepBut.blk hk (g' := gb188) (o := .cells #[.int .i64 t185, .slice Ao14 x189001_1.length co14] 26 (0, 0)) (qQ BK188) NB188_0.out (by simp)); have _ := aM (KeepBut.trans (kI (w := w)) hk (.inl rfl)); have _ := aM (hb); have _ := aM (hi); clear HO_189001 BK184 BK188 HK HB HI0; rename_i HO_189001 BK184 BK188 HK HB HI0; (try clear hb); (try clear hk); (try clear hi)))
        go_roundg k2
        case measure => have := HK1.out; have := HK2.out; omega
        case rel => exact ⟨(x6_2), (wrap64 (x7_2 + 1)), (t190), (t191), eR, eR, H', ⟨by have := HK1.out; have := HK2.out; omega⟩, ⟨rQ HO_189001⟩, ⟨qQ BK184⟩, ⟨qQ BK188⟩, ⟨iI⟩, ⟨kI⟩, ⟨bI⟩⟩
      ·rw [if_neg c15] at H
       have c15b0 := decide_eq_false c15
       clear c15
       replace H := iS H
       obtain ⟨c28, H⟩ := H
       have LMc28 := aM c28
       clear c28
       obtain ⟨y192, hy192⟩ := nE ((x189001_1 ++ [x6_2]) : List Int)
       try rw [← hy192] at H
       try with_reducible replace H := (Option.bind_some _ _).symm.trans H
       try dsimp only at H
       have Ny192 := aM hy192
       clear hy192
       have H' := aM H
       clear H
       have hnb29 := NB188_184.out
       have hnc29 := NB184_188.out
       have hnb30 := NB188_0.out
       have hnc30 := NB0_188.out
       have hcz31_0 := zc20 BK188
       have hcz31_1 := zc21 BK188
       have hfz31_0 := blk_frozen BK188.out 0
       have hfz31_1 := blk_frozen BK188.out 1
       go_wp2_with (first | ((with_reducible refine gate_builtin (b := .append) (xs := #[.tmp 32, .tmp 34]) rfl ?_); at_builtin; refine Kd.R_append (Kd.int .i64) w.heap.size rfl (.tmp 32) (.tmp 34) 24 3 (.int .i64 0) 8 rfl Tryz.underlying24 info3 rfl (by decide) (by omega) (.slice Ao14 x189001_1.length co14) x189001_1 x6_2 [.int .i64 x6_2] (fun _ => True) (fun _ => False) rfl rfl ?aP (fun _ hk => hk.elim) ?aF ?aO (Below.refl _ _) ?aS ?aL ?_; (case aP => exact rfl); (case aF => exact (fun _ _ => trivial)); (case aO => exact (rQ HO_189001)); (case aS => exact (keep_size (w := w) (g := g) (row := none) kI)); (case aL => have := LMc28.out; omega); intro v193 w32 ho hb hg hat; rw [← Ny192.out] at ho; have _ := aM (blk_grown (g := gb184) (o := .cells #[.int .i64 0, .slice none 0 0] 26 (0, 0)) (qQ BK184) hg (Kd.R_ne HO_189001.out BK184.out (by decide))); have _ := aM (blk_grown (g := gb188) (o := .cells #[.int .i64 t185, .slice Ao14 x189001_1.length co14] 26 (0, 0)) (qQ BK188) hg (Kd.R_ne HO_189001.out BK188.out (by decide))); have _ := aM (IsS70.grown iI hg (IsS70.own_ne HI0.out HO_189001.out (by decide))); have _ := aM (below_weaken bI HL.out hb); have _ := aM (KeepBut.trans (kI (w := w)) (KeepBut.of_grown hg g) (Kd.R_base2 HO_189001.out)); have _ := aM (ho); clear BK184 BK188 HI0 HB HK HO_189001; rename_i BK184 BK188 HI0 HB HK HO194; clear ho hb hg hat; obtain ⟨Ao33, co33, eo33⟩ := Kd.R_slice HO194.out; subst eo33; have hcz34_0 := zc20 BK188; have hcz34_1 := zc21 BK188; have hfz34_0 := blk_frozen BK188.out 0; have hfz34_1 := blk_frozen BK188.out 1))
       go_roundg k2
       case measure => have := HK1.out; have := HK2.out; omega
       case rel => exact ⟨(x1001_2), (x1002_2), (y192), (.slice Ao33 y192.length co33), H', ⟨by have := HK1.out; have := HK2.out; omega⟩, ⟨by (with_reducible repeat first|apply rA|apply rN|apply rD); exact Kd.R_mono (Kd.R_far (p := ⟨gb188, 1, none⟩) (Kd.R_types HO194.out BK188.out (by decide)) (fun _ hk => hk.2) (.slice Ao33 y192.length co33)) (fun _ hk => trivial)⟩, ⟨by (with_reducible repeat first|apply qN|apply qD|apply qA); refine blk_far ?_ NB184_188.out _; (with_reducible repeat first|apply qN|apply qD|apply qA); exact BK184.out⟩, ⟨by (with_reducible repeat first|apply qN|apply qD|apply qA); refine blk_put (cs := #[.int .i64 t185, .slice Ao14 x189001_1.length co14]) ?_ 1 _ rfl; (with_reducible repeat first|apply qN|apply qD|apply qA); exact BK188.out⟩, ⟨iI⟩, ⟨kI⟩, ⟨bI⟩⟩
   ·rw [if_neg c10] at H
    have c10b0 := decide_eq_false c10
    clear c10
    simp only [Option.some.injEq, Prod.mk.injEq] at H
    obtain ⟨rfl, rfl, rfl, rfl⟩ := H
    have hnb35 := NB188_184.out
    have hnc35 := NB184_188.out
    have hnb36 := NB188_0.out
    have hnc36 := NB0_188.out
    have hcz37_0 := zc20 BK188
    have hcz37_1 := zc21 BK188
    have hfz37_0 := blk_frozen BK188.out 0
    have hfz37_1 := blk_frozen BK188.out 1
    obtain ⟨Ao38, co38, eo38⟩ := Kd.R_slice HO_189001.out
    subst eo38
    have hnb39 := NB184_0.out
    have hnc39 := NB0_184.out
    have hcz40_0 := zc20 BK184
    have hcz40_1 := zc21 BK184
    have hfz40_0 := blk_frozen BK184.out 0
    have hfz40_1 := blk_frozen BK184.out 1
    go_wp2
    refine bodyPost_ret (results_cell_row rfl _ _ gb184 26 #[.int .i64 t185, .slice Ao38 x189001_1.length co38] (0, 0) _ rfl (by (with_reducible repeat first|apply qN|apply qD|apply qA); refine blk_put (cs := #[.int .i64 t185, .slice none 0 0]) ?_ 1 _ rfl; (with_reducible repeat first|apply qN|apply qD|apply qA); refine blk_put (cs := #[.int .i64 0, .slice none 0 0]) ?_ 0 _ rfl; (with_reducible repeat first|apply qN|apply qD|apply qA); exact BK184.out) Tryz.underlying26 rfl (by kernel_rfl)) rfl ?_
    exact ⟨_, eE, by (with_reducible repeat first|apply rA|apply rN|apply rD); exact Kd.R_mono (Kd.R_far (p := ⟨gb184, 1, none⟩) (Kd.R_far (p := ⟨gb184, 0, none⟩) (Kd.R_types HO_189001.out BK184.out (by decide)) (fun _ hk => hk.2) (.int .i64 t185)) (fun _ hk => hk.2) (.slice Ao38 x189001_1.length co38)) (fun _ hk => trivial), iI, bI, kI⟩
end Go.Proofs.YtjmmleofnjcjoaaGreatDoor.Du
