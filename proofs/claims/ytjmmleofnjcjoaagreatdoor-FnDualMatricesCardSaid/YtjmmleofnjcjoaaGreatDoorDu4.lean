-- Written by hook.py (wip/), over the kit's print.py.
import Derived.Test.YtjmmleofnjcjoaaGreatDoorDu2
import Derived.Test.YtjmmleofnjcjoaaGreatDoorDu3
import Derived.Test.YtjmmleofnjcjoaaGreatDoorDuXSq
namespace Go.Proofs.YtjmmleofnjcjoaaGreatDoor.Du
open Go.RowKit Go.Proofs.YtjmmleofnjcjoaaGreatDoorW.PrintWords Go.Proofs.YtjmmleofnjcjoaaGreatDoorW.PrintLast Go.Proofs.YtjmmleofnjcjoaaGreatDoorW.PrintMore Go.Proofs.YtjmmleofnjcjoaaGreatDoor.Sq
attribute [local go_sem] max2_int min2_int max_two min_two max_three min_three max_four min_four
set_option linter.unusedVariables false
set_option linter.unusedSimpArgs false
mutual
def Y1.l0 : Nat → Int → Int → List Int → List Int → Int → List Int → Int → Int → Int → List Int → Option (Int × List Int × Int × Int)
 | 0, _, _, _, _, _, _, _, _, _, _ => none
 | k + 1, x5, x7, x8, x9, x10, x1000, x1001, x1002, x146000, x146001 => if x10 < x5 then ((Y8.f x1000 x1001 x1002 8).bind fun bt149 => (if x8.length < 17592186044416 then ((some (x8 ++ [bt149.1] : List Int)).bind fun y152 => (if x7 = 1 then ((Y8.f x1000 bt149.2.1 bt149.2.2 4).bind fun bt155 => (if x9.length < 17592186044416 then (Y1.l0 k x5 x7 y152 (x9 ++ [wrap64 (bt149.1 + bt155.1)]) (wrap64 (x10 + 1)) x1000 bt155.2.1 bt155.2.2 x146000 x146001) else (none))) else (if x9.length < 17592186044416 then (Y1.l0 k x5 x7 y152 (x9 ++ [wrap64 (bt149.1 + 2)]) (wrap64 (x10 + 1)) x1000 bt149.2.1 bt149.2.2 x146000 x146001) else (none)))) else (none))) else (Y1.l1 k x5 x7 x8 x9 0 x1000 x1001 x1002 x146000 x146001)
def Y1.l1 : Nat → Int → Int → List Int → List Int → Int → List Int → Int → Int → Int → List Int → Option (Int × List Int × Int × Int)
 | 0, _, _, _, _, _, _, _, _, _, _ => none
 | k + 1, x5, x7, x8, x9, x12, x1000, x1001, x1002, x146000, x146001 => if x12 < x5 then (Y1.l2 k x5 x7 x8 x9 x12 0 x1000 x1001 x1002 x146000 x146001) else (if x7 > 0 then (some (x146000, x146001, x1001, x1002)) else ((Y5.f k x146000 x146001).bind fun bt164 => (some (bt164.1, bt164.2.1, x1001, x1002))))
def Y1.l2 : Nat → Int → Int → List Int → List Int → Int → Int → List Int → Int → Int → Int → List Int → Option (Int × List Int × Int × Int)
 | 0, _, _, _, _, _, _, _, _, _, _, _ => none
 | k + 1, x5, x7, x8, x9, x12, x13, x1000, x1001, x1002, x146000, x146001 => if x13 < x5 then (if x7 > 0 then (if 0 ≤ x12 then (if x12 < (x9.length : Int) then (if 0 ≤ x13 then (if x13 < (x8.length : Int) then (if (rd x9 x12) < (rd x8 x13) then (if x12 < (x146001.length : Int) then (Y1.l2 k x5 x7 x8 x9 x12 (wrap64 (x13 + 1)) x1000 x1001 x1002 x146000 (x146001.set (x12 : Int).toNat (Go.bits .or .i64 (rd x146001 x12) (shl .i64 1 x13)))) else (none)) else (if x7 = 0 then (if x12 < x13 then ((Y38.f x1000 x1001 x1002 3).bind fun bt174 => (if bt174.1 = true then (if x12 < (x146001.length : Int) then (Y1.l2 k x5 x7 x8 x9 x12 (wrap64 (x13 + 1)) x1000 bt174.2.1 bt174.2.2 x146000 (x146001.set (x12 : Int).toNat (Go.bits .or .i64 (rd x146001 x12) (shl .i64 1 x13)))) else (none)) else (Y1.l2 k x5 x7 x8 x9 x12 (wrap64 (x13 + 1)) x1000 bt174.2.1 bt174.2.2 x146000 x146001))) else (Y1.l2 k x5 x7 x8 x9 x12 (wrap64 (x13 + 1)) x1000 x1001 x1002 x146000 x146001)) else (Y1.l2 k x5 x7 x8 x9 x12 (wrap64 (x13 + 1)) x1000 x1001 x1002 x146000 x146001))) else (none)) else (none)) else (none)) else (none)) else (if x7 = 0 then (if x12 < x13 then ((Y38.f x1000 x1001 x1002 3).bind fun bt179 => (if bt179.1 = true then (if 0 ≤ x12 then (if x12 < (x146001.length : Int) then (if 0 ≤ x13 then (Y1.l2 k x5 x7 x8 x9 x12 (wrap64 (x13 + 1)) x1000 bt179.2.1 bt179.2.2 x146000 (x146001.set (x12 : Int).toNat (Go.bits .or .i64 (rd x146001 x12) (shl .i64 1 x13)))) else (none)) else (none)) else (none)) else (Y1.l2 k x5 x7 x8 x9 x12 (wrap64 (x13 + 1)) x1000 bt179.2.1 bt179.2.2 x146000 x146001))) else (Y1.l2 k x5 x7 x8 x9 x12 (wrap64 (x13 + 1)) x1000 x1001 x1002 x146000 x146001)) else (Y1.l2 k x5 x7 x8 x9 x12 (wrap64 (x13 + 1)) x1000 x1001 x1002 x146000 x146001))) else (Y1.l1 k x5 x7 x8 x9 (wrap64 (x12 + 1)) x1000 x1001 x1002 x146000 x146001)
end
def Y1.f (k : Nat) (s0_0 : List Int) (s0_1 : Int) (s0_2 : Int) (a1 : Int) : Option (Int × List Int × Int × Int) := (Y8.f s0_0 s0_1 s0_2 (wrap64 (a1 + 1))).bind fun bt139 => (if 0 ≤ bt139.1 then (if (bt139.1 : Int).toNat ≤ 35184372088832 then ((Y8.f s0_0 bt139.2.1 bt139.2.2 3).bind fun bt146 => (Y1.l0 k bt139.1 bt146.1 ([] : List Int) ([] : List Int) 0 s0_0 bt146.2.1 bt146.2.2 bt139.1 (List.replicate (bt139.1 : Int).toNat 0))) else (none)) else (none))
def Y1.T19 : Bool × List (List Nat × List Nat) := (true, [([], []), ([0], [0]), ([1], [1]), ([2], [2]), ([2], [2]), ([3, 4, 2], [2, 3, 4]), ([5, 2], [2, 5]), ([2], [2]), ([2], [2]), ([7, 8, 2], [2, 7, 8]), ([9, 2], [2, 9]), ([6, 10, 2], [2, 6, 10]), ([2, 11], [2, 11]), ([12, 2], [12]), ([13], [13]), ([14, 13], [13, 14]), ([15, 13, 13], [13, 15]), ([16], [16]), ([16], [16]), ([17, 18, 16], [16, 17, 18]), ([16, 19, 13], [13, 16, 19]), ([20, 16, 13], [13, 20]), ([21], [21]), ([22, 21, 21], [21, 22]), ([21, 23, 13], [13, 21, 23]), ([13, 24], [13, 24])])
def Y1.B19 : List Nat := [0, 1, 3, 7, 7, 31, 63, 7, 7, 391, 903, 2047, 4095, 8191, 16383, 32767, 65535, 131071, 131071, 524287, 1048575, 2097151, 4194303, 8388607, 16777215, 33554431]
theorem Y1.tab19 : rtab .any (opsOf Tryz.f164 19) = Y1.T19 := by kernel_rfl
theorem Y1.bits19 : waitsOk Y1.T19.2 Y1.B19 = true := by kernel_rfl
def Y1.T20 : Bool × List (List Nat × List Nat) := (true, [([], []), ([0], [0]), ([], []), ([1, 2], [1, 2]), ([3], [3]), ([], []), ([5], [5]), ([4, 6], [4, 6]), ([1, 2, 0, 1, 2, 3, 4, 5, 6, 7], [1, 2]), ([8, 7, 0, 1, 2, 3, 4, 5, 6, 7], [7, 8])])
def Y1.B20 : List Nat := [0, 1, 0, 7, 15, 0, 32, 127, 255, 511]
theorem Y1.tab20 : rtab .any (opsOf Tryz.f164 20) = Y1.T20 := by kernel_rfl
theorem Y1.bits20 : waitsOk Y1.T20.2 Y1.B20 = true := by kernel_rfl
set_option maxHeartbeats 8000000 in
set_option maxRecDepth 100000 in
theorem Y1.calls (k : Nat) (g : Nat) (s0_0 : List Int) (s0_1 : Int) (s0_2 : Int) (a1 : Int) (r1 : Int) (r2 : List Int) (r3 : Int) (r4 : Int) (w0 w : World) (hI : IsS70 w0 w g s0_0 s0_1 s0_2) (hB : Below w0.heap.size w0 w) (h : Y1.f k s0_0 s0_1 s0_2 a1 = some (r1, r2, r3, r4)) :
  Calls Tryz.prog 164 #[.pointer (some ⟨g, 0, none⟩), .int .i64 a1] w fun e w' => ∃ v1_ : Value, e = .returned (.agg #[.int .i64 r1, v1_]) ∧ Kd.R (Kd.int .i64) 3 w' w.heap.size (fun _ => True) v1_ r2 ∧ IsS70 w0 w' g s0_0 r3 r4 ∧ Below w0.heap.size w0 w' ∧ KeepBut w w' g none := by
 have hu26 := Tryz.underlying26
 have HI0 := aM hI
 have HK := aM (KeepBut.refl w g none)
 have HL := aM hB.size
 clear hI
 have HW0 := aM hB.size
 have HB := aM hB
 clear hB
 unfold Y1.f at h
 have H := h
 clear h
 replace H := bS H
 obtain ⟨⟨t139, t140, t141⟩, A3, H⟩ := H
 try dsimp only at H
 replace H := iS H
 obtain ⟨c4, H⟩ := H
 have c4b0 := eq_true c4
 have c4b1 := decide_eq_true c4
 clear c4
 replace H := iS H
 obtain ⟨c5, H⟩ := H
 have c5b0 := eq_true c5
 have c5b1 := decide_eq_true c5
 clear c5
 obtain ⟨y142, hy142⟩ := nE ((List.replicate (t139 : Int).toNat 0) : List Int)
 try rw [← hy142] at H
 try with_reducible replace H := (Option.bind_some _ _).symm.trans H
 try dsimp only at H
 have Ny142 := aM hy142
 clear hy142
 replace H := bS H
 obtain ⟨⟨t146, t147, t148⟩, A6, H⟩ := H
 try dsimp only at H
 have H' := aM H
 clear H
 go_enter Tryz.func164, Tryz.ntmps164
 go_wp2_with (first | ((with_reducible refine gate_dst (N := 4) rfl ?_); refine bE 4 26 #[.int .i64 0, .slice none 0 0] ?_; intro gb138 hg w7 hbox hb; have _ := aM (IsS70.below iI hb); have _ := aM (KeepBut.trans (kI (w := w)) (KeepBut.of_below hb g none) (.inl rfl)); have _ := aM (below_step (bI (w0 := w0)) hb); have _ := aM (hbox); have _ := aM ((by rw [hg]; exact (keep_size (w := w) (g := g) (row := none) kI) : w.heap.size ≤ gb138)); have _ := aM ((Nat.le_trans HW0.out (by rw [hg]; exact (keep_size (w := w) (g := g) (row := none) kI) : w.heap.size ≤ gb138) : w0.heap.size ≤ gb138)); have _ := aM ((by rw [hg]; exact Nat.ne_of_lt (IsS70.lt (show IsS70 w0 _ g s0_0 s0_1 s0_2 from iI)) : g ≠ gb138)); have _ := aM ((by rw [hg]; exact Nat.ne_of_gt (IsS70.lt (show IsS70 w0 _ g s0_0 s0_1 s0_2 from iI)) : gb138 ≠ g)); clear HI0 HK HB; rename_i HI0 HK HB BK138 GW138 GE138 NB0_138 NB138_0; clear hb hbox hg) | ((with_reducible refine gate_callee (f := 107) rfl ?_); refine gL (some 19) Tryz.func107 #[.pointer (some ⟨g, 0, none⟩), .int .i64 (wrap64 (a1 + 1))] ?_; (with_reducible refine (Y8.calls g s0_0 s0_1 s0_2 (wrap64 (a1 + 1)) t139 t140 t141 w0 _ ?side1 ?side2 A3.out).mono ?_); (case side1 => exact iI); (case side2 => exact bI); rintro e w8 ⟨rfl, hi, hb, hk⟩; refine ⟨_, rfl, ?_⟩; have _ := aM (KeepBut.blk hk (g' := gb138) (o := .cells #[.int .i64 0, .slice none 0 0] 26 (0, 0)) (qQ BK138) NB138_0.out (by simp)); have _ := aM (KeepBut.trans (kI (w := w)) hk (.inl rfl)); have _ := aM (hb); have _ := aM (hi); clear BK138 HK HB HI0; rename_i BK138 HK HB HI0; (try clear hb); (try clear hk); (try clear hi)) | ((with_reducible refine gate_dst (N := 22) rfl ?_); refine Kd.R_make (Kd.int .i64) _ 3 rfl (N := 22) rfl 24 _ _ rfl t139 rfl rfl Tryz.underlying24 (.int .i64 0) 8 info3 rfl (by decide) (by omega) 0 (ok := fun _ => True) (okp := fun _ => True) rfl (fun _ hk => hk) trivial (odt) (Nat.le_trans (Nat.mul_le_mul_right _ (odt : t139.toNat ≤ 35184372088832)) (by omega)) (Below.refl _ _) (Nat.le_refl _) ?_; intro v143 w9 ho10 hb hg_ hnew_; clear hg_ hnew_; (first | rw [← Ny142.out] at ho10 | (simp only [Int.reduceToNat] at ho10; rw [← Ny142.out] at ho10)); have _ := aM (Kd.R_lower ho10 (keep_size (w := w) (g := g) (row := none) kI)); have _ := aM (IsS70.below iI hb); have _ := bK BK138 hb; have _ := aM (KeepBut.trans (kI (w := w)) (KeepBut.of_below hb g none) (.inl rfl)); have _ := aM (below_step (bI (w0 := w0)) hb); clear HI0 BK138 HK HB; rename_i HO144 HI0 BK138 HK HB; clear hb ho10; obtain ⟨Ao11, co11, eo11⟩ := Kd.R_slice HO144.out; subst eo11) | ((with_reducible refine gate_dst (N := 6) rfl ?_); refine bE 6 26 #[.int .i64 0, .slice none 0 0] ?_; intro gb145 hg w12 hbox hb; have _ := aM (Kd.R_below (rQ HO144) hb); have _ := aM (IsS70.below iI hb); have _ := bK BK138 hb; have _ := aM (KeepBut.trans (kI (w := w)) (KeepBut.of_below hb g none) (.inl rfl)); have _ := aM (below_step (bI (w0 := w0)) hb); have _ := aM (hbox); have _ := aM ((by rw [hg]; exact (keep_size (w := w) (g := g) (row := none) kI) : w.heap.size ≤ gb145)); have _ := aM ((Nat.le_trans HW0.out (by rw [hg]; exact (keep_size (w := w) (g := g) (row := none) kI) : w.heap.size ≤ gb145) : w0.heap.size ≤ gb145)); have _ := aM (nL hg BK138); have _ := aM (nG hg BK138); have _ := aM ((by rw [hg]; exact Nat.ne_of_lt (IsS70.lt (show IsS70 w0 _ g s0_0 t140 t141 from iI)) : g ≠ gb145)); have _ := aM ((by rw [hg]; exact Nat.ne_of_gt (IsS70.lt (show IsS70 w0 _ g s0_0 t140 t141 from iI)) : gb145 ≠ g)); clear HO144 HI0 BK138 HK HB; rename_i HO144 HI0 BK138 HK HB BK145 GW145 GE145 NB138_145 NB145_138 NB0_145 NB145_0; clear hb hbox hg; have hnb13 := NB145_138.out; have hnc13 := NB138_145.out; have hnb14 := NB145_0.out; have hnc14 := NB0_145.out; have hcz15_0 := zc20 BK145; have hcz15_1 := zc21 BK145; have hfz15_0 := blk_frozen BK145.out 0; have hfz15_1 := blk_frozen BK145.out 1) | ((with_reducible refine gate_callee (f := 107) rfl ?_); refine gL (some 25) Tryz.func107 #[.pointer (some ⟨g, 0, none⟩), .int .i64 3] ?_; (with_reducible refine (Y8.calls g s0_0 t140 t141 3 t146 t147 t148 w0 _ ?side1 ?side2 A6.out).mono ?_); (case side1 => exact iI); (case side2 => exact bI); rintro e w16 ⟨rfl, hi, hb, hk⟩; refine ⟨_, rfl, ?_⟩; have _ := aM (KeepBut.blk hk (g' := gb138) (o := .cells #[.int .i64 0, .slice none 0 0] 26 (0, 0)) (by (with_reducible repeat first|apply qN|apply qD|apply qA); refine blk_far ?_ NB138_145.out _; (with_reducible repeat first|apply qN|apply qD|apply qA); refine blk_far ?_ NB138_145.out _; (with_reducible repeat first|apply qN|apply qD|apply qA); exact BK138.out) NB138_0.out (by simp)); have _ := aM (Kd.R_mono (Kd.R_keep (IsS70.apart (show IsS70 w0 _ g s0_0 t140 t141 from iI) (by (with_reducible repeat first|apply rA|apply rN|apply rD); exact (Kd.R_mono (Kd.R_far (p := ⟨gb145, 1, none⟩) (Kd.R_far (p := ⟨gb145, 0, none⟩) (Kd.R_types HO144.out BK145.out (by decide)) (fun _ hk => hk.2) (.int .i64 t139)) (fun _ hk => hk.2) (.slice Ao11 y142.length co11)) (fun _ h_ => h_.1))) (by decide)) hk (fun _ h => h.2)) (fun _ h => h.1)); have _ := aM (KeepBut.blk hk (g' := gb145) (o := .cells #[.int .i64 t139, .slice Ao11 y142.length co11] 26 (0, 0)) (by (with_reducible repeat first|apply qN|apply qD|apply qA); refine blk_put (cs := #[.int .i64 t139, .slice none 0 0]) ?_ 1 _ rfl; (with_reducible repeat first|apply qN|apply qD|apply qA); refine blk_put (cs := #[.int .i64 0, .slice none 0 0]) ?_ 0 _ rfl; (with_reducible repeat first|apply qN|apply qD|apply qA); exact BK145.out) NB145_0.out (by simp)); have _ := aM (KeepBut.trans (kI (w := w)) hk (.inl rfl)); have _ := aM (hb); have _ := aM (hi); clear BK138 HO144 BK145 HK HB HI0; rename_i BK138 HO144 BK145 HK HB HI0; (try clear hb); (try clear hk); (try clear hi)))
 go_loopg [8, 9, 10] k (fun kq v8 v9 v10 w' => ∃ (x8_1 : List Int) (x9_1 : List Int) (x10_1 : Int) (x1001_1 : Int) (x1002_1 : Int), v10 = .int .i64 x10_1 ∧ Aside0 (Y1.l0 kq t139 t146 x8_1 x9_1 x10_1 s0_0 x1001_1 x1002_1 t139 y142 = some (r1, r2, r3, r4)) ∧ Aside0 (kq ≤ k) ∧ Aside0 (Kd.R (Kd.int .i64) 3 w' w.heap.size (fun k_ => some k_ ≠ (v9 : Value).ownBlock ∧ some k_ ≠ ((.slice Ao11 y142.length co11) : Value).ownBlock) v8 x8_1) ∧ Aside0 (Kd.R (Kd.int .i64) 3 w' w.heap.size (fun k_ => some k_ ≠ (v8 : Value).ownBlock ∧ some k_ ≠ ((.slice Ao11 y142.length co11) : Value).ownBlock) v9 x9_1) ∧ Aside0 (Kd.R (Kd.int .i64) 3 w' w.heap.size (fun k_ => some k_ ≠ (v8 : Value).ownBlock ∧ some k_ ≠ (v9 : Value).ownBlock) (.slice Ao11 y142.length co11) y142) ∧ Aside0 (w'.heap[gb138]? = some (.cells #[.int .i64 0, (.slice none 0 0)] 26 (0, 0))) ∧ Aside0 (w'.heap[gb145]? = some (.cells #[.int .i64 t139, (.slice Ao11 y142.length co11)] 26 (0, 0))) ∧ Aside0 (IsS70 w0 w' g s0_0 x1001_1 x1002_1) ∧ Aside0 (KeepBut w w' g none) ∧ Aside0 (Below w0.heap.size w0 w'))
 case atStart => exact ⟨(([] : List Int)), (([] : List Int)), (0), (t147), (t148), eR, H', ⟨Nat.le_refl _⟩, ⟨by first | exact Kd.R_nil _ _ _ _ _ | exact Kd.N_nil _ _ _ _ _ | exact Kd.V_nil _ _ _ _ _ | exact Kd.Q_nil _ _ _ _ _ | exact Kd.S_nil _ _ _ _ _⟩, ⟨by first | exact Kd.R_nil _ _ _ _ _ | exact Kd.N_nil _ _ _ _ _ | exact Kd.V_nil _ _ _ _ _ | exact Kd.Q_nil _ _ _ _ _ | exact Kd.S_nil _ _ _ _ _⟩, ⟨by (with_reducible repeat first|apply rA|apply rN|apply rD); exact Kd.R_mono HO144.out (fun _ hk => ⟨(by simp [Value.ownBlock]), (by simp [Value.ownBlock])⟩)⟩, ⟨qQ BK138⟩, ⟨qQ BK145⟩, ⟨iI⟩, ⟨kI⟩, ⟨bI⟩⟩
 case round =>
  clear H'
  try clear c4
  try clear c4b0
  try clear c4b1
  try clear c5
  try clear c5b0
  try clear c5b1
  try clear hcz15_0
  try clear hcz15_1
  try clear hfz15_0
  try clear hfz15_1
  obtain ⟨x8_1, x9_1, x10_1, x1001_1, x1002_1, rfl, HA, HK1, HO_8, HO_9, HO_146001, BK138, BK145, HI0, HK, HB⟩ := hrel
  cases gk with
  | zero => exact absurd HA.out (by simp [Y1.l0])
  | succ k1 =>
   have H := HA.out
   clear HA
   simp only [Y1.l0] at H
   by_cases c17 : x10_1 < t139
   ·rw [if_pos c17] at H
    have c17b0 := decide_eq_true c17
    clear c17
    replace H := bS H
    obtain ⟨⟨t149, t150, t151⟩, A18, H⟩ := H
    try dsimp only at H
    replace H := iS H
    obtain ⟨c19, H⟩ := H
    have LMc19 := aM c19
    clear c19
    obtain ⟨y152, hy152⟩ := nE ((x8_1 ++ [t149]) : List Int)
    try rw [← hy152] at H
    try with_reducible replace H := (Option.bind_some _ _).symm.trans H
    try dsimp only at H
    have Ny152 := aM hy152
    clear hy152
    by_cases c20 : t146 = 1
    ·rw [if_pos c20] at H
     have c20b0 : (t146 == 1) = true := beq_iff_eq.mpr c20
     have c20b1 : (t146 != 1) = false := bne_eq_false_iff_eq.mpr c20
     clear c20
     replace H := bS H
     obtain ⟨⟨t155, t156, t157⟩, A21, H⟩ := H
     try dsimp only at H
     replace H := iS H
     obtain ⟨c22, H⟩ := H
     have LMc22 := aM c22
     clear c22
     obtain ⟨y158, hy158⟩ := nE ((x9_1 ++ [wrap64 (t149 + t155)]) : List Int)
     try rw [← hy158] at H
     try with_reducible replace H := (Option.bind_some _ _).symm.trans H
     try dsimp only at H
     have Ny158 := aM hy158
     clear hy158
     have H' := aM H
     clear H
     go_wp2_with (first | ((with_reducible refine gate_callee (f := 107) rfl ?_); refine gL (some 32) Tryz.func107 #[.pointer (some ⟨g, 0, none⟩), .int .i64 8] ?_; (with_reducible refine (Y8.calls g s0_0 x1001_1 x1002_1 8 t149 t150 t151 w0 _ ?side1 ?side2 A18.out).mono ?_); (case side1 => exact iI); (case side2 => exact bI); rintro e w23 ⟨rfl, hi, hb, hk⟩; refine ⟨_, rfl, ?_⟩; have _ := aM (Kd.R_mono (Kd.R_keep (IsS70.apart (show IsS70 w0 _ g s0_0 x1001_1 x1002_1 from iI) (rQ HO_8) (by decide)) hk (fun _ h => h.2)) (fun _ h => h.1)); have _ := aM (Kd.R_mono (Kd.R_keep (IsS70.apart (show IsS70 w0 _ g s0_0 x1001_1 x1002_1 from iI) (rQ HO_9) (by decide)) hk (fun _ h => h.2)) (fun _ h => h.1)); have _ := aM (Kd.R_mono (Kd.R_keep (IsS70.apart (show IsS70 w0 _ g s0_0 x1001_1 x1002_1 from iI) (rQ HO_146001) (by decide)) hk (fun _ h => h.2)) (fun _ h => h.1)); have _ := aM (KeepBut.blk hk (g' := gb138) (o := .cells #[.int .i64 0, .slice none 0 0] 26 (0, 0)) (qQ BK138) NB138_0.out (by simp)); have _ := aM (KeepBut.blk hk (g' := gb145) (o := .cells #[.int .i64 t139, .slice Ao11 y142.length co11] 26 (0, 0)) (qQ BK145) NB145_0.out (by simp)); have _ := aM (KeepBut.trans (kI (w := w)) hk (.inl rfl)); have _ := aM (hb); have _ := aM (hi); clear HO_8 HO_9 HO_146001 BK138 BK145 HK HB HI0; rename_i HO_8 HO_9 HO_146001 BK138 BK145 HK HB HI0; (try clear hb); (try clear hk); (try clear hi)) | ((with_reducible refine gate_builtin (b := .append) (xs := #[.tmp 33, .tmp 35]) rfl ?_); at_builtin; refine Kd.R_append (Kd.int .i64) w.heap.size rfl (.tmp 33) (.tmp 35) 24 3 (.int .i64 0) 8 rfl Tryz.underlying24 info3 rfl (by decide) (by omega) u8 x8_1 t149 [.int .i64 t149] (fun k_ => some k_ ≠ (u9 : Value).ownBlock ∧ some k_ ≠ (.slice Ao11 y142.length co11 : Value).ownBlock) (fun _ => False) rfl rfl ?aP (fun _ hk => hk.elim) ?aF ?aO (Below.refl _ _) ?aS ?aL ?_; (case aP => exact rfl); (case aF => exact (fun k_ hk => ⟨Kd.fresh' (Kd.R_lt (rQ HO_9)) k_ hk, Kd.fresh' (Kd.R_lt (rQ HO_146001)) k_ hk⟩)); (case aO => exact (rQ HO_8)); (case aS => exact (keep_size (w := w) (g := g) (row := none) kI)); (case aL => have := LMc19.out; omega); intro v153 w24 ho hb hg hat; rw [← Ny152.out] at ho; have _ := aM (Kd.R_after (ok := (fun k_ => some k_ ≠ (.slice Ao11 y142.length co11 : Value).ownBlock)) (by (with_reducible repeat first|apply rA|apply rN|apply rD); exact Kd.R_mono HO_9.out (fun _ hk => ⟨hk.2, hk.1⟩)) hg hat); have _ := aM (Kd.R_after (ok := (fun k_ => some k_ ≠ (u9 : Value).ownBlock)) (by (with_reducible repeat first|apply rA|apply rN|apply rD); exact Kd.R_mono HO_146001.out (fun _ hk => ⟨hk.2, hk.1⟩)) hg hat); have _ := aM (blk_grown (g := gb138) (o := .cells #[.int .i64 0, .slice none 0 0] 26 (0, 0)) (qQ BK138) hg (Kd.R_ne HO_8.out BK138.out (by decide))); have _ := aM (blk_grown (g := gb145) (o := .cells #[.int .i64 t139, .slice Ao11 y142.length co11] 26 (0, 0)) (qQ BK145) hg (Kd.R_ne HO_8.out BK145.out (by decide))); have _ := aM (IsS70.grown iI hg (IsS70.own_ne HI0.out HO_8.out (by decide))); have _ := aM (below_weaken bI HL.out hb); have _ := aM (KeepBut.trans (kI (w := w)) (KeepBut.of_grown hg g) (Kd.R_base2 HO_8.out)); have _ := aM (ho); clear HO_9 HO_146001 BK138 BK145 HI0 HB HK HO_8; rename_i HO_9 HO_146001 BK138 BK145 HI0 HB HK HO154; clear ho hb hg hat) | ((with_reducible refine gate_callee (f := 107) rfl ?_); refine gL (some 42) Tryz.func107 #[.pointer (some ⟨g, 0, none⟩), .int .i64 4] ?_; (with_reducible refine (Y8.calls g s0_0 t150 t151 4 t155 t156 t157 w0 _ ?side1 ?side2 A21.out).mono ?_); (case side1 => exact iI); (case side2 => exact bI); rintro e w25 ⟨rfl, hi, hb, hk⟩; refine ⟨_, rfl, ?_⟩; have _ := aM (Kd.R_mono (Kd.R_keep (IsS70.apart (show IsS70 w0 _ g s0_0 t150 t151 from iI) (rQ HO_9) (by decide)) hk (fun _ h => h.2)) (fun _ h => h.1)); have _ := aM (Kd.R_mono (Kd.R_keep (IsS70.apart (show IsS70 w0 _ g s0_0 t150 t151 from iI) (rQ HO_146001) (by decide)) hk (fun _ h => h.2)) (fun _ h => h.1)); have _ := aM (KeepBut.blk hk (g' := gb138) (o := .cells #[.int .i64 0, .slice none 0 0] 26 (0, 0)) (qQ BK138) NB138_0.out (by simp)); have _ := aM (KeepBut.blk hk (g' := gb145) (o := .cells #[.int .i64 t139, .slice Ao11 y142.length co11] 26 (0, 0)) (qQ BK145) NB145_0.out (by simp)); have _ := aM (Kd.R_mono (Kd.R_keep (IsS70.apart (show IsS70 w0 _ g s0_0 t150 t151 from iI) (rQ HO154) (by decide)) hk (fun _ h => h.2)) (fun _ h => h.1)); have _ := aM (KeepBut.trans (kI (w := w)) hk (.inl rfl)); have _ := aM (hb); have _ := aM (hi); clear HO_9 HO_146001 BK138 BK145 HO154 HK HB HI0; rename_i HO_9 HO_146001 BK138 BK145 HO154 HK HB HI0; (try clear hb); (try clear hk); (try clear hi)) | ((with_reducible refine gate_builtin (b := .append) (xs := #[.tmp 39, .tmp 44]) rfl ?_); at_builtin; refine Kd.R_append (Kd.int .i64) w.heap.size rfl (.tmp 39) (.tmp 44) 24 3 (.int .i64 0) 8 rfl Tryz.underlying24 info3 rfl (by decide) (by omega) u9 x9_1 (wrap64 (t149 + t155)) [.int .i64 (wrap64 (t149 + t155))] (fun k_ => some k_ ≠ (.slice Ao11 y142.length co11 : Value).ownBlock ∧ some k_ ≠ (v153 : Value).ownBlock) (fun _ => False) rfl rfl ?aP (fun _ hk => hk.elim) ?aF ?aO (Below.refl _ _) ?aS ?aL ?_; (case aP => exact rfl); (case aF => exact (fun k_ hk => ⟨Kd.fresh' (Kd.R_lt (rQ HO_146001)) k_ hk, Kd.fresh' (Kd.R_lt (rQ HO154)) k_ hk⟩)); (case aO => exact (rQ HO_9)); (case aS => exact (keep_size (w := w) (g := g) (row := none) kI)); (case aL => have := LMc22.out; omega); intro v159 w26 ho hb hg hat; rw [← Ny158.out] at ho; have _ := aM (Kd.R_after (ok := (fun k_ => some k_ ≠ (v153 : Value).ownBlock)) (by (with_reducible repeat first|apply rA|apply rN|apply rD); exact Kd.R_mono HO_146001.out (fun _ hk => ⟨hk.2, hk.1⟩)) hg hat); have _ := aM (blk_grown (g := gb138) (o := .cells #[.int .i64 0, .slice none 0 0] 26 (0, 0)) (qQ BK138) hg (Kd.R_ne HO_9.out BK138.out (by decide))); have _ := aM (blk_grown (g := gb145) (o := .cells #[.int .i64 t139, .slice Ao11 y142.length co11] 26 (0, 0)) (qQ BK145) hg (Kd.R_ne HO_9.out BK145.out (by decide))); have _ := aM (IsS70.grown iI hg (IsS70.own_ne HI0.out HO_9.out (by decide))); have _ := aM (Kd.R_after (ok := (fun k_ => some k_ ≠ (.slice Ao11 y142.length co11 : Value).ownBlock)) (by (with_reducible repeat first|apply rA|apply rN|apply rD); exact Kd.R_mono HO154.out (fun _ hk => ⟨hk.2, hk.1⟩)) hg hat); have _ := aM (below_weaken bI HL.out hb); have _ := aM (KeepBut.trans (kI (w := w)) (KeepBut.of_grown hg g) (Kd.R_base2 HO_9.out)); have _ := aM (ho); clear HO_146001 BK138 BK145 HI0 HO154 HB HK HO_9; rename_i HO_146001 BK138 BK145 HI0 HO154 HB HK HO160; clear ho hb hg hat))
     go_roundg k1
     case measure => have := HK1.out; omega
     case rel => exact ⟨(y152), (y158), (wrap64 (x10_1 + 1)), (t156), (t157), eR, H', ⟨by have := HK1.out; omega⟩, ⟨by (with_reducible repeat first|apply rA|apply rN|apply rD); exact Kd.R_mono HO154.out (fun _ hk => ⟨hk.2, hk.1⟩)⟩, ⟨by (with_reducible repeat first|apply rA|apply rN|apply rD); exact Kd.R_mono HO160.out (fun _ hk => ⟨hk.2, hk.1⟩)⟩, ⟨rQ HO_146001⟩, ⟨qQ BK138⟩, ⟨qQ BK145⟩, ⟨iI⟩, ⟨kI⟩, ⟨bI⟩⟩
    ·rw [if_neg c20] at H
     have c20b0 : (t146 == 1) = false := beq_eq_false_iff_ne.mpr c20
     have c20b1 : (t146 != 1) = true := bne_iff_ne.mpr c20
     replace H := iS H
     obtain ⟨c27, H⟩ := H
     have LMc27 := aM c27
     clear c27
     obtain ⟨y161, hy161⟩ := nE ((x9_1 ++ [wrap64 (t149 + 2)]) : List Int)
     try rw [← hy161] at H
     try with_reducible replace H := (Option.bind_some _ _).symm.trans H
     try dsimp only at H
     have Ny161 := aM hy161
     clear hy161
     have H' := aM H
     clear H
     go_wp2_with (first | ((with_reducible refine gate_callee (f := 107) rfl ?_); refine gL (some 32) Tryz.func107 #[.pointer (some ⟨g, 0, none⟩), .int .i64 8] ?_; (with_reducible refine (Y8.calls g s0_0 x1001_1 x1002_1 8 t149 t150 t151 w0 _ ?side1 ?side2 A18.out).mono ?_); (case side1 => exact iI); (case side2 => exact bI); rintro e w28 ⟨rfl, hi, hb, hk⟩; refine ⟨_, rfl, ?_⟩; have _ := aM (Kd.R_mono (Kd.R_keep (IsS70.apart (show IsS70 w0 _ g s0_0 x1001_1 x1002_1 from iI) (rQ HO_8) (by decide)) hk (fun _ h => h.2)) (fun _ h => h.1)); have _ := aM (Kd.R_mono (Kd.R_keep (IsS70.apart (show IsS70 w0 _ g s0_0 x1001_1 x1002_1 from iI) (rQ HO_9) (by decide)) hk (fun _ h => h.2)) (fun _ h => h.1)); have _ := aM (Kd.R_mono (Kd.R_keep (IsS70.apart (show IsS70 w0 _ g s0_0 x1001_1 x1002_1 from iI) (rQ HO_146001) (by decide)) hk (fun _ h => h.2)) (fun _ h => h.1)); have _ := aM (KeepBut.blk hk (g' := gb138) (o := .cells #[.int .i64 0, .slice none 0 0] 26 (0, 0)) (qQ BK138) NB138_0.out (by simp)); have _ := aM (KeepBut.blk hk (g' := gb145) (o := .cells #[.int .i64 t139, .slice Ao11 y142.length co11] 26 (0, 0)) (qQ BK145) NB145_0.out (by simp)); have _ := aM (KeepBut.trans (kI (w := w)) hk (.inl rfl)); have _ := aM (hb); have _ := aM (hi); clear HO_8 HO_9 HO_146001 BK138 BK145 HK HB HI0; rename_i HO_8 HO_9 HO_146001 BK138 BK145 HK HB HI0; (try clear hb); (try clear hk); (try clear hi)) | ((with_reducible refine gate_builtin (b := .append) (xs := #[.tmp 33, .tmp 35]) rfl ?_); at_builtin; refine Kd.R_append (Kd.int .i64) w.heap.size rfl (.tmp 33) (.tmp 35) 24 3 (.int .i64 0) 8 rfl Tryz.underlying24 info3 rfl (by decide) (by omega) u8 x8_1 t149 [.int .i64 t149] (fun k_ => some k_ ≠ (u9 : Value).ownBlock ∧ some k_ ≠ (.slice Ao11 y142.length co11 : Value).ownBlock) (fun _ => False) rfl rfl ?aP (fun _ hk => hk.elim) ?aF ?aO (Below.refl _ _) ?aS ?aL ?_; (case aP => exact rfl); (case aF => exact (fun k_ hk => ⟨Kd.fresh' (Kd.R_lt (rQ HO_9)) k_ hk, Kd.fresh' (Kd.R_lt (rQ HO_146001)) k_ hk⟩)); (case aO => exact (rQ HO_8)); (case aS => exact (keep_size (w := w) (g := g) (row := none) kI)); (case aL => have := LMc19.out; omega); intro v153 w29 ho hb hg hat; rw [← Ny152.out] at ho; have _ := aM (Kd.R_after (ok := (fun k_ => some k_ ≠ (.slice Ao11 y142.length co11 : Value).ownBlock)) (by (with_reducible repeat first|apply rA|apply rN|apply rD); exact Kd.R_mono HO_9.out (fun _ hk => ⟨hk.2, hk.1⟩)) hg hat); have _ := aM (Kd.R_after (ok := (fun k_ => some k_ ≠ (u9 : Value).ownBlock)) (by (with_reducible repeat first|apply rA|apply rN|apply rD); exact Kd.R_mono HO_146001.out (fun _ hk => ⟨hk.2, hk.1⟩)) hg hat); have _ := aM (blk_grown (g := gb138) (o := .cells #[.int .i64 0, .slice none 0 0] 26 (0, 0)) (qQ BK138) hg (Kd.R_ne HO_8.out BK138.out (by decide))); have _ := aM (blk_grown (g := gb145) (o := .cells #[.int .i64 t139, .slice Ao11 y142.length co11] 26 (0, 0)) (qQ BK145) hg (Kd.R_ne HO_8.out BK145.out (by decide))); have _ := aM (IsS70.grown iI hg (IsS70.own_ne HI0.out HO_8.out (by decide))); have _ := aM (below_weaken bI HL.out hb); have _ := aM (KeepBut.trans (kI (w := w)) (KeepBut.of_grown hg g) (Kd.R_base2 HO_8.out)); have _ := aM (ho); clear HO_9 HO_146001 BK138 BK145 HI0 HB HK HO_8; rename_i HO_9 HO_146001 BK138 BK145 HI0 HB HK HO154; clear ho hb hg hat) | ((with_reducible refine gate_builtin (b := .append) (xs := #[.tmp 46, .tmp 49]) rfl ?_); at_builtin; refine Kd.R_append (Kd.int .i64) w.heap.size rfl (.tmp 46) (.tmp 49) 24 3 (.int .i64 0) 8 rfl Tryz.underlying24 info3 rfl (by decide) (by omega) u9 x9_1 (wrap64 (t149 + 2)) [.int .i64 (wrap64 (t149 + 2))] (fun k_ => some k_ ≠ (.slice Ao11 y142.length co11 : Value).ownBlock ∧ some k_ ≠ (v153 : Value).ownBlock) (fun _ => False) rfl rfl ?aP (fun _ hk => hk.elim) ?aF ?aO (Below.refl _ _) ?aS ?aL ?_; (case aP => exact rfl); (case aF => exact (fun k_ hk => ⟨Kd.fresh' (Kd.R_lt (rQ HO_146001)) k_ hk, Kd.fresh' (Kd.R_lt (rQ HO154)) k_ hk⟩)); (case aO => exact (rQ HO_9)); (case aS => exact (keep_size (w := w) (g := g) (row := none) kI)); (case aL => have := LMc27.out; omega); intro v162 w30 ho hb hg hat; rw [← Ny161.out] at ho; have _ := aM (Kd.R_after (ok := (fun k_ => some k_ ≠ (v153 : Value).ownBlock)) (by (with_reducible repeat first|apply rA|apply rN|apply rD); exact Kd.R_mono HO_146001.out (fun _ hk => ⟨hk.2, hk.1⟩)) hg hat); have _ := aM (blk_grown (g := gb138) (o := .cells #[.int .i64 0, .slice none 0 0] 26 (0, 0)) (qQ BK138) hg (Kd.R_ne HO_9.out BK138.out (by decide))); have _ := aM (blk_grown (g := gb145) (o := .cells #[.int .i64 t139, .slice Ao11 y142.length co11] 26 (0, 0)) (qQ BK145) hg (Kd.R_ne HO_9.out BK145.out (by decide))); have _ := aM (IsS70.grown iI hg (IsS70.own_ne HI0.out HO_9.out (by decide))); have _ := aM (Kd.R_after (ok := (fun k_ => some k_ ≠ (.slice Ao11 y142.length co11 : Value).ownBlock)) (by (with_reducible repeat first|apply rA|apply rN|apply rD); exact Kd.R_mono HO154.out (fun _ hk => ⟨hk.2, hk.1⟩)) hg hat); have _ := aM (below_weaken bI HL.out hb); have _ := aM (KeepBut.trans (kI (w := w)) (KeepBut.of_grown hg g) (Kd.R_base2 HO_9.out)); have _ := aM (ho); clear HO_146001 BK138 BK145 HI0 HO154 HB HK HO_9; rename_i HO_146001 BK138 BK145 HI0 HO154 HB HK HO163; clear ho hb hg hat))
     go_roundg k1
     case measure => have := HK1.out; omega
     case rel => exact ⟨(y152), (y161), (wrap64 (x10_1 + 1)), (t150), (t151), eR, H', ⟨by have := HK1.out; omega⟩, ⟨by (with_reducible repeat first|apply rA|apply rN|apply rD); exact Kd.R_mono HO154.out (fun _ hk => ⟨hk.2, hk.1⟩)⟩, ⟨by (with_reducible repeat first|apply rA|apply rN|apply rD); exact Kd.R_mono HO163.out (fun _ hk => ⟨hk.2, hk.1⟩)⟩, ⟨rQ HO_146001⟩, ⟨qQ BK138⟩, ⟨qQ BK145⟩, ⟨iI⟩, ⟨kI⟩, ⟨bI⟩⟩
   ·rw [if_neg c17] at H
    have c17b0 := decide_eq_false c17
    clear c17
    have H' := aM H
    clear H
    go_wp2
    go_loopg [12] k1 (fun kq v12 w' => ∃ (x8_2 : List Int) (x9_2 : List Int) (x12_2 : Int) (x1001_2 : Int) (x1002_2 : Int) (x146001_2 : List Int) (u146001 : Value), v12 = .int .i64 x12_2 ∧ Aside0 (Y1.l1 kq t139 t146 x8_2 x9_2 x12_2 s0_0 x1001_2 x1002_2 t139 x146001_2 = some (r1, r2, r3, r4)) ∧ Aside0 (kq ≤ k1) ∧ Aside0 (Kd.R (Kd.int .i64) 3 w' w.heap.size (fun k_ => some k_ ≠ (u9 : Value).ownBlock ∧ some k_ ≠ (u146001 : Value).ownBlock) u8 x8_2) ∧ Aside0 (Kd.R (Kd.int .i64) 3 w' w.heap.size (fun k_ => some k_ ≠ (u8 : Value).ownBlock ∧ some k_ ≠ (u146001 : Value).ownBlock) u9 x9_2) ∧ Aside0 (Kd.R (Kd.int .i64) 3 w' w.heap.size (fun k_ => some k_ ≠ (u8 : Value).ownBlock ∧ some k_ ≠ (u9 : Value).ownBlock) u146001 x146001_2) ∧ Aside0 (w'.heap[gb138]? = some (.cells #[.int .i64 0, (.slice none 0 0)] 26 (0, 0))) ∧ Aside0 (w'.heap[gb145]? = some (.cells #[.int .i64 t139, u146001] 26 (0, 0))) ∧ Aside0 (IsS70 w0 w' g s0_0 x1001_2 x1002_2) ∧ Aside0 (KeepBut w w' g none) ∧ Aside0 (Below w0.heap.size w0 w'))
    case atStart => exact ⟨(x8_1), (x9_1), (0), (x1001_1), (x1002_1), (y142), (.slice Ao11 y142.length co11), eR, H', ⟨Nat.le_refl _⟩, ⟨rQ HO_8⟩, ⟨rQ HO_9⟩, ⟨rQ HO_146001⟩, ⟨qQ BK138⟩, ⟨qQ BK145⟩, ⟨iI⟩, ⟨kI⟩, ⟨bI⟩⟩
    case round =>
     clear H'
     try clear c4
     try clear c4b0
     try clear c4b1
     try clear c5
     try clear c5b0
     try clear c5b1
     try clear c17
     try clear c17b0
     try clear c19
     try clear c20
     try clear c20b0
     try clear c20b1
     try clear c22
     try clear c27
     try clear hcz15_0
     try clear hcz15_1
     try clear hfz15_0
     try clear hfz15_1
     obtain ⟨x8_2, x9_2, x12_2, x1001_2, x1002_2, x146001_2, u146001, rfl, HA, HK2, HO_8, HO_9, HO_146001, BK138, BK145, HI0, HK, HB⟩ := hrel
     cases gk with
     | zero => exact absurd HA.out (by simp [Y1.l1])
     | succ k2 =>
      have H := HA.out
      clear HA
      simp only [Y1.l1] at H
      by_cases c31 : x12_2 < t139
      ·rw [if_pos c31] at H
       have c31b0 := decide_eq_true c31
       clear c31
       have H' := aM H
       clear H
       go_wp2
       go_loopg [13] k2 (fun kq v13 w' => ∃ (x8_3 : List Int) (x9_3 : List Int) (x13_3 : Int) (x1001_3 : Int) (x1002_3 : Int) (x146001_3 : List Int) (u146001 : Value), v13 = .int .i64 x13_3 ∧ Aside0 (Y1.l2 kq t139 t146 x8_3 x9_3 x12_2 x13_3 s0_0 x1001_3 x1002_3 t139 x146001_3 = some (r1, r2, r3, r4)) ∧ Aside0 (kq ≤ k2) ∧ Aside0 (Kd.R (Kd.int .i64) 3 w' w.heap.size (fun k_ => some k_ ≠ (u9 : Value).ownBlock ∧ some k_ ≠ (u146001 : Value).ownBlock) u8 x8_3) ∧ Aside0 (Kd.R (Kd.int .i64) 3 w' w.heap.size (fun k_ => some k_ ≠ (u8 : Value).ownBlock ∧ some k_ ≠ (u146001 : Value).ownBlock) u9 x9_3) ∧ Aside0 (Kd.R (Kd.int .i64) 3 w' w.heap.size (fun k_ => some k_ ≠ (u8 : Value).ownBlock ∧ some k_ ≠ (u9 : Value).ownBlock) u146001 x146001_3) ∧ Aside0 (w'.heap[gb138]? = some (.cells #[.int .i64 0, (.slice none 0 0)] 26 (0, 0))) ∧ Aside0 (w'.heap[gb145]? = some (.cells #[.int .i64 t139, u146001] 26 (0, 0))) ∧ Aside0 (IsS70 w0 w' g s0_0 x1001_3 x1002_3) ∧ Aside0 (KeepBut w w' g none) ∧ Aside0 (Below w0.heap.size w0 w'))
       case atStart => exact ⟨(x8_2), (x9_2), (0), (x1001_2), (x1002_2), (x146001_2), (u146001), eR, H', ⟨Nat.le_refl _⟩, ⟨rQ HO_8⟩, ⟨rQ HO_9⟩, ⟨rQ HO_146001⟩, ⟨qQ BK138⟩, ⟨qQ BK145⟩, ⟨iI⟩, ⟨kI⟩, ⟨bI⟩⟩
       case round =>
        clear H'
        try clear c4
        try clear c4b0
        try clear c4b1
        try clear c5
        try clear c5b0
        try clear c5b1
        try clear c17
        try clear c17b0
        try clear c19
        try clear c20
        try clear c20b0
        try clear c20b1
        try clear c22
        try clear c27
        try clear c31
        try clear c31b0
        try clear hcz15_0
        try clear hcz15_1
        try clear hfz15_0
        try clear hfz15_1
        obtain ⟨x8_3, x9_3, x13_3, x1001_3, x1002_3, x146001_3, u146001, rfl, HA, HK3, HO_8, HO_9, HO_146001, BK138, BK145, HI0, HK, HB⟩ := hrel
        cases gk with
        | zero => exact absurd HA.out (by simp [Y1.l2])
        | succ k3 =>
         have H := HA.out
         clear HA
         simp only [Y1.l2] at H
         by_cases c32 : x13_3 < t139
         ·rw [if_pos c32] at H
          have c32b0 := decide_eq_true c32
          clear c32
          by_cases c33 : t146 > 0
          ·rw [if_pos c33] at H
           have c33b0 := decide_eq_true c33
           clear c33
           replace H := iD4 H
           obtain ⟨c34b0, c35b0, c36b0, c37b0, H⟩ := H
           by_cases c38 : (rd x9_3 x12_2) < (rd x8_3 x13_3)
           ·rw [if_pos c38] at H
            have c38b0 := decide_eq_true c38
            clear c38
            replace H := iD H
            obtain ⟨c39b0, H⟩ := H
            have c40b0 := eq_true (odt : 0 ≤ x13_3)
            obtain ⟨ji41, hji41⟩ : ∃ j_ : Int, (shl .i64 1 x13_3) = j_ := ⟨_, rfl⟩
            replace H : (Y1.l2 k3 t139 t146 x8_3 x9_3 x12_2 (wrap64 (x13_3 + 1)) s0_0 x1001_3 x1002_3 t139 (x146001_3.set (x12_2 : Int).toNat (Go.bits .or .i64 (rd x146001_3 x12_2) (ji41)))) = some (r1, r2, r3, r4) := by first | (rw [hji41] at H; exact H) | (simp only [hji41] at H ⊢; exact H)
            have hji41_ : (IntKind.i64.wrap (1 * 2 ^ min x13_3.toNat 64)) = ji41 := hji41
            have hji41z : x13_3 ≤ 64 → (IntKind.i64.wrap (1 * 2 ^ x13_3.toNat)) = ji41 := shl_small hji41
            have hji41u : (IntKind.i64.wrap (2 ^ min x13_3.toNat 64)) = ji41 := by have h_ := hji41_; rw [Int.one_mul] at h_; exact h_
            have hji41v : x13_3 ≤ 64 → (IntKind.i64.wrap (2 ^ x13_3.toNat)) = ji41 := fun hle_ => by have h_ := hji41z hle_; rw [Int.one_mul] at h_; exact h_
            have hji41y : (wrap64 (1 * 2 ^ min x13_3.toNat 64)) = ji41 := (i64_w _).symm.trans hji41_
            have hji41x : x13_3 ≤ 64 → (wrap64 (1 * 2 ^ x13_3.toNat)) = ji41 := fun h_ => (i64_w _).symm.trans (hji41z h_)
            obtain ⟨y173, hy173⟩ := nE ((x146001_3.set (x12_2 : Int).toNat (Go.bits .or .i64 (rd x146001_3 x12_2) (ji41))) : List Int)
            try rw [← hy173] at H
            try with_reducible replace H := (Option.bind_some _ _).symm.trans H
            try dsimp only at H
            have Ny173 := aM hy173
            clear hy173
            have H' := aM H
            clear H
            try go_wp2
            have n0_ := aM (Kd.R_drew HO_8.out)
            have n1_ := aM (Kd.R_drew HO_9.out)
            have n2_ := aM (Kd.R_drew HO_146001.out)
            have n3_ := aM (blk_drew BK138.out)
            have n4_ := aM (blk_drew BK145.out)
            have n5_ := aM (IsS70.drew HI0.out)
            have n6_ := aM (keep_drew HK.out)
            have n7_ := aM (below_drew1 HB.out)
            clear HO_8
            clear HO_9
            clear HO_146001
            clear BK138
            clear BK145
            clear HI0
            clear HK
            clear HB
            have HO_8 := n0_
            have HO_9 := n1_
            have HO_146001 := n2_
            have BK138 := n3_
            have BK145 := n4_
            have HI0 := n5_
            have HK := n6_
            have HB := n7_
            clear n0_ n1_ n2_ n3_ n4_ n5_ n6_ n7_
            obtain ⟨Ao44, co44, eo44⟩ := Kd.R_slice HO_9.out
            (first | subst eo44 | (injection eo44 with f1_ f2_ f3_; have f4_ := f1_.symm; have f5_ := f3_.symm; clear f1_ f2_ f3_; subst f4_; subst f5_))
            have p170 : 0 ≤ (x12_2 : Int) := odt
            have q170 : x12_2 < (x9_3.length : Int) := odt
            obtain ⟨ad170, e170, hx170_0⟩ := Kd.at_int (Kd.R_reads' HO_9.out).2.2 x12_2 p170 q170
            cases e170
            replace p170 := eq_true p170
            replace q170 := eq_true q170
            obtain ⟨Ao45, co45, eo45⟩ := Kd.R_slice HO_8.out
            (first | subst eo45 | (injection eo45 with f1_ f2_ f3_; have f4_ := f1_.symm; have f5_ := f3_.symm; clear f1_ f2_ f3_; subst f4_; subst f5_))
            have p171 : 0 ≤ (x13_3 : Int) := odt
            have q171 : x13_3 < (x8_3.length : Int) := odt
            obtain ⟨ad171, e171, hx171_0⟩ := Kd.at_int (Kd.R_reads' HO_8.out).2.2 x13_3 p171 q171
            cases e171
            replace p171 := eq_true p171
            replace q171 := eq_true q171
            refine start_ (n := 26) (S := fun w' => w'.cell? (ad170.add (x12_2).toNat) = some (.int .i64 (rd x9_3 x12_2)) ∧ w'.cell? (ad171.add (x13_3).toNat) = some (.int .i64 (rd x8_3 x13_3))) (ds := []) #[false, false, false, false, false, false, false, false, false, false, false, false, false, false, false, false, false, false, false, false, false, false, false, false, false, false] (by kernel_rfl) rfl rfl ⟨hx170_0, hx171_0⟩ (fun hHeld => ?_); refine with_tabW Y1.tab19 Y1.bits19 (fun HT_ HW_ => ?_)
            generalize wr.drew = w43 at HO_8 HO_9 HO_146001 BK138 BK145 HI0 HK HB hx170_0 hx171_0 hHeld ⊢
            refine pA 0 61 (h := ?_)
            refine pA 1 62 (h := ?_)
            refine pA 2 63 (h := ?_)
            refine pA 3 64 (h := ?_)
            refine pA 4 65 (h := ?_)
            refine pA 5 66 (h := ?_)
            refine pA 7 68 (h := ?_)
            refine pA 8 69 (h := ?_)
            refine pA 9 70 (h := ?_)
            refine tA 6 67 hHeld (h := ?_)
            refine tA 10 71 hHeld (h := ?_)
            refine pA 11 72 (h := ?_)
            refine pA 12 73 (h := ?_)
            refine pA 13 74 (h := ?_)
            refine pure_ (i := 14) (N := some 75) (v := undef) (a' := ?_) #[true, true, true, true, true, true, true, true, true, true, true, true, true, true, true, false, false, false, false, false, false, false, false, false, false, false] rfl rfl (any_of HT_.out (by kernel_rfl)) (fun _ _ _ h => h) (Or.inr ⟨by rfl, rfl⟩) ?_ ?_
            rotate_left
            ·simp only [Act.put, List.setIfInBounds_toArray, List.set_cons_zero, List.set_cons_succ, i64_w, i32_w]
             rfl
            refine pure_ (i := 15) (N := some 76) (v := undef) (a' := ?_) #[true, true, true, true, true, true, true, true, true, true, true, true, true, true, true, true, false, false, false, false, false, false, false, false, false, false] rfl rfl (any_of HT_.out (by kernel_rfl)) (fun _ _ _ h => h) (Or.inr ⟨by rfl, rfl⟩) ?_ ?_
            rotate_left
            ·simp only [Act.put, List.setIfInBounds_toArray, List.set_cons_zero, List.set_cons_succ, i64_w, i32_w]
             rfl
            refine pure_ (i := 16) (N := some 77) (v := undef) (a' := ?_) #[true, true, true, true, true, true, true, true, true, true, true, true, true, true, true, true, true, false, false, false, false, false, false, false, false, false] rfl rfl (any_of HT_.out (by kernel_rfl)) (fun _ _ _ h => h) (Or.inr ⟨by rfl, rfl⟩) ?_ ?_
            rotate_left
            ·simp only [Act.put, List.setIfInBounds_toArray, List.set_cons_zero, List.set_cons_succ, i64_w, i32_w]
             rfl
            refine pure_ (i := 17) (N := some 78) (v := undef) (a' := ?_) #[true, true, true, true, true, true, true, true, true, true, true, true, true, true, true, true, true, true, false, false, false, false, false, false, false, false] rfl rfl (any_of HT_.out (by kernel_rfl)) (fun _ _ _ h => h) (Or.inr ⟨by rfl, rfl⟩) ?_ ?_
            rotate_left
            ·simp only [Act.put, List.setIfInBounds_toArray, List.set_cons_zero, List.set_cons_succ, i64_w, i32_w]
             rfl
            refine pure_ (i := 18) (N := some 79) (v := undef) (a' := ?_) #[true, true, true, true, true, true, true, true, true, true, true, true, true, true, true, true, true, true, true, false, false, false, false, false, false, false] rfl rfl (any_of HT_.out (by kernel_rfl)) (fun _ _ _ h => h) (Or.inr ⟨by rfl, rfl⟩) ?_ ?_
            rotate_left
            ·simp only [Act.put, List.setIfInBounds_toArray, List.set_cons_zero, List.set_cons_succ, i64_w, i32_w]
             rfl
            refine pure_ (i := 19) (N := some 80) (v := undef) (a' := ?_) #[true, true, true, true, true, true, true, true, true, true, true, true, true, true, true, true, true, true, true, true, false, false, false, false, false, false] rfl rfl (any_of HT_.out (by kernel_rfl)) (fun _ _ _ h => h) (Or.inr ⟨by rfl, rfl⟩) ?_ ?_
            rotate_left
            ·simp only [Act.put, List.setIfInBounds_toArray, List.set_cons_zero, List.set_cons_succ, i64_w, i32_w]
             rfl
            refine pure_ (i := 20) (N := some 81) (v := undef) (a' := ?_) #[true, true, true, true, true, true, true, true, true, true, true, true, true, true, true, true, true, true, true, true, true, false, false, false, false, false] rfl rfl (any_of HT_.out (by kernel_rfl)) (fun _ _ _ h => h) (Or.inr ⟨by rfl, rfl⟩) ?_ ?_
            rotate_left
            ·simp only [Act.put, List.setIfInBounds_toArray, List.set_cons_zero, List.set_cons_succ, i64_w, i32_w]
             rfl
            refine pure_ (i := 21) (N := some 82) (v := undef) (a' := ?_) #[true, true, true, true, true, true, true, true, true, true, true, true, true, true, true, true, true, true, true, true, true, true, false, false, false, false] rfl rfl (any_of HT_.out (by kernel_rfl)) (fun _ _ _ h => h) (Or.inr ⟨by rfl, rfl⟩) ?_ ?_
            rotate_left
            ·simp only [Act.put, List.setIfInBounds_toArray, List.set_cons_zero, List.set_cons_succ, i64_w, i32_w]
             rfl
            refine pure_ (i := 22) (N := some 83) (v := undef) (a' := ?_) #[true, true, true, true, true, true, true, true, true, true, true, true, true, true, true, true, true, true, true, true, true, true, true, false, false, false] rfl rfl (any_of HT_.out (by kernel_rfl)) (fun _ _ _ h => h) (Or.inr ⟨by rfl, rfl⟩) ?_ ?_
            rotate_left
            ·simp only [Act.put, List.setIfInBounds_toArray, List.set_cons_zero, List.set_cons_succ, i64_w, i32_w]
             rfl
            refine pure_ (i := 23) (N := some 84) (v := undef) (a' := ?_) #[true, true, true, true, true, true, true, true, true, true, true, true, true, true, true, true, true, true, true, true, true, true, true, true, false, false] rfl rfl (any_of HT_.out (by kernel_rfl)) (fun _ _ _ h => h) (Or.inr ⟨by rfl, rfl⟩) ?_ ?_
            rotate_left
            ·simp only [Act.put, List.setIfInBounds_toArray, List.set_cons_zero, List.set_cons_succ, i64_w, i32_w]
             rfl
            refine pure_ (i := 24) (N := some 85) (v := undef) (a' := ?_) #[true, true, true, true, true, true, true, true, true, true, true, true, true, true, true, true, true, true, true, true, true, true, true, true, true, false] rfl rfl (any_of HT_.out (by kernel_rfl)) (fun _ _ _ h => h) (Or.inr ⟨by rfl, rfl⟩) ?_ ?_
            rotate_left
            ·simp only [Act.put, List.setIfInBounds_toArray, List.set_cons_zero, List.set_cons_succ, i64_w, i32_w]
             rfl
            refine pA 25 86 (h := ?_)
            refine done_ (done_of HT_.out (by kernel_rfl)) ?_
            try go_wp2
            have n0_ := aM (Kd.R_drew HO_8.out)
            have n1_ := aM (Kd.R_drew HO_9.out)
            have n2_ := aM (Kd.R_drew HO_146001.out)
            have n3_ := aM (blk_drew BK138.out)
            have n4_ := aM (blk_drew BK145.out)
            have n5_ := aM (IsS70.drew HI0.out)
            have n6_ := aM (keep_drew HK.out)
            have n7_ := aM (below_drew1 HB.out)
            clear HO_8
            clear HO_9
            clear HO_146001
            clear BK138
            clear BK145
            clear HI0
            clear HK
            clear HB
            have HO_8 := n0_
            have HO_9 := n1_
            have HO_146001 := n2_
            have BK138 := n3_
            have BK145 := n4_
            have HI0 := n5_
            have HK := n6_
            have HB := n7_
            clear n0_ n1_ n2_ n3_ n4_ n5_ n6_ n7_
            obtain ⟨Ao47, co47, eo47⟩ := Kd.R_slice HO_146001.out
            (first | subst eo47 | (injection eo47 with f1_ f2_ f3_; have f4_ := f1_.symm; have f5_ := f3_.symm; clear f1_ f2_ f3_; subst f4_; subst f5_))
            have p172 : 0 ≤ (x12_2 : Int) := odt
            have q172 : x12_2 < (x146001_3.length : Int) := odt
            obtain ⟨ad172, e172, hx172_0⟩ := Kd.at_int (Kd.R_reads' HO_146001.out).2.2 x12_2 p172 q172
            cases e172
            replace p172 := eq_true p172
            replace q172 := eq_true q172
            have p42 : 0 ≤ (x12_2 : Int) := odt
            have q42 : (x12_2 : Int) < ((x146001_3.length : Int) : Int) := odt
            obtain ⟨go42, co42, eo42, gb42, gl42, cl42, HG42⟩ := Kd.R_form HO_146001.out (by omega)
            (first | cases eo42 | (injection eo42 with ea_ en_ ec_; (first | subst ea_ | (injection ea_ with ea_; subst ea_)); subst ec_; clear en_))
            have GB42 := aM gb42
            have GG42 := aM HG42
            clear gb42 gl42 HG42
            (first | simp only [add_plain] at hx172_0 | skip)
            obtain ⟨hx42_0, hf42_0⟩ := Kd.R_celln 0 HO_146001.out (x12_2 : Int) p42 q42
            replace p42 := eq_true p42
            replace q42 := eq_true q42
            have HN0_go42 := aM (show g ≠ go42 from by have h_ := IsS70.own_ne HI0.out HO_146001.out (by decide); intro e_; exact h_ (by rw [e_]; rfl))
            have HP48 := Kd.R_putn HO_146001.out (x12_2 : Int) (Go.bits .or .i64 (rd x146001_3 x12_2) (ji41))
            rw [← Ny173.out] at HP48
            have HQ48 := aM HP48
            clear HP48
            refine start_ (n := 10) (S := fun w' => w'.cell? ⟨gb145, 0, none⟩ = some (.int .i64 t139) ∧ w'.cell? ⟨gb145, 1, none⟩ = some (.slice (some ⟨go42, 0, none⟩) x146001_3.length co47) ∧ w'.cell? ⟨go42, (x12_2).toNat, none⟩ = some (.int .i64 (rd x146001_3 x12_2))) (ds := [9]) #[false, false, false, false, false, false, false, false, false, false] (by kernel_rfl) rfl rfl ⟨(blk_cell BK145.out 0).trans rfl, (blk_cell BK145.out 1).trans rfl, hx172_0⟩ (fun hHeld => ?_); refine with_tabW Y1.tab20 Y1.bits20 (fun HT_ HW_ => ?_)
            generalize w43.drew = w46 at HO_8 HO_9 HO_146001 BK138 BK145 HI0 HK HB GG42 HQ48 hf42_0 hx172_0 hx42_0 hHeld ⊢
            refine pA 0 87 (h := ?_)
            refine pA 2 89 (h := ?_)
            refine pA 5 92 (h := ?_)
            refine pA 6 93 (h := ?_)
            refine tA 1 88 hHeld (h := ?_)
            refine pA 3 90 (h := ?_)
            refine tA 4 91 hHeld (h := ?_)
            refine pA 7 94 (h := ?_)
            refine pA 8 95 (h := ?_)
            refine last_ (i := 9) (N := none) #[true, true, true, true, true, true, true, true, true, true] rfl rfl (one_of HT_.out (by kernel_rfl)) (by decide) (fun K hK => ?_)
            refine skip_ (w1 := ?_) (by rfl) rfl ?_ ?_
            rotate_left
            ·go_simp
             rfl
            refine hK.out _ _ ?_
            clear hK K
            refine done_ (done_of HT_.out (by kernel_rfl)) ?_
            try go_wp2
            go_roundg k3
            case measure => have := HK1.out; have := HK2.out; have := HK3.out; omega
            case rel => exact ⟨(x8_3), (x9_3), (wrap64 (x13_3 + 1)), (x1001_3), (x1002_3), (y173), (.slice (some ⟨go42, 0, none⟩) x146001_3.length co47), eR, H', ⟨by have := HK1.out; have := HK2.out; have := HK3.out; omega⟩, ⟨by (with_reducible repeat first|apply rA|apply rN|apply rD); exact Kd.R_mono (Kd.R_far (p := ⟨go42, (x12_2 : Int).toNat, none⟩) (Kd.R_mono HO_8.out (fun k_ hk => (⟨hk, fun e_ => hk.2 (by rw [e_]; rfl)⟩ : _ ∧ k_ ≠ go42))) (fun _ hk => hk.2) (.int .i64 (Go.bits .or .i64 (rd x146001_3 x12_2) (ji41)))) (fun _ hk => ⟨hk.1.1, hk.1.2⟩)⟩, ⟨by (with_reducible repeat first|apply rA|apply rN|apply rD); exact Kd.R_mono (Kd.R_far (p := ⟨go42, (x12_2 : Int).toNat, none⟩) (Kd.R_mono HO_9.out (fun k_ hk => (⟨hk, fun e_ => hk.2 (by rw [e_]; rfl)⟩ : _ ∧ k_ ≠ go42))) (fun _ hk => hk.2) (.int .i64 (Go.bits .or .i64 (rd x146001_3 x12_2) (ji41)))) (fun _ hk => ⟨hk.1.1, hk.1.2⟩)⟩, ⟨rQ HQ48⟩, ⟨by (with_reducible repeat first|apply qN|apply qD|apply qA); refine blk_far ?_ (by have h_ := Kd.R_ne HO_146001.out BK138.out (by decide); intro e_; exact h_ (by rw [e_]; rfl)) _; (with_reducible repeat first|apply qN|apply qD|apply qA); exact BK138.out⟩, ⟨by (with_reducible repeat first|apply qN|apply qD|apply qA); refine blk_far ?_ (by have h_ := Kd.R_ne HO_146001.out BK145.out (by decide); intro e_; exact h_ (by rw [e_]; rfl)) _; (with_reducible repeat first|apply qN|apply qD|apply qA); exact BK145.out⟩, ⟨iI⟩, ⟨kI⟩, ⟨by repeat (first | (with_reducible first | exact HB.out | apply bA | apply bN | apply bD | refine below_set ?_ (Nat.le_trans HL.out GB42.out) | refine below_set ?_ (IsS70.ge HI0.out) | refine below_set ?_ GE138.out | refine below_set ?_ GE145.out) | exact HB.out)⟩⟩
           ·rw [if_neg c38] at H
            have c38b0 := decide_eq_false c38
            clear c38
            by_cases c49 : t146 = 0
            ·rw [if_pos c49] at H
             have c49b0 : (t146 == 0) = true := beq_iff_eq.mpr c49
             have c49b1 : (t146 != 0) = false := bne_eq_false_iff_eq.mpr c49
             clear c49
             by_cases c50 : x12_2 < x13_3
             ·rw [if_pos c50] at H
              have c50b0 := decide_eq_true c50
              clear c50
              replace H := bS H
              obtain ⟨⟨t174, t175, t176⟩, A51, H⟩ := H
              try dsimp only at H
              by_cases c52 : t174 = true
              ·subst c52
               have H1 : (if x12_2 < (x146001_3.length : Int) then (Y1.l2 k3 t139 t146 x8_3 x9_3 x12_2 (wrap64 (x13_3 + 1)) s0_0 t175 t176 t139 (x146001_3.set (x12_2 : Int).toNat (Go.bits .or .i64 (rd x146001_3 x12_2) (shl .i64 1 x13_3)))) else (none)) = some (r1, r2, r3, r4) := by rw [if_pos rfl] at H; exact H
               clear H
               have H := H1
               clear H1
               replace H := iD H
               obtain ⟨c53b0, H⟩ := H
               have c54b0 := eq_true (odt : 0 ≤ x13_3)
               obtain ⟨ji55, hji55⟩ : ∃ j_ : Int, (shl .i64 1 x13_3) = j_ := ⟨_, rfl⟩
               replace H : (Y1.l2 k3 t139 t146 x8_3 x9_3 x12_2 (wrap64 (x13_3 + 1)) s0_0 t175 t176 t139 (x146001_3.set (x12_2 : Int).toNat (Go.bits .or .i64 (rd x146001_3 x12_2) (ji55)))) = some (r1, r2, r3, r4) := by first | (rw [hji55] at H; exact H) | (simp only [hji55] at H ⊢; exact H)
               (try rw [hji55] at A51)
               have hji55_ : (IntKind.i64.wrap (1 * 2 ^ min x13_3.toNat 64)) = ji55 := hji55
               have hji55z : x13_3 ≤ 64 → (IntKind.i64.wrap (1 * 2 ^ x13_3.toNat)) = ji55 := shl_small hji55
               have hji55u : (IntKind.i64.wrap (2 ^ min x13_3.toNat 64)) = ji55 := by have h_ := hji55_; rw [Int.one_mul] at h_; exact h_
               have hji55v : x13_3 ≤ 64 → (IntKind.i64.wrap (2 ^ x13_3.toNat)) = ji55 := fun hle_ => by have h_ := hji55z hle_; rw [Int.one_mul] at h_; exact h_
               have hji55y : (wrap64 (1 * 2 ^ min x13_3.toNat 64)) = ji55 := (i64_w _).symm.trans hji55_
               have hji55x : x13_3 ≤ 64 → (wrap64 (1 * 2 ^ x13_3.toNat)) = ji55 := fun h_ => (i64_w _).symm.trans (hji55z h_)
               obtain ⟨y178, hy178⟩ := nE ((x146001_3.set (x12_2 : Int).toNat (Go.bits .or .i64 (rd x146001_3 x12_2) (ji55))) : List Int)
               try rw [← hy178] at H
               try with_reducible replace H := (Option.bind_some _ _).symm.trans H
               try dsimp only at H
               have Ny178 := aM hy178
               clear hy178
               have H' := aM H
               clear H
               try go_wp2
               have n0_ := aM (Kd.R_drew HO_8.out)
               have n1_ := aM (Kd.R_drew HO_9.out)
               have n2_ := aM (Kd.R_drew HO_146001.out)
               have n3_ := aM (blk_drew BK138.out)
               have n4_ := aM (blk_drew BK145.out)
               have n5_ := aM (IsS70.drew HI0.out)
               have n6_ := aM (keep_drew HK.out)
               have n7_ := aM (below_drew1 HB.out)
               clear HO_8
               clear HO_9
               clear HO_146001
               clear BK138
               clear BK145
               clear HI0
               clear HK
               clear HB
               have HO_8 := n0_
               have HO_9 := n1_
               have HO_146001 := n2_
               have BK138 := n3_
               have BK145 := n4_
               have HI0 := n5_
               have HK := n6_
               have HB := n7_
               clear n0_ n1_ n2_ n3_ n4_ n5_ n6_ n7_
               obtain ⟨Ao58, co58, eo58⟩ := Kd.R_slice HO_9.out
               (first | subst eo58 | (injection eo58 with f1_ f2_ f3_; have f4_ := f1_.symm; have f5_ := f3_.symm; clear f1_ f2_ f3_; subst f4_; subst f5_))
               have p170 : 0 ≤ (x12_2 : Int) := odt
               have q170 : x12_2 < (x9_3.length : Int) := odt
               obtain ⟨ad170, e170, hx170_0⟩ := Kd.at_int (Kd.R_reads' HO_9.out).2.2 x12_2 p170 q170
               cases e170
               replace p170 := eq_true p170
               replace q170 := eq_true q170
               obtain ⟨Ao59, co59, eo59⟩ := Kd.R_slice HO_8.out
               (first | subst eo59 | (injection eo59 with f1_ f2_ f3_; have f4_ := f1_.symm; have f5_ := f3_.symm; clear f1_ f2_ f3_; subst f4_; subst f5_))
               have p171 : 0 ≤ (x13_3 : Int) := odt
               have q171 : x13_3 < (x8_3.length : Int) := odt
               obtain ⟨ad171, e171, hx171_0⟩ := Kd.at_int (Kd.R_reads' HO_8.out).2.2 x13_3 p171 q171
               cases e171
               replace p171 := eq_true p171
               replace q171 := eq_true q171
               refine start_ (n := 26) (S := fun w' => w'.cell? (ad170.add (x12_2).toNat) = some (.int .i64 (rd x9_3 x12_2)) ∧ w'.cell? (ad171.add (x13_3).toNat) = some (.int .i64 (rd x8_3 x13_3))) (ds := []) #[false, false, false, false, false, false, false, false, false, false, false, false, false, false, false, false, false, false, false, false, false, false, false, false, false, false] (by kernel_rfl) rfl rfl ⟨hx170_0, hx171_0⟩ (fun hHeld => ?_); refine with_tabW Y1.tab19 Y1.bits19 (fun HT_ HW_ => ?_)
               generalize wr.drew = w57 at HO_8 HO_9 HO_146001 BK138 BK145 HI0 HK HB hx170_0 hx171_0 hHeld ⊢
               refine pA 0 61 (h := ?_)
               refine pA 1 62 (h := ?_)
               refine pA 2 63 (h := ?_)
               refine pA 3 64 (h := ?_)
               refine pA 4 65 (h := ?_)
               refine pA 5 66 (h := ?_)
               refine pA 7 68 (h := ?_)
               refine pA 8 69 (h := ?_)
               refine pA 9 70 (h := ?_)
               refine tA 6 67 hHeld (h := ?_)
               refine tA 10 71 hHeld (h := ?_)
               refine pA 11 72 (h := ?_)
               refine pA 12 73 (h := ?_)
               refine pA 13 74 (h := ?_)
               refine pA 14 75 (h := ?_)
               refine pA 15 76 (h := ?_)
               refine pA 16 77 (h := ?_)
               refine pA 17 78 (h := ?_)
               refine pA 18 79 (h := ?_)
               refine pA 19 80 (h := ?_)
               refine pA 20 81 (h := ?_)
               refine pA 21 82 (h := ?_)
               refine pA 22 83 (h := ?_)
               refine one_ (i := 23) (N := some 84) #[true, true, true, true, true, true, true, true, true, true, true, true, true, true, true, true, true, true, true, true, true, true, true, true, false, false] rfl rfl (one_of HT_.out (by kernel_rfl)) (by decide) (fun K hK => ?_)
               refine goes_ Tryz.func65 (by kernel_rfl) rfl #[.pointer (some ⟨g, 0, none⟩), .int .i64 3] (by rfl) rfl rfl (by (try simp only [List.map_toArray, List.map_cons, List.map_nil]); first | done | rfl | (simp only [List.length_drop, List.length_take]; rfl)) ?_
               with_reducible refine (Y38.calls g s0_0 x1001_3 x1002_3 3 true t175 t176 w0 _ ?side1 ?side2 A51.out).mono ?_
               (case side1 => exact iI)
               (case side2 => exact bI)
               rintro e w60 ⟨rfl, hi, hb, hk⟩
               have HS0_ := keep_cell hk (hHeld.1) (by first | (rw [add_block]; exact Kd.own_blk (IsS70.own_ne HI0.out HO_9.out (by decide))) | (show (Addr.add _ _).block ≠ _; rw [add_block]; exact Kd.own_blk (IsS70.own_ne HI0.out HO_9.out (by decide))) | exact Kd.own_blk (IsS70.own_ne HI0.out HO_9.out (by decide)))
               have HS1_ := keep_cell hk (hHeld.2) (by first | (rw [add_block]; exact Kd.own_blk (IsS70.own_ne HI0.out HO_8.out (by decide))) | (show (Addr.add _ _).block ≠ _; rw [add_block]; exact Kd.own_blk (IsS70.own_ne HI0.out HO_8.out (by decide))) | exact Kd.own_blk (IsS70.own_ne HI0.out HO_8.out (by decide)))
               refine ⟨_, rfl, ?_⟩
               have n0_ := aM (Kd.R_mono (Kd.R_keep (IsS70.apart (show IsS70 w0 _ g s0_0 x1001_3 x1002_3 from iI) (rQ HO_8) (by decide)) hk (fun _ h => h.2)) (fun _ h => h.1))
               have n1_ := aM (Kd.R_mono (Kd.R_keep (IsS70.apart (show IsS70 w0 _ g s0_0 x1001_3 x1002_3 from iI) (rQ HO_9) (by decide)) hk (fun _ h => h.2)) (fun _ h => h.1))
               have n2_ := aM (Kd.R_mono (Kd.R_keep (IsS70.apart (show IsS70 w0 _ g s0_0 x1001_3 x1002_3 from iI) (rQ HO_146001) (by decide)) hk (fun _ h => h.2)) (fun _ h => h.1))
               have n3_ := aM (KeepBut.blk hk (g' := gb138) (o := .cells #[.int .i64 0, .slice none 0 0] 26 (0, 0)) (qQ BK138) NB138_0.out (by simp))
               have n4_ := aM (KeepBut.blk hk (g' := gb145) (o := .cells #[.int .i64 t139, u146001] 26 (0, 0)) (qQ BK145) NB145_0.out (by simp))
               have n5_ := aM (KeepBut.trans (kI (w := w)) hk (.inl rfl))
               have n6_ := aM (hb)
               have n7_ := aM (hi)
               clear HO_8
               clear HO_9
               clear HO_146001
               clear BK138
               clear BK145
               clear HK
               clear HB
               clear HI0
               have HO_8 := n0_
               have HO_9 := n1_
               have HO_146001 := n2_
               have BK138 := n3_
               have BK145 := n4_
               have HK := n5_
               have HB := n6_
               have HI0 := n7_
               clear n0_ n1_ n2_ n3_ n4_ n5_ n6_ n7_
               (try clear hb)
               (try clear hb2)
               (try clear hk)
               (try clear hi)
               refine hK.out _ _ ⟨HS0_, HS1_⟩ (fun hHeld => ?_)
               clear hK K
               refine nA 84 (h := ?_)
               refine pA 24 85 (h := ?_)
               refine pA 25 86 (h := ?_)
               refine done_ (done_of HT_.out (by kernel_rfl)) ?_
               try go_wp2
               have n0_ := aM (Kd.R_drew HO_8.out)
               have n1_ := aM (Kd.R_drew HO_9.out)
               have n2_ := aM (Kd.R_drew HO_146001.out)
               have n3_ := aM (blk_drew BK138.out)
               have n4_ := aM (blk_drew BK145.out)
               have n5_ := aM (IsS70.drew HI0.out)
               have n6_ := aM (keep_drew HK.out)
               have n7_ := aM (below_drew1 HB.out)
               clear HO_8
               clear HO_9
               clear HO_146001
               clear BK138
               clear BK145
               clear HI0
               clear HK
               clear HB
               have HO_8 := n0_
               have HO_9 := n1_
               have HO_146001 := n2_
               have BK138 := n3_
               have BK145 := n4_
               have HI0 := n5_
               have HK := n6_
               have HB := n7_
               clear n0_ n1_ n2_ n3_ n4_ n5_ n6_ n7_
               obtain ⟨Ao62, co62, eo62⟩ := Kd.R_slice HO_146001.out
               (first | subst eo62 | (injection eo62 with f1_ f2_ f3_; have f4_ := f1_.symm; have f5_ := f3_.symm; clear f1_ f2_ f3_; subst f4_; subst f5_))
               have p177 : 0 ≤ (x12_2 : Int) := odt
               have q177 : x12_2 < (x146001_3.length : Int) := odt
               obtain ⟨ad177, e177, hx177_0⟩ := Kd.at_int (Kd.R_reads' HO_146001.out).2.2 x12_2 p177 q177
               cases e177
               replace p177 := eq_true p177
               replace q177 := eq_true q177
               have p56 : 0 ≤ (x12_2 : Int) := odt
               have q56 : (x12_2 : Int) < ((x146001_3.length : Int) : Int) := odt
               obtain ⟨go56, co56, eo56, gb56, gl56, cl56, HG56⟩ := Kd.R_form HO_146001.out (by omega)
               (first | cases eo56 | (injection eo56 with ea_ en_ ec_; (first | subst ea_ | (injection ea_ with ea_; subst ea_)); subst ec_; clear en_))
               have GB56 := aM gb56
               have GG56 := aM HG56
               clear gb56 gl56 HG56
               (first | simp only [add_plain] at hx177_0 | skip)
               obtain ⟨hx56_0, hf56_0⟩ := Kd.R_celln 0 HO_146001.out (x12_2 : Int) p56 q56
               replace p56 := eq_true p56
               replace q56 := eq_true q56
               have HN0_go56 := aM (show g ≠ go56 from by have h_ := IsS70.own_ne HI0.out HO_146001.out (by decide); intro e_; exact h_ (by rw [e_]; rfl))
               have HP63 := Kd.R_putn HO_146001.out (x12_2 : Int) (Go.bits .or .i64 (rd x146001_3 x12_2) (ji55))
               rw [← Ny178.out] at HP63
               have HQ63 := aM HP63
               clear HP63
               refine start_ (n := 10) (S := fun w' => w'.cell? ⟨gb145, 0, none⟩ = some (.int .i64 t139) ∧ w'.cell? ⟨gb145, 1, none⟩ = some (.slice (some ⟨go56, 0, none⟩) x146001_3.length co62) ∧ w'.cell? ⟨go56, (x12_2).toNat, none⟩ = some (.int .i64 (rd x146001_3 x12_2))) (ds := [9]) #[false, false, false, false, false, false, false, false, false, false] (by kernel_rfl) rfl rfl ⟨(blk_cell BK145.out 0).trans rfl, (blk_cell BK145.out 1).trans rfl, hx177_0⟩ (fun hHeld => ?_); refine with_tabW Y1.tab20 Y1.bits20 (fun HT_ HW_ => ?_)
               generalize w60.drew = w61 at HO_8 HO_9 HO_146001 BK138 BK145 HI0 HK HB GG56 HQ63 hf56_0 hx177_0 hx56_0 hHeld ⊢
               refine pA 0 87 (h := ?_)
               refine pA 2 89 (h := ?_)
               refine pA 5 92 (h := ?_)
               refine pA 6 93 (h := ?_)
               refine tA 1 88 hHeld (h := ?_)
               refine pA 3 90 (h := ?_)
               refine tA 4 91 hHeld (h := ?_)
               refine pA 7 94 (h := ?_)
               refine pA 8 95 (h := ?_)
               refine last_ (i := 9) (N := none) #[true, true, true, true, true, true, true, true, true, true] rfl rfl (one_of HT_.out (by kernel_rfl)) (by decide) (fun K hK => ?_)
               refine skip_ (w1 := ?_) (by rfl) rfl ?_ ?_
               rotate_left
               ·go_simp
                rfl
               refine hK.out _ _ ?_
               clear hK K
               refine done_ (done_of HT_.out (by kernel_rfl)) ?_
               try go_wp2
               go_roundg k3
               case measure => have := HK1.out; have := HK2.out; have := HK3.out; omega
               case rel => exact ⟨(x8_3), (x9_3), (wrap64 (x13_3 + 1)), (t175), (t176), (y178), (.slice (some ⟨go56, 0, none⟩) x146001_3.length co62), eR, H', ⟨by have := HK1.out; have := HK2.out; have := HK3.out; omega⟩, ⟨by (with_reducible repeat first|apply rA|apply rN|apply rD); exact Kd.R_mono (Kd.R_far (p := ⟨go56, (x12_2 : Int).toNat, none⟩) (Kd.R_mono HO_8.out (fun k_ hk => (⟨hk, fun e_ => hk.2 (by rw [e_]; rfl)⟩ : _ ∧ k_ ≠ go56))) (fun _ hk => hk.2) (.int .i64 (Go.bits .or .i64 (rd x146001_3 x12_2) (ji55)))) (fun _ hk => ⟨hk.1.1, hk.1.2⟩)⟩, ⟨by (with_reducible repeat first|apply rA|apply rN|apply rD); exact Kd.R_mono (Kd.R_far (p := ⟨go56, (x12_2 : Int).toNat, none⟩) (Kd.R_mono HO_9.out (fun k_ hk => (⟨hk, fun e_ => hk.2 (by rw [e_]; rfl)⟩ : _ ∧ k_ ≠ go56))) (fun _ hk => hk.2) (.int .i64 (Go.bits .or .i64 (rd x146001_3 x12_2) (ji55)))) (fun _ hk => ⟨hk.1.1, hk.1.2⟩)⟩, ⟨rQ HQ63⟩, ⟨by (with_reducible repeat first|apply qN|apply qD|apply qA); refine blk_far ?_ (by have h_ := Kd.R_ne HO_146001.out BK138.out (by decide); intro e_; exact h_ (by rw [e_]; rfl)) _; (with_reducible repeat first|apply qN|apply qD|apply qA); exact BK138.out⟩, ⟨by (with_reducible repeat first|apply qN|apply qD|apply qA); refine blk_far ?_ (by have h_ := Kd.R_ne HO_146001.out BK145.out (by decide); intro e_; exact h_ (by rw [e_]; rfl)) _; (with_reducible repeat first|apply qN|apply qD|apply qA); exact BK145.out⟩, ⟨iI⟩, ⟨kI⟩, ⟨by repeat (first | (with_reducible first | exact HB.out | apply bA | apply bN | apply bD | refine below_set ?_ (Nat.le_trans HL.out GB56.out) | refine below_set ?_ (IsS70.ge HI0.out) | refine below_set ?_ GE138.out | refine below_set ?_ GE145.out) | exact HB.out)⟩⟩
              ·replace c52 := Bool.eq_false_iff.mpr c52
               subst c52
               have H1 : (Y1.l2 k3 t139 t146 x8_3 x9_3 x12_2 (wrap64 (x13_3 + 1)) s0_0 t175 t176 t139 x146001_3) = some (r1, r2, r3, r4) := by rw [if_neg (show ¬ (false = true) by decide)] at H; exact H
               clear H
               have H := H1
               clear H1
               have H' := aM H
               clear H
               try go_wp2
               have n0_ := aM (Kd.R_drew HO_8.out)
               have n1_ := aM (Kd.R_drew HO_9.out)
               have n2_ := aM (Kd.R_drew HO_146001.out)
               have n3_ := aM (blk_drew BK138.out)
               have n4_ := aM (blk_drew BK145.out)
               have n5_ := aM (IsS70.drew HI0.out)
               have n6_ := aM (keep_drew HK.out)
               have n7_ := aM (below_drew1 HB.out)
               clear HO_8
               clear HO_9
               clear HO_146001
               clear BK138
               clear BK145
               clear HI0
               clear HK
               clear HB
               have HO_8 := n0_
               have HO_9 := n1_
               have HO_146001 := n2_
               have BK138 := n3_
               have BK145 := n4_
               have HI0 := n5_
               have HK := n6_
               have HB := n7_
               clear n0_ n1_ n2_ n3_ n4_ n5_ n6_ n7_
               obtain ⟨Ao65, co65, eo65⟩ := Kd.R_slice HO_9.out
               (first | subst eo65 | (injection eo65 with f1_ f2_ f3_; have f4_ := f1_.symm; have f5_ := f3_.symm; clear f1_ f2_ f3_; subst f4_; subst f5_))
               have p170 : 0 ≤ (x12_2 : Int) := odt
               have q170 : x12_2 < (x9_3.length : Int) := odt
               obtain ⟨ad170, e170, hx170_0⟩ := Kd.at_int (Kd.R_reads' HO_9.out).2.2 x12_2 p170 q170
               cases e170
               replace p170 := eq_true p170
               replace q170 := eq_true q170
               obtain ⟨Ao66, co66, eo66⟩ := Kd.R_slice HO_8.out
               (first | subst eo66 | (injection eo66 with f1_ f2_ f3_; have f4_ := f1_.symm; have f5_ := f3_.symm; clear f1_ f2_ f3_; subst f4_; subst f5_))
               have p171 : 0 ≤ (x13_3 : Int) := odt
               have q171 : x13_3 < (x8_3.length : Int) := odt
               obtain ⟨ad171, e171, hx171_0⟩ := Kd.at_int (Kd.R_reads' HO_8.out).2.2 x13_3 p171 q171
               cases e171
               replace p171 := eq_true p171
               replace q171 := eq_true q171
               refine start_ (n := 26) (S := fun w' => w'.cell? (ad170.add (x12_2).toNat) = some (.int .i64 (rd x9_3 x12_2)) ∧ w'.cell? (ad171.add (x13_3).toNat) = some (.int .i64 (rd x8_3 x13_3))) (ds := []) #[false, false, false, false, false, false, false, false, false, false, false, false, false, false, false, false, false, false, false, false, false, false, false, false, false, false] (by kernel_rfl) rfl rfl ⟨hx170_0, hx171_0⟩ (fun hHeld => ?_); refine with_tabW Y1.tab19 Y1.bits19 (fun HT_ HW_ => ?_)
               generalize wr.drew = w64 at HO_8 HO_9 HO_146001 BK138 BK145 HI0 HK HB hx170_0 hx171_0 hHeld ⊢
               refine pA 0 61 (h := ?_)
               refine pA 1 62 (h := ?_)
               refine pA 2 63 (h := ?_)
               refine pA 3 64 (h := ?_)
               refine pA 4 65 (h := ?_)
               refine pA 5 66 (h := ?_)
               refine pA 7 68 (h := ?_)
               refine pA 8 69 (h := ?_)
               refine pA 9 70 (h := ?_)
               refine tA 6 67 hHeld (h := ?_)
               refine tA 10 71 hHeld (h := ?_)
               refine pA 11 72 (h := ?_)
               refine pA 12 73 (h := ?_)
               refine pA 13 74 (h := ?_)
               refine pA 14 75 (h := ?_)
               refine pA 15 76 (h := ?_)
               refine pA 16 77 (h := ?_)
               refine pA 17 78 (h := ?_)
               refine pA 18 79 (h := ?_)
               refine pA 19 80 (h := ?_)
               refine pA 20 81 (h := ?_)
               refine pA 21 82 (h := ?_)
               refine pA 22 83 (h := ?_)
               refine one_ (i := 23) (N := some 84) #[true, true, true, true, true, true, true, true, true, true, true, true, true, true, true, true, true, true, true, true, true, true, true, true, false, false] rfl rfl (one_of HT_.out (by kernel_rfl)) (by decide) (fun K hK => ?_)
               refine goes_ Tryz.func65 (by kernel_rfl) rfl #[.pointer (some ⟨g, 0, none⟩), .int .i64 3] (by rfl) rfl rfl (by (try simp only [List.map_toArray, List.map_cons, List.map_nil]); first | done | rfl | (simp only [List.length_drop, List.length_take]; rfl)) ?_
               with_reducible refine (Y38.calls g s0_0 x1001_3 x1002_3 3 false t175 t176 w0 _ ?side1 ?side2 A51.out).mono ?_
               (case side1 => exact iI)
               (case side2 => exact bI)
               rintro e w67 ⟨rfl, hi, hb, hk⟩
               have HS0_ := keep_cell hk (hHeld.1) (by first | (rw [add_block]; exact Kd.own_blk (IsS70.own_ne HI0.out HO_9.out (by decide))) | (show (Addr.add _ _).block ≠ _; rw [add_block]; exact Kd.own_blk (IsS70.own_ne HI0.out HO_9.out (by decide))) | exact Kd.own_blk (IsS70.own_ne HI0.out HO_9.out (by decide)))
               have HS1_ := keep_cell hk (hHeld.2) (by first | (rw [add_block]; exact Kd.own_blk (IsS70.own_ne HI0.out HO_8.out (by decide))) | (show (Addr.add _ _).block ≠ _; rw [add_block]; exact Kd.own_blk (IsS70.own_ne HI0.out HO_8.out (by decide))) | exact Kd.own_blk (IsS70.own_ne HI0.out HO_8.out (by decide)))
               refine ⟨_, rfl, ?_⟩
               have n0_ := aM (Kd.R_mono (Kd.R_keep (IsS70.apart (show IsS70 w0 _ g s0_0 x1001_3 x1002_3 from iI) (rQ HO_8) (by decide)) hk (fun _ h => h.2)) (fun _ h => h.1))
               have n1_ := aM (Kd.R_mono (Kd.R_keep (IsS70.apart (show IsS70 w0 _ g s0_0 x1001_3 x1002_3 from iI) (rQ HO_9) (by decide)) hk (fun _ h => h.2)) (fun _ h => h.1))
               have n2_ := aM (Kd.R_mono (Kd.R_keep (IsS70.apart (show IsS70 w0 _ g s0_0 x1001_3 x1002_3 from iI) (rQ HO_146001) (by decide)) hk (fun _ h => h.2)) (fun _ h => h.1))
               have n3_ := aM (KeepBut.blk hk (g' := gb138) (o := .cells #[.int .i64 0, .slice none 0 0] 26 (0, 0)) (qQ BK138) NB138_0.out (by simp))
               have n4_ := aM (KeepBut.blk hk (g' := gb145) (o := .cells #[.int .i64 t139, u146001] 26 (0, 0)) (qQ BK145) NB145_0.out (by simp))
               have n5_ := aM (KeepBut.trans (kI (w := w)) hk (.inl rfl))
               have n6_ := aM (hb)
               have n7_ := aM (hi)
               clear HO_8
               clear HO_9
               clear HO_146001
               clear BK138
               clear BK145
               clear HK
               clear HB
               clear HI0
               have HO_8 := n0_
               have HO_9 := n1_
               have HO_146001 := n2_
               have BK138 := n3_
               have BK145 := n4_
               have HK := n5_
               have HB := n6_
               have HI0 := n7_
               clear n0_ n1_ n2_ n3_ n4_ n5_ n6_ n7_
               (try clear hb)
               (try clear hb2)
               (try clear hk)
               (try clear hi)
               refine hK.out _ _ ⟨HS0_, HS1_⟩ (fun hHeld => ?_)
               clear hK K
               refine nA 84 (h := ?_)
               refine pA 24 85 (h := ?_)
               refine pA 25 86 (h := ?_)
               refine done_ (done_of HT_.out (by kernel_rfl)) ?_
               try go_wp2
               go_roundg k3
               case measure => have := HK1.out; have := HK2.out; have := HK3.out; omega
               case rel => exact ⟨(x8_3), (x9_3), (wrap64 (x13_3 + 1)), (t175), (t176), (x146001_3), (u146001), eR, H', ⟨by have := HK1.out; have := HK2.out; have := HK3.out; omega⟩, ⟨rQ HO_8⟩, ⟨rQ HO_9⟩, ⟨rQ HO_146001⟩, ⟨qQ BK138⟩, ⟨qQ BK145⟩, ⟨iI⟩, ⟨kI⟩, ⟨bI⟩⟩
             ·rw [if_neg c50] at H
              have c50b0 := decide_eq_false c50
              clear c50
              have H' := aM H
              clear H
              try go_wp2
              have n0_ := aM (Kd.R_drew HO_8.out)
              have n1_ := aM (Kd.R_drew HO_9.out)
              have n2_ := aM (Kd.R_drew HO_146001.out)
              have n3_ := aM (blk_drew BK138.out)
              have n4_ := aM (blk_drew BK145.out)
              have n5_ := aM (IsS70.drew HI0.out)
              have n6_ := aM (keep_drew HK.out)
              have n7_ := aM (below_drew1 HB.out)
              clear HO_8
              clear HO_9
              clear HO_146001
              clear BK138
              clear BK145
              clear HI0
              clear HK
              clear HB
              have HO_8 := n0_
              have HO_9 := n1_
              have HO_146001 := n2_
              have BK138 := n3_
              have BK145 := n4_
              have HI0 := n5_
              have HK := n6_
              have HB := n7_
              clear n0_ n1_ n2_ n3_ n4_ n5_ n6_ n7_
              obtain ⟨Ao69, co69, eo69⟩ := Kd.R_slice HO_9.out
              (first | subst eo69 | (injection eo69 with f1_ f2_ f3_; have f4_ := f1_.symm; have f5_ := f3_.symm; clear f1_ f2_ f3_; subst f4_; subst f5_))
              have p170 : 0 ≤ (x12_2 : Int) := odt
              have q170 : x12_2 < (x9_3.length : Int) := odt
              obtain ⟨ad170, e170, hx170_0⟩ := Kd.at_int (Kd.R_reads' HO_9.out).2.2 x12_2 p170 q170
              cases e170
              replace p170 := eq_true p170
              replace q170 := eq_true q170
              obtain ⟨Ao70, co70, eo70⟩ := Kd.R_slice HO_8.out
              (first | subst eo70 | (injection eo70 with f1_ f2_ f3_; have f4_ := f1_.symm; have f5_ := f3_.symm; clear f1_ f2_ f3_; subst f4_; subst f5_))
              have p171 : 0 ≤ (x13_3 : Int) := odt
              have q171 : x13_3 < (x8_3.length : Int) := odt
              obtain ⟨ad171, e171, hx171_0⟩ := Kd.at_int (Kd.R_reads' HO_8.out).2.2 x13_3 p171 q171
              cases e171
              replace p171 := eq_true p171
              replace q171 := eq_true q171
              refine start_ (n := 26) (S := fun w' => w'.cell? (ad170.add (x12_2).toNat) = some (.int .i64 (rd x9_3 x12_2)) ∧ w'.cell? (ad171.add (x13_3).toNat) = some (.int .i64 (rd x8_3 x13_3))) (ds := []) #[false, false, false, false, false, false, false, false, false, false, false, false, false, false, false, false, false, false, false, false, false, false, false, false, false, false] (by kernel_rfl) rfl rfl ⟨hx170_0, hx171_0⟩ (fun hHeld => ?_); refine with_tabW Y1.tab19 Y1.bits19 (fun HT_ HW_ => ?_)
              generalize wr.drew = w68 at HO_8 HO_9 HO_146001 BK138 BK145 HI0 HK HB hx170_0 hx171_0 hHeld ⊢
              refine pA 0 61 (h := ?_)
              refine pA 1 62 (h := ?_)
              refine pA 2 63 (h := ?_)
              refine pA 3 64 (h := ?_)
              refine pA 4 65 (h := ?_)
              refine pA 5 66 (h := ?_)
              refine pA 7 68 (h := ?_)
              refine pA 8 69 (h := ?_)
              refine pA 9 70 (h := ?_)
              refine tA 6 67 hHeld (h := ?_)
              refine tA 10 71 hHeld (h := ?_)
              refine pA 11 72 (h := ?_)
              refine pA 12 73 (h := ?_)
              refine pA 13 74 (h := ?_)
              refine pA 14 75 (h := ?_)
              refine pA 15 76 (h := ?_)
              refine pA 16 77 (h := ?_)
              refine pA 17 78 (h := ?_)
              refine pA 18 79 (h := ?_)
              refine pA 19 80 (h := ?_)
              refine pA 20 81 (h := ?_)
              refine pA 21 82 (h := ?_)
              refine pure_ (i := 22) (N := some 83) (v := undef) (a' := ?_) #[true, true, true, true, true, true, true, true, true, true, true, true, true, true, true, true, true, true, true, true, true, true, true, false, false, false] rfl rfl (any_of HT_.out (by kernel_rfl)) (fun _ _ _ h => h) (Or.inr ⟨by rfl, rfl⟩) ?_ ?_
              rotate_left
              ·simp only [Act.put, List.setIfInBounds_toArray, List.set_cons_zero, List.set_cons_succ, i64_w, i32_w]
               rfl
              refine pure_ (i := 23) (N := some 84) (v := undef) (a' := ?_) #[true, true, true, true, true, true, true, true, true, true, true, true, true, true, true, true, true, true, true, true, true, true, true, true, false, false] rfl rfl (any_of HT_.out (by kernel_rfl)) (fun _ _ _ h => h) (Or.inr ⟨by rfl, rfl⟩) ?_ ?_
              rotate_left
              ·simp only [Act.put, List.setIfInBounds_toArray, List.set_cons_zero, List.set_cons_succ, i64_w, i32_w]
               rfl
              refine pA 24 85 (h := ?_)
              refine pA 25 86 (h := ?_)
              refine done_ (done_of HT_.out (by kernel_rfl)) ?_
              try go_wp2
              go_roundg k3
              case measure => have := HK1.out; have := HK2.out; have := HK3.out; omega
              case rel => exact ⟨(x8_3), (x9_3), (wrap64 (x13_3 + 1)), (x1001_3), (x1002_3), (x146001_3), (u146001), eR, H', ⟨by have := HK1.out; have := HK2.out; have := HK3.out; omega⟩, ⟨rQ HO_8⟩, ⟨rQ HO_9⟩, ⟨rQ HO_146001⟩, ⟨qQ BK138⟩, ⟨qQ BK145⟩, ⟨iI⟩, ⟨kI⟩, ⟨bI⟩⟩
            ·rw [if_neg c49] at H
             have c49b0 : (t146 == 0) = false := beq_eq_false_iff_ne.mpr c49
             have c49b1 : (t146 != 0) = true := bne_iff_ne.mpr c49
             have H' := aM H
             clear H
             try go_wp2
             have n0_ := aM (Kd.R_drew HO_8.out)
             have n1_ := aM (Kd.R_drew HO_9.out)
             have n2_ := aM (Kd.R_drew HO_146001.out)
             have n3_ := aM (blk_drew BK138.out)
             have n4_ := aM (blk_drew BK145.out)
             have n5_ := aM (IsS70.drew HI0.out)
             have n6_ := aM (keep_drew HK.out)
             have n7_ := aM (below_drew1 HB.out)
             clear HO_8
             clear HO_9
             clear HO_146001
             clear BK138
             clear BK145
             clear HI0
             clear HK
             clear HB
             have HO_8 := n0_
             have HO_9 := n1_
             have HO_146001 := n2_
             have BK138 := n3_
             have BK145 := n4_
             have HI0 := n5_
             have HK := n6_
             have HB := n7_
             clear n0_ n1_ n2_ n3_ n4_ n5_ n6_ n7_
             obtain ⟨Ao72, co72, eo72⟩ := Kd.R_slice HO_9.out
             (first | subst eo72 | (injection eo72 with f1_ f2_ f3_; have f4_ := f1_.symm; have f5_ := f3_.symm; clear f1_ f2_ f3_; subst f4_; subst f5_))
             have p170 : 0 ≤ (x12_2 : Int) := odt
             have q170 : x12_2 < (x9_3.length : Int) := odt
             obtain ⟨ad170, e170, hx170_0⟩ := Kd.at_int (Kd.R_reads' HO_9.out).2.2 x12_2 p170 q170
             cases e170
             replace p170 := eq_true p170
             replace q170 := eq_true q170
             obtain ⟨Ao73, co73, eo73⟩ := Kd.R_slice HO_8.out
             (first | subst eo73 | (injection eo73 with f1_ f2_ f3_; have f4_ := f1_.symm; have f5_ := f3_.symm; clear f1_ f2_ f3_; subst f4_; subst f5_))
             have p171 : 0 ≤ (x13_3 : Int) := odt
             have q171 : x13_3 < (x8_3.length : Int) := odt
             obtain ⟨ad171, e171, hx171_0⟩ := Kd.at_int (Kd.R_reads' HO_8.out).2.2 x13_3 p171 q171
             cases e171
             replace p171 := eq_true p171
             replace q171 := eq_true q171
             refine start_ (n := 26) (S := fun w' => w'.cell? (ad170.add (x12_2).toNat) = some (.int .i64 (rd x9_3 x12_2)) ∧ w'.cell? (ad171.add (x13_3).toNat) = some (.int .i64 (rd x8_3 x13_3))) (ds := []) #[false, false, false, false, false, false, false, false, false, false, false, false, false, false, false, false, false, false, false, false, false, false, false, false, false, false] (by kernel_rfl) rfl rfl ⟨hx170_0, hx171_0⟩ (fun hHeld => ?_); refine with_tabW Y1.tab19 Y1.bits19 (fun HT_ HW_ => ?_)
             generalize wr.drew = w71 at HO_8 HO_9 HO_146001 BK138 BK145 HI0 HK HB hx170_0 hx171_0 hHeld ⊢
             refine pA 0 61 (h := ?_)
             refine pA 1 62 (h := ?_)
             refine pA 2 63 (h := ?_)
             refine pA 3 64 (h := ?_)
             refine pA 4 65 (h := ?_)
             refine pA 5 66 (h := ?_)
             refine pA 7 68 (h := ?_)
             refine pA 8 69 (h := ?_)
             refine pA 9 70 (h := ?_)
             refine tA 6 67 hHeld (h := ?_)
             refine tA 10 71 hHeld (h := ?_)
             refine pA 11 72 (h := ?_)
             refine pA 12 73 (h := ?_)
             refine pA 13 74 (h := ?_)
             refine pA 14 75 (h := ?_)
             refine pA 15 76 (h := ?_)
             refine pA 16 77 (h := ?_)
             refine pure_ (i := 17) (N := some 78) (v := undef) (a' := ?_) #[true, true, true, true, true, true, true, true, true, true, true, true, true, true, true, true, true, true, false, false, false, false, false, false, false, false] rfl rfl (any_of HT_.out (by kernel_rfl)) (fun _ _ _ h => h) (Or.inr ⟨by rfl, rfl⟩) ?_ ?_
             rotate_left
             ·simp only [Act.put, List.setIfInBounds_toArray, List.set_cons_zero, List.set_cons_succ, i64_w, i32_w]
              rfl
             refine pure_ (i := 18) (N := some 79) (v := undef) (a' := ?_) #[true, true, true, true, true, true, true, true, true, true, true, true, true, true, true, true, true, true, true, false, false, false, false, false, false, false] rfl rfl (any_of HT_.out (by kernel_rfl)) (fun _ _ _ h => h) (Or.inr ⟨by rfl, rfl⟩) ?_ ?_
             rotate_left
             ·simp only [Act.put, List.setIfInBounds_toArray, List.set_cons_zero, List.set_cons_succ, i64_w, i32_w]
              rfl
             refine pure_ (i := 19) (N := some 80) (v := undef) (a' := ?_) #[true, true, true, true, true, true, true, true, true, true, true, true, true, true, true, true, true, true, true, true, false, false, false, false, false, false] rfl rfl (any_of HT_.out (by kernel_rfl)) (fun _ _ _ h => h) (Or.inr ⟨by rfl, rfl⟩) ?_ ?_
             rotate_left
             ·simp only [Act.put, List.setIfInBounds_toArray, List.set_cons_zero, List.set_cons_succ, i64_w, i32_w]
              rfl
             refine pA 20 81 (h := ?_)
             refine pA 21 82 (h := ?_)
             refine pure_ (i := 22) (N := some 83) (v := undef) (a' := ?_) #[true, true, true, true, true, true, true, true, true, true, true, true, true, true, true, true, true, true, true, true, true, true, true, false, false, false] rfl rfl (any_of HT_.out (by kernel_rfl)) (fun _ _ _ h => h) (Or.inr ⟨by rfl, rfl⟩) ?_ ?_
             rotate_left
             ·simp only [Act.put, List.setIfInBounds_toArray, List.set_cons_zero, List.set_cons_succ, i64_w, i32_w]
              rfl
             refine pure_ (i := 23) (N := some 84) (v := undef) (a' := ?_) #[true, true, true, true, true, true, true, true, true, true, true, true, true, true, true, true, true, true, true, true, true, true, true, true, false, false] rfl rfl (any_of HT_.out (by kernel_rfl)) (fun _ _ _ h => h) (Or.inr ⟨by rfl, rfl⟩) ?_ ?_
             rotate_left
             ·simp only [Act.put, List.setIfInBounds_toArray, List.set_cons_zero, List.set_cons_succ, i64_w, i32_w]
              rfl
             refine pA 24 85 (h := ?_)
             refine pA 25 86 (h := ?_)
             refine done_ (done_of HT_.out (by kernel_rfl)) ?_
             try go_wp2
             go_roundg k3
             case measure => have := HK1.out; have := HK2.out; have := HK3.out; omega
             case rel => exact ⟨(x8_3), (x9_3), (wrap64 (x13_3 + 1)), (x1001_3), (x1002_3), (x146001_3), (u146001), eR, H', ⟨by have := HK1.out; have := HK2.out; have := HK3.out; omega⟩, ⟨rQ HO_8⟩, ⟨rQ HO_9⟩, ⟨rQ HO_146001⟩, ⟨qQ BK138⟩, ⟨qQ BK145⟩, ⟨iI⟩, ⟨kI⟩, ⟨bI⟩⟩
          ·rw [if_neg c33] at H
           have c33b0 := decide_eq_false c33
           clear c33
           by_cases c74 : t146 = 0
           ·rw [if_pos c74] at H
            have c74b0 : (t146 == 0) = true := beq_iff_eq.mpr c74
            have c74b1 : (t146 != 0) = false := bne_eq_false_iff_eq.mpr c74
            clear c74
            by_cases c75 : x12_2 < x13_3
            ·rw [if_pos c75] at H
             have c75b0 := decide_eq_true c75
             clear c75
             replace H := bS H
             obtain ⟨⟨t179, t180, t181⟩, A76, H⟩ := H
             try dsimp only at H
             by_cases c77 : t179 = true
             ·subst c77
              have H1 : (if 0 ≤ x12_2 then (if x12_2 < (x146001_3.length : Int) then (if 0 ≤ x13_3 then (Y1.l2 k3 t139 t146 x8_3 x9_3 x12_2 (wrap64 (x13_3 + 1)) s0_0 t180 t181 t139 (x146001_3.set (x12_2 : Int).toNat (Go.bits .or .i64 (rd x146001_3 x12_2) (shl .i64 1 x13_3)))) else (none)) else (none)) else (none)) = some (r1, r2, r3, r4) := by rw [if_pos rfl] at H; exact H
              clear H
              have H := H1
              clear H1
              replace H := iD2 H
              obtain ⟨c78b0, c79b0, H⟩ := H
              replace H := iS H
              obtain ⟨c80, H⟩ := H
              have c80b0 := eq_true c80
              have c80b1 := decide_eq_true c80
              clear c80
              obtain ⟨ji81, hji81⟩ : ∃ j_ : Int, (shl .i64 1 x13_3) = j_ := ⟨_, rfl⟩
              replace H : (Y1.l2 k3 t139 t146 x8_3 x9_3 x12_2 (wrap64 (x13_3 + 1)) s0_0 t180 t181 t139 (x146001_3.set (x12_2 : Int).toNat (Go.bits .or .i64 (rd x146001_3 x12_2) (ji81)))) = some (r1, r2, r3, r4) := by first | (rw [hji81] at H; exact H) | (simp only [hji81] at H ⊢; exact H)
              (try rw [hji81] at A76)
              have hji81_ : (IntKind.i64.wrap (1 * 2 ^ min x13_3.toNat 64)) = ji81 := hji81
              have hji81z : x13_3 ≤ 64 → (IntKind.i64.wrap (1 * 2 ^ x13_3.toNat)) = ji81 := shl_small hji81
              have hji81u : (IntKind.i64.wrap (2 ^ min x13_3.toNat 64)) = ji81 := by have h_ := hji81_; rw [Int.one_mul] at h_; exact h_
              have hji81v : x13_3 ≤ 64 → (IntKind.i64.wrap (2 ^ x13_3.toNat)) = ji81 := fun hle_ => by have h_ := hji81z hle_; rw [Int.one_mul] at h_; exact h_
              have hji81y : (wrap64 (1 * 2 ^ min x13_3.toNat 64)) = ji81 := (i64_w _).symm.trans hji81_
              have hji81x : x13_3 ≤ 64 → (wrap64 (1 * 2 ^ x13_3.toNat)) = ji81 := fun h_ => (i64_w _).symm.trans (hji81z h_)
              obtain ⟨y183, hy183⟩ := nE ((x146001_3.set (x12_2 : Int).toNat (Go.bits .or .i64 (rd x146001_3 x12_2) (ji81))) : List Int)
              try rw [← hy183] at H
              try with_reducible replace H := (Option.bind_some _ _).symm.trans H
              try dsimp only at H
              have Ny183 := aM hy183
              clear hy183
              have H' := aM H
              clear H
              try go_wp2
              have n0_ := aM (Kd.R_drew HO_8.out)
              have n1_ := aM (Kd.R_drew HO_9.out)
              have n2_ := aM (Kd.R_drew HO_146001.out)
              have n3_ := aM (blk_drew BK138.out)
              have n4_ := aM (blk_drew BK145.out)
              have n5_ := aM (IsS70.drew HI0.out)
              have n6_ := aM (keep_drew HK.out)
              have n7_ := aM (below_drew1 HB.out)
              clear HO_8
              clear HO_9
              clear HO_146001
              clear BK138
              clear BK145
              clear HI0
              clear HK
              clear HB
              have HO_8 := n0_
              have HO_9 := n1_
              have HO_146001 := n2_
              have BK138 := n3_
              have BK145 := n4_
              have HI0 := n5_
              have HK := n6_
              have HB := n7_
              clear n0_ n1_ n2_ n3_ n4_ n5_ n6_ n7_
              refine start_ (n := 26) (S := fun w' => True) (ds := []) #[false, false, false, false, false, false, false, false, false, false, false, false, false, false, false, false, false, false, false, false, false, false, false, false, false, false] (by kernel_rfl) rfl rfl trivial (fun hHeld => ?_); refine with_tabW Y1.tab19 Y1.bits19 (fun HT_ HW_ => ?_)
              generalize wr.drew = w83 at HO_8 HO_9 HO_146001 BK138 BK145 HI0 HK HB hHeld ⊢
              refine pA 0 61 (h := ?_)
              refine pA 1 62 (h := ?_)
              refine pA 2 63 (h := ?_)
              refine pure_ (i := 3) (N := some 64) (v := undef) (a' := ?_) #[true, true, true, true, false, false, false, false, false, false, false, false, false, false, false, false, false, false, false, false, false, false, false, false, false, false] rfl rfl (any_of HT_.out (by kernel_rfl)) (fun _ _ _ h => h) (Or.inr ⟨by rfl, rfl⟩) ?_ ?_
              rotate_left
              ·simp only [Act.put, List.setIfInBounds_toArray, List.set_cons_zero, List.set_cons_succ, i64_w, i32_w]
               rfl
              refine pure_ (i := 4) (N := some 65) (v := undef) (a' := ?_) #[true, true, true, true, true, false, false, false, false, false, false, false, false, false, false, false, false, false, false, false, false, false, false, false, false, false] rfl rfl (any_of HT_.out (by kernel_rfl)) (fun _ _ _ h => h) (Or.inr ⟨by rfl, rfl⟩) ?_ ?_
              rotate_left
              ·simp only [Act.put, List.setIfInBounds_toArray, List.set_cons_zero, List.set_cons_succ, i64_w, i32_w]
               rfl
              refine pure_ (i := 5) (N := some 66) (v := undef) (a' := ?_) #[true, true, true, true, true, true, false, false, false, false, false, false, false, false, false, false, false, false, false, false, false, false, false, false, false, false] rfl rfl (any_of HT_.out (by kernel_rfl)) (fun _ _ _ h => h) (Or.inr ⟨by rfl, rfl⟩) ?_ ?_
              rotate_left
              ·simp only [Act.put, List.setIfInBounds_toArray, List.set_cons_zero, List.set_cons_succ, i64_w, i32_w]
               rfl
              refine pure_ (i := 6) (N := some 67) (v := undef) (a' := ?_) #[true, true, true, true, true, true, true, false, false, false, false, false, false, false, false, false, false, false, false, false, false, false, false, false, false, false] rfl rfl (any_of HT_.out (by kernel_rfl)) (fun _ _ _ h => h) (Or.inr ⟨by rfl, rfl⟩) ?_ ?_
              rotate_left
              ·simp only [Act.put, List.setIfInBounds_toArray, List.set_cons_zero, List.set_cons_succ, i64_w, i32_w]
               rfl
              refine pure_ (i := 7) (N := some 68) (v := undef) (a' := ?_) #[true, true, true, true, true, true, true, true, false, false, false, false, false, false, false, false, false, false, false, false, false, false, false, false, false, false] rfl rfl (any_of HT_.out (by kernel_rfl)) (fun _ _ _ h => h) (Or.inr ⟨by rfl, rfl⟩) ?_ ?_
              rotate_left
              ·simp only [Act.put, List.setIfInBounds_toArray, List.set_cons_zero, List.set_cons_succ, i64_w, i32_w]
               rfl
              refine pure_ (i := 8) (N := some 69) (v := undef) (a' := ?_) #[true, true, true, true, true, true, true, true, true, false, false, false, false, false, false, false, false, false, false, false, false, false, false, false, false, false] rfl rfl (any_of HT_.out (by kernel_rfl)) (fun _ _ _ h => h) (Or.inr ⟨by rfl, rfl⟩) ?_ ?_
              rotate_left
              ·simp only [Act.put, List.setIfInBounds_toArray, List.set_cons_zero, List.set_cons_succ, i64_w, i32_w]
               rfl
              refine pure_ (i := 9) (N := some 70) (v := undef) (a' := ?_) #[true, true, true, true, true, true, true, true, true, true, false, false, false, false, false, false, false, false, false, false, false, false, false, false, false, false] rfl rfl (any_of HT_.out (by kernel_rfl)) (fun _ _ _ h => h) (Or.inr ⟨by rfl, rfl⟩) ?_ ?_
              rotate_left
              ·simp only [Act.put, List.setIfInBounds_toArray, List.set_cons_zero, List.set_cons_succ, i64_w, i32_w]
               rfl
              refine pure_ (i := 10) (N := some 71) (v := undef) (a' := ?_) #[true, true, true, true, true, true, true, true, true, true, true, false, false, false, false, false, false, false, false, false, false, false, false, false, false, false] rfl rfl (any_of HT_.out (by kernel_rfl)) (fun _ _ _ h => h) (Or.inr ⟨by rfl, rfl⟩) ?_ ?_
              rotate_left
              ·simp only [Act.put, List.setIfInBounds_toArray, List.set_cons_zero, List.set_cons_succ, i64_w, i32_w]
               rfl
              refine pure_ (i := 11) (N := some 72) (v := undef) (a' := ?_) #[true, true, true, true, true, true, true, true, true, true, true, true, false, false, false, false, false, false, false, false, false, false, false, false, false, false] rfl rfl (any_of HT_.out (by kernel_rfl)) (fun _ _ _ h => h) (Or.inr ⟨by rfl, rfl⟩) ?_ ?_
              rotate_left
              ·simp only [Act.put, List.setIfInBounds_toArray, List.set_cons_zero, List.set_cons_succ, i64_w, i32_w]
               rfl
              refine pA 12 73 (h := ?_)
              refine pA 13 74 (h := ?_)
              refine pA 14 75 (h := ?_)
              refine pA 15 76 (h := ?_)
              refine pA 16 77 (h := ?_)
              refine pA 17 78 (h := ?_)
              refine pA 18 79 (h := ?_)
              refine pA 19 80 (h := ?_)
              refine pA 20 81 (h := ?_)
              refine pA 21 82 (h := ?_)
              refine pA 22 83 (h := ?_)
              refine one_ (i := 23) (N := some 84) #[true, true, true, true, true, true, true, true, true, true, true, true, true, true, true, true, true, true, true, true, true, true, true, true, false, false] rfl rfl (one_of HT_.out (by kernel_rfl)) (by decide) (fun K hK => ?_)
              refine goes_ Tryz.func65 (by kernel_rfl) rfl #[.pointer (some ⟨g, 0, none⟩), .int .i64 3] (by rfl) rfl rfl (by (try simp only [List.map_toArray, List.map_cons, List.map_nil]); first | done | rfl | (simp only [List.length_drop, List.length_take]; rfl)) ?_
              with_reducible refine (Y38.calls g s0_0 x1001_3 x1002_3 3 true t180 t181 w0 _ ?side1 ?side2 A76.out).mono ?_
              (case side1 => exact iI)
              (case side2 => exact bI)
              rintro e w84 ⟨rfl, hi, hb, hk⟩
              refine ⟨_, rfl, ?_⟩
              have n0_ := aM (Kd.R_mono (Kd.R_keep (IsS70.apart (show IsS70 w0 _ g s0_0 x1001_3 x1002_3 from iI) (rQ HO_8) (by decide)) hk (fun _ h => h.2)) (fun _ h => h.1))
              have n1_ := aM (Kd.R_mono (Kd.R_keep (IsS70.apart (show IsS70 w0 _ g s0_0 x1001_3 x1002_3 from iI) (rQ HO_9) (by decide)) hk (fun _ h => h.2)) (fun _ h => h.1))
              have n2_ := aM (Kd.R_mono (Kd.R_keep (IsS70.apart (show IsS70 w0 _ g s0_0 x1001_3 x1002_3 from iI) (rQ HO_146001) (by decide)) hk (fun _ h => h.2)) (fun _ h => h.1))
              have n3_ := aM (KeepBut.blk hk (g' := gb138) (o := .cells #[.int .i64 0, .slice none 0 0] 26 (0, 0)) (qQ BK138) NB138_0.out (by simp))
              have n4_ := aM (KeepBut.blk hk (g' := gb145) (o := .cells #[.int .i64 t139, u146001] 26 (0, 0)) (qQ BK145) NB145_0.out (by simp))
              have n5_ := aM (KeepBut.trans (kI (w := w)) hk (.inl rfl))
              have n6_ := aM (hb)
              have n7_ := aM (hi)
              clear HO_8
              clear HO_9
              clear HO_146001
              clear BK138
              clear BK145
              clear HK
              clear HB
              clear HI0
              have HO_8 := n0_
              have HO_9 := n1_
              have HO_146001 := n2_
              have BK138 := n3_
              have BK145 := n4_
              have HK := n5_
              have HB := n6_
              have HI0 := n7_
              clear n0_ n1_ n2_ n3_ n4_ n5_ n6_ n7_
              (try clear hb)
              (try clear hb2)
              (try clear hk)
              (try clear hi)
              refine hK.out _ _ trivial (fun hHeld => ?_)
              clear hK K
              refine nA 84 (h := ?_)
              refine pA 24 85 (h := ?_)
              refine pA 25 86 (h := ?_)
              refine done_ (done_of HT_.out (by kernel_rfl)) ?_
              try go_wp2
              have n0_ := aM (Kd.R_drew HO_8.out)
              have n1_ := aM (Kd.R_drew HO_9.out)
              have n2_ := aM (Kd.R_drew HO_146001.out)
              have n3_ := aM (blk_drew BK138.out)
              have n4_ := aM (blk_drew BK145.out)
              have n5_ := aM (IsS70.drew HI0.out)
              have n6_ := aM (keep_drew HK.out)
              have n7_ := aM (below_drew1 HB.out)
              clear HO_8
              clear HO_9
              clear HO_146001
              clear BK138
              clear BK145
              clear HI0
              clear HK
              clear HB
              have HO_8 := n0_
              have HO_9 := n1_
              have HO_146001 := n2_
              have BK138 := n3_
              have BK145 := n4_
              have HI0 := n5_
              have HK := n6_
              have HB := n7_
              clear n0_ n1_ n2_ n3_ n4_ n5_ n6_ n7_
              obtain ⟨Ao86, co86, eo86⟩ := Kd.R_slice HO_146001.out
              (first | subst eo86 | (injection eo86 with f1_ f2_ f3_; have f4_ := f1_.symm; have f5_ := f3_.symm; clear f1_ f2_ f3_; subst f4_; subst f5_))
              have p182 : 0 ≤ (x12_2 : Int) := odt
              have q182 : x12_2 < (x146001_3.length : Int) := odt
              obtain ⟨ad182, e182, hx182_0⟩ := Kd.at_int (Kd.R_reads' HO_146001.out).2.2 x12_2 p182 q182
              cases e182
              replace p182 := eq_true p182
              replace q182 := eq_true q182
              have p82 : 0 ≤ (x12_2 : Int) := odt
              have q82 : (x12_2 : Int) < ((x146001_3.length : Int) : Int) := odt
              obtain ⟨go82, co82, eo82, gb82, gl82, cl82, HG82⟩ := Kd.R_form HO_146001.out (by omega)
              (first | cases eo82 | (injection eo82 with ea_ en_ ec_; (first | subst ea_ | (injection ea_ with ea_; subst ea_)); subst ec_; clear en_))
              have GB82 := aM gb82
              have GG82 := aM HG82
              clear gb82 gl82 HG82
              (first | simp only [add_plain] at hx182_0 | skip)
              obtain ⟨hx82_0, hf82_0⟩ := Kd.R_celln 0 HO_146001.out (x12_2 : Int) p82 q82
              replace p82 := eq_true p82
              replace q82 := eq_true q82
              have HN0_go82 := aM (show g ≠ go82 from by have h_ := IsS70.own_ne HI0.out HO_146001.out (by decide); intro e_; exact h_ (by rw [e_]; rfl))
              have HP87 := Kd.R_putn HO_146001.out (x12_2 : Int) (Go.bits .or .i64 (rd x146001_3 x12_2) (ji81))
              rw [← Ny183.out] at HP87
              have HQ87 := aM HP87
              clear HP87
              refine start_ (n := 10) (S := fun w' => w'.cell? ⟨gb145, 0, none⟩ = some (.int .i64 t139) ∧ w'.cell? ⟨gb145, 1, none⟩ = some (.slice (some ⟨go82, 0, none⟩) x146001_3.length co86) ∧ w'.cell? ⟨go82, (x12_2).toNat, none⟩ = some (.int .i64 (rd x146001_3 x12_2))) (ds := [9]) #[false, false, false, false, false, false, false, false, false, false] (by kernel_rfl) rfl rfl ⟨(blk_cell BK145.out 0).trans rfl, (blk_cell BK145.out 1).trans rfl, hx182_0⟩ (fun hHeld => ?_); refine with_tabW Y1.tab20 Y1.bits20 (fun HT_ HW_ => ?_)
              generalize w84.drew = w85 at HO_8 HO_9 HO_146001 BK138 BK145 HI0 HK HB GG82 HQ87 hf82_0 hx182_0 hx82_0 hHeld ⊢
              refine pA 0 87 (h := ?_)
              refine pA 2 89 (h := ?_)
              refine pA 5 92 (h := ?_)
              refine pA 6 93 (h := ?_)
              refine tA 1 88 hHeld (h := ?_)
              refine pA 3 90 (h := ?_)
              refine tA 4 91 hHeld (h := ?_)
              refine pA 7 94 (h := ?_)
              refine pA 8 95 (h := ?_)
              refine last_ (i := 9) (N := none) #[true, true, true, true, true, true, true, true, true, true] rfl rfl (one_of HT_.out (by kernel_rfl)) (by decide) (fun K hK => ?_)
              refine skip_ (w1 := ?_) (by rfl) rfl ?_ ?_
              rotate_left
              ·go_simp
               rfl
              refine hK.out _ _ ?_
              clear hK K
              refine done_ (done_of HT_.out (by kernel_rfl)) ?_
              try go_wp2
              go_roundg k3
              case measure => have := HK1.out; have := HK2.out; have := HK3.out; omega
              case rel => exact ⟨(x8_3), (x9_3), (wrap64 (x13_3 + 1)), (t180), (t181), (y183), (.slice (some ⟨go82, 0, none⟩) x146001_3.length co86), eR, H', ⟨by have := HK1.out; have := HK2.out; have := HK3.out; omega⟩, ⟨by (with_reducible repeat first|apply rA|apply rN|apply rD); exact Kd.R_mono (Kd.R_far (p := ⟨go82, (x12_2 : Int).toNat, none⟩) (Kd.R_mono HO_8.out (fun k_ hk => (⟨hk, fun e_ => hk.2 (by rw [e_]; rfl)⟩ : _ ∧ k_ ≠ go82))) (fun _ hk => hk.2) (.int .i64 (Go.bits .or .i64 (rd x146001_3 x12_2) (ji81)))) (fun _ hk => ⟨hk.1.1, hk.1.2⟩)⟩, ⟨by (with_reducible repeat first|apply rA|apply rN|apply rD); exact Kd.R_mono (Kd.R_far (p := ⟨go82, (x12_2 : Int).toNat, none⟩) (Kd.R_mono HO_9.out (fun k_ hk => (⟨hk, fun e_ => hk.2 (by rw [e_]; rfl)⟩ : _ ∧ k_ ≠ go82))) (fun _ hk => hk.2) (.int .i64 (Go.bits .or .i64 (rd x146001_3 x12_2) (ji81)))) (fun _ hk => ⟨hk.1.1, hk.1.2⟩)⟩, ⟨rQ HQ87⟩, ⟨by (with_reducible repeat first|apply qN|apply qD|apply qA); refine blk_far ?_ (by have h_ := Kd.R_ne HO_146001.out BK138.out (by decide); intro e_; exact h_ (by rw [e_]; rfl)) _; (with_reducible repeat first|apply qN|apply qD|apply qA); exact BK138.out⟩, ⟨by (with_reducible repeat first|apply qN|apply qD|apply qA); refine blk_far ?_ (by have h_ := Kd.R_ne HO_146001.out BK145.out (by decide); intro e_; exact h_ (by rw [e_]; rfl)) _; (with_reducible repeat first|apply qN|apply qD|apply qA); exact BK145.out⟩, ⟨iI⟩, ⟨kI⟩, ⟨by repeat (first | (with_reducible first | exact HB.out | apply bA | apply bN | apply bD | refine below_set ?_ (Nat.le_trans HL.out GB82.out) | refine below_set ?_ (IsS70.ge HI0.out) | refine below_set ?_ GE138.out | refine below_set ?_ GE145.out) | exact HB.out)⟩⟩
             ·replace c77 := Bool.eq_false_iff.mpr c77
              subst c77
              have H1 : (Y1.l2 k3 t139 t146 x8_3 x9_3 x12_2 (wrap64 (x13_3 + 1)) s0_0 t180 t181 t139 x146001_3) = some (r1, r2, r3, r4) := by rw [if_neg (show ¬ (false = true) by decide)] at H; exact H
              clear H
              have H := H1
              clear H1
              have H' := aM H
              clear H
              try go_wp2
              have n0_ := aM (Kd.R_drew HO_8.out)
              have n1_ := aM (Kd.R_drew HO_9.out)
              have n2_ := aM (Kd.R_drew HO_146001.out)
              have n3_ := aM (blk_drew BK138.out)
              have n4_ := aM (blk_drew BK145.out)
              have n5_ := aM (IsS70.drew HI0.out)
              have n6_ := aM (keep_drew HK.out)
              have n7_ := aM (below_drew1 HB.out)
              clear HO_8
              clear HO_9
              clear HO_146001
              clear BK138
              clear BK145
              clear HI0
              clear HK
              clear HB
              have HO_8 := n0_
              have HO_9 := n1_
              have HO_146001 := n2_
              have BK138 := n3_
              have BK145 := n4_
              have HI0 := n5_
              have HK := n6_
              have HB := n7_
              clear n0_ n1_ n2_ n3_ n4_ n5_ n6_ n7_
              refine start_ (n := 26) (S := fun w' => True) (ds := []) #[false, false, false, false, false, false, false, false, false, false, false, false, false, false, false, false, false, false, false, false, false, false, false, false, false, false] (by kernel_rfl) rfl rfl trivial (fun hHeld => ?_); refine with_tabW Y1.tab19 Y1.bits19 (fun HT_ HW_ => ?_)
              generalize wr.drew = w88 at HO_8 HO_9 HO_146001 BK138 BK145 HI0 HK HB hHeld ⊢
              refine pA 0 61 (h := ?_)
              refine pA 1 62 (h := ?_)
              refine pA 2 63 (h := ?_)
              refine pure_ (i := 3) (N := some 64) (v := undef) (a' := ?_) #[true, true, true, true, false, false, false, false, false, false, false, false, false, false, false, false, false, false, false, false, false, false, false, false, false, false] rfl rfl (any_of HT_.out (by kernel_rfl)) (fun _ _ _ h => h) (Or.inr ⟨by rfl, rfl⟩) ?_ ?_
              rotate_left
              ·simp only [Act.put, List.setIfInBounds_toArray, List.set_cons_zero, List.set_cons_succ, i64_w, i32_w]
               rfl
              refine pure_ (i := 4) (N := some 65) (v := undef) (a' := ?_) #[true, true, true, true, true, false, false, false, false, false, false, false, false, false, false, false, false, false, false, false, false, false, false, false, false, false] rfl rfl (any_of HT_.out (by kernel_rfl)) (fun _ _ _ h => h) (Or.inr ⟨by rfl, rfl⟩) ?_ ?_
              rotate_left
              ·simp only [Act.put, List.setIfInBounds_toArray, List.set_cons_zero, List.set_cons_succ, i64_w, i32_w]
               rfl
              refine pure_ (i := 5) (N := some 66) (v := undef) (a' := ?_) #[true, true, true, true, true, true, false, false, false, false, false, false, false, false, false, false, false, false, false, false, false, false, false, false, false, false] rfl rfl (any_of HT_.out (by kernel_rfl)) (fun _ _ _ h => h) (Or.inr ⟨by rfl, rfl⟩) ?_ ?_
              rotate_left
              ·simp only [Act.put, List.setIfInBounds_toArray, List.set_cons_zero, List.set_cons_succ, i64_w, i32_w]
               rfl
              refine pure_ (i := 6) (N := some 67) (v := undef) (a' := ?_) #[true, true, true, true, true, true, true, false, false, false, false, false, false, false, false, false, false, false, false, false, false, false, false, false, false, false] rfl rfl (any_of HT_.out (by kernel_rfl)) (fun _ _ _ h => h) (Or.inr ⟨by rfl, rfl⟩) ?_ ?_
              rotate_left
              ·simp only [Act.put, List.setIfInBounds_toArray, List.set_cons_zero, List.set_cons_succ, i64_w, i32_w]
               rfl
              refine pure_ (i := 7) (N := some 68) (v := undef) (a' := ?_) #[true, true, true, true, true, true, true, true, false, false, false, false, false, false, false, false, false, false, false, false, false, false, false, false, false, false] rfl rfl (any_of HT_.out (by kernel_rfl)) (fun _ _ _ h => h) (Or.inr ⟨by rfl, rfl⟩) ?_ ?_
              rotate_left
              ·simp only [Act.put, List.setIfInBounds_toArray, List.set_cons_zero, List.set_cons_succ, i64_w, i32_w]
               rfl
              refine pure_ (i := 8) (N := some 69) (v := undef) (a' := ?_) #[true, true, true, true, true, true, true, true, true, false, false, false, false, false, false, false, false, false, false, false, false, false, false, false, false, false] rfl rfl (any_of HT_.out (by kernel_rfl)) (fun _ _ _ h => h) (Or.inr ⟨by rfl, rfl⟩) ?_ ?_
              rotate_left
              ·simp only [Act.put, List.setIfInBounds_toArray, List.set_cons_zero, List.set_cons_succ, i64_w, i32_w]
               rfl
              refine pure_ (i := 9) (N := some 70) (v := undef) (a' := ?_) #[true, true, true, true, true, true, true, true, true, true, false, false, false, false, false, false, false, false, false, false, false, false, false, false, false, false] rfl rfl (any_of HT_.out (by kernel_rfl)) (fun _ _ _ h => h) (Or.inr ⟨by rfl, rfl⟩) ?_ ?_
              rotate_left
              ·simp only [Act.put, List.setIfInBounds_toArray, List.set_cons_zero, List.set_cons_succ, i64_w, i32_w]
               rfl
              refine pure_ (i := 10) (N := some 71) (v := undef) (a' := ?_) #[true, true, true, true, true, true, true, true, true, true, true, false, false, false, false, false, false, false, false, false, false, false, false, false, false, false] rfl rfl (any_of HT_.out (by kernel_rfl)) (fun _ _ _ h => h) (Or.inr ⟨by rfl, rfl⟩) ?_ ?_
              rotate_left
              ·simp only [Act.put, List.setIfInBounds_toArray, List.set_cons_zero, List.set_cons_succ, i64_w, i32_w]
               rfl
              refine pure_ (i := 11) (N := some 72) (v := undef) (a' := ?_) #[true, true, true, true, true, true, true, true, true, true, true, true, false, false, false, false, false, false, false, false, false, false, false, false, false, false] rfl rfl (any_of HT_.out (by kernel_rfl)) (fun _ _ _ h => h) (Or.inr ⟨by rfl, rfl⟩) ?_ ?_
              rotate_left
              ·simp only [Act.put, List.setIfInBounds_toArray, List.set_cons_zero, List.set_cons_succ, i64_w, i32_w]
               rfl
              refine pA 12 73 (h := ?_)
              refine pA 13 74 (h := ?_)
              refine pA 14 75 (h := ?_)
              refine pA 15 76 (h := ?_)
              refine pA 16 77 (h := ?_)
              refine pA 17 78 (h := ?_)
              refine pA 18 79 (h := ?_)
              refine pA 19 80 (h := ?_)
              refine pA 20 81 (h := ?_)
              refine pA 21 82 (h := ?_)
              refine pA 22 83 (h := ?_)
              refine one_ (i := 23) (N := some 84) #[true, true, true, true, true, true, true, true, true, true, true, true, true, true, true, true, true, true, true, true, true, true, true, true, false, false] rfl rfl (one_of HT_.out (by kernel_rfl)) (by decide) (fun K hK => ?_)
              refine goes_ Tryz.func65 (by kernel_rfl) rfl #[.pointer (some ⟨g, 0, none⟩), .int .i64 3] (by rfl) rfl rfl (by (try simp only [List.map_toArray, List.map_cons, List.map_nil]); first | done | rfl | (simp only [List.length_drop, List.length_take]; rfl)) ?_
              with_reducible refine (Y38.calls g s0_0 x1001_3 x1002_3 3 false t180 t181 w0 _ ?side1 ?side2 A76.out).mono ?_
              (case side1 => exact iI)
              (case side2 => exact bI)
              rintro e w89 ⟨rfl, hi, hb, hk⟩
              refine ⟨_, rfl, ?_⟩
              have n0_ := aM (Kd.R_mono (Kd.R_keep (IsS70.apart (show IsS70 w0 _ g s0_0 x1001_3 x1002_3 from iI) (rQ HO_8) (by decide)) hk (fun _ h => h.2)) (fun _ h => h.1))
              have n1_ := aM (Kd.R_mono (Kd.R_keep (IsS70.apart (show IsS70 w0 _ g s0_0 x1001_3 x1002_3 from iI) (rQ HO_9) (by decide)) hk (fun _ h => h.2)) (fun _ h => h.1))
              have n2_ := aM (Kd.R_mono (Kd.R_keep (IsS70.apart (show IsS70 w0 _ g s0_0 x1001_3 x1002_3 from iI) (rQ HO_146001) (by decide)) hk (fun _ h => h.2)) (fun _ h => h.1))
              have n3_ := aM (KeepBut.blk hk (g' := gb138) (o := .cells #[.int .i64 0, .slice none 0 0] 26 (0, 0)) (qQ BK138) NB138_0.out (by simp))
              have n4_ := aM (KeepBut.blk hk (g' := gb145) (o := .cells #[.int .i64 t139, u146001] 26 (0, 0)) (qQ BK145) NB145_0.out (by simp))
              have n5_ := aM (KeepBut.trans (kI (w := w)) hk (.inl rfl))
              have n6_ := aM (hb)
              have n7_ := aM (hi)
              clear HO_8
              clear HO_9
              clear HO_146001
              clear BK138
              clear BK145
              clear HK
              clear HB
              clear HI0
              have HO_8 := n0_
              have HO_9 := n1_
              have HO_146001 := n2_
              have BK138 := n3_
              have BK145 := n4_
              have HK := n5_
              have HB := n6_
              have HI0 := n7_
              clear n0_ n1_ n2_ n3_ n4_ n5_ n6_ n7_
              (try clear hb)
              (try clear hb2)
              (try clear hk)
              (try clear hi)
              refine hK.out _ _ trivial (fun hHeld => ?_)
              clear hK K
              refine nA 84 (h := ?_)
              refine pA 24 85 (h := ?_)
              refine pA 25 86 (h := ?_)
              refine done_ (done_of HT_.out (by kernel_rfl)) ?_
              try go_wp2
              go_roundg k3
              case measure => have := HK1.out; have := HK2.out; have := HK3.out; omega
              case rel => exact ⟨(x8_3), (x9_3), (wrap64 (x13_3 + 1)), (t180), (t181), (x146001_3), (u146001), eR, H', ⟨by have := HK1.out; have := HK2.out; have := HK3.out; omega⟩, ⟨rQ HO_8⟩, ⟨rQ HO_9⟩, ⟨rQ HO_146001⟩, ⟨qQ BK138⟩, ⟨qQ BK145⟩, ⟨iI⟩, ⟨kI⟩, ⟨bI⟩⟩
            ·rw [if_neg c75] at H
             have c75b0 := decide_eq_false c75
             clear c75
             have H' := aM H
             clear H
             try go_wp2
             have n0_ := aM (Kd.R_drew HO_8.out)
             have n1_ := aM (Kd.R_drew HO_9.out)
             have n2_ := aM (Kd.R_drew HO_146001.out)
             have n3_ := aM (blk_drew BK138.out)
             have n4_ := aM (blk_drew BK145.out)
             have n5_ := aM (IsS70.drew HI0.out)
             have n6_ := aM (keep_drew HK.out)
             have n7_ := aM (below_drew1 HB.out)
             clear HO_8
             clear HO_9
             clear HO_146001
             clear BK138
             clear BK145
             clear HI0
             clear HK
             clear HB
             have HO_8 := n0_
             have HO_9 := n1_
             have HO_146001 := n2_
             have BK138 := n3_
             have BK145 := n4_
             have HI0 := n5_
             have HK := n6_
             have HB := n7_
             clear n0_ n1_ n2_ n3_ n4_ n5_ n6_ n7_
             refine start_ (n := 26) (S := fun w' => True) (ds := []) #[false, false, false, false, false, false, false, false, false, false, false, false, false, false, false, false, false, false, false, false, false, false, false, false, false, false] (by kernel_rfl) rfl rfl trivial (fun hHeld => ?_); refine with_tabW Y1.tab19 Y1.bits19 (fun HT_ HW_ => ?_)
             generalize wr.drew = w90 at HO_8 HO_9 HO_146001 BK138 BK145 HI0 HK HB hHeld ⊢
             refine pA 0 61 (h := ?_)
             refine pA 1 62 (h := ?_)
             refine pA 2 63 (h := ?_)
             refine pure_ (i := 3) (N := some 64) (v := undef) (a' := ?_) #[true, true, true, true, false, false, false, false, false, false, false, false, false, false, false, false, false, false, false, false, false, false, false, false, false, false] rfl rfl (any_of HT_.out (by kernel_rfl)) (fun _ _ _ h => h) (Or.inr ⟨by rfl, rfl⟩) ?_ ?_
             rotate_left
             ·simp only [Act.put, List.setIfInBounds_toArray, List.set_cons_zero, List.set_cons_succ, i64_w, i32_w]
              rfl
             refine pure_ (i := 4) (N := some 65) (v := undef) (a' := ?_) #[true, true, true, true, true, false, false, false, false, false, false, false, false, false, false, false, false, false, false, false, false, false, false, false, false, false] rfl rfl (any_of HT_.out (by kernel_rfl)) (fun _ _ _ h => h) (Or.inr ⟨by rfl, rfl⟩) ?_ ?_
             rotate_left
             ·simp only [Act.put, List.setIfInBounds_toArray, List.set_cons_zero, List.set_cons_succ, i64_w, i32_w]
              rfl
             refine pure_ (i := 5) (N := some 66) (v := undef) (a' := ?_) #[true, true, true, true, true, true, false, false, false, false, false, false, false, false, false, false, false, false, false, false, false, false, false, false, false, false] rfl rfl (any_of HT_.out (by kernel_rfl)) (fun _ _ _ h => h) (Or.inr ⟨by rfl, rfl⟩) ?_ ?_
             rotate_left
             ·simp only [Act.put, List.setIfInBounds_toArray, List.set_cons_zero, List.set_cons_succ, i64_w, i32_w]
              rfl
             refine pure_ (i := 6) (N := some 67) (v := undef) (a' := ?_) #[true, true, true, true, true, true, true, false, false, false, false, false, false, false, false, false, false, false, false, false, false, false, false, false, false, false] rfl rfl (any_of HT_.out (by kernel_rfl)) (fun _ _ _ h => h) (Or.inr ⟨by rfl, rfl⟩) ?_ ?_
             rotate_left
             ·simp only [Act.put, List.setIfInBounds_toArray, List.set_cons_zero, List.set_cons_succ, i64_w, i32_w]
              rfl
             refine pure_ (i := 7) (N := some 68) (v := undef) (a' := ?_) #[true, true, true, true, true, true, true, true, false, false, false, false, false, false, false, false, false, false, false, false, false, false, false, false, false, false] rfl rfl (any_of HT_.out (by kernel_rfl)) (fun _ _ _ h => h) (Or.inr ⟨by rfl, rfl⟩) ?_ ?_
             rotate_left
             ·simp only [Act.put, List.setIfInBounds_toArray, List.set_cons_zero, List.set_cons_succ, i64_w, i32_w]
              rfl
             refine pure_ (i := 8) (N := some 69) (v := undef) (a' := ?_) #[true, true, true, true, true, true, true, true, true, false, false, false, false, false, false, false, false, false, false, false, false, false, false, false, false, false] rfl rfl (any_of HT_.out (by kernel_rfl)) (fun _ _ _ h => h) (Or.inr ⟨by rfl, rfl⟩) ?_ ?_
             rotate_left
             ·simp only [Act.put, List.setIfInBounds_toArray, List.set_cons_zero, List.set_cons_succ, i64_w, i32_w]
              rfl
             refine pure_ (i := 9) (N := some 70) (v := undef) (a' := ?_) #[true, true, true, true, true, true, true, true, true, true, false, false, false, false, false, false, false, false, false, false, false, false, false, false, false, false] rfl rfl (any_of HT_.out (by kernel_rfl)) (fun _ _ _ h => h) (Or.inr ⟨by rfl, rfl⟩) ?_ ?_
             rotate_left
             ·simp only [Act.put, List.setIfInBounds_toArray, List.set_cons_zero, List.set_cons_succ, i64_w, i32_w]
              rfl
             refine pure_ (i := 10) (N := some 71) (v := undef) (a' := ?_) #[true, true, true, true, true, true, true, true, true, true, true, false, false, false, false, false, false, false, false, false, false, false, false, false, false, false] rfl rfl (any_of HT_.out (by kernel_rfl)) (fun _ _ _ h => h) (Or.inr ⟨by rfl, rfl⟩) ?_ ?_
             rotate_left
             ·simp only [Act.put, List.setIfInBounds_toArray, List.set_cons_zero, List.set_cons_succ, i64_w, i32_w]
              rfl
             refine pure_ (i := 11) (N := some 72) (v := undef) (a' := ?_) #[true, true, true, true, true, true, true, true, true, true, true, true, false, false, false, false, false, false, false, false, false, false, false, false, false, false] rfl rfl (any_of HT_.out (by kernel_rfl)) (fun _ _ _ h => h) (Or.inr ⟨by rfl, rfl⟩) ?_ ?_
             rotate_left
             ·simp only [Act.put, List.setIfInBounds_toArray, List.set_cons_zero, List.set_cons_succ, i64_w, i32_w]
              rfl
             refine pA 12 73 (h := ?_)
             refine pA 13 74 (h := ?_)
             refine pA 14 75 (h := ?_)
             refine pA 15 76 (h := ?_)
             refine pA 16 77 (h := ?_)
             refine pA 17 78 (h := ?_)
             refine pA 18 79 (h := ?_)
             refine pA 19 80 (h := ?_)
             refine pA 20 81 (h := ?_)
             refine pA 21 82 (h := ?_)
             refine pure_ (i := 22) (N := some 83) (v := undef) (a' := ?_) #[true, true, true, true, true, true, true, true, true, true, true, true, true, true, true, true, true, true, true, true, true, true, true, false, false, false] rfl rfl (any_of HT_.out (by kernel_rfl)) (fun _ _ _ h => h) (Or.inr ⟨by rfl, rfl⟩) ?_ ?_
             rotate_left
             ·simp only [Act.put, List.setIfInBounds_toArray, List.set_cons_zero, List.set_cons_succ, i64_w, i32_w]
              rfl
             refine pure_ (i := 23) (N := some 84) (v := undef) (a' := ?_) #[true, true, true, true, true, true, true, true, true, true, true, true, true, true, true, true, true, true, true, true, true, true, true, true, false, false] rfl rfl (any_of HT_.out (by kernel_rfl)) (fun _ _ _ h => h) (Or.inr ⟨by rfl, rfl⟩) ?_ ?_
             rotate_left
             ·simp only [Act.put, List.setIfInBounds_toArray, List.set_cons_zero, List.set_cons_succ, i64_w, i32_w]
              rfl
             refine pA 24 85 (h := ?_)
             refine pA 25 86 (h := ?_)
             refine done_ (done_of HT_.out (by kernel_rfl)) ?_
             try go_wp2
             go_roundg k3
             case measure => have := HK1.out; have := HK2.out; have := HK3.out; omega
             case rel => exact ⟨(x8_3), (x9_3), (wrap64 (x13_3 + 1)), (x1001_3), (x1002_3), (x146001_3), (u146001), eR, H', ⟨by have := HK1.out; have := HK2.out; have := HK3.out; omega⟩, ⟨rQ HO_8⟩, ⟨rQ HO_9⟩, ⟨rQ HO_146001⟩, ⟨qQ BK138⟩, ⟨qQ BK145⟩, ⟨iI⟩, ⟨kI⟩, ⟨bI⟩⟩
           ·rw [if_neg c74] at H
            have c74b0 : (t146 == 0) = false := beq_eq_false_iff_ne.mpr c74
            have c74b1 : (t146 != 0) = true := bne_iff_ne.mpr c74
            have H' := aM H
            clear H
            try go_wp2
            have n0_ := aM (Kd.R_drew HO_8.out)
            have n1_ := aM (Kd.R_drew HO_9.out)
            have n2_ := aM (Kd.R_drew HO_146001.out)
            have n3_ := aM (blk_drew BK138.out)
            have n4_ := aM (blk_drew BK145.out)
            have n5_ := aM (IsS70.drew HI0.out)
            have n6_ := aM (keep_drew HK.out)
            have n7_ := aM (below_drew1 HB.out)
            clear HO_8
            clear HO_9
            clear HO_146001
            clear BK138
            clear BK145
            clear HI0
            clear HK
            clear HB
            have HO_8 := n0_
            have HO_9 := n1_
            have HO_146001 := n2_
            have BK138 := n3_
            have BK145 := n4_
            have HI0 := n5_
            have HK := n6_
            have HB := n7_
            clear n0_ n1_ n2_ n3_ n4_ n5_ n6_ n7_
            refine start_ (n := 26) (S := fun w' => True) (ds := []) #[false, false, false, false, false, false, false, false, false, false, false, false, false, false, false, false, false, false, false, false, false, false, false, false, false, false] (by kernel_rfl) rfl rfl trivial (fun hHeld => ?_); refine with_tabW Y1.tab19 Y1.bits19 (fun HT_ HW_ => ?_)
            generalize wr.drew = w91 at HO_8 HO_9 HO_146001 BK138 BK145 HI0 HK HB hHeld ⊢
            refine pA 0 61 (h := ?_)
            refine pA 1 62 (h := ?_)
            refine pA 2 63 (h := ?_)
            refine pure_ (i := 3) (N := some 64) (v := undef) (a' := ?_) #[true, true, true, true, false, false, false, false, false, false, false, false, false, false, false, false, false, false, false, false, false, false, false, false, false, false] rfl rfl (any_of HT_.out (by kernel_rfl)) (fun _ _ _ h => h) (Or.inr ⟨by rfl, rfl⟩) ?_ ?_
            rotate_left
            ·simp only [Act.put, List.setIfInBounds_toArray, List.set_cons_zero, List.set_cons_succ, i64_w, i32_w]
             rfl
            refine pure_ (i := 4) (N := some 65) (v := undef) (a' := ?_) #[true, true, true, true, true, false, false, false, false, false, false, false, false, false, false, false, false, false, false, false, false, false, false, false, false, false] rfl rfl (any_of HT_.out (by kernel_rfl)) (fun _ _ _ h => h) (Or.inr ⟨by rfl, rfl⟩) ?_ ?_
            rotate_left
            ·simp only [Act.put, List.setIfInBounds_toArray, List.set_cons_zero, List.set_cons_succ, i64_w, i32_w]
             rfl
            refine pure_ (i := 5) (N := some 66) (v := undef) (a' := ?_) #[true, true, true, true, true, true, false, false, false, false, false, false, false, false, false, false, false, false, false, false, false, false, false, false, false, false] rfl rfl (any_of HT_.out (by kernel_rfl)) (fun _ _ _ h => h) (Or.inr ⟨by rfl, rfl⟩) ?_ ?_
            rotate_left
            ·simp only [Act.put, List.setIfInBounds_toArray, List.set_cons_zero, List.set_cons_succ, i64_w, i32_w]
             rfl
            refine pure_ (i := 6) (N := some 67) (v := undef) (a' := ?_) #[true, true, true, true, true, true, true, false, false, false, false, false, false, false, false, false, false, false, false, false, false, false, false, false, false, false] rfl rfl (any_of HT_.out (by kernel_rfl)) (fun _ _ _ h => h) (Or.inr ⟨by rfl, rfl⟩) ?_ ?_
            rotate_left
            ·simp only [Act.put, List.setIfInBounds_toArray, List.set_cons_zero, List.set_cons_succ, i64_w, i32_w]
             rfl
            refine pure_ (i := 7) (N := some 68) (v := undef) (a' := ?_) #[true, true, true, true, true, true, true, true, false, false, false, false, false, false, false, false, false, false, false, false, false, false, false, false, false, false] rfl rfl (any_of HT_.out (by kernel_rfl)) (fun _ _ _ h => h) (Or.inr ⟨by rfl, rfl⟩) ?_ ?_
            rotate_left
            ·simp only [Act.put, List.setIfInBounds_toArray, List.set_cons_zero, List.set_cons_succ, i64_w, i32_w]
             rfl
            refine pure_ (i := 8) (N := some 69) (v := undef) (a' := ?_) #[true, true, true, true, true, true, true, true, true, false, false, false, false, false, false, false, false, false, false, false, false, false, false, false, false, false] rfl rfl (any_of HT_.out (by kernel_rfl)) (fun _ _ _ h => h) (Or.inr ⟨by rfl, rfl⟩) ?_ ?_
            rotate_left
            ·simp only [Act.put, List.setIfInBounds_toArray, List.set_cons_zero, List.set_cons_succ, i64_w, i32_w]
             rfl
            refine pure_ (i := 9) (N := some 70) (v := undef) (a' := ?_) #[true, true, true, true, true, true, true, true, true, true, false, false, false, false, false, false, false, false, false, false, false, false, false, false, false, false] rfl rfl (any_of HT_.out (by kernel_rfl)) (fun _ _ _ h => h) (Or.inr ⟨by rfl, rfl⟩) ?_ ?_
            rotate_left
            ·simp only [Act.put, List.setIfInBounds_toArray, List.set_cons_zero, List.set_cons_succ, i64_w, i32_w]
             rfl
            refine pure_ (i := 10) (N := some 71) (v := undef) (a' := ?_) #[true, true, true, true, true, true, true, true, true, true, true, false, false, false, false, false, false, false, false, false, false, false, false, false, false, false] rfl rfl (any_of HT_.out (by kernel_rfl)) (fun _ _ _ h => h) (Or.inr ⟨by rfl, rfl⟩) ?_ ?_
            rotate_left
            ·simp only [Act.put, List.setIfInBounds_toArray, List.set_cons_zero, List.set_cons_succ, i64_w, i32_w]
             rfl
            refine pure_ (i := 11) (N := some 72) (v := undef) (a' := ?_) #[true, true, true, true, true, true, true, true, true, true, true, true, false, false, false, false, false, false, false, false, false, false, false, false, false, false] rfl rfl (any_of HT_.out (by kernel_rfl)) (fun _ _ _ h => h) (Or.inr ⟨by rfl, rfl⟩) ?_ ?_
            rotate_left
            ·simp only [Act.put, List.setIfInBounds_toArray, List.set_cons_zero, List.set_cons_succ, i64_w, i32_w]
             rfl
            refine pA 12 73 (h := ?_)
            refine pA 13 74 (h := ?_)
            refine pA 14 75 (h := ?_)
            refine pA 15 76 (h := ?_)
            refine pA 16 77 (h := ?_)
            refine pure_ (i := 17) (N := some 78) (v := undef) (a' := ?_) #[true, true, true, true, true, true, true, true, true, true, true, true, true, true, true, true, true, true, false, false, false, false, false, false, false, false] rfl rfl (any_of HT_.out (by kernel_rfl)) (fun _ _ _ h => h) (Or.inr ⟨by rfl, rfl⟩) ?_ ?_
            rotate_left
            ·simp only [Act.put, List.setIfInBounds_toArray, List.set_cons_zero, List.set_cons_succ, i64_w, i32_w]
             rfl
            refine pure_ (i := 18) (N := some 79) (v := undef) (a' := ?_) #[true, true, true, true, true, true, true, true, true, true, true, true, true, true, true, true, true, true, true, false, false, false, false, false, false, false] rfl rfl (any_of HT_.out (by kernel_rfl)) (fun _ _ _ h => h) (Or.inr ⟨by rfl, rfl⟩) ?_ ?_
            rotate_left
            ·simp only [Act.put, List.setIfInBounds_toArray, List.set_cons_zero, List.set_cons_succ, i64_w, i32_w]
             rfl
            refine pure_ (i := 19) (N := some 80) (v := undef) (a' := ?_) #[true, true, true, true, true, true, true, true, true, true, true, true, true, true, true, true, true, true, true, true, false, false, false, false, false, false] rfl rfl (any_of HT_.out (by kernel_rfl)) (fun _ _ _ h => h) (Or.inr ⟨by rfl, rfl⟩) ?_ ?_
            rotate_left
            ·simp only [Act.put, List.setIfInBounds_toArray, List.set_cons_zero, List.set_cons_succ, i64_w, i32_w]
             rfl
            refine pA 20 81 (h := ?_)
            refine pA 21 82 (h := ?_)
            refine pure_ (i := 22) (N := some 83) (v := undef) (a' := ?_) #[true, true, true, true, true, true, true, true, true, true, true, true, true, true, true, true, true, true, true, true, true, true, true, false, false, false] rfl rfl (any_of HT_.out (by kernel_rfl)) (fun _ _ _ h => h) (Or.inr ⟨by rfl, rfl⟩) ?_ ?_
            rotate_left
            ·simp only [Act.put, List.setIfInBounds_toArray, List.set_cons_zero, List.set_cons_succ, i64_w, i32_w]
             rfl
            refine pure_ (i := 23) (N := some 84) (v := undef) (a' := ?_) #[true, true, true, true, true, true, true, true, true, true, true, true, true, true, true, true, true, true, true, true, true, true, true, true, false, false] rfl rfl (any_of HT_.out (by kernel_rfl)) (fun _ _ _ h => h) (Or.inr ⟨by rfl, rfl⟩) ?_ ?_
            rotate_left
            ·simp only [Act.put, List.setIfInBounds_toArray, List.set_cons_zero, List.set_cons_succ, i64_w, i32_w]
             rfl
            refine pA 24 85 (h := ?_)
            refine pA 25 86 (h := ?_)
            refine done_ (done_of HT_.out (by kernel_rfl)) ?_
            try go_wp2
            go_roundg k3
            case measure => have := HK1.out; have := HK2.out; have := HK3.out; omega
            case rel => exact ⟨(x8_3), (x9_3), (wrap64 (x13_3 + 1)), (x1001_3), (x1002_3), (x146001_3), (u146001), eR, H', ⟨by have := HK1.out; have := HK2.out; have := HK3.out; omega⟩, ⟨rQ HO_8⟩, ⟨rQ HO_9⟩, ⟨rQ HO_146001⟩, ⟨qQ BK138⟩, ⟨qQ BK145⟩, ⟨iI⟩, ⟨kI⟩, ⟨bI⟩⟩
         ·rw [if_neg c32] at H
          have c32b0 := decide_eq_false c32
          clear c32
          have H' := aM H
          clear H
          go_wp2
          go_roundg k3
          case measure => have := HK1.out; have := HK2.out; have := HK3.out; omega
          case rel => exact ⟨(x8_3), (x9_3), (wrap64 (x12_2 + 1)), (x1001_3), (x1002_3), (x146001_3), (u146001), eR, H', ⟨by have := HK1.out; have := HK2.out; have := HK3.out; omega⟩, ⟨rQ HO_8⟩, ⟨rQ HO_9⟩, ⟨rQ HO_146001⟩, ⟨qQ BK138⟩, ⟨qQ BK145⟩, ⟨iI⟩, ⟨kI⟩, ⟨bI⟩⟩
      ·rw [if_neg c31] at H
       have c31b0 := decide_eq_false c31
       clear c31
       by_cases c92 : t146 > 0
       ·rw [if_pos c92] at H
        have c92b0 := decide_eq_true c92
        clear c92
        simp only [Option.some.injEq, Prod.mk.injEq] at H
        obtain ⟨rfl, rfl, rfl, rfl⟩ := H
        have hnb93 := NB145_138.out
        have hnc93 := NB138_145.out
        have hnb94 := NB145_0.out
        have hnc94 := NB0_145.out
        have hcz95_0 := zc20 BK145
        have hcz95_1 := zc21 BK145
        have hfz95_0 := blk_frozen BK145.out 0
        have hfz95_1 := blk_frozen BK145.out 1
        have hnb96 := NB138_0.out
        have hnc96 := NB0_138.out
        have hcz97_0 := zc20 BK138
        have hcz97_1 := zc21 BK138
        have hfz97_0 := blk_frozen BK138.out 0
        have hfz97_1 := blk_frozen BK138.out 1
        obtain ⟨Ao98, co98, eo98⟩ := Kd.R_slice HO_146001.out
        subst eo98
        go_wp2
        refine bodyPost_ret (results_cell_row rfl _ _ gb138 26 #[.int .i64 t139, .slice Ao98 x146001_2.length co98] (0, 0) _ rfl (by (with_reducible repeat first|apply qN|apply qD|apply qA); refine blk_put (cs := #[.int .i64 t139, .slice none 0 0]) ?_ 1 _ rfl; (with_reducible repeat first|apply qN|apply qD|apply qA); refine blk_put (cs := #[.int .i64 0, .slice none 0 0]) ?_ 0 _ rfl; (with_reducible repeat first|apply qN|apply qD|apply qA); exact BK138.out) Tryz.underlying26 rfl (by kernel_rfl)) rfl ?_
        exact ⟨_, eE, by (with_reducible repeat first|apply rA|apply rN|apply rD); exact Kd.R_mono (Kd.R_far (p := ⟨gb138, 1, none⟩) (Kd.R_far (p := ⟨gb138, 0, none⟩) (Kd.R_types HO_146001.out BK138.out (by decide)) (fun _ hk => hk.2) (.int .i64 t139)) (fun _ hk => hk.2) (.slice Ao98 x146001_2.length co98)) (fun _ hk => trivial), iI, bI, kI⟩
       ·rw [if_neg c92] at H
        have c92b0 := decide_eq_false c92
        clear c92
        replace H := bS H
        obtain ⟨⟨t164, t165, t168⟩, A99, H⟩ := H
        try dsimp only at H
        simp only [Option.some.injEq, Prod.mk.injEq] at H
        obtain ⟨rfl, rfl, rfl, rfl⟩ := H
        have hnb100 := NB145_138.out
        have hnc100 := NB138_145.out
        have hnb101 := NB145_0.out
        have hnc101 := NB0_145.out
        have hcz102_0 := zc20 BK145
        have hcz102_1 := zc21 BK145
        have hfz102_0 := blk_frozen BK145.out 0
        have hfz102_1 := blk_frozen BK145.out 1
        obtain ⟨Ao103, co103, eo103⟩ := Kd.R_slice HO_146001.out
        subst eo103
        go_wp2_with (first | ((with_reducible refine gate_callee (f := 210) rfl ?_); refine gL (some 101) Tryz.func210 #[.agg #[.int .i64 t139, .slice Ao103 x146001_2.length co103]] ?_; (with_reducible refine (Y5.calls k2 t139 _ _ x146001_2 t164 t165 t168 _ (cQ ((Kd.R_reads' HO_146001.out).2.2)) ((Kd.R_reads' HO_146001.out).2.1) A99.out).mono ?_); rintro e w104 ⟨v166, rfl, ho0, hb⟩; refine ⟨_, rfl, ?_⟩; have _ := aM (Kd.R_elder' (rQ HO_8) (Kd.R_base ho0) hb); have _ := aM (Kd.R_elder' (rQ HO_9) (Kd.R_base ho0) hb); have _ := aM (Kd.R_elder' (rQ HO_146001) (Kd.R_base ho0) hb); have _ := aM (Kd.R_lower (Kd.R_new' (Kd.R_new' (Kd.R_new' ho0 (Kd.R_lt (rQ HO_8))) (Kd.R_lt (rQ HO_9))) (Kd.R_lt (rQ HO_146001))) (keep_size (w := w) (g := g) (row := none) kI)); have _ := bK BK138 hb; have _ := bK BK145 hb; have _ := aM (IsS70.below iI hb); have _ := aM (KeepBut.trans (kI (w := w)) (KeepBut.of_below hb g none) (.inl rfl)); have _ := aM (below_step (bI (w0 := w0)) hb); clear HO_8 HO_9 HO_146001 BK138 BK145 HI0 HK HB; rename_i HO_8 HO_9 HO_146001 HO167 BK138 BK145 HI0 HK HB; (try clear hb); (try clear ho0)) | ((with_reducible refine gate_dst (N := 14) rfl ?_); refine bE 14 26 #[.int .i64 0, .slice none 0 0] ?_; intro gb169 hg w105 hbox hb; have _ := aM (Kd.R_below (rQ HO_8) hb); have _ := aM (Kd.R_below (rQ HO_9) hb); have _ := aM (Kd.R_below (rQ HO_146001) hb); have _ := aM (Kd.R_below (rQ HO167) hb); have _ := bK BK138 hb; have _ := bK BK145 hb; have _ := aM (IsS70.below iI hb); have _ := aM (KeepBut.trans (kI (w := w)) (KeepBut.of_below hb g none) (.inl rfl)); have _ := aM (below_step (bI (w0 := w0)) hb); have _ := aM (hbox); have _ := aM ((by rw [hg]; exact (keep_size (w := w) (g := g) (row := none) kI) : w.heap.size ≤ gb169)); have _ := aM ((Nat.le_trans HW0.out (by rw [hg]; exact (keep_size (w := w) (g := g) (row := none) kI) : w.heap.size ≤ gb169) : w0.heap.size ≤ gb169)); have _ := aM (nL hg BK138); have _ := aM (nG hg BK138); have _ := aM (nL hg BK145); have _ := aM (nG hg BK145); have _ := aM ((by rw [hg]; exact Nat.ne_of_lt (IsS70.lt (show IsS70 w0 _ g s0_0 x1001_2 x1002_2 from iI)) : g ≠ gb169)); have _ := aM ((by rw [hg]; exact Nat.ne_of_gt (IsS70.lt (show IsS70 w0 _ g s0_0 x1001_2 x1002_2 from iI)) : gb169 ≠ g)); clear HO_8 HO_9 HO_146001 HO167 BK138 BK145 HI0 HK HB; rename_i HO_8 HO_9 HO_146001 HO167 BK138 BK145 HI0 HK HB BK169 GW169 GE169 NB138_169 NB169_138 NB145_169 NB169_145 NB0_169 NB169_0; clear hb hbox hg; have hnb106 := NB169_138.out; have hnc106 := NB138_169.out; have hnb107 := NB169_145.out; have hnc107 := NB145_169.out; have hnb108 := NB169_0.out; have hnc108 := NB0_169.out; have hcz109_0 := zc20 BK169; have hcz109_1 := zc21 BK169; have hfz109_0 := blk_frozen BK169.out 0; have hfz109_1 := blk_frozen BK169.out 1; obtain ⟨Ao110, co110, eo110⟩ := Kd.R_slice HO167.out; subst eo110; have hnb111 := NB138_0.out; have hnc111 := NB0_138.out; have hcz112_0 := zc20 BK138; have hcz112_1 := zc21 BK138; have hfz112_0 := blk_frozen BK138.out 0; have hfz112_1 := blk_frozen BK138.out 1))
        refine bodyPost_ret (results_cell_row rfl _ _ gb138 26 #[.int .i64 t164, .slice Ao110 t165.length co110] (0, 0) _ rfl (by (with_reducible repeat first|apply qN|apply qD|apply qA); refine blk_put (cs := #[.int .i64 t164, .slice none 0 0]) ?_ 1 _ rfl; (with_reducible repeat first|apply qN|apply qD|apply qA); refine blk_put (cs := #[.int .i64 0, .slice none 0 0]) ?_ 0 _ rfl; (with_reducible repeat first|apply qN|apply qD|apply qA); refine blk_far ?_ NB138_169.out _; (with_reducible repeat first|apply qN|apply qD|apply qA); refine blk_far ?_ NB138_169.out _; (with_reducible repeat first|apply qN|apply qD|apply qA); exact BK138.out) Tryz.underlying26 rfl (by kernel_rfl)) rfl ?_
        exact ⟨_, eE, by (with_reducible repeat first|apply rA|apply rN|apply rD); exact Kd.R_mono (Kd.R_far (p := ⟨gb138, 1, none⟩) (Kd.R_far (p := ⟨gb138, 0, none⟩) (Kd.R_far (p := ⟨gb169, 1, none⟩) (Kd.R_far (p := ⟨gb169, 0, none⟩) (Kd.R_types (Kd.R_types HO167.out BK169.out (by decide)) BK138.out (by decide)) (fun _ hk => hk.1.2) (.int .i64 t164)) (fun _ hk => hk.1.2) (.slice Ao110 t165.length co110)) (fun _ hk => hk.2) (.int .i64 t164)) (fun _ hk => hk.2) (.slice Ao110 t165.length co110)) (fun _ hk => trivial), iI, bI, kI⟩
end Go.Proofs.YtjmmleofnjcjoaaGreatDoor.Du
