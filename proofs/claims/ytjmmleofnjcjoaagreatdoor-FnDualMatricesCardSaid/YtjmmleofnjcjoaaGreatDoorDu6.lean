-- Written by hook.py (wip/), over the kit's print.py.
import Derived.Test.YtjmmleofnjcjoaaGreatDoorDu2
import Derived.Test.YtjmmleofnjcjoaaGreatDoorDu4
import Derived.Test.YtjmmleofnjcjoaaGreatDoorDu5
import Derived.Test.YtjmmleofnjcjoaaGreatDoorDuXSq
namespace Go.Proofs.YtjmmleofnjcjoaaGreatDoor.Du
open Go.RowKit Go.Proofs.YtjmmleofnjcjoaaGreatDoorW.PrintWords Go.Proofs.YtjmmleofnjcjoaaGreatDoorW.PrintLast Go.Proofs.YtjmmleofnjcjoaaGreatDoorW.PrintMore Go.Proofs.YtjmmleofnjcjoaaGreatDoor.Sq
attribute [local go_sem] max2_int min2_int max_two min_two max_three min_three max_four min_four
set_option linter.unusedVariables false
set_option linter.unusedSimpArgs false
def Y37.f (k : Nat) (s0_0 : List Int) (s0_1 : Int) (s0_2 : Int) (a1 : Int) : Option (Int × List Int × Int × Int) := (Y1.f k s0_0 s0_1 s0_2 a1).bind fun bt196 => ((Y8.f s0_0 bt196.2.2.1 bt196.2.2.2 14).bind fun bt203 => (if bt203.1 = 0 then ((Y23.f k s0_0 bt203.2.1 bt203.2.2 a1).bind fun bt206 => (some (bt206.1, bt206.2.1, bt206.2.2.1, bt206.2.2.2))) else (if bt203.1 = 1 then ((Y46.f s0_0 bt203.2.1 bt203.2.2 (([(-1), 0, 10, 11] : List Int))).bind fun bt215 => (some (bt215.1, bt196.2.1, bt215.2.1, bt215.2.2))) else (if bt203.1 = 2 then (if (bt196.2.1.length : Int) > 0 then ((Y8.f s0_0 bt203.2.1 bt203.2.2 (bt196.2.1.length : Int)).bind fun bt218 => (if 0 ≤ bt196.1 then ((Y46.f s0_0 bt218.2.1 bt218.2.2 (([(-1), 0, 1, shl .i64 1 bt196.1] : List Int))).bind fun bt224 => (if 0 ≤ bt218.1 then (if bt218.1 < (bt196.2.1.length : Int) then (some (bt196.1, (bt196.2.1.set (bt218.1 : Int).toNat bt224.1), bt224.2.1, bt224.2.2)) else (none)) else (none))) else (none))) else (some (bt196.1, bt196.2.1, bt203.2.1, bt203.2.2))) else (if bt203.1 = 3 then ((Y1.f k s0_0 bt203.2.1 bt203.2.2 10).bind fun bt228 => (some (bt228.1, bt228.2.1, bt228.2.2.1, bt228.2.2.2))) else (some (bt196.1, bt196.2.1, bt203.2.1, bt203.2.2)))))))
def Y37.T9 : Bool × List (List Nat × List Nat) := (true, [([], []), ([0], [0]), ([], []), ([], []), ([3], [3]), ([4], [4]), ([2, 5], [2, 5]), ([], []), ([], []), ([8], [8]), ([9], [9]), ([10], [10]), ([7, 11, 6], [7, 11]), ([1, 6, 0, 1, 2, 3, 4, 5, 6, 7, 8, 9, 10, 11, 12], [1, 6]), ([13, 12, 12, 0, 1, 2, 3, 4, 5, 6, 7, 8, 9, 10, 11, 12], [12, 13])])
def Y37.B9 : List Nat := [0, 1, 0, 0, 8, 24, 60, 0, 0, 256, 768, 1792, 4092, 8191, 16383]
theorem Y37.tab9 : rtab .any (opsOf Tryz.f77 9) = Y37.T9 := by kernel_rfl
theorem Y37.bits9 : waitsOk Y37.T9.2 Y37.B9 = true := by kernel_rfl
set_option maxHeartbeats 8000000 in
set_option maxRecDepth 100000 in
theorem Y37.calls (k : Nat) (g : Nat) (s0_0 : List Int) (s0_1 : Int) (s0_2 : Int) (a1 : Int) (r1 : Int) (r2 : List Int) (r3 : Int) (r4 : Int) (w0 w : World) (hI : IsS70 w0 w g s0_0 s0_1 s0_2) (hB : Below w0.heap.size w0 w) (h : Y37.f k s0_0 s0_1 s0_2 a1 = some (r1, r2, r3, r4)) :
  Calls Tryz.prog 77 #[.pointer (some ⟨g, 0, none⟩), .int .i64 a1] w fun e w' => ∃ v1_ : Value, e = .returned (.agg #[.int .i64 r1, v1_]) ∧ Kd.R (Kd.int .i64) 3 w' w.heap.size (fun _ => True) v1_ r2 ∧ IsS70 w0 w' g s0_0 r3 r4 ∧ Below w0.heap.size w0 w' ∧ KeepBut w w' g none := by
 have hu26 := Tryz.underlying26
 have HI0 := aM hI
 have HK := aM (KeepBut.refl w g none)
 have HL := aM hB.size
 clear hI
 have HW0 := aM hB.size
 have HB := aM hB
 clear hB
 unfold Y37.f at h
 have H := h
 clear h
 replace H := bS H
 obtain ⟨⟨t196, t197, t200, t201⟩, A3, H⟩ := H
 try dsimp only at H
 replace H := bS H
 obtain ⟨⟨t203, t204, t205⟩, A4, H⟩ := H
 try dsimp only at H
 by_cases c5 : t203 = 0
 ·rw [if_pos c5] at H
  have c5b0 : (t203 == 0) = true := beq_iff_eq.mpr c5
  have c5b1 : (t203 != 0) = false := bne_eq_false_iff_eq.mpr c5
  clear c5
  replace H := bS H
  obtain ⟨⟨t206, t207, t210, t211⟩, A6, H⟩ := H
  try dsimp only at H
  simp only [Option.some.injEq, Prod.mk.injEq] at H
  obtain ⟨rfl, rfl, rfl, rfl⟩ := H
  go_enter Tryz.func77, Tryz.ntmps77
  go_wp2_with (first | ((with_reducible refine gate_dst (N := 4) rfl ?_); refine bE 4 26 #[.int .i64 0, .slice none 0 0] ?_; intro gb195 hg w7 hbox hb; have _ := aM (IsS70.below iI hb); have _ := aM (KeepBut.trans (kI (w := w)) (KeepBut.of_below hb g none) (.inl rfl)); have _ := aM (below_step (bI (w0 := w0)) hb); have _ := aM (hbox); have _ := aM ((by rw [hg]; exact (keep_size (w := w) (g := g) (row := none) kI) : w.heap.size ≤ gb195)); have _ := aM ((Nat.le_trans HW0.out (by rw [hg]; exact (keep_size (w := w) (g := g) (row := none) kI) : w.heap.size ≤ gb195) : w0.heap.size ≤ gb195)); have _ := aM ((by rw [hg]; exact Nat.ne_of_lt (IsS70.lt (show IsS70 w0 _ g s0_0 s0_1 s0_2 from iI)) : g ≠ gb195)); have _ := aM ((by rw [hg]; exact Nat.ne_of_gt (IsS70.lt (show IsS70 w0 _ g s0_0 s0_1 s0_2 from iI)) : gb195 ≠ g)); clear HI0 HK HB; rename_i HI0 HK HB BK195 GW195 GE195 NB0_195 NB195_0; clear hb hbox hg) | ((with_reducible refine gate_callee (f := 164) rfl ?_); refine gL (some 8) Tryz.func164 #[.pointer (some ⟨g, 0, none⟩), .int .i64 a1] ?_; (with_reducible refine (Y1.calls k g s0_0 s0_1 s0_2 a1 t196 t197 t200 t201 w0 _ ?side1 ?side2 A3.out).mono ?_); (case side1 => exact iI); (case side2 => exact bI); rintro e w8 ⟨v198, rfl, ho0, hi, hb, hk⟩; refine ⟨_, rfl, ?_⟩; have _ := aM (KeepBut.blk hk (g' := gb195) (o := .cells #[.int .i64 0, .slice none 0 0] 26 (0, 0)) (qQ BK195) NB195_0.out (by simp)); have _ := aM (Kd.R_lower ho0 (keep_size (w := w) (g := g) (row := none) kI)); have _ := aM (KeepBut.trans (kI (w := w)) hk (.inl rfl)); have _ := aM (hb); have _ := aM (hi); clear BK195 HK HB HI0; rename_i BK195 HO199 HK HB HI0; (try clear hb); (try clear hk); (try clear hi); (try clear ho0)) | ((with_reducible refine gate_dst (N := 5) rfl ?_); refine bE 5 26 #[.int .i64 0, .slice none 0 0] ?_; intro gb202 hg w9 hbox hb; have _ := aM (Kd.R_below (rQ HO199) hb); have _ := aM (IsS70.below iI hb); have _ := bK BK195 hb; have _ := aM (KeepBut.trans (kI (w := w)) (KeepBut.of_below hb g none) (.inl rfl)); have _ := aM (below_step (bI (w0 := w0)) hb); have _ := aM (hbox); have _ := aM ((by rw [hg]; exact (keep_size (w := w) (g := g) (row := none) kI) : w.heap.size ≤ gb202)); have _ := aM ((Nat.le_trans HW0.out (by rw [hg]; exact (keep_size (w := w) (g := g) (row := none) kI) : w.heap.size ≤ gb202) : w0.heap.size ≤ gb202)); have _ := aM (nL hg BK195); have _ := aM (nG hg BK195); have _ := aM ((by rw [hg]; exact Nat.ne_of_lt (IsS70.lt (show IsS70 w0 _ g s0_0 t200 t201 from iI)) : g ≠ gb202)); have _ := aM ((by rw [hg]; exact Nat.ne_of_gt (IsS70.lt (show IsS70 w0 _ g s0_0 t200 t201 from iI)) : gb202 ≠ g)); clear HO199 HI0 BK195 HK HB; rename_i HO199 HI0 BK195 HK HB BK202 GW202 GE202 NB195_202 NB202_195 NB0_202 NB202_0; clear hb hbox hg; have hnb10 := NB202_195.out; have hnc10 := NB195_202.out; have hnb11 := NB202_0.out; have hnc11 := NB0_202.out; have hcz12_0 := zc20 BK202; have hcz12_1 := zc21 BK202; have hfz12_0 := blk_frozen BK202.out 0; have hfz12_1 := blk_frozen BK202.out 1; obtain ⟨Ao13, co13, eo13⟩ := Kd.R_slice HO199.out; subst eo13) | ((with_reducible refine gate_callee (f := 107) rfl ?_); refine gL (some 10) Tryz.func107 #[.pointer (some ⟨g, 0, none⟩), .int .i64 14] ?_; (with_reducible refine (Y8.calls g s0_0 t200 t201 14 t203 t204 t205 w0 _ ?side1 ?side2 A4.out).mono ?_); (case side1 => exact iI); (case side2 => exact bI); rintro e w14 ⟨rfl, hi, hb, hk⟩; refine ⟨_, rfl, ?_⟩; have _ := aM (KeepBut.blk hk (g' := gb195) (o := .cells #[.int .i64 0, .slice none 0 0] 26 (0, 0)) (by (with_reducible repeat first|apply qN|apply qD|apply qA); refine blk_far ?_ NB195_202.out _; (with_reducible repeat first|apply qN|apply qD|apply qA); refine blk_far ?_ NB195_202.out _; (with_reducible repeat first|apply qN|apply qD|apply qA); exact BK195.out) NB195_0.out (by simp)); have _ := aM (Kd.R_mono (Kd.R_keep (IsS70.apart (show IsS70 w0 _ g s0_0 t200 t201 from iI) (by (with_reducible repeat first|apply rA|apply rN|apply rD); exact (Kd.R_mono (Kd.R_far (p := ⟨gb202, 1, none⟩) (Kd.R_far (p := ⟨gb202, 0, none⟩) (Kd.R_types HO199.out BK202.out (by decide)) (fun _ hk => hk.2) (.int .i64 t196)) (fun _ hk => hk.2) (.slice Ao13 t197.length co13)) (fun _ h_ => h_.1))) (by decide)) hk (fun _ h => h.2)) (fun _ h => h.1)); have _ := aM (KeepBut.blk hk (g' := gb202) (o := .cells #[.int .i64 t196, .slice Ao13 t197.length co13] 26 (0, 0)) (by (with_reducible repeat first|apply qN|apply qD|apply qA); refine blk_put (cs := #[.int .i64 t196, .slice none 0 0]) ?_ 1 _ rfl; (with_reducible repeat first|apply qN|apply qD|apply qA); refine blk_put (cs := #[.int .i64 0, .slice none 0 0]) ?_ 0 _ rfl; (with_reducible repeat first|apply qN|apply qD|apply qA); exact BK202.out) NB202_0.out (by simp)); have _ := aM (KeepBut.trans (kI (w := w)) hk (.inl rfl)); have _ := aM (hb); have _ := aM (hi); clear BK195 HO199 BK202 HK HB HI0; rename_i BK195 HO199 BK202 HK HB HI0; (try clear hb); (try clear hk); (try clear hi)) | ((with_reducible refine gate_callee (f := 165) rfl ?_); refine gL (some 15) Tryz.func165 #[.pointer (some ⟨g, 0, none⟩), .int .i64 a1] ?_; (with_reducible refine (Y23.calls k g s0_0 t204 t205 a1 t206 t207 t210 t211 w0 _ ?side1 ?side2 A6.out).mono ?_); (case side1 => exact iI); (case side2 => exact bI); rintro e w15 ⟨v208, rfl, ho0, hi, hb, hk⟩; refine ⟨_, rfl, ?_⟩; have _ := aM (KeepBut.blk hk (g' := gb195) (o := .cells #[.int .i64 0, .slice none 0 0] 26 (0, 0)) (qQ BK195) NB195_0.out (by simp)); have _ := aM (Kd.R_mono (Kd.R_told (Kd.R_oldK (IsS70.apart (show IsS70 w0 _ g s0_0 t204 t205 from iI) (rQ HO199) (by decide)) hk) (Kd.R_base ho0)) (fun _ h_ => h_.1)); have _ := aM (KeepBut.blk hk (g' := gb202) (o := .cells #[.int .i64 t196, .slice Ao13 t197.length co13] 26 (0, 0)) (qQ BK202) NB202_0.out (by simp)); have _ := aM (Kd.R_lower (Kd.R_new' ho0 (Kd.R_lt (rQ HO199))) (keep_size (w := w) (g := g) (row := none) kI)); have _ := aM (KeepBut.trans (kI (w := w)) hk (.inl rfl)); have _ := aM (hb); have _ := aM (hi); clear BK195 HO199 BK202 HK HB HI0; rename_i BK195 HO199 BK202 HO209 HK HB HI0; (try clear hb); (try clear hk); (try clear hi); (try clear ho0); have hnb16 := NB195_0.out; have hnc16 := NB0_195.out; have hcz17_0 := zc20 BK195; have hcz17_1 := zc21 BK195; have hfz17_0 := blk_frozen BK195.out 0; have hfz17_1 := blk_frozen BK195.out 1; obtain ⟨Ao18, co18, eo18⟩ := Kd.R_slice HO209.out; subst eo18))
  refine bodyPost_ret (results_cell_row rfl _ _ gb195 26 #[.int .i64 t206, .slice Ao18 t207.length co18] (0, 0) _ rfl (by (with_reducible repeat first|apply qN|apply qD|apply qA); refine blk_put (cs := #[.int .i64 t206, .slice none 0 0]) ?_ 1 _ rfl; (with_reducible repeat first|apply qN|apply qD|apply qA); refine blk_put (cs := #[.int .i64 0, .slice none 0 0]) ?_ 0 _ rfl; (with_reducible repeat first|apply qN|apply qD|apply qA); exact BK195.out) Tryz.underlying26 rfl (by kernel_rfl)) rfl ?_
  exact ⟨_, eE, by (with_reducible repeat first|apply rA|apply rN|apply rD); exact Kd.R_mono (Kd.R_far (p := ⟨gb195, 1, none⟩) (Kd.R_far (p := ⟨gb195, 0, none⟩) (Kd.R_types HO209.out BK195.out (by decide)) (fun _ hk => hk.2) (.int .i64 t206)) (fun _ hk => hk.2) (.slice Ao18 t207.length co18)) (fun _ hk => trivial), iI, bI, kI⟩
 ·rw [if_neg c5] at H
  have c5b0 : (t203 == 0) = false := beq_eq_false_iff_ne.mpr c5
  have c5b1 : (t203 != 0) = true := bne_iff_ne.mpr c5
  by_cases c19 : t203 = 1
  ·rw [if_pos c19] at H
   have c19b0 : (t203 == 1) = true := beq_iff_eq.mpr c19
   have c19b1 : (t203 != 1) = false := bne_eq_false_iff_eq.mpr c19
   clear c19
   obtain ⟨y212, hy212⟩ := nE ((([(-1), 0, 10, 11] : List Int)) : List Int)
   try rw [← hy212] at H
   try with_reducible replace H := (Option.bind_some _ _).symm.trans H
   try dsimp only at H
   have Ny212 := aM hy212
   clear hy212
   replace H := bS H
   obtain ⟨⟨t215, t216, t217⟩, A20, H⟩ := H
   try dsimp only at H
   simp only [Option.some.injEq, Prod.mk.injEq] at H
   obtain ⟨rfl, rfl, rfl, rfl⟩ := H
   go_enter Tryz.func77, Tryz.ntmps77
   go_wp2_with (first | ((with_reducible refine gate_dst (N := 4) rfl ?_); refine bE 4 26 #[.int .i64 0, .slice none 0 0] ?_; intro gb195 hg w21 hbox hb; have _ := aM (IsS70.below iI hb); have _ := aM (KeepBut.trans (kI (w := w)) (KeepBut.of_below hb g none) (.inl rfl)); have _ := aM (below_step (bI (w0 := w0)) hb); have _ := aM (hbox); have _ := aM ((by rw [hg]; exact (keep_size (w := w) (g := g) (row := none) kI) : w.heap.size ≤ gb195)); have _ := aM ((Nat.le_trans HW0.out (by rw [hg]; exact (keep_size (w := w) (g := g) (row := none) kI) : w.heap.size ≤ gb195) : w0.heap.size ≤ gb195)); have _ := aM ((by rw [hg]; exact Nat.ne_of_lt (IsS70.lt (show IsS70 w0 _ g s0_0 s0_1 s0_2 from iI)) : g ≠ gb195)); have _ := aM ((by rw [hg]; exact Nat.ne_of_gt (IsS70.lt (show IsS70 w0 _ g s0_0 s0_1 s0_2 from iI)) : gb195 ≠ g)); clear HI0 HK HB; rename_i HI0 HK HB BK195 GW195 GE195 NB0_195 NB195_0; clear hb hbox hg) | ((with_reducible refine gate_callee (f := 164) rfl ?_); refine gL (some 8) Tryz.func164 #[.pointer (some ⟨g, 0, none⟩), .int .i64 a1] ?_; (with_reducible refine (Y1.calls k g s0_0 s0_1 s0_2 a1 t196 t197 t200 t201 w0 _ ?side1 ?side2 A3.out).mono ?_); (case side1 => exact iI); (case side2 => exact bI); rintro e w22 ⟨v198, rfl, ho0, hi, hb, hk⟩; refine ⟨_, rfl, ?_⟩; have _ := aM (KeepBut.blk hk (g' := gb195) (o := .cells #[.int .i64 0, .slice none 0 0] 26 (0, 0)) (qQ BK195) NB195_0.out (by simp)); have _ := aM (Kd.R_lower ho0 (keep_size (w := w) (g := g) (row := none) kI)); have _ := aM (KeepBut.trans (kI (w := w)) hk (.inl rfl)); have _ := aM (hb); have _ := aM (hi); clear BK195 HK HB HI0; rename_i BK195 HO199 HK HB HI0; (try clear hb); (try clear hk); (try clear hi); (try clear ho0)) | ((with_reducible refine gate_dst (N := 5) rfl ?_); refine bE 5 26 #[.int .i64 0, .slice none 0 0] ?_; intro gb202 hg w23 hbox hb; have _ := aM (Kd.R_below (rQ HO199) hb); have _ := aM (IsS70.below iI hb); have _ := bK BK195 hb; have _ := aM (KeepBut.trans (kI (w := w)) (KeepBut.of_below hb g none) (.inl rfl)); have _ := aM (below_step (bI (w0 := w0)) hb); have _ := aM (hbox); have _ := aM ((by rw [hg]; exact (keep_size (w := w) (g := g) (row := none) kI) : w.heap.size ≤ gb202)); have _ := aM ((Nat.le_trans HW0.out (by rw [hg]; exact (keep_size (w := w) (g := g) (row := none) kI) : w.heap.size ≤ gb202) : w0.heap.size ≤ gb202)); have _ := aM (nL hg BK195); have _ := aM (nG hg BK195); have _ := aM ((by rw [hg]; exact Nat.ne_of_lt (IsS70.lt (show IsS70 w0 _ g s0_0 t200 t201 from iI)) : g ≠ gb202)); have _ := aM ((by rw [hg]; exact Nat.ne_of_gt (IsS70.lt (show IsS70 w0 _ g s0_0 t200 t201 from iI)) : gb202 ≠ g)); clear HO199 HI0 BK195 HK HB; rename_i HO199 HI0 BK195 HK HB BK202 GW202 GE202 NB195_202 NB202_195 NB0_202 NB202_0; clear hb hbox hg; have hnb24 := NB202_195.out; have hnc24 := NB195_202.out; have hnb25 := NB202_0.out; have hnc25 := NB0_202.out; have hcz26_0 := zc20 BK202; have hcz26_1 := zc21 BK202; have hfz26_0 := blk_frozen BK202.out 0; have hfz26_1 := blk_frozen BK202.out 1; obtain ⟨Ao27, co27, eo27⟩ := Kd.R_slice HO199.out; subst eo27) | ((with_reducible refine gate_callee (f := 107) rfl ?_); refine gL (some 10) Tryz.func107 #[.pointer (some ⟨g, 0, none⟩), .int .i64 14] ?_; (with_reducible refine (Y8.calls g s0_0 t200 t201 14 t203 t204 t205 w0 _ ?side1 ?side2 A4.out).mono ?_); (case side1 => exact iI); (case side2 => exact bI); rintro e w28 ⟨rfl, hi, hb, hk⟩; refine ⟨_, rfl, ?_⟩; have _ := aM (KeepBut.blk hk (g' := gb195) (o := .cells #[.int .i64 0, .slice none 0 0] 26 (0, 0)) (by (with_reducible repeat first|apply qN|apply qD|apply qA); refine blk_far ?_ NB195_202.out _; (with_reducible repeat first|apply qN|apply qD|apply qA); refine blk_far ?_ NB195_202.out _; (with_reducible repeat first|apply qN|apply qD|apply qA); exact BK195.out) NB195_0.out (by simp)); have _ := aM (Kd.R_mono (Kd.R_keep (IsS70.apart (show IsS70 w0 _ g s0_0 t200 t201 from iI) (by (with_reducible repeat first|apply rA|apply rN|apply rD); exact (Kd.R_mono (Kd.R_far (p := ⟨gb202, 1, none⟩) (Kd.R_far (p := ⟨gb202, 0, none⟩) (Kd.R_types HO199.out BK202.out (by decide)) (fun _ hk => hk.2) (.int .i64 t196)) (fun _ hk => hk.2) (.slice Ao27 t197.length co27)) (fun _ h_ => h_.1))) (by decide)) hk (fun _ h => h.2)) (fun _ h => h.1)); have _ := aM (KeepBut.blk hk (g' := gb202) (o := .cells #[.int .i64 t196, .slice Ao27 t197.length co27] 26 (0, 0)) (by (with_reducible repeat first|apply qN|apply qD|apply qA); refine blk_put (cs := #[.int .i64 t196, .slice none 0 0]) ?_ 1 _ rfl; (with_reducible repeat first|apply qN|apply qD|apply qA); refine blk_put (cs := #[.int .i64 0, .slice none 0 0]) ?_ 0 _ rfl; (with_reducible repeat first|apply qN|apply qD|apply qA); exact BK202.out) NB202_0.out (by simp)); have _ := aM (KeepBut.trans (kI (w := w)) hk (.inl rfl)); have _ := aM (hb); have _ := aM (hi); clear BK195 HO199 BK202 HK HB HI0; rename_i BK195 HO199 BK202 HK HB HI0; (try clear hb); (try clear hk); (try clear hi)) | ((with_reducible refine gate_dst (N := 19) rfl ?_); refine Kd.R_lit (Kd.int .i64) _ 3 ?hg (N := 19) ?hd (xs := ([(-1), 0, 10, 11] : List Int)) (inner := [.int .i64 (-1), .int .i64 0, .int .i64 10, .int .i64 11]) (ok := fun _ => True) (okp := fun _ => True) ?hr ?hp (fun _ hk => hk) trivial (Below.refl _ _) (Nat.le_refl _) (by simp) ?_; (case hd => rfl); (case hg => rfl); (case hr => first | (go_simp; done) | (go_simp; rfl)); (case hp => exact (Reps.one (show Kd.M (Kd.int .i64) _ _ _ (-1) [.int .i64 (-1)] from rfl) (Reps.one (show Kd.M (Kd.int .i64) _ _ _ 0 [.int .i64 0] from rfl) (Reps.one (show Kd.M (Kd.int .i64) _ _ _ 10 [.int .i64 10] from rfl) (Reps.one (show Kd.M (Kd.int .i64) _ _ _ 11 [.int .i64 11] from rfl) (Reps.none _ _)))))); intro v213 w29 ho30 hb hg_ hnew_; clear hg_ hnew_; (first | rw [← Ny212.out] at ho30 | (simp only [Int.reduceToNat] at ho30; rw [← Ny212.out] at ho30)); have _ := aM (Kd.R_elder' (rQ HO199) (Kd.R_base ho30) hb); have _ := aM (Kd.R_lower (Kd.R_new' ho30 (Kd.R_lt (rQ HO199))) (keep_size (w := w) (g := g) (row := none) kI)); have _ := aM (IsS70.below iI hb); have _ := bK BK195 hb; have _ := bK BK202 hb; have _ := aM (KeepBut.trans (kI (w := w)) (KeepBut.of_below hb g none) (.inl rfl)); have _ := aM (below_step (bI (w0 := w0)) hb); clear HO199 HI0 BK195 BK202 HK HB; rename_i HO199 HO214 HI0 BK195 BK202 HK HB; clear hb ho30; obtain ⟨Ao31, co31, eo31⟩ := Kd.R_slice HO214.out; subst eo31) | ((with_reducible refine gate_callee (f := 109) rfl ?_); refine gL (some 20) Tryz.func109 #[.pointer (some ⟨g, 0, none⟩), .slice Ao31 y212.length co31] ?_; (with_reducible refine (Y46.calls g s0_0 t204 t205 _ _ y212 t215 t216 t217 w0 _ ?side1 ?side2 ?side3 ?side4 ?side5 A20.out).mono ?_); (case side1 => exact iI); (case side2 => exact bI); (case side3 => repeat (first | exact (Kd.R_reads' HO214.out).2.2 | (with_reducible refine Kd.C_alloc ?_ _) | (with_reducible refine Kd.C_drewN ?_ _) | (with_reducible refine Kd.C_drew ?_))); (case side4 => exact (Kd.R_reads' HO214.out).2.1); (case side5 => exact far_slice (IsS70.own_ne HI0.out HO214.out (by decide))); rintro e w32 ⟨rfl, hi, hb, hk⟩; refine ⟨_, rfl, ?_⟩; have _ := aM (KeepBut.blk hk (g' := gb195) (o := .cells #[.int .i64 0, .slice none 0 0] 26 (0, 0)) (qQ BK195) NB195_0.out (by simp)); have _ := aM (Kd.R_mono (Kd.R_keep (IsS70.apart (show IsS70 w0 _ g s0_0 t204 t205 from iI) (rQ HO199) (by decide)) hk (fun _ h => h.2)) (fun _ h => h.1)); have _ := aM (KeepBut.blk hk (g' := gb202) (o := .cells #[.int .i64 t196, .slice Ao27 t197.length co27] 26 (0, 0)) (qQ BK202) NB202_0.out (by simp)); have _ := aM (Kd.R_mono (Kd.R_keep (IsS70.apart (show IsS70 w0 _ g s0_0 t204 t205 from iI) (rQ HO214) (by decide)) hk (fun _ h => h.2)) (fun _ h => h.1)); have _ := aM (KeepBut.trans (kI (w := w)) hk (.inl rfl)); have _ := aM (hb); have _ := aM (hi); clear BK195 HO199 BK202 HO214 HK HB HI0; rename_i BK195 HO199 BK202 HO214 HK HB HI0; (try clear hb); (try clear hk); (try clear hi); have hcz33_0 := zc20 BK202; have hcz33_1 := zc21 BK202; have hfz33_0 := blk_frozen BK202.out 0; have hfz33_1 := blk_frozen BK202.out 1; have hnb34 := NB195_0.out; have hnc34 := NB0_195.out; have hcz35_0 := zc20 BK195; have hcz35_1 := zc21 BK195; have hfz35_0 := blk_frozen BK195.out 0; have hfz35_1 := blk_frozen BK195.out 1))
   refine bodyPost_ret (results_cell_row rfl _ _ gb195 26 #[.int .i64 t215, .slice Ao27 t197.length co27] (0, 0) _ rfl (by (with_reducible repeat first|apply qN|apply qD|apply qA); refine blk_put (cs := #[.int .i64 t215, .slice none 0 0]) ?_ 1 _ rfl; (with_reducible repeat first|apply qN|apply qD|apply qA); refine blk_put (cs := #[.int .i64 0, .slice none 0 0]) ?_ 0 _ rfl; (with_reducible repeat first|apply qN|apply qD|apply qA); refine blk_far ?_ NB195_202.out _; (with_reducible repeat first|apply qN|apply qD|apply qA); exact BK195.out) Tryz.underlying26 rfl (by kernel_rfl)) rfl ?_
   exact ⟨_, eE, by (with_reducible repeat first|apply rA|apply rN|apply rD); exact Kd.R_mono (Kd.R_far (p := ⟨gb195, 1, none⟩) (Kd.R_far (p := ⟨gb195, 0, none⟩) (Kd.R_far (p := ⟨gb202, 0, none⟩) (Kd.R_types (Kd.R_types HO199.out BK202.out (by decide)) BK195.out (by decide)) (fun _ hk => hk.1.2) (.int .i64 t215)) (fun _ hk => hk.2) (.int .i64 t215)) (fun _ hk => hk.2) (.slice Ao27 t197.length co27)) (fun _ hk => trivial), iI, bI, kI⟩
  ·rw [if_neg c19] at H
   have c19b0 : (t203 == 1) = false := beq_eq_false_iff_ne.mpr c19
   have c19b1 : (t203 != 1) = true := bne_iff_ne.mpr c19
   by_cases c36 : t203 = 2
   ·rw [if_pos c36] at H
    have c36b0 : (t203 == 2) = true := beq_iff_eq.mpr c36
    have c36b1 : (t203 != 2) = false := bne_eq_false_iff_eq.mpr c36
    clear c36
    by_cases c37 : (t197.length : Int) > 0
    ·rw [if_pos c37] at H
     have c37b0 := decide_eq_true c37
     have c37b1 : decide (0 < t197.length) = true := decide_eq_true (by omega)
     clear c37
     replace H := bS H
     obtain ⟨⟨t218, t219, t220⟩, A38, H⟩ := H
     try dsimp only at H
     replace H := iS H
     obtain ⟨c39, H⟩ := H
     have c39b0 := eq_true c39
     have c39b1 := decide_eq_true c39
     clear c39
     obtain ⟨ji40, hji40⟩ : ∃ j_ : Int, (shl .i64 1 t196) = j_ := ⟨_, rfl⟩
     replace H : ((Y46.f s0_0 t219 t220 (([(-1), 0, 1, ji40] : List Int))).bind fun bt224 => (if 0 ≤ t218 then (if t218 < (t197.length : Int) then (some (t196, (t197.set (t218 : Int).toNat bt224.1), bt224.2.1, bt224.2.2)) else (none)) else (none))) = some (r1, r2, r3, r4) := by first | (rw [hji40] at H; exact H) | (simp only [hji40] at H ⊢; exact H)
     (try rw [hji40] at A3)
     (try rw [hji40] at A4)
     (try rw [hji40] at A38)
     have hji40_ : (IntKind.i64.wrap (1 * 2 ^ min t196.toNat 64)) = ji40 := hji40
     have hji40z : t196 ≤ 64 → (IntKind.i64.wrap (1 * 2 ^ t196.toNat)) = ji40 := shl_small hji40
     have hji40u : (IntKind.i64.wrap (2 ^ min t196.toNat 64)) = ji40 := by have h_ := hji40_; rw [Int.one_mul] at h_; exact h_
     have hji40v : t196 ≤ 64 → (IntKind.i64.wrap (2 ^ t196.toNat)) = ji40 := fun hle_ => by have h_ := hji40z hle_; rw [Int.one_mul] at h_; exact h_
     have hji40y : (wrap64 (1 * 2 ^ min t196.toNat 64)) = ji40 := (i64_w _).symm.trans hji40_
     have hji40x : t196 ≤ 64 → (wrap64 (1 * 2 ^ t196.toNat)) = ji40 := fun h_ => (i64_w _).symm.trans (hji40z h_)
     obtain ⟨y221, hy221⟩ := nE ((([(-1), 0, 1, ji40] : List Int)) : List Int)
     try rw [← hy221] at H
     try with_reducible replace H := (Option.bind_some _ _).symm.trans H
     try dsimp only at H
     have Ny221 := aM hy221
     clear hy221
     replace H := bS H
     obtain ⟨⟨t224, t225, t226⟩, A41, H⟩ := H
     try dsimp only at H
     replace H := iD2 H
     obtain ⟨c42b0, c43b0, H⟩ := H
     obtain ⟨y227, hy227⟩ := nE ((t197.set (t218 : Int).toNat t224) : List Int)
     try rw [← hy227] at H
     try with_reducible replace H := (Option.bind_some _ _).symm.trans H
     try dsimp only at H
     have Ny227 := aM hy227
     clear hy227
     simp only [Option.some.injEq, Prod.mk.injEq] at H
     obtain ⟨rfl, rfl, rfl, rfl⟩ := H
     go_enter Tryz.func77, Tryz.ntmps77
     try go_wp2_with (first | ((with_reducible refine gate_dst (N := 4) rfl ?_); refine bE 4 26 #[.int .i64 0, .slice none 0 0] ?_; intro gb195 hg w45 hbox hb; have _ := aM (IsS70.below iI hb); have _ := aM (KeepBut.trans (kI (w := w)) (KeepBut.of_below hb g none) (.inl rfl)); have _ := aM (below_step (bI (w0 := w0)) hb); have _ := aM (hbox); have _ := aM ((by rw [hg]; exact (keep_size (w := w) (g := g) (row := none) kI) : w.heap.size ≤ gb195)); have _ := aM ((Nat.le_trans HW0.out (by rw [hg]; exact (keep_size (w := w) (g := g) (row := none) kI) : w.heap.size ≤ gb195) : w0.heap.size ≤ gb195)); have _ := aM ((by rw [hg]; exact Nat.ne_of_lt (IsS70.lt (show IsS70 w0 _ g s0_0 s0_1 s0_2 from iI)) : g ≠ gb195)); have _ := aM ((by rw [hg]; exact Nat.ne_of_gt (IsS70.lt (show IsS70 w0 _ g s0_0 s0_1 s0_2 from iI)) : gb195 ≠ g)); clear HI0 HK HB; rename_i HI0 HK HB BK195 GW195 GE195 NB0_195 NB195_0; clear hb hbox hg) | ((with_reducible refine gate_callee (f := 164) rfl ?_); refine gL (some 8) Tryz.func164 #[.pointer (some ⟨g, 0, none⟩), .int .i64 a1] ?_; (with_reducible refine (Y1.calls k g s0_0 s0_1 s0_2 a1 t196 t197 t200 t201 w0 _ ?side1 ?side2 A3.out).mono ?_); (case side1 => exact iI); (case side2 => exact bI); rintro e w46 ⟨v198, rfl, ho0, hi, hb, hk⟩; refine ⟨_, rfl, ?_⟩; have _ := aM (KeepBut.blk hk (g' := gb195) (o := .cells #[.int .i64 0, .slice none 0 0] 26 (0, 0)) (qQ BK195) NB195_0.out (by simp)); have _ := aM (Kd.R_lower ho0 (keep_size (w := w) (g := g) (row := none) kI)); have _ := aM (KeepBut.trans (kI (w := w)) hk (.inl rfl)); have _ := aM (hb); have _ := aM (hi); clear BK195 HK HB HI0; rename_i BK195 HO199 HK HB HI0; (try clear hb); (try clear hk); (try clear hi); (try clear ho0)) | ((with_reducible refine gate_dst (N := 5) rfl ?_); refine bE 5 26 #[.int .i64 0, .slice none 0 0] ?_; intro gb202 hg w47 hbox hb; have _ := aM (Kd.R_below (rQ HO199) hb); have _ := aM (IsS70.below iI hb); have _ := bK BK195 hb; have _ := aM (KeepBut.trans (kI (w := w)) (KeepBut.of_below hb g none) (.inl rfl)); have _ := aM (below_step (bI (w0 := w0)) hb); have _ := aM (hbox); have _ := aM ((by rw [hg]; exact (keep_size (w := w) (g := g) (row := none) kI) : w.heap.size ≤ gb202)); have _ := aM ((Nat.le_trans HW0.out (by rw [hg]; exact (keep_size (w := w) (g := g) (row := none) kI) : w.heap.size ≤ gb202) : w0.heap.size ≤ gb202)); have _ := aM (nL hg BK195); have _ := aM (nG hg BK195); have _ := aM ((by rw [hg]; exact Nat.ne_of_lt (IsS70.lt (show IsS70 w0 _ g s0_0 t200 t201 from iI)) : g ≠ gb202)); have _ := aM ((by rw [hg]; exact Nat.ne_of_gt (IsS70.lt (show IsS70 w0 _ g s0_0 t200 t201 from iI)) : gb202 ≠ g)); clear HO199 HI0 BK195 HK HB; rename_i HO199 HI0 BK195 HK HB BK202 GW202 GE202 NB195_202 NB202_195 NB0_202 NB202_0; clear hb hbox hg; have hnb48 := NB202_195.out; have hnc48 := NB195_202.out; have hnb49 := NB202_0.out; have hnc49 := NB0_202.out; have hcz50_0 := zc20 BK202; have hcz50_1 := zc21 BK202; have hfz50_0 := blk_frozen BK202.out 0; have hfz50_1 := blk_frozen BK202.out 1; obtain ⟨Ao51, co51, eo51⟩ := Kd.R_slice HO199.out; subst eo51) | ((with_reducible refine gate_callee (f := 107) rfl ?_); refine gL (some 10) Tryz.func107 #[.pointer (some ⟨g, 0, none⟩), .int .i64 14] ?_; (with_reducible refine (Y8.calls g s0_0 t200 t201 14 t203 t204 t205 w0 _ ?side1 ?side2 A4.out).mono ?_); (case side1 => exact iI); (case side2 => exact bI); rintro e w52 ⟨rfl, hi, hb, hk⟩; refine ⟨_, rfl, ?_⟩; have _ := aM (KeepBut.blk hk (g' := gb195) (o := .cells #[.int .i64 0, .slice none 0 0] 26 (0, 0)) (by (with_reducible repeat first|apply qN|apply qD|apply qA); refine blk_far ?_ NB195_202.out _; (with_reducible repeat first|apply qN|apply qD|apply qA); refine blk_far ?_ NB195_202.out _; (with_reducible repeat first|apply qN|apply qD|apply qA); exact BK195.out) NB195_0.out (by simp)); have _ := aM (Kd.R_mono (Kd.R_keep (IsS70.apart (show IsS70 w0 _ g s0_0 t200 t201 from iI) (by (with_reducible repeat first|apply rA|apply rN|apply rD); exact (Kd.R_mono (Kd.R_far (p := ⟨gb202, 1, none⟩) (Kd.R_far (p := ⟨gb202, 0, none⟩) (Kd.R_types HO199.out BK202.out (by decide)) (fun _ hk => hk.2) (.int .i64 t196)) (fun _ hk => hk.2) (.slice Ao51 t197.length co51)) (fun _ h_ => h_.1))) (by decide)) hk (fun _ h => h.2)) (fun _ h => h.1)); have _ := aM (KeepBut.blk hk (g' := gb202) (o := .cells #[.int .i64 t196, .slice Ao51 t197.length co51] 26 (0, 0)) (by (with_reducible repeat first|apply qN|apply qD|apply qA); refine blk_put (cs := #[.int .i64 t196, .slice none 0 0]) ?_ 1 _ rfl; (with_reducible repeat first|apply qN|apply qD|apply qA); refine blk_put (cs := #[.int .i64 0, .slice none 0 0]) ?_ 0 _ rfl; (with_reducible repeat first|apply qN|apply qD|apply qA); exact BK202.out) NB202_0.out (by simp)); have _ := aM (KeepBut.trans (kI (w := w)) hk (.inl rfl)); have _ := aM (hb); have _ := aM (hi); clear BK195 HO199 BK202 HK HB HI0; rename_i BK195 HO199 BK202 HK HB HI0; (try clear hb); (try clear hk); (try clear hi); have hcz53_0 := zc20 BK202; have hcz53_1 := zc21 BK202; have hfz53_0 := blk_frozen BK202.out 0; have hfz53_1 := blk_frozen BK202.out 1))
     have n0_ := aM (Kd.R_drew HO199.out)
     have n1_ := aM (blk_drew BK195.out)
     have n2_ := aM (blk_drew BK202.out)
     have n3_ := aM (IsS70.drew HI0.out)
     have n4_ := aM (keep_drew HK.out)
     have n5_ := aM (below_drew1 HB.out)
     clear HO199
     clear BK195
     clear BK202
     clear HI0
     clear HK
     clear HB
     have HO199 := n0_
     have BK195 := n1_
     have BK202 := n2_
     have HI0 := n3_
     have HK := n4_
     have HB := n5_
     clear n0_ n1_ n2_ n3_ n4_ n5_
     refine start_ (n := 15) (S := fun w' => w'.cell? ⟨gb202, 0, none⟩ = some (.int .i64 t196) ∧ w'.cell? ⟨gb202, 1, none⟩ = some (.slice Ao51 t197.length co51)) (ds := [14]) #[false, false, false, false, false, false, false, false, false, false, false, false, false, false, false] (by kernel_rfl) rfl rfl ⟨(blk_cell BK202.out 0).trans rfl, (blk_cell BK202.out 1).trans rfl⟩ (fun hHeld => ?_); refine with_tabW Y37.tab9 Y37.bits9 (fun HT_ HW_ => ?_)
     generalize w52.drew = w54 at HO199 BK195 BK202 HI0 HK HB hHeld ⊢
     refine pA 0 28 (h := ?_)
     refine pA 2 30 (h := ?_)
     refine pA 3 31 (h := ?_)
     refine pA 7 35 (h := ?_)
     refine pA 8 36 (h := ?_)
     refine tA 1 29 hHeld (h := ?_)
     refine tA 4 32 hHeld (h := ?_)
     refine pA 5 33 (h := ?_)
     refine tA 9 37 hHeld (h := ?_)
     refine pA 10 38 (h := ?_)
     refine join_ (σ := Value) 3 #[true, true, true, true, true, true, true, true, true, true, true, true, false, false, false] (fun s_ => [(34, .int .i64 t218), (39, s_)]) (fun s_ w' => (w'.cell? ⟨gb202, 0, none⟩ = some (.int .i64 t196) ∧ w'.cell? ⟨gb202, 1, none⟩ = some (.slice Ao51 t197.length co51)) ∧ (Kd.R (Kd.int .i64) 3 w' w.heap.size (fun k_ => some k_ ≠ (s_ : Value).ownBlock) (.slice Ao51 t197.length co51) t197) ∧ (Kd.R (Kd.int .i64) 3 w' w.heap.size (fun k_ => some k_ ≠ (.slice Ao51 t197.length co51 : Value).ownBlock) s_ y221) ∧ (w'.heap[gb195]? = some (.cells #[.int .i64 0, .slice none 0 0] 26 (0, 0))) ∧ (w'.heap[gb202]? = some (.cells #[.int .i64 t196, .slice Ao51 t197.length co51] 26 (0, 0))) ∧ (IsS70 w0 w' g s0_0 t219 t220) ∧ (KeepBut w w' g none) ∧ (Below w0.heap.size w0 w')) ?_ ?_
     rotate_left
     ·intro hCont
      refine two_ (i := 6) (j := 11) (Ni := some 34) (Nj := some 39) #[true, true, true, true, true, true, true, true, true, true, true, false, false, false, false] #[true, true, true, true, true, true, false, true, true, true, true, true, false, false, false] rfl rfl rfl rfl (two_of HT_.out (by kernel_rfl)) (by decide) (by decide) (fun K hK => ?_) (fun K hK => ?_)
      ·skip
       refine goes_ Tryz.func107 (by kernel_rfl) rfl #[.pointer (some ⟨g, 0, none⟩), .int .i64 (t197.length : Int)] (by rfl) rfl rfl (by (try simp only [List.map_toArray, List.map_cons, List.map_nil]); first | done | rfl | (simp only [List.length_drop, List.length_take]; rfl)) ?_
       with_reducible refine (Y8.calls g s0_0 t204 t205 (t197.length : Int) t218 t219 t220 w0 _ ?side1 ?side2 A38.out).mono ?_
       (case side1 => exact iI)
       (case side2 => exact bI)
       rintro e w55 ⟨rfl, hi, hb, hk⟩
       refine ⟨_, rfl, ?_⟩
       have n0_ := aM (KeepBut.blk hk (g' := gb195) (o := .cells #[.int .i64 0, .slice none 0 0] 26 (0, 0)) (qQ BK195) NB195_0.out (by simp))
       have n1_ := aM (Kd.R_mono (Kd.R_keep (IsS70.apart (show IsS70 w0 _ g s0_0 t204 t205 from iI) (rQ HO199) (by decide)) hk (fun _ h => h.2)) (fun _ h => h.1))
       have n2_ := aM (KeepBut.blk hk (g' := gb202) (o := .cells #[.int .i64 t196, .slice Ao51 t197.length co51] 26 (0, 0)) (qQ BK202) NB202_0.out (by simp))
       have n3_ := aM (KeepBut.trans (kI (w := w)) hk (.inl rfl))
       have n4_ := aM (hb)
       have n5_ := aM (hi)
       clear BK195
       clear HO199
       clear BK202
       clear HK
       clear HB
       clear HI0
       have BK195 := n0_
       have HO199 := n1_
       have BK202 := n2_
       have HK := n3_
       have HB := n4_
       have HI0 := n5_
       clear n0_ n1_ n2_ n3_ n4_ n5_
       (try clear hb)
       (try clear hb2)
       (try clear hk)
       (try clear hi)
       refine hK.out _ _ ⟨(blk_cell BK202.out 0).trans rfl, (blk_cell BK202.out 1).trans rfl⟩ (fun hHeld => ?_)
       clear hK K
       refine nA 34 (h := ?_)
       refine one_ (i := 11) (N := some 39) #[true, true, true, true, true, true, true, true, true, true, true, true, false, false, false] rfl rfl (one_of HT_.out (by kernel_rfl)) (by decide) (fun K hK => ?_)
       refine Kd.R_lit_step (Kd.int .i64) _ 3 ?hg (N := 39) ?hd (xs := ([(-1), 0, 1, ji40] : List Int)) (inner := [.int .i64 (-1), .int .i64 0, .int .i64 1, .int .i64 ji40]) (ok := fun _ => True) (okp := fun _ => True) ?hr ?hp (fun _ hk => hk) trivial (Below.refl _ _) (Nat.le_refl _) (by simp) ?_; (case hd => rfl); (case hg => rfl); (case hr => first | (go_simp; done) | (go_simp; rfl)); (case hp => exact (Reps.one (show Kd.M (Kd.int .i64) _ _ _ (-1) [.int .i64 (-1)] from rfl) (Reps.one (show Kd.M (Kd.int .i64) _ _ _ 0 [.int .i64 0] from rfl) (Reps.one (show Kd.M (Kd.int .i64) _ _ _ 1 [.int .i64 1] from rfl) (Reps.one (show Kd.M (Kd.int .i64) _ _ _ ji40 [.int .i64 ji40] from rfl) (Reps.none _ _))))))
       intro v222 w56 ho57 hb hg_ hnew_
       clear hg_ hnew_
       (first | rw [← Ny221.out] at ho57 | (simp only [Int.reduceToNat] at ho57; rw [← Ny221.out] at ho57))
       have n0_ := aM (Kd.R_elder' (rQ HO199) (Kd.R_base ho57) hb)
       have n1_ := aM (Kd.R_lower (Kd.R_new' ho57 (Kd.R_lt (rQ HO199))) (keep_size (w := w) (g := g) (row := none) kI))
       have n2_ := aM (IsS70.below iI hb)
       have n3_ := aM (blk_below (qQ BK195) hb)
       have n4_ := aM (blk_below (qQ BK202) hb)
       have n5_ := aM (KeepBut.trans (kI (w := w)) (KeepBut.of_below hb g none) (.inl rfl))
       have n6_ := aM (below_step (bI (w0 := w0)) hb)
       clear HO199
       clear HI0
       clear BK195
       clear BK202
       clear HK
       clear HB
       have HO199 := n0_
       have HO223 := n1_
       have HI0 := n2_
       have BK195 := n3_
       have BK202 := n4_
       have HK := n5_
       have HB := n6_
       clear n0_ n1_ n2_ n3_ n4_ n5_ n6_
       clear hb ho57
       refine hK.out _ _ ⟨(blk_cell BK202.out 0).trans rfl, (blk_cell BK202.out 1).trans rfl⟩ (fun hHeld => ?_)
       clear hK K
       refine nA 39 (h := ?_)
       exact norm_ (by simp only [putAll, Act.put, List.setIfInBounds_toArray, List.set_cons_zero, List.set_cons_succ]) (hCont (v222) _ ⟨hHeld, (by (with_reducible repeat first|apply rA|apply rN|apply rD); exact Kd.R_mono HO199.out (fun _ hk => hk.2)), (by (with_reducible repeat first|apply rA|apply rN|apply rD); exact Kd.R_mono HO223.out (fun _ hk => hk.2)), (qQ BK195), (qQ BK202), iI, kI, bI⟩)
      ·skip
       refine Kd.R_lit_step (Kd.int .i64) _ 3 ?hg (N := 39) ?hd (xs := ([(-1), 0, 1, ji40] : List Int)) (inner := [.int .i64 (-1), .int .i64 0, .int .i64 1, .int .i64 ji40]) (ok := fun _ => True) (okp := fun _ => True) ?hr ?hp (fun _ hk => hk) trivial (Below.refl _ _) (Nat.le_refl _) (by simp) ?_; (case hd => rfl); (case hg => rfl); (case hr => first | (go_simp; done) | (go_simp; rfl)); (case hp => exact (Reps.one (show Kd.M (Kd.int .i64) _ _ _ (-1) [.int .i64 (-1)] from rfl) (Reps.one (show Kd.M (Kd.int .i64) _ _ _ 0 [.int .i64 0] from rfl) (Reps.one (show Kd.M (Kd.int .i64) _ _ _ 1 [.int .i64 1] from rfl) (Reps.one (show Kd.M (Kd.int .i64) _ _ _ ji40 [.int .i64 ji40] from rfl) (Reps.none _ _))))))
       intro v222 w55 ho56 hb hg_ hnew_
       clear hg_ hnew_
       (first | rw [← Ny221.out] at ho56 | (simp only [Int.reduceToNat] at ho56; rw [← Ny221.out] at ho56))
       have n0_ := aM (Kd.R_elder' (rQ HO199) (Kd.R_base ho56) hb)
       have n1_ := aM (Kd.R_lower (Kd.R_new' ho56 (Kd.R_lt (rQ HO199))) (keep_size (w := w) (g := g) (row := none) kI))
       have n2_ := aM (IsS70.below iI hb)
       have n3_ := aM (blk_below (qQ BK195) hb)
       have n4_ := aM (blk_below (qQ BK202) hb)
       have n5_ := aM (KeepBut.trans (kI (w := w)) (KeepBut.of_below hb g none) (.inl rfl))
       have n6_ := aM (below_step (bI (w0 := w0)) hb)
       clear HO199
       clear HI0
       clear BK195
       clear BK202
       clear HK
       clear HB
       have HO199 := n0_
       have HO223 := n1_
       have HI0 := n2_
       have BK195 := n3_
       have BK202 := n4_
       have HK := n5_
       have HB := n6_
       clear n0_ n1_ n2_ n3_ n4_ n5_ n6_
       clear hb ho56
       refine hK.out _ _ ⟨(blk_cell BK202.out 0).trans rfl, (blk_cell BK202.out 1).trans rfl⟩ (fun hHeld => ?_)
       clear hK K
       refine nA 39 (h := ?_)
       refine one_ (i := 6) (N := some 34) #[true, true, true, true, true, true, true, true, true, true, true, true, false, false, false] rfl rfl (one_of HT_.out (by kernel_rfl)) (by decide) (fun K hK => ?_)
       refine goes_ Tryz.func107 (by kernel_rfl) rfl #[.pointer (some ⟨g, 0, none⟩), .int .i64 (t197.length : Int)] (by rfl) rfl rfl (by (try simp only [List.map_toArray, List.map_cons, List.map_nil]); first | done | rfl | (simp only [List.length_drop, List.length_take]; rfl)) ?_
       with_reducible refine (Y8.calls g s0_0 t204 t205 (t197.length : Int) t218 t219 t220 w0 _ ?side1 ?side2 A38.out).mono ?_
       (case side1 => exact iI)
       (case side2 => exact bI)
       rintro e w57 ⟨rfl, hi, hb, hk⟩
       refine ⟨_, rfl, ?_⟩
       have n0_ := aM (KeepBut.blk hk (g' := gb195) (o := .cells #[.int .i64 0, .slice none 0 0] 26 (0, 0)) (qQ BK195) NB195_0.out (by simp))
       have n1_ := aM (Kd.R_mono (Kd.R_keep (IsS70.apart (show IsS70 w0 _ g s0_0 t204 t205 from iI) (rQ HO199) (by decide)) hk (fun _ h => h.2)) (fun _ h => h.1))
       have n2_ := aM (KeepBut.blk hk (g' := gb202) (o := .cells #[.int .i64 t196, .slice Ao51 t197.length co51] 26 (0, 0)) (qQ BK202) NB202_0.out (by simp))
       have n3_ := aM (Kd.R_mono (Kd.R_keep (IsS70.apart (show IsS70 w0 _ g s0_0 t204 t205 from iI) (rQ HO223) (by decide)) hk (fun _ h => h.2)) (fun _ h => h.1))
       have n4_ := aM (KeepBut.trans (kI (w := w)) hk (.inl rfl))
       have n5_ := aM (hb)
       have n6_ := aM (hi)
       clear BK195
       clear HO199
       clear BK202
       clear HO223
       clear HK
       clear HB
       clear HI0
       have BK195 := n0_
       have HO199 := n1_
       have BK202 := n2_
       have HO223 := n3_
       have HK := n4_
       have HB := n5_
       have HI0 := n6_
       clear n0_ n1_ n2_ n3_ n4_ n5_ n6_
       (try clear hb)
       (try clear hb2)
       (try clear hk)
       (try clear hi)
       refine hK.out _ _ ⟨(blk_cell BK202.out 0).trans rfl, (blk_cell BK202.out 1).trans rfl⟩ (fun hHeld => ?_)
       clear hK K
       refine nA 34 (h := ?_)
       exact norm_ (by simp only [putAll, Act.put, List.setIfInBounds_toArray, List.set_cons_zero, List.set_cons_succ]) (hCont (v222) _ ⟨hHeld, (by (with_reducible repeat first|apply rA|apply rN|apply rD); exact Kd.R_mono HO199.out (fun _ hk => hk.2)), (by (with_reducible repeat first|apply rA|apply rN|apply rD); exact Kd.R_mono HO223.out (fun _ hk => hk.2)), (qQ BK195), (qQ BK202), iI, kI, bI⟩)
     rintro v222 w58 ⟨hS_, h0_, h1_, h2_, h3_, h4_, h5_, h6_⟩
     have n0_ : Aside0 (Kd.R (Kd.int .i64) 3 w58 w.heap.size (fun k_ => some k_ ≠ (v222 : Value).ownBlock) (.slice Ao51 t197.length co51) t197) := ⟨h0_⟩
     have n1_ : Aside0 (Kd.R (Kd.int .i64) 3 w58 w.heap.size (fun k_ => some k_ ≠ (.slice Ao51 t197.length co51 : Value).ownBlock) v222 y221) := ⟨h1_⟩
     have n2_ : Aside0 (w58.heap[gb195]? = some (.cells #[.int .i64 0, .slice none 0 0] 26 (0, 0))) := ⟨h2_⟩
     have n3_ : Aside0 (w58.heap[gb202]? = some (.cells #[.int .i64 t196, .slice Ao51 t197.length co51] 26 (0, 0))) := ⟨h3_⟩
     have n4_ : Aside0 (IsS70 w0 w58 g s0_0 t219 t220) := ⟨h4_⟩
     have n5_ : Aside0 (KeepBut w w58 g none) := ⟨h5_⟩
     have n6_ : Aside0 (Below w0.heap.size w0 w58) := ⟨h6_⟩
     clear HO199
     clear BK195
     clear BK202
     clear HI0
     clear HK
     clear HB
     clear h0_ h1_ h2_ h3_ h4_ h5_ h6_
     have HO199 := n0_
     have HO223 := n1_
     have BK195 := n2_
     have BK202 := n3_
     have HI0 := n4_
     have HK := n5_
     have HB := n6_
     clear n0_ n1_ n2_ n3_ n4_ n5_ n6_
     have hHeld : w58.cell? ⟨gb202, 0, none⟩ = some (.int .i64 t196) ∧ w58.cell? ⟨gb202, 1, none⟩ = some (.slice Ao51 t197.length co51) := hS_
     obtain ⟨Ao59, co59, eo59⟩ := Kd.R_slice HO223.out
     (first | subst eo59 | (injection eo59 with f1_ f2_ f3_; have f4_ := f1_.symm; have f5_ := f3_.symm; clear f1_ f2_ f3_; subst f4_; subst f5_))
     refine norm_ (a' := ?_) ?_ ?_
     rotate_left
     ·simp only [putAll, Act.put, List.setIfInBounds_toArray, List.set_cons_zero, List.set_cons_succ]
      rfl
     refine one_ (i := 12) (N := some 40) #[true, true, true, true, true, true, true, true, true, true, true, true, true, false, false] rfl rfl (one_of HT_.out (by kernel_rfl)) (by decide) (fun K hK => ?_)
     refine goes_ Tryz.func109 (by kernel_rfl) rfl #[.pointer (some ⟨g, 0, none⟩), .slice Ao59 y221.length co59] (by rfl) rfl rfl (by (try simp only [List.map_toArray, List.map_cons, List.map_nil]); first | done | rfl | (simp only [List.length_drop, List.length_take]; rfl)) ?_
     with_reducible refine (Y46.calls g s0_0 t219 t220 _ _ y221 t224 t225 t226 w0 _ ?side1 ?side2 ?side3 ?side4 ?side5 A41.out).mono ?_
     (case side1 => exact iI)
     (case side2 => exact bI)
     (case side3 => repeat (first | exact (Kd.R_reads' HO223.out).2.2 | (with_reducible refine Kd.C_alloc ?_ _) | (with_reducible refine Kd.C_drewN ?_ _) | (with_reducible refine Kd.C_drew ?_)))
     (case side4 => exact (Kd.R_reads' HO223.out).2.1)
     (case side5 => exact far_slice (IsS70.own_ne HI0.out HO223.out (by decide)))
     rintro e w60 ⟨rfl, hi, hb, hk⟩
     refine ⟨_, rfl, ?_⟩
     have n0_ := aM (KeepBut.blk hk (g' := gb195) (o := .cells #[.int .i64 0, .slice none 0 0] 26 (0, 0)) (qQ BK195) NB195_0.out (by simp))
     have n1_ := aM (Kd.R_mono (Kd.R_keep (IsS70.apart (show IsS70 w0 _ g s0_0 t219 t220 from iI) (rQ HO199) (by decide)) hk (fun _ h => h.2)) (fun _ h => h.1))
     have n2_ := aM (KeepBut.blk hk (g' := gb202) (o := .cells #[.int .i64 t196, .slice Ao51 t197.length co51] 26 (0, 0)) (qQ BK202) NB202_0.out (by simp))
     have n3_ := aM (Kd.R_mono (Kd.R_keep (IsS70.apart (show IsS70 w0 _ g s0_0 t219 t220 from iI) (rQ HO223) (by decide)) hk (fun _ h => h.2)) (fun _ h => h.1))
     have n4_ := aM (KeepBut.trans (kI (w := w)) hk (.inl rfl))
     have n5_ := aM (hb)
     have n6_ := aM (hi)
     clear BK195
     clear HO199
     clear BK202
     clear HO223
     clear HK
     clear HB
     clear HI0
     have BK195 := n0_
     have HO199 := n1_
     have BK202 := n2_
     have HO223 := n3_
     have HK := n4_
     have HB := n5_
     have HI0 := n6_
     clear n0_ n1_ n2_ n3_ n4_ n5_ n6_
     (try clear hb)
     (try clear hb2)
     (try clear hk)
     (try clear hi)
     have p44 : 0 ≤ (t218 : Int) := odt
     have q44 : (t218 : Int) < ((t197.length : Int) : Int) := odt
     obtain ⟨go44, co44, eo44, gb44, gl44, cl44, HG44⟩ := Kd.R_form HO199.out (by omega)
     (first | cases eo44 | (injection eo44 with ea_ en_ ec_; (first | subst ea_ | (injection ea_ with ea_; subst ea_)); subst ec_; clear en_))
     have GB44 := aM gb44
     have GG44 := aM HG44
     clear gb44 gl44 HG44
     obtain ⟨hx44_0, hf44_0⟩ := Kd.R_celln 0 HO199.out (t218 : Int) p44 q44
     replace p44 := eq_true p44
     replace q44 := eq_true q44
     have HN0_go44 := aM (show g ≠ go44 from by have h_ := IsS70.own_ne HI0.out HO199.out (by decide); intro e_; exact h_ (by rw [e_]; rfl))
     have HP61 := Kd.R_putn HO199.out (t218 : Int) t224
     rw [← Ny227.out] at HP61
     have HQ61 := aM HP61
     clear HP61
     refine hK.out _ _ ⟨(blk_cell BK202.out 0).trans rfl, (blk_cell BK202.out 1).trans rfl⟩ (fun hHeld => ?_)
     clear hK K
     refine nA 40 (h := ?_)
     refine pA 13 41 (h := ?_)
     refine last_ (i := 14) (N := none) #[true, true, true, true, true, true, true, true, true, true, true, true, true, true, true] rfl rfl (one_of HT_.out (by kernel_rfl)) (by decide) (fun K hK => ?_)
     refine skip_ (w1 := ?_) (by rfl) rfl ?_ ?_
     rotate_left
     ·go_simp
      rfl
     refine hK.out _ _ ?_
     clear hK K
     refine done_ (done_of HT_.out (by kernel_rfl)) ?_
     have n0_ : Aside0 (Kd.R (Kd.int .i64) 3 (w60.setCell ⟨go44, (t218 : Int).toNat, none⟩ (.int .i64 t224)) w.heap.size (fun k_ => some k_ ≠ (.slice Ao59 y221.length co59 : Value).ownBlock) (.slice (some ⟨go44, 0, none⟩) t197.length co51) y227) := ⟨rQ HQ61⟩
     have n1_ : Aside0 (Kd.R (Kd.int .i64) 3 (w60.setCell ⟨go44, (t218 : Int).toNat, none⟩ (.int .i64 t224)) w.heap.size (fun k_ => some k_ ≠ (.slice (some ⟨go44, 0, none⟩) t197.length co51 : Value).ownBlock) (.slice Ao59 y221.length co59) y221) := ⟨by (with_reducible repeat first|apply rA|apply rN|apply rD); exact Kd.R_mono (Kd.R_far (p := ⟨go44, (t218 : Int).toNat, none⟩) (Kd.R_mono HO223.out (fun k_ hk => (⟨hk, fun e_ => hk (by rw [e_]; rfl)⟩ : _ ∧ k_ ≠ go44))) (fun _ hk => hk.2) (.int .i64 t224)) (fun _ hk => hk.1)⟩
     have n2_ : Aside0 ((w60.setCell ⟨go44, (t218 : Int).toNat, none⟩ (.int .i64 t224)).heap[gb195]? = some (.cells #[.int .i64 0, .slice none 0 0] 26 (0, 0))) := ⟨by (with_reducible repeat first|apply qN|apply qD|apply qA); refine blk_far ?_ (by have h_ := Kd.R_ne HO199.out BK195.out (by decide); intro e_; exact h_ (by rw [e_]; rfl)) _; (with_reducible repeat first|apply qN|apply qD|apply qA); exact BK195.out⟩
     have n3_ : Aside0 ((w60.setCell ⟨go44, (t218 : Int).toNat, none⟩ (.int .i64 t224)).heap[gb202]? = some (.cells #[.int .i64 t196, .slice (some ⟨go44, 0, none⟩) t197.length co51] 26 (0, 0))) := ⟨by (with_reducible repeat first|apply qN|apply qD|apply qA); refine blk_far ?_ (by have h_ := Kd.R_ne HO199.out BK202.out (by decide); intro e_; exact h_ (by rw [e_]; rfl)) _; (with_reducible repeat first|apply qN|apply qD|apply qA); exact BK202.out⟩
     have n4_ : Aside0 (IsS70 w0 (w60.setCell ⟨go44, (t218 : Int).toNat, none⟩ (.int .i64 t224)) g s0_0 t225 t226) := ⟨iI⟩
     have n5_ : Aside0 (KeepBut w (w60.setCell ⟨go44, (t218 : Int).toNat, none⟩ (.int .i64 t224)) g none) := ⟨kI⟩
     have n6_ : Aside0 (Below w0.heap.size w0 (w60.setCell ⟨go44, (t218 : Int).toNat, none⟩ (.int .i64 t224))) := ⟨by repeat (first | (with_reducible first | exact HB.out | apply bA | apply bN | apply bD | refine below_set ?_ (Nat.le_trans HL.out GB44.out) | refine below_set ?_ (IsS70.ge HI0.out) | refine below_set ?_ GE195.out | refine below_set ?_ GE202.out) | exact HB.out)⟩
     (try clear HO199)
     (try clear HO223)
     (try clear BK195)
     (try clear BK202)
     (try clear HI0)
     (try clear HK)
     (try clear HB)
     generalize (w60.setCell ⟨go44, (t218 : Int).toNat, none⟩ (.int .i64 t224)) = w62 at n0_ n1_ n2_ n3_ n4_ n5_ n6_ ⊢
     have HO199 := n0_
     have HO223 := n1_
     have BK195 := n2_
     have BK202 := n3_
     have HI0 := n4_
     have HK := n5_
     have HB := n6_
     clear n0_ n1_ n2_ n3_ n4_ n5_ n6_
     have hcz63_0 := zc20 BK202
     have hcz63_1 := zc21 BK202
     have hfz63_0 := blk_frozen BK202.out 0
     have hfz63_1 := blk_frozen BK202.out 1
     have hnb64 := NB195_0.out
     have hnc64 := NB0_195.out
     have hcz65_0 := zc20 BK195
     have hcz65_1 := zc21 BK195
     have hfz65_0 := blk_frozen BK195.out 0
     have hfz65_1 := blk_frozen BK195.out 1
     try go_wp2
     refine bodyPost_ret (results_cell_row rfl _ _ gb195 26 #[.int .i64 t196, .slice (some ⟨go44, 0, none⟩) t197.length co51] (0, 0) _ rfl (by (with_reducible repeat first|apply qN|apply qD|apply qA); refine blk_put (cs := #[.int .i64 t196, .slice none 0 0]) ?_ 1 _ rfl; (with_reducible repeat first|apply qN|apply qD|apply qA); refine blk_put (cs := #[.int .i64 0, .slice none 0 0]) ?_ 0 _ rfl; (with_reducible repeat first|apply qN|apply qD|apply qA); exact BK195.out) Tryz.underlying26 rfl (by kernel_rfl)) rfl ?_
     exact ⟨_, by first | rfl | (simp [errW_none, errW_some] <;> rfl) | (simp only [← hji40]; first | rfl | (simp [errW_none, errW_some] <;> rfl)) | (simp [*, errW_none, errW_some] <;> rfl), by (with_reducible repeat first|apply rA|apply rN|apply rD); exact Kd.R_mono (Kd.R_far (p := ⟨gb195, 1, none⟩) (Kd.R_far (p := ⟨gb195, 0, none⟩) (Kd.R_types HO199.out BK195.out (by decide)) (fun _ hk => hk.2) (.int .i64 t196)) (fun _ hk => hk.2) (.slice (some ⟨go44, 0, none⟩) t197.length co51)) (fun _ hk => trivial), iI, bI, kI⟩
    ·rw [if_neg c37] at H
     have c37b0 := decide_eq_false c37
     have c37b1 : decide (0 < t197.length) = false := decide_eq_false (by omega)
     clear c37
     simp only [Option.some.injEq, Prod.mk.injEq] at H
     obtain ⟨rfl, rfl, rfl, rfl⟩ := H
     go_enter Tryz.func77, Tryz.ntmps77
     go_wp2_with (first | ((with_reducible refine gate_dst (N := 4) rfl ?_); refine bE 4 26 #[.int .i64 0, .slice none 0 0] ?_; intro gb195 hg w66 hbox hb; have _ := aM (IsS70.below iI hb); have _ := aM (KeepBut.trans (kI (w := w)) (KeepBut.of_below hb g none) (.inl rfl)); have _ := aM (below_step (bI (w0 := w0)) hb); have _ := aM (hbox); have _ := aM ((by rw [hg]; exact (keep_size (w := w) (g := g) (row := none) kI) : w.heap.size ≤ gb195)); have _ := aM ((Nat.le_trans HW0.out (by rw [hg]; exact (keep_size (w := w) (g := g) (row := none) kI) : w.heap.size ≤ gb195) : w0.heap.size ≤ gb195)); have _ := aM ((by rw [hg]; exact Nat.ne_of_lt (IsS70.lt (show IsS70 w0 _ g s0_0 s0_1 s0_2 from iI)) : g ≠ gb195)); have _ := aM ((by rw [hg]; exact Nat.ne_of_gt (IsS70.lt (show IsS70 w0 _ g s0_0 s0_1 s0_2 from iI)) : gb195 ≠ g)); clear HI0 HK HB; rename_i HI0 HK HB BK195 GW195 GE195 NB0_195 NB195_0; clear hb hbox hg) | ((with_reducible refine gate_callee (f := 164) rfl ?_); refine gL (some 8) Tryz.func164 #[.pointer (some ⟨g, 0, none⟩), .int .i64 a1] ?_; (with_reducible refine (Y1.calls k g s0_0 s0_1 s0_2 a1 t196 t197 t200 t201 w0 _ ?side1 ?side2 A3.out).mono ?_); (case side1 => exact iI); (case side2 => exact bI); rintro e w67 ⟨v198, rfl, ho0, hi, hb, hk⟩; refine ⟨_, rfl, ?_⟩; have _ := aM (KeepBut.blk hk (g' := gb195) (o := .cells #[.int .i64 0, .slice none 0 0] 26 (0, 0)) (qQ BK195) NB195_0.out (by simp)); have _ := aM (Kd.R_lower ho0 (keep_size (w := w) (g := g) (row := none) kI)); have _ := aM (KeepBut.trans (kI (w := w)) hk (.inl rfl)); have _ := aM (hb); have _ := aM (hi); clear BK195 HK HB HI0; rename_i BK195 HO199 HK HB HI0; (try clear hb); (try clear hk); (try clear hi); (try clear ho0)) | ((with_reducible refine gate_dst (N := 5) rfl ?_); refine bE 5 26 #[.int .i64 0, .slice none 0 0] ?_; intro gb202 hg w68 hbox hb; have _ := aM (Kd.R_below (rQ HO199) hb); have _ := aM (IsS70.below iI hb); have _ := bK BK195 hb; have _ := aM (KeepBut.trans (kI (w := w)) (KeepBut.of_below hb g none) (.inl rfl)); have _ := aM (below_step (bI (w0 := w0)) hb); have _ := aM (hbox); have _ := aM ((by rw [hg]; exact (keep_size (w := w) (g := g) (row := none) kI) : w.heap.size ≤ gb202)); have _ := aM ((Nat.le_trans HW0.out (by rw [hg]; exact (keep_size (w := w) (g := g) (row := none) kI) : w.heap.size ≤ gb202) : w0.heap.size ≤ gb202)); have _ := aM (nL hg BK195); have _ := aM (nG hg BK195); have _ := aM ((by rw [hg]; exact Nat.ne_of_lt (IsS70.lt (show IsS70 w0 _ g s0_0 t200 t201 from iI)) : g ≠ gb202)); have _ := aM ((by rw [hg]; exact Nat.ne_of_gt (IsS70.lt (show IsS70 w0 _ g s0_0 t200 t201 from iI)) : gb202 ≠ g)); clear HO199 HI0 BK195 HK HB; rename_i HO199 HI0 BK195 HK HB BK202 GW202 GE202 NB195_202 NB202_195 NB0_202 NB202_0; clear hb hbox hg; have hnb69 := NB202_195.out; have hnc69 := NB195_202.out; have hnb70 := NB202_0.out; have hnc70 := NB0_202.out; have hcz71_0 := zc20 BK202; have hcz71_1 := zc21 BK202; have hfz71_0 := blk_frozen BK202.out 0; have hfz71_1 := blk_frozen BK202.out 1; obtain ⟨Ao72, co72, eo72⟩ := Kd.R_slice HO199.out; subst eo72) | ((with_reducible refine gate_callee (f := 107) rfl ?_); refine gL (some 10) Tryz.func107 #[.pointer (some ⟨g, 0, none⟩), .int .i64 14] ?_; (with_reducible refine (Y8.calls g s0_0 t200 t201 14 t203 t204 t205 w0 _ ?side1 ?side2 A4.out).mono ?_); (case side1 => exact iI); (case side2 => exact bI); rintro e w73 ⟨rfl, hi, hb, hk⟩; refine ⟨_, rfl, ?_⟩; have _ := aM (KeepBut.blk hk (g' := gb195) (o := .cells #[.int .i64 0, .slice none 0 0] 26 (0, 0)) (by (with_reducible repeat first|apply qN|apply qD|apply qA); refine blk_far ?_ NB195_202.out _; (with_reducible repeat first|apply qN|apply qD|apply qA); refine blk_far ?_ NB195_202.out _; (with_reducible repeat first|apply qN|apply qD|apply qA); exact BK195.out) NB195_0.out (by simp)); have _ := aM (Kd.R_mono (Kd.R_keep (IsS70.apart (show IsS70 w0 _ g s0_0 t200 t201 from iI) (by (with_reducible repeat first|apply rA|apply rN|apply rD); exact (Kd.R_mono (Kd.R_far (p := ⟨gb202, 1, none⟩) (Kd.R_far (p := ⟨gb202, 0, none⟩) (Kd.R_types HO199.out BK202.out (by decide)) (fun _ hk => hk.2) (.int .i64 t196)) (fun _ hk => hk.2) (.slice Ao72 t197.length co72)) (fun _ h_ => h_.1))) (by decide)) hk (fun _ h => h.2)) (fun _ h => h.1)); have _ := aM (KeepBut.blk hk (g' := gb202) (o := .cells #[.int .i64 t196, .slice Ao72 t197.length co72] 26 (0, 0)) (by (with_reducible repeat first|apply qN|apply qD|apply qA); refine blk_put (cs := #[.int .i64 t196, .slice none 0 0]) ?_ 1 _ rfl; (with_reducible repeat first|apply qN|apply qD|apply qA); refine blk_put (cs := #[.int .i64 0, .slice none 0 0]) ?_ 0 _ rfl; (with_reducible repeat first|apply qN|apply qD|apply qA); exact BK202.out) NB202_0.out (by simp)); have _ := aM (KeepBut.trans (kI (w := w)) hk (.inl rfl)); have _ := aM (hb); have _ := aM (hi); clear BK195 HO199 BK202 HK HB HI0; rename_i BK195 HO199 BK202 HK HB HI0; (try clear hb); (try clear hk); (try clear hi); have hcz74_0 := zc20 BK202; have hcz74_1 := zc21 BK202; have hfz74_0 := blk_frozen BK202.out 0; have hfz74_1 := blk_frozen BK202.out 1; have hnb75 := NB195_0.out; have hnc75 := NB0_195.out; have hcz76_0 := zc20 BK195; have hcz76_1 := zc21 BK195; have hfz76_0 := blk_frozen BK195.out 0; have hfz76_1 := blk_frozen BK195.out 1))
     refine bodyPost_ret (results_cell_row rfl _ _ gb195 26 #[.int .i64 t196, .slice Ao72 t197.length co72] (0, 0) _ rfl (by (with_reducible repeat first|apply qN|apply qD|apply qA); refine blk_put (cs := #[.int .i64 t196, .slice none 0 0]) ?_ 1 _ rfl; (with_reducible repeat first|apply qN|apply qD|apply qA); refine blk_put (cs := #[.int .i64 0, .slice none 0 0]) ?_ 0 _ rfl; (with_reducible repeat first|apply qN|apply qD|apply qA); exact BK195.out) Tryz.underlying26 rfl (by kernel_rfl)) rfl ?_
     exact ⟨_, eE, by (with_reducible repeat first|apply rA|apply rN|apply rD); exact Kd.R_mono (Kd.R_far (p := ⟨gb195, 1, none⟩) (Kd.R_far (p := ⟨gb195, 0, none⟩) (Kd.R_types HO199.out BK195.out (by decide)) (fun _ hk => hk.2) (.int .i64 t196)) (fun _ hk => hk.2) (.slice Ao72 t197.length co72)) (fun _ hk => trivial), iI, bI, kI⟩
   ·rw [if_neg c36] at H
    have c36b0 : (t203 == 2) = false := beq_eq_false_iff_ne.mpr c36
    have c36b1 : (t203 != 2) = true := bne_iff_ne.mpr c36
    by_cases c77 : t203 = 3
    ·rw [if_pos c77] at H
     have c77b0 : (t203 == 3) = true := beq_iff_eq.mpr c77
     have c77b1 : (t203 != 3) = false := bne_eq_false_iff_eq.mpr c77
     clear c77
     replace H := bS H
     obtain ⟨⟨t228, t229, t232, t233⟩, A78, H⟩ := H
     try dsimp only at H
     simp only [Option.some.injEq, Prod.mk.injEq] at H
     obtain ⟨rfl, rfl, rfl, rfl⟩ := H
     go_enter Tryz.func77, Tryz.ntmps77
     go_wp2_with (first | ((with_reducible refine gate_dst (N := 4) rfl ?_); refine bE 4 26 #[.int .i64 0, .slice none 0 0] ?_; intro gb195 hg w79 hbox hb; have _ := aM (IsS70.below iI hb); have _ := aM (KeepBut.trans (kI (w := w)) (KeepBut.of_below hb g none) (.inl rfl)); have _ := aM (below_step (bI (w0 := w0)) hb); have _ := aM (hbox); have _ := aM ((by rw [hg]; exact (keep_size (w := w) (g := g) (row := none) kI) : w.heap.size ≤ gb195)); have _ := aM ((Nat.le_trans HW0.out (by rw [hg]; exact (keep_size (w := w) (g := g) (row := none) kI) : w.heap.size ≤ gb195) : w0.heap.size ≤ gb195)); have _ := aM ((by rw [hg]; exact Nat.ne_of_lt (IsS70.lt (show IsS70 w0 _ g s0_0 s0_1 s0_2 from iI)) : g ≠ gb195)); have _ := aM ((by rw [hg]; exact Nat.ne_of_gt (IsS70.lt (show IsS70 w0 _ g s0_0 s0_1 s0_2 from iI)) : gb195 ≠ g)); clear HI0 HK HB; rename_i HI0 HK HB BK195 GW195 GE195 NB0_195 NB195_0; clear hb hbox hg) | ((with_reducible refine gate_callee (f := 164) rfl ?_); refine gL (some 8) Tryz.func164 #[.pointer (some ⟨g, 0, none⟩), .int .i64 a1] ?_; (with_reducible refine (Y1.calls k g s0_0 s0_1 s0_2 a1 t196 t197 t200 t201 w0 _ ?side1 ?side2 A3.out).mono ?_); (case side1 => exact iI); (case side2 => exact bI); rintro e w80 ⟨v198, rfl, ho0, hi, hb, hk⟩; refine ⟨_, rfl, ?_⟩; have _ := aM (KeepBut.blk hk (g' := gb195) (o := .cells #[.int .i64 0, .slice none 0 0] 26 (0, 0)) (qQ BK195) NB195_0.out (by simp)); have _ := aM (Kd.R_lower ho0 (keep_size (w := w) (g := g) (row := none) kI)); have _ := aM (KeepBut.trans (kI (w := w)) hk (.inl rfl)); have _ := aM (hb); have _ := aM (hi); clear BK195 HK HB HI0; rename_i BK195 HO199 HK HB HI0; (try clear hb); (try clear hk); (try clear hi); (try clear ho0)) | ((with_reducible refine gate_dst (N := 5) rfl ?_); refine bE 5 26 #[.int .i64 0, .slice none 0 0] ?_; intro gb202 hg w81 hbox hb; have _ := aM (Kd.R_below (rQ HO199) hb); have _ := aM (IsS70.below iI hb); have _ := bK BK195 hb; have _ := aM (KeepBut.trans (kI (w := w)) (KeepBut.of_below hb g none) (.inl rfl)); have _ := aM (below_step (bI (w0 := w0)) hb); have _ := aM (hbox); have _ := aM ((by rw [hg]; exact (keep_size (w := w) (g := g) (row := none) kI) : w.heap.size ≤ gb202)); have _ := aM ((Nat.le_trans HW0.out (by rw [hg]; exact (keep_size (w := w) (g := g) (row := none) kI) : w.heap.size ≤ gb202) : w0.heap.size ≤ gb202)); have _ := aM (nL hg BK195); have _ := aM (nG hg BK195); have _ := aM ((by rw [hg]; exact Nat.ne_of_lt (IsS70.lt (show IsS70 w0 _ g s0_0 t200 t201 from iI)) : g ≠ gb202)); have _ := aM ((by rw [hg]; exact Nat.ne_of_gt (IsS70.lt (show IsS70 w0 _ g s0_0 t200 t201 from iI)) : gb202 ≠ g)); clear HO199 HI0 BK195 HK HB; rename_i HO199 HI0 BK195 HK HB BK202 GW202 GE202 NB195_202 NB202_195 NB0_202 NB202_0; clear hb hbox hg; have hnb82 := NB202_195.out; have hnc82 := NB195_202.out; have hnb83 := NB202_0.out; have hnc83 := NB0_202.out; have hcz84_0 := zc20 BK202; have hcz84_1 := zc21 BK202; have hfz84_0 := blk_frozen BK202.out 0; have hfz84_1 := blk_frozen BK202.out 1; obtain ⟨Ao85, co85, eo85⟩ := Kd.R_slice HO199.out; subst eo85) | ((with_reducible refine gate_callee (f := 107) rfl ?_); refine gL (some 10) Tryz.func107 #[.pointer (some ⟨g, 0, none⟩), .int .i64 14] ?_; (with_reducible refine (Y8.calls g s0_0 t200 t201 14 t203 t204 t205 w0 _ ?side1 ?side2 A4.out).mono ?_); (case side1 => exact iI); (case side2 => exact bI); rintro e w86 ⟨rfl, hi, hb, hk⟩; refine ⟨_, rfl, ?_⟩; have _ := aM (KeepBut.blk hk (g' := gb195) (o := .cells #[.int .i64 0, .slice none 0 0] 26 (0, 0)) (by (with_reducible repeat first|apply qN|apply qD|apply qA); refine blk_far ?_ NB195_202.out _; (with_reducible repeat first|apply qN|apply qD|apply qA); refine blk_far ?_ NB195_202.out _; (with_reducible repeat first|apply qN|apply qD|apply qA); exact BK195.out) NB195_0.out (by simp)); have _ := aM (Kd.R_mono (Kd.R_keep (IsS70.apart (show IsS70 w0 _ g s0_0 t200 t201 from iI) (by (with_reducible repeat first|apply rA|apply rN|apply rD); exact (Kd.R_mono (Kd.R_far (p := ⟨gb202, 1, none⟩) (Kd.R_far (p := ⟨gb202, 0, none⟩) (Kd.R_types HO199.out BK202.out (by decide)) (fun _ hk => hk.2) (.int .i64 t196)) (fun _ hk => hk.2) (.slice Ao85 t197.length co85)) (fun _ h_ => h_.1))) (by decide)) hk (fun _ h => h.2)) (fun _ h => h.1)); have _ := aM (KeepBut.blk hk (g' := gb202) (o := .cells #[.int .i64 t196, .slice Ao85 t197.length co85] 26 (0, 0)) (by (with_reducible repeat first|apply qN|apply qD|apply qA); refine blk_put (cs := #[.int .i64 t196, .slice none 0 0]) ?_ 1 _ rfl; (with_reducible repeat first|apply qN|apply qD|apply qA); refine blk_put (cs := #[.int .i64 0, .slice none 0 0]) ?_ 0 _ rfl; (with_reducible repeat first|apply qN|apply qD|apply qA); exact BK202.out) NB202_0.out (by simp)); have _ := aM (KeepBut.trans (kI (w := w)) hk (.inl rfl)); have _ := aM (hb); have _ := aM (hi); clear BK195 HO199 BK202 HK HB HI0; rename_i BK195 HO199 BK202 HK HB HI0; (try clear hb); (try clear hk); (try clear hi)) | ((with_reducible refine gate_callee (f := 164) rfl ?_); refine gL (some 45) Tryz.func164 #[.pointer (some ⟨g, 0, none⟩), .int .i64 10] ?_; (with_reducible refine (Y1.calls k g s0_0 t204 t205 10 t228 t229 t232 t233 w0 _ ?side1 ?side2 A78.out).mono ?_); (case side1 => exact iI); (case side2 => exact bI); rintro e w87 ⟨v230, rfl, ho0, hi, hb, hk⟩; refine ⟨_, rfl, ?_⟩; have _ := aM (KeepBut.blk hk (g' := gb195) (o := .cells #[.int .i64 0, .slice none 0 0] 26 (0, 0)) (qQ BK195) NB195_0.out (by simp)); have _ := aM (Kd.R_mono (Kd.R_told (Kd.R_oldK (IsS70.apart (show IsS70 w0 _ g s0_0 t204 t205 from iI) (rQ HO199) (by decide)) hk) (Kd.R_base ho0)) (fun _ h_ => h_.1)); have _ := aM (KeepBut.blk hk (g' := gb202) (o := .cells #[.int .i64 t196, .slice Ao85 t197.length co85] 26 (0, 0)) (qQ BK202) NB202_0.out (by simp)); have _ := aM (Kd.R_lower (Kd.R_new' ho0 (Kd.R_lt (rQ HO199))) (keep_size (w := w) (g := g) (row := none) kI)); have _ := aM (KeepBut.trans (kI (w := w)) hk (.inl rfl)); have _ := aM (hb); have _ := aM (hi); clear BK195 HO199 BK202 HK HB HI0; rename_i BK195 HO199 BK202 HO231 HK HB HI0; (try clear hb); (try clear hk); (try clear hi); (try clear ho0); have hnb88 := NB195_0.out; have hnc88 := NB0_195.out; have hcz89_0 := zc20 BK195; have hcz89_1 := zc21 BK195; have hfz89_0 := blk_frozen BK195.out 0; have hfz89_1 := blk_frozen BK195.out 1; obtain ⟨Ao90, co90, eo90⟩ := Kd.R_slice HO231.out; subst eo90))
     refine bodyPost_ret (results_cell_row rfl _ _ gb195 26 #[.int .i64 t228, .slice Ao90 t229.length co90] (0, 0) _ rfl (by (with_reducible repeat first|apply qN|apply qD|apply qA); refine blk_put (cs := #[.int .i64 t228, .slice none 0 0]) ?_ 1 _ rfl; (with_reducible repeat first|apply qN|apply qD|apply qA); refine blk_put (cs := #[.int .i64 0, .slice none 0 0]) ?_ 0 _ rfl; (with_reducible repeat first|apply qN|apply qD|apply qA); exact BK195.out) Tryz.underlying26 rfl (by kernel_rfl)) rfl ?_
     exact ⟨_, eE, by (with_reducible repeat first|apply rA|apply rN|apply rD); exact Kd.R_mono (Kd.R_far (p := ⟨gb195, 1, none⟩) (Kd.R_far (p := ⟨gb195, 0, none⟩) (Kd.R_types HO231.out BK195.out (by decide)) (fun _ hk => hk.2) (.int .i64 t228)) (fun _ hk => hk.2) (.slice Ao90 t229.length co90)) (fun _ hk => trivial), iI, bI, kI⟩
    ·rw [if_neg c77] at H
     have c77b0 : (t203 == 3) = false := beq_eq_false_iff_ne.mpr c77
     have c77b1 : (t203 != 3) = true := bne_iff_ne.mpr c77
     simp only [Option.some.injEq, Prod.mk.injEq] at H
     obtain ⟨rfl, rfl, rfl, rfl⟩ := H
     go_enter Tryz.func77, Tryz.ntmps77
     go_wp2_with (first | ((with_reducible refine gate_dst (N := 4) rfl ?_); refine bE 4 26 #[.int .i64 0, .slice none 0 0] ?_; intro gb195 hg w91 hbox hb; have _ := aM (IsS70.below iI hb); have _ := aM (KeepBut.trans (kI (w := w)) (KeepBut.of_below hb g none) (.inl rfl)); have _ := aM (below_step (bI (w0 := w0)) hb); have _ := aM (hbox); have _ := aM ((by rw [hg]; exact (keep_size (w := w) (g := g) (row := none) kI) : w.heap.size ≤ gb195)); have _ := aM ((Nat.le_trans HW0.out (by rw [hg]; exact (keep_size (w := w) (g := g) (row := none) kI) : w.heap.size ≤ gb195) : w0.heap.size ≤ gb195)); have _ := aM ((by rw [hg]; exact Nat.ne_of_lt (IsS70.lt (show IsS70 w0 _ g s0_0 s0_1 s0_2 from iI)) : g ≠ gb195)); have _ := aM ((by rw [hg]; exact Nat.ne_of_gt (IsS70.lt (show IsS70 w0 _ g s0_0 s0_1 s0_2 from iI)) : gb195 ≠ g)); clear HI0 HK HB; rename_i HI0 HK HB BK195 GW195 GE195 NB0_195 NB195_0; clear hb hbox hg) | ((with_reducible refine gate_callee (f := 164) rfl ?_); refine gL (some 8) Tryz.func164 #[.pointer (some ⟨g, 0, none⟩), .int .i64 a1] ?_; (with_reducible refine (Y1.calls k g s0_0 s0_1 s0_2 a1 t196 t197 t200 t201 w0 _ ?side1 ?side2 A3.out).mono ?_); (case side1 => exact iI); (case side2 => exact bI); rintro e w92 ⟨v198, rfl, ho0, hi, hb, hk⟩; refine ⟨_, rfl, ?_⟩; have _ := aM (KeepBut.blk hk (g' := gb195) (o := .cells #[.int .i64 0, .slice none 0 0] 26 (0, 0)) (qQ BK195) NB195_0.out (by simp)); have _ := aM (Kd.R_lower ho0 (keep_size (w := w) (g := g) (row := none) kI)); have _ := aM (KeepBut.trans (kI (w := w)) hk (.inl rfl)); have _ := aM (hb); have _ := aM (hi); clear BK195 HK HB HI0; rename_i BK195 HO199 HK HB HI0; (try clear hb); (try clear hk); (try clear hi); (try clear ho0)) | ((with_reducible refine gate_dst (N := 5) rfl ?_); refine bE 5 26 #[.int .i64 0, .slice none 0 0] ?_; intro gb202 hg w93 hbox hb; have _ := aM (Kd.R_below (rQ HO199) hb); have _ := aM (IsS70.below iI hb); have _ := bK BK195 hb; have _ := aM (KeepBut.trans (kI (w := w)) (KeepBut.of_below hb g none) (.inl rfl)); have _ := aM (below_step (bI (w0 := w0)) hb); have _ := aM (hbox); have _ := aM ((by rw [hg]; exact (keep_size (w := w) (g := g) (row := none) kI) : w.heap.size ≤ gb202)); have _ := aM ((Nat.le_trans HW0.out (by rw [hg]; exact (keep_size (w := w) (g := g) (row := none) kI) : w.heap.size ≤ gb202) : w0.heap.size ≤ gb202)); have _ := aM (nL hg BK195); have _ := aM (nG hg BK195); have _ := aM ((by rw [hg]; exact Nat.ne_of_lt (IsS70.lt (show IsS70 w0 _ g s0_0 t200 t201 from iI)) : g ≠ gb202)); have _ := aM ((by rw [hg]; exact Nat.ne_of_gt (IsS70.lt (show IsS70 w0 _ g s0_0 t200 t201 from iI)) : gb202 ≠ g)); clear HO199 HI0 BK195 HK HB; rename_i HO199 HI0 BK195 HK HB BK202 GW202 GE202 NB195_202 NB202_195 NB0_202 NB202_0; clear hb hbox hg; have hnb94 := NB202_195.out; have hnc94 := NB195_202.out; have hnb95 := NB202_0.out; have hnc95 := NB0_202.out; have hcz96_0 := zc20 BK202; have hcz96_1 := zc21 BK202; have hfz96_0 := blk_frozen BK202.out 0; have hfz96_1 := blk_frozen BK202.out 1; obtain ⟨Ao97, co97, eo97⟩ := Kd.R_slice HO199.out; subst eo97) | ((with_reducible refine gate_callee (f := 107) rfl ?_); refine gL (some 10) Tryz.func107 #[.pointer (some ⟨g, 0, none⟩), .int .i64 14] ?_; (with_reducible refine (Y8.calls g s0_0 t200 t201 14 t203 t204 t205 w0 _ ?side1 ?side2 A4.out).mono ?_); (case side1 => exact iI); (case side2 => exact bI); rintro e w98 ⟨rfl, hi, hb, hk⟩; refine ⟨_, rfl, ?_⟩; have _ := aM (KeepBut.blk hk (g' := gb195) (o := .cells #[.int .i64 0, .slice none 0 0] 26 (0, 0)) (by (with_reducible repeat first|apply qN|apply qD|apply qA); refine blk_far ?_ NB195_202.out _; (with_reducible repeat first|apply qN|apply qD|apply qA); refine blk_far ?_ NB195_202.out _; (with_reducible repeat first|apply qN|apply qD|apply qA); exact BK195.out) NB195_0.out (by simp)); have _ := aM (Kd.R_mono (Kd.R_keep (IsS70.apart (show IsS70 w0 _ g s0_0 t200 t201 from iI) (by (with_reducible repeat first|apply rA|apply rN|apply rD); exact (Kd.R_mono (Kd.R_far (p := ⟨gb202, 1, none⟩) (Kd.R_far (p := ⟨gb202, 0, none⟩) (Kd.R_types HO199.out BK202.out (by decide)) (fun _ hk => hk.2) (.int .i64 t196)) (fun _ hk => hk.2) (.slice Ao97 t197.length co97)) (fun _ h_ => h_.1))) (by decide)) hk (fun _ h => h.2)) (fun _ h => h.1)); have _ := aM (KeepBut.blk hk (g' := gb202) (o := .cells #[.int .i64 t196, .slice Ao97 t197.length co97] 26 (0, 0)) (by (with_reducible repeat first|apply qN|apply qD|apply qA); refine blk_put (cs := #[.int .i64 t196, .slice none 0 0]) ?_ 1 _ rfl; (with_reducible repeat first|apply qN|apply qD|apply qA); refine blk_put (cs := #[.int .i64 0, .slice none 0 0]) ?_ 0 _ rfl; (with_reducible repeat first|apply qN|apply qD|apply qA); exact BK202.out) NB202_0.out (by simp)); have _ := aM (KeepBut.trans (kI (w := w)) hk (.inl rfl)); have _ := aM (hb); have _ := aM (hi); clear BK195 HO199 BK202 HK HB HI0; rename_i BK195 HO199 BK202 HK HB HI0; (try clear hb); (try clear hk); (try clear hi); have hcz99_0 := zc20 BK202; have hcz99_1 := zc21 BK202; have hfz99_0 := blk_frozen BK202.out 0; have hfz99_1 := blk_frozen BK202.out 1; have hnb100 := NB195_0.out; have hnc100 := NB0_195.out; have hcz101_0 := zc20 BK195; have hcz101_1 := zc21 BK195; have hfz101_0 := blk_frozen BK195.out 0; have hfz101_1 := blk_frozen BK195.out 1))
     refine bodyPost_ret (results_cell_row rfl _ _ gb195 26 #[.int .i64 t196, .slice Ao97 t197.length co97] (0, 0) _ rfl (by (with_reducible repeat first|apply qN|apply qD|apply qA); refine blk_put (cs := #[.int .i64 t196, .slice none 0 0]) ?_ 1 _ rfl; (with_reducible repeat first|apply qN|apply qD|apply qA); refine blk_put (cs := #[.int .i64 0, .slice none 0 0]) ?_ 0 _ rfl; (with_reducible repeat first|apply qN|apply qD|apply qA); exact BK195.out) Tryz.underlying26 rfl (by kernel_rfl)) rfl ?_
     exact ⟨_, eE, by (with_reducible repeat first|apply rA|apply rN|apply rD); exact Kd.R_mono (Kd.R_far (p := ⟨gb195, 1, none⟩) (Kd.R_far (p := ⟨gb195, 0, none⟩) (Kd.R_types HO199.out BK195.out (by decide)) (fun _ hk => hk.2) (.int .i64 t196)) (fun _ hk => hk.2) (.slice Ao97 t197.length co97)) (fun _ hk => trivial), iI, bI, kI⟩
end Go.Proofs.YtjmmleofnjcjoaaGreatDoor.Du
