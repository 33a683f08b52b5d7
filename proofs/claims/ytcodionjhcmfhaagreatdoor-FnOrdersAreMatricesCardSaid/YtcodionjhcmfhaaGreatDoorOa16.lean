-- Written by hook.py (wip/), over the kit's print.py.
import Derived.Test.YtcodionjhcmfhaaGreatDoorOa2
import Derived.Test.YtcodionjhcmfhaaGreatDoorOa9
import Derived.Test.YtcodionjhcmfhaaGreatDoorOa11
import Derived.Test.YtcodionjhcmfhaaGreatDoorOa15
import Derived.Test.YtcodionjhcmfhaaGreatDoorOaXSq
namespace Go.Proofs.YtcodionjhcmfhaaGreatDoor.Oa
open Go.RowKit Go.Proofs.YtcodionjhcmfhaaGreatDoorW.PrintWords Go.Proofs.YtcodionjhcmfhaaGreatDoorW.PrintLast Go.Proofs.YtcodionjhcmfhaaGreatDoorW.PrintMore Go.Proofs.YtcodionjhcmfhaaGreatDoor.Sq
attribute [local go_sem] max2_int min2_int max_two min_two max_three min_three max_four min_four
set_option linter.unusedVariables false
set_option linter.unusedSimpArgs false
def Y15.j0 : Nat → List Int → List Int → Int → Int → Option ((List (List Int)) × Int × Int)
 | 0, _, _, _, _ => none
 | k + 1, x5, x1000, x1001, x1002 => (Y34.f k x5).bind fun t352 => ((Y10.f x1000 x1001 x1002 14).bind fun bt356 => (if bt356.1 = 0 then (if (t352.length : Int) > 0 then ((Y10.f x1000 bt356.2.1 bt356.2.2 (t352.length : Int)).bind fun bt359 => (if 0 ≤ bt359.1 then (if bt359.1 < (t352.length : Int) then ((Y10.f x1000 bt359.2.1 bt359.2.2 (t352.length : Int)).bind fun bt363 => ((Y73.f x1000 bt363.2.1 bt363.2.2 (([(-1), 0, 1, 12, 13] : List Int))).bind fun bt369 => (if 0 ≤ bt363.1 then (if bt363.1 < ((rd_L3 t352 bt359.1).length : Int) then (some ((t352.set (bt359.1 : Int).toNat ((rd_L3 t352 bt359.1).set (bt363.1 : Int).toNat bt369.1)), bt369.2.1, bt369.2.2)) else (none)) else (none)))) else (none)) else (none))) else (some (t352, bt356.2.1, bt356.2.2))) else (if bt356.1 = 1 then (if t352.length < 5864062014805 then (some ((t352 ++ [(([1] : List Int))]), bt356.2.1, bt356.2.2)) else (none)) else (if bt356.1 = 2 then (if (t352.length : Int) > 1 then (if 1 ≤ (t352.length : Int) then (some ((t352.drop (1 : Int).toNat), bt356.2.1, bt356.2.2)) else (none)) else (some (t352, bt356.2.1, bt356.2.2))) else (some (t352, bt356.2.1, bt356.2.2))))))
def Y15.f (k : Nat) (s0_0 : List Int) (s0_1 : Int) (s0_2 : Int) (a1 : Int) : Option ((List (List Int)) × Int × Int) := (Y13.f k s0_0 s0_1 s0_2 a1).bind fun bt343 => ((Y46.f k bt343.1).bind fun t348 => (if t348 = true then (Y15.j0 k bt343.1 s0_0 bt343.2.1 bt343.2.2) else ((Y51.f k 3).bind fun t349 => (Y15.j0 k t349 s0_0 bt343.2.1 bt343.2.2))))
def Y15.T9 : Bool × List (List Nat × List Nat) := (true, [([], []), ([0], [0]), ([], []), ([1, 2], [1, 2]), ([3], [3]), ([], []), ([], []), ([6], [6]), ([7], [7]), ([5, 8], [5, 8]), ([], []), ([], []), ([10, 11, 9], [10, 11]), ([4, 9, 0, 1, 2, 3, 4, 5, 6, 7, 8, 9, 10, 11, 12], [4, 9]), ([13, 12, 12, 0, 1, 2, 3, 4, 5, 6, 7, 8, 9, 10, 11, 12], [12, 13])])
def Y15.B9 : List Nat := [0, 1, 0, 7, 15, 0, 0, 64, 192, 480, 0, 0, 4064, 8191, 16383]
theorem Y15.tab9 : rtab .any (opsOf Tryz.f43 9) = Y15.T9 := by kernel_rfl
theorem Y15.bits9 : waitsOk Y15.T9.2 Y15.B9 = true := by kernel_rfl
set_option maxHeartbeats 8000000 in
set_option maxRecDepth 100000 in
theorem Y15.calls (k : Nat) (g : Nat) (s0_0 : List Int) (s0_1 : Int) (s0_2 : Int) (a1 : Int) (r1 : List (List Int)) (r2 : Int) (r3 : Int) (w0 w : World) (hI : IsS58 w0 w g s0_0 s0_1 s0_2) (hB : Below w0.heap.size w0 w) (h : Y15.f k s0_0 s0_1 s0_2 a1 = some (r1, r2, r3)) :
  Calls Tryz.prog 43 #[.pointer (some ⟨g, 0, none⟩), .int .i64 a1] w fun e w' => ∃ v0_ : Value, e = .returned (.agg #[v0_]) ∧ Kd.Q (Kd.slice 3 (Kd.int .i64)) 24 w' w.heap.size (fun _ => True) v0_ r1 ∧ IsS58 w0 w' g s0_0 r2 r3 ∧ Below w0.heap.size w0 w' ∧ KeepBut w w' g none := by
 have hu30 := Tryz.underlying30
 have HI0 := aM hI
 have HK := aM (KeepBut.refl w g none)
 have HL := aM hB.size
 clear hI
 have HW0 := aM hB.size
 have HB := aM hB
 clear hB
 unfold Y15.f at h
 have H := h
 clear h
 replace H := bS H
 obtain ⟨⟨t343, t346, t347⟩, A3, H⟩ := H
 try dsimp only at H
 replace H := bS H
 obtain ⟨t348, A4, H⟩ := H
 try dsimp only at H
 have HC5 := aM H
 clear H
 go_enter Tryz.func43, Tryz.ntmps43
 go_upto_if 13 with (first | ((with_reducible refine gate_dst (N := 4) rfl ?_); refine bE 4 30 #[.slice none 0 0] ?_; intro gb342 hg w6 hbox hb; have _ := aM (IsS58.below iI hb); have _ := aM (KeepBut.trans (kI (w := w)) (KeepBut.of_below hb g none) (.inl rfl)); have _ := aM (below_step (bI (w0 := w0)) hb); have _ := aM (hbox); have _ := aM ((by rw [hg]; exact (keep_size (w := w) (g := g) (row := none) kI) : w.heap.size ≤ gb342)); have _ := aM ((Nat.le_trans HW0.out (by rw [hg]; exact (keep_size (w := w) (g := g) (row := none) kI) : w.heap.size ≤ gb342) : w0.heap.size ≤ gb342)); have _ := aM ((by rw [hg]; exact Nat.ne_of_lt (IsS58.lt (show IsS58 w0 _ g s0_0 s0_1 s0_2 from iI)) : g ≠ gb342)); have _ := aM ((by rw [hg]; exact Nat.ne_of_gt (IsS58.lt (show IsS58 w0 _ g s0_0 s0_1 s0_2 from iI)) : gb342 ≠ g)); clear HI0 HK HB; rename_i HI0 HK HB BK342 GW342 GE342 NB0_342 NB342_0; clear hb hbox hg) | ((with_reducible refine gate_callee (f := 81) rfl ?_); refine gL (some 10) Tryz.func81 #[.pointer (some ⟨g, 0, none⟩), .int .i64 a1] ?_; (with_reducible refine (Y13.calls k g s0_0 s0_1 s0_2 a1 t343 t346 t347 w0 _ ?side1 ?side2 A3.out).mono ?_); (case side1 => exact iI); (case side2 => exact bI); rintro e w7 ⟨v344, rfl, ho0, hi, hb, hk⟩; refine ⟨_, rfl, ?_⟩; have _ := aM (KeepBut.blk hk (g' := gb342) (o := .cells #[.slice none 0 0] 30 (0, 0)) (qQ BK342) NB342_0.out (by simp)); have _ := aM (Kd.R_lower ho0 (keep_size (w := w) (g := g) (row := none) kI)); have _ := aM (KeepBut.trans (kI (w := w)) hk (.inl rfl)); have _ := aM (hb); have _ := aM (hi); clear BK342 HK HB HI0; rename_i BK342 HO345 HK HB HI0; (try clear hb); (try clear hk); (try clear hi); (try clear ho0); obtain ⟨Ao8, co8, eo8⟩ := Kd.R_slice HO345.out; subst eo8) | ((with_reducible refine gate_callee (f := 82) rfl ?_); refine gL (some 12) Tryz.func82 #[.slice Ao8 t343.length co8] ?_; (with_reducible refine (Y46.calls k _ _ t343 t348 _ (cQ ((Kd.R_reads' HO345.out).2.2)) ((Kd.R_reads' HO345.out).2.1) A4.out).mono ?_); rintro e w' ⟨rfl, ⟨nd, rfl⟩⟩; refine ⟨_, rfl, ?_⟩))
 (try simp only [Act.put, List.setIfInBounds_toArray, List.set_cons_zero, List.set_cons_succ])
 go_cut [5] (fun v5 wc => ∃ (kq : Nat) (x5_4 : List Int), Aside0 (Y15.j0 kq x5_4 s0_0 t346 t347 = some (r1, r2, r3)) ∧ Aside0 (kq ≤ k) ∧ Aside0 (Kd.R (Kd.int .i64) 3 wc w.heap.size (fun _ => True) v5 x5_4) ∧ Aside0 (wc.heap[gb342]? = some (.cells #[(.slice none 0 0)] 30 (0, 0))) ∧ Aside0 (IsS58 w0 wc g s0_0 t346 t347) ∧ Aside0 (KeepBut w wc g none) ∧ Aside0 (Below w0.heap.size w0 wc))
 case first =>
  have H := HC5.out
  clear HC5
  by_cases c9 : t348 = true
  ·subst c9
   have H1 : (Y15.j0 k t343 s0_0 t346 t347) = some (r1, r2, r3) := by rw [if_pos rfl] at H; exact H
   clear H
   have H := H1
   clear H1
   have H' := aM H
   clear H
   go_wp2
   go_meet
   case rel => exact ⟨_, (t343), H', ⟨by first | omega | exact Nat.le_refl _⟩, ⟨rQ HO345⟩, ⟨qQ BK342⟩, ⟨iI⟩, ⟨kI⟩, ⟨bI⟩⟩
  ·replace c9 := Bool.eq_false_iff.mpr c9
   subst c9
   have H1 : ((Y51.f k 3).bind fun t349 => (Y15.j0 k t349 s0_0 t346 t347)) = some (r1, r2, r3) := by rw [if_neg (show ¬ (false = true) by decide)] at H; exact H
   clear H
   have H := H1
   clear H1
   replace H := bS H
   obtain ⟨t349, A10, H⟩ := H
   try dsimp only at H
   have H' := aM H
   clear H
   go_wp2_with (first | ((with_reducible refine gate_callee (f := 83) rfl ?_); refine gL (some 14) Tryz.func83 #[.int .i64 3] ?_; (with_reducible refine (Y51.calls k 3 t349 _ A10.out).mono ?_); rintro e w11 ⟨v350, rfl, ho0, hb⟩; refine ⟨_, rfl, ?_⟩; have _ := aM (Kd.R_elder' (rQ HO345) (Kd.R_base ho0) hb); have _ := aM (Kd.R_lower (Kd.R_new' ho0 (Kd.R_lt (rQ HO345))) (keep_size (w := w) (g := g) (row := none) kI)); have _ := aM (IsS58.below iI hb); have _ := bK BK342 hb; have _ := aM (KeepBut.trans (kI (w := w)) (KeepBut.of_below hb g none) (.inl rfl)); have _ := aM (below_step (bI (w0 := w0)) hb); clear HO345 HI0 BK342 HK HB; rename_i HO345 HO351 HI0 BK342 HK HB; (try clear hb); (try clear ho0)))
   go_meet
   case rel => exact ⟨_, (t349), H', ⟨by first | omega | exact Nat.le_refl _⟩, ⟨by (with_reducible repeat first|apply rA|apply rN|apply rD); exact Kd.R_mono HO351.out (fun _ hk => trivial)⟩, ⟨qQ BK342⟩, ⟨iI⟩, ⟨kI⟩, ⟨bI⟩⟩
 case rest =>
  clear HC5
  try clear c9
  obtain ⟨kq, x5_4, HA, HJ4, HO_5, BK342, HI0, HK, HB⟩ := hcut
  cases kq with
  | zero => exact absurd HA.out (by simp [Y15.j0])
  | succ kj4 =>
   have H := HA.out
   clear HA
   simp only [Y15.j0] at H
   replace H := bS H
   obtain ⟨t352, A12, H⟩ := H
   try dsimp only at H
   replace H := bS H
   obtain ⟨⟨t356, t357, t358⟩, A13, H⟩ := H
   try dsimp only at H
   by_cases c14 : t356 = 0
   ·rw [if_pos c14] at H
    have c14b0 : (t356 == 0) = true := beq_iff_eq.mpr c14
    have c14b1 : (t356 != 0) = false := bne_eq_false_iff_eq.mpr c14
    clear c14
    by_cases c15 : (t352.length : Int) > 0
    ·rw [if_pos c15] at H
     have c15b0 := decide_eq_true c15
     have c15b1 : decide (0 < t352.length) = true := decide_eq_true (by omega)
     clear c15
     replace H := bS H
     obtain ⟨⟨t359, t360, t361⟩, A16, H⟩ := H
     try dsimp only at H
     replace H := iD2 H
     obtain ⟨c17b0, c18b0, H⟩ := H
     replace H := bS H
     obtain ⟨⟨t363, t364, t365⟩, A19, H⟩ := H
     try dsimp only at H
     obtain ⟨y366, hy366⟩ := nE ((([(-1), 0, 1, 12, 13] : List Int)) : List Int)
     try rw [← hy366] at H
     try with_reducible replace H := (Option.bind_some _ _).symm.trans H
     try dsimp only at H
     have Ny366 := aM hy366
     clear hy366
     replace H := bS H
     obtain ⟨⟨t369, t370, t371⟩, A20, H⟩ := H
     try dsimp only at H
     replace H := iD2 H
     obtain ⟨c21b0, c22b0, H⟩ := H
     obtain ⟨y372, hy372⟩ := nE (((rd_L3 t352 t359).set (t363 : Int).toNat t369) : List Int)
     try rw [← hy372] at H
     try with_reducible replace H := (Option.bind_some _ _).symm.trans H
     try dsimp only at H
     have Ny372 := aM hy372
     clear hy372
     obtain ⟨y374, hy374⟩ := nE ((t352.set (t359 : Int).toNat y372) : List (List Int))
     try rw [← hy374] at H
     try with_reducible replace H := (Option.bind_some _ _).symm.trans H
     try dsimp only at H
     have Ny374 := aM hy374
     clear hy374
     simp only [Option.some.injEq, Prod.mk.injEq] at H
     obtain ⟨rfl, rfl, rfl⟩ := H
     obtain ⟨Ao24, co24, eo24⟩ := Kd.R_slice HO_5.out
     subst eo24
     try go_wp2_with (first | ((with_reducible refine gate_callee (f := 84) rfl ?_); refine gL (some 16) Tryz.func84 #[.slice Ao24 x5_4.length co24] ?_; (with_reducible refine (Y34.calls kj4 _ _ x5_4 t352 _ (cQ ((Kd.R_reads' HO_5.out).2.2)) ((Kd.R_reads' HO_5.out).2.1) A12.out).mono ?_); rintro e w25 ⟨v353, rfl, ho0, hb⟩; refine ⟨_, rfl, ?_⟩; have _ := aM (Kd.R_below (rQ HO_5) hb); have _ := aM (Kd.S_lower (Kd.S_new' ho0 (Kd.R_lt (rQ HO_5))) (keep_size (w := w) (g := g) (row := none) kI)); have _ := bK BK342 hb; have _ := aM (IsS58.below iI hb); have _ := aM (KeepBut.trans (kI (w := w)) (KeepBut.of_below hb g none) (.inl rfl)); have _ := aM (below_step (bI (w0 := w0)) hb); clear HO_5 BK342 HI0 HK HB; rename_i HO_5 HO354 BK342 HI0 HK HB; (try clear hb); (try clear ho0)) | ((with_reducible refine gate_dst (N := 6) rfl ?_); refine bE 6 30 #[.slice none 0 0] ?_; intro gb355 hg w26 hbox hb; have _ := aM (Kd.R_below (rQ HO_5) hb); have _ := aM (Kd.S_below (sQ HO354) hb); have _ := bK BK342 hb; have _ := aM (IsS58.below iI hb); have _ := aM (KeepBut.trans (kI (w := w)) (KeepBut.of_below hb g none) (.inl rfl)); have _ := aM (below_step (bI (w0 := w0)) hb); have _ := aM (hbox); have _ := aM ((by rw [hg]; exact (keep_size (w := w) (g := g) (row := none) kI) : w.heap.size ≤ gb355)); have _ := aM ((Nat.le_trans HW0.out (by rw [hg]; exact (keep_size (w := w) (g := g) (row := none) kI) : w.heap.size ≤ gb355) : w0.heap.size ≤ gb355)); have _ := aM (nL hg BK342); have _ := aM (nG hg BK342); have _ := aM ((by rw [hg]; exact Nat.ne_of_lt (IsS58.lt (show IsS58 w0 _ g s0_0 t346 t347 from iI)) : g ≠ gb355)); have _ := aM ((by rw [hg]; exact Nat.ne_of_gt (IsS58.lt (show IsS58 w0 _ g s0_0 t346 t347 from iI)) : gb355 ≠ g)); clear HO_5 HO354 BK342 HI0 HK HB; rename_i HO_5 HO354 BK342 HI0 HK HB BK355 GW355 GE355 NB342_355 NB355_342 NB0_355 NB355_0; clear hb hbox hg; obtain ⟨Ao27, co27, eo27⟩ := Kd.S_slice HO354.out; subst eo27; have hnb28 := NB355_342.out; have hnc28 := NB342_355.out; have hnb29 := NB355_0.out; have hnc29 := NB0_355.out; have hcz30_0 := zc10 BK355; have hfz30_0 := blk_frozen BK355.out 0) | ((with_reducible refine gate_callee (f := 85) rfl ?_); refine gL (some 18) Tryz.func85 #[.pointer (some ⟨g, 0, none⟩), .int .i64 14] ?_; (with_reducible refine (Y10.calls g s0_0 t346 t347 14 t356 t357 t358 w0 _ ?side1 ?side2 A13.out).mono ?_); (case side1 => exact iI); (case side2 => exact bI); rintro e w31 ⟨rfl, hi, hb, hk⟩; refine ⟨_, rfl, ?_⟩; have _ := aM (Kd.R_mono (Kd.R_keep (IsS58.apart (show IsS58 w0 _ g s0_0 t346 t347 from iI) (by (with_reducible repeat first|apply rA|apply rN|apply rD); exact (Kd.R_mono (Kd.R_far (p := ⟨gb355, 0, none⟩) (Kd.R_types HO_5.out BK355.out (by decide)) (fun _ hk => hk.2) (.slice Ao27 t352.length co27)) (fun _ h_ => h_.1))) (by decide)) hk (fun _ h => h.2)) (fun _ h => h.1)); have _ := aM (KeepBut.blk hk (g' := gb342) (o := .cells #[.slice none 0 0] 30 (0, 0)) (by (with_reducible repeat first|apply qN|apply qD|apply qA); refine blk_far ?_ NB342_355.out _; (with_reducible repeat first|apply qN|apply qD|apply qA); exact BK342.out) NB342_0.out (by simp)); have _ := aM (Kd.S_mono (Kd.S_keep (IsS58.apartS (show IsS58 w0 _ g s0_0 t346 t347 from iI) (by (with_reducible repeat first|apply sA|apply sN|apply sD); exact (Kd.S_mono (Kd.S_far (p := ⟨gb355, 0, none⟩) (Kd.S_types HO354.out BK355.out (by decide)) (fun _ hk => hk.2) (.slice Ao27 t352.length co27)) (fun _ h_ => h_.1))) (by decide)) hk (fun _ h => h.2)) (fun _ h => h.1)); have _ := aM (KeepBut.blk hk (g' := gb355) (o := .cells #[.slice Ao27 t352.length co27] 30 (0, 0)) (by (with_reducible repeat first|apply qN|apply qD|apply qA); refine blk_put (cs := #[.slice none 0 0]) ?_ 0 _ rfl; (with_reducible repeat first|apply qN|apply qD|apply qA); exact BK355.out) NB355_0.out (by simp)); have _ := aM (KeepBut.trans (kI (w := w)) hk (.inl rfl)); have _ := aM (hb); have _ := aM (hi); clear HO_5 BK342 HO354 BK355 HK HB HI0; rename_i HO_5 BK342 HO354 BK355 HK HB HI0; (try clear hb); (try clear hk); (try clear hi); have hcz32_0 := zc10 BK355; have hfz32_0 := blk_frozen BK355.out 0) | ((with_reducible refine gate_callee (f := 85) rfl ?_); refine gL (some 29) Tryz.func85 #[.pointer (some ⟨g, 0, none⟩), .int .i64 (t352.length : Int)] ?_; (with_reducible refine (Y10.calls g s0_0 t357 t358 (t352.length : Int) t359 t360 t361 w0 _ ?side1 ?side2 A16.out).mono ?_); (case side1 => exact iI); (case side2 => exact bI); rintro e w33 ⟨rfl, hi, hb, hk⟩; refine ⟨_, rfl, ?_⟩; have _ := aM (Kd.R_mono (Kd.R_keep (IsS58.apart (show IsS58 w0 _ g s0_0 t357 t358 from iI) (rQ HO_5) (by decide)) hk (fun _ h => h.2)) (fun _ h => h.1)); have _ := aM (KeepBut.blk hk (g' := gb342) (o := .cells #[.slice none 0 0] 30 (0, 0)) (qQ BK342) NB342_0.out (by simp)); have _ := aM (Kd.S_mono (Kd.S_keep (IsS58.apartS (show IsS58 w0 _ g s0_0 t357 t358 from iI) (sQ HO354) (by decide)) hk (fun _ h => h.2)) (fun _ h => h.1)); have _ := aM (KeepBut.blk hk (g' := gb355) (o := .cells #[.slice Ao27 t352.length co27] 30 (0, 0)) (qQ BK355) NB355_0.out (by simp)); have _ := aM (KeepBut.trans (kI (w := w)) hk (.inl rfl)); have _ := aM (hb); have _ := aM (hi); clear HO_5 BK342 HO354 BK355 HK HB HI0; rename_i HO_5 BK342 HO354 BK355 HK HB HI0; (try clear hb); (try clear hk); (try clear hi)))
     have n0_ := aM (Kd.R_drew HO_5.out)
     have n1_ := aM (Kd.S_drew HO354.out)
     have n2_ := aM (blk_drew BK342.out)
     have n3_ := aM (blk_drew BK355.out)
     have n4_ := aM (IsS58.drew HI0.out)
     have n5_ := aM (keep_drew HK.out)
     have n6_ := aM (below_drew1 HB.out)
     clear HO_5
     clear HO354
     clear BK342
     clear BK355
     clear HI0
     clear HK
     clear HB
     have HO_5 := n0_
     have HO354 := n1_
     have BK342 := n2_
     have BK355 := n3_
     have HI0 := n4_
     have HK := n5_
     have HB := n6_
     clear n0_ n1_ n2_ n3_ n4_ n5_ n6_
     have p362 : 0 ≤ (t359 : Int) := odt
     have q362 : t359 < (t352.length : Int) := odt
     obtain ⟨ad362, A362_0, c362_0, e362, hx362_0, hl362_0, hi362_0⟩ := at_L3 (Kd.S_reads' HO354.out).2.2 t359 p362 q362
     cases e362
     obtain ⟨ce362, hce362, hMe362, hcc362⟩ := Kd.S_get HO354.out [] t359 p362 (by first | exact q362 | exact odt | (have e_ := (Kd.S_reads' HO354.out).1; omega))
     obtain ⟨ve362_0, rfl, ge362_0⟩ := hMe362
     have hv362_0 := hcc362 0 _ rfl
     rw [Nat.add_zero, show ((Kd.slice 3 (Kd.int .i64))).sz = 1 from rfl, Nat.mul_one] at hv362_0
     replace hv362_0 := Option.some.inj (hv362_0.symm.trans hx362_0)
     rw [hv362_0] at ge362_0
     have HL362_0 := aM (show Kd.R (Kd.int .i64) 3 _ _ _ _ (rd_L3 t352 t359) from ge362_0)
     clear hv362_0 ge362_0
     have HX362_0 := aM hx362_0
     clear hcc362 hce362
     have HR362_0 := aM hi362_0
     have HC362_0 := aM hl362_0
     clear hi362_0 hl362_0
     replace p362 := eq_true p362
     replace q362 := eq_true q362
     refine start_ (n := 15) (S := fun w' => w'.cell? ⟨gb355, 0, none⟩ = some (.slice (some ad362) t352.length co27) ∧ w'.cell? (ad362.add (t359).toNat) = some (.slice A362_0 (rd_L3 t352 t359).length c362_0)) (ds := [14]) #[false, false, false, false, false, false, false, false, false, false, false, false, false, false, false] (by kernel_rfl) rfl rfl ⟨(blk_cell BK355.out 0).trans rfl, hx362_0⟩ (fun hHeld => ?_); refine with_tabW Y15.tab9 Y15.bits9 (fun HT_ HW_ => ?_)
     generalize w33.drew = w34 at HO_5 HO354 BK342 BK355 HI0 HK HB HL362_0 HR362_0 HX362_0 hx362_0 hHeld ⊢
     refine pA 0 30 (h := ?_)
     refine pA 2 32 (h := ?_)
     refine pA 5 35 (h := ?_)
     refine pA 6 36 (h := ?_)
     refine pA 10 40 (h := ?_)
     refine tA 1 31 hHeld (h := ?_)
     refine pA 3 33 (h := ?_)
     refine tA 4 34 hHeld (h := ?_)
     refine tA 7 37 hHeld (h := ?_)
     refine pA 8 38 (h := ?_)
     refine join_ (σ := Value) 3 #[true, true, true, true, true, true, true, true, true, true, true, true, false, false, false] (fun s_ => [(39, .int .i64 t363), (41, s_)]) (fun s_ w' => (w'.cell? ⟨gb355, 0, none⟩ = some (.slice (some ad362) t352.length co27) ∧ w'.cell? (ad362.add (t359).toNat) = some (.slice A362_0 (rd_L3 t352 t359).length c362_0)) ∧ (Kd.R (Kd.int .i64) 3 w' w.heap.size (fun k_ => some k_ ≠ (.slice (some ad362) t352.length co27 : Value).ownBlock ∧ some k_ ≠ (s_ : Value).ownBlock ∧ some k_ ≠ (.slice Ao24 x5_4.length co24 : Value).ownBlock) (.slice A362_0 (rd_L3 t352 t359).length c362_0) (rd_L3 t352 t359)) ∧ (Kd.S (Kd.slice 3 (Kd.int .i64)) 24 w' w.heap.size (fun k_ => some k_ ≠ (s_ : Value).ownBlock ∧ some k_ ≠ (.slice Ao24 x5_4.length co24 : Value).ownBlock) (.slice (some ad362) t352.length co27) t352) ∧ (Kd.R (Kd.int .i64) 3 w' w.heap.size (fun k_ => some k_ ≠ (.slice A362_0 (rd_L3 t352 t359).length c362_0 : Value).ownBlock ∧ some k_ ≠ (.slice Ao24 x5_4.length co24 : Value).ownBlock) s_ y366) ∧ (Kd.R (Kd.int .i64) 3 w' w.heap.size (fun k_ => some k_ ≠ (s_ : Value).ownBlock) (.slice Ao24 x5_4.length co24) x5_4) ∧ (w'.cell? (ad362.add (t359).toNat) = some (.slice A362_0 (rd_L3 t352 t359).length c362_0)) ∧ (w'.heap[gb342]? = some (.cells #[.slice none 0 0] 30 (0, 0))) ∧ (w'.heap[gb355]? = some (.cells #[.slice (some ad362) t352.length co27] 30 (0, 0))) ∧ (IsS58 w0 w' g s0_0 t364 t365) ∧ (KeepBut w w' g none) ∧ (Below w0.heap.size w0 w')) ?_ ?_
     rotate_left
     ·intro hCont
      refine two_ (i := 9) (j := 11) (Ni := some 39) (Nj := some 41) #[true, true, true, true, true, true, true, true, true, true, true, false, false, false, false] #[true, true, true, true, true, true, true, true, true, false, true, true, false, false, false] rfl rfl rfl rfl (two_of HT_.out (by kernel_rfl)) (by decide) (by decide) (fun K hK => ?_) (fun K hK => ?_)
      ·skip
       refine goes_ Tryz.func85 (by kernel_rfl) rfl #[.pointer (some ⟨g, 0, none⟩), .int .i64 (t352.length : Int)] (by rfl) rfl rfl (by (try simp only [List.map_toArray, List.map_cons, List.map_nil]); first | done | rfl | (simp only [List.length_drop, List.length_take]; rfl)) ?_
       with_reducible refine (Y10.calls g s0_0 t360 t361 (t352.length : Int) t363 t364 t365 w0 _ ?side1 ?side2 A19.out).mono ?_
       (case side1 => exact iI)
       (case side2 => exact bI)
       rintro e w35 ⟨rfl, hi, hb, hk⟩
       have HS1_ := keep_cell hk (hHeld.2) (by first | (rw [add_block]; exact Kd.own_blk (IsS58.own_neS HI0.out HO354.out (by decide))) | (show (Addr.add _ _).block ≠ _; rw [add_block]; exact Kd.own_blk (IsS58.own_neS HI0.out HO354.out (by decide))) | exact Kd.own_blk (IsS58.own_neS HI0.out HO354.out (by decide)))
       refine ⟨_, rfl, ?_⟩
       have n0_ := aM (Kd.R_mono (Kd.R_keep (IsS58.apart (show IsS58 w0 _ g s0_0 t360 t361 from iI) (rQ HO_5) (by decide)) hk (fun _ h => h.2)) (fun _ h => h.1))
       have n1_ := aM (KeepBut.blk hk (g' := gb342) (o := .cells #[.slice none 0 0] 30 (0, 0)) (qQ BK342) NB342_0.out (by simp))
       have n2_ := aM (Kd.S_mono (Kd.S_keep (IsS58.apartS (show IsS58 w0 _ g s0_0 t360 t361 from iI) (sQ HO354) (by decide)) hk (fun _ h => h.2)) (fun _ h => h.1))
       have n3_ := aM (KeepBut.blk hk (g' := gb355) (o := .cells #[.slice (some ad362) t352.length co27] 30 (0, 0)) (qQ BK355) NB355_0.out (by simp))
       have n4_ := aM (Kd.R_mono (Kd.R_keep (IsS58.apart (show IsS58 w0 _ g s0_0 t360 t361 from iI) (rQ HL362_0) (by decide)) hk (fun _ h => h.2)) (fun _ h => h.1))
       have n5_ := aM (keep_cell hk HX362_0.out (by first | (rw [add_block]; exact Kd.own_blk (IsS58.own_neS HI0.out HO354.out (by decide))) | (show (Addr.add _ _).block ≠ _; rw [add_block]; exact Kd.own_blk (IsS58.own_neS HI0.out HO354.out (by decide))) | exact Kd.own_blk (IsS58.own_neS HI0.out HO354.out (by decide)) | (dsimp only; exact Kd.own_blk (IsS58.own_neS HI0.out HO354.out (by decide)))))
       have n6_ := aM (KeepBut.trans (kI (w := w)) hk (.inl rfl))
       have n7_ := aM (hb)
       have n8_ := aM (hi)
       clear HO_5
       clear BK342
       clear HO354
       clear BK355
       clear HL362_0
       clear HX362_0
       clear HK
       clear HB
       clear HI0
       have HO_5 := n0_
       have BK342 := n1_
       have HO354 := n2_
       have BK355 := n3_
       have HL362_0 := n4_
       have HX362_0 := n5_
       have HK := n6_
       have HB := n7_
       have HI0 := n8_
       clear n0_ n1_ n2_ n3_ n4_ n5_ n6_ n7_ n8_
       (try clear hb)
       (try clear hb2)
       (try clear hk)
       (try clear hi)
       refine hK.out _ _ ⟨(blk_cell BK355.out 0).trans rfl, HS1_⟩ (fun hHeld => ?_)
       clear hK K
       refine nA 39 (h := ?_)
       refine one_ (i := 11) (N := some 41) #[true, true, true, true, true, true, true, true, true, true, true, true, false, false, false] rfl rfl (one_of HT_.out (by kernel_rfl)) (by decide) (fun K hK => ?_)
       refine Kd.R_lit_step (Kd.int .i64) _ 3 ?hg (N := 41) ?hd (xs := ([(-1), 0, 1, 12, 13] : List Int)) (inner := [.int .i64 (-1), .int .i64 0, .int .i64 1, .int .i64 12, .int .i64 13]) (ok := fun _ => True) (okp := fun _ => True) ?hr ?hp (fun _ hk => hk) trivial (Below.refl _ _) (Nat.le_refl _) (by simp) ?_; (case hd => rfl); (case hg => rfl); (case hr => first | (go_simp; done) | (go_simp; rfl)); (case hp => exact (Reps.one (show Kd.M (Kd.int .i64) _ _ _ (-1) [.int .i64 (-1)] from rfl) (Reps.one (show Kd.M (Kd.int .i64) _ _ _ 0 [.int .i64 0] from rfl) (Reps.one (show Kd.M (Kd.int .i64) _ _ _ 1 [.int .i64 1] from rfl) (Reps.one (show Kd.M (Kd.int .i64) _ _ _ 12 [.int .i64 12] from rfl) (Reps.one (show Kd.M (Kd.int .i64) _ _ _ 13 [.int .i64 13] from rfl) (Reps.none _ _)))))))
       intro v367 w36 ho37 hb hg_ hnew_
       have HS1_ := (hb.cell (World.block_lt_of_cell? _ _ (hHeld.2))).trans (hHeld.2)
       clear hg_ hnew_
       (first | rw [← Ny366.out] at ho37 | (simp only [Int.reduceToNat] at ho37; rw [← Ny366.out] at ho37))
       have n0_ := aM (Kd.R_elder' (rQ HO_5) (Kd.R_base ho37) hb)
       have n1_ := aM (Kd.S_elder' (sQ HO354) (Kd.R_base ho37) hb)
       have n2_ := aM (Kd.R_elder' (rQ HL362_0) (Kd.R_base ho37) hb)
       have n3_ := aM (Kd.R_lower (Kd.R_new' (Kd.R_new' ho37 (Kd.R_lt (rQ HO_5))) (Kd.R_lt (rQ HL362_0))) (keep_size (w := w) (g := g) (row := none) kI))
       have n4_ := aM (blk_below (qQ BK342) hb)
       have n5_ := aM (IsS58.below iI hb)
       have n6_ := aM (blk_below (qQ BK355) hb)
       have n7_ := aM (pw_cell_below hb HX362_0.out)
       have n8_ := aM (KeepBut.trans (kI (w := w)) (KeepBut.of_below hb g none) (.inl rfl))
       have n9_ := aM (below_step (bI (w0 := w0)) hb)
       clear HO_5
       clear HO354
       clear HL362_0
       clear BK342
       clear HI0
       clear BK355
       clear HX362_0
       clear HK
       clear HB
       have HO_5 := n0_
       have HO354 := n1_
       have HL362_0 := n2_
       have HO368 := n3_
       have BK342 := n4_
       have HI0 := n5_
       have BK355 := n6_
       have HX362_0 := n7_
       have HK := n8_
       have HB := n9_
       clear n0_ n1_ n2_ n3_ n4_ n5_ n6_ n7_ n8_ n9_
       clear hb ho37
       refine hK.out _ _ ⟨(blk_cell BK355.out 0).trans rfl, HS1_⟩ (fun hHeld => ?_)
       clear hK K
       refine nA 41 (h := ?_)
       exact norm_ (by simp only [putAll, Act.put, List.setIfInBounds_toArray, List.set_cons_zero, List.set_cons_succ]) (hCont (v367) _ ⟨hHeld, (by (with_reducible repeat first|apply rA|apply rN|apply rD); exact Kd.R_mono HL362_0.out (fun _ hk => ⟨hk.1.2, ⟨hk.2, hk.1.1.2⟩⟩)), (by (with_reducible repeat first|apply sA|apply sN|apply sD); exact Kd.S_mono HO354.out (fun _ hk => ⟨hk.2, hk.1.2⟩)), (by (with_reducible repeat first|apply rA|apply rN|apply rD); exact Kd.R_mono HO368.out (fun _ hk => ⟨hk.2, hk.1.2⟩)), (by (with_reducible repeat first|apply rA|apply rN|apply rD); exact Kd.R_mono HO_5.out (fun _ hk => hk.2)), HX362_0.out, (qQ BK342), (qQ BK355), iI, kI, bI⟩)
      ·skip
       refine Kd.R_lit_step (Kd.int .i64) _ 3 ?hg (N := 41) ?hd (xs := ([(-1), 0, 1, 12, 13] : List Int)) (inner := [.int .i64 (-1), .int .i64 0, .int .i64 1, .int .i64 12, .int .i64 13]) (ok := fun _ => True) (okp := fun _ => True) ?hr ?hp (fun _ hk => hk) trivial (Below.refl _ _) (Nat.le_refl _) (by simp) ?_; (case hd => rfl); (case hg => rfl); (case hr => first | (go_simp; done) | (go_simp; rfl)); (case hp => exact (Reps.one (show Kd.M (Kd.int .i64) _ _ _ (-1) [.int .i64 (-1)] from rfl) (Reps.one (show Kd.M (Kd.int .i64) _ _ _ 0 [.int .i64 0] from rfl) (Reps.one (show Kd.M (Kd.int .i64) _ _ _ 1 [.int .i64 1] from rfl) (Reps.one (show Kd.M (Kd.int .i64) _ _ _ 12 [.int .i64 12] from rfl) (Reps.one (show Kd.M (Kd.int .i64) _ _ _ 13 [.int .i64 13] from rfl) (Reps.none _ _)))))))
       intro v367 w35 ho36 hb hg_ hnew_
       have HS1_ := (hb.cell (World.block_lt_of_cell? _ _ (hHeld.2))).trans (hHeld.2)
       clear hg_ hnew_
       (first | rw [← Ny366.out] at ho36 | (simp only [Int.reduceToNat] at ho36; rw [← Ny366.out] at ho36))
       have n0_ := aM (Kd.R_elder' (rQ HO_5) (Kd.R_base ho36) hb)
       have n1_ := aM (Kd.S_elder' (sQ HO354) (Kd.R_base ho36) hb)
       have n2_ := aM (Kd.R_elder' (rQ HL362_0) (Kd.R_base ho36) hb)
       have n3_ := aM (Kd.R_lower (Kd.R_new' (Kd.R_new' ho36 (Kd.R_lt (rQ HO_5))) (Kd.R_lt (rQ HL362_0))) (keep_size (w := w) (g := g) (row := none) kI))
       have n4_ := aM (blk_below (qQ BK342) hb)
       have n5_ := aM (IsS58.below iI hb)
       have n6_ := aM (blk_below (qQ BK355) hb)
       have n7_ := aM (Kd.C_below (cQ HR362_0.out) hb)
       have n8_ := aM (pw_cell_below hb HX362_0.out)
       have n9_ := aM (KeepBut.trans (kI (w := w)) (KeepBut.of_below hb g none) (.inl rfl))
       have n10_ := aM (below_step (bI (w0 := w0)) hb)
       clear HO_5
       clear HO354
       clear HL362_0
       clear BK342
       clear HI0
       clear BK355
       clear HR362_0
       clear HX362_0
       clear HK
       clear HB
       have HO_5 := n0_
       have HO354 := n1_
       have HL362_0 := n2_
       have HO368 := n3_
       have BK342 := n4_
       have HI0 := n5_
       have BK355 := n6_
       have HR362_0 := n7_
       have HX362_0 := n8_
       have HK := n9_
       have HB := n10_
       clear n0_ n1_ n2_ n3_ n4_ n5_ n6_ n7_ n8_ n9_ n10_
       clear hb ho36
       refine hK.out _ _ ⟨(blk_cell BK355.out 0).trans rfl, HS1_⟩ (fun hHeld => ?_)
       clear hK K
       refine nA 41 (h := ?_)
       refine one_ (i := 9) (N := some 39) #[true, true, true, true, true, true, true, true, true, true, true, true, false, false, false] rfl rfl (one_of HT_.out (by kernel_rfl)) (by decide) (fun K hK => ?_)
       refine goes_ Tryz.func85 (by kernel_rfl) rfl #[.pointer (some ⟨g, 0, none⟩), .int .i64 (t352.length : Int)] (by rfl) rfl rfl (by (try simp only [List.map_toArray, List.map_cons, List.map_nil]); first | done | rfl | (simp only [List.length_drop, List.length_take]; rfl)) ?_
       with_reducible refine (Y10.calls g s0_0 t360 t361 (t352.length : Int) t363 t364 t365 w0 _ ?side1 ?side2 A19.out).mono ?_
       (case side1 => exact iI)
       (case side2 => exact bI)
       rintro e w37 ⟨rfl, hi, hb, hk⟩
       have HS1_ := keep_cell hk (hHeld.2) (by first | (rw [add_block]; exact Kd.own_blk (IsS58.own_neS HI0.out HO354.out (by decide))) | (show (Addr.add _ _).block ≠ _; rw [add_block]; exact Kd.own_blk (IsS58.own_neS HI0.out HO354.out (by decide))) | exact Kd.own_blk (IsS58.own_neS HI0.out HO354.out (by decide)))
       refine ⟨_, rfl, ?_⟩
       have n0_ := aM (Kd.R_mono (Kd.R_keep (IsS58.apart (show IsS58 w0 _ g s0_0 t360 t361 from iI) (rQ HO_5) (by decide)) hk (fun _ h => h.2)) (fun _ h => h.1))
       have n1_ := aM (KeepBut.blk hk (g' := gb342) (o := .cells #[.slice none 0 0] 30 (0, 0)) (qQ BK342) NB342_0.out (by simp))
       have n2_ := aM (Kd.S_mono (Kd.S_keep (IsS58.apartS (show IsS58 w0 _ g s0_0 t360 t361 from iI) (sQ HO354) (by decide)) hk (fun _ h => h.2)) (fun _ h => h.1))
       have n3_ := aM (KeepBut.blk hk (g' := gb355) (o := .cells #[.slice (some ad362) t352.length co27] 30 (0, 0)) (qQ BK355) NB355_0.out (by simp))
       have n4_ := aM (Kd.R_mono (Kd.R_keep (IsS58.apart (show IsS58 w0 _ g s0_0 t360 t361 from iI) (rQ HL362_0) (by decide)) hk (fun _ h => h.2)) (fun _ h => h.1))
       have n5_ := aM (keep_cell hk HX362_0.out (by first | (rw [add_block]; exact Kd.own_blk (IsS58.own_neS HI0.out HO354.out (by decide))) | (show (Addr.add _ _).block ≠ _; rw [add_block]; exact Kd.own_blk (IsS58.own_neS HI0.out HO354.out (by decide))) | exact Kd.own_blk (IsS58.own_neS HI0.out HO354.out (by decide)) | (dsimp only; exact Kd.own_blk (IsS58.own_neS HI0.out HO354.out (by decide)))))
       have n6_ := aM (Kd.R_mono (Kd.R_keep (IsS58.apart (show IsS58 w0 _ g s0_0 t360 t361 from iI) (rQ HO368) (by decide)) hk (fun _ h => h.2)) (fun _ h => h.1))
       have n7_ := aM (KeepBut.trans (kI (w := w)) hk (.inl rfl))
       have n8_ := aM (hb)
       have n9_ := aM (hi)
       clear HO_5
       clear BK342
       clear HO354
       clear BK355
       clear HL362_0
       clear HX362_0
       clear HO368
       clear HK
       clear HB
       clear HI0
       have HO_5 := n0_
       have BK342 := n1_
       have HO354 := n2_
       have BK355 := n3_
       have HL362_0 := n4_
       have HX362_0 := n5_
       have HO368 := n6_
       have HK := n7_
       have HB := n8_
       have HI0 := n9_
       clear n0_ n1_ n2_ n3_ n4_ n5_ n6_ n7_ n8_ n9_
       (try clear hb)
       (try clear hb2)
       (try clear hk)
       (try clear hi)
       refine hK.out _ _ ⟨(blk_cell BK355.out 0).trans rfl, HS1_⟩ (fun hHeld => ?_)
       clear hK K
       refine nA 39 (h := ?_)
       exact norm_ (by simp only [putAll, Act.put, List.setIfInBounds_toArray, List.set_cons_zero, List.set_cons_succ]) (hCont (v367) _ ⟨hHeld, (by (with_reducible repeat first|apply rA|apply rN|apply rD); exact Kd.R_mono HL362_0.out (fun _ hk => ⟨hk.1.2, ⟨hk.2, hk.1.1.2⟩⟩)), (by (with_reducible repeat first|apply sA|apply sN|apply sD); exact Kd.S_mono HO354.out (fun _ hk => ⟨hk.2, hk.1.2⟩)), (by (with_reducible repeat first|apply rA|apply rN|apply rD); exact Kd.R_mono HO368.out (fun _ hk => ⟨hk.2, hk.1.2⟩)), (by (with_reducible repeat first|apply rA|apply rN|apply rD); exact Kd.R_mono HO_5.out (fun _ hk => hk.2)), HX362_0.out, (qQ BK342), (qQ BK355), iI, kI, bI⟩)
     rintro v367 w38 ⟨hS_, h0_, h1_, h2_, h3_, h4_, h5_, h6_, h7_, h8_, h9_⟩
     have n0_ : Aside0 (Kd.R (Kd.int .i64) 3 w38 w.heap.size (fun k_ => some k_ ≠ (.slice (some ad362) t352.length co27 : Value).ownBlock ∧ some k_ ≠ (v367 : Value).ownBlock ∧ some k_ ≠ (.slice Ao24 x5_4.length co24 : Value).ownBlock) (.slice A362_0 (rd_L3 t352 t359).length c362_0) (rd_L3 t352 t359)) := ⟨h0_⟩
     have n1_ : Aside0 (Kd.S (Kd.slice 3 (Kd.int .i64)) 24 w38 w.heap.size (fun k_ => some k_ ≠ (v367 : Value).ownBlock ∧ some k_ ≠ (.slice Ao24 x5_4.length co24 : Value).ownBlock) (.slice (some ad362) t352.length co27) t352) := ⟨h1_⟩
     have n2_ : Aside0 (Kd.R (Kd.int .i64) 3 w38 w.heap.size (fun k_ => some k_ ≠ (.slice A362_0 (rd_L3 t352 t359).length c362_0 : Value).ownBlock ∧ some k_ ≠ (.slice Ao24 x5_4.length co24 : Value).ownBlock) v367 y366) := ⟨h2_⟩
     have n3_ : Aside0 (Kd.R (Kd.int .i64) 3 w38 w.heap.size (fun k_ => some k_ ≠ (v367 : Value).ownBlock) (.slice Ao24 x5_4.length co24) x5_4) := ⟨h3_⟩
     have n4_ : Aside0 (w38.cell? (ad362.add (t359).toNat) = some (.slice A362_0 (rd_L3 t352 t359).length c362_0)) := ⟨h4_⟩
     have n5_ : Aside0 (w38.heap[gb342]? = some (.cells #[.slice none 0 0] 30 (0, 0))) := ⟨h5_⟩
     have n6_ : Aside0 (w38.heap[gb355]? = some (.cells #[.slice (some ad362) t352.length co27] 30 (0, 0))) := ⟨h6_⟩
     have n7_ : Aside0 (IsS58 w0 w38 g s0_0 t364 t365) := ⟨h7_⟩
     have n8_ : Aside0 (KeepBut w w38 g none) := ⟨h8_⟩
     have n9_ : Aside0 (Below w0.heap.size w0 w38) := ⟨h9_⟩
     clear HO_5
     clear HO354
     clear BK342
     clear BK355
     clear HI0
     clear HK
     clear HB
     clear h0_ h1_ h2_ h3_ h4_ h5_ h6_ h7_ h8_ h9_
     have HL362_0 := n0_
     have HO354 := n1_
     have HO368 := n2_
     have HO_5 := n3_
     have HX362_0 := n4_
     have BK342 := n5_
     have BK355 := n6_
     have HI0 := n7_
     have HK := n8_
     have HB := n9_
     clear n0_ n1_ n2_ n3_ n4_ n5_ n6_ n7_ n8_ n9_
     have hHeld : w38.cell? ⟨gb355, 0, none⟩ = some (.slice (some ad362) t352.length co27) ∧ w38.cell? (ad362.add (t359).toNat) = some (.slice A362_0 (rd_L3 t352 t359).length c362_0) := hS_
     obtain ⟨Ao39, co39, eo39⟩ := Kd.R_slice HO368.out
     (first | subst eo39 | (injection eo39 with f1_ f2_ f3_; have f4_ := f1_.symm; have f5_ := f3_.symm; clear f1_ f2_ f3_; subst f4_; subst f5_))
     refine norm_ (a' := ?_) ?_ ?_
     rotate_left
     ·simp only [putAll, Act.put, List.setIfInBounds_toArray, List.set_cons_zero, List.set_cons_succ]
      rfl
     refine one_ (i := 12) (N := some 42) #[true, true, true, true, true, true, true, true, true, true, true, true, true, false, false] rfl rfl (one_of HT_.out (by kernel_rfl)) (by decide) (fun K hK => ?_)
     refine goes_ Tryz.func86 (by kernel_rfl) rfl #[.pointer (some ⟨g, 0, none⟩), .slice Ao39 y366.length co39] (by rfl) rfl rfl (by (try simp only [List.map_toArray, List.map_cons, List.map_nil]); first | done | rfl | (simp only [List.length_drop, List.length_take]; rfl)) ?_
     with_reducible refine (Y73.calls g s0_0 t364 t365 _ _ y366 t369 t370 t371 w0 _ ?side1 ?side2 ?side3 ?side4 ?side5 A20.out).mono ?_
     (case side1 => exact iI)
     (case side2 => exact bI)
     (case side3 => repeat (first | exact (Kd.R_reads' HO368.out).2.2 | (with_reducible refine Kd.C_alloc ?_ _) | (with_reducible refine Kd.C_drewN ?_ _) | (with_reducible refine Kd.C_drew ?_)))
     (case side4 => exact (Kd.R_reads' HO368.out).2.1)
     (case side5 => exact far_slice (IsS58.own_ne HI0.out HO368.out (by decide)))
     rintro e w40 ⟨rfl, hi, hb, hk⟩
     have HS1_ := keep_cell hk (hHeld.2) (by first | (rw [add_block]; exact Kd.own_blk (IsS58.own_neS HI0.out HO354.out (by decide))) | (show (Addr.add _ _).block ≠ _; rw [add_block]; exact Kd.own_blk (IsS58.own_neS HI0.out HO354.out (by decide))) | exact Kd.own_blk (IsS58.own_neS HI0.out HO354.out (by decide)))
     refine ⟨_, rfl, ?_⟩
     have n0_ := aM (Kd.R_mono (Kd.R_keep (IsS58.apart (show IsS58 w0 _ g s0_0 t364 t365 from iI) (rQ HO_5) (by decide)) hk (fun _ h => h.2)) (fun _ h => h.1))
     have n1_ := aM (KeepBut.blk hk (g' := gb342) (o := .cells #[.slice none 0 0] 30 (0, 0)) (qQ BK342) NB342_0.out (by simp))
     have n2_ := aM (Kd.S_mono (Kd.S_keep (IsS58.apartS (show IsS58 w0 _ g s0_0 t364 t365 from iI) (sQ HO354) (by decide)) hk (fun _ h => h.2)) (fun _ h => h.1))
     have n3_ := aM (KeepBut.blk hk (g' := gb355) (o := .cells #[.slice (some ad362) t352.length co27] 30 (0, 0)) (qQ BK355) NB355_0.out (by simp))
     have n4_ := aM (Kd.R_mono (Kd.R_keep (IsS58.apart (show IsS58 w0 _ g s0_0 t364 t365 from iI) (rQ HL362_0) (by decide)) hk (fun _ h => h.2)) (fun _ h => h.1))
     have n5_ := aM (keep_cell hk HX362_0.out (by first | (rw [add_block]; exact Kd.own_blk (IsS58.own_neS HI0.out HO354.out (by decide))) | (show (Addr.add _ _).block ≠ _; rw [add_block]; exact Kd.own_blk (IsS58.own_neS HI0.out HO354.out (by decide))) | exact Kd.own_blk (IsS58.own_neS HI0.out HO354.out (by decide)) | (dsimp only; exact Kd.own_blk (IsS58.own_neS HI0.out HO354.out (by decide)))))
     have n6_ := aM (Kd.R_mono (Kd.R_keep (IsS58.apart (show IsS58 w0 _ g s0_0 t364 t365 from iI) (rQ HO368) (by decide)) hk (fun _ h => h.2)) (fun _ h => h.1))
     have n7_ := aM (KeepBut.trans (kI (w := w)) hk (.inl rfl))
     have n8_ := aM (hb)
     have n9_ := aM (hi)
     clear HO_5
     clear BK342
     clear HO354
     clear BK355
     clear HL362_0
     clear HX362_0
     clear HO368
     clear HK
     clear HB
     clear HI0
     have HO_5 := n0_
     have BK342 := n1_
     have HO354 := n2_
     have BK355 := n3_
     have HL362_0 := n4_
     have HX362_0 := n5_
     have HO368 := n6_
     have HK := n7_
     have HB := n8_
     have HI0 := n9_
     clear n0_ n1_ n2_ n3_ n4_ n5_ n6_ n7_ n8_ n9_
     (try clear hb)
     (try clear hb2)
     (try clear hk)
     (try clear hi)
     have p23 : 0 ≤ (t363 : Int) := odt
     have q23 : (t363 : Int) < (((rd_L3 t352 t359).length : Int) : Int) := odt
     obtain ⟨go23, co23, eo23, gb23, gl23, cl23, HG23⟩ := Kd.R_form HL362_0.out (by omega)
     (first | cases eo23 | (injection eo23 with ea_ en_ ec_; (first | subst ea_ | (injection ea_ with ea_; subst ea_)); subst ec_; clear en_))
     have GB23 := aM gb23
     have GG23 := aM HG23
     clear gb23 gl23 HG23
     obtain ⟨hx23_0, hf23_0⟩ := Kd.R_celln 0 HL362_0.out (t363 : Int) p23 q23
     replace p23 := eq_true p23
     replace q23 := eq_true q23
     have hq41 : (t359 : Int) < (t352.length : Int) := (by have h_ : (t359 : Int) < ((t352.length : Int) : Int) := odt; first | exact h_ | (have e_ := (Kd.S_reads' HO354.out).1; omega) | simpa only [List.length_set, List.length_set] using h_)
     obtain ⟨oki41, ce41, hcl41, hM41, hcc41, hok41, hbk41⟩ := Kd.S_borrow HO354.out [] (t359 : Int) (odt) hq41
     obtain ⟨ve41_0, rfl, ge41_0⟩ := hM41
     have hv41 := hcc41 0 _ rfl
     rw [Nat.add_zero, show ((Kd.slice 3 (Kd.int .i64))).sz = 1 from rfl, Nat.mul_one] at hv41
     replace hv41 := Option.some.inj (hv41.symm.trans HX362_0.out)
     subst hv41
     clear hcc41 hcl41
     replace ge41_0 := (show Kd.R (Kd.int .i64) 3 _ _ _ _ (rd_L3 t352 t359) from ge41_0)
     have HP41 := Kd.R_putg ge41_0 (t363 : Int) t369
     have HN0_go23 := aM (show g ≠ go23 from by have h_ := IsS58.own_ne HI0.out HL362_0.out (by decide); intro e_; exact h_ (by rw [e_]; rfl))
     rw [← Ny372.out] at HP41
     have HS41 := hbk41 HP41.2 (fun k_ e_ => by injection e_ with e_; subst e_; exact ge41_0.1 _ rfl) (x' := y372) (Kd.M_row HP41.1)
     rw [← Ny374.out] at HS41
     have HQ41 := aM HS41
     clear HP41 HS41 hbk41 hok41
     refine hK.out _ _ ⟨(blk_cell BK355.out 0).trans rfl, HS1_⟩ (fun hHeld => ?_)
     clear hK K
     refine nA 42 (h := ?_)
     refine pA 13 43 (h := ?_)
     refine last_ (i := 14) (N := none) #[true, true, true, true, true, true, true, true, true, true, true, true, true, true, true] rfl rfl (one_of HT_.out (by kernel_rfl)) (by decide) (fun K hK => ?_)
     refine skip_ (w1 := ?_) (by rfl) rfl ?_ ?_
     rotate_left
     ·go_simp
      rfl
     refine hK.out _ _ ?_
     clear hK K
     refine done_ (done_of HT_.out (by kernel_rfl)) ?_
     have n0_ : Aside0 (Kd.R (Kd.int .i64) 3 (w40.setCell ⟨go23, (t363 : Int).toNat, none⟩ (.int .i64 t369)) w.heap.size (fun k_ => some k_ ≠ (.slice Ao39 y366.length co39 : Value).ownBlock) (.slice Ao24 x5_4.length co24) x5_4) := ⟨by (with_reducible repeat first|apply rA|apply rN|apply rD); exact Kd.R_mono (Kd.R_far (p := ⟨go23, (t363 : Int).toNat, none⟩) (Kd.R_far1 HO_5.out rfl ((HL362_0.out.1 _ rfl).2.2)) (fun _ hk => hk.2) (.int .i64 t369)) (fun _ hk => hk.1)⟩
     have n1_ : Aside0 (Kd.S (Kd.slice 3 (Kd.int .i64)) 24 (w40.setCell ⟨go23, (t363 : Int).toNat, none⟩ (.int .i64 t369)) w.heap.size (fun k_ => some k_ ≠ (.slice Ao24 x5_4.length co24 : Value).ownBlock ∧ some k_ ≠ (.slice Ao39 y366.length co39 : Value).ownBlock) (.slice (some ad362) t352.length co27) y374) := ⟨by (with_reducible repeat first|apply sA|apply sN|apply sD); exact Kd.S_mono HQ41.out (fun _ hk => ⟨hk.2, hk.1⟩)⟩
     have n2_ : Aside0 (Kd.R (Kd.int .i64) 3 (w40.setCell ⟨go23, (t363 : Int).toNat, none⟩ (.int .i64 t369)) w.heap.size (fun k_ => some k_ ≠ (.slice Ao24 x5_4.length co24 : Value).ownBlock) (.slice Ao39 y366.length co39) y366) := ⟨by (with_reducible repeat first|apply rA|apply rN|apply rD); exact Kd.R_mono (Kd.R_far (p := ⟨go23, (t363 : Int).toNat, none⟩) (Kd.R_far1 HO368.out rfl ((HL362_0.out.1 _ rfl).2.1)) (fun _ hk => hk.2) (.int .i64 t369)) (fun _ hk => hk.1.2)⟩
     have n3_ : Aside0 ((w40.setCell ⟨go23, (t363 : Int).toNat, none⟩ (.int .i64 t369)).heap[gb342]? = some (.cells #[.slice none 0 0] 30 (0, 0))) := ⟨by (with_reducible repeat first|apply qN|apply qD|apply qA); refine blk_far ?_ (by have h_ := Kd.R_ne HL362_0.out BK342.out (by decide); intro e_; exact h_ (by rw [e_]; rfl)) _; (with_reducible repeat first|apply qN|apply qD|apply qA); exact BK342.out⟩
     have n4_ : Aside0 ((w40.setCell ⟨go23, (t363 : Int).toNat, none⟩ (.int .i64 t369)).heap[gb355]? = some (.cells #[.slice (some ad362) t352.length co27] 30 (0, 0))) := ⟨by (with_reducible repeat first|apply qN|apply qD|apply qA); refine blk_far ?_ (by have h_ := Kd.R_ne HL362_0.out BK355.out (by decide); intro e_; exact h_ (by rw [e_]; rfl)) _; (with_reducible repeat first|apply qN|apply qD|apply qA); exact BK355.out⟩
     have n5_ : Aside0 (IsS58 w0 (w40.setCell ⟨go23, (t363 : Int).toNat, none⟩ (.int .i64 t369)) g s0_0 t370 t371) := ⟨iI⟩
     have n6_ : Aside0 (KeepBut w (w40.setCell ⟨go23, (t363 : Int).toNat, none⟩ (.int .i64 t369)) g none) := ⟨kI⟩
     have n7_ : Aside0 (Below w0.heap.size w0 (w40.setCell ⟨go23, (t363 : Int).toNat, none⟩ (.int .i64 t369))) := ⟨by repeat (first | (with_reducible first | exact HB.out | apply bA | apply bN | apply bD | refine below_set ?_ (Nat.le_trans HL.out GB23.out) | refine below_set ?_ (IsS58.ge HI0.out) | refine below_set ?_ GE342.out | refine below_set ?_ GE355.out) | exact HB.out)⟩
     (try clear HO_5)
     (try clear HO354)
     (try clear HO368)
     (try clear BK342)
     (try clear BK355)
     (try clear HI0)
     (try clear HK)
     (try clear HB)
     generalize (w40.setCell ⟨go23, (t363 : Int).toNat, none⟩ (.int .i64 t369)) = w43 at n0_ n1_ n2_ n3_ n4_ n5_ n6_ n7_ ⊢
     have HO_5 := n0_
     have HO354 := n1_
     have HO368 := n2_
     have BK342 := n3_
     have BK355 := n4_
     have HI0 := n5_
     have HK := n6_
     have HB := n7_
     clear n0_ n1_ n2_ n3_ n4_ n5_ n6_ n7_
     have hcz44_0 := zc10 BK355
     have hfz44_0 := blk_frozen BK355.out 0
     have hnb45 := NB342_0.out
     have hnc45 := NB0_342.out
     have hcz46_0 := zc10 BK342
     have hfz46_0 := blk_frozen BK342.out 0
     try go_wp2
     refine bodyPost_ret (results_cell_row rfl _ _ gb342 30 #[.slice (some ad362) t352.length co27] (0, 0) _ rfl (by (with_reducible repeat first|apply qN|apply qD|apply qA); refine blk_put (cs := #[.slice none 0 0]) ?_ 0 _ rfl; (with_reducible repeat first|apply qN|apply qD|apply qA); exact BK342.out) Tryz.underlying30 rfl (by kernel_rfl)) rfl ?_
     exact ⟨_, eE, Kd.Q_of_R ((Kd.S_R (by (with_reducible repeat first|apply sA|apply sN|apply sD); exact Kd.S_mono (Kd.S_far (p := ⟨gb342, 0, none⟩) (Kd.S_types HO354.out BK342.out (by decide)) (fun _ hk => hk.2) (.slice (some ad362) t352.length co27)) (fun _ hk => trivial)))), iI, bI, kI⟩
    ·rw [if_neg c15] at H
     have c15b0 := decide_eq_false c15
     have c15b1 : decide (0 < t352.length) = false := decide_eq_false (by omega)
     clear c15
     simp only [Option.some.injEq, Prod.mk.injEq] at H
     obtain ⟨rfl, rfl, rfl⟩ := H
     obtain ⟨Ao47, co47, eo47⟩ := Kd.R_slice HO_5.out
     subst eo47
     go_wp2_with (first | ((with_reducible refine gate_callee (f := 84) rfl ?_); refine gL (some 16) Tryz.func84 #[.slice Ao47 x5_4.length co47] ?_; (with_reducible refine (Y34.calls kj4 _ _ x5_4 t352 _ (cQ ((Kd.R_reads' HO_5.out).2.2)) ((Kd.R_reads' HO_5.out).2.1) A12.out).mono ?_); rintro e w48 ⟨v353, rfl, ho0, hb⟩; refine ⟨_, rfl, ?_⟩; have _ := aM (Kd.R_below (rQ HO_5) hb); have _ := aM (Kd.S_lower (Kd.S_new' ho0 (Kd.R_lt (rQ HO_5))) (keep_size (w := w) (g := g) (row := none) kI)); have _ := bK BK342 hb; have _ := aM (IsS58.below iI hb); have _ := aM (KeepBut.trans (kI (w := w)) (KeepBut.of_below hb g none) (.inl rfl)); have _ := aM (below_step (bI (w0 := w0)) hb); clear HO_5 BK342 HI0 HK HB; rename_i HO_5 HO354 BK342 HI0 HK HB; (try clear hb); (try clear ho0)) | ((with_reducible refine gate_dst (N := 6) rfl ?_); refine bE 6 30 #[.slice none 0 0] ?_; intro gb355 hg w49 hbox hb; have _ := aM (Kd.R_below (rQ HO_5) hb); have _ := aM (Kd.S_below (sQ HO354) hb); have _ := bK BK342 hb; have _ := aM (IsS58.below iI hb); have _ := aM (KeepBut.trans (kI (w := w)) (KeepBut.of_below hb g none) (.inl rfl)); have _ := aM (below_step (bI (w0 := w0)) hb); have _ := aM (hbox); have _ := aM ((by rw [hg]; exact (keep_size (w := w) (g := g) (row := none) kI) : w.heap.size ≤ gb355)); have _ := aM ((Nat.le_trans HW0.out (by rw [hg]; exact (keep_size (w := w) (g := g) (row := none) kI) : w.heap.size ≤ gb355) : w0.heap.size ≤ gb355)); have _ := aM (nL hg BK342); have _ := aM (nG hg BK342); have _ := aM ((by rw [hg]; exact Nat.ne_of_lt (IsS58.lt (show IsS58 w0 _ g s0_0 t346 t347 from iI)) : g ≠ gb355)); have _ := aM ((by rw [hg]; exact Nat.ne_of_gt (IsS58.lt (show IsS58 w0 _ g s0_0 t346 t347 from iI)) : gb355 ≠ g)); clear HO_5 HO354 BK342 HI0 HK HB; rename_i HO_5 HO354 BK342 HI0 HK HB BK355 GW355 GE355 NB342_355 NB355_342 NB0_355 NB355_0; clear hb hbox hg; obtain ⟨Ao50, co50, eo50⟩ := Kd.S_slice HO354.out; subst eo50; have hnb51 := NB355_342.out; have hnc51 := NB342_355.out; have hnb52 := NB355_0.out; have hnc52 := NB0_355.out; have hcz53_0 := zc10 BK355; have hfz53_0 := blk_frozen BK355.out 0) | ((with_reducible refine gate_callee (f := 85) rfl ?_); refine gL (some 18) Tryz.func85 #[.pointer (some ⟨g, 0, none⟩), .int .i64 14] ?_; (with_reducible refine (Y10.calls g s0_0 t346 t347 14 t356 t357 t358 w0 _ ?side1 ?side2 A13.out).mono ?_); (case side1 => exact iI); (case side2 => exact bI); rintro e w54 ⟨rfl, hi, hb, hk⟩; refine ⟨_, rfl, ?_⟩; have _ := aM (Kd.R_mono (Kd.R_keep (IsS58.apart (show IsS58 w0 _ g s0_0 t346 t347 from iI) (by (with_reducible repeat first|apply rA|apply rN|apply rD); exact (Kd.R_mono (Kd.R_far (p := ⟨gb355, 0, none⟩) (Kd.R_types HO_5.out BK355.out (by decide)) (fun _ hk => hk.2) (.slice Ao50 t352.length co50)) (fun _ h_ => h_.1))) (by decide)) hk (fun _ h => h.2)) (fun _ h => h.1)); have _ := aM (KeepBut.blk hk (g' := gb342) (o := .cells #[.slice none 0 0] 30 (0, 0)) (by (with_reducible repeat first|apply qN|apply qD|apply qA); refine blk_far ?_ NB342_355.out _; (with_reducible repeat first|apply qN|apply qD|apply qA); exact BK342.out) NB342_0.out (by simp)); have _ := aM (Kd.S_mono (Kd.S_keep (IsS58.apartS (show IsS58 w0 _ g s0_0 t346 t347 from iI) (by (with_reducible repeat first|apply sA|apply sN|apply sD); exact (Kd.S_mono (Kd.S_far (p := ⟨gb355, 0, none⟩) (Kd.S_types HO354.out BK355.out (by decide)) (fun _ hk => hk.2) (.slice Ao50 t352.length co50)) (fun _ h_ => h_.1))) (by decide)) hk (fun _ h => h.2)) (fun _ h => h.1)); have _ := aM (KeepBut.blk hk (g' := gb355) (o := .cells #[.slice Ao50 t352.length co50] 30 (0, 0)) (by (with_reducible repeat first|apply qN|apply qD|apply qA); refine blk_put (cs := #[.slice none 0 0]) ?_ 0 _ rfl; (with_reducible repeat first|apply qN|apply qD|apply qA); exact BK355.out) NB355_0.out (by simp)); have _ := aM (KeepBut.trans (kI (w := w)) hk (.inl rfl)); have _ := aM (hb); have _ := aM (hi); clear HO_5 BK342 HO354 BK355 HK HB HI0; rename_i HO_5 BK342 HO354 BK355 HK HB HI0; (try clear hb); (try clear hk); (try clear hi); have hcz55_0 := zc10 BK355; have hfz55_0 := blk_frozen BK355.out 0; have hnb56 := NB342_0.out; have hnc56 := NB0_342.out; have hcz57_0 := zc10 BK342; have hfz57_0 := blk_frozen BK342.out 0))
     refine bodyPost_ret (results_cell_row rfl _ _ gb342 30 #[.slice Ao50 t352.length co50] (0, 0) _ rfl (by (with_reducible repeat first|apply qN|apply qD|apply qA); refine blk_put (cs := #[.slice none 0 0]) ?_ 0 _ rfl; (with_reducible repeat first|apply qN|apply qD|apply qA); exact BK342.out) Tryz.underlying30 rfl (by kernel_rfl)) rfl ?_
     exact ⟨_, eE, Kd.Q_of_R ((Kd.S_R (by (with_reducible repeat first|apply sA|apply sN|apply sD); exact Kd.S_mono (Kd.S_far (p := ⟨gb342, 0, none⟩) (Kd.S_types HO354.out BK342.out (by decide)) (fun _ hk => hk.2) (.slice Ao50 t352.length co50)) (fun _ hk => trivial)))), iI, bI, kI⟩
   ·rw [if_neg c14] at H
    have c14b0 : (t356 == 0) = false := beq_eq_false_iff_ne.mpr c14
    have c14b1 : (t356 != 0) = true := bne_iff_ne.mpr c14
    by_cases c58 : t356 = 1
    ·rw [if_pos c58] at H
     have c58b0 : (t356 == 1) = true := beq_iff_eq.mpr c58
     have c58b1 : (t356 != 1) = false := bne_eq_false_iff_eq.mpr c58
     clear c58
     obtain ⟨y375, hy375⟩ := nE ((([1] : List Int)) : List Int)
     try rw [← hy375] at H
     try with_reducible replace H := (Option.bind_some _ _).symm.trans H
     try dsimp only at H
     have Ny375 := aM hy375
     clear hy375
     replace H := iS H
     obtain ⟨c59, H⟩ := H
     have LMc59 := aM c59
     clear c59
     obtain ⟨y378, hy378⟩ := nE ((t352 ++ [y375]) : List (List Int))
     try rw [← hy378] at H
     try with_reducible replace H := (Option.bind_some _ _).symm.trans H
     try dsimp only at H
     have Ny378 := aM hy378
     clear hy378
     simp only [Option.some.injEq, Prod.mk.injEq] at H
     obtain ⟨rfl, rfl, rfl⟩ := H
     obtain ⟨Ao60, co60, eo60⟩ := Kd.R_slice HO_5.out
     subst eo60
     go_wp2_with (first | ((with_reducible refine gate_callee (f := 84) rfl ?_); refine gL (some 16) Tryz.func84 #[.slice Ao60 x5_4.length co60] ?_; (with_reducible refine (Y34.calls kj4 _ _ x5_4 t352 _ (cQ ((Kd.R_reads' HO_5.out).2.2)) ((Kd.R_reads' HO_5.out).2.1) A12.out).mono ?_); rintro e w61 ⟨v353, rfl, ho0, hb⟩; refine ⟨_, rfl, ?_⟩; have _ := aM (Kd.R_below (rQ HO_5) hb); have _ := aM (Kd.S_lower (Kd.S_new' ho0 (Kd.R_lt (rQ HO_5))) (keep_size (w := w) (g := g) (row := none) kI)); have _ := bK BK342 hb; have _ := aM (IsS58.below iI hb); have _ := aM (KeepBut.trans (kI (w := w)) (KeepBut.of_below hb g none) (.inl rfl)); have _ := aM (below_step (bI (w0 := w0)) hb); clear HO_5 BK342 HI0 HK HB; rename_i HO_5 HO354 BK342 HI0 HK HB; (try clear hb); (try clear ho0)) | ((with_reducible refine gate_dst (N := 6) rfl ?_); refine bE 6 30 #[.slice none 0 0] ?_; intro gb355 hg w62 hbox hb; have _ := aM (Kd.R_below (rQ HO_5) hb); have _ := aM (Kd.S_below (sQ HO354) hb); have _ := bK BK342 hb; have _ := aM (IsS58.below iI hb); have _ := aM (KeepBut.trans (kI (w := w)) (KeepBut.of_below hb g none) (.inl rfl)); have _ := aM (below_step (bI (w0 := w0)) hb); have _ := aM (hbox); have _ := aM ((by rw [hg]; exact (keep_size (w := w) (g := g) (row := none) kI) : w.heap.size ≤ gb355)); have _ := aM ((Nat.le_trans HW0.out (by rw [hg]; exact (keep_size (w := w) (g := g) (row := none) kI) : w.heap.size ≤ gb355) : w0.heap.size ≤ gb355)); have _ := aM (nL hg BK342); have _ := aM (nG hg BK342); have _ := aM ((by rw [hg]; exact Nat.ne_of_lt (IsS58.lt (show IsS58 w0 _ g s0_0 t346 t347 from iI)) : g ≠ gb355)); have _ := aM ((by rw [hg]; exact Nat.ne_of_gt (IsS58.lt (show IsS58 w0 _ g s0_0 t346 t347 from iI)) : gb355 ≠ g)); clear HO_5 HO354 BK342 HI0 HK HB; rename_i HO_5 HO354 BK342 HI0 HK HB BK355 GW355 GE355 NB342_355 NB355_342 NB0_355 NB355_0; clear hb hbox hg; obtain ⟨Ao63, co63, eo63⟩ := Kd.S_slice HO354.out; subst eo63; have hnb64 := NB355_342.out; have hnc64 := NB342_355.out; have hnb65 := NB355_0.out; have hnc65 := NB0_355.out; have hcz66_0 := zc10 BK355; have hfz66_0 := blk_frozen BK355.out 0) | ((with_reducible refine gate_callee (f := 85) rfl ?_); refine gL (some 18) Tryz.func85 #[.pointer (some ⟨g, 0, none⟩), .int .i64 14] ?_; (with_reducible refine (Y10.calls g s0_0 t346 t347 14 t356 t357 t358 w0 _ ?side1 ?side2 A13.out).mono ?_); (case side1 => exact iI); (case side2 => exact bI); rintro e w67 ⟨rfl, hi, hb, hk⟩; refine ⟨_, rfl, ?_⟩; have _ := aM (Kd.R_mono (Kd.R_keep (IsS58.apart (show IsS58 w0 _ g s0_0 t346 t347 from iI) (by (with_reducible repeat first|apply rA|apply rN|apply rD); exact (Kd.R_mono (Kd.R_far (p := ⟨gb355, 0, none⟩) (Kd.R_types HO_5.out BK355.out (by decide)) (fun _ hk => hk.2) (.slice Ao63 t352.length co63)) (fun _ h_ => h_.1))) (by decide)) hk (fun _ h => h.2)) (fun _ h => h.1)); have _ := aM (KeepBut.blk hk (g' := gb342) (o := .cells #[.slice none 0 0] 30 (0, 0)) (by (with_reducible repeat first|apply qN|apply qD|apply qA); refine blk_far ?_ NB342_355.out _; (with_reducible repeat first|apply qN|apply qD|apply qA); exact BK342.out) NB342_0.out (by simp)); have _ := aM (Kd.S_mono (Kd.S_keep (IsS58.apartS (show IsS58 w0 _ g s0_0 t346 t347 from iI) (by (with_reducible repeat first|apply sA|apply sN|apply sD); exact (Kd.S_mono (Kd.S_far (p := ⟨gb355, 0, none⟩) (Kd.S_types HO354.out BK355.out (by decide)) (fun _ hk => hk.2) (.slice Ao63 t352.length co63)) (fun _ h_ => h_.1))) (by decide)) hk (fun _ h => h.2)) (fun _ h => h.1)); have _ := aM (KeepBut.blk hk (g' := gb355) (o := .cells #[.slice Ao63 t352.length co63] 30 (0, 0)) (by (with_reducible repeat first|apply qN|apply qD|apply qA); refine blk_put (cs := #[.slice none 0 0]) ?_ 0 _ rfl; (with_reducible repeat first|apply qN|apply qD|apply qA); exact BK355.out) NB355_0.out (by simp)); have _ := aM (KeepBut.trans (kI (w := w)) hk (.inl rfl)); have _ := aM (hb); have _ := aM (hi); clear HO_5 BK342 HO354 BK355 HK HB HI0; rename_i HO_5 BK342 HO354 BK355 HK HB HI0; (try clear hb); (try clear hk); (try clear hi); have hcz68_0 := zc10 BK355; have hfz68_0 := blk_frozen BK355.out 0) | ((with_reducible refine gate_dst (N := 48) rfl ?_); refine Kd.R_lit (Kd.int .i64) _ 3 ?hg (N := 48) ?hd (xs := ([1] : List Int)) (inner := [.int .i64 1]) (ok := fun _ => True) (okp := fun _ => True) ?hr ?hp (fun _ hk => hk) trivial (Below.refl _ _) (Nat.le_refl _) (by simp) ?_; (case hd => rfl); (case hg => rfl); (case hr => first | (go_simp; done) | (go_simp; rfl)); (case hp => exact (Reps.one (show Kd.M (Kd.int .i64) _ _ _ 1 [.int .i64 1] from rfl) (Reps.none _ _))); intro v376 w69 ho70 hb hg_ hnew_; clear hg_ hnew_; (first | rw [← Ny375.out] at ho70 | (simp only [Int.reduceToNat] at ho70; rw [← Ny375.out] at ho70)); have _ := aM (Kd.R_elder' (rQ HO_5) (Kd.R_base ho70) hb); have _ := aM (Kd.S_elder' (sQ HO354) (Kd.R_base ho70) hb); have _ := aM (Kd.R_lower (Kd.R_new' ho70 (Kd.R_lt (rQ HO_5))) (keep_size (w := w) (g := g) (row := none) kI)); have _ := bK BK342 hb; have _ := aM (IsS58.below iI hb); have _ := bK BK355 hb; have _ := aM (KeepBut.trans (kI (w := w)) (KeepBut.of_below hb g none) (.inl rfl)); have _ := aM (below_step (bI (w0 := w0)) hb); clear HO_5 HO354 BK342 HI0 BK355 HK HB; rename_i HO_5 HO354 HO377 BK342 HI0 BK355 HK HB; clear hb ho70; obtain ⟨Ao72, co72, eo72⟩ := Kd.R_slice HO377.out; subst eo72) | ((with_reducible refine gate_builtin (b := .append) (xs := #[.tmp 47, .tmp 49]) rfl ?_); at_builtin; refine Kd.S_append (Kd.slice 3 (Kd.int .i64)) w.heap.size rfl (.tmp 47) (.tmp 49) 28 24 (.slice none 0 0) 24 rfl Tryz.underlying28 info24 rfl (by decide) (by omega) (.slice Ao63 t352.length co63) t352 y375 [.slice Ao72 y375.length co72] (fun k_ => some k_ ≠ (.slice Ao60 x5_4.length co60 : Value).ownBlock) (fun k_ => some k_ = (.slice Ao72 y375.length co72 : Value).ownBlock) rfl rfl ?aP (fun k_ hk_ => ((Kd.R_mono (ok' := fun k_ => ((fun k_ => some k_ ≠ (.slice Ao60 x5_4.length co60 : Value).ownBlock)) k_ ∧ some k_ ≠ (.slice Ao63 t352.length co63 : Value).ownBlock) (Kd.R_apart' (HO377.out) (Kd.S_typed HO354.out) (by decide)) (fun k_ hk => ⟨hk.1.2, hk.2⟩))).1 k_ hk_.symm) ?aF ?aO (Below.refl _ _) ?aS ?aL ?_; (case aP => exact Kd.M_row (Kd.R_mono (Kd.R_tight rfl (Kd.R_mono (ok' := fun k_ => ((fun k_ => some k_ ≠ (.slice Ao60 x5_4.length co60 : Value).ownBlock)) k_ ∧ some k_ ≠ (.slice Ao63 t352.length co63 : Value).ownBlock) (Kd.R_apart' (HO377.out) (Kd.S_typed HO354.out) (by decide)) (fun k_ hk => ⟨hk.1.2, hk.2⟩))) (fun _ h_ => h_))); (case aF => exact (fun k_ hk => Kd.fresh' (Kd.R_lt (rQ HO_5)) k_ hk)); (case aO => exact (by (with_reducible repeat first|apply sA|apply sN|apply sD); exact Kd.S_mono HO354.out (fun k_ hk => ⟨hk.1.2, fun e_ => hk.2 e_⟩))); (case aS => exact (keep_size (w := w) (g := g) (row := none) kI)); (case aL => have := LMc59.out; omega); intro v379 w71 ho hb hg hat; rw [← Ny378.out] at ho; have _ := aM (Kd.R_over' (rQ HO_5) (Kd.S_typed (sQ HO354)) (by decide) hg); have _ := aM (blk_grown (g := gb342) (o := .cells #[.slice none 0 0] 30 (0, 0)) (qQ BK342) hg (Kd.S_ne HO354.out BK342.out (by decide))); have _ := aM (IsS58.grown iI hg (IsS58.own_neS HI0.out HO354.out (by decide))); have _ := aM (blk_grown (g := gb355) (o := .cells #[.slice Ao63 t352.length co63] 30 (0, 0)) (qQ BK355) hg (Kd.S_ne HO354.out BK355.out (by decide))); have _ := aM (below_weaken bI HL.out hb); have _ := aM (KeepBut.trans (kI (w := w)) (KeepBut.of_grown hg g) (Kd.S_base2 HO354.out)); have _ := aM (ho); clear HO_5 BK342 HI0 BK355 HB HK HO354 HO377; rename_i HO_5 BK342 HI0 BK355 HB HK HO380; clear ho hb hg hat; obtain ⟨Ao73, co73, eo73⟩ := Kd.S_slice HO380.out; subst eo73; have hcz74_0 := zc10 BK355; have hfz74_0 := blk_frozen BK355.out 0; have hnb75 := NB342_0.out; have hnc75 := NB0_342.out; have hcz76_0 := zc10 BK342; have hfz76_0 := blk_frozen BK342.out 0))
     refine bodyPost_ret (results_cell_row rfl _ _ gb342 30 #[.slice Ao73 y378.length co73] (0, 0) _ rfl (by (with_reducible repeat first|apply qN|apply qD|apply qA); refine blk_put (cs := #[.slice none 0 0]) ?_ 0 _ rfl; (with_reducible repeat first|apply qN|apply qD|apply qA); refine blk_far ?_ NB342_355.out _; (with_reducible repeat first|apply qN|apply qD|apply qA); exact BK342.out) Tryz.underlying30 rfl (by kernel_rfl)) rfl ?_
     exact ⟨_, eE, Kd.Q_of_R ((Kd.S_R (by (with_reducible repeat first|apply sA|apply sN|apply sD); exact Kd.S_mono (Kd.S_far (p := ⟨gb342, 0, none⟩) (Kd.S_far (p := ⟨gb355, 0, none⟩) (Kd.S_types (Kd.S_types HO380.out BK355.out (by decide)) BK342.out (by decide)) (fun _ hk => hk.1.2) (.slice Ao73 y378.length co73)) (fun _ hk => hk.2) (.slice Ao73 y378.length co73)) (fun _ hk => trivial)))), iI, bI, kI⟩
    ·rw [if_neg c58] at H
     have c58b0 : (t356 == 1) = false := beq_eq_false_iff_ne.mpr c58
     have c58b1 : (t356 != 1) = true := bne_iff_ne.mpr c58
     by_cases c77 : t356 = 2
     ·rw [if_pos c77] at H
      have c77b0 : (t356 == 2) = true := beq_iff_eq.mpr c77
      have c77b1 : (t356 != 2) = false := bne_eq_false_iff_eq.mpr c77
      clear c77
      by_cases c78 : (t352.length : Int) > 1
      ·rw [if_pos c78] at H
       have c78b0 := decide_eq_true c78
       have c78b1 : decide (1 < t352.length) = true := decide_eq_true (by omega)
       clear c78
       replace H := iS H
       obtain ⟨c79, H⟩ := H
       have c79b0 := eq_true c79
       have c79b1 := decide_eq_true c79
       clear c79
       obtain ⟨y381, hy381⟩ := nE ((t352.drop (1 : Int).toNat) : List (List Int))
       try rw [← hy381] at H
       try with_reducible replace H := (Option.bind_some _ _).symm.trans H
       try dsimp only at H
       have Ny381 := aM hy381
       clear hy381
       simp only [Option.some.injEq, Prod.mk.injEq] at H
       obtain ⟨rfl, rfl, rfl⟩ := H
       obtain ⟨Ao80, co80, eo80⟩ := Kd.R_slice HO_5.out
       subst eo80
       go_wp2_with (first | ((with_reducible refine gate_callee (f := 84) rfl ?_); refine gL (some 16) Tryz.func84 #[.slice Ao80 x5_4.length co80] ?_; (with_reducible refine (Y34.calls kj4 _ _ x5_4 t352 _ (cQ ((Kd.R_reads' HO_5.out).2.2)) ((Kd.R_reads' HO_5.out).2.1) A12.out).mono ?_); rintro e w81 ⟨v353, rfl, ho0, hb⟩; refine ⟨_, rfl, ?_⟩; have _ := aM (Kd.R_below (rQ HO_5) hb); have _ := aM (Kd.S_lower (Kd.S_new' ho0 (Kd.R_lt (rQ HO_5))) (keep_size (w := w) (g := g) (row := none) kI)); have _ := bK BK342 hb; have _ := aM (IsS58.below iI hb); have _ := aM (KeepBut.trans (kI (w := w)) (KeepBut.of_below hb g none) (.inl rfl)); have _ := aM (below_step (bI (w0 := w0)) hb); clear HO_5 BK342 HI0 HK HB; rename_i HO_5 HO354 BK342 HI0 HK HB; (try clear hb); (try clear ho0)) | ((with_reducible refine gate_dst (N := 6) rfl ?_); refine bE 6 30 #[.slice none 0 0] ?_; intro gb355 hg w82 hbox hb; have _ := aM (Kd.R_below (rQ HO_5) hb); have _ := aM (Kd.S_below (sQ HO354) hb); have _ := bK BK342 hb; have _ := aM (IsS58.below iI hb); have _ := aM (KeepBut.trans (kI (w := w)) (KeepBut.of_below hb g none) (.inl rfl)); have _ := aM (below_step (bI (w0 := w0)) hb); have _ := aM (hbox); have _ := aM ((by rw [hg]; exact (keep_size (w := w) (g := g) (row := none) kI) : w.heap.size ≤ gb355)); have _ := aM ((Nat.le_trans HW0.out (by rw [hg]; exact (keep_size (w := w) (g := g) (row := none) kI) : w.heap.size ≤ gb355) : w0.heap.size ≤ gb355)); have _ := aM (nL hg BK342); have _ := aM (nG hg BK342); have _ := aM ((by rw [hg]; exact Nat.ne_of_lt (IsS58.lt (show IsS58 w0 _ g s0_0 t346 t347 from iI)) : g ≠ gb355)); have _ := aM ((by rw [hg]; exact Nat.ne_of_gt (IsS58.lt (show IsS58 w0 _ g s0_0 t346 t347 from iI)) : gb355 ≠ g)); clear HO_5 HO354 BK342 HI0 HK HB; rename_i HO_5 HO354 BK342 HI0 HK HB BK355 GW355 GE355 NB342_355 NB355_342 NB0_355 NB355_0; clear hb hbox hg; obtain ⟨Ao83, co83, eo83⟩ := Kd.S_slice HO354.out; subst eo83; have hnb84 := NB355_342.out; have hnc84 := NB342_355.out; have hnb85 := NB355_0.out; have hnc85 := NB0_355.out; have hcz86_0 := zc10 BK355; have hfz86_0 := blk_frozen BK355.out 0) | ((with_reducible refine gate_callee (f := 85) rfl ?_); refine gL (some 18) Tryz.func85 #[.pointer (some ⟨g, 0, none⟩), .int .i64 14] ?_; (with_reducible refine (Y10.calls g s0_0 t346 t347 14 t356 t357 t358 w0 _ ?side1 ?side2 A13.out).mono ?_); (case side1 => exact iI); (case side2 => exact bI); rintro e w87 ⟨rfl, hi, hb, hk⟩; refine ⟨_, rfl, ?_⟩; have _ := aM (Kd.R_mono (Kd.R_keep (IsS58.apart (show IsS58 w0 _ g s0_0 t346 t347 from iI) (by (with_reducible repeat first|apply rA|apply rN|apply rD); exact (Kd.R_mono (Kd.R_far (p := ⟨gb355, 0, none⟩) (Kd.R_types HO_5.out BK355.out (by decide)) (fun _ hk => hk.2) (.slice Ao83 t352.length co83)) (fun _ h_ => h_.1))) (by decide)) hk (fun _ h => h.2)) (fun _ h => h.1)); have _ := aM (KeepBut.blk hk (g' := gb342) (o := .cells #[.slice none 0 0] 30 (0, 0)) (by (with_reducible repeat first|apply qN|apply qD|apply qA); refine blk_far ?_ NB342_355.out _; (with_reducible repeat first|apply qN|apply qD|apply qA); exact BK342.out) NB342_0.out (by simp)); have _ := aM (Kd.S_mono (Kd.S_keep (IsS58.apartS (show IsS58 w0 _ g s0_0 t346 t347 from iI) (by (with_reducible repeat first|apply sA|apply sN|apply sD); exact (Kd.S_mono (Kd.S_far (p := ⟨gb355, 0, none⟩) (Kd.S_types HO354.out BK355.out (by decide)) (fun _ hk => hk.2) (.slice Ao83 t352.length co83)) (fun _ h_ => h_.1))) (by decide)) hk (fun _ h => h.2)) (fun _ h => h.1)); have _ := aM (KeepBut.blk hk (g' := gb355) (o := .cells #[.slice Ao83 t352.length co83] 30 (0, 0)) (by (with_reducible repeat first|apply qN|apply qD|apply qA); refine blk_put (cs := #[.slice none 0 0]) ?_ 0 _ rfl; (with_reducible repeat first|apply qN|apply qD|apply qA); exact BK355.out) NB355_0.out (by simp)); have _ := aM (KeepBut.trans (kI (w := w)) hk (.inl rfl)); have _ := aM (hb); have _ := aM (hi); clear HO_5 BK342 HO354 BK355 HK HB HI0; rename_i HO_5 BK342 HO354 BK355 HK HB HI0; (try clear hb); (try clear hk); (try clear hi); have hcz88_0 := zc10 BK355; have hfz88_0 := blk_frozen BK355.out 0; have n_ := aM (Kd.S_mono (ok' := (fun k_ => some k_ ≠ (.slice Ao80 x5_4.length co80 : Value).ownBlock)) HO354.out (fun k_ hk => hk.2)); clear HO354; have HO354 := n_; clear n_; have q89 : (1 : Int) ≤ ((t352.length : Int) : Int) := odt; obtain ⟨i089, hi089, _, hsz89, _⟩ := info_parts info24; have hcut89 := cut_from (P := Tryz.prog) 28 24 .i64 Tryz.underlying28 hi089 1 hsz89 Ao83 t352.length co83 1 (by omega) q89; have hr89 := Kd.Q_drop (k := (1 : Int).toNat) (Kd.Q_of_R (Kd.S_R HO354.out)) (by omega); obtain ⟨A89, hA89⟩ : ∃ A1, A1 = (if co83 = (1 : Int).toNat then Ao83 else (Ao83 : Option Addr).map (·.add ((1 : Int).toNat * 1))) := ⟨_, rfl⟩; obtain ⟨c89, hc89⟩ : ∃ c1, c1 = co83 - (1 : Int).toNat := ⟨_, rfl⟩; have hy89 : y381.length = t352.length - (1 : Int).toNat := (by rw [Ny381.out, List.length_drop]); rw [← Ny381.out] at hr89; rw [← hy89, ← hA89, ← hc89] at hcut89; replace hr89 : Kd.Q (Kd.slice 3 (Kd.int .i64)) 24 w87 w.heap.size (fun k_ => some k_ ≠ (.slice Ao80 x5_4.length co80 : Value).ownBlock) (.slice A89 y381.length c89) y381 := (by rw [hA89, hc89, hy89]; exact hr89); have HE89 : Aside0 ((Value.slice A89 y381.length c89).ownBlock = (.slice Ao83 t352.length co83 : Value).ownBlock) := ⟨by rw [hA89]; split <;> (cases (Ao83 : Option Addr) <;> rfl)⟩; clear hy89 hi089 hsz89 HO354 hA89 hc89; have HO383 := aM hr89; clear hr89; replace q89 := eq_true q89; have hnb90 := NB342_0.out; have hnc90 := NB0_342.out; have hcz91_0 := zc10 BK342; have hfz91_0 := blk_frozen BK342.out 0))
       refine bodyPost_ret (results_cell_row rfl _ _ gb342 30 #[.slice A89 y381.length c89] (0, 0) _ rfl (by (with_reducible repeat first|apply qN|apply qD|apply qA); refine blk_put (cs := #[.slice none 0 0]) ?_ 0 _ rfl; (with_reducible repeat first|apply qN|apply qD|apply qA); refine blk_far ?_ NB342_355.out _; (with_reducible repeat first|apply qN|apply qD|apply qA); exact BK342.out) Tryz.underlying30 rfl (by kernel_rfl)) rfl ?_
       exact ⟨_, eE, by (with_reducible repeat first|apply kA|apply kN|apply kD); exact Kd.Q_mono (Kd.Q_far (p := ⟨gb342, 0, none⟩) (Kd.Q_far (p := ⟨gb355, 0, none⟩) (Kd.Q_types (Kd.Q_types HO383.out BK355.out (by decide)) BK342.out (by decide)) (fun _ hk => hk.1.2) (.slice A89 y381.length c89)) (fun _ hk => hk.2) (.slice A89 y381.length c89)) (fun _ hk => trivial), iI, bI, kI⟩
      ·rw [if_neg c78] at H
       have c78b0 := decide_eq_false c78
       have c78b1 : decide (1 < t352.length) = false := decide_eq_false (by omega)
       clear c78
       simp only [Option.some.injEq, Prod.mk.injEq] at H
       obtain ⟨rfl, rfl, rfl⟩ := H
       obtain ⟨Ao92, co92, eo92⟩ := Kd.R_slice HO_5.out
       subst eo92
       go_wp2_with (first | ((with_reducible refine gate_callee (f := 84) rfl ?_); refine gL (some 16) Tryz.func84 #[.slice Ao92 x5_4.length co92] ?_; (with_reducible refine (Y34.calls kj4 _ _ x5_4 t352 _ (cQ ((Kd.R_reads' HO_5.out).2.2)) ((Kd.R_reads' HO_5.out).2.1) A12.out).mono ?_); rintro e w93 ⟨v353, rfl, ho0, hb⟩; refine ⟨_, rfl, ?_⟩; have _ := aM (Kd.R_below (rQ HO_5) hb); have _ := aM (Kd.S_lower (Kd.S_new' ho0 (Kd.R_lt (rQ HO_5))) (keep_size (w := w) (g := g) (row := none) kI)); have _ := bK BK342 hb; have _ := aM (IsS58.below iI hb); have _ := aM (KeepBut.trans (kI (w := w)) (KeepBut.of_below hb g none) (.inl rfl)); have _ := aM (below_step (bI (w0 := w0)) hb); clear HO_5 BK342 HI0 HK HB; rename_i HO_5 HO354 BK342 HI0 HK HB; (try clear hb); (try clear ho0)) | ((with_reducible refine gate_dst (N := 6) rfl ?_); refine bE 6 30 #[.slice none 0 0] ?_; intro gb355 hg w94 hbox hb; have _ := aM (Kd.R_below (rQ HO_5) hb); have _ := aM (Kd.S_below (sQ HO354) hb); have _ := bK BK342 hb; have _ := aM (IsS58.below iI hb); have _ := aM (KeepBut.trans (kI (w := w)) (KeepBut.of_below hb g none) (.inl rfl)); have _ := aM (below_step (bI (w0 := w0)) hb); have _ := aM (hbox); have _ := aM ((by rw [hg]; exact (keep_size (w := w) (g := g) (row := none) kI) : w.heap.size ≤ gb355)); have _ := aM ((Nat.le_trans HW0.out (by rw [hg]; exact (keep_size (w := w) (g := g) (row := none) kI) : w.heap.size ≤ gb355) : w0.heap.size ≤ gb355)); have _ := aM (nL hg BK342); have _ := aM (nG hg BK342); have _ := aM ((by rw [hg]; exact Nat.ne_of_lt (IsS58.lt (show IsS58 w0 _ g s0_0 t346 t347 from iI)) : g ≠ gb355)); have _ := aM ((by rw [hg]; exact Nat.ne_of_gt (IsS58.lt (show IsS58 w0 _ g s0_0 t346 t347 from iI)) : gb355 ≠ g)); clear HO_5 HO354 BK342 HI0 HK HB; rename_i HO_5 HO354 BK342 HI0 HK HB BK355 GW355 GE355 NB342_355 NB355_342 NB0_355 NB355_0; clear hb hbox hg; obtain ⟨Ao95, co95, eo95⟩ := Kd.S_slice HO354.out; subst eo95; have hnb96 := NB355_342.out; have hnc96 := NB342_355.out; have hnb97 := NB355_0.out; have hnc97 := NB0_355.out; have hcz98_0 := zc10 BK355; have hfz98_0 := blk_frozen BK355.out 0) | ((with_reducible refine gate_callee (f := 85) rfl ?_); refine gL (some 18) Tryz.func85 #[.pointer (some ⟨g, 0, none⟩), .int .i64 14] ?_; (with_reducible refine (Y10.calls g s0_0 t346 t347 14 t356 t357 t358 w0 _ ?side1 ?side2 A13.out).mono ?_); (case side1 => exact iI); (case side2 => exact bI); rintro e w99 ⟨rfl, hi, hb, hk⟩; refine ⟨_, rfl, ?_⟩; have _ := aM (Kd.R_mono (Kd.R_keep (IsS58.apart (show IsS58 w0 _ g s0_0 t346 t347 from iI) (by (with_reducible repeat first|apply rA|apply rN|apply rD); exact (Kd.R_mono (Kd.R_far (p := ⟨gb355, 0, none⟩) (Kd.R_types HO_5.out BK355.out (by decide)) (fun _ hk => hk.2) (.slice Ao95 t352.length co95)) (fun _ h_ => h_.1))) (by decide)) hk (fun _ h => h.2)) (fun _ h => h.1)); have _ := aM (KeepBut.blk hk (g' := gb342) (o := .cells #[.slice none 0 0] 30 (0, 0)) (by (with_reducible repeat first|apply qN|apply qD|apply qA); refine blk_far ?_ NB342_355.out _; (with_reducible repeat first|apply qN|apply qD|apply qA); exact BK342.out) NB342_0.out (by simp)); have _ := aM (Kd.S_mono (Kd.S_keep (IsS58.apartS (show IsS58 w0 _ g s0_0 t346 t347 from iI) (by (with_reducible repeat first|apply sA|apply sN|apply sD); exact (Kd.S_mono (Kd.S_far (p := ⟨gb355, 0, none⟩) (Kd.S_types HO354.out BK355.out (by decide)) (fun _ hk => hk.2) (.slice Ao95 t352.length co95)) (fun _ h_ => h_.1))) (by decide)) hk (fun _ h => h.2)) (fun _ h => h.1)); have _ := aM (KeepBut.blk hk (g' := gb355) (o := .cells #[.slice Ao95 t352.length co95] 30 (0, 0)) (by (with_reducible repeat first|apply qN|apply qD|apply qA); refine blk_put (cs := #[.slice none 0 0]) ?_ 0 _ rfl; (with_reducible repeat first|apply qN|apply qD|apply qA); exact BK355.out) NB355_0.out (by simp)); have _ := aM (KeepBut.trans (kI (w := w)) hk (.inl rfl)); have _ := aM (hb); have _ := aM (hi); clear HO_5 BK342 HO354 BK355 HK HB HI0; rename_i HO_5 BK342 HO354 BK355 HK HB HI0; (try clear hb); (try clear hk); (try clear hi); have hcz100_0 := zc10 BK355; have hfz100_0 := blk_frozen BK355.out 0; have hnb101 := NB342_0.out; have hnc101 := NB0_342.out; have hcz102_0 := zc10 BK342; have hfz102_0 := blk_frozen BK342.out 0))
       refine bodyPost_ret (results_cell_row rfl _ _ gb342 30 #[.slice Ao95 t352.length co95] (0, 0) _ rfl (by (with_reducible repeat first|apply qN|apply qD|apply qA); refine blk_put (cs := #[.slice none 0 0]) ?_ 0 _ rfl; (with_reducible repeat first|apply qN|apply qD|apply qA); exact BK342.out) Tryz.underlying30 rfl (by kernel_rfl)) rfl ?_
       exact ⟨_, eE, Kd.Q_of_R ((Kd.S_R (by (with_reducible repeat first|apply sA|apply sN|apply sD); exact Kd.S_mono (Kd.S_far (p := ⟨gb342, 0, none⟩) (Kd.S_types HO354.out BK342.out (by decide)) (fun _ hk => hk.2) (.slice Ao95 t352.length co95)) (fun _ hk => trivial)))), iI, bI, kI⟩
     ·rw [if_neg c77] at H
      have c77b0 : (t356 == 2) = false := beq_eq_false_iff_ne.mpr c77
      have c77b1 : (t356 != 2) = true := bne_iff_ne.mpr c77
      simp only [Option.some.injEq, Prod.mk.injEq] at H
      obtain ⟨rfl, rfl, rfl⟩ := H
      obtain ⟨Ao103, co103, eo103⟩ := Kd.R_slice HO_5.out
      subst eo103
      go_wp2_with (first | ((with_reducible refine gate_callee (f := 84) rfl ?_); refine gL (some 16) Tryz.func84 #[.slice Ao103 x5_4.length co103] ?_; (with_reducible refine (Y34.calls kj4 _ _ x5_4 t352 _ (cQ ((Kd.R_reads' HO_5.out).2.2)) ((Kd.R_reads' HO_5.out).2.1) A12.out).mono ?_); rintro e w104 ⟨v353, rfl, ho0, hb⟩; refine ⟨_, rfl, ?_⟩; have _ := aM (Kd.R_below (rQ HO_5) hb); have _ := aM (Kd.S_lower (Kd.S_new' ho0 (Kd.R_lt (rQ HO_5))) (keep_size (w := w) (g := g) (row := none) kI)); have _ := bK BK342 hb; have _ := aM (IsS58.below iI hb); have _ := aM (KeepBut.trans (kI (w := w)) (KeepBut.of_below hb g none) (.inl rfl)); have _ := aM (below_step (bI (w0 := w0)) hb); clear HO_5 BK342 HI0 HK HB; rename_i HO_5 HO354 BK342 HI0 HK HB; (try clear hb); (try clear ho0)) | ((with_reducible refine gate_dst (N := 6) rfl ?_); refine bE 6 30 #[.slice none 0 0] ?_; intro gb355 hg w105 hbox hb; have _ := aM (Kd.R_below (rQ HO_5) hb); have _ := aM (Kd.S_below (sQ HO354) hb); have _ := bK BK342 hb; have _ := aM (IsS58.below iI hb); have _ := aM (KeepBut.trans (kI (w := w)) (KeepBut.of_below hb g none) (.inl rfl)); have _ := aM (below_step (bI (w0 := w0)) hb); have _ := aM (hbox); have _ := aM ((by rw [hg]; exact (keep_size (w := w) (g := g) (row := none) kI) : w.heap.size ≤ gb355)); have _ := aM ((Nat.le_trans HW0.out (by rw [hg]; exact (keep_size (w := w) (g := g) (row := none) kI) : w.heap.size ≤ gb355) : w0.heap.size ≤ gb355)); have _ := aM (nL hg BK342); have _ := aM (nG hg BK342); have _ := aM ((by rw [hg]; exact Nat.ne_of_lt (IsS58.lt (show IsS58 w0 _ g s0_0 t346 t347 from iI)) : g ≠ gb355)); have _ := aM ((by rw [hg]; exact Nat.ne_of_gt (IsS58.lt (show IsS58 w0 _ g s0_0 t346 t347 from iI)) : gb355 ≠ g)); clear HO_5 HO354 BK342 HI0 HK HB; rename_i HO_5 HO354 BK342 HI0 HK HB BK355 GW355 GE355 NB342_355 NB355_342 NB0_355 NB355_0; clear hb hbox hg; obtain ⟨Ao106, co106, eo106⟩ := Kd.S_slice HO354.out; subst eo106; have hnb107 := NB355_342.out; have hnc107 := NB342_355.out; have hnb108 := NB355_0.out; have hnc108 := NB0_355.out; have hcz109_0 := zc10 BK355; have hfz109_0 := blk_frozen BK355.out 0) | ((with_reducible refine gate_callee (f := 85) rfl ?_); refine gL (some 18) Tryz.func85 #[.pointer (some ⟨g, 0, none⟩), .int .i64 14] ?_; (with_reducible refine (Y10.calls g s0_0 t346 t347 14 t356 t357 t358 w0 _ ?side1 ?side2 A13.out).mono ?_); (case side1 => exact iI); (case side2 => exact bI); rintro e w110 ⟨rfl, hi, hb, hk⟩; refine ⟨_, rfl, ?_⟩; have _ := aM (Kd.R_mono (Kd.R_keep (IsS58.apart (show IsS58 w0 _ g s0_0 t346 t347 from iI) (by (with_reducible repeat first|apply rA|apply rN|apply rD); exact (Kd.R_mono (Kd.R_far (p := ⟨gb355, 0, none⟩) (Kd.R_types HO_5.out BK355.out (by decide)) (fun _ hk => hk.2) (.slice Ao106 t352.length co106)) (fun _ h_ => h_.1))) (by decide)) hk (fun _ h => h.2)) (fun _ h => h.1)); have _ := aM (KeepBut.blk hk (g' := gb342) (o := .cells #[.slice none 0 0] 30 (0, 0)) (by (with_reducible repeat first|apply qN|apply qD|apply qA); refine blk_far ?_ NB342_355.out _; (with_reducible repeat first|apply qN|apply qD|apply qA); exact BK342.out) NB342_0.out (by simp)); have _ := aM (Kd.S_mono (Kd.S_keep (IsS58.apartS (show IsS58 w0 _ g s0_0 t346 t347 from iI) (by (with_reducible repeat first|apply sA|apply sN|apply sD); exact (Kd.S_mono (Kd.S_far (p := ⟨gb355, 0, none⟩) (Kd.S_types HO354.out BK355.out (by decide)) (fun _ hk => hk.2) (.slice Ao106 t352.length co106)) (fun _ h_ => h_.1))) (by decide)) hk (fun _ h => h.2)) (fun _ h => h.1)); have _ := aM (KeepBut.blk hk (g' := gb355) (o := .cells #[.slice Ao106 t352.length co106] 30 (0, 0)) (by (with_reducible repeat first|apply qN|apply qD|apply qA); refine blk_put (cs := #[.slice none 0 0]) ?_ 0 _ rfl; (with_reducible repeat first|apply qN|apply qD|apply qA); exact BK355.out) NB355_0.out (by simp)); have _ := aM (KeepBut.trans (kI (w := w)) hk (.inl rfl)); have _ := aM (hb); have _ := aM (hi); clear HO_5 BK342 HO354 BK355 HK HB HI0; rename_i HO_5 BK342 HO354 BK355 HK HB HI0; (try clear hb); (try clear hk); (try clear hi); have hcz111_0 := zc10 BK355; have hfz111_0 := blk_frozen BK355.out 0; have hnb112 := NB342_0.out; have hnc112 := NB0_342.out; have hcz113_0 := zc10 BK342; have hfz113_0 := blk_frozen BK342.out 0))
      refine bodyPost_ret (results_cell_row rfl _ _ gb342 30 #[.slice Ao106 t352.length co106] (0, 0) _ rfl (by (with_reducible repeat first|apply qN|apply qD|apply qA); refine blk_put (cs := #[.slice none 0 0]) ?_ 0 _ rfl; (with_reducible repeat first|apply qN|apply qD|apply qA); exact BK342.out) Tryz.underlying30 rfl (by kernel_rfl)) rfl ?_
      exact ⟨_, eE, Kd.Q_of_R ((Kd.S_R (by (with_reducible repeat first|apply sA|apply sN|apply sD); exact Kd.S_mono (Kd.S_far (p := ⟨gb342, 0, none⟩) (Kd.S_types HO354.out BK342.out (by decide)) (fun _ hk => hk.2) (.slice Ao106 t352.length co106)) (fun _ hk => trivial)))), iI, bI, kI⟩
end Go.Proofs.YtcodionjhcmfhaaGreatDoor.Oa
