-- Written by hook.py, a program of this session (wip/), which runs the kit's print.py with its own parts; Lean checks it.
import Derived.Test.YtcodionjhcmfhaaGreatDoorAx0
import Derived.Test.YtcodionjhcmfhaaGreatDoorAx8
import Derived.Test.YtcodionjhcmfhaaGreatDoorAx9
import Derived.Test.YtcodionjhcmfhaaGreatDoorAx10
import Derived.Test.YtcodionjhcmfhaaGreatDoorAx14
import Derived.Test.YtcodionjhcmfhaaGreatDoorAxXSq
namespace Go.Proofs.YtcodionjhcmfhaaGreatDoor.Ax
open Go.RowKit Go.Proofs.YtcodionjhcmfhaaGreatDoorW.PrintWords Go.Proofs.YtcodionjhcmfhaaGreatDoorW.PrintLast Go.Proofs.YtcodionjhcmfhaaGreatDoorW.PrintMore Go.Proofs.YtcodionjhcmfhaaGreatDoor.Sq
attribute [local go_sem] max2_int min2_int max_two min_two max_three min_three max_four min_four   -- for this text's walks alone
set_option linter.unusedVariables false
set_option linter.unusedSimpArgs false

def spec_l1Cur_matrix.j0 : Nat → List Int → List Int → Int → Int → Option ((List (List Int)) × Int × Int)
 | 0, _, _, _, _ => none
 | k + 1, x5, x1000, x1001, x1002 => (spec_maOf.f k x5).bind fun t340 => ((spec_l1Cur_pick.f x1000 x1001 x1002 14).bind fun bt344 => (if bt344.1 = 0 then (if (t340.length : Int) > 0 then ((spec_l1Cur_pick.f x1000 bt344.2.1 bt344.2.2 (t340.length : Int)).bind fun bt347 => (if 0 ≤ bt347.1 then (if bt347.1 < (t340.length : Int) then ((spec_l1Cur_pick.f x1000 bt347.2.1 bt347.2.2 (t340.length : Int)).bind fun bt351 => ((spec_l1Cur_among.f x1000 bt351.2.1 bt351.2.2 (([(-1), 0, 1, 12, 13] : List Int))).bind fun bt357 => (if 0 ≤ bt351.1 then (if bt351.1 < ((rd_L2 t340 bt347.1).length : Int) then (some ((t340.set (bt347.1 : Int).toNat ((rd_L2 t340 bt347.1).set (bt351.1 : Int).toNat bt357.1)), bt357.2.1, bt357.2.2)) else (none)) else (none)))) else (none)) else (none))) else (some (t340, bt344.2.1, bt344.2.2))) else (if bt344.1 = 1 then (if t340.length < 5864062014805 then (some ((t340 ++ [(([1] : List Int))]), bt344.2.1, bt344.2.2)) else (none)) else (if bt344.1 = 2 then (if (t340.length : Int) > 1 then (if 1 ≤ (t340.length : Int) then (some ((t340.drop (1 : Int).toNat), bt344.2.1, bt344.2.2)) else (none)) else (some (t340, bt344.2.1, bt344.2.2))) else (some (t340, bt344.2.1, bt344.2.2))))))
def spec_l1Cur_matrix.f (k : Nat) (s0_0 : List Int) (s0_1 : Int) (s0_2 : Int) (a1 : Int) : Option ((List (List Int)) × Int × Int) := (spec_l1Cur_ascent.f k s0_0 s0_1 s0_2 a1).bind fun bt331 => ((spec_asGood.f k bt331.1).bind fun t336 => (if t336 = true then (spec_l1Cur_matrix.j0 k bt331.1 s0_0 bt331.2.1 bt331.2.2) else ((spec_orUpTo.f k 3).bind fun t337 => (spec_l1Cur_matrix.j0 k t337 s0_0 bt331.2.1 bt331.2.2))))
def spec_l1Cur_matrix.T9 : Bool × List (List Nat × List Nat) := (true, [([], []), ([0], [0]), ([], []), ([1, 2], [1, 2]), ([3], [3]), ([], []), ([], []), ([6], [6]), ([7], [7]), ([5, 8], [5, 8]), ([], []), ([], []), ([10, 11, 9], [10, 11]), ([4, 9, 0, 1, 2, 3, 4, 5, 6, 7, 8, 9, 10, 11, 12], [4, 9]), ([13, 12, 12, 0, 1, 2, 3, 4, 5, 6, 7, 8, 9, 10, 11, 12], [12, 13])])
def spec_l1Cur_matrix.B9 : List Nat := [0, 1, 0, 7, 15, 0, 0, 64, 192, 480, 0, 0, 4064, 8191, 16383]
theorem spec_l1Cur_matrix.tab9 : rtab .any (opsOf Tryz.f43 9) = spec_l1Cur_matrix.T9 := by kernel_rfl
theorem spec_l1Cur_matrix.bits9 : waitsOk spec_l1Cur_matrix.T9.2 spec_l1Cur_matrix.B9 = true := by kernel_rfl
set_option maxHeartbeats 8000000 in
set_option maxRecDepth 100000 in
theorem spec_l1Cur_matrix.calls (k : Nat) (g : Nat) (s0_0 : List Int) (s0_1 : Int) (s0_2 : Int) (a1 : Int) (r1 : List (List Int)) (r2 : Int) (r3 : Int) (w0 w : World) (hI : IsS58 w0 w g s0_0 s0_1 s0_2) (hB : Below w0.heap.size w0 w) (h : spec_l1Cur_matrix.f k s0_0 s0_1 s0_2 a1 = some (r1, r2, r3)) :
  Calls Tryz.prog 43 #[.pointer (some ⟨g, 0, none⟩), .int .i64 a1] w fun e w' => ∃ v0_ : Value, e = .returned (.agg #[v0_]) ∧ Kd.Q (Kd.slice 3 (Kd.int .i64)) 24 w' w.heap.size (fun _ => True) v0_ r1 ∧ IsS58 w0 w' g s0_0 r2 r3 ∧ Below w0.heap.size w0 w' ∧ KeepBut w w' g none := by
 have hu30 := Tryz.underlying30
 have HI0 := aM hI
 have HK := aM (KeepBut.refl w g none)
 have HL := aM hB.size
 clear hI
 have HW0 := aM hB.size
 have HB := aM hB
 clear hB
 have H : ((spec_l1Cur_ascent.f k s0_0 s0_1 s0_2 a1).bind fun bt331 => ((spec_asGood.f k bt331.1).bind fun t336 => (if t336 = true then (spec_l1Cur_matrix.j0 k bt331.1 s0_0 bt331.2.1 bt331.2.2) else ((spec_orUpTo.f k 3).bind fun t337 => (spec_l1Cur_matrix.j0 k t337 s0_0 bt331.2.1 bt331.2.2))))) = some (r1, r2, r3) := h
 clear h
 replace H := bS H
 obtain ⟨⟨t331, t334, t335⟩, A3, H⟩ := H
 try dsimp only at H
 replace H := bS H
 obtain ⟨t336, A4, H⟩ := H
 try dsimp only at H
 have HC5 := aM H
 clear H
 go_enter Tryz.func43, Tryz.ntmps43
 go_upto_if 13 with (first | ((with_reducible refine gate_dst (N := 4) rfl ?_); refine bE 4 30 #[.slice none 0 0] ?_; intro gb330 hg w6 hbox hb; have _ := aM (IsS58.below (by repeat (first | (with_reducible first | exact HI0.out | apply IsS58.alloc | apply IsS58.drewN | apply IsS58.drew | apply IsS58.set_1 | apply IsS58.set_2) | exact HI0.out)) hb); have _ := aM (KeepBut.trans (by repeat (first | (with_reducible first | exact HK.out | apply KeepBut.set_ | apply keep_drewN | apply keep_drew | apply keep_alloc) | exact HK.out)) (KeepBut.of_below hb g none) (.inl rfl)); have _ := aM (below_step (by repeat (first | (with_reducible first | exact HB.out | apply bA | apply bN | apply bD | refine below_set ?_ (IsS58.ge HI0.out)) | exact HB.out)) hb); have _ := aM (hbox); have _ := aM ((by rw [hg]; exact (keep_size (w := w) (g := g) (row := none) (by repeat (first | (with_reducible first | exact HK.out | apply KeepBut.set_ | apply keep_drewN | apply keep_drew | apply keep_alloc) | exact HK.out))) : w.heap.size ≤ gb330)); have _ := aM ((Nat.le_trans HW0.out (by rw [hg]; exact (keep_size (w := w) (g := g) (row := none) (by repeat (first | (with_reducible first | exact HK.out | apply KeepBut.set_ | apply keep_drewN | apply keep_drew | apply keep_alloc) | exact HK.out))) : w.heap.size ≤ gb330) : w0.heap.size ≤ gb330)); have _ := aM ((by rw [hg]; exact Nat.ne_of_lt (IsS58.lt (show IsS58 w0 _ g s0_0 s0_1 s0_2 from by repeat (first | (with_reducible first | exact HI0.out | apply IsS58.alloc | apply IsS58.drewN | apply IsS58.drew | apply IsS58.set_1 | apply IsS58.set_2) | exact HI0.out))) : g ≠ gb330)); have _ := aM ((by rw [hg]; exact Nat.ne_of_gt (IsS58.lt (show IsS58 w0 _ g s0_0 s0_1 s0_2 from by repeat (first | (with_reducible first | exact HI0.out | apply IsS58.alloc | apply IsS58.drewN | apply IsS58.drew | apply IsS58.set_1 | apply IsS58.set_2) | exact HI0.out))) : gb330 ≠ g)); clear HI0 HK HB; rename_i HI0 HK HB BK330 GW330 GE330 NB0_330 NB330_0; clear hb hbox hg) | ((with_reducible refine gate_callee (f := 81) rfl ?_); refine gL (some 10) Tryz.func81 #[.pointer (some ⟨g, 0, none⟩), .int .i64 a1] ?_; (with_reducible refine (spec_l1Cur_ascent.calls k g s0_0 s0_1 s0_2 a1 t331 t334 t335 w0 _ ?side1 ?side2 A3.out).mono ?_); (case side1 => repeat (first | (with_reducible first | exact HI0.out | apply IsS58.alloc | apply IsS58.drewN | apply IsS58.drew | apply IsS58.set_1 | apply IsS58.set_2 | refine IsS58.far ?_ NB0_330.out _) | exact HI0.out)); (case side2 => repeat (first | (with_reducible first | exact HB.out | apply bA | apply bN | apply bD | refine below_set ?_ (IsS58.ge HI0.out) | refine below_set ?_ GE330.out) | exact HB.out)); rintro e w7 ⟨v332, rfl, ho0, hi, hb, hk⟩; refine ⟨_, rfl, ?_⟩; have _ := aM (KeepBut.blk hk (g' := gb330) (o := .cells #[.slice none 0 0] 30 (0, 0)) (qQ BK330) NB330_0.out (by simp)); have _ := aM (Kd.R_lower ho0 (keep_size (w := w) (g := g) (row := none) (by repeat (first | (with_reducible first | exact HK.out | apply KeepBut.set_ | apply keep_drewN | apply keep_drew | apply keep_alloc | refine keep_far ?_ GW330.out _) | exact HK.out)))); have _ := aM (KeepBut.trans (by repeat (first | (with_reducible first | exact HK.out | apply KeepBut.set_ | apply keep_drewN | apply keep_drew | apply keep_alloc | refine keep_far ?_ GW330.out _) | exact HK.out)) hk (.inl rfl)); have _ := aM (hb); have _ := aM (hi); clear BK330 HK HB HI0; rename_i BK330 HO333 HK HB HI0; (try clear hb); (try clear hb2); (try clear hk); (try clear hi); (try clear ho0); obtain ⟨Ao8, co8, eo8⟩ := Kd.R_slice HO333.out; subst eo8) | ((with_reducible refine gate_callee (f := 82) rfl ?_); refine gL (some 12) Tryz.func82 #[.slice Ao8 t331.length co8] ?_; (with_reducible refine (spec_asGood.calls k _ _ t331 t336 _ (cQ ((Kd.R_reads' HO333.out).2.2)) ((Kd.R_reads' HO333.out).2.1) A4.out).mono ?_); rintro e w' ⟨rfl, ⟨nd, rfl⟩⟩; refine ⟨_, rfl, ?_⟩))
 (try simp only [Act.put, List.setIfInBounds_toArray, List.set_cons_zero, List.set_cons_succ])
 go_cut [5] (fun v5 wc => ∃ (kq : Nat) (x5_4 : List Int), Aside0 (spec_l1Cur_matrix.j0 kq x5_4 s0_0 t334 t335 = some (r1, r2, r3)) ∧ Aside0 (kq ≤ k) ∧ Aside0 (Kd.R (Kd.int .i64) 3 wc w.heap.size (fun _ => True) v5 x5_4) ∧ Aside0 (wc.heap[gb330]? = some (.cells #[(.slice none 0 0)] 30 (0, 0))) ∧ Aside0 (IsS58 w0 wc g s0_0 t334 t335) ∧ Aside0 (KeepBut w wc g none) ∧ Aside0 (Below w0.heap.size w0 wc))
 case first =>
  have H := HC5.out
  clear HC5
  by_cases c9 : t336 = true
  ·subst c9
   have H1 : (spec_l1Cur_matrix.j0 k t331 s0_0 t334 t335) = some (r1, r2, r3) := by rw [if_pos rfl] at H; exact H
   clear H
   have H := H1
   clear H1
   have H' := aM H
   clear H
   go_wp2
   go_meet
   case rel => exact ⟨_, (t331), H', ⟨by first | omega | exact Nat.le_refl _⟩, ⟨rQ HO333⟩, ⟨qQ BK330⟩, ⟨by repeat (first | (with_reducible first | exact HI0.out | apply IsS58.alloc | apply IsS58.drewN | apply IsS58.drew | apply IsS58.set_1 | apply IsS58.set_2 | refine IsS58.far ?_ NB0_330.out _) | exact HI0.out)⟩, ⟨by repeat (first | (with_reducible first | exact HK.out | apply KeepBut.set_ | apply keep_drewN | apply keep_drew | apply keep_alloc | refine keep_far ?_ GW330.out _) | exact HK.out)⟩, ⟨by repeat (first | (with_reducible first | exact HB.out | apply bA | apply bN | apply bD | refine below_set ?_ (IsS58.ge HI0.out) | refine below_set ?_ GE330.out) | exact HB.out)⟩⟩
  ·replace c9 := Bool.eq_false_iff.mpr c9
   subst c9
   have H1 : ((spec_orUpTo.f k 3).bind fun t337 => (spec_l1Cur_matrix.j0 k t337 s0_0 t334 t335)) = some (r1, r2, r3) := by rw [if_neg (show ¬ (false = true) by decide)] at H; exact H
   clear H
   have H := H1
   clear H1
   replace H := bS H
   obtain ⟨t337, A10, H⟩ := H
   try dsimp only at H
   have H' := aM H
   clear H
   go_wp2_with (first | ((with_reducible refine gate_callee (f := 83) rfl ?_); refine gL (some 14) Tryz.func83 #[.int .i64 3] ?_; (with_reducible refine (spec_orUpTo.calls k 3 t337 _ A10.out).mono ?_); rintro e w11 ⟨v338, rfl, ho0, hb⟩; refine ⟨_, rfl, ?_⟩; have _ := aM (Kd.R_elder' (rQ HO333) (Kd.R_base ho0) hb); have _ := aM (Kd.R_lower (Kd.R_new' ho0 (Kd.R_lt (rQ HO333))) (keep_size (w := w) (g := g) (row := none) (by repeat (first | (with_reducible first | exact HK.out | apply KeepBut.set_ | apply keep_drewN | apply keep_drew | apply keep_alloc | refine keep_far ?_ GW330.out _) | exact HK.out)))); have _ := aM (IsS58.below (by repeat (first | (with_reducible first | exact HI0.out | apply IsS58.alloc | apply IsS58.drewN | apply IsS58.drew | apply IsS58.set_1 | apply IsS58.set_2 | refine IsS58.far ?_ NB0_330.out _) | exact HI0.out)) hb); have _ := aM (blk_below (qQ BK330) hb); have _ := aM (KeepBut.trans (by repeat (first | (with_reducible first | exact HK.out | apply KeepBut.set_ | apply keep_drewN | apply keep_drew | apply keep_alloc | refine keep_far ?_ GW330.out _) | exact HK.out)) (KeepBut.of_below hb g none) (.inl rfl)); have _ := aM (below_step (by repeat (first | (with_reducible first | exact HB.out | apply bA | apply bN | apply bD | refine below_set ?_ (IsS58.ge HI0.out) | refine below_set ?_ GE330.out) | exact HB.out)) hb); clear HO333 HI0 BK330 HK HB; rename_i HO333 HO339 HI0 BK330 HK HB; (try clear hb); (try clear hb2); (try clear hk); (try clear hi); (try clear ho0)))
   go_meet
   case rel => exact ⟨_, (t337), H', ⟨by first | omega | exact Nat.le_refl _⟩, ⟨by (with_reducible repeat first|apply rA|apply rN|apply rD); exact Kd.R_mono HO339.out (fun _ hk => trivial)⟩, ⟨qQ BK330⟩, ⟨by repeat (first | (with_reducible first | exact HI0.out | apply IsS58.alloc | apply IsS58.drewN | apply IsS58.drew | apply IsS58.set_1 | apply IsS58.set_2 | refine IsS58.far ?_ NB0_330.out _) | exact HI0.out)⟩, ⟨by repeat (first | (with_reducible first | exact HK.out | apply KeepBut.set_ | apply keep_drewN | apply keep_drew | apply keep_alloc | refine keep_far ?_ GW330.out _) | exact HK.out)⟩, ⟨by repeat (first | (with_reducible first | exact HB.out | apply bA | apply bN | apply bD | refine below_set ?_ (IsS58.ge HI0.out) | refine below_set ?_ GE330.out) | exact HB.out)⟩⟩
 case rest =>
  clear HC5
  try clear p2
  try clear c4
  try clear c8
  try clear c9
  obtain ⟨kq, x5_4, HA, HJ4, HO_5, BK330, HI0, HK, HB⟩ := hcut
  cases kq with
  | zero => exact absurd HA.out (by simp [spec_l1Cur_matrix.j0])
  | succ kj4 =>
   have H := HA.out
   clear HA
   simp only [spec_l1Cur_matrix.j0] at H
   replace H := bS H
   obtain ⟨t340, A12, H⟩ := H
   try dsimp only at H
   replace H := bS H
   obtain ⟨⟨t344, t345, t346⟩, A13, H⟩ := H
   try dsimp only at H
   by_cases c14 : t344 = 0
   ·rw [if_pos c14] at H
    have c14b0 : (t344 == 0) = true := beq_iff_eq.mpr c14
    have c14b1 : (t344 != 0) = false := bne_eq_false_iff_eq.mpr c14
    clear c14
    by_cases c15 : (t340.length : Int) > 0
    ·rw [if_pos c15] at H
     have c15b0 := decide_eq_true c15
     have c15b1 : decide (0 < t340.length) = true := decide_eq_true (by omega)
     clear c15
     replace H := bS H
     obtain ⟨⟨t347, t348, t349⟩, A16, H⟩ := H
     try dsimp only at H
     replace H := iD2 H
     obtain ⟨c17b0, c18b0, H⟩ := H
     replace H := bS H
     obtain ⟨⟨t351, t352, t353⟩, A19, H⟩ := H
     try dsimp only at H
     obtain ⟨y354, hy354⟩ : ∃ y_ : List Int, y_ = (([(-1), 0, 1, 12, 13] : List Int)) := ⟨_, rfl⟩
     replace H : ((spec_l1Cur_among.f s0_0 t352 t353 y354).bind fun bt357 => (if 0 ≤ t351 then (if t351 < ((rd_L2 t340 t347).length : Int) then (some ((t340.set (t347 : Int).toNat ((rd_L2 t340 t347).set (t351 : Int).toNat bt357.1)), bt357.2.1, bt357.2.2)) else (none)) else (none))) = some (r1, r2, r3) := by first | (rw [hy354]; with_reducible exact H) | (have H2_ := (Option.bind_some _ _).symm.trans H; rw [hy354]; with_reducible exact H2_) | (have H2_ := (Option.bind_some _ _).symm.trans H; with_reducible exact H2_) | with_reducible exact H | (rw [hy354]; exact H) | exact H
     have Ny354 := aM hy354
     clear hy354
     replace H := bS H
     obtain ⟨⟨t357, t358, t359⟩, A20, H⟩ := H
     try dsimp only at H
     replace H := iD2 H
     obtain ⟨c21b0, c22b0, H⟩ := H
     obtain ⟨y360, hy360⟩ : ∃ y_ : List Int, y_ = ((rd_L2 t340 t347).set (t351 : Int).toNat t357) := ⟨_, rfl⟩
     replace H : (some ((t340.set (t347 : Int).toNat y360), t358, t359)) = some (r1, r2, r3) := by first | (rw [hy360]; with_reducible exact H) | (have H2_ := (Option.bind_some _ _).symm.trans H; rw [hy360]; with_reducible exact H2_) | (have H2_ := (Option.bind_some _ _).symm.trans H; with_reducible exact H2_) | with_reducible exact H | (rw [hy360]; exact H) | exact H
     have Ny360 := aM hy360
     clear hy360
     obtain ⟨y362, hy362⟩ : ∃ y_ : List (List Int), y_ = (t340.set (t347 : Int).toNat y360) := ⟨_, rfl⟩
     replace H : (some (y362, t358, t359)) = some (r1, r2, r3) := by first | (rw [hy362]; with_reducible exact H) | (have H2_ := (Option.bind_some _ _).symm.trans H; rw [hy362]; with_reducible exact H2_) | (have H2_ := (Option.bind_some _ _).symm.trans H; with_reducible exact H2_) | with_reducible exact H | (rw [hy362]; exact H) | exact H
     have Ny362 := aM hy362
     clear hy362
     simp only [Option.some.injEq, Prod.mk.injEq] at H
     obtain ⟨rfl, rfl, rfl⟩ := H
     obtain ⟨Ao24, co24, eo24⟩ := Kd.R_slice HO_5.out
     subst eo24
     try go_wp2_with (first | ((with_reducible refine gate_callee (f := 84) rfl ?_); refine gL (some 16) Tryz.func84 #[.slice Ao24 x5_4.length co24] ?_; (with_reducible refine (spec_maOf.calls kj4 _ _ x5_4 t340 _ (cQ ((Kd.R_reads' HO_5.out).2.2)) ((Kd.R_reads' HO_5.out).2.1) A12.out).mono ?_); rintro e w25 ⟨v341, rfl, ho0, hb⟩; refine ⟨_, rfl, ?_⟩; have _ := aM (Kd.R_below (rQ HO_5) hb); have _ := aM (Kd.S_lower (Kd.S_new' ho0 (Kd.R_lt (rQ HO_5))) (keep_size (w := w) (g := g) (row := none) (by repeat (first | (with_reducible first | exact HK.out | apply KeepBut.set_ | apply keep_drewN | apply keep_drew | apply keep_alloc | refine keep_far ?_ GW330.out _) | exact HK.out)))); have _ := aM (blk_below (qQ BK330) hb); have _ := aM (IsS58.below (by repeat (first | (with_reducible first | exact HI0.out | apply IsS58.alloc | apply IsS58.drewN | apply IsS58.drew | apply IsS58.set_1 | apply IsS58.set_2 | refine IsS58.far ?_ NB0_330.out _) | exact HI0.out)) hb); have _ := aM (KeepBut.trans (by repeat (first | (with_reducible first | exact HK.out | apply KeepBut.set_ | apply keep_drewN | apply keep_drew | apply keep_alloc | refine keep_far ?_ GW330.out _) | exact HK.out)) (KeepBut.of_below hb g none) (.inl rfl)); have _ := aM (below_step (by repeat (first | (with_reducible first | exact HB.out | apply bA | apply bN | apply bD | refine below_set ?_ (IsS58.ge HI0.out) | refine below_set ?_ GE330.out) | exact HB.out)) hb); clear HO_5 BK330 HI0 HK HB; rename_i HO_5 HO342 BK330 HI0 HK HB; (try clear hb); (try clear hb2); (try clear hk); (try clear hi); (try clear ho0)) | ((with_reducible refine gate_dst (N := 6) rfl ?_); refine bE 6 30 #[.slice none 0 0] ?_; intro gb343 hg w26 hbox hb; have _ := aM (Kd.R_below (rQ HO_5) hb); have _ := aM (Kd.S_below (sQ HO342) hb); have _ := aM (blk_below (qQ BK330) hb); have _ := aM (IsS58.below (by repeat (first | (with_reducible first | exact HI0.out | apply IsS58.alloc | apply IsS58.drewN | apply IsS58.drew | apply IsS58.set_1 | apply IsS58.set_2 | refine IsS58.far ?_ NB0_330.out _) | exact HI0.out)) hb); have _ := aM (KeepBut.trans (by repeat (first | (with_reducible first | exact HK.out | apply KeepBut.set_ | apply keep_drewN | apply keep_drew | apply keep_alloc | refine keep_far ?_ GW330.out _) | exact HK.out)) (KeepBut.of_below hb g none) (.inl rfl)); have _ := aM (below_step (by repeat (first | (with_reducible first | exact HB.out | apply bA | apply bN | apply bD | refine below_set ?_ (IsS58.ge HI0.out) | refine below_set ?_ GE330.out) | exact HB.out)) hb); have _ := aM (hbox); have _ := aM ((by rw [hg]; exact (keep_size (w := w) (g := g) (row := none) (by repeat (first | (with_reducible first | exact HK.out | apply KeepBut.set_ | apply keep_drewN | apply keep_drew | apply keep_alloc | refine keep_far ?_ GW330.out _) | exact HK.out))) : w.heap.size ≤ gb343)); have _ := aM ((Nat.le_trans HW0.out (by rw [hg]; exact (keep_size (w := w) (g := g) (row := none) (by repeat (first | (with_reducible first | exact HK.out | apply KeepBut.set_ | apply keep_drewN | apply keep_drew | apply keep_alloc | refine keep_far ?_ GW330.out _) | exact HK.out))) : w.heap.size ≤ gb343) : w0.heap.size ≤ gb343)); have _ := aM ((by rw [hg]; exact Nat.ne_of_lt (blk_lt (g := gb330) (o := .cells #[.slice none 0 0] 30 (0, 0)) (qQ BK330)) : gb330 ≠ gb343)); have _ := aM ((by rw [hg]; exact Nat.ne_of_gt (blk_lt (g := gb330) (o := .cells #[.slice none 0 0] 30 (0, 0)) (qQ BK330)) : gb343 ≠ gb330)); have _ := aM ((by rw [hg]; exact Nat.ne_of_lt (IsS58.lt (show IsS58 w0 _ g s0_0 t334 t335 from by repeat (first | (with_reducible first | exact HI0.out | apply IsS58.alloc | apply IsS58.drewN | apply IsS58.drew | apply IsS58.set_1 | apply IsS58.set_2 | refine IsS58.far ?_ NB0_330.out _) | exact HI0.out))) : g ≠ gb343)); have _ := aM ((by rw [hg]; exact Nat.ne_of_gt (IsS58.lt (show IsS58 w0 _ g s0_0 t334 t335 from by repeat (first | (with_reducible first | exact HI0.out | apply IsS58.alloc | apply IsS58.drewN | apply IsS58.drew | apply IsS58.set_1 | apply IsS58.set_2 | refine IsS58.far ?_ NB0_330.out _) | exact HI0.out))) : gb343 ≠ g)); clear HO_5 HO342 BK330 HI0 HK HB; rename_i HO_5 HO342 BK330 HI0 HK HB BK343 GW343 GE343 NB330_343 NB343_330 NB0_343 NB343_0; clear hb hbox hg; obtain ⟨Ao27, co27, eo27⟩ := Kd.S_slice HO342.out; subst eo27; have hnb28 := NB343_330.out; have hnc28 := NB330_343.out; have hnb29 := NB343_0.out; have hnc29 := NB0_343.out; have hcz30_0 := c10 BK343; have hfz30_0 := blk_frozen BK343.out 0) | ((with_reducible refine gate_callee (f := 85) rfl ?_); refine gL (some 18) Tryz.func85 #[.pointer (some ⟨g, 0, none⟩), .int .i64 14] ?_; (with_reducible refine (spec_l1Cur_pick.calls g s0_0 t334 t335 14 t344 t345 t346 w0 _ ?side1 ?side2 A13.out).mono ?_); (case side1 => repeat (first | (with_reducible first | exact HI0.out | apply IsS58.alloc | apply IsS58.drewN | apply IsS58.drew | apply IsS58.set_1 | apply IsS58.set_2 | refine IsS58.far ?_ NB0_330.out _ | refine IsS58.far ?_ NB0_343.out _) | exact HI0.out)); (case side2 => repeat (first | (with_reducible first | exact HB.out | apply bA | apply bN | apply bD | refine below_set ?_ (IsS58.ge HI0.out) | refine below_set ?_ GE330.out | refine below_set ?_ GE343.out) | exact HB.out)); rintro e w31 ⟨rfl, hi, hb, hk⟩; refine ⟨_, rfl, ?_⟩; have _ := aM (Kd.R_mono (Kd.R_keep (IsS58.apart (show IsS58 w0 _ g s0_0 t334 t335 from by repeat (first | (with_reducible first | exact HI0.out | apply IsS58.alloc | apply IsS58.drewN | apply IsS58.drew | apply IsS58.set_1 | apply IsS58.set_2 | refine IsS58.far ?_ NB0_330.out _ | refine IsS58.far ?_ NB0_343.out _) | exact HI0.out)) (by (with_reducible repeat first|apply rA|apply rN|apply rD); exact (Kd.R_mono (Kd.R_far (p := ⟨gb343, 0, none⟩) (Kd.R_types HO_5.out BK343.out (by decide)) (fun _ hk => hk.2) (.slice Ao27 t340.length co27)) (fun _ h_ => h_.1))) (by decide)) hk (fun _ h => h.2)) (fun _ h => h.1)); have _ := aM (KeepBut.blk hk (g' := gb330) (o := .cells #[.slice none 0 0] 30 (0, 0)) (by (with_reducible repeat first|apply qN|apply qD|apply qA); refine blk_far ?_ NB330_343.out _; (with_reducible repeat first|apply qN|apply qD|apply qA); exact BK330.out) NB330_0.out (by simp)); have _ := aM (Kd.S_mono (Kd.S_keep (IsS58.apartS (show IsS58 w0 _ g s0_0 t334 t335 from by repeat (first | (with_reducible first | exact HI0.out | apply IsS58.alloc | apply IsS58.drewN | apply IsS58.drew | apply IsS58.set_1 | apply IsS58.set_2 | refine IsS58.far ?_ NB0_330.out _ | refine IsS58.far ?_ NB0_343.out _) | exact HI0.out)) (by (with_reducible repeat first|apply sA|apply sN|apply sD); exact (Kd.S_mono (Kd.S_far (p := ⟨gb343, 0, none⟩) (Kd.S_types HO342.out BK343.out (by decide)) (fun _ hk => hk.2) (.slice Ao27 t340.length co27)) (fun _ h_ => h_.1))) (by decide)) hk (fun _ h => h.2)) (fun _ h => h.1)); have _ := aM (KeepBut.blk hk (g' := gb343) (o := .cells #[.slice Ao27 t340.length co27] 30 (0, 0)) (by (with_reducible repeat first|apply qN|apply qD|apply qA); refine blk_put (cs := #[.slice none 0 0]) ?_ 0 _ rfl; (with_reducible repeat first|apply qN|apply qD|apply qA); exact BK343.out) NB343_0.out (by simp)); have _ := aM (KeepBut.trans (by repeat (first | (with_reducible first | exact HK.out | apply KeepBut.set_ | apply keep_drewN | apply keep_drew | apply keep_alloc | refine keep_far ?_ GW330.out _ | refine keep_far ?_ GW343.out _) | exact HK.out)) hk (.inl rfl)); have _ := aM (hb); have _ := aM (hi); clear HO_5 BK330 HO342 BK343 HK HB HI0; rename_i HO_5 BK330 HO342 BK343 HK HB HI0; (try clear hb); (try clear hb2); (try clear hk); (try clear hi); have hcz32_0 := c10 BK343; have hfz32_0 := blk_frozen BK343.out 0) | ((with_reducible refine gate_callee (f := 85) rfl ?_); refine gL (some 29) Tryz.func85 #[.pointer (some ⟨g, 0, none⟩), .int .i64 (t340.length : Int)] ?_; (with_reducible refine (spec_l1Cur_pick.calls g s0_0 t345 t346 (t340.length : Int) t347 t348 t349 w0 _ ?side1 ?side2 A16.out).mono ?_); (case side1 => repeat (first | (with_reducible first | exact HI0.out | apply IsS58.alloc | apply IsS58.drewN | apply IsS58.drew | apply IsS58.set_1 | apply IsS58.set_2 | refine IsS58.far ?_ NB0_330.out _ | refine IsS58.far ?_ NB0_343.out _) | exact HI0.out)); (case side2 => repeat (first | (with_reducible first | exact HB.out | apply bA | apply bN | apply bD | refine below_set ?_ (IsS58.ge HI0.out) | refine below_set ?_ GE330.out | refine below_set ?_ GE343.out) | exact HB.out)); rintro e w33 ⟨rfl, hi, hb, hk⟩; refine ⟨_, rfl, ?_⟩; have _ := aM (Kd.R_mono (Kd.R_keep (IsS58.apart (show IsS58 w0 _ g s0_0 t345 t346 from by repeat (first | (with_reducible first | exact HI0.out | apply IsS58.alloc | apply IsS58.drewN | apply IsS58.drew | apply IsS58.set_1 | apply IsS58.set_2 | refine IsS58.far ?_ NB0_330.out _ | refine IsS58.far ?_ NB0_343.out _) | exact HI0.out)) (rQ HO_5) (by decide)) hk (fun _ h => h.2)) (fun _ h => h.1)); have _ := aM (KeepBut.blk hk (g' := gb330) (o := .cells #[.slice none 0 0] 30 (0, 0)) (qQ BK330) NB330_0.out (by simp)); have _ := aM (Kd.S_mono (Kd.S_keep (IsS58.apartS (show IsS58 w0 _ g s0_0 t345 t346 from by repeat (first | (with_reducible first | exact HI0.out | apply IsS58.alloc | apply IsS58.drewN | apply IsS58.drew | apply IsS58.set_1 | apply IsS58.set_2 | refine IsS58.far ?_ NB0_330.out _ | refine IsS58.far ?_ NB0_343.out _) | exact HI0.out)) (sQ HO342) (by decide)) hk (fun _ h => h.2)) (fun _ h => h.1)); have _ := aM (KeepBut.blk hk (g' := gb343) (o := .cells #[.slice Ao27 t340.length co27] 30 (0, 0)) (qQ BK343) NB343_0.out (by simp)); have _ := aM (KeepBut.trans (by repeat (first | (with_reducible first | exact HK.out | apply KeepBut.set_ | apply keep_drewN | apply keep_drew | apply keep_alloc | refine keep_far ?_ GW330.out _ | refine keep_far ?_ GW343.out _) | exact HK.out)) hk (.inl rfl)); have _ := aM (hb); have _ := aM (hi); clear HO_5 BK330 HO342 BK343 HK HB HI0; rename_i HO_5 BK330 HO342 BK343 HK HB HI0; (try clear hb); (try clear hb2); (try clear hk); (try clear hi)))
     have n0_ := aM (Kd.R_drew HO_5.out)
     have n1_ := aM (Kd.S_drew HO342.out)
     have n2_ := aM (blk_drew BK330.out)
     have n3_ := aM (blk_drew BK343.out)
     have n4_ := aM (IsS58.drew HI0.out)
     have n5_ := aM (keep_drew HK.out)
     have n6_ := aM (below_drew1 HB.out)
     clear HO_5
     clear HO342
     clear BK330
     clear BK343
     clear HI0
     clear HK
     clear HB
     have HO_5 := n0_
     have HO342 := n1_
     have BK330 := n2_
     have BK343 := n3_
     have HI0 := n4_
     have HK := n5_
     have HB := n6_
     clear n0_ n1_ n2_ n3_ n4_ n5_ n6_
     have p350 : 0 ≤ (t347 : Int) := odt
     have q350 : t347 < (t340.length : Int) := odt
     obtain ⟨ad350, A350_0, c350_0, e350, hx350_0, hl350_0, hi350_0⟩ := at_L2 (Kd.S_reads' HO342.out).2.2 t347 p350 q350
     cases e350
     obtain ⟨ce350, hce350, hMe350, hcc350⟩ := Kd.S_get HO342.out [] t347 p350 (by first | exact q350 | exact odt | (have e_ := (Kd.S_reads' HO342.out).1; omega))
     obtain ⟨ve350_0, rfl, ge350_0⟩ := hMe350
     have hv350_0 := hcc350 0 _ rfl
     rw [Nat.add_zero, show ((Kd.slice 3 (Kd.int .i64))).sz = 1 from rfl, Nat.mul_one] at hv350_0
     replace hv350_0 := Option.some.inj (hv350_0.symm.trans hx350_0)
     rw [hv350_0] at ge350_0
     have HL350_0 := aM (show Kd.R (Kd.int .i64) 3 _ _ _ _ (rd_L2 t340 t347) from ge350_0)
     clear hv350_0 ge350_0
     have HX350_0 := aM hx350_0
     clear hcc350 hce350
     have HR350_0 := aM hi350_0
     have HC350_0 := aM hl350_0
     clear hi350_0 hl350_0
     replace p350 := eq_true p350
     replace q350 := eq_true q350
     refine start_ (n := 15) (S := fun w' => w'.cell? ⟨gb343, 0, none⟩ = some (.slice (some ad350) t340.length co27) ∧ w'.cell? (ad350.add (t347).toNat) = some (.slice A350_0 (rd_L2 t340 t347).length c350_0)) (ds := [14]) #[false, false, false, false, false, false, false, false, false, false, false, false, false, false, false] (by kernel_rfl) rfl rfl ⟨(blk_cell BK343.out 0).trans rfl, hx350_0⟩ (fun hHeld => ?_); refine with_tabW spec_l1Cur_matrix.tab9 spec_l1Cur_matrix.bits9 (fun HT_ HW_ => ?_)
     generalize w33.drew = w34 at HO_5 HO342 BK330 BK343 HI0 HK HB HL350_0 HR350_0 HX350_0 hx350_0 hHeld ⊢
     refine pure_ (i := 0) (N := some 30) (v := ?_) (a' := ?_) #[true, false, false, false, false, false, false, false, false, false, false, false, false, false, false] rfl rfl (any_of HT_.out (by kernel_rfl)) (fun _ _ _ h => h) (Or.inl ⟨by rfl, ?_⟩) ?_ ?_
     rotate_left
     ·intro w'
      go_simp
      with_reducible rfl
     rotate_left
     ·simp only [Act.put, List.setIfInBounds_toArray, List.set_cons_zero, List.set_cons_succ, i64_w, i32_w]
      rfl
     refine pure_ (i := 2) (N := some 32) (v := ?_) (a' := ?_) #[true, false, true, false, false, false, false, false, false, false, false, false, false, false, false] rfl rfl (any_of HT_.out (by kernel_rfl)) (fun _ _ _ h => h) (Or.inl ⟨by rfl, ?_⟩) ?_ ?_
     rotate_left
     ·intro w'
      go_simp
      with_reducible rfl
     rotate_left
     ·simp only [Act.put, List.setIfInBounds_toArray, List.set_cons_zero, List.set_cons_succ, i64_w, i32_w]
      rfl
     refine pure_ (i := 5) (N := some 35) (v := ?_) (a' := ?_) #[true, false, true, false, false, true, false, false, false, false, false, false, false, false, false] rfl rfl (any_of HT_.out (by kernel_rfl)) (fun _ _ _ h => h) (Or.inl ⟨by rfl, ?_⟩) ?_ ?_
     rotate_left
     ·intro w'
      go_simp
      with_reducible rfl
     rotate_left
     ·simp only [Act.put, List.setIfInBounds_toArray, List.set_cons_zero, List.set_cons_succ, i64_w, i32_w]
      rfl
     refine pure_ (i := 6) (N := some 36) (v := ?_) (a' := ?_) #[true, false, true, false, false, true, true, false, false, false, false, false, false, false, false] rfl rfl (any_of HT_.out (by kernel_rfl)) (fun _ _ _ h => h) (Or.inl ⟨by rfl, ?_⟩) ?_ ?_
     rotate_left
     ·intro w'
      go_simp
      with_reducible rfl
     rotate_left
     ·simp only [Act.put, List.setIfInBounds_toArray, List.set_cons_zero, List.set_cons_succ, i64_w, i32_w]
      rfl
     refine pure_ (i := 10) (N := some 40) (v := ?_) (a' := ?_) #[true, false, true, false, false, true, true, false, false, false, true, false, false, false, false] rfl rfl (any_of HT_.out (by kernel_rfl)) (fun _ _ _ h => h) (Or.inl ⟨by rfl, ?_⟩) ?_ ?_
     rotate_left
     ·intro w'
      go_simp
      with_reducible rfl
     rotate_left
     ·simp only [Act.put, List.setIfInBounds_toArray, List.set_cons_zero, List.set_cons_succ, i64_w, i32_w]
      rfl
     refine take_ (i := 1) (N := some 31) (v := ?_) (a' := ?_) #[true, true, true, false, false, true, true, false, false, false, true, false, false, false, false] rfl rfl (take_ofW HT_.out HW_.out (by kernel_rfl)) (fun _ _ _ h => h) (Or.inl ⟨by rfl, ?_⟩) hHeld ?_ ?_
     rotate_left
     ·rintro w' ⟨s0, s1⟩
      go_simp
      with_reducible rfl
     rotate_left
     ·simp only [Act.put, List.setIfInBounds_toArray, List.set_cons_zero, List.set_cons_succ, i64_w, i32_w]
      rfl
     refine pure_ (i := 3) (N := some 33) (v := ?_) (a' := ?_) #[true, true, true, true, false, true, true, false, false, false, true, false, false, false, false] rfl rfl (any_of HT_.out (by kernel_rfl)) (fun _ _ _ h => h) (Or.inl ⟨by rfl, ?_⟩) ?_ ?_
     rotate_left
     ·intro w'
      go_simp
      with_reducible rfl
     rotate_left
     ·simp only [Act.put, List.setIfInBounds_toArray, List.set_cons_zero, List.set_cons_succ, i64_w, i32_w]
      rfl
     refine take_ (i := 4) (N := some 34) (v := ?_) (a' := ?_) #[true, true, true, true, true, true, true, false, false, false, true, false, false, false, false] rfl rfl (take_ofW HT_.out HW_.out (by kernel_rfl)) (fun _ _ _ h => h) (Or.inl ⟨by rfl, ?_⟩) hHeld ?_ ?_
     rotate_left
     ·rintro w' ⟨s0, s1⟩
      go_simp
      with_reducible rfl
     rotate_left
     ·simp only [Act.put, List.setIfInBounds_toArray, List.set_cons_zero, List.set_cons_succ, i64_w, i32_w]
      rfl
     refine take_ (i := 7) (N := some 37) (v := ?_) (a' := ?_) #[true, true, true, true, true, true, true, true, false, false, true, false, false, false, false] rfl rfl (take_ofW HT_.out HW_.out (by kernel_rfl)) (fun _ _ _ h => h) (Or.inl ⟨by rfl, ?_⟩) hHeld ?_ ?_
     rotate_left
     ·rintro w' ⟨s0, s1⟩
      go_simp
      with_reducible rfl
     rotate_left
     ·simp only [Act.put, List.setIfInBounds_toArray, List.set_cons_zero, List.set_cons_succ, i64_w, i32_w]
      rfl
     refine pure_ (i := 8) (N := some 38) (v := ?_) (a' := ?_) #[true, true, true, true, true, true, true, true, true, false, true, false, false, false, false] rfl rfl (any_of HT_.out (by kernel_rfl)) (fun _ _ _ h => h) (Or.inl ⟨by rfl, ?_⟩) ?_ ?_
     rotate_left
     ·intro w'
      go_simp
      with_reducible rfl
     rotate_left
     ·simp only [Act.put, List.setIfInBounds_toArray, List.set_cons_zero, List.set_cons_succ, i64_w, i32_w]
      rfl
     refine join_ (σ := Value) 3 #[true, true, true, true, true, true, true, true, true, true, true, true, false, false, false] (fun s_ => [(39, .int .i64 t351), (41, s_)]) (fun s_ w' => (w'.cell? ⟨gb343, 0, none⟩ = some (.slice (some ad350) t340.length co27) ∧ w'.cell? (ad350.add (t347).toNat) = some (.slice A350_0 (rd_L2 t340 t347).length c350_0)) ∧ (Kd.R (Kd.int .i64) 3 w' w.heap.size (fun k_ => some k_ ≠ (.slice (some ad350) t340.length co27 : Value).ownBlock ∧ some k_ ≠ (s_ : Value).ownBlock ∧ some k_ ≠ (.slice Ao24 x5_4.length co24 : Value).ownBlock) (.slice A350_0 (rd_L2 t340 t347).length c350_0) (rd_L2 t340 t347)) ∧ (Kd.S (Kd.slice 3 (Kd.int .i64)) 24 w' w.heap.size (fun k_ => some k_ ≠ (s_ : Value).ownBlock ∧ some k_ ≠ (.slice Ao24 x5_4.length co24 : Value).ownBlock) (.slice (some ad350) t340.length co27) t340) ∧ (Kd.R (Kd.int .i64) 3 w' w.heap.size (fun k_ => some k_ ≠ (.slice A350_0 (rd_L2 t340 t347).length c350_0 : Value).ownBlock ∧ some k_ ≠ (.slice Ao24 x5_4.length co24 : Value).ownBlock) s_ y354) ∧ (Kd.R (Kd.int .i64) 3 w' w.heap.size (fun k_ => some k_ ≠ (s_ : Value).ownBlock) (.slice Ao24 x5_4.length co24) x5_4) ∧ (w'.cell? (ad350.add (t347).toNat) = some (.slice A350_0 (rd_L2 t340 t347).length c350_0)) ∧ (w'.heap[gb330]? = some (.cells #[.slice none 0 0] 30 (0, 0))) ∧ (w'.heap[gb343]? = some (.cells #[.slice (some ad350) t340.length co27] 30 (0, 0))) ∧ (IsS58 w0 w' g s0_0 t352 t353) ∧ (KeepBut w w' g none) ∧ (Below w0.heap.size w0 w')) ?_ ?_
     rotate_left
     ·intro hCont
      refine two_ (i := 9) (j := 11) (Ni := some 39) (Nj := some 41) #[true, true, true, true, true, true, true, true, true, true, true, false, false, false, false] #[true, true, true, true, true, true, true, true, true, false, true, true, false, false, false] rfl rfl rfl rfl (two_of HT_.out (by kernel_rfl)) (by decide) (by decide) (fun K hK => ?_) (fun K hK => ?_)
      ·skip
       refine goes_ Tryz.func85 (by kernel_rfl) rfl #[.pointer (some ⟨g, 0, none⟩), .int .i64 (t340.length : Int)] (by rfl) rfl rfl (by (try simp only [List.map_toArray, List.map_cons, List.map_nil]); first | done | rfl | (simp only [List.length_drop, List.length_take]; rfl)) ?_
       with_reducible refine (spec_l1Cur_pick.calls g s0_0 t348 t349 (t340.length : Int) t351 t352 t353 w0 _ ?side1 ?side2 A19.out).mono ?_
       (case side1 => repeat (first | (with_reducible first | exact HI0.out | apply IsS58.alloc | apply IsS58.drewN | apply IsS58.drew | apply IsS58.set_1 | apply IsS58.set_2 | refine IsS58.far ?_ NB0_330.out _ | refine IsS58.far ?_ NB0_343.out _) | exact HI0.out))
       (case side2 => repeat (first | (with_reducible first | exact HB.out | apply bA | apply bN | apply bD | refine below_set ?_ (IsS58.ge HI0.out) | refine below_set ?_ GE330.out | refine below_set ?_ GE343.out) | exact HB.out))
       rintro e w35 ⟨rfl, hi, hb, hk⟩
       have HS1_ := keep_cell hk (hHeld.2) (by first | (rw [add_block]; exact Kd.own_blk (IsS58.own_neS HI0.out HO342.out (by decide))) | (show (Addr.add _ _).block ≠ _; rw [add_block]; exact Kd.own_blk (IsS58.own_neS HI0.out HO342.out (by decide))) | exact Kd.own_blk (IsS58.own_neS HI0.out HO342.out (by decide)))
       refine ⟨_, rfl, ?_⟩
       have n0_ := aM (Kd.R_mono (Kd.R_keep (IsS58.apart (show IsS58 w0 _ g s0_0 t348 t349 from by repeat (first | (with_reducible first | exact HI0.out | apply IsS58.alloc | apply IsS58.drewN | apply IsS58.drew | apply IsS58.set_1 | apply IsS58.set_2 | refine IsS58.far ?_ NB0_330.out _ | refine IsS58.far ?_ NB0_343.out _) | exact HI0.out)) (rQ HO_5) (by decide)) hk (fun _ h => h.2)) (fun _ h => h.1))
       have n1_ := aM (KeepBut.blk hk (g' := gb330) (o := .cells #[.slice none 0 0] 30 (0, 0)) (qQ BK330) NB330_0.out (by simp))
       have n2_ := aM (Kd.S_mono (Kd.S_keep (IsS58.apartS (show IsS58 w0 _ g s0_0 t348 t349 from by repeat (first | (with_reducible first | exact HI0.out | apply IsS58.alloc | apply IsS58.drewN | apply IsS58.drew | apply IsS58.set_1 | apply IsS58.set_2 | refine IsS58.far ?_ NB0_330.out _ | refine IsS58.far ?_ NB0_343.out _) | exact HI0.out)) (sQ HO342) (by decide)) hk (fun _ h => h.2)) (fun _ h => h.1))
       have n3_ := aM (KeepBut.blk hk (g' := gb343) (o := .cells #[.slice (some ad350) t340.length co27] 30 (0, 0)) (qQ BK343) NB343_0.out (by simp))
       have n4_ := aM (Kd.R_mono (Kd.R_keep (IsS58.apart (show IsS58 w0 _ g s0_0 t348 t349 from by repeat (first | (with_reducible first | exact HI0.out | apply IsS58.alloc | apply IsS58.drewN | apply IsS58.drew | apply IsS58.set_1 | apply IsS58.set_2 | refine IsS58.far ?_ NB0_330.out _ | refine IsS58.far ?_ NB0_343.out _) | exact HI0.out)) (rQ HL350_0) (by decide)) hk (fun _ h => h.2)) (fun _ h => h.1))
       have n5_ := aM (keep_cell hk HX350_0.out (by first | (rw [add_block]; exact Kd.own_blk (IsS58.own_neS HI0.out HO342.out (by decide))) | (show (Addr.add _ _).block ≠ _; rw [add_block]; exact Kd.own_blk (IsS58.own_neS HI0.out HO342.out (by decide))) | exact Kd.own_blk (IsS58.own_neS HI0.out HO342.out (by decide)) | (dsimp only; exact Kd.own_blk (IsS58.own_neS HI0.out HO342.out (by decide)))))
       have n6_ := aM (KeepBut.trans (by repeat (first | (with_reducible first | exact HK.out | apply KeepBut.set_ | apply keep_drewN | apply keep_drew | apply keep_alloc | refine keep_far ?_ GW330.out _ | refine keep_far ?_ GW343.out _) | exact HK.out)) hk (.inl rfl))
       have n7_ := aM (hb)
       have n8_ := aM (hi)
       clear HO_5
       clear BK330
       clear HO342
       clear BK343
       clear HL350_0
       clear HX350_0
       clear HK
       clear HB
       clear HI0
       have HO_5 := n0_
       have BK330 := n1_
       have HO342 := n2_
       have BK343 := n3_
       have HL350_0 := n4_
       have HX350_0 := n5_
       have HK := n6_
       have HB := n7_
       have HI0 := n8_
       clear n0_ n1_ n2_ n3_ n4_ n5_ n6_ n7_ n8_
       (try clear hb)
       (try clear hb2)
       (try clear hk)
       (try clear hi)
       refine hK.out _ _ ⟨(blk_cell BK343.out 0).trans rfl, HS1_⟩ (fun hHeld => ?_)
       clear hK K
       refine norm_ (a' := ?_) ?_ ?_
       rotate_left
       ·show Act.put _ (some 39) _ = _
        simp only [Act.put, List.setIfInBounds_toArray, List.set_cons_zero, List.set_cons_succ, i64_w, i32_w]
        rfl
       refine one_ (i := 11) (N := some 41) #[true, true, true, true, true, true, true, true, true, true, true, true, false, false, false] rfl rfl (one_of HT_.out (by kernel_rfl)) (by decide) (fun K hK => ?_)
       refine Kd.R_lit_step (Kd.int .i64) _ 3 ?hg (N := 41) ?hd (xs := ([(-1), 0, 1, 12, 13] : List Int)) (inner := [.int .i64 (-1), .int .i64 0, .int .i64 1, .int .i64 12, .int .i64 13]) (ok := fun _ => True) (okp := fun _ => True) ?hr ?hp (fun _ hk => hk) trivial (Below.refl _ _) (Nat.le_refl _) (by simp) ?_; (case hd => rfl); (case hg => rfl); (case hr => first | (go_simp; done) | (go_simp; rfl)); (case hp => exact (Reps.one (show Kd.M (Kd.int .i64) _ _ _ (-1) [.int .i64 (-1)] from rfl) (Reps.one (show Kd.M (Kd.int .i64) _ _ _ 0 [.int .i64 0] from rfl) (Reps.one (show Kd.M (Kd.int .i64) _ _ _ 1 [.int .i64 1] from rfl) (Reps.one (show Kd.M (Kd.int .i64) _ _ _ 12 [.int .i64 12] from rfl) (Reps.one (show Kd.M (Kd.int .i64) _ _ _ 13 [.int .i64 13] from rfl) (Reps.none _ _)))))))
       intro v355 w36 ho37 hb hg_ hnew_
       have HS1_ := (hb.cell (World.block_lt_of_cell? _ _ (hHeld.2))).trans (hHeld.2)
       clear hg_ hnew_
       (first | rw [← Ny354.out] at ho37 | (simp only [Int.reduceToNat] at ho37; rw [← Ny354.out] at ho37))
       have n0_ := aM (Kd.R_elder' (rQ HO_5) (Kd.R_base ho37) hb)
       have n1_ := aM (Kd.S_elder' (sQ HO342) (Kd.R_base ho37) hb)
       have n2_ := aM (Kd.R_elder' (rQ HL350_0) (Kd.R_base ho37) hb)
       have n3_ := aM (Kd.R_lower (Kd.R_new' (Kd.R_new' ho37 (Kd.R_lt (rQ HO_5))) (Kd.R_lt (rQ HL350_0))) (keep_size (w := w) (g := g) (row := none) (by repeat (first | (with_reducible first | exact HK.out | apply KeepBut.set_ | apply keep_drewN | apply keep_drew | apply keep_alloc | refine keep_far ?_ GW330.out _ | refine keep_far ?_ GW343.out _) | exact HK.out))))
       have n4_ := aM (blk_below (qQ BK330) hb)
       have n5_ := aM (IsS58.below (by repeat (first | (with_reducible first | exact HI0.out | apply IsS58.alloc | apply IsS58.drewN | apply IsS58.drew | apply IsS58.set_1 | apply IsS58.set_2 | refine IsS58.far ?_ NB0_330.out _ | refine IsS58.far ?_ NB0_343.out _) | exact HI0.out)) hb)
       have n6_ := aM (blk_below (qQ BK343) hb)
       have n7_ := aM (pw_cell_below hb HX350_0.out)
       have n8_ := aM (KeepBut.trans (by repeat (first | (with_reducible first | exact HK.out | apply KeepBut.set_ | apply keep_drewN | apply keep_drew | apply keep_alloc | refine keep_far ?_ GW330.out _ | refine keep_far ?_ GW343.out _) | exact HK.out)) (KeepBut.of_below hb g none) (.inl rfl))
       have n9_ := aM (below_step (by repeat (first | (with_reducible first | exact HB.out | apply bA | apply bN | apply bD | refine below_set ?_ (IsS58.ge HI0.out) | refine below_set ?_ GE330.out | refine below_set ?_ GE343.out) | exact HB.out)) hb)
       clear HO_5
       clear HO342
       clear HL350_0
       clear BK330
       clear HI0
       clear BK343
       clear HX350_0
       clear HK
       clear HB
       have HO_5 := n0_
       have HO342 := n1_
       have HL350_0 := n2_
       have HO356 := n3_
       have BK330 := n4_
       have HI0 := n5_
       have BK343 := n6_
       have HX350_0 := n7_
       have HK := n8_
       have HB := n9_
       clear n0_ n1_ n2_ n3_ n4_ n5_ n6_ n7_ n8_ n9_
       clear hb ho37
       refine hK.out _ _ ⟨(blk_cell BK343.out 0).trans rfl, HS1_⟩ (fun hHeld => ?_)
       clear hK K
       refine norm_ (a' := ?_) ?_ ?_
       rotate_left
       ·show Act.put _ (some 41) _ = _
        simp only [Act.put, List.setIfInBounds_toArray, List.set_cons_zero, List.set_cons_succ, i64_w, i32_w]
        rfl
       exact norm_ (by simp only [putAll, Act.put, List.setIfInBounds_toArray, List.set_cons_zero, List.set_cons_succ]) (hCont (v355) _ ⟨hHeld, (by (with_reducible repeat first|apply rA|apply rN|apply rD); exact Kd.R_mono HL350_0.out (fun _ hk => ⟨hk.1.2, ⟨hk.2, hk.1.1.2⟩⟩)), (by (with_reducible repeat first|apply sA|apply sN|apply sD); exact Kd.S_mono HO342.out (fun _ hk => ⟨hk.2, hk.1.2⟩)), (by (with_reducible repeat first|apply rA|apply rN|apply rD); exact Kd.R_mono HO356.out (fun _ hk => ⟨hk.2, hk.1.2⟩)), (by (with_reducible repeat first|apply rA|apply rN|apply rD); exact Kd.R_mono HO_5.out (fun _ hk => hk.2)), HX350_0.out, (qQ BK330), (qQ BK343), (by repeat (first | (with_reducible first | exact HI0.out | apply IsS58.alloc | apply IsS58.drewN | apply IsS58.drew | apply IsS58.set_1 | apply IsS58.set_2 | refine IsS58.far ?_ NB0_330.out _ | refine IsS58.far ?_ NB0_343.out _) | exact HI0.out)), (by repeat (first | (with_reducible first | exact HK.out | apply KeepBut.set_ | apply keep_drewN | apply keep_drew | apply keep_alloc | refine keep_far ?_ GW330.out _ | refine keep_far ?_ GW343.out _) | exact HK.out)), (by repeat (first | (with_reducible first | exact HB.out | apply bA | apply bN | apply bD | refine below_set ?_ (IsS58.ge HI0.out) | refine below_set ?_ GE330.out | refine below_set ?_ GE343.out) | exact HB.out))⟩)
      ·skip
       refine Kd.R_lit_step (Kd.int .i64) _ 3 ?hg (N := 41) ?hd (xs := ([(-1), 0, 1, 12, 13] : List Int)) (inner := [.int .i64 (-1), .int .i64 0, .int .i64 1, .int .i64 12, .int .i64 13]) (ok := fun _ => True) (okp := fun _ => True) ?hr ?hp (fun _ hk => hk) trivial (Below.refl _ _) (Nat.le_refl _) (by simp) ?_; (case hd => rfl); (case hg => rfl); (case hr => first | (go_simp; done) | (go_simp; rfl)); (case hp => exact (Reps.one (show Kd.M (Kd.int .i64) _ _ _ (-1) [.int .i64 (-1)] from rfl) (Reps.one (show Kd.M (Kd.int .i64) _ _ _ 0 [.int .i64 0] from rfl) (Reps.one (show Kd.M (Kd.int .i64) _ _ _ 1 [.int .i64 1] from rfl) (Reps.one (show Kd.M (Kd.int .i64) _ _ _ 12 [.int .i64 12] from rfl) (Reps.one (show Kd.M (Kd.int .i64) _ _ _ 13 [.int .i64 13] from rfl) (Reps.none _ _)))))))
       intro v355 w35 ho36 hb hg_ hnew_
       have HS1_ := (hb.cell (World.block_lt_of_cell? _ _ (hHeld.2))).trans (hHeld.2)
       clear hg_ hnew_
       (first | rw [← Ny354.out] at ho36 | (simp only [Int.reduceToNat] at ho36; rw [← Ny354.out] at ho36))
       have n0_ := aM (Kd.R_elder' (rQ HO_5) (Kd.R_base ho36) hb)
       have n1_ := aM (Kd.S_elder' (sQ HO342) (Kd.R_base ho36) hb)
       have n2_ := aM (Kd.R_elder' (rQ HL350_0) (Kd.R_base ho36) hb)
       have n3_ := aM (Kd.R_lower (Kd.R_new' (Kd.R_new' ho36 (Kd.R_lt (rQ HO_5))) (Kd.R_lt (rQ HL350_0))) (keep_size (w := w) (g := g) (row := none) (by repeat (first | (with_reducible first | exact HK.out | apply KeepBut.set_ | apply keep_drewN | apply keep_drew | apply keep_alloc | refine keep_far ?_ GW330.out _ | refine keep_far ?_ GW343.out _) | exact HK.out))))
       have n4_ := aM (blk_below (qQ BK330) hb)
       have n5_ := aM (IsS58.below (by repeat (first | (with_reducible first | exact HI0.out | apply IsS58.alloc | apply IsS58.drewN | apply IsS58.drew | apply IsS58.set_1 | apply IsS58.set_2 | refine IsS58.far ?_ NB0_330.out _ | refine IsS58.far ?_ NB0_343.out _) | exact HI0.out)) hb)
       have n6_ := aM (blk_below (qQ BK343) hb)
       have n7_ := aM (Kd.C_below (cQ HR350_0.out) hb)
       have n8_ := aM (pw_cell_below hb HX350_0.out)
       have n9_ := aM (KeepBut.trans (by repeat (first | (with_reducible first | exact HK.out | apply KeepBut.set_ | apply keep_drewN | apply keep_drew | apply keep_alloc | refine keep_far ?_ GW330.out _ | refine keep_far ?_ GW343.out _) | exact HK.out)) (KeepBut.of_below hb g none) (.inl rfl))
       have n10_ := aM (below_step (by repeat (first | (with_reducible first | exact HB.out | apply bA | apply bN | apply bD | refine below_set ?_ (IsS58.ge HI0.out) | refine below_set ?_ GE330.out | refine below_set ?_ GE343.out) | exact HB.out)) hb)
       clear HO_5
       clear HO342
       clear HL350_0
       clear BK330
       clear HI0
       clear BK343
       clear HR350_0
       clear HX350_0
       clear HK
       clear HB
       have HO_5 := n0_
       have HO342 := n1_
       have HL350_0 := n2_
       have HO356 := n3_
       have BK330 := n4_
       have HI0 := n5_
       have BK343 := n6_
       have HR350_0 := n7_
       have HX350_0 := n8_
       have HK := n9_
       have HB := n10_
       clear n0_ n1_ n2_ n3_ n4_ n5_ n6_ n7_ n8_ n9_ n10_
       clear hb ho36
       refine hK.out _ _ ⟨(blk_cell BK343.out 0).trans rfl, HS1_⟩ (fun hHeld => ?_)
       clear hK K
       refine norm_ (a' := ?_) ?_ ?_
       rotate_left
       ·show Act.put _ (some 41) _ = _
        simp only [Act.put, List.setIfInBounds_toArray, List.set_cons_zero, List.set_cons_succ, i64_w, i32_w]
        rfl
       refine one_ (i := 9) (N := some 39) #[true, true, true, true, true, true, true, true, true, true, true, true, false, false, false] rfl rfl (one_of HT_.out (by kernel_rfl)) (by decide) (fun K hK => ?_)
       refine goes_ Tryz.func85 (by kernel_rfl) rfl #[.pointer (some ⟨g, 0, none⟩), .int .i64 (t340.length : Int)] (by rfl) rfl rfl (by (try simp only [List.map_toArray, List.map_cons, List.map_nil]); first | done | rfl | (simp only [List.length_drop, List.length_take]; rfl)) ?_
       with_reducible refine (spec_l1Cur_pick.calls g s0_0 t348 t349 (t340.length : Int) t351 t352 t353 w0 _ ?side1 ?side2 A19.out).mono ?_
       (case side1 => repeat (first | (with_reducible first | exact HI0.out | apply IsS58.alloc | apply IsS58.drewN | apply IsS58.drew | apply IsS58.set_1 | apply IsS58.set_2 | refine IsS58.far ?_ NB0_330.out _ | refine IsS58.far ?_ NB0_343.out _) | exact HI0.out))
       (case side2 => repeat (first | (with_reducible first | exact HB.out | apply bA | apply bN | apply bD | refine below_set ?_ (IsS58.ge HI0.out) | refine below_set ?_ GE330.out | refine below_set ?_ GE343.out) | exact HB.out))
       rintro e w37 ⟨rfl, hi, hb, hk⟩
       have HS1_ := keep_cell hk (hHeld.2) (by first | (rw [add_block]; exact Kd.own_blk (IsS58.own_neS HI0.out HO342.out (by decide))) | (show (Addr.add _ _).block ≠ _; rw [add_block]; exact Kd.own_blk (IsS58.own_neS HI0.out HO342.out (by decide))) | exact Kd.own_blk (IsS58.own_neS HI0.out HO342.out (by decide)))
       refine ⟨_, rfl, ?_⟩
       have n0_ := aM (Kd.R_mono (Kd.R_keep (IsS58.apart (show IsS58 w0 _ g s0_0 t348 t349 from by repeat (first | (with_reducible first | exact HI0.out | apply IsS58.alloc | apply IsS58.drewN | apply IsS58.drew | apply IsS58.set_1 | apply IsS58.set_2 | refine IsS58.far ?_ NB0_330.out _ | refine IsS58.far ?_ NB0_343.out _) | exact HI0.out)) (rQ HO_5) (by decide)) hk (fun _ h => h.2)) (fun _ h => h.1))
       have n1_ := aM (KeepBut.blk hk (g' := gb330) (o := .cells #[.slice none 0 0] 30 (0, 0)) (qQ BK330) NB330_0.out (by simp))
       have n2_ := aM (Kd.S_mono (Kd.S_keep (IsS58.apartS (show IsS58 w0 _ g s0_0 t348 t349 from by repeat (first | (with_reducible first | exact HI0.out | apply IsS58.alloc | apply IsS58.drewN | apply IsS58.drew | apply IsS58.set_1 | apply IsS58.set_2 | refine IsS58.far ?_ NB0_330.out _ | refine IsS58.far ?_ NB0_343.out _) | exact HI0.out)) (sQ HO342) (by decide)) hk (fun _ h => h.2)) (fun _ h => h.1))
       have n3_ := aM (KeepBut.blk hk (g' := gb343) (o := .cells #[.slice (some ad350) t340.length co27] 30 (0, 0)) (qQ BK343) NB343_0.out (by simp))
       have n4_ := aM (Kd.R_mono (Kd.R_keep (IsS58.apart (show IsS58 w0 _ g s0_0 t348 t349 from by repeat (first | (with_reducible first | exact HI0.out | apply IsS58.alloc | apply IsS58.drewN | apply IsS58.drew | apply IsS58.set_1 | apply IsS58.set_2 | refine IsS58.far ?_ NB0_330.out _ | refine IsS58.far ?_ NB0_343.out _) | exact HI0.out)) (rQ HL350_0) (by decide)) hk (fun _ h => h.2)) (fun _ h => h.1))
       have n5_ := aM (keep_cell hk HX350_0.out (by first | (rw [add_block]; exact Kd.own_blk (IsS58.own_neS HI0.out HO342.out (by decide))) | (show (Addr.add _ _).block ≠ _; rw [add_block]; exact Kd.own_blk (IsS58.own_neS HI0.out HO342.out (by decide))) | exact Kd.own_blk (IsS58.own_neS HI0.out HO342.out (by decide)) | (dsimp only; exact Kd.own_blk (IsS58.own_neS HI0.out HO342.out (by decide)))))
       have n6_ := aM (Kd.R_mono (Kd.R_keep (IsS58.apart (show IsS58 w0 _ g s0_0 t348 t349 from by repeat (first | (with_reducible first | exact HI0.out | apply IsS58.alloc | apply IsS58.drewN | apply IsS58.drew | apply IsS58.set_1 | apply IsS58.set_2 | refine IsS58.far ?_ NB0_330.out _ | refine IsS58.far ?_ NB0_343.out _) | exact HI0.out)) (rQ HO356) (by decide)) hk (fun _ h => h.2)) (fun _ h => h.1))
       have n7_ := aM (KeepBut.trans (by repeat (first | (with_reducible first | exact HK.out | apply KeepBut.set_ | apply keep_drewN | apply keep_drew | apply keep_alloc | refine keep_far ?_ GW330.out _ | refine keep_far ?_ GW343.out _) | exact HK.out)) hk (.inl rfl))
       have n8_ := aM (hb)
       have n9_ := aM (hi)
       clear HO_5
       clear BK330
       clear HO342
       clear BK343
       clear HL350_0
       clear HX350_0
       clear HO356
       clear HK
       clear HB
       clear HI0
       have HO_5 := n0_
       have BK330 := n1_
       have HO342 := n2_
       have BK343 := n3_
       have HL350_0 := n4_
       have HX350_0 := n5_
       have HO356 := n6_
       have HK := n7_
       have HB := n8_
       have HI0 := n9_
       clear n0_ n1_ n2_ n3_ n4_ n5_ n6_ n7_ n8_ n9_
       (try clear hb)
       (try clear hb2)
       (try clear hk)
       (try clear hi)
       refine hK.out _ _ ⟨(blk_cell BK343.out 0).trans rfl, HS1_⟩ (fun hHeld => ?_)
       clear hK K
       refine norm_ (a' := ?_) ?_ ?_
       rotate_left
       ·show Act.put _ (some 39) _ = _
        simp only [Act.put, List.setIfInBounds_toArray, List.set_cons_zero, List.set_cons_succ, i64_w, i32_w]
        rfl
       exact norm_ (by simp only [putAll, Act.put, List.setIfInBounds_toArray, List.set_cons_zero, List.set_cons_succ]) (hCont (v355) _ ⟨hHeld, (by (with_reducible repeat first|apply rA|apply rN|apply rD); exact Kd.R_mono HL350_0.out (fun _ hk => ⟨hk.1.2, ⟨hk.2, hk.1.1.2⟩⟩)), (by (with_reducible repeat first|apply sA|apply sN|apply sD); exact Kd.S_mono HO342.out (fun _ hk => ⟨hk.2, hk.1.2⟩)), (by (with_reducible repeat first|apply rA|apply rN|apply rD); exact Kd.R_mono HO356.out (fun _ hk => ⟨hk.2, hk.1.2⟩)), (by (with_reducible repeat first|apply rA|apply rN|apply rD); exact Kd.R_mono HO_5.out (fun _ hk => hk.2)), HX350_0.out, (qQ BK330), (qQ BK343), (by repeat (first | (with_reducible first | exact HI0.out | apply IsS58.alloc | apply IsS58.drewN | apply IsS58.drew | apply IsS58.set_1 | apply IsS58.set_2 | refine IsS58.far ?_ NB0_330.out _ | refine IsS58.far ?_ NB0_343.out _) | exact HI0.out)), (by repeat (first | (with_reducible first | exact HK.out | apply KeepBut.set_ | apply keep_drewN | apply keep_drew | apply keep_alloc | refine keep_far ?_ GW330.out _ | refine keep_far ?_ GW343.out _) | exact HK.out)), (by repeat (first | (with_reducible first | exact HB.out | apply bA | apply bN | apply bD | refine below_set ?_ (IsS58.ge HI0.out) | refine below_set ?_ GE330.out | refine below_set ?_ GE343.out) | exact HB.out))⟩)
     rintro v355 w38 ⟨hS_, h0_, h1_, h2_, h3_, h4_, h5_, h6_, h7_, h8_, h9_⟩
     have n0_ : Aside0 (Kd.R (Kd.int .i64) 3 w38 w.heap.size (fun k_ => some k_ ≠ (.slice (some ad350) t340.length co27 : Value).ownBlock ∧ some k_ ≠ (v355 : Value).ownBlock ∧ some k_ ≠ (.slice Ao24 x5_4.length co24 : Value).ownBlock) (.slice A350_0 (rd_L2 t340 t347).length c350_0) (rd_L2 t340 t347)) := ⟨h0_⟩
     have n1_ : Aside0 (Kd.S (Kd.slice 3 (Kd.int .i64)) 24 w38 w.heap.size (fun k_ => some k_ ≠ (v355 : Value).ownBlock ∧ some k_ ≠ (.slice Ao24 x5_4.length co24 : Value).ownBlock) (.slice (some ad350) t340.length co27) t340) := ⟨h1_⟩
     have n2_ : Aside0 (Kd.R (Kd.int .i64) 3 w38 w.heap.size (fun k_ => some k_ ≠ (.slice A350_0 (rd_L2 t340 t347).length c350_0 : Value).ownBlock ∧ some k_ ≠ (.slice Ao24 x5_4.length co24 : Value).ownBlock) v355 y354) := ⟨h2_⟩
     have n3_ : Aside0 (Kd.R (Kd.int .i64) 3 w38 w.heap.size (fun k_ => some k_ ≠ (v355 : Value).ownBlock) (.slice Ao24 x5_4.length co24) x5_4) := ⟨h3_⟩
     have n4_ : Aside0 (w38.cell? (ad350.add (t347).toNat) = some (.slice A350_0 (rd_L2 t340 t347).length c350_0)) := ⟨h4_⟩
     have n5_ : Aside0 (w38.heap[gb330]? = some (.cells #[.slice none 0 0] 30 (0, 0))) := ⟨h5_⟩
     have n6_ : Aside0 (w38.heap[gb343]? = some (.cells #[.slice (some ad350) t340.length co27] 30 (0, 0))) := ⟨h6_⟩
     have n7_ : Aside0 (IsS58 w0 w38 g s0_0 t352 t353) := ⟨h7_⟩
     have n8_ : Aside0 (KeepBut w w38 g none) := ⟨h8_⟩
     have n9_ : Aside0 (Below w0.heap.size w0 w38) := ⟨h9_⟩
     clear HO_5
     clear HO342
     clear BK330
     clear BK343
     clear HI0
     clear HK
     clear HB
     clear h0_ h1_ h2_ h3_ h4_ h5_ h6_ h7_ h8_ h9_
     have HL350_0 := n0_
     have HO342 := n1_
     have HO356 := n2_
     have HO_5 := n3_
     have HX350_0 := n4_
     have BK330 := n5_
     have BK343 := n6_
     have HI0 := n7_
     have HK := n8_
     have HB := n9_
     clear n0_ n1_ n2_ n3_ n4_ n5_ n6_ n7_ n8_ n9_
     have hHeld : w38.cell? ⟨gb343, 0, none⟩ = some (.slice (some ad350) t340.length co27) ∧ w38.cell? (ad350.add (t347).toNat) = some (.slice A350_0 (rd_L2 t340 t347).length c350_0) := hS_
     obtain ⟨Ao39, co39, eo39⟩ := Kd.R_slice HO356.out
     (first | subst eo39 | (injection eo39 with f1_ f2_ f3_; have f4_ := f1_.symm; have f5_ := f3_.symm; clear f1_ f2_ f3_; subst f4_; subst f5_))
     refine norm_ (a' := ?_) ?_ ?_
     rotate_left
     ·simp only [putAll, Act.put, List.setIfInBounds_toArray, List.set_cons_zero, List.set_cons_succ]
      rfl
     refine one_ (i := 12) (N := some 42) #[true, true, true, true, true, true, true, true, true, true, true, true, true, false, false] rfl rfl (one_of HT_.out (by kernel_rfl)) (by decide) (fun K hK => ?_)
     refine goes_ Tryz.func86 (by kernel_rfl) rfl #[.pointer (some ⟨g, 0, none⟩), .slice Ao39 y354.length co39] (by rfl) rfl rfl (by (try simp only [List.map_toArray, List.map_cons, List.map_nil]); first | done | rfl | (simp only [List.length_drop, List.length_take]; rfl)) ?_
     with_reducible refine (spec_l1Cur_among.calls g s0_0 t352 t353 _ _ y354 t357 t358 t359 w0 _ ?side1 ?side2 ?side3 ?side4 ?side5 A20.out).mono ?_
     (case side1 => repeat (first | (with_reducible first | exact HI0.out | apply IsS58.alloc | apply IsS58.drewN | apply IsS58.drew | apply IsS58.set_1 | apply IsS58.set_2 | refine IsS58.far ?_ NB0_330.out _ | refine IsS58.far ?_ NB0_343.out _) | exact HI0.out))
     (case side2 => repeat (first | (with_reducible first | exact HB.out | apply bA | apply bN | apply bD | refine below_set ?_ (IsS58.ge HI0.out) | refine below_set ?_ GE330.out | refine below_set ?_ GE343.out) | exact HB.out))
     (case side3 => repeat (first | exact (Kd.R_reads' HO356.out).2.2 | (with_reducible refine Kd.C_alloc ?_ _) | (with_reducible refine Kd.C_drewN ?_ _) | (with_reducible refine Kd.C_drew ?_)))
     (case side4 => exact (Kd.R_reads' HO356.out).2.1)
     (case side5 => exact far_slice (IsS58.own_ne HI0.out HO356.out (by decide)))
     rintro e w40 ⟨rfl, hi, hb, hk⟩
     have HS1_ := keep_cell hk (hHeld.2) (by first | (rw [add_block]; exact Kd.own_blk (IsS58.own_neS HI0.out HO342.out (by decide))) | (show (Addr.add _ _).block ≠ _; rw [add_block]; exact Kd.own_blk (IsS58.own_neS HI0.out HO342.out (by decide))) | exact Kd.own_blk (IsS58.own_neS HI0.out HO342.out (by decide)))
     refine ⟨_, rfl, ?_⟩
     have n0_ := aM (Kd.R_mono (Kd.R_keep (IsS58.apart (show IsS58 w0 _ g s0_0 t352 t353 from by repeat (first | (with_reducible first | exact HI0.out | apply IsS58.alloc | apply IsS58.drewN | apply IsS58.drew | apply IsS58.set_1 | apply IsS58.set_2 | refine IsS58.far ?_ NB0_330.out _ | refine IsS58.far ?_ NB0_343.out _) | exact HI0.out)) (rQ HO_5) (by decide)) hk (fun _ h => h.2)) (fun _ h => h.1))
     have n1_ := aM (KeepBut.blk hk (g' := gb330) (o := .cells #[.slice none 0 0] 30 (0, 0)) (qQ BK330) NB330_0.out (by simp))
     have n2_ := aM (Kd.S_mono (Kd.S_keep (IsS58.apartS (show IsS58 w0 _ g s0_0 t352 t353 from by repeat (first | (with_reducible first | exact HI0.out | apply IsS58.alloc | apply IsS58.drewN | apply IsS58.drew | apply IsS58.set_1 | apply IsS58.set_2 | refine IsS58.far ?_ NB0_330.out _ | refine IsS58.far ?_ NB0_343.out _) | exact HI0.out)) (sQ HO342) (by decide)) hk (fun _ h => h.2)) (fun _ h => h.1))
     have n3_ := aM (KeepBut.blk hk (g' := gb343) (o := .cells #[.slice (some ad350) t340.length co27] 30 (0, 0)) (qQ BK343) NB343_0.out (by simp))
     have n4_ := aM (Kd.R_mono (Kd.R_keep (IsS58.apart (show IsS58 w0 _ g s0_0 t352 t353 from by repeat (first | (with_reducible first | exact HI0.out | apply IsS58.alloc | apply IsS58.drewN | apply IsS58.drew | apply IsS58.set_1 | apply IsS58.set_2 | refine IsS58.far ?_ NB0_330.out _ | refine IsS58.far ?_ NB0_343.out _) | exact HI0.out)) (rQ HL350_0) (by decide)) hk (fun _ h => h.2)) (fun _ h => h.1))
     have n5_ := aM (keep_cell hk HX350_0.out (by first | (rw [add_block]; exact Kd.own_blk (IsS58.own_neS HI0.out HO342.out (by decide))) | (show (Addr.add _ _).block ≠ _; rw [add_block]; exact Kd.own_blk (IsS58.own_neS HI0.out HO342.out (by decide))) | exact Kd.own_blk (IsS58.own_neS HI0.out HO342.out (by decide)) | (dsimp only; exact Kd.own_blk (IsS58.own_neS HI0.out HO342.out (by decide)))))
     have n6_ := aM (Kd.R_mono (Kd.R_keep (IsS58.apart (show IsS58 w0 _ g s0_0 t352 t353 from by repeat (first | (with_reducible first | exact HI0.out | apply IsS58.alloc | apply IsS58.drewN | apply IsS58.drew | apply IsS58.set_1 | apply IsS58.set_2 | refine IsS58.far ?_ NB0_330.out _ | refine IsS58.far ?_ NB0_343.out _) | exact HI0.out)) (rQ HO356) (by decide)) hk (fun _ h => h.2)) (fun _ h => h.1))
     have n7_ := aM (KeepBut.trans (by repeat (first | (with_reducible first | exact HK.out | apply KeepBut.set_ | apply keep_drewN | apply keep_drew | apply keep_alloc | refine keep_far ?_ GW330.out _ | refine keep_far ?_ GW343.out _) | exact HK.out)) hk (.inl rfl))
     have n8_ := aM (hb)
     have n9_ := aM (hi)
     clear HO_5
     clear BK330
     clear HO342
     clear BK343
     clear HL350_0
     clear HX350_0
     clear HO356
     clear HK
     clear HB
     clear HI0
     have HO_5 := n0_
     have BK330 := n1_
     have HO342 := n2_
     have BK343 := n3_
     have HL350_0 := n4_
     have HX350_0 := n5_
     have HO356 := n6_
     have HK := n7_
     have HB := n8_
     have HI0 := n9_
     clear n0_ n1_ n2_ n3_ n4_ n5_ n6_ n7_ n8_ n9_
     (try clear hb)
     (try clear hb2)
     (try clear hk)
     (try clear hi)
     have p23 : 0 ≤ (t351 : Int) := odt
     have q23 : (t351 : Int) < (((rd_L2 t340 t347).length : Int) : Int) := odt
     obtain ⟨go23, co23, eo23, gb23, gl23, cl23, HG23⟩ := Kd.R_form HL350_0.out (by omega)
     (first | cases eo23 | (injection eo23 with ea_ en_ ec_; (first | subst ea_ | (injection ea_ with ea_; subst ea_)); subst ec_; clear en_))
     have GB23 := aM gb23
     have GG23 := aM HG23
     clear gb23 gl23 HG23
     obtain ⟨hx23_0, hf23_0⟩ := Kd.R_celln 0 HL350_0.out (t351 : Int) p23 q23
     replace p23 := eq_true p23
     replace q23 := eq_true q23
     have hq41 : (t347 : Int) < (t340.length : Int) := (by have h_ : (t347 : Int) < ((t340.length : Int) : Int) := odt; first | exact h_ | (have e_ := (Kd.S_reads' HO342.out).1; omega) | simpa only [List.length_set, List.length_set] using h_)
     obtain ⟨oki41, ce41, hcl41, hM41, hcc41, hok41, hbk41⟩ := Kd.S_borrow HO342.out [] (t347 : Int) (odt) hq41
     obtain ⟨ve41_0, rfl, ge41_0⟩ := hM41
     have hv41 := hcc41 0 _ rfl
     rw [Nat.add_zero, show ((Kd.slice 3 (Kd.int .i64))).sz = 1 from rfl, Nat.mul_one] at hv41
     replace hv41 := Option.some.inj (hv41.symm.trans HX350_0.out)
     subst hv41
     clear hcc41 hcl41
     replace ge41_0 := (show Kd.R (Kd.int .i64) 3 _ _ _ _ (rd_L2 t340 t347) from ge41_0)
     have HP41 := Kd.R_putg ge41_0 (t351 : Int) t357
     have HN0_go23 := aM (show g ≠ go23 from by have h_ := IsS58.own_ne HI0.out HL350_0.out (by decide); intro e_; exact h_ (by rw [e_]; rfl))
     rw [← Ny360.out] at HP41
     have HS41 := hbk41 HP41.2 (fun k_ e_ => by injection e_ with e_; subst e_; exact ge41_0.1 _ rfl) (x' := y360) (Kd.M_row HP41.1)
     rw [← Ny362.out] at HS41
     have HQ41 := aM HS41
     clear HP41 HS41 hbk41 hok41
     refine hK.out _ _ ⟨(blk_cell BK343.out 0).trans rfl, HS1_⟩ (fun hHeld => ?_)
     clear hK K
     refine norm_ (a' := ?_) ?_ ?_
     rotate_left
     ·show Act.put _ (some 42) _ = _
      simp only [Act.put, List.setIfInBounds_toArray, List.set_cons_zero, List.set_cons_succ, i64_w, i32_w]
      rfl
     refine pure_ (i := 13) (N := some 43) (v := ?_) (a' := ?_) #[true, true, true, true, true, true, true, true, true, true, true, true, true, true, false] rfl rfl (any_of HT_.out (by kernel_rfl)) (fun _ _ _ h => h) (Or.inl ⟨by rfl, ?_⟩) ?_ ?_
     rotate_left
     ·intro w'
      go_simp
      with_reducible rfl
     rotate_left
     ·simp only [Act.put, List.setIfInBounds_toArray, List.set_cons_zero, List.set_cons_succ, i64_w, i32_w]
      rfl
     refine last_ (i := 14) (N := none) #[true, true, true, true, true, true, true, true, true, true, true, true, true, true, true] rfl rfl (one_of HT_.out (by kernel_rfl)) (by decide) (fun K hK => ?_)
     refine skip_ (w1 := ?_) (by rfl) rfl ?_ ?_
     rotate_left
     ·go_simp
      rfl
     refine hK.out _ _ ?_
     clear hK K
     refine done_ (done_of HT_.out (by kernel_rfl)) ?_
     have n0_ : Aside0 (Kd.R (Kd.int .i64) 3 (w40.setCell ⟨go23, (t351 : Int).toNat, none⟩ (.int .i64 t357)) w.heap.size (fun k_ => some k_ ≠ (.slice Ao39 y354.length co39 : Value).ownBlock) (.slice Ao24 x5_4.length co24) x5_4) := ⟨by (with_reducible repeat first|apply rA|apply rN|apply rD); exact Kd.R_mono (Kd.R_far (p := ⟨go23, (t351 : Int).toNat, none⟩) (Kd.R_far1 HO_5.out rfl ((HL350_0.out.1 _ rfl).2.2)) (fun _ hk => hk.2) (.int .i64 t357)) (fun _ hk => hk.1)⟩
     have n1_ : Aside0 (Kd.S (Kd.slice 3 (Kd.int .i64)) 24 (w40.setCell ⟨go23, (t351 : Int).toNat, none⟩ (.int .i64 t357)) w.heap.size (fun k_ => some k_ ≠ (.slice Ao24 x5_4.length co24 : Value).ownBlock ∧ some k_ ≠ (.slice Ao39 y354.length co39 : Value).ownBlock) (.slice (some ad350) t340.length co27) y362) := ⟨by (with_reducible repeat first|apply sA|apply sN|apply sD); exact Kd.S_mono HQ41.out (fun _ hk => ⟨hk.2, hk.1⟩)⟩
     have n2_ : Aside0 (Kd.R (Kd.int .i64) 3 (w40.setCell ⟨go23, (t351 : Int).toNat, none⟩ (.int .i64 t357)) w.heap.size (fun k_ => some k_ ≠ (.slice Ao24 x5_4.length co24 : Value).ownBlock) (.slice Ao39 y354.length co39) y354) := ⟨by (with_reducible repeat first|apply rA|apply rN|apply rD); exact Kd.R_mono (Kd.R_far (p := ⟨go23, (t351 : Int).toNat, none⟩) (Kd.R_far1 HO356.out rfl ((HL350_0.out.1 _ rfl).2.1)) (fun _ hk => hk.2) (.int .i64 t357)) (fun _ hk => hk.1.2)⟩
     have n3_ : Aside0 ((w40.setCell ⟨go23, (t351 : Int).toNat, none⟩ (.int .i64 t357)).heap[gb330]? = some (.cells #[.slice none 0 0] 30 (0, 0))) := ⟨by (with_reducible repeat first|apply qN|apply qD|apply qA); refine blk_far ?_ (by have h_ := Kd.R_ne HL350_0.out BK330.out (by decide); intro e_; exact h_ (by rw [e_]; rfl)) _; (with_reducible repeat first|apply qN|apply qD|apply qA); exact BK330.out⟩
     have n4_ : Aside0 ((w40.setCell ⟨go23, (t351 : Int).toNat, none⟩ (.int .i64 t357)).heap[gb343]? = some (.cells #[.slice (some ad350) t340.length co27] 30 (0, 0))) := ⟨by (with_reducible repeat first|apply qN|apply qD|apply qA); refine blk_far ?_ (by have h_ := Kd.R_ne HL350_0.out BK343.out (by decide); intro e_; exact h_ (by rw [e_]; rfl)) _; (with_reducible repeat first|apply qN|apply qD|apply qA); exact BK343.out⟩
     have n5_ : Aside0 (IsS58 w0 (w40.setCell ⟨go23, (t351 : Int).toNat, none⟩ (.int .i64 t357)) g s0_0 t358 t359) := ⟨by repeat (first | (with_reducible first | exact HI0.out | apply IsS58.alloc | apply IsS58.drewN | apply IsS58.drew | apply IsS58.set_1 | apply IsS58.set_2 | refine IsS58.far ?_ HN0_go23.out _ | refine IsS58.far ?_ NB0_330.out _ | refine IsS58.far ?_ NB0_343.out _) | exact HI0.out)⟩
     have n6_ : Aside0 (KeepBut w (w40.setCell ⟨go23, (t351 : Int).toNat, none⟩ (.int .i64 t357)) g none) := ⟨by repeat (first | (with_reducible first | exact HK.out | apply KeepBut.set_ | apply keep_drewN | apply keep_drew | apply keep_alloc | refine keep_far ?_ GB23.out _ | refine keep_far ?_ GW330.out _ | refine keep_far ?_ GW343.out _) | exact HK.out)⟩
     have n7_ : Aside0 (Below w0.heap.size w0 (w40.setCell ⟨go23, (t351 : Int).toNat, none⟩ (.int .i64 t357))) := ⟨by repeat (first | (with_reducible first | exact HB.out | apply bA | apply bN | apply bD | refine below_set ?_ (Nat.le_trans HL.out GB23.out) | refine below_set ?_ (IsS58.ge HI0.out) | refine below_set ?_ GE330.out | refine below_set ?_ GE343.out) | exact HB.out)⟩
     (try clear HO_5)
     (try clear HO342)
     (try clear HO356)
     (try clear BK330)
     (try clear BK343)
     (try clear HI0)
     (try clear HK)
     (try clear HB)
     generalize (w40.setCell ⟨go23, (t351 : Int).toNat, none⟩ (.int .i64 t357)) = w43 at n0_ n1_ n2_ n3_ n4_ n5_ n6_ n7_ ⊢
     have HO_5 := n0_
     have HO342 := n1_
     have HO356 := n2_
     have BK330 := n3_
     have BK343 := n4_
     have HI0 := n5_
     have HK := n6_
     have HB := n7_
     clear n0_ n1_ n2_ n3_ n4_ n5_ n6_ n7_
     have hcz44_0 := c10 BK343
     have hfz44_0 := blk_frozen BK343.out 0
     have hnb45 := NB330_0.out
     have hnc45 := NB0_330.out
     have hcz46_0 := c10 BK330
     have hfz46_0 := blk_frozen BK330.out 0
     try go_wp2
     refine bodyPost_ret (results_cell_row rfl _ _ gb330 30 #[.slice (some ad350) t340.length co27] (0, 0) _ rfl (by (with_reducible repeat first|apply qN|apply qD|apply qA); refine blk_put (cs := #[.slice none 0 0]) ?_ 0 _ rfl; (with_reducible repeat first|apply qN|apply qD|apply qA); exact BK330.out) Tryz.underlying30 rfl (by kernel_rfl)) rfl ?_
     exact ⟨_, eE, Kd.Q_of_R ((Kd.S_R (by (with_reducible repeat first|apply sA|apply sN|apply sD); exact Kd.S_mono (Kd.S_far (p := ⟨gb330, 0, none⟩) (Kd.S_types HO342.out BK330.out (by decide)) (fun _ hk => hk.2) (.slice (some ad350) t340.length co27)) (fun _ hk => trivial)))), by repeat (first | (with_reducible first | exact HI0.out | apply IsS58.alloc | apply IsS58.drewN | apply IsS58.drew | apply IsS58.set_1 | apply IsS58.set_2 | refine IsS58.far ?_ NB0_330.out _ | refine IsS58.far ?_ NB0_343.out _) | exact HI0.out), by repeat (first | (with_reducible first | exact HB.out | apply bA | apply bN | apply bD | refine below_set ?_ (IsS58.ge HI0.out) | refine below_set ?_ GE330.out | refine below_set ?_ GE343.out) | exact HB.out), by repeat (first | (with_reducible first | exact HK.out | apply KeepBut.set_ | apply keep_drewN | apply keep_drew | apply keep_alloc | refine keep_far ?_ GW330.out _ | refine keep_far ?_ GW343.out _) | exact HK.out)⟩
    ·rw [if_neg c15] at H
     have c15b0 := decide_eq_false c15
     have c15b1 : decide (0 < t340.length) = false := decide_eq_false (by omega)
     clear c15
     simp only [Option.some.injEq, Prod.mk.injEq] at H
     obtain ⟨rfl, rfl, rfl⟩ := H
     obtain ⟨Ao47, co47, eo47⟩ := Kd.R_slice HO_5.out
     subst eo47
     go_wp2_with (first | ((with_reducible refine gate_callee (f := 84) rfl ?_); refine gL (some 16) Tryz.func84 #[.slice Ao47 x5_4.length co47] ?_; (with_reducible refine (spec_maOf.calls kj4 _ _ x5_4 t340 _ (cQ ((Kd.R_reads' HO_5.out).2.2)) ((Kd.R_reads' HO_5.out).2.1) A12.out).mono ?_); rintro e w48 ⟨v341, rfl, ho0, hb⟩; refine ⟨_, rfl, ?_⟩; have _ := aM (Kd.R_below (rQ HO_5) hb); have _ := aM (Kd.S_lower (Kd.S_new' ho0 (Kd.R_lt (rQ HO_5))) (keep_size (w := w) (g := g) (row := none) (by repeat (first | (with_reducible first | exact HK.out | apply KeepBut.set_ | apply keep_drewN | apply keep_drew | apply keep_alloc | refine keep_far ?_ GW330.out _) | exact HK.out)))); have _ := aM (blk_below (qQ BK330) hb); have _ := aM (IsS58.below (by repeat (first | (with_reducible first | exact HI0.out | apply IsS58.alloc | apply IsS58.drewN | apply IsS58.drew | apply IsS58.set_1 | apply IsS58.set_2 | refine IsS58.far ?_ NB0_330.out _) | exact HI0.out)) hb); have _ := aM (KeepBut.trans (by repeat (first | (with_reducible first | exact HK.out | apply KeepBut.set_ | apply keep_drewN | apply keep_drew | apply keep_alloc | refine keep_far ?_ GW330.out _) | exact HK.out)) (KeepBut.of_below hb g none) (.inl rfl)); have _ := aM (below_step (by repeat (first | (with_reducible first | exact HB.out | apply bA | apply bN | apply bD | refine below_set ?_ (IsS58.ge HI0.out) | refine below_set ?_ GE330.out) | exact HB.out)) hb); clear HO_5 BK330 HI0 HK HB; rename_i HO_5 HO342 BK330 HI0 HK HB; (try clear hb); (try clear hb2); (try clear hk); (try clear hi); (try clear ho0)) | ((with_reducible refine gate_dst (N := 6) rfl ?_); refine bE 6 30 #[.slice none 0 0] ?_; intro gb343 hg w49 hbox hb; have _ := aM (Kd.R_below (rQ HO_5) hb); have _ := aM (Kd.S_below (sQ HO342) hb); have _ := aM (blk_below (qQ BK330) hb); have _ := aM (IsS58.below (by repeat (first | (with_reducible first | exact HI0.out | apply IsS58.alloc | apply IsS58.drewN | apply IsS58.drew | apply IsS58.set_1 | apply IsS58.set_2 | refine IsS58.far ?_ NB0_330.out _) | exact HI0.out)) hb); have _ := aM (KeepBut.trans (by repeat (first | (with_reducible first | exact HK.out | apply KeepBut.set_ | apply keep_drewN | apply keep_drew | apply keep_alloc | refine keep_far ?_ GW330.out _) | exact HK.out)) (KeepBut.of_below hb g none) (.inl rfl)); have _ := aM (below_step (by repeat (first | (with_reducible first | exact HB.out | apply bA | apply bN | apply bD | refine below_set ?_ (IsS58.ge HI0.out) | refine below_set ?_ GE330.out) | exact HB.out)) hb); have _ := aM (hbox); have _ := aM ((by rw [hg]; exact (keep_size (w := w) (g := g) (row := none) (by repeat (first | (with_reducible first | exact HK.out | apply KeepBut.set_ | apply keep_drewN | apply keep_drew | apply keep_alloc | refine keep_far ?_ GW330.out _) | exact HK.out))) : w.heap.size ≤ gb343)); have _ := aM ((Nat.le_trans HW0.out (by rw [hg]; exact (keep_size (w := w) (g := g) (row := none) (by repeat (first | (with_reducible first | exact HK.out | apply KeepBut.set_ | apply keep_drewN | apply keep_drew | apply keep_alloc | refine keep_far ?_ GW330.out _) | exact HK.out))) : w.heap.size ≤ gb343) : w0.heap.size ≤ gb343)); have _ := aM ((by rw [hg]; exact Nat.ne_of_lt (blk_lt (g := gb330) (o := .cells #[.slice none 0 0] 30 (0, 0)) (qQ BK330)) : gb330 ≠ gb343)); have _ := aM ((by rw [hg]; exact Nat.ne_of_gt (blk_lt (g := gb330) (o := .cells #[.slice none 0 0] 30 (0, 0)) (qQ BK330)) : gb343 ≠ gb330)); have _ := aM ((by rw [hg]; exact Nat.ne_of_lt (IsS58.lt (show IsS58 w0 _ g s0_0 t334 t335 from by repeat (first | (with_reducible first | exact HI0.out | apply IsS58.alloc | apply IsS58.drewN | apply IsS58.drew | apply IsS58.set_1 | apply IsS58.set_2 | refine IsS58.far ?_ NB0_330.out _) | exact HI0.out))) : g ≠ gb343)); have _ := aM ((by rw [hg]; exact Nat.ne_of_gt (IsS58.lt (show IsS58 w0 _ g s0_0 t334 t335 from by repeat (first | (with_reducible first | exact HI0.out | apply IsS58.alloc | apply IsS58.drewN | apply IsS58.drew | apply IsS58.set_1 | apply IsS58.set_2 | refine IsS58.far ?_ NB0_330.out _) | exact HI0.out))) : gb343 ≠ g)); clear HO_5 HO342 BK330 HI0 HK HB; rename_i HO_5 HO342 BK330 HI0 HK HB BK343 GW343 GE343 NB330_343 NB343_330 NB0_343 NB343_0; clear hb hbox hg; obtain ⟨Ao50, co50, eo50⟩ := Kd.S_slice HO342.out; subst eo50; have hnb51 := NB343_330.out; have hnc51 := NB330_343.out; have hnb52 := NB343_0.out; have hnc52 := NB0_343.out; have hcz53_0 := c10 BK343; have hfz53_0 := blk_frozen BK343.out 0) | ((with_reducible refine gate_callee (f := 85) rfl ?_); refine gL (some 18) Tryz.func85 #[.pointer (some ⟨g, 0, none⟩), .int .i64 14] ?_; (with_reducible refine (spec_l1Cur_pick.calls g s0_0 t334 t335 14 t344 t345 t346 w0 _ ?side1 ?side2 A13.out).mono ?_); (case side1 => repeat (first | (with_reducible first | exact HI0.out | apply IsS58.alloc | apply IsS58.drewN | apply IsS58.drew | apply IsS58.set_1 | apply IsS58.set_2 | refine IsS58.far ?_ NB0_330.out _ | refine IsS58.far ?_ NB0_343.out _) | exact HI0.out)); (case side2 => repeat (first | (with_reducible first | exact HB.out | apply bA | apply bN | apply bD | refine below_set ?_ (IsS58.ge HI0.out) | refine below_set ?_ GE330.out | refine below_set ?_ GE343.out) | exact HB.out)); rintro e w54 ⟨rfl, hi, hb, hk⟩; refine ⟨_, rfl, ?_⟩; have _ := aM (Kd.R_mono (Kd.R_keep (IsS58.apart (show IsS58 w0 _ g s0_0 t334 t335 from by repeat (first | (with_reducible first | exact HI0.out | apply IsS58.alloc | apply IsS58.drewN | apply IsS58.drew | apply IsS58.set_1 | apply IsS58.set_2 | refine IsS58.far ?_ NB0_330.out _ | refine IsS58.far ?_ NB0_343.out _) | exact HI0.out)) (by (with_reducible repeat first|apply rA|apply rN|apply rD); exact (Kd.R_mono (Kd.R_far (p := ⟨gb343, 0, none⟩) (Kd.R_types HO_5.out BK343.out (by decide)) (fun _ hk => hk.2) (.slice Ao50 t340.length co50)) (fun _ h_ => h_.1))) (by decide)) hk (fun _ h => h.2)) (fun _ h => h.1)); have _ := aM (KeepBut.blk hk (g' := gb330) (o := .cells #[.slice none 0 0] 30 (0, 0)) (by (with_reducible repeat first|apply qN|apply qD|apply qA); refine blk_far ?_ NB330_343.out _; (with_reducible repeat first|apply qN|apply qD|apply qA); exact BK330.out) NB330_0.out (by simp)); have _ := aM (Kd.S_mono (Kd.S_keep (IsS58.apartS (show IsS58 w0 _ g s0_0 t334 t335 from by repeat (first | (with_reducible first | exact HI0.out | apply IsS58.alloc | apply IsS58.drewN | apply IsS58.drew | apply IsS58.set_1 | apply IsS58.set_2 | refine IsS58.far ?_ NB0_330.out _ | refine IsS58.far ?_ NB0_343.out _) | exact HI0.out)) (by (with_reducible repeat first|apply sA|apply sN|apply sD); exact (Kd.S_mono (Kd.S_far (p := ⟨gb343, 0, none⟩) (Kd.S_types HO342.out BK343.out (by decide)) (fun _ hk => hk.2) (.slice Ao50 t340.length co50)) (fun _ h_ => h_.1))) (by decide)) hk (fun _ h => h.2)) (fun _ h => h.1)); have _ := aM (KeepBut.blk hk (g' := gb343) (o := .cells #[.slice Ao50 t340.length co50] 30 (0, 0)) (by (with_reducible repeat first|apply qN|apply qD|apply qA); refine blk_put (cs := #[.slice none 0 0]) ?_ 0 _ rfl; (with_reducible repeat first|apply qN|apply qD|apply qA); exact BK343.out) NB343_0.out (by simp)); have _ := aM (KeepBut.trans (by repeat (first | (with_reducible first | exact HK.out | apply KeepBut.set_ | apply keep_drewN | apply keep_drew | apply keep_alloc | refine keep_far ?_ GW330.out _ | refine keep_far ?_ GW343.out _) | exact HK.out)) hk (.inl rfl)); have _ := aM (hb); have _ := aM (hi); clear HO_5 BK330 HO342 BK343 HK HB HI0; rename_i HO_5 BK330 HO342 BK343 HK HB HI0; (try clear hb); (try clear hb2); (try clear hk); (try clear hi); have hcz55_0 := c10 BK343; have hfz55_0 := blk_frozen BK343.out 0; have hnb56 := NB330_0.out; have hnc56 := NB0_330.out; have hcz57_0 := c10 BK330; have hfz57_0 := blk_frozen BK330.out 0))
     refine bodyPost_ret (results_cell_row rfl _ _ gb330 30 #[.slice Ao50 t340.length co50] (0, 0) _ rfl (by (with_reducible repeat first|apply qN|apply qD|apply qA); refine blk_put (cs := #[.slice none 0 0]) ?_ 0 _ rfl; (with_reducible repeat first|apply qN|apply qD|apply qA); exact BK330.out) Tryz.underlying30 rfl (by kernel_rfl)) rfl ?_
     exact ⟨_, eE, Kd.Q_of_R ((Kd.S_R (by (with_reducible repeat first|apply sA|apply sN|apply sD); exact Kd.S_mono (Kd.S_far (p := ⟨gb330, 0, none⟩) (Kd.S_types HO342.out BK330.out (by decide)) (fun _ hk => hk.2) (.slice Ao50 t340.length co50)) (fun _ hk => trivial)))), by repeat (first | (with_reducible first | exact HI0.out | apply IsS58.alloc | apply IsS58.drewN | apply IsS58.drew | apply IsS58.set_1 | apply IsS58.set_2 | refine IsS58.far ?_ NB0_330.out _ | refine IsS58.far ?_ NB0_343.out _) | exact HI0.out), by repeat (first | (with_reducible first | exact HB.out | apply bA | apply bN | apply bD | refine below_set ?_ (IsS58.ge HI0.out) | refine below_set ?_ GE330.out | refine below_set ?_ GE343.out) | exact HB.out), by repeat (first | (with_reducible first | exact HK.out | apply KeepBut.set_ | apply keep_drewN | apply keep_drew | apply keep_alloc | refine keep_far ?_ GW330.out _ | refine keep_far ?_ GW343.out _) | exact HK.out)⟩
   ·rw [if_neg c14] at H
    have c14b0 : (t344 == 0) = false := beq_eq_false_iff_ne.mpr c14
    have c14b1 : (t344 != 0) = true := bne_iff_ne.mpr c14
    by_cases c58 : t344 = 1
    ·rw [if_pos c58] at H
     have c58b0 : (t344 == 1) = true := beq_iff_eq.mpr c58
     have c58b1 : (t344 != 1) = false := bne_eq_false_iff_eq.mpr c58
     clear c58
     obtain ⟨y363, hy363⟩ : ∃ y_ : List Int, y_ = (([1] : List Int)) := ⟨_, rfl⟩
     replace H : (if t340.length < 5864062014805 then (some ((t340 ++ [y363]), t345, t346)) else (none)) = some (r1, r2, r3) := by first | (rw [hy363]; with_reducible exact H) | (have H2_ := (Option.bind_some _ _).symm.trans H; rw [hy363]; with_reducible exact H2_) | (have H2_ := (Option.bind_some _ _).symm.trans H; with_reducible exact H2_) | with_reducible exact H | (rw [hy363]; exact H) | exact H
     have Ny363 := aM hy363
     clear hy363
     replace H := iS H
     obtain ⟨c59, H⟩ := H
     have LMc59 := aM c59
     clear c59
     obtain ⟨y366, hy366⟩ : ∃ y_ : List (List Int), y_ = (t340 ++ [y363]) := ⟨_, rfl⟩
     replace H : (some (y366, t345, t346)) = some (r1, r2, r3) := by first | (rw [hy366]; with_reducible exact H) | (have H2_ := (Option.bind_some _ _).symm.trans H; rw [hy366]; with_reducible exact H2_) | (have H2_ := (Option.bind_some _ _).symm.trans H; with_reducible exact H2_) | with_reducible exact H | (rw [hy366]; exact H) | exact H
     have Ny366 := aM hy366
     clear hy366
     simp only [Option.some.injEq, Prod.mk.injEq] at H
     obtain ⟨rfl, rfl, rfl⟩ := H
     obtain ⟨Ao60, co60, eo60⟩ := Kd.R_slice HO_5.out
     subst eo60
     go_wp2_with (first | ((with_reducible refine gate_callee (f := 84) rfl ?_); refine gL (some 16) Tryz.func84 #[.slice Ao60 x5_4.length co60] ?_; (with_reducible refine (spec_maOf.calls kj4 _ _ x5_4 t340 _ (cQ ((Kd.R_reads' HO_5.out).2.2)) ((Kd.R_reads' HO_5.out).2.1) A12.out).mono ?_); rintro e w61 ⟨v341, rfl, ho0, hb⟩; refine ⟨_, rfl, ?_⟩; have _ := aM (Kd.R_below (rQ HO_5) hb); have _ := aM (Kd.S_lower (Kd.S_new' ho0 (Kd.R_lt (rQ HO_5))) (keep_size (w := w) (g := g) (row := none) (by repeat (first | (with_reducible first | exact HK.out | apply KeepBut.set_ | apply keep_drewN | apply keep_drew | apply keep_alloc | refine keep_far ?_ GW330.out _) | exact HK.out)))); have _ := aM (blk_below (qQ BK330) hb); have _ := aM (IsS58.below (by repeat (first | (with_reducible first | exact HI0.out | apply IsS58.alloc | apply IsS58.drewN | apply IsS58.drew | apply IsS58.set_1 | apply IsS58.set_2 | refine IsS58.far ?_ NB0_330.out _) | exact HI0.out)) hb); have _ := aM (KeepBut.trans (by repeat (first | (with_reducible first | exact HK.out | apply KeepBut.set_ | apply keep_drewN | apply keep_drew | apply keep_alloc | refine keep_far ?_ GW330.out _) | exact HK.out)) (KeepBut.of_below hb g none) (.inl rfl)); have _ := aM (below_step (by repeat (first | (with_reducible first | exact HB.out | apply bA | apply bN | apply bD | refine below_set ?_ (IsS58.ge HI0.out) | refine below_set ?_ GE330.out) | exact HB.out)) hb); clear HO_5 BK330 HI0 HK HB; rename_i HO_5 HO342 BK330 HI0 HK HB; (try clear hb); (try clear hb2); (try clear hk); (try clear hi); (try clear ho0)) | ((with_reducible refine gate_dst (N := 6) rfl ?_); refine bE 6 30 #[.slice none 0 0] ?_; intro gb343 hg w62 hbox hb; have _ := aM (Kd.R_below (rQ HO_5) hb); have _ := aM (Kd.S_below (sQ HO342) hb); have _ := aM (blk_below (qQ BK330) hb); have _ := aM (IsS58.below (by repeat (first | (with_reducible first | exact HI0.out | apply IsS58.alloc | apply IsS58.drewN | apply IsS58.drew | apply IsS58.set_1 | apply IsS58.set_2 | refine IsS58.far ?_ NB0_330.out _) | exact HI0.out)) hb); have _ := aM (KeepBut.trans (by repeat (first | (with_reducible first | exact HK.out | apply KeepBut.set_ | apply keep_drewN | apply keep_drew | apply keep_alloc | refine keep_far ?_ GW330.out _) | exact HK.out)) (KeepBut.of_below hb g none) (.inl rfl)); have _ := aM (below_step (by repeat (first | (with_reducible first | exact HB.out | apply bA | apply bN | apply bD | refine below_set ?_ (IsS58.ge HI0.out) | refine below_set ?_ GE330.out) | exact HB.out)) hb); have _ := aM (hbox); have _ := aM ((by rw [hg]; exact (keep_size (w := w) (g := g) (row := none) (by repeat (first | (with_reducible first | exact HK.out | apply KeepBut.set_ | apply keep_drewN | apply keep_drew | apply keep_alloc | refine keep_far ?_ GW330.out _) | exact HK.out))) : w.heap.size ≤ gb343)); have _ := aM ((Nat.le_trans HW0.out (by rw [hg]; exact (keep_size (w := w) (g := g) (row := none) (by repeat (first | (with_reducible first | exact HK.out | apply KeepBut.set_ | apply keep_drewN | apply keep_drew | apply keep_alloc | refine keep_far ?_ GW330.out _) | exact HK.out))) : w.heap.size ≤ gb343) : w0.heap.size ≤ gb343)); have _ := aM ((by rw [hg]; exact Nat.ne_of_lt (blk_lt (g := gb330) (o := .cells #[.slice none 0 0] 30 (0, 0)) (qQ BK330)) : gb330 ≠ gb343)); have _ := aM ((by rw [hg]; exact Nat.ne_of_gt (blk_lt (g := gb330) (o := .cells #[.slice none 0 0] 30 (0, 0)) (qQ BK330)) : gb343 ≠ gb330)); have _ := aM ((by rw [hg]; exact Nat.ne_of_lt (IsS58.lt (show IsS58 w0 _ g s0_0 t334 t335 from by repeat (first | (with_reducible first | exact HI0.out | apply IsS58.alloc | apply IsS58.drewN | apply IsS58.drew | apply IsS58.set_1 | apply IsS58.set_2 | refine IsS58.far ?_ NB0_330.out _) | exact HI0.out))) : g ≠ gb343)); have _ := aM ((by rw [hg]; exact Nat.ne_of_gt (IsS58.lt (show IsS58 w0 _ g s0_0 t334 t335 from by repeat (first | (with_reducible first | exact HI0.out | apply IsS58.alloc | apply IsS58.drewN | apply IsS58.drew | apply IsS58.set_1 | apply IsS58.set_2 | refine IsS58.far ?_ NB0_330.out _) | exact HI0.out))) : gb343 ≠ g)); clear HO_5 HO342 BK330 HI0 HK HB; rename_i HO_5 HO342 BK330 HI0 HK HB BK343 GW343 GE343 NB330_343 NB343_330 NB0_343 NB343_0; clear hb hbox hg; obtain ⟨Ao63, co63, eo63⟩ := Kd.S_slice HO342.out; subst eo63; have hnb64 := NB343_330.out; have hnc64 := NB330_343.out; have hnb65 := NB343_0.out; have hnc65 := NB0_343.out; have hcz66_0 := c10 BK343; have hfz66_0 := blk_frozen BK343.out 0) | ((with_reducible refine gate_callee (f := 85) rfl ?_); refine gL (some 18) Tryz.func85 #[.pointer (some ⟨g, 0, none⟩), .int .i64 14] ?_; (with_reducible refine (spec_l1Cur_pick.calls g s0_0 t334 t335 14 t344 t345 t346 w0 _ ?side1 ?side2 A13.out).mono ?_); (case side1 => repeat (first | (with_reducible first | exact HI0.out | apply IsS58.alloc | apply IsS58.drewN | apply IsS58.drew | apply IsS58.set_1 | apply IsS58.set_2 | refine IsS58.far ?_ NB0_330.out _ | refine IsS58.far ?_ NB0_343.out _) | exact HI0.out)); (case side2 => repeat (first | (with_reducible first | exact HB.out | apply bA | apply bN | apply bD | refine below_set ?_ (IsS58.ge HI0.out) | refine below_set ?_ GE330.out | refine below_set ?_ GE343.out) | exact HB.out)); rintro e w67 ⟨rfl, hi, hb, hk⟩; refine ⟨_, rfl, ?_⟩; have _ := aM (Kd.R_mono (Kd.R_keep (IsS58.apart (show IsS58 w0 _ g s0_0 t334 t335 from by repeat (first | (with_reducible first | exact HI0.out | apply IsS58.alloc | apply IsS58.drewN | apply IsS58.drew | apply IsS58.set_1 | apply IsS58.set_2 | refine IsS58.far ?_ NB0_330.out _ | refine IsS58.far ?_ NB0_343.out _) | exact HI0.out)) (by (with_reducible repeat first|apply rA|apply rN|apply rD); exact (Kd.R_mono (Kd.R_far (p := ⟨gb343, 0, none⟩) (Kd.R_types HO_5.out BK343.out (by decide)) (fun _ hk => hk.2) (.slice Ao63 t340.length co63)) (fun _ h_ => h_.1))) (by decide)) hk (fun _ h => h.2)) (fun _ h => h.1)); have _ := aM (KeepBut.blk hk (g' := gb330) (o := .cells #[.slice none 0 0] 30 (0, 0)) (by (with_reducible repeat first|apply qN|apply qD|apply qA); refine blk_far ?_ NB330_343.out _; (with_reducible repeat first|apply qN|apply qD|apply qA); exact BK330.out) NB330_0.out (by simp)); have _ := aM (Kd.S_mono (Kd.S_keep (IsS58.apartS (show IsS58 w0 _ g s0_0 t334 t335 from by repeat (first | (with_reducible first | exact HI0.out | apply IsS58.alloc | apply IsS58.drewN | apply IsS58.drew | apply IsS58.set_1 | apply IsS58.set_2 | refine IsS58.far ?_ NB0_330.out _ | refine IsS58.far ?_ NB0_343.out _) | exact HI0.out)) (by (with_reducible repeat first|apply sA|apply sN|apply sD); exact (Kd.S_mono (Kd.S_far (p := ⟨gb343, 0, none⟩) (Kd.S_types HO342.out BK343.out (by decide)) (fun _ hk => hk.2) (.slice Ao63 t340.length co63)) (fun _ h_ => h_.1))) (by decide)) hk (fun _ h => h.2)) (fun _ h => h.1)); have _ := aM (KeepBut.blk hk (g' := gb343) (o := .cells #[.slice Ao63 t340.length co63] 30 (0, 0)) (by (with_reducible repeat first|apply qN|apply qD|apply qA); refine blk_put (cs := #[.slice none 0 0]) ?_ 0 _ rfl; (with_reducible repeat first|apply qN|apply qD|apply qA); exact BK343.out) NB343_0.out (by simp)); have _ := aM (KeepBut.trans (by repeat (first | (with_reducible first | exact HK.out | apply KeepBut.set_ | apply keep_drewN | apply keep_drew | apply keep_alloc | refine keep_far ?_ GW330.out _ | refine keep_far ?_ GW343.out _) | exact HK.out)) hk (.inl rfl)); have _ := aM (hb); have _ := aM (hi); clear HO_5 BK330 HO342 BK343 HK HB HI0; rename_i HO_5 BK330 HO342 BK343 HK HB HI0; (try clear hb); (try clear hb2); (try clear hk); (try clear hi); have hcz68_0 := c10 BK343; have hfz68_0 := blk_frozen BK343.out 0) | ((with_reducible refine gate_dst (N := 48) rfl ?_); refine Kd.R_lit (Kd.int .i64) _ 3 ?hg (N := 48) ?hd (xs := ([1] : List Int)) (inner := [.int .i64 1]) (ok := fun _ => True) (okp := fun _ => True) ?hr ?hp (fun _ hk => hk) trivial (Below.refl _ _) (Nat.le_refl _) (by simp) ?_; (case hd => rfl); (case hg => rfl); (case hr => first | (go_simp; done) | (go_simp; rfl)); (case hp => exact (Reps.one (show Kd.M (Kd.int .i64) _ _ _ 1 [.int .i64 1] from rfl) (Reps.none _ _))); intro v364 w69 ho70 hb hg_ hnew_; clear hg_ hnew_; (first | rw [← Ny363.out] at ho70 | (simp only [Int.reduceToNat] at ho70; rw [← Ny363.out] at ho70)); have _ := aM (Kd.R_elder' (rQ HO_5) (Kd.R_base ho70) hb); have _ := aM (Kd.S_elder' (sQ HO342) (Kd.R_base ho70) hb); have _ := aM (Kd.R_lower (Kd.R_new' ho70 (Kd.R_lt (rQ HO_5))) (keep_size (w := w) (g := g) (row := none) (by repeat (first | (with_reducible first | exact HK.out | apply KeepBut.set_ | apply keep_drewN | apply keep_drew | apply keep_alloc | refine keep_far ?_ GW330.out _ | refine keep_far ?_ GW343.out _) | exact HK.out)))); have _ := aM (blk_below (qQ BK330) hb); have _ := aM (IsS58.below (by repeat (first | (with_reducible first | exact HI0.out | apply IsS58.alloc | apply IsS58.drewN | apply IsS58.drew | apply IsS58.set_1 | apply IsS58.set_2 | refine IsS58.far ?_ NB0_330.out _ | refine IsS58.far ?_ NB0_343.out _) | exact HI0.out)) hb); have _ := aM (blk_below (qQ BK343) hb); have _ := aM (KeepBut.trans (by repeat (first | (with_reducible first | exact HK.out | apply KeepBut.set_ | apply keep_drewN | apply keep_drew | apply keep_alloc | refine keep_far ?_ GW330.out _ | refine keep_far ?_ GW343.out _) | exact HK.out)) (KeepBut.of_below hb g none) (.inl rfl)); have _ := aM (below_step (by repeat (first | (with_reducible first | exact HB.out | apply bA | apply bN | apply bD | refine below_set ?_ (IsS58.ge HI0.out) | refine below_set ?_ GE330.out | refine below_set ?_ GE343.out) | exact HB.out)) hb); clear HO_5 HO342 BK330 HI0 BK343 HK HB; rename_i HO_5 HO342 HO365 BK330 HI0 BK343 HK HB; clear hb ho70; obtain ⟨Ao72, co72, eo72⟩ := Kd.R_slice HO365.out; subst eo72) | ((with_reducible refine gate_builtin (b := .append) (xs := #[.tmp 47, .tmp 49]) rfl ?_); at_builtin; refine Kd.S_append (Kd.slice 3 (Kd.int .i64)) w.heap.size rfl (.tmp 47) (.tmp 49) 28 24 (.slice none 0 0) 24 rfl Tryz.underlying28 info24 rfl (by decide) (by omega) (.slice Ao63 t340.length co63) t340 y363 [.slice Ao72 y363.length co72] (fun k_ => some k_ ≠ (.slice Ao60 x5_4.length co60 : Value).ownBlock) (fun k_ => some k_ = (.slice Ao72 y363.length co72 : Value).ownBlock) rfl rfl ?aP (fun k_ hk_ => ((Kd.R_mono (ok' := fun k_ => ((fun k_ => some k_ ≠ (.slice Ao60 x5_4.length co60 : Value).ownBlock)) k_ ∧ some k_ ≠ (.slice Ao63 t340.length co63 : Value).ownBlock) (Kd.R_apart' (HO365.out) (Kd.S_typed HO342.out) (by decide)) (fun k_ hk => ⟨hk.1.2, hk.2⟩))).1 k_ hk_.symm) ?aF ?aO (Below.refl _ _) ?aS ?aL ?_; (case aP => exact Kd.M_row (Kd.R_mono (Kd.R_tight rfl (Kd.R_mono (ok' := fun k_ => ((fun k_ => some k_ ≠ (.slice Ao60 x5_4.length co60 : Value).ownBlock)) k_ ∧ some k_ ≠ (.slice Ao63 t340.length co63 : Value).ownBlock) (Kd.R_apart' (HO365.out) (Kd.S_typed HO342.out) (by decide)) (fun k_ hk => ⟨hk.1.2, hk.2⟩))) (fun _ h_ => h_))); (case aF => exact (fun k_ hk => Kd.fresh' (Kd.R_lt (rQ HO_5)) k_ hk)); (case aO => exact (by (with_reducible repeat first|apply sA|apply sN|apply sD); exact Kd.S_mono HO342.out (fun k_ hk => ⟨hk.1.2, fun e_ => hk.2 e_⟩))); (case aS => exact (keep_size (w := w) (g := g) (row := none) (by repeat (first | (with_reducible first | exact HK.out | apply KeepBut.set_ | apply keep_drewN | apply keep_drew | apply keep_alloc | refine keep_far ?_ GW330.out _ | refine keep_far ?_ GW343.out _) | exact HK.out)))); (case aL => have := LMc59.out; omega); intro v367 w71 ho hb hg hat; rw [← Ny366.out] at ho; have _ := aM (Kd.R_over' (rQ HO_5) (Kd.S_typed (sQ HO342)) (by decide) hg); have _ := aM (blk_grown (g := gb330) (o := .cells #[.slice none 0 0] 30 (0, 0)) (qQ BK330) hg (Kd.S_ne HO342.out BK330.out (by decide))); have _ := aM (IsS58.grown (by repeat (first | (with_reducible first | exact HI0.out | apply IsS58.alloc | apply IsS58.drewN | apply IsS58.drew | apply IsS58.set_1 | apply IsS58.set_2 | refine IsS58.far ?_ NB0_330.out _ | refine IsS58.far ?_ NB0_343.out _) | exact HI0.out)) hg (IsS58.own_neS HI0.out HO342.out (by decide))); have _ := aM (blk_grown (g := gb343) (o := .cells #[.slice Ao63 t340.length co63] 30 (0, 0)) (qQ BK343) hg (Kd.S_ne HO342.out BK343.out (by decide))); have _ := aM (below_weaken (by repeat (first | (with_reducible first | exact HB.out | apply bA | apply bN | apply bD | refine below_set ?_ (IsS58.ge HI0.out) | refine below_set ?_ GE330.out | refine below_set ?_ GE343.out) | exact HB.out)) HL.out hb); have _ := aM (KeepBut.trans (by repeat (first | (with_reducible first | exact HK.out | apply KeepBut.set_ | apply keep_drewN | apply keep_drew | apply keep_alloc | refine keep_far ?_ GW330.out _ | refine keep_far ?_ GW343.out _) | exact HK.out)) (KeepBut.of_grown hg g) (Kd.S_base2 HO342.out)); have _ := aM (ho); clear HO_5 BK330 HI0 BK343 HB HK HO342 HO365; rename_i HO_5 BK330 HI0 BK343 HB HK HO368; clear ho hb hg hat; obtain ⟨Ao73, co73, eo73⟩ := Kd.S_slice HO368.out; subst eo73; have hcz74_0 := c10 BK343; have hfz74_0 := blk_frozen BK343.out 0; have hnb75 := NB330_0.out; have hnc75 := NB0_330.out; have hcz76_0 := c10 BK330; have hfz76_0 := blk_frozen BK330.out 0))
     refine bodyPost_ret (results_cell_row rfl _ _ gb330 30 #[.slice Ao73 y366.length co73] (0, 0) _ rfl (by (with_reducible repeat first|apply qN|apply qD|apply qA); refine blk_put (cs := #[.slice none 0 0]) ?_ 0 _ rfl; (with_reducible repeat first|apply qN|apply qD|apply qA); refine blk_far ?_ NB330_343.out _; (with_reducible repeat first|apply qN|apply qD|apply qA); exact BK330.out) Tryz.underlying30 rfl (by kernel_rfl)) rfl ?_
     exact ⟨_, eE, Kd.Q_of_R ((Kd.S_R (by (with_reducible repeat first|apply sA|apply sN|apply sD); exact Kd.S_mono (Kd.S_far (p := ⟨gb330, 0, none⟩) (Kd.S_far (p := ⟨gb343, 0, none⟩) (Kd.S_types (Kd.S_types HO368.out BK343.out (by decide)) BK330.out (by decide)) (fun _ hk => hk.1.2) (.slice Ao73 y366.length co73)) (fun _ hk => hk.2) (.slice Ao73 y366.length co73)) (fun _ hk => trivial)))), by repeat (first | (with_reducible first | exact HI0.out | apply IsS58.alloc | apply IsS58.drewN | apply IsS58.drew | apply IsS58.set_1 | apply IsS58.set_2 | refine IsS58.far ?_ NB0_330.out _ | refine IsS58.far ?_ NB0_343.out _) | exact HI0.out), by repeat (first | (with_reducible first | exact HB.out | apply bA | apply bN | apply bD | refine below_set ?_ (IsS58.ge HI0.out) | refine below_set ?_ GE330.out | refine below_set ?_ GE343.out) | exact HB.out), by repeat (first | (with_reducible first | exact HK.out | apply KeepBut.set_ | apply keep_drewN | apply keep_drew | apply keep_alloc | refine keep_far ?_ GW330.out _ | refine keep_far ?_ GW343.out _) | exact HK.out)⟩
    ·rw [if_neg c58] at H
     have c58b0 : (t344 == 1) = false := beq_eq_false_iff_ne.mpr c58
     have c58b1 : (t344 != 1) = true := bne_iff_ne.mpr c58
     by_cases c77 : t344 = 2
     ·rw [if_pos c77] at H
      have c77b0 : (t344 == 2) = true := beq_iff_eq.mpr c77
      have c77b1 : (t344 != 2) = false := bne_eq_false_iff_eq.mpr c77
      clear c77
      by_cases c78 : (t340.length : Int) > 1
      ·rw [if_pos c78] at H
       have c78b0 := decide_eq_true c78
       have c78b1 : decide (1 < t340.length) = true := decide_eq_true (by omega)
       clear c78
       replace H := iS H
       obtain ⟨c79, H⟩ := H
       have c79b0 := eq_true c79
       have c79b1 := decide_eq_true c79
       clear c79
       obtain ⟨y369, hy369⟩ : ∃ y_ : List (List Int), y_ = (t340.drop (1 : Int).toNat) := ⟨_, rfl⟩
       replace H : (some (y369, t345, t346)) = some (r1, r2, r3) := by first | (rw [hy369]; with_reducible exact H) | (have H2_ := (Option.bind_some _ _).symm.trans H; rw [hy369]; with_reducible exact H2_) | (have H2_ := (Option.bind_some _ _).symm.trans H; with_reducible exact H2_) | with_reducible exact H | (rw [hy369]; exact H) | exact H
       have Ny369 := aM hy369
       clear hy369
       simp only [Option.some.injEq, Prod.mk.injEq] at H
       obtain ⟨rfl, rfl, rfl⟩ := H
       obtain ⟨Ao80, co80, eo80⟩ := Kd.R_slice HO_5.out
       subst eo80
       go_wp2_with (first | ((with_reducible refine gate_callee (f := 84) rfl ?_); refine gL (some 16) Tryz.func84 #[.slice Ao80 x5_4.length co80] ?_; (with_reducible refine (spec_maOf.calls kj4 _ _ x5_4 t340 _ (cQ ((Kd.R_reads' HO_5.out).2.2)) ((Kd.R_reads' HO_5.out).2.1) A12.out).mono ?_); rintro e w81 ⟨v341, rfl, ho0, hb⟩; refine ⟨_, rfl, ?_⟩; have _ := aM (Kd.R_below (rQ HO_5) hb); have _ := aM (Kd.S_lower (Kd.S_new' ho0 (Kd.R_lt (rQ HO_5))) (keep_size (w := w) (g := g) (row := none) (by repeat (first | (with_reducible first | exact HK.out | apply KeepBut.set_ | apply keep_drewN | apply keep_drew | apply keep_alloc | refine keep_far ?_ GW330.out _) | exact HK.out)))); have _ := aM (blk_below (qQ BK330) hb); have _ := aM (IsS58.below (by repeat (first | (with_reducible first | exact HI0.out | apply IsS58.alloc | apply IsS58.drewN | apply IsS58.drew | apply IsS58.set_1 | apply IsS58.set_2 | refine IsS58.far ?_ NB0_330.out _) | exact HI0.out)) hb); have _ := aM (KeepBut.trans (by repeat (first | (with_reducible first | exact HK.out | apply KeepBut.set_ | apply keep_drewN | apply keep_drew | apply keep_alloc | refine keep_far ?_ GW330.out _) | exact HK.out)) (KeepBut.of_below hb g none) (.inl rfl)); have _ := aM (below_step (by repeat (first | (with_reducible first | exact HB.out | apply bA | apply bN | apply bD | refine below_set ?_ (IsS58.ge HI0.out) | refine below_set ?_ GE330.out) | exact HB.out)) hb); clear HO_5 BK330 HI0 HK HB; rename_i HO_5 HO342 BK330 HI0 HK HB; (try clear hb); (try clear hb2); (try clear hk); (try clear hi); (try clear ho0)) | ((with_reducible refine gate_dst (N := 6) rfl ?_); refine bE 6 30 #[.slice none 0 0] ?_; intro gb343 hg w82 hbox hb; have _ := aM (Kd.R_below (rQ HO_5) hb); have _ := aM (Kd.S_below (sQ HO342) hb); have _ := aM (blk_below (qQ BK330) hb); have _ := aM (IsS58.below (by repeat (first | (with_reducible first | exact HI0.out | apply IsS58.alloc | apply IsS58.drewN | apply IsS58.drew | apply IsS58.set_1 | apply IsS58.set_2 | refine IsS58.far ?_ NB0_330.out _) | exact HI0.out)) hb); have _ := aM (KeepBut.trans (by repeat (first | (with_reducible first | exact HK.out | apply KeepBut.set_ | apply keep_drewN | apply keep_drew | apply keep_alloc | refine keep_far ?_ GW330.out _) | exact HK.out)) (KeepBut.of_below hb g none) (.inl rfl)); have _ := aM (below_step (by repeat (first | (with_reducible first | exact HB.out | apply bA | apply bN | apply bD | refine below_set ?_ (IsS58.ge HI0.out) | refine below_set ?_ GE330.out) | exact HB.out)) hb); have _ := aM (hbox); have _ := aM ((by rw [hg]; exact (keep_size (w := w) (g := g) (row := none) (by repeat (first | (with_reducible first | exact HK.out | apply KeepBut.set_ | apply keep_drewN | apply keep_drew | apply keep_alloc | refine keep_far ?_ GW330.out _) | exact HK.out))) : w.heap.size ≤ gb343)); have _ := aM ((Nat.le_trans HW0.out (by rw [hg]; exact (keep_size (w := w) (g := g) (row := none) (by repeat (first | (with_reducible first | exact HK.out | apply KeepBut.set_ | apply keep_drewN | apply keep_drew | apply keep_alloc | refine keep_far ?_ GW330.out _) | exact HK.out))) : w.heap.size ≤ gb343) : w0.heap.size ≤ gb343)); have _ := aM ((by rw [hg]; exact Nat.ne_of_lt (blk_lt (g := gb330) (o := .cells #[.slice none 0 0] 30 (0, 0)) (qQ BK330)) : gb330 ≠ gb343)); have _ := aM ((by rw [hg]; exact Nat.ne_of_gt (blk_lt (g := gb330) (o := .cells #[.slice none 0 0] 30 (0, 0)) (qQ BK330)) : gb343 ≠ gb330)); have _ := aM ((by rw [hg]; exact Nat.ne_of_lt (IsS58.lt (show IsS58 w0 _ g s0_0 t334 t335 from by repeat (first | (with_reducible first | exact HI0.out | apply IsS58.alloc | apply IsS58.drewN | apply IsS58.drew | apply IsS58.set_1 | apply IsS58.set_2 | refine IsS58.far ?_ NB0_330.out _) | exact HI0.out))) : g ≠ gb343)); have _ := aM ((by rw [hg]; exact Nat.ne_of_gt (IsS58.lt (show IsS58 w0 _ g s0_0 t334 t335 from by repeat (first | (with_reducible first | exact HI0.out | apply IsS58.alloc | apply IsS58.drewN | apply IsS58.drew | apply IsS58.set_1 | apply IsS58.set_2 | refine IsS58.far ?_ NB0_330.out _) | exact HI0.out))) : gb343 ≠ g)); clear HO_5 HO342 BK330 HI0 HK HB; rename_i HO_5 HO342 BK330 HI0 HK HB BK343 GW343 GE343 NB330_343 NB343_330 NB0_343 NB343_0; clear hb hbox hg; obtain ⟨Ao83, co83, eo83⟩ := Kd.S_slice HO342.out; subst eo83; have hnb84 := NB343_330.out; have hnc84 := NB330_343.out; have hnb85 := NB343_0.out; have hnc85 := NB0_343.out; have hcz86_0 := c10 BK343; have hfz86_0 := blk_frozen BK343.out 0) | ((with_reducible refine gate_callee (f := 85) rfl ?_); refine gL (some 18) Tryz.func85 #[.pointer (some ⟨g, 0, none⟩), .int .i64 14] ?_; (with_reducible refine (spec_l1Cur_pick.calls g s0_0 t334 t335 14 t344 t345 t346 w0 _ ?side1 ?side2 A13.out).mono ?_); (case side1 => repeat (first | (with_reducible first | exact HI0.out | apply IsS58.alloc | apply IsS58.drewN | apply IsS58.drew | apply IsS58.set_1 | apply IsS58.set_2 | refine IsS58.far ?_ NB0_330.out _ | refine IsS58.far ?_ NB0_343.out _) | exact HI0.out)); (case side2 => repeat (first | (with_reducible first | exact HB.out | apply bA | apply bN | apply bD | refine below_set ?_ (IsS58.ge HI0.out) | refine below_set ?_ GE330.out | refine below_set ?_ GE343.out) | exact HB.out)); rintro e w87 ⟨rfl, hi, hb, hk⟩; refine ⟨_, rfl, ?_⟩; have _ := aM (Kd.R_mono (Kd.R_keep (IsS58.apart (show IsS58 w0 _ g s0_0 t334 t335 from by repeat (first | (with_reducible first | exact HI0.out | apply IsS58.alloc | apply IsS58.drewN | apply IsS58.drew | apply IsS58.set_1 | apply IsS58.set_2 | refine IsS58.far ?_ NB0_330.out _ | refine IsS58.far ?_ NB0_343.out _) | exact HI0.out)) (by (with_reducible repeat first|apply rA|apply rN|apply rD); exact (Kd.R_mono (Kd.R_far (p := ⟨gb343, 0, none⟩) (Kd.R_types HO_5.out BK343.out (by decide)) (fun _ hk => hk.2) (.slice Ao83 t340.length co83)) (fun _ h_ => h_.1))) (by decide)) hk (fun _ h => h.2)) (fun _ h => h.1)); have _ := aM (KeepBut.blk hk (g' := gb330) (o := .cells #[.slice none 0 0] 30 (0, 0)) (by (with_reducible repeat first|apply qN|apply qD|apply qA); refine blk_far ?_ NB330_343.out _; (with_reducible repeat first|apply qN|apply qD|apply qA); exact BK330.out) NB330_0.out (by simp)); have _ := aM (Kd.S_mono (Kd.S_keep (IsS58.apartS (show IsS58 w0 _ g s0_0 t334 t335 from by repeat (first | (with_reducible first | exact HI0.out | apply IsS58.alloc | apply IsS58.drewN | apply IsS58.drew | apply IsS58.set_1 | apply IsS58.set_2 | refine IsS58.far ?_ NB0_330.out _ | refine IsS58.far ?_ NB0_343.out _) | exact HI0.out)) (by (with_reducible repeat first|apply sA|apply sN|apply sD); exact (Kd.S_mono (Kd.S_far (p := ⟨gb343, 0, none⟩) (Kd.S_types HO342.out BK343.out (by decide)) (fun _ hk => hk.2) (.slice Ao83 t340.length co83)) (fun _ h_ => h_.1))) (by decide)) hk (fun _ h => h.2)) (fun _ h => h.1)); have _ := aM (KeepBut.blk hk (g' := gb343) (o := .cells #[.slice Ao83 t340.length co83] 30 (0, 0)) (by (with_reducible repeat first|apply qN|apply qD|apply qA); refine blk_put (cs := #[.slice none 0 0]) ?_ 0 _ rfl; (with_reducible repeat first|apply qN|apply qD|apply qA); exact BK343.out) NB343_0.out (by simp)); have _ := aM (KeepBut.trans (by repeat (first | (with_reducible first | exact HK.out | apply KeepBut.set_ | apply keep_drewN | apply keep_drew | apply keep_alloc | refine keep_far ?_ GW330.out _ | refine keep_far ?_ GW343.out _) | exact HK.out)) hk (.inl rfl)); have _ := aM (hb); have _ := aM (hi); clear HO_5 BK330 HO342 BK343 HK HB HI0; rename_i HO_5 BK330 HO342 BK343 HK HB HI0; (try clear hb); (try clear hb2); (try clear hk); (try clear hi); have hcz88_0 := c10 BK343; have hfz88_0 := blk_frozen BK343.out 0; have n_ := aM (Kd.S_mono (ok' := (fun k_ => some k_ ≠ (.slice Ao80 x5_4.length co80 : Value).ownBlock)) HO342.out (fun k_ hk => hk.2)); clear HO342; have HO342 := n_; clear n_; have q89 : (1 : Int) ≤ ((t340.length : Int) : Int) := odt; obtain ⟨i089, hi089, _, hsz89, _⟩ := info_parts info24; have hcut89 := cut_from (P := Tryz.prog) 28 24 .i64 Tryz.underlying28 hi089 1 hsz89 Ao83 t340.length co83 1 (by omega) q89; have hr89 := Kd.Q_drop (k := (1 : Int).toNat) (Kd.Q_of_R (Kd.S_R HO342.out)) (by omega); obtain ⟨A89, hA89⟩ : ∃ A1, A1 = (if co83 = (1 : Int).toNat then Ao83 else (Ao83 : Option Addr).map (·.add ((1 : Int).toNat * 1))) := ⟨_, rfl⟩; obtain ⟨c89, hc89⟩ : ∃ c1, c1 = co83 - (1 : Int).toNat := ⟨_, rfl⟩; have hy89 : y369.length = t340.length - (1 : Int).toNat := (by rw [Ny369.out, List.length_drop]); rw [← Ny369.out] at hr89; rw [← hy89, ← hA89, ← hc89] at hcut89; replace hr89 : Kd.Q (Kd.slice 3 (Kd.int .i64)) 24 w87 w.heap.size (fun k_ => some k_ ≠ (.slice Ao80 x5_4.length co80 : Value).ownBlock) (.slice A89 y369.length c89) y369 := (by rw [hA89, hc89, hy89]; exact hr89); have HE89 : Aside0 ((Value.slice A89 y369.length c89).ownBlock = (.slice Ao83 t340.length co83 : Value).ownBlock) := ⟨by rw [hA89]; split <;> (cases (Ao83 : Option Addr) <;> rfl)⟩; clear hy89 hi089 hsz89 HO342 hA89 hc89; have HO371 := aM hr89; clear hr89; replace q89 := eq_true q89; have hnb90 := NB330_0.out; have hnc90 := NB0_330.out; have hcz91_0 := c10 BK330; have hfz91_0 := blk_frozen BK330.out 0))
       refine bodyPost_ret (results_cell_row rfl _ _ gb330 30 #[.slice A89 y369.length c89] (0, 0) _ rfl (by (with_reducible repeat first|apply qN|apply qD|apply qA); refine blk_put (cs := #[.slice none 0 0]) ?_ 0 _ rfl; (with_reducible repeat first|apply qN|apply qD|apply qA); refine blk_far ?_ NB330_343.out _; (with_reducible repeat first|apply qN|apply qD|apply qA); exact BK330.out) Tryz.underlying30 rfl (by kernel_rfl)) rfl ?_
       exact ⟨_, eE, by (with_reducible repeat first|apply kA|apply kN|apply kD); exact Kd.Q_mono (Kd.Q_far (p := ⟨gb330, 0, none⟩) (Kd.Q_far (p := ⟨gb343, 0, none⟩) (Kd.Q_types (Kd.Q_types HO371.out BK343.out (by decide)) BK330.out (by decide)) (fun _ hk => hk.1.2) (.slice A89 y369.length c89)) (fun _ hk => hk.2) (.slice A89 y369.length c89)) (fun _ hk => trivial), by repeat (first | (with_reducible first | exact HI0.out | apply IsS58.alloc | apply IsS58.drewN | apply IsS58.drew | apply IsS58.set_1 | apply IsS58.set_2 | refine IsS58.far ?_ NB0_330.out _ | refine IsS58.far ?_ NB0_343.out _) | exact HI0.out), by repeat (first | (with_reducible first | exact HB.out | apply bA | apply bN | apply bD | refine below_set ?_ (IsS58.ge HI0.out) | refine below_set ?_ GE330.out | refine below_set ?_ GE343.out) | exact HB.out), by repeat (first | (with_reducible first | exact HK.out | apply KeepBut.set_ | apply keep_drewN | apply keep_drew | apply keep_alloc | refine keep_far ?_ GW330.out _ | refine keep_far ?_ GW343.out _) | exact HK.out)⟩
      ·rw [if_neg c78] at H
       have c78b0 := decide_eq_false c78
       have c78b1 : decide (1 < t340.length) = false := decide_eq_false (by omega)
       clear c78
       simp only [Option.some.injEq, Prod.mk.injEq] at H
       obtain ⟨rfl, rfl, rfl⟩ := H
       obtain ⟨Ao92, co92, eo92⟩ := Kd.R_slice HO_5.out
       subst eo92
       go_wp2_with (first | ((with_reducible refine gate_callee (f := 84) rfl ?_); refine gL (some 16) Tryz.func84 #[.slice Ao92 x5_4.length co92] ?_; (with_reducible refine (spec_maOf.calls kj4 _ _ x5_4 t340 _ (cQ ((Kd.R_reads' HO_5.out).2.2)) ((Kd.R_reads' HO_5.out).2.1) A12.out).mono ?_); rintro e w93 ⟨v341, rfl, ho0, hb⟩; refine ⟨_, rfl, ?_⟩; have _ := aM (Kd.R_below (rQ HO_5) hb); have _ := aM (Kd.S_lower (Kd.S_new' ho0 (Kd.R_lt (rQ HO_5))) (keep_size (w := w) (g := g) (row := none) (by repeat (first | (with_reducible first | exact HK.out | apply KeepBut.set_ | apply keep_drewN | apply keep_drew | apply keep_alloc | refine keep_far ?_ GW330.out _) | exact HK.out)))); have _ := aM (blk_below (qQ BK330) hb); have _ := aM (IsS58.below (by repeat (first | (with_reducible first | exact HI0.out | apply IsS58.alloc | apply IsS58.drewN | apply IsS58.drew | apply IsS58.set_1 | apply IsS58.set_2 | refine IsS58.far ?_ NB0_330.out _) | exact HI0.out)) hb); have _ := aM (KeepBut.trans (by repeat (first | (with_reducible first | exact HK.out | apply KeepBut.set_ | apply keep_drewN | apply keep_drew | apply keep_alloc | refine keep_far ?_ GW330.out _) | exact HK.out)) (KeepBut.of_below hb g none) (.inl rfl)); have _ := aM (below_step (by repeat (first | (with_reducible first | exact HB.out | apply bA | apply bN | apply bD | refine below_set ?_ (IsS58.ge HI0.out) | refine below_set ?_ GE330.out) | exact HB.out)) hb); clear HO_5 BK330 HI0 HK HB; rename_i HO_5 HO342 BK330 HI0 HK HB; (try clear hb); (try clear hb2); (try clear hk); (try clear hi); (try clear ho0)) | ((with_reducible refine gate_dst (N := 6) rfl ?_); refine bE 6 30 #[.slice none 0 0] ?_; intro gb343 hg w94 hbox hb; have _ := aM (Kd.R_below (rQ HO_5) hb); have _ := aM (Kd.S_below (sQ HO342) hb); have _ := aM (blk_below (qQ BK330) hb); have _ := aM (IsS58.below (by repeat (first | (with_reducible first | exact HI0.out | apply IsS58.alloc | apply IsS58.drewN | apply IsS58.drew | apply IsS58.set_1 | apply IsS58.set_2 | refine IsS58.far ?_ NB0_330.out _) | exact HI0.out)) hb); have _ := aM (KeepBut.trans (by repeat (first | (with_reducible first | exact HK.out | apply KeepBut.set_ | apply keep_drewN | apply keep_drew | apply keep_alloc | refine keep_far ?_ GW330.out _) | exact HK.out)) (KeepBut.of_below hb g none) (.inl rfl)); have _ := aM (below_step (by repeat (first | (with_reducible first | exact HB.out | apply bA | apply bN | apply bD | refine below_set ?_ (IsS58.ge HI0.out) | refine below_set ?_ GE330.out) | exact HB.out)) hb); have _ := aM (hbox); have _ := aM ((by rw [hg]; exact (keep_size (w := w) (g := g) (row := none) (by repeat (first | (with_reducible first | exact HK.out | apply KeepBut.set_ | apply keep_drewN | apply keep_drew | apply keep_alloc | refine keep_far ?_ GW330.out _) | exact HK.out))) : w.heap.size ≤ gb343)); have _ := aM ((Nat.le_trans HW0.out (by rw [hg]; exact (keep_size (w := w) (g := g) (row := none) (by repeat (first | (with_reducible first | exact HK.out | apply KeepBut.set_ | apply keep_drewN | apply keep_drew | apply keep_alloc | refine keep_far ?_ GW330.out _) | exact HK.out))) : w.heap.size ≤ gb343) : w0.heap.size ≤ gb343)); have _ := aM ((by rw [hg]; exact Nat.ne_of_lt (blk_lt (g := gb330) (o := .cells #[.slice none 0 0] 30 (0, 0)) (qQ BK330)) : gb330 ≠ gb343)); have _ := aM ((by rw [hg]; exact Nat.ne_of_gt (blk_lt (g := gb330) (o := .cells #[.slice none 0 0] 30 (0, 0)) (qQ BK330)) : gb343 ≠ gb330)); have _ := aM ((by rw [hg]; exact Nat.ne_of_lt (IsS58.lt (show IsS58 w0 _ g s0_0 t334 t335 from by repeat (first | (with_reducible first | exact HI0.out | apply IsS58.alloc | apply IsS58.drewN | apply IsS58.drew | apply IsS58.set_1 | apply IsS58.set_2 | refine IsS58.far ?_ NB0_330.out _) | exact HI0.out))) : g ≠ gb343)); have _ := aM ((by rw [hg]; exact Nat.ne_of_gt (IsS58.lt (show IsS58 w0 _ g s0_0 t334 t335 from by repeat (first | (with_reducible first | exact HI0.out | apply IsS58.alloc | apply IsS58.drewN | apply IsS58.drew | apply IsS58.set_1 | apply IsS58.set_2 | refine IsS58.far ?_ NB0_330.out _) | exact HI0.out))) : gb343 ≠ g)); clear HO_5 HO342 BK330 HI0 HK HB; rename_i HO_5 HO342 BK330 HI0 HK HB BK343 GW343 GE343 NB330_343 NB343_330 NB0_343 NB343_0; clear hb hbox hg; obtain ⟨Ao95, co95, eo95⟩ := Kd.S_slice HO342.out; subst eo95; have hnb96 := NB343_330.out; have hnc96 := NB330_343.out; have hnb97 := NB343_0.out; have hnc97 := NB0_343.out; have hcz98_0 := c10 BK343; have hfz98_0 := blk_frozen BK343.out 0) | ((with_reducible refine gate_callee (f := 85) rfl ?_); refine gL (some 18) Tryz.func85 #[.pointer (some ⟨g, 0, none⟩), .int .i64 14] ?_; (with_reducible refine (spec_l1Cur_pick.calls g s0_0 t334 t335 14 t344 t345 t346 w0 _ ?side1 ?side2 A13.out).mono ?_); (case side1 => repeat (first | (with_reducible first | exact HI0.out | apply IsS58.alloc | apply IsS58.drewN | apply IsS58.drew | apply IsS58.set_1 | apply IsS58.set_2 | refine IsS58.far ?_ NB0_330.out _ | refine IsS58.far ?_ NB0_343.out _) | exact HI0.out)); (case side2 => repeat (first | (with_reducible first | exact HB.out | apply bA | apply bN | apply bD | refine below_set ?_ (IsS58.ge HI0.out) | refine below_set ?_ GE330.out | refine below_set ?_ GE343.out) | exact HB.out)); rintro e w99 ⟨rfl, hi, hb, hk⟩; refine ⟨_, rfl, ?_⟩; have _ := aM (Kd.R_mono (Kd.R_keep (IsS58.apart (show IsS58 w0 _ g s0_0 t334 t335 from by repeat (first | (with_reducible first | exact HI0.out | apply IsS58.alloc | apply IsS58.drewN | apply IsS58.drew | apply IsS58.set_1 | apply IsS58.set_2 | refine IsS58.far ?_ NB0_330.out _ | refine IsS58.far ?_ NB0_343.out _) | exact HI0.out)) (by (with_reducible repeat first|apply rA|apply rN|apply rD); exact (Kd.R_mono (Kd.R_far (p := ⟨gb343, 0, none⟩) (Kd.R_types HO_5.out BK343.out (by decide)) (fun _ hk => hk.2) (.slice Ao95 t340.length co95)) (fun _ h_ => h_.1))) (by decide)) hk (fun _ h => h.2)) (fun _ h => h.1)); have _ := aM (KeepBut.blk hk (g' := gb330) (o := .cells #[.slice none 0 0] 30 (0, 0)) (by (with_reducible repeat first|apply qN|apply qD|apply qA); refine blk_far ?_ NB330_343.out _; (with_reducible repeat first|apply qN|apply qD|apply qA); exact BK330.out) NB330_0.out (by simp)); have _ := aM (Kd.S_mono (Kd.S_keep (IsS58.apartS (show IsS58 w0 _ g s0_0 t334 t335 from by repeat (first | (with_reducible first | exact HI0.out | apply IsS58.alloc | apply IsS58.drewN | apply IsS58.drew | apply IsS58.set_1 | apply IsS58.set_2 | refine IsS58.far ?_ NB0_330.out _ | refine IsS58.far ?_ NB0_343.out _) | exact HI0.out)) (by (with_reducible repeat first|apply sA|apply sN|apply sD); exact (Kd.S_mono (Kd.S_far (p := ⟨gb343, 0, none⟩) (Kd.S_types HO342.out BK343.out (by decide)) (fun _ hk => hk.2) (.slice Ao95 t340.length co95)) (fun _ h_ => h_.1))) (by decide)) hk (fun _ h => h.2)) (fun _ h => h.1)); have _ := aM (KeepBut.blk hk (g' := gb343) (o := .cells #[.slice Ao95 t340.length co95] 30 (0, 0)) (by (with_reducible repeat first|apply qN|apply qD|apply qA); refine blk_put (cs := #[.slice none 0 0]) ?_ 0 _ rfl; (with_reducible repeat first|apply qN|apply qD|apply qA); exact BK343.out) NB343_0.out (by simp)); have _ := aM (KeepBut.trans (by repeat (first | (with_reducible first | exact HK.out | apply KeepBut.set_ | apply keep_drewN | apply keep_drew | apply keep_alloc | refine keep_far ?_ GW330.out _ | refine keep_far ?_ GW343.out _) | exact HK.out)) hk (.inl rfl)); have _ := aM (hb); have _ := aM (hi); clear HO_5 BK330 HO342 BK343 HK HB HI0; rename_i HO_5 BK330 HO342 BK343 HK HB HI0; (try clear hb); (try clear hb2); (try clear hk); (try clear hi); have hcz100_0 := c10 BK343; have hfz100_0 := blk_frozen BK343.out 0; have hnb101 := NB330_0.out; have hnc101 := NB0_330.out; have hcz102_0 := c10 BK330; have hfz102_0 := blk_frozen BK330.out 0))
       refine bodyPost_ret (results_cell_row rfl _ _ gb330 30 #[.slice Ao95 t340.length co95] (0, 0) _ rfl (by (with_reducible repeat first|apply qN|apply qD|apply qA); refine blk_put (cs := #[.slice none 0 0]) ?_ 0 _ rfl; (with_reducible repeat first|apply qN|apply qD|apply qA); exact BK330.out) Tryz.underlying30 rfl (by kernel_rfl)) rfl ?_
       exact ⟨_, eE, Kd.Q_of_R ((Kd.S_R (by (with_reducible repeat first|apply sA|apply sN|apply sD); exact Kd.S_mono (Kd.S_far (p := ⟨gb330, 0, none⟩) (Kd.S_types HO342.out BK330.out (by decide)) (fun _ hk => hk.2) (.slice Ao95 t340.length co95)) (fun _ hk => trivial)))), by repeat (first | (with_reducible first | exact HI0.out | apply IsS58.alloc | apply IsS58.drewN | apply IsS58.drew | apply IsS58.set_1 | apply IsS58.set_2 | refine IsS58.far ?_ NB0_330.out _ | refine IsS58.far ?_ NB0_343.out _) | exact HI0.out), by repeat (first | (with_reducible first | exact HB.out | apply bA | apply bN | apply bD | refine below_set ?_ (IsS58.ge HI0.out) | refine below_set ?_ GE330.out | refine below_set ?_ GE343.out) | exact HB.out), by repeat (first | (with_reducible first | exact HK.out | apply KeepBut.set_ | apply keep_drewN | apply keep_drew | apply keep_alloc | refine keep_far ?_ GW330.out _ | refine keep_far ?_ GW343.out _) | exact HK.out)⟩
     ·rw [if_neg c77] at H
      have c77b0 : (t344 == 2) = false := beq_eq_false_iff_ne.mpr c77
      have c77b1 : (t344 != 2) = true := bne_iff_ne.mpr c77
      simp only [Option.some.injEq, Prod.mk.injEq] at H
      obtain ⟨rfl, rfl, rfl⟩ := H
      obtain ⟨Ao103, co103, eo103⟩ := Kd.R_slice HO_5.out
      subst eo103
      go_wp2_with (first | ((with_reducible refine gate_callee (f := 84) rfl ?_); refine gL (some 16) Tryz.func84 #[.slice Ao103 x5_4.length co103] ?_; (with_reducible refine (spec_maOf.calls kj4 _ _ x5_4 t340 _ (cQ ((Kd.R_reads' HO_5.out).2.2)) ((Kd.R_reads' HO_5.out).2.1) A12.out).mono ?_); rintro e w104 ⟨v341, rfl, ho0, hb⟩; refine ⟨_, rfl, ?_⟩; have _ := aM (Kd.R_below (rQ HO_5) hb); have _ := aM (Kd.S_lower (Kd.S_new' ho0 (Kd.R_lt (rQ HO_5))) (keep_size (w := w) (g := g) (row := none) (by repeat (first | (with_reducible first | exact HK.out | apply KeepBut.set_ | apply keep_drewN | apply keep_drew | apply keep_alloc | refine keep_far ?_ GW330.out _) | exact HK.out)))); have _ := aM (blk_below (qQ BK330) hb); have _ := aM (IsS58.below (by repeat (first | (with_reducible first | exact HI0.out | apply IsS58.alloc | apply IsS58.drewN | apply IsS58.drew | apply IsS58.set_1 | apply IsS58.set_2 | refine IsS58.far ?_ NB0_330.out _) | exact HI0.out)) hb); have _ := aM (KeepBut.trans (by repeat (first | (with_reducible first | exact HK.out | apply KeepBut.set_ | apply keep_drewN | apply keep_drew | apply keep_alloc | refine keep_far ?_ GW330.out _) | exact HK.out)) (KeepBut.of_below hb g none) (.inl rfl)); have _ := aM (below_step (by repeat (first | (with_reducible first | exact HB.out | apply bA | apply bN | apply bD | refine below_set ?_ (IsS58.ge HI0.out) | refine below_set ?_ GE330.out) | exact HB.out)) hb); clear HO_5 BK330 HI0 HK HB; rename_i HO_5 HO342 BK330 HI0 HK HB; (try clear hb); (try clear hb2); (try clear hk); (try clear hi); (try clear ho0)) | ((with_reducible refine gate_dst (N := 6) rfl ?_); refine bE 6 30 #[.slice none 0 0] ?_; intro gb343 hg w105 hbox hb; have _ := aM (Kd.R_below (rQ HO_5) hb); have _ := aM (Kd.S_below (sQ HO342) hb); have _ := aM (blk_below (qQ BK330) hb); have _ := aM (IsS58.below (by repeat (first | (with_reducible first | exact HI0.out | apply IsS58.alloc | apply IsS58.drewN | apply IsS58.drew | apply IsS58.set_1 | apply IsS58.set_2 | refine IsS58.far ?_ NB0_330.out _) | exact HI0.out)) hb); have _ := aM (KeepBut.trans (by repeat (first | (with_reducible first | exact HK.out | apply KeepBut.set_ | apply keep_drewN | apply keep_drew | apply keep_alloc | refine keep_far ?_ GW330.out _) | exact HK.out)) (KeepBut.of_below hb g none) (.inl rfl)); have _ := aM (below_step (by repeat (first | (with_reducible first | exact HB.out | apply bA | apply bN | apply bD | refine below_set ?_ (IsS58.ge HI0.out) | refine below_set ?_ GE330.out) | exact HB.out)) hb); have _ := aM (hbox); have _ := aM ((by rw [hg]; exact (keep_size (w := w) (g := g) (row := none) (by repeat (first | (with_reducible first | exact HK.out | apply KeepBut.set_ | apply keep_drewN | apply keep_drew | apply keep_alloc | refine keep_far ?_ GW330.out _) | exact HK.out))) : w.heap.size ≤ gb343)); have _ := aM ((Nat.le_trans HW0.out (by rw [hg]; exact (keep_size (w := w) (g := g) (row := none) (by repeat (first | (with_reducible first | exact HK.out | apply KeepBut.set_ | apply keep_drewN | apply keep_drew | apply keep_alloc | refine keep_far ?_ GW330.out _) | exact HK.out))) : w.heap.size ≤ gb343) : w0.heap.size ≤ gb343)); have _ := aM ((by rw [hg]; exact Nat.ne_of_lt (blk_lt (g := gb330) (o := .cells #[.slice none 0 0] 30 (0, 0)) (qQ BK330)) : gb330 ≠ gb343)); have _ := aM ((by rw [hg]; exact Nat.ne_of_gt (blk_lt (g := gb330) (o := .cells #[.slice none 0 0] 30 (0, 0)) (qQ BK330)) : gb343 ≠ gb330)); have _ := aM ((by rw [hg]; exact Nat.ne_of_lt (IsS58.lt (show IsS58 w0 _ g s0_0 t334 t335 from by repeat (first | (with_reducible first | exact HI0.out | apply IsS58.alloc | apply IsS58.drewN | apply IsS58.drew | apply IsS58.set_1 | apply IsS58.set_2 | refine IsS58.far ?_ NB0_330.out _) | exact HI0.out))) : g ≠ gb343)); have _ := aM ((by rw [hg]; exact Nat.ne_of_gt (IsS58.lt (show IsS58 w0 _ g s0_0 t334 t335 from by repeat (first | (with_reducible first | exact HI0.out | apply IsS58.alloc | apply IsS58.drewN | apply IsS58.drew | apply IsS58.set_1 | apply IsS58.set_2 | refine IsS58.far ?_ NB0_330.out _) | exact HI0.out))) : gb343 ≠ g)); clear HO_5 HO342 BK330 HI0 HK HB; rename_i HO_5 HO342 BK330 HI0 HK HB BK343 GW343 GE343 NB330_343 NB343_330 NB0_343 NB343_0; clear hb hbox hg; obtain ⟨Ao106, co106, eo106⟩ := Kd.S_slice HO342.out; subst eo106; have hnb107 := NB343_330.out; have hnc107 := NB330_343.out; have hnb108 := NB343_0.out; have hnc108 := NB0_343.out; have hcz109_0 := c10 BK343; have hfz109_0 := blk_frozen BK343.out 0) | ((with_reducible refine gate_callee (f := 85) rfl ?_); refine gL (some 18) Tryz.func85 #[.pointer (some ⟨g, 0, none⟩), .int .i64 14] ?_; (with_reducible refine (spec_l1Cur_pick.calls g s0_0 t334 t335 14 t344 t345 t346 w0 _ ?side1 ?side2 A13.out).mono ?_); (case side1 => repeat (first | (with_reducible first | exact HI0.out | apply IsS58.alloc | apply IsS58.drewN | apply IsS58.drew | apply IsS58.set_1 | apply IsS58.set_2 | refine IsS58.far ?_ NB0_330.out _ | refine IsS58.far ?_ NB0_343.out _) | exact HI0.out)); (case side2 => repeat (first | (with_reducible first | exact HB.out | apply bA | apply bN | apply bD | refine below_set ?_ (IsS58.ge HI0.out) | refine below_set ?_ GE330.out | refine below_set ?_ GE343.out) | exact HB.out)); rintro e w110 ⟨rfl, hi, hb, hk⟩; refine ⟨_, rfl, ?_⟩; have _ := aM (Kd.R_mono (Kd.R_keep (IsS58.apart (show IsS58 w0 _ g s0_0 t334 t335 from by repeat (first | (with_reducible first | exact HI0.out | apply IsS58.alloc | apply IsS58.drewN | apply IsS58.drew | apply IsS58.set_1 | apply IsS58.set_2 | refine IsS58.far ?_ NB0_330.out _ | refine IsS58.far ?_ NB0_343.out _) | exact HI0.out)) (by (with_reducible repeat first|apply rA|apply rN|apply rD); exact (Kd.R_mono (Kd.R_far (p := ⟨gb343, 0, none⟩) (Kd.R_types HO_5.out BK343.out (by decide)) (fun _ hk => hk.2) (.slice Ao106 t340.length co106)) (fun _ h_ => h_.1))) (by decide)) hk (fun _ h => h.2)) (fun _ h => h.1)); have _ := aM (KeepBut.blk hk (g' := gb330) (o := .cells #[.slice none 0 0] 30 (0, 0)) (by (with_reducible repeat first|apply qN|apply qD|apply qA); refine blk_far ?_ NB330_343.out _; (with_reducible repeat first|apply qN|apply qD|apply qA); exact BK330.out) NB330_0.out (by simp)); have _ := aM (Kd.S_mono (Kd.S_keep (IsS58.apartS (show IsS58 w0 _ g s0_0 t334 t335 from by repeat (first | (with_reducible first | exact HI0.out | apply IsS58.alloc | apply IsS58.drewN | apply IsS58.drew | apply IsS58.set_1 | apply IsS58.set_2 | refine IsS58.far ?_ NB0_330.out _ | refine IsS58.far ?_ NB0_343.out _) | exact HI0.out)) (by (with_reducible repeat first|apply sA|apply sN|apply sD); exact (Kd.S_mono (Kd.S_far (p := ⟨gb343, 0, none⟩) (Kd.S_types HO342.out BK343.out (by decide)) (fun _ hk => hk.2) (.slice Ao106 t340.length co106)) (fun _ h_ => h_.1))) (by decide)) hk (fun _ h => h.2)) (fun _ h => h.1)); have _ := aM (KeepBut.blk hk (g' := gb343) (o := .cells #[.slice Ao106 t340.length co106] 30 (0, 0)) (by (with_reducible repeat first|apply qN|apply qD|apply qA); refine blk_put (cs := #[.slice none 0 0]) ?_ 0 _ rfl; (with_reducible repeat first|apply qN|apply qD|apply qA); exact BK343.out) NB343_0.out (by simp)); have _ := aM (KeepBut.trans (by repeat (first | (with_reducible first | exact HK.out | apply KeepBut.set_ | apply keep_drewN | apply keep_drew | apply keep_alloc | refine keep_far ?_ GW330.out _ | refine keep_far ?_ GW343.out _) | exact HK.out)) hk (.inl rfl)); have _ := aM (hb); have _ := aM (hi); clear HO_5 BK330 HO342 BK343 HK HB HI0; rename_i HO_5 BK330 HO342 BK343 HK HB HI0; (try clear hb); (try clear hb2); (try clear hk); (try clear hi); have hcz111_0 := c10 BK343; have hfz111_0 := blk_frozen BK343.out 0; have hnb112 := NB330_0.out; have hnc112 := NB0_330.out; have hcz113_0 := c10 BK330; have hfz113_0 := blk_frozen BK330.out 0))
      refine bodyPost_ret (results_cell_row rfl _ _ gb330 30 #[.slice Ao106 t340.length co106] (0, 0) _ rfl (by (with_reducible repeat first|apply qN|apply qD|apply qA); refine blk_put (cs := #[.slice none 0 0]) ?_ 0 _ rfl; (with_reducible repeat first|apply qN|apply qD|apply qA); exact BK330.out) Tryz.underlying30 rfl (by kernel_rfl)) rfl ?_
      exact ⟨_, eE, Kd.Q_of_R ((Kd.S_R (by (with_reducible repeat first|apply sA|apply sN|apply sD); exact Kd.S_mono (Kd.S_far (p := ⟨gb330, 0, none⟩) (Kd.S_types HO342.out BK330.out (by decide)) (fun _ hk => hk.2) (.slice Ao106 t340.length co106)) (fun _ hk => trivial)))), by repeat (first | (with_reducible first | exact HI0.out | apply IsS58.alloc | apply IsS58.drewN | apply IsS58.drew | apply IsS58.set_1 | apply IsS58.set_2 | refine IsS58.far ?_ NB0_330.out _ | refine IsS58.far ?_ NB0_343.out _) | exact HI0.out), by repeat (first | (with_reducible first | exact HB.out | apply bA | apply bN | apply bD | refine below_set ?_ (IsS58.ge HI0.out) | refine below_set ?_ GE330.out | refine below_set ?_ GE343.out) | exact HB.out), by repeat (first | (with_reducible first | exact HK.out | apply KeepBut.set_ | apply keep_drewN | apply keep_drew | apply keep_alloc | refine keep_far ?_ GW330.out _ | refine keep_far ?_ GW343.out _) | exact HK.out)⟩

end Go.Proofs.YtcodionjhcmfhaaGreatDoor.Ax
