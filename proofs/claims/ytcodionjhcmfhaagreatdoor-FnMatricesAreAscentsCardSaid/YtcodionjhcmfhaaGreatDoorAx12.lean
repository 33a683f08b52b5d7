-- Written by hook.py, a program of this session (wip/), which runs the kit's print.py with its own parts; Lean checks it.
import Derived.Test.YtcodionjhcmfhaaGreatDoorAx0
import Derived.Test.YtcodionjhcmfhaaGreatDoorAx10
import Derived.Test.YtcodionjhcmfhaaGreatDoorAxXSq
namespace Go.Proofs.YtcodionjhcmfhaaGreatDoor.Ax
open Go.RowKit Go.Proofs.YtcodionjhcmfhaaGreatDoorW.PrintWords Go.Proofs.YtcodionjhcmfhaaGreatDoorW.PrintLast Go.Proofs.YtcodionjhcmfhaaGreatDoorW.PrintMore Go.Proofs.YtcodionjhcmfhaaGreatDoor.Sq
attribute [local go_sem] max2_int min2_int max_two min_two max_three min_three max_four min_four   -- for this text's walks alone
set_option linter.unusedVariables false
set_option linter.unusedSimpArgs false

def spec_maWide.f (l0 : List Int) (a1 : Int) : Option (List Int) := if 0 ≤ a1 then (if a1 ≤ (l0.length : Int) then ((spec_l1Own.f (l0.take (a1 : Int).toNat)).bind fun t266 => ((some (([0] : List Int) : List Int)).bind fun y269 => (if t266.length + y269.length < 17592186044416 then ((some (t266 ++ y269 : List Int)).bind fun y272 => (if y272.length + (l0.drop (a1 : Int).toNat).length < 17592186044416 then (some (y272 ++ (l0.drop (a1 : Int).toNat))) else (none))) else (none)))) else (none)) else (none)
def spec_maWide.T1 : Bool × List (List Nat × List Nat) := (true, [([], []), ([], []), ([0, 1], [0, 1]), ([2], [2]), ([], []), ([3, 4, 3], [3, 4]), ([], []), ([], []), ([6, 7], [6, 7]), ([5, 8, 5], [5, 8]), ([9, 9, 0, 1, 2, 3, 4, 5, 6, 7, 8, 9], [9])])
def spec_maWide.B1 : List Nat := [0, 0, 3, 7, 0, 31, 0, 0, 192, 511, 1023]
theorem spec_maWide.tab1 : rtab .any (opsOf Tryz.f143 1) = spec_maWide.T1 := by kernel_rfl
theorem spec_maWide.bits1 : waitsOk spec_maWide.T1.2 spec_maWide.B1 = true := by kernel_rfl
set_option maxHeartbeats 8000000 in
set_option maxRecDepth 100000 in
theorem spec_maWide.calls (A0 : Option Addr) (c0 : Nat) (l0 : List Int) (a1 : Int) (r : List Int) (w : World) (hr0 : Kd.C (Kd.int .i64) w A0 l0.length l0) (hc0 : l0.length ≤ c0) (h : spec_maWide.f l0 a1 = some r) :
  Calls Tryz.prog 143 #[.slice A0 l0.length c0, .int .i64 a1] w fun e w' => ∃ v0_ : Value, e = .returned (v0_) ∧ Kd.R (Kd.int .i64) 3 w' w.heap.size (fun _ => True) v0_ r ∧ Below w.heap.size w w' := by
 have HR0 := aM hr0
 have HC0 := aM hc0
 clear hr0 hc0
 have HB := aM (Below.refl w.heap.size w)
 have H : (if 0 ≤ a1 then (if a1 ≤ (l0.length : Int) then ((spec_l1Own.f (l0.take (a1 : Int).toNat)).bind fun t266 => ((some (([0] : List Int) : List Int)).bind fun y269 => (if t266.length + y269.length < 17592186044416 then ((some (t266 ++ y269 : List Int)).bind fun y272 => (if y272.length + (l0.drop (a1 : Int).toNat).length < 17592186044416 then (some (y272 ++ (l0.drop (a1 : Int).toNat))) else (none))) else (none)))) else (none)) else (none)) = some r := h
 clear h
 replace H := iS H
 obtain ⟨c3, H⟩ := H
 have c3b0 := eq_true c3
 have c3b1 := decide_eq_true c3
 clear c3
 replace H := iS H
 obtain ⟨c4, H⟩ := H
 have c4b0 := eq_true c4
 have c4b1 := decide_eq_true c4
 clear c4
 replace H := bS H
 obtain ⟨t266, A5, H⟩ := H
 try dsimp only at H
 obtain ⟨y269, hy269⟩ : ∃ y_ : List Int, y_ = (([0] : List Int)) := ⟨_, rfl⟩
 replace H : (if t266.length + y269.length < 17592186044416 then ((some (t266 ++ y269 : List Int)).bind fun y272 => (if y272.length + (l0.drop (a1 : Int).toNat).length < 17592186044416 then (some (y272 ++ (l0.drop (a1 : Int).toNat))) else (none))) else (none)) = some r := by first | (rw [hy269]; with_reducible exact H) | (have H2_ := (Option.bind_some _ _).symm.trans H; rw [hy269]; with_reducible exact H2_) | (have H2_ := (Option.bind_some _ _).symm.trans H; with_reducible exact H2_) | with_reducible exact H | (rw [hy269]; exact H) | exact H
 have Ny269 := aM hy269
 clear hy269
 replace H := iS H
 obtain ⟨c6, H⟩ := H
 have LMc6 := aM c6
 clear c6
 obtain ⟨y272, hy272⟩ : ∃ y_ : List Int, y_ = (t266 ++ y269) := ⟨_, rfl⟩
 replace H : (if y272.length + (l0.drop (a1 : Int).toNat).length < 17592186044416 then (some (y272 ++ (l0.drop (a1 : Int).toNat))) else (none)) = some r := by first | (rw [hy272]; with_reducible exact H) | (have H2_ := (Option.bind_some _ _).symm.trans H; rw [hy272]; with_reducible exact H2_) | (have H2_ := (Option.bind_some _ _).symm.trans H; with_reducible exact H2_) | with_reducible exact H | (rw [hy272]; exact H) | exact H
 have Ny272 := aM hy272
 clear hy272
 have c7b0 := eq_true (odt : 0 ≤ a1)
 have c8b0 := eq_true (odt : a1 ≤ (l0.length : Int))
 replace H := iS H
 obtain ⟨c9, H⟩ := H
 have LMc9 := aM c9
 clear c9
 obtain ⟨y276, hy276⟩ : ∃ y_ : List Int, y_ = (y272 ++ (l0.drop (a1 : Int).toNat)) := ⟨_, rfl⟩
 replace H : (some y276) = some r := by first | (rw [hy276]; with_reducible exact H) | (have H2_ := (Option.bind_some _ _).symm.trans H; rw [hy276]; with_reducible exact H2_) | (have H2_ := (Option.bind_some _ _).symm.trans H; with_reducible exact H2_) | with_reducible exact H | (rw [hy276]; exact H) | exact H
 have Ny276 := aM hy276
 clear hy276
 obtain rfl := Option.some.inj H
 go_enter Tryz.func143, Tryz.ntmps143
 try go_wp2
 have n0_ := aM (below_drew1 HB.out)
 clear HB
 have HB := n0_
 clear n0_
 obtain ⟨i011, hi011, _, hsz11, _⟩ := info_parts info3
 obtain ⟨hcut11, hA11, hC11⟩ := print_take_of (P := Tryz.prog) (Value.int .i64) 0 24 3 .i64 Tryz.underlying24 hi011 hsz11 A0 c0 l0 a1 (odt) (odt) HC0.out
 have HR265 := aM (Kd.C_of_reads (h1 := fun _ => rfl) (hA11 _ (Kd.reads_of_C HR0.out)))
 have HC265 := aM hC11
 clear hA11 hC11 hi011 hsz11
 obtain ⟨i012, hi012, _, hsz12, _⟩ := info_parts info3
 obtain ⟨A12, hcut12, hA12, hC12⟩ := print_drop_of (P := Tryz.prog) (Value.int .i64) 0 24 3 .i64 Tryz.underlying24 hi012 hsz12 A0 c0 l0 a1 (odt) (odt) HC0.out
 have HR275 := aM (Kd.C_of_reads (h1 := fun _ => rfl) (hA12 _ (Kd.reads_of_C HR0.out)))
 have HC275 := aM hC12
 clear hA12 hC12 hi012 hsz12
 refine start_ (n := 11) (S := fun w' => True) (ds := []) #[false, false, false, false, false, false, false, false, false, false, false] (by kernel_rfl) rfl rfl trivial (fun hHeld => ?_); refine with_tabW spec_maWide.tab1 spec_maWide.bits1 (fun HT_ HW_ => ?_)
 generalize w.drew = w10 at HB HR265 HR275 hHeld ⊢
 refine pure_ (i := 0) (N := some 5) (v := ?_) (a' := ?_) #[true, false, false, false, false, false, false, false, false, false, false] rfl rfl (any_of HT_.out (by kernel_rfl)) (fun _ _ _ h => h) (Or.inl ⟨by rfl, ?_⟩) ?_ ?_
 rotate_left
 ·intro w'
  go_simp
  with_reducible rfl
 rotate_left
 ·simp only [Act.put, List.setIfInBounds_toArray, List.set_cons_zero, List.set_cons_succ, i64_w, i32_w]
  rfl
 refine pure_ (i := 1) (N := some 6) (v := ?_) (a' := ?_) #[true, true, false, false, false, false, false, false, false, false, false] rfl rfl (any_of HT_.out (by kernel_rfl)) (fun _ _ _ h => h) (Or.inl ⟨by rfl, ?_⟩) ?_ ?_
 rotate_left
 ·intro w'
  go_simp
  with_reducible rfl
 rotate_left
 ·simp only [Act.put, List.setIfInBounds_toArray, List.set_cons_zero, List.set_cons_succ, i64_w, i32_w]
  rfl
 refine pure_ (i := 2) (N := some 7) (v := ?_) (a' := ?_) #[true, true, true, false, false, false, false, false, false, false, false] rfl rfl (any_of HT_.out (by kernel_rfl)) (fun _ _ _ h => h) (Or.inl ⟨by rfl, ?_⟩) ?_ ?_
 rotate_left
 ·intro w'
  go_simp
  with_reducible rfl
 rotate_left
 ·simp only [Act.put, List.setIfInBounds_toArray, List.set_cons_zero, List.set_cons_succ, i64_w, i32_w]
  rfl
 refine pure_ (i := 6) (N := some 11) (v := ?_) (a' := ?_) #[true, true, true, false, false, false, true, false, false, false, false] rfl rfl (any_of HT_.out (by kernel_rfl)) (fun _ _ _ h => h) (Or.inl ⟨by rfl, ?_⟩) ?_ ?_
 rotate_left
 ·intro w'
  go_simp
  with_reducible rfl
 rotate_left
 ·simp only [Act.put, List.setIfInBounds_toArray, List.set_cons_zero, List.set_cons_succ, i64_w, i32_w]
  rfl
 refine pure_ (i := 7) (N := some 12) (v := ?_) (a' := ?_) #[true, true, true, false, false, false, true, true, false, false, false] rfl rfl (any_of HT_.out (by kernel_rfl)) (fun _ _ _ h => h) (Or.inl ⟨by rfl, ?_⟩) ?_ ?_
 rotate_left
 ·intro w'
  go_simp
  with_reducible rfl
 rotate_left
 ·simp only [Act.put, List.setIfInBounds_toArray, List.set_cons_zero, List.set_cons_succ, i64_w, i32_w]
  rfl
 refine pure_ (i := 8) (N := some 13) (v := ?_) (a' := ?_) #[true, true, true, false, false, false, true, true, true, false, false] rfl rfl (any_of HT_.out (by kernel_rfl)) (fun _ _ _ h => h) (Or.inl ⟨by rfl, ?_⟩) ?_ ?_
 rotate_left
 ·intro w'
  go_simp
  with_reducible rfl
 rotate_left
 ·simp only [Act.put, List.setIfInBounds_toArray, List.set_cons_zero, List.set_cons_succ, i64_w, i32_w]
  rfl
 refine join_ (σ := Value × Value) 3 #[true, true, true, true, true, false, true, true, true, false, false] (fun s_ => [(8, s_.1), (9, s_.2)]) (fun s_ w' => (Kd.R (Kd.int .i64) 3 w' w.heap.size (fun k_ => some k_ ≠ (s_.2 : Value).ownBlock) s_.1 t266) ∧ (Kd.R (Kd.int .i64) 3 w' w.heap.size (fun k_ => some k_ ≠ (s_.1 : Value).ownBlock) s_.2 y269) ∧ (Below w.heap.size w w')) ?_ ?_
 rotate_left
 ·intro hCont
  refine two_ (i := 3) (j := 4) (Ni := some 8) (Nj := some 9) #[true, true, true, true, false, false, true, true, true, false, false] #[true, true, true, false, true, false, true, true, true, false, false] rfl rfl rfl rfl (two_of HT_.out (by kernel_rfl)) (by decide) (by decide) (fun K hK => ?_) (fun K hK => ?_)
  ·skip
   refine goes_ Tryz.func127 (by kernel_rfl) rfl #[.slice A0 (l0.take (a1 : Int).toNat).length c0] (by rfl) rfl rfl (by (try simp only [List.map_toArray, List.map_cons, List.map_nil]); first | done | (rw [show (l0.take (a1 : Int).toNat).length = a1.toNat from (by rw [List.length_take]; have h_ : (a1 : Int) ≤ (l0.length : Int) := odt; omega)] <;> rfl) | rfl | (simp only [List.length_drop, List.length_take]; rfl)) ?_
   with_reducible refine (spec_l1Own.calls _ _ (l0.take (a1 : Int).toNat) t266 _ ?side1 ?side2 A5.out).mono ?_
   (case side1 => repeat (first | exact (Kd.C_below HR265.out HB.out) | (with_reducible refine Kd.C_alloc ?_ _) | (with_reducible refine Kd.C_drewN ?_ _) | (with_reducible refine Kd.C_drew ?_)))
   (case side2 => exact HC265.out)
   rintro e w13 ⟨v267, rfl, ho0, hb⟩
   refine ⟨_, rfl, ?_⟩
   have n0_ := aM (Kd.R_lower ho0 (below_size bq))
   have n1_ := aM (below_step bq hb)
   clear HB
   have HO268 := n0_
   have HB := n1_
   clear n0_ n1_
   (try clear hb)
   (try clear hb2)
   (try clear hk)
   (try clear hi)
   (try clear ho0)
   refine hK.out _ _ trivial (fun hHeld => ?_)
   clear hK K
   refine norm_ (a' := ?_) ?_ ?_
   rotate_left
   ·show Act.put _ (some 8) _ = _
    simp only [Act.put, List.setIfInBounds_toArray, List.set_cons_zero, List.set_cons_succ, i64_w, i32_w]
    rfl
   refine one_ (i := 4) (N := some 9) #[true, true, true, true, true, false, true, true, true, false, false] rfl rfl (one_of HT_.out (by kernel_rfl)) (by decide) (fun K hK => ?_)
   refine Kd.R_lit_step (Kd.int .i64) _ 3 ?hg (N := 9) ?hd (xs := ([0] : List Int)) (inner := [.int .i64 0]) (ok := fun _ => True) (okp := fun _ => True) ?hr ?hp (fun _ hk => hk) trivial (Below.refl _ _) (Nat.le_refl _) (by simp) ?_; (case hd => rfl); (case hg => rfl); (case hr => first | (go_simp; done) | (go_simp; rfl)); (case hp => exact (Reps.one (show Kd.M (Kd.int .i64) _ _ _ 0 [.int .i64 0] from rfl) (Reps.none _ _)))
   intro v270 w14 ho15 hb hg_ hnew_
   clear hg_ hnew_
   (first | rw [← Ny269.out] at ho15 | (simp only [Int.reduceToNat] at ho15; rw [← Ny269.out] at ho15))
   have n0_ := aM (Kd.R_elder' (rQ HO268) (Kd.R_base ho15) hb)
   have n1_ := aM (Kd.R_lower (Kd.R_new' ho15 (Kd.R_lt (rQ HO268))) (below_size bq))
   have n2_ := aM (below_step bq hb)
   clear HO268
   clear HB
   have HO268 := n0_
   have HO271 := n1_
   have HB := n2_
   clear n0_ n1_ n2_
   clear hb ho15
   refine hK.out _ _ trivial (fun hHeld => ?_)
   clear hK K
   refine norm_ (a' := ?_) ?_ ?_
   rotate_left
   ·show Act.put _ (some 9) _ = _
    simp only [Act.put, List.setIfInBounds_toArray, List.set_cons_zero, List.set_cons_succ, i64_w, i32_w]
    rfl
   exact norm_ (by simp only [putAll, Act.put, List.setIfInBounds_toArray, List.set_cons_zero, List.set_cons_succ]) (hCont (v267, v270) _ ⟨(by (with_reducible repeat first|apply rA|apply rN|apply rD); exact Kd.R_mono HO268.out (fun _ hk => hk.2)), (by (with_reducible repeat first|apply rA|apply rN|apply rD); exact Kd.R_mono HO271.out (fun _ hk => hk.2)), bq⟩)
  ·skip
   refine Kd.R_lit_step (Kd.int .i64) _ 3 ?hg (N := 9) ?hd (xs := ([0] : List Int)) (inner := [.int .i64 0]) (ok := fun _ => True) (okp := fun _ => True) ?hr ?hp (fun _ hk => hk) trivial (Below.refl _ _) (Nat.le_refl _) (by simp) ?_; (case hd => rfl); (case hg => rfl); (case hr => first | (go_simp; done) | (go_simp; rfl)); (case hp => exact (Reps.one (show Kd.M (Kd.int .i64) _ _ _ 0 [.int .i64 0] from rfl) (Reps.none _ _)))
   intro v270 w13 ho14 hb hg_ hnew_
   clear hg_ hnew_
   (first | rw [← Ny269.out] at ho14 | (simp only [Int.reduceToNat] at ho14; rw [← Ny269.out] at ho14))
   have n0_ := aM (Kd.R_lower ho14 (below_size bq))
   have n1_ := aM (below_step bq hb)
   clear HB
   have HO271 := n0_
   have HB := n1_
   clear n0_ n1_
   clear hb ho14
   refine hK.out _ _ trivial (fun hHeld => ?_)
   clear hK K
   refine norm_ (a' := ?_) ?_ ?_
   rotate_left
   ·show Act.put _ (some 9) _ = _
    simp only [Act.put, List.setIfInBounds_toArray, List.set_cons_zero, List.set_cons_succ, i64_w, i32_w]
    rfl
   refine one_ (i := 3) (N := some 8) #[true, true, true, true, true, false, true, true, true, false, false] rfl rfl (one_of HT_.out (by kernel_rfl)) (by decide) (fun K hK => ?_)
   refine goes_ Tryz.func127 (by kernel_rfl) rfl #[.slice A0 (l0.take (a1 : Int).toNat).length c0] (by rfl) rfl rfl (by (try simp only [List.map_toArray, List.map_cons, List.map_nil]); first | done | (rw [show (l0.take (a1 : Int).toNat).length = a1.toNat from (by rw [List.length_take]; have h_ : (a1 : Int) ≤ (l0.length : Int) := odt; omega)] <;> rfl) | rfl | (simp only [List.length_drop, List.length_take]; rfl)) ?_
   with_reducible refine (spec_l1Own.calls _ _ (l0.take (a1 : Int).toNat) t266 _ ?side1 ?side2 A5.out).mono ?_
   (case side1 => repeat (first | exact (Kd.C_below HR265.out HB.out) | (with_reducible refine Kd.C_alloc ?_ _) | (with_reducible refine Kd.C_drewN ?_ _) | (with_reducible refine Kd.C_drew ?_)))
   (case side2 => exact HC265.out)
   rintro e w15 ⟨v267, rfl, ho0, hb⟩
   refine ⟨_, rfl, ?_⟩
   have n0_ := aM (Kd.R_elder' (rQ HO271) (Kd.R_base ho0) hb)
   have n1_ := aM (Kd.R_lower (Kd.R_new' ho0 (Kd.R_lt (rQ HO271))) (below_size bq))
   have n2_ := aM (below_step bq hb)
   clear HO271
   clear HB
   have HO271 := n0_
   have HO268 := n1_
   have HB := n2_
   clear n0_ n1_ n2_
   (try clear hb)
   (try clear hb2)
   (try clear hk)
   (try clear hi)
   (try clear ho0)
   refine hK.out _ _ trivial (fun hHeld => ?_)
   clear hK K
   refine norm_ (a' := ?_) ?_ ?_
   rotate_left
   ·show Act.put _ (some 8) _ = _
    simp only [Act.put, List.setIfInBounds_toArray, List.set_cons_zero, List.set_cons_succ, i64_w, i32_w]
    rfl
   exact norm_ (by simp only [putAll, Act.put, List.setIfInBounds_toArray, List.set_cons_zero, List.set_cons_succ]) (hCont (v267, v270) _ ⟨(by (with_reducible repeat first|apply rA|apply rN|apply rD); exact Kd.R_mono HO268.out (fun _ hk => hk.2)), (by (with_reducible repeat first|apply rA|apply rN|apply rD); exact Kd.R_mono HO271.out (fun _ hk => hk.2)), bq⟩)
 rintro ⟨v267, v270⟩ w16 ⟨h0_, h1_, h2_⟩
 have n0_ : Aside0 (Kd.R (Kd.int .i64) 3 w16 w.heap.size (fun k_ => some k_ ≠ (v270 : Value).ownBlock) v267 t266) := ⟨h0_⟩
 have n1_ : Aside0 (Kd.R (Kd.int .i64) 3 w16 w.heap.size (fun k_ => some k_ ≠ (v267 : Value).ownBlock) v270 y269) := ⟨h1_⟩
 have n2_ : Aside0 (Below w.heap.size w w16) := ⟨h2_⟩
 clear HB
 clear h0_ h1_ h2_
 have HO268 := n0_
 have HO271 := n1_
 have HB := n2_
 clear n0_ n1_ n2_
 have hHeld := trivial
 obtain ⟨Ao18, co18, eo18⟩ := Kd.R_slice HO271.out
 (first | subst eo18 | (injection eo18 with f1_ f2_ f3_; have f4_ := f1_.symm; have f5_ := f3_.symm; clear f1_ f2_ f3_; subst f4_; subst f5_))
 refine norm_ (a' := ?_) ?_ ?_
 rotate_left
 ·simp only [putAll, Act.put, List.setIfInBounds_toArray, List.set_cons_zero, List.set_cons_succ]
  rfl
 refine one_ (i := 5) (N := some 10) #[true, true, true, true, true, true, true, true, true, false, false] rfl rfl (one_of HT_.out (by kernel_rfl)) (by decide) (fun K hK => ?_)
 refine Kd.R_append_rows_step (Kd.int .i64) (w0 := w) w.heap.size (by rfl) (.tmp 8) (.tmp 9) 24 3 (.int .i64 0) 8 rfl Tryz.underlying24 info3 rfl (by decide) (by omega) v267 t266 y269 _ _ _ (fun k_ => some k_ ≠ (.slice Ao18 y269.length co18 : Value).ownBlock) (fun _ => False) rfl rfl ?aO ?aR (fun _ _ h => h) (fun _ h => h.elim) ?aF ?aB ?aS ?aL ?_
 (case aR => repeat (first | exact (Kd.R_reads' HO271.out).2.2 | (with_reducible refine Kd.C_alloc ?_ _) | (with_reducible refine Kd.C_drewN ?_ _) | (with_reducible refine Kd.C_drew ?_)))
 (case aB => exact bq)
 (case aF => exact (fun k_ hk => Kd.fresh' (Kd.R_lt (rQ HO271)) k_ hk))
 (case aO => exact (rQ HO268))
 (case aS => exact (below_size bq))
 (case aL => have := LMc6.out; omega)
 intro v273 w17 ho hb hg hat
 rw [← Ny272.out] at ho
 have n0_ := aM (Kd.R_after (ok := (fun _ => True)) (by (with_reducible repeat first|apply rA|apply rN|apply rD); exact Kd.R_mono HO271.out (fun _ hk => ⟨trivial, hk⟩)) hg hat)
 have n1_ := aM (hb)
 have n2_ := aM (ho)
 clear HO271
 clear HB
 clear HO268
 have HO271 := n0_
 have HB := n1_
 have HO274 := n2_
 clear n0_ n1_ n2_
 clear ho hb hg hat
 refine hK.out _ _ trivial (fun hHeld => ?_)
 clear hK K
 refine norm_ (a' := ?_) ?_ ?_
 rotate_left
 ·show Act.put _ (some 10) _ = _
  simp only [Act.put, List.setIfInBounds_toArray, List.set_cons_zero, List.set_cons_succ, i64_w, i32_w]
  rfl
 refine one_ (i := 9) (N := some 14) #[true, true, true, true, true, true, true, true, true, true, false] rfl rfl (one_of HT_.out (by kernel_rfl)) (by decide) (fun K hK => ?_)
 refine Kd.R_append_rows_step (Kd.int .i64) (w0 := w) w.heap.size (by rfl) (.tmp 10) (.tmp 13) 24 3 (.int .i64 0) 8 rfl Tryz.underlying24 info3 rfl (by decide) (by omega) v273 y272 (l0.drop (a1 : Int).toNat) _ _ _ (fun k_ => some k_ ≠ (.slice Ao18 y269.length co18 : Value).ownBlock) (fun _ => False) rfl rfl ?aO ?aR (fun _ _ h => h) (fun _ h => h.elim) ?aF ?aB ?aS ?aL ?_
 (case aR => first | (rw [← show (l0.drop (a1 : Int).toNat).length = (l0.length - a1.toNat) from List.length_drop]; repeat (first | exact (Kd.C_below HR275.out HB.out) | (with_reducible refine Kd.C_alloc ?_ _) | (with_reducible refine Kd.C_drewN ?_ _) | (with_reducible refine Kd.C_drew ?_))) | (repeat (first | exact (Kd.C_below HR275.out HB.out) | (with_reducible refine Kd.C_alloc ?_ _) | (with_reducible refine Kd.C_drewN ?_ _) | (with_reducible refine Kd.C_drew ?_))))
 (case aB => exact bq)
 (case aF => exact (fun k_ hk => Kd.fresh' (Kd.R_lt (rQ HO271)) k_ hk))
 (case aO => exact (rQ HO274))
 (case aS => exact (below_size bq))
 (case aL => have := LMc9.out; have hlx_ := (show (l0.drop (a1 : Int).toNat).length = (l0.length - a1.toNat) from List.length_drop); omega)
 intro v277 w19 ho hb hg hat
 rw [← Ny276.out] at ho
 have n0_ := aM (Kd.R_after (ok := (fun _ => True)) (rQ HO271) hg hat)
 have n1_ := aM (hb)
 have n2_ := aM (ho)
 clear HO271
 clear HB
 clear HO274
 have HO271 := n0_
 have HB := n1_
 have HO278 := n2_
 clear n0_ n1_ n2_
 clear ho hb hg hat
 refine hK.out _ _ trivial (fun hHeld => ?_)
 clear hK K
 refine norm_ (a' := ?_) ?_ ?_
 rotate_left
 ·show Act.put _ (some 14) _ = _
  simp only [Act.put, List.setIfInBounds_toArray, List.set_cons_zero, List.set_cons_succ, i64_w, i32_w]
  rfl
 refine pure_ (i := 10) (N := some 4) (v := ?_) (a' := ?_) #[true, true, true, true, true, true, true, true, true, true, true] rfl rfl (any_of HT_.out (by kernel_rfl)) (fun _ _ _ h => h) (Or.inl ⟨by rfl, ?_⟩) ?_ ?_
 rotate_left
 ·intro w'
  go_simp
  with_reducible rfl
 rotate_left
 ·simp only [Act.put, List.setIfInBounds_toArray, List.set_cons_zero, List.set_cons_succ, i64_w, i32_w]
  rfl
 refine done_ (done_of HT_.out (by kernel_rfl)) ?_
 try go_wp2
 go_ret
 exact ⟨_, eE, by (with_reducible repeat first|apply rA|apply rN|apply rD); exact Kd.R_mono HO278.out (fun _ hk => trivial), bq⟩

end Go.Proofs.YtcodionjhcmfhaaGreatDoor.Ax
