-- Written by hook.py, a program of this session (wip/), which runs the kit's print.py with its own parts; Lean checks it.
import Derived.Test.YtcodionjhcmfhaaDoorBe0
import Derived.Test.YtcodionjhcmfhaaDoorBeXSq
namespace Go.Proofs.YtcodionjhcmfhaaDoor.Be
open Go.RowKit Go.Proofs.YtcodionjhcmfhaaDoorW.PrintWords Go.Proofs.YtcodionjhcmfhaaDoorW.PrintLast Go.Proofs.YtcodionjhcmfhaaDoorW.PrintMore Go.Proofs.YtcodionjhcmfhaaDoor.Sq
attribute [local go_sem] max2_int min2_int max_two min_two max_three min_three max_four min_four   -- for this text's walks alone
set_option linter.unusedVariables false
set_option linter.unusedSimpArgs false

def impl_ofSize.l0 : Nat → Int → Int → Int → List (List Int) → Option ((List (List Int)))
 | 0, _, _, _, _ => none
 | k + 1, x0, x5, x6, x163000 => if x6 < x5 then (if 0 ≤ x0 then (if (x0 : Int).toNat ≤ 35184372088832 then (if x163000.length < 5864062014805 then (impl_ofSize.l0 k x0 x5 (wrap64 (x6 + 1)) (x163000 ++ [(List.replicate (x0 : Int).toNat 0)])) else (none)) else (none)) else (none)) else (some x163000)
def impl_ofSize.f (k : Nat) (a0 : Int) : Option ((List (List Int))) := impl_ofSize.l0 k a0 a0 0 ([] : List (List Int))
def impl_ofSize.T4 : Bool × List (List Nat × List Nat) := (true, [([], []), ([0], [0]), ([], []), ([2, 2], [2]), ([3], [3]), ([1, 4], [1, 4]), ([0, 1, 2, 3, 4, 5], []), ([6, 5, 5, 0, 1, 2, 3, 4, 5], [5, 6])])
def impl_ofSize.B4 : List Nat := [0, 1, 0, 4, 12, 31, 63, 127]
theorem impl_ofSize.tab4 : rtab .any (opsOf Tryd.f70 4) = impl_ofSize.T4 := by kernel_rfl
theorem impl_ofSize.bits4 : waitsOk impl_ofSize.T4.2 impl_ofSize.B4 = true := by kernel_rfl
set_option maxHeartbeats 8000000 in
set_option maxRecDepth 100000 in
theorem impl_ofSize.calls (k : Nat) (a0 : Int) (r : List (List Int)) (w : World) (h : impl_ofSize.f k a0 = some r) :
  Calls Tryd.prog 70 #[.int .i64 a0] w fun e w' => ∃ v0_ : Value, e = .returned (.agg #[v0_]) ∧ Kd.S (Kd.slice 3 (Kd.int .i64)) 22 w' w.heap.size (fun _ => True) v0_ r ∧ Below w.heap.size w w' := by
 have hu28 := Tryd.underlying28
 have HB := aM (Below.refl w.heap.size w)
 have H : (impl_ofSize.l0 k a0 a0 0 ([] : List (List Int))) = some r := h
 clear h
 have H' := aM H
 clear H
 go_enter Tryd.func70, Tryd.ntmps70
 go_wp2_with (first | ((with_reducible refine gate_dst (N := 2) rfl ?_); refine bE 2 28 #[.slice none 0 0] ?_; intro gb161 hg w2 hbox hb; have _ := aM (below_step bq hb); have _ := aM (hbox); have _ := aM ((gS hg)); have _ := aM ((gS hg)); clear HB; rename_i HB BK161 GW161 GE161; clear hb hbox hg) | ((with_reducible refine gate_dst (N := 3) rfl ?_); refine bE 3 28 #[.slice none 0 0] ?_; intro gb162 hg w3 hbox hb; have _ := aM (blk_below (qQ BK161) hb); have _ := aM (below_step bq hb); have _ := aM (hbox); have _ := aM ((gS hg)); have _ := aM ((gS hg)); have _ := aM ((by rw [hg]; exact Nat.ne_of_lt (blk_lt (g := gb161) (o := .cells #[.slice none 0 0] 28 (0, 0)) (qQ BK161)) : gb161 ≠ gb162)); have _ := aM ((by rw [hg]; exact Nat.ne_of_gt (blk_lt (g := gb161) (o := .cells #[.slice none 0 0] 28 (0, 0)) (qQ BK161)) : gb162 ≠ gb161)); clear BK161 HB; rename_i BK161 HB BK162 GW162 GE162 NB161_162 NB162_161; clear hb hbox hg; have hnb4 := NB162_161.out; have hnc4 := NB161_162.out; have hcz5_0 := zc10 BK162; have hfz5_0 := blk_frozen BK162.out 0))
 go_loopg [6] k (fun kq v6 w' => ∃ (x6_1 : Int) (x163000_1 : List (List Int)) (u163000 : Value), v6 = .int .i64 x6_1 ∧ Aside0 (impl_ofSize.l0 kq a0 a0 x6_1 x163000_1 = some r) ∧ Aside0 (kq ≤ k) ∧ Aside0 (Kd.S (Kd.slice 3 (Kd.int .i64)) 22 w' w.heap.size (fun _ => True) u163000 x163000_1) ∧ Aside0 (w'.heap[gb161]? = some (.cells #[(.slice none 0 0)] 28 (0, 0))) ∧ Aside0 (w'.heap[gb162]? = some (.cells #[u163000] 28 (0, 0))) ∧ Aside0 (Below w.heap.size w w'))
 case atStart => exact ⟨(0), (([] : List (List Int))), (.slice none 0 0), eR, H', ⟨Nat.le_refl _⟩, ⟨by first | exact Kd.S_nil _ _ _ _ _ | exact Kd.N_nil _ _ _ _ _ | exact Kd.V_nil _ _ _ _ _ | exact Kd.Q_nil _ _ _ _ _ | exact Kd.R_nil _ _ _ _ _⟩, ⟨by (with_reducible repeat first|apply qN|apply qD|apply qA); refine blk_far ?_ NB161_162.out _; (with_reducible repeat first|apply qN|apply qD|apply qA); exact BK161.out⟩, ⟨by (with_reducible repeat first|apply qN|apply qD|apply qA); refine blk_put (cs := #[.slice none 0 0]) ?_ 0 _ rfl; (with_reducible repeat first|apply qN|apply qD|apply qA); exact BK162.out⟩, ⟨bq⟩⟩
 case round =>
  clear H'
  try clear p2
  try clear c4
  try clear hcz5_0
  try clear hfz5_0
  obtain ⟨x6_1, x163000_1, u163000, rfl, HA, HK1, HO_163000, BK161, BK162, HB⟩ := hrel
  cases gk with
  | zero => exact absurd HA.out (by simp [impl_ofSize.l0])
  | succ k1 =>
   have H := HA.out
   clear HA
   simp only [impl_ofSize.l0] at H
   by_cases c6 : x6_1 < a0
   ·rw [if_pos c6] at H
    have c6b0 := decide_eq_true c6
    clear c6
    replace H := iS H
    obtain ⟨c7, H⟩ := H
    have c7b0 := eq_true c7
    have c7b1 := decide_eq_true c7
    clear c7
    replace H := iS H
    obtain ⟨c8, H⟩ := H
    have c8b0 := eq_true c8
    have c8b1 := decide_eq_true c8
    clear c8
    obtain ⟨y163, hy163⟩ : ∃ y_ : List Int, y_ = (List.replicate (a0 : Int).toNat 0) := ⟨_, rfl⟩
    replace H : (if x163000_1.length < 5864062014805 then (impl_ofSize.l0 k1 a0 a0 (wrap64 (x6_1 + 1)) (x163000_1 ++ [y163])) else (none)) = some r := by first | (rw [hy163]; with_reducible exact H) | (have H2_ := (Option.bind_some _ _).symm.trans H; rw [hy163]; with_reducible exact H2_) | (have H2_ := (Option.bind_some _ _).symm.trans H; with_reducible exact H2_) | with_reducible exact H | (rw [hy163]; exact H) | exact H
    have Ny163 := aM hy163
    clear hy163
    replace H := iS H
    obtain ⟨c9, H⟩ := H
    have LMc9 := aM c9
    clear c9
    obtain ⟨y166, hy166⟩ : ∃ y_ : List (List Int), y_ = (x163000_1 ++ [y163]) := ⟨_, rfl⟩
    replace H : (impl_ofSize.l0 k1 a0 a0 (wrap64 (x6_1 + 1)) y166) = some r := by first | (rw [hy166]; with_reducible exact H) | (have H2_ := (Option.bind_some _ _).symm.trans H; rw [hy166]; with_reducible exact H2_) | (have H2_ := (Option.bind_some _ _).symm.trans H; with_reducible exact H2_) | with_reducible exact H | (rw [hy166]; exact H) | exact H
    have Ny166 := aM hy166
    clear hy166
    have H' := aM H
    clear H
    try go_wp2
    have n0_ := aM (Kd.S_drew HO_163000.out)
    have n1_ := aM (blk_drew BK161.out)
    have n2_ := aM (blk_drew BK162.out)
    have n3_ := aM (below_drew1 HB.out)
    clear HO_163000
    clear BK161
    clear BK162
    clear HB
    have HO_163000 := n0_
    have BK161 := n1_
    have BK162 := n2_
    have HB := n3_
    clear n0_ n1_ n2_ n3_
    refine start_ (n := 8) (S := fun w' => w'.cell? ⟨gb162, 0, none⟩ = some (u163000)) (ds := [7]) #[false, false, false, false, false, false, false, false] (by kernel_rfl) rfl rfl ((blk_cell BK162.out 0).trans rfl) (fun hHeld => ?_); refine with_tabW impl_ofSize.tab4 impl_ofSize.bits4 (fun HT_ HW_ => ?_)
    generalize wr.drew = w10 at HO_163000 BK161 BK162 HB hHeld ⊢
    refine pure_ (i := 0) (N := some 8) (v := ?_) (a' := ?_) #[true, false, false, false, false, false, false, false] rfl rfl (any_of HT_.out (by kernel_rfl)) (fun _ _ _ h => h) (Or.inl ⟨by rfl, ?_⟩) ?_ ?_
    rotate_left
    ·intro w'
     go_simp
     with_reducible rfl
    rotate_left
    ·simp only [Act.put, List.setIfInBounds_toArray, List.set_cons_zero, List.set_cons_succ, i64_w, i32_w]
     rfl
    refine pure_ (i := 2) (N := some 10) (v := ?_) (a' := ?_) #[true, false, true, false, false, false, false, false] rfl rfl (any_of HT_.out (by kernel_rfl)) (fun _ _ _ h => h) (Or.inl ⟨by rfl, ?_⟩) ?_ ?_
    rotate_left
    ·intro w'
     go_simp
     with_reducible rfl
    rotate_left
    ·simp only [Act.put, List.setIfInBounds_toArray, List.set_cons_zero, List.set_cons_succ, i64_w, i32_w]
     rfl
    refine take_ (i := 1) (N := some 9) (v := ?_) (a' := ?_) #[true, true, true, false, false, false, false, false] rfl rfl (take_ofW HT_.out HW_.out (by kernel_rfl)) (fun _ _ _ h => h) (Or.inl ⟨by rfl, ?_⟩) hHeld ?_ ?_
    rotate_left
    ·intro w' s0
     go_simp
     with_reducible rfl
    rotate_left
    ·simp only [Act.put, List.setIfInBounds_toArray, List.set_cons_zero, List.set_cons_succ, i64_w, i32_w]
     rfl
    refine one_ (i := 3) (N := some 11) #[true, true, true, true, false, false, false, false] rfl rfl (one_of HT_.out (by kernel_rfl)) (by decide) (fun K hK => ?_)
    refine Kd.R_make_step (Kd.int .i64) _ 3 (by rfl) (N := 11) rfl 22 _ _ rfl a0 rfl rfl Tryd.underlying22 (.int .i64 0) 8 info3 rfl (by decide) (by omega) 0 (ok := fun _ => True) (okp := fun _ => True) rfl (fun _ hk => hk) trivial (odt) (Nat.le_trans (Nat.mul_le_mul_right _ (odt : a0.toNat ≤ 35184372088832)) (by omega)) (Below.refl _ _) (Nat.le_refl _) ?_
    intro v164 w11 ho12 hb hg_ hnew_
    clear hg_ hnew_
    (first | rw [← Ny163.out] at ho12 | (simp only [Int.reduceToNat] at ho12; rw [← Ny163.out] at ho12))
    have n0_ := aM (Kd.S_elder' (sQ HO_163000) (Kd.R_base ho12) hb)
    have n1_ := aM (Kd.R_lower ho12 (below_size bq))
    have n2_ := aM (blk_below (qQ BK161) hb)
    have n3_ := aM (blk_below (qQ BK162) hb)
    have n4_ := aM (below_step bq hb)
    clear HO_163000
    clear BK161
    clear BK162
    clear HB
    have HO_163000 := n0_
    have HO165 := n1_
    have BK161 := n2_
    have BK162 := n3_
    have HB := n4_
    clear n0_ n1_ n2_ n3_ n4_
    clear hb ho12
    obtain ⟨Ao14, co14, eo14⟩ := Kd.R_slice HO165.out
    (first | subst eo14 | (injection eo14 with f1_ f2_ f3_; have f4_ := f1_.symm; have f5_ := f3_.symm; clear f1_ f2_ f3_; subst f4_; subst f5_))
    refine hK.out _ _ ((blk_cell BK162.out 0).trans rfl) (fun hHeld => ?_)
    clear hK K
    refine norm_ (a' := ?_) ?_ ?_
    rotate_left
    ·show Act.put _ (some 11) _ = _
     simp only [Act.put, List.setIfInBounds_toArray, List.set_cons_zero, List.set_cons_succ, i64_w, i32_w]
     rfl
    refine one_ (i := 4) (N := some 12) #[true, true, true, true, true, false, false, false] rfl rfl (one_of HT_.out (by kernel_rfl)) (by decide) (fun K hK => ?_)
    refine value_ (w1 := ?_) (v := ?_) (by rfl) rfl ?_ ?_
    rotate_left 2
    ·go_simp
     constructor
     ·rfl
     ·rfl
    refine hK.out _ _ ((blk_cell (blk_alloc BK162.out _) 0).trans rfl) (fun hHeld => ?_)
    clear hK K
    refine norm_ (a' := ?_) ?_ ?_
    rotate_left
    ·show Act.put _ (some 12) _ = _
     simp only [Act.put, List.setIfInBounds_toArray, List.set_cons_zero, List.set_cons_succ, i64_w, i32_w]
     rfl
    refine one_ (i := 5) (N := some 13) #[true, true, true, true, true, true, false, false] rfl rfl (one_of HT_.out (by kernel_rfl)) (by decide) (fun K hK => ?_)
    refine Kd.S_append_step (Kd.slice 3 (Kd.int .i64)) (w0 := w) w.heap.size (by rfl) (.tmp 9) (.tmp 12) 26 22 (.slice none 0 0) 24 rfl Tryd.underlying26 info22 rfl (by decide) (by omega) u163000 x163000_1 y163 [.slice Ao14 y163.length co14] (fun _ => True) (fun k_ => some k_ = (.slice Ao14 y163.length co14 : Value).ownBlock) rfl rfl ?aP (fun k_ hk_ => ((Kd.R_mono (ok' := fun k_ => ((fun _ => True)) k_ ∧ some k_ ≠ (u163000 : Value).ownBlock) (Kd.R_apart' (HO165.out) (Kd.S_typed HO_163000.out) (by decide)) (fun k_ hk => ⟨trivial, hk.2⟩))).1 k_ hk_.symm) ?aF ?aO ?aB ?aS ?aL ?_
    (case aP => exact Kd.M_row (Kd.R_mono (Kd.R_tight rfl (Kd.R_mono (ok' := fun k_ => ((fun _ => True)) k_ ∧ some k_ ≠ (u163000 : Value).ownBlock) (Kd.R_apart' (HO165.out) (Kd.S_typed HO_163000.out) (by decide)) (fun k_ hk => ⟨trivial, hk.2⟩))) (fun _ h_ => h_)))
    (case aB => exact bq)
    (case aF => exact (fun _ _ => trivial))
    (case aO => exact (by (with_reducible repeat first|apply sA|apply sN|apply sD); exact Kd.S_mono HO_163000.out (fun k_ hk => ⟨trivial, fun e_ => hk.2 e_⟩)))
    (case aS => exact (below_size bq))
    (case aL => have := LMc9.out; omega)
    intro v167 w13 ho hb hg hat
    rw [← Ny166.out] at ho
    have n0_ := aM (blk_grown (g := gb161) (o := .cells #[.slice none 0 0] 28 (0, 0)) (qQ BK161) hg (Kd.S_ne HO_163000.out BK161.out (by decide)))
    have n1_ := aM (blk_grown (g := gb162) (o := .cells #[u163000] 28 (0, 0)) (qQ BK162) hg (Kd.S_ne HO_163000.out BK162.out (by decide)))
    have n2_ := aM (hb)
    have n3_ := aM (ho)
    clear BK161
    clear BK162
    clear HB
    clear HO_163000
    clear HO165
    have BK161 := n0_
    have BK162 := n1_
    have HB := n2_
    have HO168 := n3_
    clear n0_ n1_ n2_ n3_
    clear ho hb hg hat
    obtain ⟨Ao15, co15, eo15⟩ := Kd.S_slice HO168.out
    (first | subst eo15 | (injection eo15 with f1_ f2_ f3_; have f4_ := f1_.symm; have f5_ := f3_.symm; clear f1_ f2_ f3_; subst f4_; subst f5_))
    refine hK.out _ _ ((blk_cell BK162.out 0).trans rfl) (fun hHeld => ?_)
    clear hK K
    refine norm_ (a' := ?_) ?_ ?_
    rotate_left
    ·show Act.put _ (some 13) _ = _
     simp only [Act.put, List.setIfInBounds_toArray, List.set_cons_zero, List.set_cons_succ, i64_w, i32_w]
     rfl
    refine pure_ (i := 6) (N := some 14) (v := ?_) (a' := ?_) #[true, true, true, true, true, true, true, false] rfl rfl (any_of HT_.out (by kernel_rfl)) (fun _ _ _ h => h) (Or.inl ⟨by rfl, ?_⟩) ?_ ?_
    rotate_left
    ·intro w'
     go_simp
     with_reducible rfl
    rotate_left
    ·simp only [Act.put, List.setIfInBounds_toArray, List.set_cons_zero, List.set_cons_succ, i64_w, i32_w]
     rfl
    refine last_ (i := 7) (N := none) #[true, true, true, true, true, true, true, true] rfl rfl (one_of HT_.out (by kernel_rfl)) (by decide) (fun K hK => ?_)
    have hs16 := zc10 BK162
    have hfs16 := blk_frozen BK162.out 0
    have hns16_0 := NB161_162.out
    have hms16_0 := NB162_161.out
    refine skip_ (w1 := ?_) (by rfl) rfl ?_ ?_
    rotate_left
    ·go_simp
     rfl
    refine hK.out _ _ ?_
    clear hK K
    refine done_ (done_of HT_.out (by kernel_rfl)) ?_
    try go_wp2
    go_roundg k1
    case measure => have := HK1.out; omega
    case rel => exact ⟨(wrap64 (x6_1 + 1)), (y166), (.slice Ao15 y166.length co15), eR, H', ⟨by have := HK1.out; omega⟩, ⟨by (with_reducible repeat first|apply sA|apply sN|apply sD); exact Kd.S_mono (Kd.S_far (p := ⟨gb162, 0, none⟩) (Kd.S_types HO168.out BK162.out (by decide)) (fun _ hk => hk.2) (.slice Ao15 y166.length co15)) (fun _ hk => trivial)⟩, ⟨by (with_reducible repeat first|apply qN|apply qD|apply qA); refine blk_far ?_ NB161_162.out _; (with_reducible repeat first|apply qN|apply qD|apply qA); exact BK161.out⟩, ⟨by (with_reducible repeat first|apply qN|apply qD|apply qA); refine blk_put (cs := #[u163000]) ?_ 0 _ rfl; (with_reducible repeat first|apply qN|apply qD|apply qA); exact BK162.out⟩, ⟨bq⟩⟩
   ·rw [if_neg c6] at H
    have c6b0 := decide_eq_false c6
    clear c6
    obtain rfl := Option.some.inj H
    have hnb17 := NB162_161.out
    have hnc17 := NB161_162.out
    have hcz18_0 := zc10 BK162
    have hfz18_0 := blk_frozen BK162.out 0
    obtain ⟨Ao19, co19, eo19⟩ := Kd.S_slice HO_163000.out
    subst eo19
    have hcz20_0 := zc10 BK161
    have hfz20_0 := blk_frozen BK161.out 0
    go_wp2
    refine bodyPost_ret (results_cell_row rfl _ _ gb161 28 #[.slice Ao19 x163000_1.length co19] (0, 0) _ rfl (by (with_reducible repeat first|apply qN|apply qD|apply qA); refine blk_put (cs := #[.slice none 0 0]) ?_ 0 _ rfl; (with_reducible repeat first|apply qN|apply qD|apply qA); exact BK161.out) Tryd.underlying28 rfl (by kernel_rfl)) rfl ?_
    exact ⟨_, eE, by (with_reducible repeat first|apply sA|apply sN|apply sD); exact Kd.S_mono (Kd.S_far (p := ⟨gb161, 0, none⟩) (Kd.S_types HO_163000.out BK161.out (by decide)) (fun _ hk => hk.2) (.slice Ao19 x163000_1.length co19)) (fun _ hk => trivial), bq⟩

end Go.Proofs.YtcodionjhcmfhaaDoor.Be
