-- Written by hook.py, a program of this session (wip/), which runs the kit's print.py with its own parts; Lean checks it.
import Derived.Test.YtcodionjhcmfhaaGreatDoorAx0
import Derived.Test.YtcodionjhcmfhaaGreatDoorAx4
import Derived.Test.YtcodionjhcmfhaaGreatDoorAxXSq
namespace Go.Proofs.YtcodionjhcmfhaaGreatDoor.Ax
open Go.RowKit Go.Proofs.YtcodionjhcmfhaaGreatDoorW.PrintWords Go.Proofs.YtcodionjhcmfhaaGreatDoorW.PrintLast Go.Proofs.YtcodionjhcmfhaaGreatDoorW.PrintMore Go.Proofs.YtcodionjhcmfhaaGreatDoor.Sq
attribute [local go_sem] max2_int min2_int max_two min_two max_three min_three max_four min_four   -- for this text's walks alone
set_option linter.unusedVariables false
set_option linter.unusedSimpArgs false

def impl_Matrix_own.l0 : Nat → List (List Int) → Int → Int → List (List Int) → Option ((List (List Int)))
 | 0, _, _, _, _ => none
 | k + 1, x8, x9, x10, x155000 => if x10 < x9 then (if 0 ≤ x10 then (if x10 < (x8.length : Int) then ((slices_Clone_int_int.f (rd_L2 x8 x10)).bind fun t156 => (if x155000.length < 5864062014805 then (impl_Matrix_own.l0 k x8 x9 (wrap64 (x10 + 1)) (x155000 ++ [t156])) else (none))) else (none)) else (none)) else (some x155000)
def impl_Matrix_own.f (k : Nat) (l0_0 : List (List Int)) : Option ((List (List Int))) := impl_Matrix_own.l0 k l0_0 (l0_0.length : Int) 0 ([] : List (List Int))
def impl_Matrix_own.T5 : Bool × List (List Nat × List Nat) := (true, [([], []), ([0], [0]), ([], []), ([2], [2]), ([3], [3]), ([1, 4, 3], [1, 4]), ([0, 1, 2, 3, 4, 5], []), ([6, 5, 5, 0, 1, 2, 3, 4, 5], [5, 6])])
def impl_Matrix_own.B5 : List Nat := [0, 1, 0, 4, 12, 31, 63, 127]
theorem impl_Matrix_own.tab5 : rtab .any (opsOf Tryz.f60 5) = impl_Matrix_own.T5 := by kernel_rfl
theorem impl_Matrix_own.bits5 : waitsOk impl_Matrix_own.T5.2 impl_Matrix_own.B5 = true := by kernel_rfl
set_option maxHeartbeats 8000000 in
set_option maxRecDepth 100000 in
theorem impl_Matrix_own.calls (k : Nat) (A0_0 : Option Addr) (c0_0 : Nat) (l0_0 : List (List Int)) (r : List (List Int)) (w : World) (hr0_0 : Kd.C (Kd.slice 3 (Kd.int .i64)) w A0_0 l0_0.length l0_0) (hc0_0 : l0_0.length ≤ c0_0) (h : impl_Matrix_own.f k l0_0 = some r) :
  Calls Tryz.prog 60 #[.agg #[.slice A0_0 l0_0.length c0_0]] w fun e w' => ∃ v0_ : Value, e = .returned (.agg #[v0_]) ∧ Kd.S (Kd.slice 3 (Kd.int .i64)) 24 w' w.heap.size (fun _ => True) v0_ r ∧ Below w.heap.size w w' := by
 have hu30 := Tryz.underlying30
 have HR0_0 := aM hr0_0
 have HC0_0 := aM hc0_0
 clear hr0_0 hc0_0
 have HB := aM (Below.refl w.heap.size w)
 have H : (impl_Matrix_own.l0 k l0_0 (l0_0.length : Int) 0 ([] : List (List Int))) = some r := h
 clear h
 have H' := aM H
 clear H
 go_enter Tryz.func60, Tryz.ntmps60
 go_wp2_with (first | ((with_reducible refine gate_dst (N := 1) rfl ?_); refine bE 1 30 #[.slice A0_0 l0_0.length c0_0] ?_; intro gb152 hg w2 hbox hb; have _ := aM (below_step bq hb); have _ := aM (hbox); have _ := aM ((gS hg)); have _ := aM ((gS hg)); clear HB; rename_i HB BK152 GW152 GE152; clear hb hbox hg) | ((with_reducible refine gate_dst (N := 2) rfl ?_); refine bE 2 30 #[.slice none 0 0] ?_; intro gb153 hg w3 hbox hb; have _ := aM (blk_below (qQ BK152) hb); have _ := aM (below_step bq hb); have _ := aM (hbox); have _ := aM ((gS hg)); have _ := aM ((gS hg)); have _ := aM ((by rw [hg]; exact Nat.ne_of_lt (blk_lt (g := gb152) (o := .cells #[.slice A0_0 l0_0.length c0_0] 30 (0, 0)) (qQ BK152)) : gb152 ≠ gb153)); have _ := aM ((by rw [hg]; exact Nat.ne_of_gt (blk_lt (g := gb152) (o := .cells #[.slice A0_0 l0_0.length c0_0] 30 (0, 0)) (qQ BK152)) : gb153 ≠ gb152)); clear BK152 HB; rename_i BK152 HB BK153 GW153 GE153 NB152_153 NB153_152; clear hb hbox hg) | ((with_reducible refine gate_dst (N := 3) rfl ?_); refine bE 3 30 #[.slice none 0 0] ?_; intro gb154 hg w4 hbox hb; have _ := aM (blk_below (qQ BK152) hb); have _ := aM (blk_below (qQ BK153) hb); have _ := aM (below_step bq hb); have _ := aM (hbox); have _ := aM ((gS hg)); have _ := aM ((gS hg)); have _ := aM ((by rw [hg]; exact Nat.ne_of_lt (blk_lt (g := gb152) (o := .cells #[.slice A0_0 l0_0.length c0_0] 30 (0, 0)) (qQ BK152)) : gb152 ≠ gb154)); have _ := aM ((by rw [hg]; exact Nat.ne_of_gt (blk_lt (g := gb152) (o := .cells #[.slice A0_0 l0_0.length c0_0] 30 (0, 0)) (qQ BK152)) : gb154 ≠ gb152)); have _ := aM ((by rw [hg]; exact Nat.ne_of_lt (blk_lt (g := gb153) (o := .cells #[.slice none 0 0] 30 (0, 0)) (qQ BK153)) : gb153 ≠ gb154)); have _ := aM ((by rw [hg]; exact Nat.ne_of_gt (blk_lt (g := gb153) (o := .cells #[.slice none 0 0] 30 (0, 0)) (qQ BK153)) : gb154 ≠ gb153)); clear BK152 BK153 HB; rename_i BK152 BK153 HB BK154 GW154 GE154 NB152_154 NB154_152 NB153_154 NB154_153; clear hb hbox hg; have hnb5 := NB154_152.out; have hnc5 := NB152_154.out; have hnb6 := NB154_153.out; have hnc6 := NB153_154.out; have hcz7_0 := c10 BK154; have hfz7_0 := blk_frozen BK154.out 0; have hnb8 := NB152_153.out; have hnc8 := NB153_152.out; have hcz9_0 := c10 BK152; have hfz9_0 := blk_frozen BK152.out 0))
 go_loopg [10] k (fun kq v10 w' => ∃ (x10_1 : Int) (x155000_1 : List (List Int)) (u155000 : Value), v10 = .int .i64 x10_1 ∧ Aside0 (impl_Matrix_own.l0 kq l0_0 (l0_0.length : Int) x10_1 x155000_1 = some r) ∧ Aside0 (kq ≤ k) ∧ Aside0 (Kd.S (Kd.slice 3 (Kd.int .i64)) 24 w' w.heap.size (fun _ => True) u155000 x155000_1) ∧ Aside0 (w'.heap[gb152]? = some (.cells #[(.slice A0_0 l0_0.length c0_0)] 30 (0, 0))) ∧ Aside0 (w'.heap[gb153]? = some (.cells #[(.slice none 0 0)] 30 (0, 0))) ∧ Aside0 (w'.heap[gb154]? = some (.cells #[u155000] 30 (0, 0))) ∧ Aside0 (Below w.heap.size w w'))
 case atStart => exact ⟨(0), (([] : List (List Int))), (.slice none 0 0), eR, H', ⟨Nat.le_refl _⟩, ⟨by first | exact Kd.S_nil _ _ _ _ _ | exact Kd.N_nil _ _ _ _ _ | exact Kd.V_nil _ _ _ _ _ | exact Kd.Q_nil _ _ _ _ _ | exact Kd.R_nil _ _ _ _ _⟩, ⟨by (with_reducible repeat first|apply qN|apply qD|apply qA); refine blk_far ?_ NB152_154.out _; (with_reducible repeat first|apply qN|apply qD|apply qA); exact BK152.out⟩, ⟨by (with_reducible repeat first|apply qN|apply qD|apply qA); refine blk_far ?_ NB153_154.out _; (with_reducible repeat first|apply qN|apply qD|apply qA); exact BK153.out⟩, ⟨by (with_reducible repeat first|apply qN|apply qD|apply qA); refine blk_put (cs := #[.slice none 0 0]) ?_ 0 _ rfl; (with_reducible repeat first|apply qN|apply qD|apply qA); exact BK154.out⟩, ⟨bq⟩⟩
 case round =>
  clear H'
  try clear p2
  try clear c5
  try clear c6
  try clear c8
  try clear hcz7_0
  try clear hcz9_0
  try clear hfz7_0
  try clear hfz9_0
  obtain ⟨x10_1, x155000_1, u155000, rfl, HA, HK1, HO_155000, BK152, BK153, BK154, HB⟩ := hrel
  cases gk with
  | zero => exact absurd HA.out (by simp [impl_Matrix_own.l0])
  | succ k1 =>
   have H := HA.out
   clear HA
   simp only [impl_Matrix_own.l0] at H
   by_cases c10 : x10_1 < (l0_0.length : Int)
   ·rw [if_pos c10] at H
    have c10b0 := decide_eq_true c10
    clear c10
    replace H := iD2 H
    obtain ⟨c11b0, c12b0, H⟩ := H
    replace H := bS H
    obtain ⟨t156, A13, H⟩ := H
    try dsimp only at H
    replace H := iS H
    obtain ⟨c14, H⟩ := H
    have LMc14 := aM c14
    clear c14
    obtain ⟨y159, hy159⟩ : ∃ y_ : List (List Int), y_ = (x155000_1 ++ [t156]) := ⟨_, rfl⟩
    replace H : (impl_Matrix_own.l0 k1 l0_0 (l0_0.length : Int) (wrap64 (x10_1 + 1)) y159) = some r := by first | (rw [hy159]; with_reducible exact H) | (have H2_ := (Option.bind_some _ _).symm.trans H; rw [hy159]; with_reducible exact H2_) | (have H2_ := (Option.bind_some _ _).symm.trans H; with_reducible exact H2_) | with_reducible exact H | (rw [hy159]; exact H) | exact H
    have Ny159 := aM hy159
    clear hy159
    have H' := aM H
    clear H
    have p155 : 0 ≤ (x10_1 : Int) := odt
    have q155 : x10_1 < (l0_0.length : Int) := odt
    obtain ⟨ad155, A155_0, c155_0, e155, hx155_0, hl155_0, hi155_0⟩ := at_L2 HR0_0.out x10_1 p155 q155
    cases e155
    replace hx155_0 := (HB.out.cell (World.block_lt_of_cell? w _ hx155_0)).trans hx155_0
    have HR155_0 := aM hi155_0
    have HC155_0 := aM hl155_0
    clear hi155_0 hl155_0
    replace p155 := eq_true p155
    replace q155 := eq_true q155
    try go_wp2
    have n0_ := aM (Kd.S_drew HO_155000.out)
    have n1_ := aM (blk_drew BK152.out)
    have n2_ := aM (blk_drew BK153.out)
    have n3_ := aM (blk_drew BK154.out)
    have n4_ := aM (below_drew1 HB.out)
    clear HO_155000
    clear BK152
    clear BK153
    clear BK154
    clear HB
    have HO_155000 := n0_
    have BK152 := n1_
    have BK153 := n2_
    have BK154 := n3_
    have HB := n4_
    clear n0_ n1_ n2_ n3_ n4_
    refine start_ (n := 8) (S := fun w' => w'.cell? ⟨gb154, 0, none⟩ = some (u155000)) (ds := [7]) #[false, false, false, false, false, false, false, false] (by kernel_rfl) rfl rfl ((blk_cell BK154.out 0).trans rfl) (fun hHeld => ?_); refine with_tabW impl_Matrix_own.tab5 impl_Matrix_own.bits5 (fun HT_ HW_ => ?_)
    generalize wr.drew = w15 at HO_155000 BK152 BK153 BK154 HB hHeld ⊢
    refine pure_ (i := 0) (N := some 14) (v := ?_) (a' := ?_) #[true, false, false, false, false, false, false, false] rfl rfl (any_of HT_.out (by kernel_rfl)) (fun _ _ _ h => h) (Or.inl ⟨by rfl, ?_⟩) ?_ ?_
    rotate_left
    ·intro w'
     go_simp
     with_reducible rfl
    rotate_left
    ·simp only [Act.put, List.setIfInBounds_toArray, List.set_cons_zero, List.set_cons_succ, i64_w, i32_w]
     rfl
    refine pure_ (i := 2) (N := some 16) (v := ?_) (a' := ?_) #[true, false, true, false, false, false, false, false] rfl rfl (any_of HT_.out (by kernel_rfl)) (fun _ _ _ h => h) (Or.inl ⟨by rfl, ?_⟩) ?_ ?_
    rotate_left
    ·intro w'
     go_simp
     with_reducible rfl
    rotate_left
    ·simp only [Act.put, List.setIfInBounds_toArray, List.set_cons_zero, List.set_cons_succ, i64_w, i32_w]
     rfl
    refine take_ (i := 1) (N := some 15) (v := ?_) (a' := ?_) #[true, true, true, false, false, false, false, false] rfl rfl (take_ofW HT_.out HW_.out (by kernel_rfl)) (fun _ _ _ h => h) (Or.inl ⟨by rfl, ?_⟩) hHeld ?_ ?_
    rotate_left
    ·intro w' s0
     go_simp
     with_reducible rfl
    rotate_left
    ·simp only [Act.put, List.setIfInBounds_toArray, List.set_cons_zero, List.set_cons_succ, i64_w, i32_w]
     rfl
    refine one_ (i := 3) (N := some 17) #[true, true, true, true, false, false, false, false] rfl rfl (one_of HT_.out (by kernel_rfl)) (by decide) (fun K hK => ?_)
    refine goes_ Tryz.func100 (by kernel_rfl) rfl #[.slice A155_0 (rd_L2 l0_0 x10_1).length c155_0] (by rfl) rfl rfl (by (try simp only [List.map_toArray, List.map_cons, List.map_nil]); first | done | rfl | (simp only [List.length_drop, List.length_take]; rfl)) ?_
    with_reducible refine (slices_Clone_int_int.calls _ _ (rd_L2 l0_0 x10_1) t156 _ ?side1 ?side2 A13.out).mono ?_
    (case side1 => repeat (first | exact (Kd.C_below HR155_0.out HB.out) | (with_reducible refine Kd.C_alloc ?_ _) | (with_reducible refine Kd.C_drewN ?_ _) | (with_reducible refine Kd.C_drew ?_)))
    (case side2 => exact HC155_0.out)
    rintro e w16 ⟨v157, rfl, ho0, hb⟩
    refine ⟨_, rfl, ?_⟩
    have n0_ := aM (Kd.S_elder' (sQ HO_155000) (Kd.R_base ho0) hb)
    have n1_ := aM (Kd.R_lower ho0 (below_size bq))
    have n2_ := aM (blk_below (qQ BK152) hb)
    have n3_ := aM (blk_below (qQ BK153) hb)
    have n4_ := aM (blk_below (qQ BK154) hb)
    have n5_ := aM (below_step bq hb)
    clear HO_155000
    clear BK152
    clear BK153
    clear BK154
    clear HB
    have HO_155000 := n0_
    have HO158 := n1_
    have BK152 := n2_
    have BK153 := n3_
    have BK154 := n4_
    have HB := n5_
    clear n0_ n1_ n2_ n3_ n4_ n5_
    (try clear hb)
    (try clear hb2)
    (try clear hk)
    (try clear hi)
    (try clear ho0)
    obtain ⟨Ao18, co18, eo18⟩ := Kd.R_slice HO158.out
    (first | subst eo18 | (injection eo18 with f1_ f2_ f3_; have f4_ := f1_.symm; have f5_ := f3_.symm; clear f1_ f2_ f3_; subst f4_; subst f5_))
    refine hK.out _ _ ((blk_cell BK154.out 0).trans rfl) (fun hHeld => ?_)
    clear hK K
    refine norm_ (a' := ?_) ?_ ?_
    rotate_left
    ·show Act.put _ (some 17) _ = _
     simp only [Act.put, List.setIfInBounds_toArray, List.set_cons_zero, List.set_cons_succ, i64_w, i32_w]
     rfl
    refine one_ (i := 4) (N := some 18) #[true, true, true, true, true, false, false, false] rfl rfl (one_of HT_.out (by kernel_rfl)) (by decide) (fun K hK => ?_)
    refine value_ (w1 := ?_) (v := ?_) (by rfl) rfl ?_ ?_
    rotate_left 2
    ·go_simp
     constructor
     ·rfl
     ·rfl
    refine hK.out _ _ ((blk_cell (blk_alloc BK154.out _) 0).trans rfl) (fun hHeld => ?_)
    clear hK K
    refine norm_ (a' := ?_) ?_ ?_
    rotate_left
    ·show Act.put _ (some 18) _ = _
     simp only [Act.put, List.setIfInBounds_toArray, List.set_cons_zero, List.set_cons_succ, i64_w, i32_w]
     rfl
    refine one_ (i := 5) (N := some 19) #[true, true, true, true, true, true, false, false] rfl rfl (one_of HT_.out (by kernel_rfl)) (by decide) (fun K hK => ?_)
    refine Kd.S_append_step (Kd.slice 3 (Kd.int .i64)) (w0 := w) w.heap.size (by rfl) (.tmp 15) (.tmp 18) 28 24 (.slice none 0 0) 24 rfl Tryz.underlying28 info24 rfl (by decide) (by omega) u155000 x155000_1 t156 [.slice Ao18 t156.length co18] (fun _ => True) (fun k_ => some k_ = (.slice Ao18 t156.length co18 : Value).ownBlock) rfl rfl ?aP (fun k_ hk_ => ((Kd.R_mono (ok' := fun k_ => ((fun _ => True)) k_ ∧ some k_ ≠ (u155000 : Value).ownBlock) (Kd.R_apart' (HO158.out) (Kd.S_typed HO_155000.out) (by decide)) (fun k_ hk => ⟨trivial, hk.2⟩))).1 k_ hk_.symm) ?aF ?aO ?aB ?aS ?aL ?_
    (case aP => exact Kd.M_row (Kd.R_mono (Kd.R_tight rfl (Kd.R_mono (ok' := fun k_ => ((fun _ => True)) k_ ∧ some k_ ≠ (u155000 : Value).ownBlock) (Kd.R_apart' (HO158.out) (Kd.S_typed HO_155000.out) (by decide)) (fun k_ hk => ⟨trivial, hk.2⟩))) (fun _ h_ => h_)))
    (case aB => exact bq)
    (case aF => exact (fun _ _ => trivial))
    (case aO => exact (by (with_reducible repeat first|apply sA|apply sN|apply sD); exact Kd.S_mono HO_155000.out (fun k_ hk => ⟨trivial, fun e_ => hk.2 e_⟩)))
    (case aS => exact (below_size bq))
    (case aL => have := LMc14.out; omega)
    intro v160 w17 ho hb hg hat
    rw [← Ny159.out] at ho
    have n0_ := aM (blk_grown (g := gb152) (o := .cells #[.slice (some ad155) l0_0.length c0_0] 30 (0, 0)) (qQ BK152) hg (Kd.S_ne HO_155000.out BK152.out (by decide)))
    have n1_ := aM (blk_grown (g := gb153) (o := .cells #[.slice none 0 0] 30 (0, 0)) (qQ BK153) hg (Kd.S_ne HO_155000.out BK153.out (by decide)))
    have n2_ := aM (blk_grown (g := gb154) (o := .cells #[u155000] 30 (0, 0)) (qQ BK154) hg (Kd.S_ne HO_155000.out BK154.out (by decide)))
    have n3_ := aM (hb)
    have n4_ := aM (ho)
    clear BK152
    clear BK153
    clear BK154
    clear HB
    clear HO_155000
    clear HO158
    have BK152 := n0_
    have BK153 := n1_
    have BK154 := n2_
    have HB := n3_
    have HO161 := n4_
    clear n0_ n1_ n2_ n3_ n4_
    clear ho hb hg hat
    obtain ⟨Ao19, co19, eo19⟩ := Kd.S_slice HO161.out
    (first | subst eo19 | (injection eo19 with f1_ f2_ f3_; have f4_ := f1_.symm; have f5_ := f3_.symm; clear f1_ f2_ f3_; subst f4_; subst f5_))
    refine hK.out _ _ ((blk_cell BK154.out 0).trans rfl) (fun hHeld => ?_)
    clear hK K
    refine norm_ (a' := ?_) ?_ ?_
    rotate_left
    ·show Act.put _ (some 19) _ = _
     simp only [Act.put, List.setIfInBounds_toArray, List.set_cons_zero, List.set_cons_succ, i64_w, i32_w]
     rfl
    refine pure_ (i := 6) (N := some 20) (v := ?_) (a' := ?_) #[true, true, true, true, true, true, true, false] rfl rfl (any_of HT_.out (by kernel_rfl)) (fun _ _ _ h => h) (Or.inl ⟨by rfl, ?_⟩) ?_ ?_
    rotate_left
    ·intro w'
     go_simp
     with_reducible rfl
    rotate_left
    ·simp only [Act.put, List.setIfInBounds_toArray, List.set_cons_zero, List.set_cons_succ, i64_w, i32_w]
     rfl
    refine last_ (i := 7) (N := none) #[true, true, true, true, true, true, true, true] rfl rfl (one_of HT_.out (by kernel_rfl)) (by decide) (fun K hK => ?_)
    have hs20 := c10 BK154
    have hfs20 := blk_frozen BK154.out 0
    have hns20_0 := NB152_154.out
    have hns20_1 := NB153_154.out
    have hms20_0 := NB154_152.out
    have hms20_1 := NB154_153.out
    refine skip_ (w1 := ?_) (by rfl) rfl ?_ ?_
    rotate_left
    ·go_simp
     rfl
    refine hK.out _ _ ?_
    clear hK K
    refine done_ (done_of HT_.out (by kernel_rfl)) ?_
    try go_wp2
    go_roundg k1
    case measure => have := HK1.out; omega
    case rel => exact ⟨(wrap64 (x10_1 + 1)), (y159), (.slice Ao19 y159.length co19), eR, H', ⟨by have := HK1.out; omega⟩, ⟨by (with_reducible repeat first|apply sA|apply sN|apply sD); exact Kd.S_mono (Kd.S_far (p := ⟨gb154, 0, none⟩) (Kd.S_types HO161.out BK154.out (by decide)) (fun _ hk => hk.2) (.slice Ao19 y159.length co19)) (fun _ hk => trivial)⟩, ⟨by (with_reducible repeat first|apply qN|apply qD|apply qA); refine blk_far ?_ NB152_154.out _; (with_reducible repeat first|apply qN|apply qD|apply qA); exact BK152.out⟩, ⟨by (with_reducible repeat first|apply qN|apply qD|apply qA); refine blk_far ?_ NB153_154.out _; (with_reducible repeat first|apply qN|apply qD|apply qA); exact BK153.out⟩, ⟨by (with_reducible repeat first|apply qN|apply qD|apply qA); refine blk_put (cs := #[u155000]) ?_ 0 _ rfl; (with_reducible repeat first|apply qN|apply qD|apply qA); exact BK154.out⟩, ⟨bq⟩⟩
   ·rw [if_neg c10] at H
    have c10b0 := decide_eq_false c10
    clear c10
    obtain rfl := Option.some.inj H
    have hnb21 := NB154_152.out
    have hnc21 := NB152_154.out
    have hnb22 := NB154_153.out
    have hnc22 := NB153_154.out
    have hcz23_0 := c10 BK154
    have hfz23_0 := blk_frozen BK154.out 0
    obtain ⟨Ao24, co24, eo24⟩ := Kd.S_slice HO_155000.out
    subst eo24
    have hnb25 := NB153_152.out
    have hnc25 := NB152_153.out
    have hcz26_0 := c10 BK153
    have hfz26_0 := blk_frozen BK153.out 0
    go_wp2
    refine bodyPost_ret (results_cell_row rfl _ _ gb153 30 #[.slice Ao24 x155000_1.length co24] (0, 0) _ rfl (by (with_reducible repeat first|apply qN|apply qD|apply qA); refine blk_put (cs := #[.slice none 0 0]) ?_ 0 _ rfl; (with_reducible repeat first|apply qN|apply qD|apply qA); exact BK153.out) Tryz.underlying30 rfl (by kernel_rfl)) rfl ?_
    exact ⟨_, eE, by (with_reducible repeat first|apply sA|apply sN|apply sD); exact Kd.S_mono (Kd.S_far (p := ⟨gb153, 0, none⟩) (Kd.S_types HO_155000.out BK153.out (by decide)) (fun _ hk => hk.2) (.slice Ao24 x155000_1.length co24)) (fun _ hk => trivial), bq⟩

def impl_Matrix_top_1.f (l0 : List Int) : Option (Bool) := if 0 ≤ (wrap64 ((l0.length : Int) - 1)) then (if (wrap64 ((l0.length : Int) - 1)) < (l0.length : Int) then (some ((rd l0 (wrap64 ((l0.length : Int) - 1))) != 0)) else (none)) else (none)
set_option maxHeartbeats 8000000 in
set_option maxRecDepth 100000 in
theorem impl_Matrix_top_1.calls (A0 : Option Addr) (c0 : Nat) (l0 : List Int) (r : Bool) (w : World) (hr0 : Kd.C (Kd.int .i64) w A0 l0.length l0) (hc0 : l0.length ≤ c0) (h : impl_Matrix_top_1.f l0 = some r) :
  Calls Tryz.prog 145 #[.slice A0 l0.length c0] w fun e w' => e = .returned (.bool r) ∧ Drawn0 w w' := by
 have HR0 := aM hr0
 have HC0 := aM hc0
 clear hr0 hc0
 have H : (if 0 ≤ (wrap64 ((l0.length : Int) - 1)) then (if (wrap64 ((l0.length : Int) - 1)) < (l0.length : Int) then (some ((rd l0 (wrap64 ((l0.length : Int) - 1))) != 0)) else (none)) else (none)) = some r := h
 clear h
 obtain ⟨ji2, hji2⟩ : ∃ j_ : Int, (wrap64 ((l0.length : Int) - 1)) = j_ := ⟨_, rfl⟩
 replace H : (if 0 ≤ (ji2) then (if (ji2) < (l0.length : Int) then (some ((rd l0 (ji2)) != 0)) else (none)) else (none)) = some r := by first | (rw [hji2] at H; exact H) | (simp only [hji2] at H ⊢; exact H)
 have hji2w : (IntKind.i64.wrap ((l0.length : Int) - 1)) = ji2 := (i64_w _).trans hji2
 replace H := iD2 H
 obtain ⟨c3b0, c4b0, H⟩ := H
 obtain rfl := Option.some.inj H
 have p162 : 0 ≤ ((ji2) : Int) := odt
 have q162 : (ji2) < (l0.length : Int) := odt
 obtain ⟨ad162, e162, hx162_0⟩ := Kd.at_int HR0.out (ji2) p162 q162
 cases e162
 replace p162 := eq_true p162
 replace q162 := eq_true q162
 go_enter Tryz.func145, Tryz.ntmps145
 go_wp2
 go_ret
 exact ⟨by first | rfl | (simp; done) | (simp only [← hji2] <;> (first | rfl | simp)) | (simp [*]; done), by repeat (first | exact Drawn0.refl _ | apply Drawn0.step)⟩

def slices_IndexFunc_int_int_144.seek : List (List Int) → Int → Option Int
  | [], _ => some (-1)
  | row :: rest, i => (impl_Matrix_top_1.f row).bind fun b => if b = true then some i else slices_IndexFunc_int_int_144.seek rest (i + 1)
def slices_IndexFunc_int_int_144.f (l0 : List (List Int)) : Option Int := slices_IndexFunc_int_int_144.seek l0 0
set_option maxHeartbeats 2000000 in
set_option maxRecDepth 100000 in
theorem slices_IndexFunc_int_int_144.calls (A0 : Option Addr) (c0 : Nat) (l0 : List (List Int)) (r : Int) (w : World) (hr0 : Kd.C (Kd.slice 3 (Kd.int .i64)) w A0 l0.length l0) (hc0 : l0.length ≤ c0) (h : slices_IndexFunc_int_int_144.f l0 = some r) :
    Calls Tryz.prog 144 #[.slice A0 l0.length c0, .func (.func 145) #[] #[]] w fun e w' => e = .returned (.int .i64 r) ∧ Below w.heap.size w w' := by
 have HL := aM hr0.2.1
 have HR0 := aM hr0
 have HH := aM h
 clear hr0 hc0 h
 have hle := HL.out
 go_enter Tryz.func144, Tryz.ntmps144
 go_wp2
 go_loopg [5, 8] l0.length (fun gg _ s8 w' => ∃ i : Nat, i ≤ l0.length ∧ l0.length - i ≤ gg ∧ s8 = .int .i64 i ∧ Aside0 (slices_IndexFunc_int_int_144.seek (l0.drop i) (i : Int) = some r) ∧ Drawn0 w w')
 case atStart => exact ⟨0, Nat.zero_le _, by omega, rfl, ⟨by rw [List.drop_zero]; exact HH.out⟩, Drawn0.refl _⟩
 case round => (
 clear HH
 obtain ⟨i, hi, hg, rfl, HZ, ⟨m1, rfl⟩⟩ := hrel
 by_cases hlt : i < l0.length
 · {
 obtain ⟨ad, A1, c1, ea, hx, hl1, hi1⟩ := at_L2 HR0.out (i : Int) (by omega) (by omega)
 cases ea
 have hlz : (i : Int) < (l0.length : Int) := by omega
 simp only [Int.toNat_natCast] at hx
 have hz := HZ.out
 clear HZ
 rw [List.drop_eq_getElem_cons hlt] at hz
 have er : rd_L2 l0 (i : Int) = l0[i] := by unfold rd_L2; simp [List.getD_eq_getElem?_getD, hlt]
 rw [← er] at hz
 obtain ⟨b, hb, hz⟩ := Option.bind_eq_some_iff.mp (show (impl_Matrix_top_1.f (rd_L2 l0 (i : Int))).bind _ = some r from hz)
 clear er
 have HBB := aM hb
 have HR1 := aM hi1
 have HC1 := aM hl1
 have HZ := aM hz
 clear hb hi1 hl1 hz
 cases b with
 | false => {
 go_wp2_with (first | (go_at_call 145; refine (impl_Matrix_top_1.calls A1 c1 (rd_L2 l0 (i : Int)) false _ ?side1 HC1.out HBB.out).mono ?_; (case side1 => repeat (first | exact HR1.out | (with_reducible refine Kd.C_drewN ?_ _))); rintro e w' ⟨rfl, ⟨nd, rfl⟩⟩))
 obtain ⟨k, rfl⟩ : ∃ k, gk = k + 1 := ⟨gk - 1, by omega⟩
 go_roundg k
 case measure => omega
 case rel => exact ⟨i + 1, by omega, by omega, by go_num, ⟨by have := HZ.out; simp only [Bool.false_eq_true, if_false] at this; rw [show ((i + 1 : Nat) : Int) = (i : Int) + 1 from by omega]; exact this⟩, by repeat (first | exact Drawn0.refl _ | apply Drawn0.step)⟩}
 | true => {
 go_wp2_with (first | (go_at_call 145; refine (impl_Matrix_top_1.calls A1 c1 (rd_L2 l0 (i : Int)) true _ ?side1 HC1.out HBB.out).mono ?_; (case side1 => repeat (first | exact HR1.out | (with_reducible refine Kd.C_drewN ?_ _))); rintro e w' ⟨rfl, ⟨nd, rfl⟩⟩))
 go_ret
 have e1 : some (i : Int) = some r := by have := HZ.out; simpa using this
 obtain rfl := Option.some.inj e1
 exact ⟨rfl, by repeat (first | exact Below.refl _ _ | apply pw_below_drewN)⟩}}
 · {
 go_wp2
 go_ret
 have e1 := HZ.out
 rw [List.drop_eq_nil_of_le (by omega)] at e1
 obtain rfl := Option.some.inj e1
 exact ⟨rfl, by repeat (first | exact Below.refl _ _ | apply pw_below_drewN)⟩})
def impl_Matrix_top.f (l0_0 : List (List Int)) : Option (Int) := (slices_IndexFunc_int_int_144.f l0_0).bind fun t164 => (some t164)
set_option maxHeartbeats 8000000 in
set_option maxRecDepth 100000 in
theorem impl_Matrix_top.calls (A0_0 : Option Addr) (c0_0 : Nat) (l0_0 : List (List Int)) (r : Int) (w : World) (hr0_0 : Kd.C (Kd.slice 3 (Kd.int .i64)) w A0_0 l0_0.length l0_0) (hc0_0 : l0_0.length ≤ c0_0) (h : impl_Matrix_top.f l0_0 = some r) :
  Calls Tryz.prog 117 #[.agg #[.slice A0_0 l0_0.length c0_0]] w fun e w' => e = .returned (.int .i64 r) ∧ Below w.heap.size w w' := by
 have hu30 := Tryz.underlying30
 have HR0_0 := aM hr0_0
 have HC0_0 := aM hc0_0
 clear hr0_0 hc0_0
 have HB := aM (Below.refl w.heap.size w)
 have H : ((slices_IndexFunc_int_int_144.f l0_0).bind fun t164 => (some t164)) = some r := h
 clear h
 replace H := bS H
 obtain ⟨t164, A2, H⟩ := H
 try dsimp only at H
 obtain rfl := Option.some.inj H
 go_enter Tryz.func117, Tryz.ntmps117
 go_wp2_with (first | ((with_reducible refine gate_dst (N := 1) rfl ?_); refine bE 1 30 #[.slice A0_0 l0_0.length c0_0] ?_; intro gb163 hg w3 hbox hb; have _ := aM (below_step bq hb); have _ := aM (hbox); have _ := aM ((gS hg)); have _ := aM ((gS hg)); clear HB; rename_i HB BK163 GW163 GE163; clear hb hbox hg; have hcz4_0 := c10 BK163; have hfz4_0 := blk_frozen BK163.out 0) | ((with_reducible refine gate_callee (f := 144) rfl ?_); refine gL (some 5) Tryz.func144 #[.slice A0_0 l0_0.length c0_0, .func (.func 145) #[] #[]] ?_; (with_reducible refine (slices_IndexFunc_int_int_144.calls _ _ l0_0  t164 _ (cQ (Kd.C_below HR0_0.out HB.out)) HC0_0.out A2.out).mono ?_); rintro e w5 ⟨rfl, hb⟩; refine ⟨_, rfl, ?_⟩; have _ := aM (blk_below (qQ BK163) hb); have _ := aM (below_step bq hb); clear BK163 HB; rename_i BK163 HB; (try clear hb); (try clear hb2); (try clear hk); (try clear hi)))
 go_ret
 exact ⟨eE, bq⟩

theorem slices_Delete_int_int_118.info : (Tryz.prog.info? 24).map (fun i => (i.zero, i.size, i.bytes)) = some (some (.slice none 0 0), 1, 24) := by kernel_rfl
theorem slices_Delete_int_int_118.zero : ∀ w, (zeroValue 24).run Tryz.prog w = .ok (.slice none 0 0) w := fun w => by
  obtain ⟨i0, hi0, h0, h1, h2⟩ := info_parts slices_Delete_int_int_118.info
  simp [zeroValue, typeInfo, hi0, h0, Result.andThen]
set_option maxHeartbeats 4000000 in
set_option maxRecDepth 100000 in
open Go.Proofs.YtcodionjhcmfhaaGreatDoor.Live Go.Lib in
theorem slices_Delete_int_int_118.shift (g n c i : Nat) (cur : Array Value) (w : World) (hi : i < n) (hn : n ≤ c) (hc : c ≤ 9223372036854775807) (hg : w.heap[g]? = some (.cells cur 24 (0, 0))) (hcur : cur.size = c) (h1c : ∀ v ∈ cur.toList.take n, v.oneCell' = true) :
    Calls Tryz.prog 118 #[.slice (some ⟨g, 0, none⟩) n c, .int .i64 (i : Int), .int .i64 ((i + 1 : Nat) : Int)] w fun e w' =>
      e = .returned (.slice (some ⟨g, 0, none⟩) (n - 1) c) ∧ w' = (w.drew.setCells g i ((cur.toList.take n).drop (i + 1))).setCells g (n - 1) [.slice none 0 0] := by
  obtain ⟨cs, hcs⟩ : ∃ cs, cs = (cur.toList.take n).drop (i + 1) := ⟨_, rfl⟩
  have hcl : cs.length = n - (i + 1) := by rw [hcs, List.length_drop, List.length_take, Array.length_toList]; omega
  have hone : ∀ v ∈ cs, v.oneCell' = true := fun v hv => h1c v (by rw [hcs] at hv; exact List.mem_of_mem_drop hv)
  have hcell : ∀ j v, cs[j]? = some v → w.drew.cell? ⟨g, i + 1 + j, none⟩ = some v := fun j v hj => by
    rw [blk_cell (w := w.drew) hg (i + 1 + j)]
    rw [hcs, List.getElem?_drop, List.getElem?_take] at hj
    split at hj
    · rw [← Array.getElem?_toList]; exact hj
    · cases hj
  obtain ⟨i0, hi0, hz0, hzs, hzb⟩ := info_parts slices_Delete_int_int_118.info
  obtain ⟨A, hA, hsrc⟩ : ∃ A : Addr, (if c = i + 1 then some (⟨g, 0, none⟩ : Addr) else some ⟨g, i + 1, none⟩) = some A ∧ Aside0 (∀ t u, cs[t]? = some u → w.drew.cell? (A.add t) = some u) := by
    by_cases h : c = i + 1
    · refine ⟨⟨g, 0, none⟩, by simp [h], ⟨fun t u hu => ?_⟩⟩
      have h0 : cs.length = 0 := by rw [hcl]; omega
      rw [List.length_eq_zero_iff.1 h0] at hu
      simp at hu
    · exact ⟨⟨g, i + 1, none⟩, by simp [h], ⟨fun t u hu => by rw [Addr.add_lit]; exact hcell t u hu⟩⟩
  have s1 : Aside0 (cs.length = (n - (i + 1)) * 1) := ⟨by rw [Nat.mul_one]; exact hcl⟩
  have s2 : Aside0 (∀ u ∈ cs, u.oneCell' = true) := ⟨hone⟩
  have s3 : Aside0 (∀ t, t < cs.length → (w.drew.cell? ⟨g, 0 + i * 1 + t, none⟩).isSome = true ∧ w.drew.frozen? ⟨g, 0 + i * 1 + t, none⟩ = false) := ⟨fun t ht => ⟨by rw [blk_cell (w := w.drew) hg, Array.getElem?_eq_getElem (by omega)]; rfl, blk_frozen (w := w.drew) hg _⟩⟩
  obtain ⟨W1, hW1⟩ : ∃ W1, W1 = w.drew.setCells g (0 + i * 1) cs := ⟨_, rfl⟩
  have hG1 : W1.heap[g]? = some (.cells (setL cur (0 + i * 1) cs) 24 (0, 0)) := by rw [hW1]; exact heap_setCells g cs _ w.drew cur hg
  have hcle : ∀ ty, (Builtin.clear_ #[28] ty #[.slice (some ⟨g, i + (n - (i + 1)), none⟩) (n - (i + (n - (i + 1)))) (c - (i + (n - (i + 1))))]).run Tryz.prog W1 = .ok (.tuple #[]) (W1.setCells g (i + (n - (i + 1))) (List.replicate (n - (i + (n - (i + 1)))) (.slice none 0 0))) :=
    fun ty => Go.Lib.run_clear_slice W1 _ _ ty _ Tryz.underlying28 slices_Delete_int_int_118.zero rfl rfl g (i + (n - (i + 1))) _ _ (by omega) (fun t ht => by rw [blk_cell hG1, Array.getElem?_eq_getElem (by rw [setL_size]; omega)]; rfl) (fun t ht => blk_frozen hG1 _)
  have hW := aM hW1
  have HCS := aM hcs
  have hic : i ≤ c := by omega
  have hjc : i + 1 ≤ c := by omega
  have hb0 : (0 : Int) ≤ (i : Int) + 1 := by omega
  have hb1 : (i : Int) + 1 ≤ (n : Int) := by omega
  clear hW1 hG1 hcell hone hcl hcs hg hcur h1c hz0 hzb
  go_enter Tryz.func118, Tryz.ntmps118
  go_wp2_with fail
  go_region_law (refine step_append_room rfl (.tmp 22) (.tmp 25) 28 rfl 24 i0 1 Tryz.underlying28 hi0 hzs g 0 i c (by simp [Act.eval, Act.put]) A (n - (i + 1)) (c - (i + 1)) cs (by simp [Act.eval, Act.put]) s1.out hsrc.out s2.out (by omega) s3.out ?_; rw [← hW.out])
  go_wp2
  go_ret
  have e1 : i + (n - (i + 1)) = n - 1 := by omega
  have e2 : n - (n - 1) = 1 := by omega
  refine ⟨by rw [← e1]; rfl, ?_⟩
  rw [hW.out, HCS.out, Nat.zero_add, Nat.mul_one, e1, e2]
  rfl
set_option maxHeartbeats 4000000 in
open Go.Proofs.YtcodionjhcmfhaaGreatDoor.Live Go.Lib in
theorem slices_Delete_int_int_118.owns (base i n : Nat) (v : Value) (inner : List Value) (w : World) (hown : w.ownsRow base 24 1 v n inner) (hi : i < n) (h1c : ∀ x ∈ inner, x.oneCell' = true) :
    Calls Tryz.prog 118 #[v, .int .i64 (i : Int), .int .i64 ((i + 1 : Nat) : Int)] w fun e w' =>
      ∃ v', e = .returned v' ∧ w'.ownsRow base 24 1 v' (n - 1) (inner.eraseIdx i) ∧ w.grownBy w' v.ownBlock ∧ v'.ownBlock = v.ownBlock := by
  rcases hown.2 with ⟨rfl, rfl⟩ | ⟨g, cap, cur, rfl, h2, h3, h4, h5, h6, h7⟩
  · omega
  · rw [Nat.mul_one] at h6 h7
    have h5' : cap ≤ 9223372036854775807 := by unfold maxLen at h5; omega
    have hlen : inner.length = n := by simpa using hown.1
    refine (slices_Delete_int_int_118.shift g n cap i cur w hi h4 h5' h3 h6 (by rw [h7]; exact h1c)).mono ?_
    rintro e w' ⟨rfl, rfl⟩
    have g1 := grown_setCells g ((cur.toList.take n).drop (i + 1)) i w.drew
    have g2 := grown_setCells g [.slice none 0 0] (n - 1) (w.drew.setCells g i ((cur.toList.take n).drop (i + 1)))
    have hl1 : ((cur.toList.take n).drop (i + 1)).length = n - (i + 1) := by rw [List.length_drop, List.length_take, Array.length_toList]; omega
    refine ⟨_, rfl, ⟨by rw [List.length_eraseIdx]; split <;> omega, .inr ⟨g, cap, setL (setL cur i ((cur.toList.take n).drop (i + 1))) (n - 1) [.slice none 0 0], rfl, h2, heap_setCells _ _ _ _ _ (heap_setCells _ _ _ w.drew _ h3), by omega, h5, by rw [setL_size, setL_size, Nat.mul_one]; exact h6, ?_⟩⟩, ?_, rfl⟩
    · have hsz : (setL cur i ((cur.toList.take n).drop (i + 1))).toList.length = cap := by rw [Array.length_toList, setL_size]; exact h6
      rw [Nat.mul_one, setL_list _ _ _ (by rw [setL_size]; simp only [List.length_cons, List.length_nil]; omega), List.append_assoc, List.take_append_of_le_length (by rw [List.length_take, hsz]; omega), List.take_take, Nat.min_self,
        setL_list _ _ _ (by rw [hl1]; omega)]
      rw [List.take_append_of_le_length (by rw [List.length_append, List.length_take, Array.length_toList, hl1]; omega), List.take_of_length_le (by rw [List.length_append, List.length_take, Array.length_toList, hl1]; omega)]
      rw [List.eraseIdx_eq_take_drop_succ, ← h7, List.take_take, Nat.min_eq_left (by omega)]
    · exact ⟨g2.1.os.trans g1.1.os, g2.1.tape.trans g1.1.tape, g2.1.output.trans g1.1.output, Nat.le_of_eq (g2.2.trans g1.2).symm, fun k hk hk2 => (g2.1.block k (by rw [g1.2]; exact hk) hk2).trans (g1.1.block k hk hk2)⟩


end Go.Proofs.YtcodionjhcmfhaaGreatDoor.Ax
