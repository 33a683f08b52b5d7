-- Written by hook.py, a program of this session (wip/), which runs the kit's print.py with its own parts; Lean checks it.
import Derived.Test.YtcodionjhcmfhaaDoorAo0
import Derived.Test.YtcodionjhcmfhaaDoorAoXSq
namespace Go.Proofs.YtcodionjhcmfhaaDoor.Ao
open Go.RowKit Go.Proofs.YtcodionjhcmfhaaDoorW.PrintWords Go.Proofs.YtcodionjhcmfhaaDoorW.PrintLast Go.Proofs.YtcodionjhcmfhaaDoorW.PrintMore Go.Proofs.YtcodionjhcmfhaaDoor.Sq
attribute [local go_sem] max2_int min2_int max_two min_two max_three min_three max_four min_four   -- for this text's walks alone
set_option linter.unusedVariables false
set_option linter.unusedSimpArgs false

def impl_ofSize.l0 : Nat → Int → Int → Int → List (List Int) → Option ((List (List Int)))
 | 0, _, _, _, _ => none
 | k + 1, x0, x5, x6, x404000 => if x6 < x5 then (if 0 ≤ x0 then (if (x0 : Int).toNat ≤ 35184372088832 then (if x404000.length < 5864062014805 then (impl_ofSize.l0 k x0 x5 (wrap64 (x6 + 1)) (x404000 ++ [(List.replicate (x0 : Int).toNat 0)])) else (none)) else (none)) else (none)) else (some x404000)
def impl_ofSize.f (k : Nat) (a0 : Int) : Option ((List (List Int))) := impl_ofSize.l0 k a0 a0 0 ([] : List (List Int))
theorem impl_ofSize.mono_l : ∀ k, (∀ y0 y1 y2 y3, LeO (impl_ofSize.l0 k y0 y1 y2 y3) (impl_ofSize.l0 (k + 1) y0 y1 y2 y3))
 | 0 => fun _ _ _ _ r h => by simp [impl_ofSize.l0] at h
 | k + 1 => by
  have ih0 := impl_ofSize.mono_l k
  ·intro y0 y1 y2 y3
   unfold impl_ofSize.l0
   repeat' first | with_reducible first | exact ih0 _ _ _ _ | exact LeO.refl _ | exact LeO.none _ | refine LeO.ite ?_ ?_ | refine LeO.bind ?_ (fun _ => ?_)
theorem impl_ofSize.mono : ∀ a0 k, LeO (impl_ofSize.f k a0) (impl_ofSize.f (k + 1) a0) := by
 intro a0 k
 have ih0 := impl_ofSize.mono_l k
 unfold impl_ofSize.f
 repeat' first | with_reducible first | exact ih0 _ _ _ _ | exact LeO.refl _ | exact LeO.none _ | refine LeO.ite ?_ ?_ | refine LeO.bind ?_ (fun _ => ?_)
def impl_ofSize.T4 : Bool × List (List Nat × List Nat) := (true, [([], []), ([0], [0]), ([], []), ([2, 2], [2]), ([3], [3]), ([1, 4], [1, 4]), ([0, 1, 2, 3, 4, 5], []), ([6, 5, 5, 0, 1, 2, 3, 4, 5], [5, 6])])
def impl_ofSize.B4 : List Nat := [0, 1, 0, 4, 12, 31, 63, 127]
theorem impl_ofSize.tab4 : rtab .any (opsOf Tryd.f70 4) = impl_ofSize.T4 := by kernel_rfl
theorem impl_ofSize.bits4 : waitsOk impl_ofSize.T4.2 impl_ofSize.B4 = true := by kernel_rfl
set_option maxHeartbeats 8000000 in
set_option maxRecDepth 100000 in
theorem impl_ofSize.calls (k : Nat) (a0 : Int) (r : List (List Int)) (w : World) (h : impl_ofSize.f k a0 = some r) :
  Calls Tryd.prog 70 #[.int .i64 a0] w fun e w' => ∃ v0_ : Value, e = .returned (.agg #[v0_]) ∧ Kd.S (Kd.slice 3 (Kd.int .i64)) 22 w' w.heap.size (fun _ => True) v0_ r ∧ Below w.heap.size w w' := by
 have hu28 := Tryd.underlying28
 have HB := aM (Below.refl w.heap.size w)
 have H : (impl_ofSize.l0 k a0 a0 0 ([] : List (List Int))) = some r := h
 clear h
 have H' := aM H
 clear H
 go_enter Tryd.func70, Tryd.ntmps70
 go_wp2_with (first | ((with_reducible refine gate_dst (N := 2) rfl ?_); refine bE 2 28 #[.slice none 0 0] ?_; intro gb402 hg w2 hbox hb; have _ := aM (below_step bq hb); have _ := aM (hbox); have _ := aM ((gS hg)); have _ := aM ((gS hg)); clear HB; rename_i HB BK402 GW402 GE402; clear hb hbox hg) | ((with_reducible refine gate_dst (N := 3) rfl ?_); refine bE 3 28 #[.slice none 0 0] ?_; intro gb403 hg w3 hbox hb; have _ := aM (blk_below (g := gb402) (o := .cells #[.slice none 0 0] 28 (0, 0)) (qQ BK402) hb); have _ := aM (below_step bq hb); have _ := aM (hbox); have _ := aM ((gS hg)); have _ := aM ((gS hg)); have _ := aM ((by rw [hg]; exact Nat.ne_of_lt (blk_lt (g := gb402) (o := .cells #[.slice none 0 0] 28 (0, 0)) (qQ BK402)) : gb402 ≠ gb403)); have _ := aM ((by rw [hg]; exact Nat.ne_of_gt (blk_lt (g := gb402) (o := .cells #[.slice none 0 0] 28 (0, 0)) (qQ BK402)) : gb403 ≠ gb402)); clear BK402 HB; rename_i BK402 HB BK403 GW403 GE403 NB402_403 NB403_402; clear hb hbox hg; have hnb4 := NB403_402.out; have hnc4 := NB402_403.out; have hcz5_0 : w3.cell? ⟨gb403, 0, none⟩ = some (.slice none 0 0) := (blk_cell BK403.out 0).trans rfl; have hfz5_0 := blk_frozen BK403.out 0))
 go_loopg [6] k (fun kq v6 w' => ∃ (x6_1 : Int) (x404000_1 : List (List Int)) (u404000 : Value), v6 = .int .i64 x6_1 ∧ Aside0 (impl_ofSize.l0 kq a0 a0 x6_1 x404000_1 = some r) ∧ Aside0 (kq ≤ k) ∧ Aside0 (Kd.S (Kd.slice 3 (Kd.int .i64)) 22 w' w.heap.size (fun _ => True) u404000 x404000_1) ∧ Aside0 (w'.heap[gb402]? = some (.cells #[(.slice none 0 0)] 28 (0, 0))) ∧ Aside0 (w'.heap[gb403]? = some (.cells #[u404000] 28 (0, 0))) ∧ Aside0 (Below w.heap.size w w'))
 case atStart => exact ⟨(0), (([] : List (List Int))), (.slice none 0 0), (by first | rfl | (simp; done) | (simp [*]; done)), H', ⟨Nat.le_refl _⟩, ⟨by first | exact Kd.S_nil _ _ _ _ _ | exact Kd.N_nil _ _ _ _ _ | exact Kd.V_nil _ _ _ _ _ | exact Kd.Q_nil _ _ _ _ _ | exact Kd.R_nil _ _ _ _ _⟩, ⟨by (with_reducible repeat first|apply qN|apply qD|apply qA); refine blk_far ?_ NB402_403.out _; (with_reducible repeat first|apply qN|apply qD|apply qA); exact BK402.out⟩, ⟨by (with_reducible repeat first|apply qN|apply qD|apply qA); refine blk_put (cs := #[.slice none 0 0]) ?_ 0 _ rfl; (with_reducible repeat first|apply qN|apply qD|apply qA); exact BK403.out⟩, ⟨by exact bq⟩⟩
 case round =>
  clear H'
  try clear p2
  try clear c4
  try clear hcz5_0
  try clear hfz5_0
  obtain ⟨x6_1, x404000_1, u404000, rfl, HA, HK1, HO_404000, BK402, BK403, HB⟩ := hrel
  cases gk with
  | zero => exact absurd HA.out (by simp [impl_ofSize.l0])
  | succ k1 =>
   have H := HA.out
   clear HA
   simp only [impl_ofSize.l0] at H
   by_cases c6 : x6_1 < a0
   ·rw [if_pos c6] at H
    have c6b0 : decide (x6_1 < a0) = true := decide_eq_true c6
    clear c6
    by_cases c7 : 0 ≤ a0
    ·rw [if_pos c7] at H
     have c7b0 := eq_true c7
     have c7b1 : decide (0 ≤ a0) = true := decide_eq_true c7
     clear c7
     by_cases c8 : (a0 : Int).toNat ≤ 35184372088832
     ·rw [if_pos c8] at H
      have c8b0 := eq_true c8
      have c8b1 : decide ((a0 : Int).toNat ≤ 35184372088832) = true := decide_eq_true c8
      clear c8
      obtain ⟨y404, hy404⟩ : ∃ y_ : List Int, y_ = (List.replicate (a0 : Int).toNat 0) := ⟨_, rfl⟩
      replace H : (if x404000_1.length < 5864062014805 then (impl_ofSize.l0 k1 a0 a0 (wrap64 (x6_1 + 1)) (x404000_1 ++ [y404])) else (none)) = some r := by first | (rw [hy404]; with_reducible exact H) | (have H2_ := (Option.bind_some _ _).symm.trans H; rw [hy404]; with_reducible exact H2_) | (have H2_ := (Option.bind_some _ _).symm.trans H; with_reducible exact H2_) | with_reducible exact H | (rw [hy404]; exact H) | exact H
      have Ny404 := aM hy404
      clear hy404
      by_cases c9 : x404000_1.length < 5864062014805
      ·rw [if_pos c9] at H
       have LMc9 := aM c9
       clear c9
       obtain ⟨y407, hy407⟩ : ∃ y_ : List (List Int), y_ = (x404000_1 ++ [y404]) := ⟨_, rfl⟩
       replace H : (impl_ofSize.l0 k1 a0 a0 (wrap64 (x6_1 + 1)) y407) = some r := by first | (rw [hy407]; with_reducible exact H) | (have H2_ := (Option.bind_some _ _).symm.trans H; rw [hy407]; with_reducible exact H2_) | (have H2_ := (Option.bind_some _ _).symm.trans H; with_reducible exact H2_) | with_reducible exact H | (rw [hy407]; exact H) | exact H
       have Ny407 := aM hy407
       clear hy407
       have H' := aM H
       clear H
       try go_wp2
       have n0_ := aM (Kd.S_drew HO_404000.out)
       have n1_ := aM (blk_drew BK402.out)
       have n2_ := aM (blk_drew BK403.out)
       have n3_ := aM (below_drew1 HB.out)
       clear HO_404000
       clear BK402
       clear BK403
       clear HB
       have HO_404000 := n0_
       have BK402 := n1_
       have BK403 := n2_
       have HB := n3_
       clear n0_ n1_ n2_ n3_
       refine start_ (n := 8) (S := fun w' => w'.cell? ⟨gb403, 0, none⟩ = some (u404000)) (ds := [7]) #[false, false, false, false, false, false, false, false] (by kernel_rfl) rfl rfl ((blk_cell BK403.out 0).trans rfl) (fun hHeld => ?_); refine with_tabW impl_ofSize.tab4 impl_ofSize.bits4 (fun HT_ HW_ => ?_)
       generalize wr.drew = w10 at HO_404000 BK402 BK403 HB hHeld ⊢
       refine pure_ (i := 0) (N := some 8) (v := ?_) (a' := ?_) #[true, false, false, false, false, false, false, false] rfl rfl (any_of HT_.out (by kernel_rfl)) (fun _ _ _ h => h) (Or.inl ⟨by rfl, ?_⟩) ?_ ?_
       rotate_left
       ·intro w'
        go_simp
        with_reducible rfl
       rotate_left
       ·simp only [Act.put, List.setIfInBounds_toArray, List.set_cons_zero, List.set_cons_succ, i64_w, i32_w]
        rfl
       refine pure_ (i := 2) (N := some 10) (v := ?_) (a' := ?_) #[true, false, true, false, false, false, false, false] rfl rfl (any_of HT_.out (by kernel_rfl)) (fun _ _ _ h => h) (Or.inl ⟨by rfl, ?_⟩) ?_ ?_
       rotate_left
       ·intro w'
        go_simp
        with_reducible rfl
       rotate_left
       ·simp only [Act.put, List.setIfInBounds_toArray, List.set_cons_zero, List.set_cons_succ, i64_w, i32_w]
        rfl
       refine take_ (i := 1) (N := some 9) (v := ?_) (a' := ?_) #[true, true, true, false, false, false, false, false] rfl rfl (take_ofW HT_.out HW_.out (by kernel_rfl)) (fun _ _ _ h => h) (Or.inl ⟨by rfl, ?_⟩) hHeld ?_ ?_
       rotate_left
       ·intro w' s0
        go_simp
        with_reducible rfl
       rotate_left
       ·simp only [Act.put, List.setIfInBounds_toArray, List.set_cons_zero, List.set_cons_succ, i64_w, i32_w]
        rfl
       refine one_ (i := 3) (N := some 11) #[true, true, true, true, false, false, false, false] rfl rfl (one_of HT_.out (by kernel_rfl)) (by decide) (fun K hK => ?_)
       refine Kd.R_make_step (Kd.int .i64) _ 3 (by rfl) (N := 11) rfl 22 _ _ rfl a0 rfl rfl Tryd.underlying22 (.int .i64 0) 8 info3 rfl (by decide) (by omega) 0 (ok := fun _ => True) (okp := fun _ => True) rfl (fun _ hk => hk) trivial (odt) (Nat.le_trans (Nat.mul_le_mul_right _ (odt : a0.toNat ≤ 35184372088832)) (by omega)) (Below.refl _ _) (Nat.le_refl _) ?_
       intro v405 w11 ho12 hb hg_ hnew_
       clear hg_ hnew_
       (first | rw [← Ny404.out] at ho12 | (simp only [Int.reduceToNat] at ho12; rw [← Ny404.out] at ho12))
       have n0_ := aM (Kd.S_elder' (sQ HO_404000) (Kd.R_base ho12) hb)
       have n1_ := aM (Kd.R_lower ho12 (below_size bq))
       have n2_ := aM (blk_below (g := gb402) (o := .cells #[.slice none 0 0] 28 (0, 0)) (qQ BK402) hb)
       have n3_ := aM (blk_below (g := gb403) (o := .cells #[u404000] 28 (0, 0)) (qQ BK403) hb)
       have n4_ := aM (below_step bq hb)
       clear HO_404000
       clear BK402
       clear BK403
       clear HB
       have HO_404000 := n0_
       have HO406 := n1_
       have BK402 := n2_
       have BK403 := n3_
       have HB := n4_
       clear n0_ n1_ n2_ n3_ n4_
       clear hb ho12
       obtain ⟨Ao14, co14, eo14⟩ := Kd.R_slice HO406.out
       (first | subst eo14 | (injection eo14 with f1_ f2_ f3_; have f4_ := f1_.symm; have f5_ := f3_.symm; clear f1_ f2_ f3_; subst f4_; subst f5_))
       refine hK.out _ _ ((blk_cell BK403.out 0).trans rfl) (fun hHeld => ?_)
       clear hK K
       refine norm_ (a' := ?_) ?_ ?_
       rotate_left
       ·show Act.put _ (some 11) _ = _
        simp only [Act.put, List.setIfInBounds_toArray, List.set_cons_zero, List.set_cons_succ, i64_w, i32_w]
        rfl
       refine one_ (i := 4) (N := some 12) #[true, true, true, true, true, false, false, false] rfl rfl (one_of HT_.out (by kernel_rfl)) (by decide) (fun K hK => ?_)
       refine value_ (w1 := ?_) (v := ?_) (by rfl) rfl ?_ ?_
       rotate_left 2
       ·go_simp
        constructor
        ·rfl
        ·rfl
       refine hK.out _ _ ((blk_cell (blk_alloc BK403.out _) 0).trans rfl) (fun hHeld => ?_)
       clear hK K
       refine norm_ (a' := ?_) ?_ ?_
       rotate_left
       ·show Act.put _ (some 12) _ = _
        simp only [Act.put, List.setIfInBounds_toArray, List.set_cons_zero, List.set_cons_succ, i64_w, i32_w]
        rfl
       refine one_ (i := 5) (N := some 13) #[true, true, true, true, true, true, false, false] rfl rfl (one_of HT_.out (by kernel_rfl)) (by decide) (fun K hK => ?_)
       refine Kd.S_append_step (Kd.slice 3 (Kd.int .i64)) (w0 := w) w.heap.size (by rfl) (.tmp 9) (.tmp 12) 26 22 (.slice none 0 0) 24 rfl Tryd.underlying26 info22 rfl (by decide) (by omega) u404000 x404000_1 y404 [.slice Ao14 y404.length co14] (fun _ => True) (fun k_ => some k_ = (.slice Ao14 y404.length co14 : Value).ownBlock) rfl rfl ?aP (fun k_ hk_ => ((Kd.R_mono (ok' := fun k_ => ((fun _ => True)) k_ ∧ some k_ ≠ (u404000 : Value).ownBlock) (Kd.R_apart' (HO406.out) (Kd.S_typed HO_404000.out) (by decide)) (fun k_ hk => ⟨trivial, hk.2⟩))).1 k_ hk_.symm) ?aF ?aO ?aB ?aS ?aL ?_
       (case aP => exact Kd.M_row (Kd.R_mono (Kd.R_tight rfl (Kd.R_mono (ok' := fun k_ => ((fun _ => True)) k_ ∧ some k_ ≠ (u404000 : Value).ownBlock) (Kd.R_apart' (HO406.out) (Kd.S_typed HO_404000.out) (by decide)) (fun k_ hk => ⟨trivial, hk.2⟩))) (fun _ h_ => h_)))
       (case aB => exact bq)
       (case aF => exact (fun _ _ => trivial))
       (case aO => exact (by (with_reducible repeat first|apply sA|apply sN|apply sD); exact Kd.S_mono HO_404000.out (fun k_ hk => ⟨trivial, fun e_ => hk.2 e_⟩)))
       (case aS => exact (below_size bq))
       (case aL => have := LMc9.out; omega)
       intro v408 w13 ho hb hg hat
       rw [← Ny407.out] at ho
       have n0_ := aM (blk_grown (g := gb402) (o := .cells #[.slice none 0 0] 28 (0, 0)) (qQ BK402) hg (Kd.S_ne HO_404000.out BK402.out (by decide)))
       have n1_ := aM (blk_grown (g := gb403) (o := .cells #[u404000] 28 (0, 0)) (qQ BK403) hg (Kd.S_ne HO_404000.out BK403.out (by decide)))
       have n2_ := aM (hb)
       have n3_ := aM (ho)
       clear BK402
       clear BK403
       clear HB
       clear HO_404000
       clear HO406
       have BK402 := n0_
       have BK403 := n1_
       have HB := n2_
       have HO409 := n3_
       clear n0_ n1_ n2_ n3_
       clear ho hb hg hat
       obtain ⟨Ao15, co15, eo15⟩ := Kd.S_slice HO409.out
       (first | subst eo15 | (injection eo15 with f1_ f2_ f3_; have f4_ := f1_.symm; have f5_ := f3_.symm; clear f1_ f2_ f3_; subst f4_; subst f5_))
       refine hK.out _ _ ((blk_cell BK403.out 0).trans rfl) (fun hHeld => ?_)
       clear hK K
       refine norm_ (a' := ?_) ?_ ?_
       rotate_left
       ·show Act.put _ (some 13) _ = _
        simp only [Act.put, List.setIfInBounds_toArray, List.set_cons_zero, List.set_cons_succ, i64_w, i32_w]
        rfl
       refine pure_ (i := 6) (N := some 14) (v := ?_) (a' := ?_) #[true, true, true, true, true, true, true, false] rfl rfl (any_of HT_.out (by kernel_rfl)) (fun _ _ _ h => h) (Or.inl ⟨by rfl, ?_⟩) ?_ ?_
       rotate_left
       ·intro w'
        go_simp
        with_reducible rfl
       rotate_left
       ·simp only [Act.put, List.setIfInBounds_toArray, List.set_cons_zero, List.set_cons_succ, i64_w, i32_w]
        rfl
       refine last_ (i := 7) (N := none) #[true, true, true, true, true, true, true, true] rfl rfl (one_of HT_.out (by kernel_rfl)) (by decide) (fun K hK => ?_)
       have hs16 : w13.cell? ⟨gb403, 0, none⟩ = some (u404000) := (blk_cell BK403.out 0).trans rfl
       have hfs16 := blk_frozen BK403.out 0
       have hns16_0 := NB402_403.out
       have hms16_0 := NB403_402.out
       refine skip_ (w1 := ?_) (by rfl) rfl ?_ ?_
       rotate_left
       ·go_simp
        rfl
       refine hK.out _ _ ?_
       clear hK K
       refine done_ (done_of HT_.out (by kernel_rfl)) ?_
       try go_wp2
       go_roundg k1
       case measure => have := HK1.out; omega
       case rel => exact ⟨(wrap64 (x6_1 + 1)), (y407), (.slice Ao15 y407.length co15), (by first | rfl | (simp; done) | (simp [*]; done)), H', ⟨by have := HK1.out; omega⟩, ⟨by (with_reducible repeat first|apply sA|apply sN|apply sD); exact Kd.S_mono (Kd.S_far (p := ⟨gb403, 0, none⟩) (Kd.S_types HO409.out BK403.out (by decide)) (fun _ hk => hk.2) (.slice Ao15 y407.length co15)) (fun _ hk => trivial)⟩, ⟨by (with_reducible repeat first|apply qN|apply qD|apply qA); refine blk_far ?_ NB402_403.out _; (with_reducible repeat first|apply qN|apply qD|apply qA); exact BK402.out⟩, ⟨by (with_reducible repeat first|apply qN|apply qD|apply qA); refine blk_put (cs := #[u404000]) ?_ 0 _ rfl; (with_reducible repeat first|apply qN|apply qD|apply qA); exact BK403.out⟩, ⟨by exact bq⟩⟩
      ·rw [if_neg c9] at H
       exact absurd H (by simp)
     ·rw [if_neg c8] at H
      exact absurd H (by simp)
    ·rw [if_neg c7] at H
     exact absurd H (by simp)
   ·rw [if_neg c6] at H
    have c6b0 : decide (x6_1 < a0) = false := decide_eq_false c6
    clear c6
    obtain rfl := Option.some.inj H
    have hnb17 := NB403_402.out
    have hnc17 := NB402_403.out
    have hcz18_0 : wr.cell? ⟨gb403, 0, none⟩ = some (u404000) := (blk_cell BK403.out 0).trans rfl
    have hfz18_0 := blk_frozen BK403.out 0
    obtain ⟨Ao19, co19, eo19⟩ := Kd.S_slice HO_404000.out
    subst eo19
    have hcz20_0 : wr.cell? ⟨gb402, 0, none⟩ = some (.slice none 0 0) := (blk_cell BK402.out 0).trans rfl
    have hfz20_0 := blk_frozen BK402.out 0
    go_wp2
    refine bodyPost_ret (results_cell_row rfl _ _ gb402 28 #[.slice Ao19 x404000_1.length co19] (0, 0) _ rfl (by (with_reducible repeat first|apply qN|apply qD|apply qA); refine blk_put (cs := #[.slice none 0 0]) ?_ 0 _ rfl; (with_reducible repeat first|apply qN|apply qD|apply qA); exact BK402.out) Tryd.underlying28 rfl (by kernel_rfl)) rfl ?_
    exact ⟨_, by first | rfl | (simp [errW_none, errW_some] <;> rfl) | (simp [*, errW_none, errW_some] <;> rfl), by (with_reducible repeat first|apply sA|apply sN|apply sD); exact Kd.S_mono (Kd.S_far (p := ⟨gb402, 0, none⟩) (Kd.S_types HO_404000.out BK402.out (by decide)) (fun _ hk => hk.2) (.slice Ao19 x404000_1.length co19)) (fun _ hk => trivial), by exact bq⟩

end Go.Proofs.YtcodionjhcmfhaaDoor.Ao
