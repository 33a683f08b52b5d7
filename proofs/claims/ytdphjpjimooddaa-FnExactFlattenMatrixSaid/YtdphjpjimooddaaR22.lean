-- Written by hook.py, a program of this session (wip/), which runs the kit's print.py with its own parts; Lean checks it.
import Derived.Test.YtdphjpjimooddaaR0
import Derived.Test.YtdphjpjimooddaaR8
import Derived.Test.YtdphjpjimooddaaR21
namespace Go.Proofs.Ytdphjpjimooddaa.R
open Go.RowKit Go.Proofs.YtdphjpjimooddaaW.PrintWords Go.Proofs.YtdphjpjimooddaaW.PrintLast Go.Proofs.YtdphjpjimooddaaW.PrintMore
attribute [local go_sem] max2_int min2_int max_two min_two max_three min_three max_four min_four   -- for this text's walks alone
set_option linter.unusedVariables false
set_option linter.unusedSimpArgs false

/-! ### impl_Matrix_own: function 72 -/
def impl_Matrix_own.l0 : Nat → List (List Int) → Int → Int → List (List Int) → Option ((List (List Int)))
  | 0, _, _, _, _ => none
  | k + 1, x8, x9, x10, x436000 => if x10 < x9 then (if 0 ≤ x10 then (if x10 < (x8.length : Int) then ((slices_Clone_int_int.f (rd_L1 x8 x10)).bind fun t437 => (if x436000.length < 5864062014805 then (impl_Matrix_own.l0 k x8 x9 (wrap64 (x10 + 1)) (x436000 ++ [t437])) else (none))) else (none)) else (none)) else (some x436000)
def impl_Matrix_own.f (k : Nat) (l0_0 : List (List Int)) : Option ((List (List Int))) := impl_Matrix_own.l0 k l0_0 (l0_0.length : Int) 0 ([] : List (List Int))
theorem impl_Matrix_own.mono_l : ∀ k, (∀ y0 y1 y2 y3, LeO (impl_Matrix_own.l0 k y0 y1 y2 y3) (impl_Matrix_own.l0 (k + 1) y0 y1 y2 y3))
  | 0 => fun _ _ _ _ r h => by simp [impl_Matrix_own.l0] at h
  | k + 1 => by
    have ih0 := impl_Matrix_own.mono_l k
    · intro y0 y1 y2 y3
      unfold impl_Matrix_own.l0
      repeat' first
      | (with_reducible exact ih0 _ _ _ _)
      | (with_reducible exact LeO.refl _)
      | (with_reducible exact LeO.none _)
      | (with_reducible refine LeO.ite ?_ ?_)
      | (with_reducible refine LeO.bind ?_ (fun _ => ?_))
      | exact ih0 _ _ _ _
      | exact LeO.none _
      | refine LeO.ite ?_ ?_
      | refine LeO.bind ?_ (fun _ => ?_)
theorem impl_Matrix_own.mono : ∀ a0 k, LeO (impl_Matrix_own.f k a0) (impl_Matrix_own.f (k + 1) a0) := by
  intro a0 k
  have ih0 := impl_Matrix_own.mono_l k
  unfold impl_Matrix_own.f
  repeat' first
      | (with_reducible exact ih0 _ _ _ _)
      | (with_reducible exact LeO.refl _)
      | (with_reducible exact LeO.none _)
      | (with_reducible refine LeO.ite ?_ ?_)
      | (with_reducible refine LeO.bind ?_ (fun _ => ?_))
      | exact ih0 _ _ _ _
      | exact LeO.none _
      | refine LeO.ite ?_ ?_
      | refine LeO.bind ?_ (fun _ => ?_)
def impl_Matrix_own.T5 : Bool × List (List Nat × List Nat) := (true, [([], []), ([0], [0]), ([], []), ([2], [2]), ([3], [3]), ([1, 4, 3], [1, 4]), ([0, 1, 2, 3, 4, 5], []), ([6, 5, 5, 0, 1, 2, 3, 4, 5], [5, 6])])
def impl_Matrix_own.B5 : List Nat := [0, 1, 0, 4, 12, 31, 63, 127]
theorem impl_Matrix_own.tab5 : rtab .any (opsOf Try.f72 5) = impl_Matrix_own.T5 := by kernel_rfl
theorem impl_Matrix_own.bits5 : waitsOk impl_Matrix_own.T5.2 impl_Matrix_own.B5 = true := by kernel_rfl
set_option maxHeartbeats 8000000 in
set_option maxRecDepth 100000 in
theorem impl_Matrix_own.calls (k : Nat) (A0_0 : Option Addr) (c0_0 : Nat) (l0_0 : List (List Int)) (r : List (List Int)) (w : World) (hr0_0 : Kd.C (Kd.slice 3 (Kd.int .i64)) w A0_0 l0_0.length l0_0) (hc0_0 : l0_0.length ≤ c0_0) (h : impl_Matrix_own.f k l0_0 = some r) :
    Calls Try.prog 72 #[.agg #[.slice A0_0 l0_0.length c0_0]] w fun e w' => ∃ v0_ : Value, e = .returned (.agg #[v0_]) ∧ Kd.S (Kd.slice 3 (Kd.int .i64)) 33 w' w.heap.size (fun _ => True) v0_ r ∧ Below w.heap.size w w' := by
  have hu27 := Try.underlying27
  have HR0_0 := Aside0.mk hr0_0
  have HC0_0 := Aside0.mk hc0_0
  clear hr0_0 hc0_0
  have HB := Aside0.mk (Below.refl w.heap.size w)
  have H : (impl_Matrix_own.l0 k l0_0 (l0_0.length : Int) 0 ([] : List (List Int))) = some r := h
  clear h
  have H' := Aside0.mk H
  clear H
  go_enter Try.func72, Try.ntmps72
  go_wp2_with (first | ((with_reducible refine gate_dst (N := 1) rfl ?_); refine box_event ?hg (N := 1) ?hd (cs := #[.slice A0_0 l0_0.length c0_0]) (t := 27) ?hr ?_; (case hd => rfl); (case hg => rfl); (case hr => first | (go_simp; done) | (go_simp; rfl)); intro gb433 hg w2 hbox hb; have n0_ := Aside0.mk (below_step (by repeat (first | (with_reducible first | exact HB.out | apply below_alloc | apply pw_below_drewN | apply below_drew1) | exact HB.out)) hb); have n1_ := Aside0.mk (hbox); have n2_ := Aside0.mk ((by rw [hg]; exact (below_size (by repeat (first | (with_reducible first | exact HB.out | apply below_alloc | apply pw_below_drewN | apply below_drew1) | exact HB.out))) : w.heap.size ≤ gb433)); have n3_ := Aside0.mk ((by rw [hg]; exact (below_size (by repeat (first | (with_reducible first | exact HB.out | apply below_alloc | apply pw_below_drewN | apply below_drew1) | exact HB.out))) : w.heap.size ≤ gb433)); clear HB; have HB := n0_; have BK433 := n1_; have GW433 := n2_; have GE433 := n3_; clear n0_ n1_ n2_ n3_; clear hb hbox hg) | ((with_reducible refine gate_dst (N := 2) rfl ?_); refine box_event ?hg (N := 2) ?hd (cs := #[.slice none 0 0]) (t := 27) ?hr ?_; (case hd => rfl); (case hg => rfl); (case hr => first | (go_simp; done) | (go_simp; rfl)); intro gb434 hg w3 hbox hb; have n0_ := Aside0.mk (blk_below (g := gb433) (o := .cells #[.slice A0_0 l0_0.length c0_0] 27 (0, 0)) (by (with_reducible repeat (first | refine blk_drewN ?_ _ | refine blk_drew ?_ | refine blk_alloc ?_ _)); exact BK433.out) hb); have n1_ := Aside0.mk (below_step (by repeat (first | (with_reducible first | exact HB.out | apply below_alloc | apply pw_below_drewN | apply below_drew1 | refine below_set ?_ GE433.out) | exact HB.out)) hb); have n2_ := Aside0.mk (hbox); have n3_ := Aside0.mk ((by rw [hg]; exact (below_size (by repeat (first | (with_reducible first | exact HB.out | apply below_alloc | apply pw_below_drewN | apply below_drew1 | refine below_set ?_ GE433.out) | exact HB.out))) : w.heap.size ≤ gb434)); have n4_ := Aside0.mk ((by rw [hg]; exact (below_size (by repeat (first | (with_reducible first | exact HB.out | apply below_alloc | apply pw_below_drewN | apply below_drew1 | refine below_set ?_ GE433.out) | exact HB.out))) : w.heap.size ≤ gb434)); have n5_ := Aside0.mk ((by rw [hg]; exact Nat.ne_of_lt (blk_lt (g := gb433) (o := .cells #[.slice A0_0 l0_0.length c0_0] 27 (0, 0)) (by (with_reducible repeat (first | refine blk_drewN ?_ _ | refine blk_drew ?_ | refine blk_alloc ?_ _)); exact BK433.out)) : gb433 ≠ gb434)); have n6_ := Aside0.mk ((by rw [hg]; exact Nat.ne_of_gt (blk_lt (g := gb433) (o := .cells #[.slice A0_0 l0_0.length c0_0] 27 (0, 0)) (by (with_reducible repeat (first | refine blk_drewN ?_ _ | refine blk_drew ?_ | refine blk_alloc ?_ _)); exact BK433.out)) : gb434 ≠ gb433)); clear BK433; clear HB; have BK433 := n0_; have HB := n1_; have BK434 := n2_; have GW434 := n3_; have GE434 := n4_; have NB433_434 := n5_; have NB434_433 := n6_; clear n0_ n1_ n2_ n3_ n4_ n5_ n6_; clear hb hbox hg) | ((with_reducible refine gate_dst (N := 3) rfl ?_); refine box_event ?hg (N := 3) ?hd (cs := #[.slice none 0 0]) (t := 27) ?hr ?_; (case hd => rfl); (case hg => rfl); (case hr => first | (go_simp; done) | (go_simp; rfl)); intro gb435 hg w4 hbox hb; have n0_ := Aside0.mk (blk_below (g := gb433) (o := .cells #[.slice A0_0 l0_0.length c0_0] 27 (0, 0)) (by (with_reducible repeat (first | refine blk_drewN ?_ _ | refine blk_drew ?_ | refine blk_alloc ?_ _)); exact BK433.out) hb); have n1_ := Aside0.mk (blk_below (g := gb434) (o := .cells #[.slice none 0 0] 27 (0, 0)) (by (with_reducible repeat (first | refine blk_drewN ?_ _ | refine blk_drew ?_ | refine blk_alloc ?_ _)); exact BK434.out) hb); have n2_ := Aside0.mk (below_step (by repeat (first | (with_reducible first | exact HB.out | apply below_alloc | apply pw_below_drewN | apply below_drew1 | refine below_set ?_ GE433.out | refine below_set ?_ GE434.out) | exact HB.out)) hb); have n3_ := Aside0.mk (hbox); have n4_ := Aside0.mk ((by rw [hg]; exact (below_size (by repeat (first | (with_reducible first | exact HB.out | apply below_alloc | apply pw_below_drewN | apply below_drew1 | refine below_set ?_ GE433.out | refine below_set ?_ GE434.out) | exact HB.out))) : w.heap.size ≤ gb435)); have n5_ := Aside0.mk ((by rw [hg]; exact (below_size (by repeat (first | (with_reducible first | exact HB.out | apply below_alloc | apply pw_below_drewN | apply below_drew1 | refine below_set ?_ GE433.out | refine below_set ?_ GE434.out) | exact HB.out))) : w.heap.size ≤ gb435)); have n6_ := Aside0.mk ((by rw [hg]; exact Nat.ne_of_lt (blk_lt (g := gb433) (o := .cells #[.slice A0_0 l0_0.length c0_0] 27 (0, 0)) (by (with_reducible repeat (first | refine blk_drewN ?_ _ | refine blk_drew ?_ | refine blk_alloc ?_ _)); exact BK433.out)) : gb433 ≠ gb435)); have n7_ := Aside0.mk ((by rw [hg]; exact Nat.ne_of_gt (blk_lt (g := gb433) (o := .cells #[.slice A0_0 l0_0.length c0_0] 27 (0, 0)) (by (with_reducible repeat (first | refine blk_drewN ?_ _ | refine blk_drew ?_ | refine blk_alloc ?_ _)); exact BK433.out)) : gb435 ≠ gb433)); have n8_ := Aside0.mk ((by rw [hg]; exact Nat.ne_of_lt (blk_lt (g := gb434) (o := .cells #[.slice none 0 0] 27 (0, 0)) (by (with_reducible repeat (first | refine blk_drewN ?_ _ | refine blk_drew ?_ | refine blk_alloc ?_ _)); exact BK434.out)) : gb434 ≠ gb435)); have n9_ := Aside0.mk ((by rw [hg]; exact Nat.ne_of_gt (blk_lt (g := gb434) (o := .cells #[.slice none 0 0] 27 (0, 0)) (by (with_reducible repeat (first | refine blk_drewN ?_ _ | refine blk_drew ?_ | refine blk_alloc ?_ _)); exact BK434.out)) : gb435 ≠ gb434)); clear BK433; clear BK434; clear HB; have BK433 := n0_; have BK434 := n1_; have HB := n2_; have BK435 := n3_; have GW435 := n4_; have GE435 := n5_; have NB433_435 := n6_; have NB435_433 := n7_; have NB434_435 := n8_; have NB435_434 := n9_; clear n0_ n1_ n2_ n3_ n4_ n5_ n6_ n7_ n8_ n9_; clear hb hbox hg; have hnb5 := NB435_433.out; have hnc5 := NB433_435.out; have hnb6 := NB435_434.out; have hnc6 := NB434_435.out; have hcz7_0 : w4.cell? ⟨gb435, 0, none⟩ = some (.slice none 0 0) := (blk_cell BK435.out 0).trans rfl; have hfz7_0 := blk_frozen BK435.out 0; have hnb8 := NB433_434.out; have hnc8 := NB434_433.out; have hcz9_0 : w4.cell? ⟨gb433, 0, none⟩ = some (.slice A0_0 l0_0.length c0_0) := (blk_cell BK433.out 0).trans rfl; have hfz9_0 := blk_frozen BK433.out 0))
  go_loopg [10] k (fun kq v10 w' => ∃ (x10_1 : Int) (x436000_1 : List (List Int)) (u436000 : Value), v10 = .int .i64 x10_1 ∧ Aside0 (impl_Matrix_own.l0 kq l0_0 (l0_0.length : Int) x10_1 x436000_1 = some r) ∧ Aside0 (kq ≤ k) ∧ Aside0 (Kd.S (Kd.slice 3 (Kd.int .i64)) 33 w' w.heap.size (fun _ => True) u436000 x436000_1) ∧ Aside0 (w'.heap[gb433]? = some (.cells #[(.slice A0_0 l0_0.length c0_0)] 27 (0, 0))) ∧ Aside0 (w'.heap[gb434]? = some (.cells #[(.slice none 0 0)] 27 (0, 0))) ∧ Aside0 (w'.heap[gb435]? = some (.cells #[u436000] 27 (0, 0))) ∧ Aside0 (Below w.heap.size w w'))
  case atStart => exact ⟨(0), (([] : List (List Int))), (.slice none 0 0), (by first | rfl | (simp; done) | (simp [*]; done)), H', ⟨Nat.le_refl _⟩, ⟨by first | exact Kd.S_nil _ _ _ _ _ | exact Kd.N_nil _ _ _ _ _ | exact Kd.V_nil _ _ _ _ _ | exact Kd.Q_nil _ _ _ _ _ | exact Kd.R_nil _ _ _ _ _⟩, ⟨by (with_reducible repeat (first | refine blk_drewN ?_ _ | refine blk_drew ?_ | refine blk_alloc ?_ _)); refine blk_far ?_ NB433_435.out _; (with_reducible repeat (first | refine blk_drewN ?_ _ | refine blk_drew ?_ | refine blk_alloc ?_ _)); exact BK433.out⟩, ⟨by (with_reducible repeat (first | refine blk_drewN ?_ _ | refine blk_drew ?_ | refine blk_alloc ?_ _)); refine blk_far ?_ NB434_435.out _; (with_reducible repeat (first | refine blk_drewN ?_ _ | refine blk_drew ?_ | refine blk_alloc ?_ _)); exact BK434.out⟩, ⟨by (with_reducible repeat (first | refine blk_drewN ?_ _ | refine blk_drew ?_ | refine blk_alloc ?_ _)); refine blk_put (cs := #[.slice none 0 0]) ?_ 0 _ rfl; (with_reducible repeat (first | refine blk_drewN ?_ _ | refine blk_drew ?_ | refine blk_alloc ?_ _)); exact BK435.out⟩, ⟨by repeat (first | (with_reducible first | exact HB.out | apply below_alloc | apply pw_below_drewN | apply below_drew1 | refine below_set ?_ GE433.out | refine below_set ?_ GE434.out | refine below_set ?_ GE435.out) | exact HB.out)⟩⟩
  case round =>
    clear H'
    try clear p2
    try clear c5
    try clear c6
    try clear c7
    try clear c8
    try clear hcz7_0
    try clear hcz9_0
    try clear hfz7_0
    try clear hfz9_0
    obtain ⟨x10_1, x436000_1, u436000, rfl, HA, HK1, HO_436000, BK433, BK434, BK435, HB⟩ := hrel
    cases gk with
    | zero => exact absurd HA.out (by simp [impl_Matrix_own.l0])
    | succ k1 =>
      have H := HA.out
      clear HA
      simp only [impl_Matrix_own.l0] at H
      by_cases c10 : x10_1 < (l0_0.length : Int)
      · rw [if_pos c10] at H
        have c10b0 : decide (x10_1 < (l0_0.length : Int)) = true := decide_eq_true c10
        clear c10
        by_cases c11 : 0 ≤ x10_1
        · rw [if_pos c11] at H
          have c11b0 : decide (0 ≤ x10_1) = true := decide_eq_true c11
          clear c11
          by_cases c12 : x10_1 < (l0_0.length : Int)
          · rw [if_pos c12] at H
            have c12b0 : decide (x10_1 < (l0_0.length : Int)) = true := decide_eq_true c12
            clear c12
            replace H := Option.bind_eq_some_iff.mp H
            obtain ⟨t437, A130, H⟩ := H
            replace H : (if x436000_1.length < 5864062014805 then (impl_Matrix_own.l0 k1 l0_0 (l0_0.length : Int) (wrap64 (x10_1 + 1)) (x436000_1 ++ [t437])) else (none)) = some r := H
            have A13 := Aside0.mk A130
            clear A130
            by_cases c14 : x436000_1.length < 5864062014805
            · rw [if_pos c14] at H
              have LMc14 := Aside0.mk c14
              clear c14
              obtain ⟨y440, hy440⟩ : ∃ y_ : List (List Int), y_ = (x436000_1 ++ [t437]) := ⟨_, rfl⟩
              replace H : (impl_Matrix_own.l0 k1 l0_0 (l0_0.length : Int) (wrap64 (x10_1 + 1)) y440) = some r := by first | (rw [hy440]; with_reducible exact H) | (have H2_ := (Option.bind_some _ _).symm.trans H; rw [hy440]; with_reducible exact H2_) | (have H2_ := (Option.bind_some _ _).symm.trans H; with_reducible exact H2_) | with_reducible exact H | (rw [hy440]; exact H) | exact H
              have Ny440 := Aside0.mk hy440
              clear hy440
              have H' := Aside0.mk H
              clear H
              have p436 : 0 ≤ (x10_1 : Int) := of_decide_eq_true (by first | (with_reducible assumption) | assumption)
              have q436 : x10_1 < (l0_0.length : Int) := of_decide_eq_true (by first | (with_reducible assumption) | assumption)
              obtain ⟨ad436, A436_0, c436_0, e436, hx436_0, hl436_0, hi436_0⟩ := at_L1 HR0_0.out x10_1 p436 q436
              cases e436
              replace hx436_0 := (HB.out.cell (World.block_lt_of_cell? w _ hx436_0)).trans hx436_0
              have HR436_0 := Aside0.mk hi436_0
              have HC436_0 := Aside0.mk hl436_0
              clear hi436_0 hl436_0
              replace p436 := eq_true p436
              replace q436 := eq_true q436
              try go_wp2
              have n0_ := Aside0.mk (Kd.S_drew HO_436000.out)
              have n1_ := Aside0.mk (blk_drew BK433.out)
              have n2_ := Aside0.mk (blk_drew BK434.out)
              have n3_ := Aside0.mk (blk_drew BK435.out)
              have n4_ := Aside0.mk (below_drew1 HB.out)
              clear HO_436000
              clear BK433
              clear BK434
              clear BK435
              clear HB
              have HO_436000 := n0_
              have BK433 := n1_
              have BK434 := n2_
              have BK435 := n3_
              have HB := n4_
              clear n0_ n1_ n2_ n3_ n4_
              refine start_ (n := 8) (S := fun w' => w'.cell? ⟨gb435, 0, none⟩ = some (u436000)) (ds := [7]) #[false, false, false, false, false, false, false, false] (by kernel_rfl) rfl rfl ((blk_cell BK435.out 0).trans rfl) (fun hHeld => ?_); refine with_tabW impl_Matrix_own.tab5 impl_Matrix_own.bits5 (fun HT_ HW_ => ?_)
              generalize wr.drew = w15 at HO_436000 BK433 BK434 BK435 HB hHeld ⊢
              refine pure_ (i := 0) (N := some 14) (v := ?_) (a' := ?_) #[true, false, false, false, false, false, false, false] rfl rfl (any_of HT_.out (by kernel_rfl)) (fun _ _ _ h => h) (Or.inl ⟨by rfl, ?_⟩) ?_ ?_
              rotate_left
              · intro w'
                go_simp
                with_reducible rfl
              rotate_left
              · simp only [Act.put, List.setIfInBounds_toArray, List.set_cons_zero, List.set_cons_succ, i64_w, i32_w]
                rfl
              refine pure_ (i := 2) (N := some 16) (v := ?_) (a' := ?_) #[true, false, true, false, false, false, false, false] rfl rfl (any_of HT_.out (by kernel_rfl)) (fun _ _ _ h => h) (Or.inl ⟨by rfl, ?_⟩) ?_ ?_
              rotate_left
              · intro w'
                go_simp
                with_reducible rfl
              rotate_left
              · simp only [Act.put, List.setIfInBounds_toArray, List.set_cons_zero, List.set_cons_succ, i64_w, i32_w]
                rfl
              refine take_ (i := 1) (N := some 15) (v := ?_) (a' := ?_) #[true, true, true, false, false, false, false, false] rfl rfl (take_ofW HT_.out HW_.out (by kernel_rfl)) (fun _ _ _ h => h) (Or.inl ⟨by rfl, ?_⟩) hHeld ?_ ?_
              rotate_left
              · intro w' s0
                go_simp
                with_reducible rfl
              rotate_left
              · simp only [Act.put, List.setIfInBounds_toArray, List.set_cons_zero, List.set_cons_succ, i64_w, i32_w]
                rfl
              refine one_ (i := 3) (N := some 17) #[true, true, true, true, false, false, false, false] rfl rfl (one_of HT_.out (by kernel_rfl)) (by decide) (fun K hK => ?_)
              refine goes_ Try.func95 (by kernel_rfl) rfl #[.slice A436_0 (rd_L1 l0_0 x10_1).length c436_0] (by rfl) rfl rfl (by (try simp only [List.map_toArray, List.map_cons, List.map_nil]); first | done | rfl | (simp only [List.length_drop, List.length_take]; rfl)) ?_
              with_reducible refine (slices_Clone_int_int.calls _ _ (rd_L1 l0_0 x10_1) t437 _ ?side1 ?side2 A13.out).mono ?_
              (case side1 => repeat (first | exact (Kd.C_below HR436_0.out HB.out) | (with_reducible refine Kd.C_alloc ?_ _) | (with_reducible refine Kd.C_drewN ?_ _) | (with_reducible refine Kd.C_drew ?_)))
              (case side2 => exact HC436_0.out)
              rintro e w16 ⟨v438, rfl, ho0, hb⟩
              refine ⟨_, rfl, ?_⟩
              have n0_ := Aside0.mk (Kd.S_elder' (by (with_reducible repeat (first | apply Kd.S_alloc | apply Kd.S_drewN | apply Kd.S_drew)); exact HO_436000.out) (Kd.R_base ho0) hb)
              have n1_ := Aside0.mk (Kd.R_lower ho0 (below_size (by repeat (first | (with_reducible first | exact HB.out | apply below_alloc | apply pw_below_drewN | apply below_drew1 | refine below_set ?_ GE433.out | refine below_set ?_ GE434.out | refine below_set ?_ GE435.out) | exact HB.out))))
              have n2_ := Aside0.mk (blk_below (g := gb433) (o := .cells #[.slice (some ad436) l0_0.length c0_0] 27 (0, 0)) (by (with_reducible repeat (first | refine blk_drewN ?_ _ | refine blk_drew ?_ | refine blk_alloc ?_ _)); exact BK433.out) hb)
              have n3_ := Aside0.mk (blk_below (g := gb434) (o := .cells #[.slice none 0 0] 27 (0, 0)) (by (with_reducible repeat (first | refine blk_drewN ?_ _ | refine blk_drew ?_ | refine blk_alloc ?_ _)); exact BK434.out) hb)
              have n4_ := Aside0.mk (blk_below (g := gb435) (o := .cells #[u436000] 27 (0, 0)) (by (with_reducible repeat (first | refine blk_drewN ?_ _ | refine blk_drew ?_ | refine blk_alloc ?_ _)); exact BK435.out) hb)
              have n5_ := Aside0.mk (below_step (by repeat (first | (with_reducible first | exact HB.out | apply below_alloc | apply pw_below_drewN | apply below_drew1 | refine below_set ?_ GE433.out | refine below_set ?_ GE434.out | refine below_set ?_ GE435.out) | exact HB.out)) hb)
              clear HO_436000
              clear BK433
              clear BK434
              clear BK435
              clear HB
              have HO_436000 := n0_
              have HO439 := n1_
              have BK433 := n2_
              have BK434 := n3_
              have BK435 := n4_
              have HB := n5_
              clear n0_ n1_ n2_ n3_ n4_ n5_
              (try clear hb)
              (try clear hb2)
              (try clear hk)
              (try clear hi)
              (try clear ho0)
              obtain ⟨Ao18, co18, eo18⟩ := Kd.R_slice HO439.out
              (first | subst eo18 | (injection eo18 with f1_ f2_ f3_; have f4_ := f1_.symm; have f5_ := f3_.symm; clear f1_ f2_ f3_; subst f4_; subst f5_))
              refine hK.out _ _ ((blk_cell BK435.out 0).trans rfl) (fun hHeld => ?_)
              clear hK K
              refine norm_ (a' := ?_) ?_ ?_
              rotate_left
              · show Act.put _ (some 17) _ = _
                simp only [Act.put, List.setIfInBounds_toArray, List.set_cons_zero, List.set_cons_succ, i64_w, i32_w]
                rfl
              refine one_ (i := 4) (N := some 18) #[true, true, true, true, true, false, false, false] rfl rfl (one_of HT_.out (by kernel_rfl)) (by decide) (fun K hK => ?_)
              refine value_ (w1 := ?_) (v := ?_) (by rfl) rfl ?_ ?_
              rotate_left 2
              · go_simp
                constructor
                · rfl
                · rfl
              refine hK.out _ _ ((blk_cell (blk_alloc BK435.out _) 0).trans rfl) (fun hHeld => ?_)
              clear hK K
              refine norm_ (a' := ?_) ?_ ?_
              rotate_left
              · show Act.put _ (some 18) _ = _
                simp only [Act.put, List.setIfInBounds_toArray, List.set_cons_zero, List.set_cons_succ, i64_w, i32_w]
                rfl
              refine one_ (i := 5) (N := some 19) #[true, true, true, true, true, true, false, false] rfl rfl (one_of HT_.out (by kernel_rfl)) (by decide) (fun K hK => ?_)
              refine Kd.S_append_step (Kd.slice 3 (Kd.int .i64)) (w0 := w) w.heap.size (by rfl) (.tmp 15) (.tmp 18) 22 33 (.slice none 0 0) 24 rfl Try.underlying22 info33 rfl (by decide) (by omega) u436000 x436000_1 t437 [.slice Ao18 t437.length co18] (fun _ => True) (fun k_ => some k_ = (.slice Ao18 t437.length co18 : Value).ownBlock) rfl rfl ?aP (fun k_ hk_ => ((Kd.R_mono (ok' := fun k_ => ((fun _ => True)) k_ ∧ some k_ ≠ (u436000 : Value).ownBlock) (Kd.R_apart' (HO439.out) (Kd.S_typed HO_436000.out) (by decide)) (fun k_ hk => ⟨trivial, hk.2⟩))).1 k_ hk_.symm) ?aF ?aO ?aB ?aS ?aL ?_
              (case aP => exact Kd.M_row (Kd.R_mono (Kd.R_tight rfl (Kd.R_mono (ok' := fun k_ => ((fun _ => True)) k_ ∧ some k_ ≠ (u436000 : Value).ownBlock) (Kd.R_apart' (HO439.out) (Kd.S_typed HO_436000.out) (by decide)) (fun k_ hk => ⟨trivial, hk.2⟩))) (fun _ h_ => h_)))
              (case aB => exact (by repeat (first | (with_reducible first | exact HB.out | apply below_alloc | apply pw_below_drewN | apply below_drew1 | refine below_set ?_ GE433.out | refine below_set ?_ GE434.out | refine below_set ?_ GE435.out) | exact HB.out)))
              (case aF => exact (fun _ _ => trivial))
              (case aO => exact (by (with_reducible repeat (first | apply Kd.S_alloc | apply Kd.S_drewN | apply Kd.S_drew)); exact Kd.S_mono HO_436000.out (fun k_ hk => ⟨trivial, fun e_ => hk.2 e_⟩)))
              (case aS => exact (below_size (by repeat (first | (with_reducible first | exact HB.out | apply below_alloc | apply pw_below_drewN | apply below_drew1 | refine below_set ?_ GE433.out | refine below_set ?_ GE434.out | refine below_set ?_ GE435.out) | exact HB.out))))
              (case aL => have := LMc14.out; omega)
              intro v441 w17 ho hb hg hat
              rw [← Ny440.out] at ho
              have n0_ := Aside0.mk (blk_grown (g := gb433) (o := .cells #[.slice (some ad436) l0_0.length c0_0] 27 (0, 0)) (by (with_reducible repeat (first | refine blk_drewN ?_ _ | refine blk_drew ?_ | refine blk_alloc ?_ _)); exact BK433.out) hg (Kd.S_ne HO_436000.out BK433.out (by decide)))
              have n1_ := Aside0.mk (blk_grown (g := gb434) (o := .cells #[.slice none 0 0] 27 (0, 0)) (by (with_reducible repeat (first | refine blk_drewN ?_ _ | refine blk_drew ?_ | refine blk_alloc ?_ _)); exact BK434.out) hg (Kd.S_ne HO_436000.out BK434.out (by decide)))
              have n2_ := Aside0.mk (blk_grown (g := gb435) (o := .cells #[u436000] 27 (0, 0)) (by (with_reducible repeat (first | refine blk_drewN ?_ _ | refine blk_drew ?_ | refine blk_alloc ?_ _)); exact BK435.out) hg (Kd.S_ne HO_436000.out BK435.out (by decide)))
              have n3_ := Aside0.mk (hb)
              have n4_ := Aside0.mk (ho)
              clear BK433
              clear BK434
              clear BK435
              clear HB
              clear HO_436000
              clear HO439
              have BK433 := n0_
              have BK434 := n1_
              have BK435 := n2_
              have HB := n3_
              have HO442 := n4_
              clear n0_ n1_ n2_ n3_ n4_
              clear ho hb hg hat
              obtain ⟨Ao19, co19, eo19⟩ := Kd.S_slice HO442.out
              (first | subst eo19 | (injection eo19 with f1_ f2_ f3_; have f4_ := f1_.symm; have f5_ := f3_.symm; clear f1_ f2_ f3_; subst f4_; subst f5_))
              refine hK.out _ _ ((blk_cell BK435.out 0).trans rfl) (fun hHeld => ?_)
              clear hK K
              refine norm_ (a' := ?_) ?_ ?_
              rotate_left
              · show Act.put _ (some 19) _ = _
                simp only [Act.put, List.setIfInBounds_toArray, List.set_cons_zero, List.set_cons_succ, i64_w, i32_w]
                rfl
              refine pure_ (i := 6) (N := some 20) (v := ?_) (a' := ?_) #[true, true, true, true, true, true, true, false] rfl rfl (any_of HT_.out (by kernel_rfl)) (fun _ _ _ h => h) (Or.inl ⟨by rfl, ?_⟩) ?_ ?_
              rotate_left
              · intro w'
                go_simp
                with_reducible rfl
              rotate_left
              · simp only [Act.put, List.setIfInBounds_toArray, List.set_cons_zero, List.set_cons_succ, i64_w, i32_w]
                rfl
              refine last_ (i := 7) (N := none) #[true, true, true, true, true, true, true, true] rfl rfl (one_of HT_.out (by kernel_rfl)) (by decide) (fun K hK => ?_)
              have hs20 : w17.cell? ⟨gb435, 0, none⟩ = some (u436000) := (blk_cell BK435.out 0).trans rfl
              have hfs20 := blk_frozen BK435.out 0
              have hns20_0 := NB433_435.out
              have hns20_1 := NB434_435.out
              have hms20_0 := NB435_433.out
              have hms20_1 := NB435_434.out
              refine skip_ (w1 := ?_) (by rfl) rfl ?_ ?_
              rotate_left
              · go_simp
                rfl
              refine hK.out _ _ ?_
              clear hK K
              refine done_ (done_of HT_.out (by kernel_rfl)) ?_
              try go_wp2
              go_roundg k1
              case measure => have := HK1.out; omega
              case rel => exact ⟨(wrap64 (x10_1 + 1)), (y440), (.slice Ao19 y440.length co19), (by first | rfl | (simp; done) | (simp [*]; done)), H', ⟨by have := HK1.out; omega⟩, ⟨by (with_reducible repeat (first | apply Kd.S_alloc | apply Kd.S_drewN | apply Kd.S_drew)); exact Kd.S_mono (Kd.S_far (p := ⟨gb435, 0, none⟩) (Kd.S_types HO442.out BK435.out (by decide)) (fun _ hk => hk.2) (.slice Ao19 y440.length co19)) (fun _ hk => trivial)⟩, ⟨by (with_reducible repeat (first | refine blk_drewN ?_ _ | refine blk_drew ?_ | refine blk_alloc ?_ _)); refine blk_far ?_ NB433_435.out _; (with_reducible repeat (first | refine blk_drewN ?_ _ | refine blk_drew ?_ | refine blk_alloc ?_ _)); exact BK433.out⟩, ⟨by (with_reducible repeat (first | refine blk_drewN ?_ _ | refine blk_drew ?_ | refine blk_alloc ?_ _)); refine blk_far ?_ NB434_435.out _; (with_reducible repeat (first | refine blk_drewN ?_ _ | refine blk_drew ?_ | refine blk_alloc ?_ _)); exact BK434.out⟩, ⟨by (with_reducible repeat (first | refine blk_drewN ?_ _ | refine blk_drew ?_ | refine blk_alloc ?_ _)); refine blk_put (cs := #[u436000]) ?_ 0 _ rfl; (with_reducible repeat (first | refine blk_drewN ?_ _ | refine blk_drew ?_ | refine blk_alloc ?_ _)); exact BK435.out⟩, ⟨by repeat (first | (with_reducible first | exact HB.out | apply below_alloc | apply pw_below_drewN | apply below_drew1 | refine below_set ?_ GE433.out | refine below_set ?_ GE434.out | refine below_set ?_ GE435.out) | exact HB.out)⟩⟩
            · rw [if_neg c14] at H
              exact absurd H (by simp)
          · rw [if_neg c12] at H
            exact absurd H (by simp)
        · rw [if_neg c11] at H
          exact absurd H (by simp)
      · rw [if_neg c10] at H
        have c10b0 : decide (x10_1 < (l0_0.length : Int)) = false := decide_eq_false c10
        clear c10
        obtain rfl := Option.some.inj H
        have hnb21 := NB435_433.out
        have hnc21 := NB433_435.out
        have hnb22 := NB435_434.out
        have hnc22 := NB434_435.out
        have hcz23_0 : wr.cell? ⟨gb435, 0, none⟩ = some (u436000) := (blk_cell BK435.out 0).trans rfl
        have hfz23_0 := blk_frozen BK435.out 0
        obtain ⟨Ao24, co24, eo24⟩ := Kd.S_slice HO_436000.out
        subst eo24
        have hnb25 := NB434_433.out
        have hnc25 := NB433_434.out
        have hcz26_0 : wr.cell? ⟨gb434, 0, none⟩ = some (.slice none 0 0) := (blk_cell BK434.out 0).trans rfl
        have hfz26_0 := blk_frozen BK434.out 0
        go_wp2
        refine bodyPost_ret (results_cell_row rfl _ _ gb434 27 #[.slice Ao24 x436000_1.length co24] (0, 0) _ rfl (by (with_reducible repeat (first | refine blk_drewN ?_ _ | refine blk_drew ?_ | refine blk_alloc ?_ _)); refine blk_put (cs := #[.slice none 0 0]) ?_ 0 _ rfl; (with_reducible repeat (first | refine blk_drewN ?_ _ | refine blk_drew ?_ | refine blk_alloc ?_ _)); exact BK434.out) Try.underlying27 rfl (by kernel_rfl)) rfl ?_
        exact ⟨_, by first | rfl | (simp [errW_none, errW_some] <;> rfl) | (simp [*, errW_none, errW_some] <;> rfl), by (with_reducible repeat (first | apply Kd.S_alloc | apply Kd.S_drewN | apply Kd.S_drew)); exact Kd.S_mono (Kd.S_far (p := ⟨gb434, 0, none⟩) (Kd.S_types HO_436000.out BK434.out (by decide)) (fun _ hk => hk.2) (.slice Ao24 x436000_1.length co24)) (fun _ hk => trivial), by repeat (first | (with_reducible first | exact HB.out | apply below_alloc | apply pw_below_drewN | apply below_drew1 | refine below_set ?_ GE433.out | refine below_set ?_ GE434.out | refine below_set ?_ GE435.out) | exact HB.out)⟩

/-! ### impl_FlattenMatrix: function 36 -/
def impl_FlattenMatrix.flatRow (r : List Int) : List Int := r.map fun n => if 1 < n then 1 else n
def impl_FlattenMatrix.flatR (i : Nat) (r : List Int) : List Int := impl_FlattenMatrix.flatRow (r.take i) ++ r.drop i
def impl_FlattenMatrix.flatN (i : Nat) (o : List (List Int)) : List (List Int) := (o.take i).map impl_FlattenMatrix.flatRow ++ o.drop i
def impl_FlattenMatrix.f (k : Nat) (l0 : List (List Int)) : Option (List (List Int) × Bool) := (impl_IsMatrix.f k l0).bind fun t => if t = true then (impl_Matrix_own.f k l0).bind fun o => (if o.length ≤ 1048576 ∧ (∀ r ∈ o, r.length ≤ 1048576) then some (o.map impl_FlattenMatrix.flatRow, true) else none) else some (([] : List (List Int)), false)
set_option maxHeartbeats 8000000 in
set_option maxRecDepth 100000 in
theorem impl_FlattenMatrix.calls (k : Nat) (A0 : Option Addr) (c0 : Nat) (l0 : List (List Int)) (r1 : List (List Int)) (r2 : Bool) (w : World) (hr0 : Kd.C (Kd.slice 3 (Kd.int .i64)) w A0 l0.length l0) (hc0 : l0.length ≤ c0) (h : impl_FlattenMatrix.f k l0 = some (r1, r2)) :
    Calls Try.prog 36 #[.agg #[.slice A0 l0.length c0]] w fun e w' => ∃ v0_ : Value, e = .returned (.tuple #[.agg #[v0_], .bool r2]) ∧ Kd.S (Kd.slice 3 (Kd.int .i64)) 33 w' w.heap.size (fun _ => True) v0_ r1 ∧ Below w.heap.size w w' := by
  have HC0 := Aside0.mk hr0; have HL0 := Aside0.mk hc0; clear hr0 hc0
  have HB := Aside0.mk (Below.refl w.heap.size w)
  obtain ⟨t, e1, H⟩ := Option.bind_eq_some_iff.mp (show (impl_IsMatrix.f k l0).bind (fun t => if t = true then (impl_Matrix_own.f k l0).bind fun o => (if o.length ≤ 1048576 ∧ (∀ r ∈ o, r.length ≤ 1048576) then some (o.map impl_FlattenMatrix.flatRow, true) else none) else some (([] : List (List Int)), false)) = some (r1, r2) from h)
  clear h
  have E1 := Aside0.mk e1; clear e1
  have sz1 : (w.alloc (.cells #[.slice A0 l0.length c0] 27)).heap.size = w.heap.size + 1 := by rw [World.alloc]; exact Array.size_push _
  cases t with
  | false =>
    obtain ⟨rfl, rfl⟩ := Prod.mk.inj (Option.some.inj H)
    clear H
    go_enter Try.func36, Try.ntmps36
    go_wp2_with (fail)
    refine (impl_IsMatrix.calls k A0 c0 l0 false _ ?s1 HL0.out E1.out).mono ?_
    case s1 => exact Kd.C_below HC0.out (by repeat (first | exact HB.out | apply below_alloc | apply pw_below_drewN | apply below_drew1))
    rintro e w1 ⟨rfl, hb⟩
    have n0_ := Aside0.mk (below_step (by repeat (first | exact HB.out | apply below_alloc | apply pw_below_drewN | apply below_drew1)) hb)
    have BR := Aside0.mk (Mem.X.below (Mem.X.new (w.alloc (.cells #[.slice A0 l0.length c0] 27)) #[.slice none 0 0] 27) hb)
    clear HB hb; have HB := n0_; clear n0_
    rw [sz1] at BR
    have c2 : w1.cell? ⟨w.heap.size + 1, 0, none⟩ = some (.slice none 0 0) := (BR.out.cell 0).trans rfl
    have f2 : w1.frozen? ⟨w.heap.size + 1, 0, none⟩ = false := blk_frozen BR.out.blk 0
    go_wp2_with (fail)
    refine bodyPost_ret (results_ct rfl _ _ (w.heap.size + 1) 27 #[.slice none 0 0] (0, 0) _ rfl (blk_put (cs := #[.slice none 0 0]) BR.out.blk 0 _ rfl) Try.underlying27 rfl (by kernel_rfl)) rfl ?_
    exact ⟨_, rfl, Kd.S_nil _ _ _ _ _, below_set HB.out (by simp)⟩
  | true =>
    obtain ⟨o, e2, H⟩ := Option.bind_eq_some_iff.mp (show (impl_Matrix_own.f k l0).bind (fun o => (if o.length ≤ 1048576 ∧ (∀ r ∈ o, r.length ≤ 1048576) then some (o.map impl_FlattenMatrix.flatRow, true) else none)) = some (r1, r2) from H)
    by_cases hsm : o.length ≤ 1048576 ∧ (∀ r ∈ o, r.length ≤ 1048576)
    case neg => rw [if_neg hsm] at H; exact absurd H (by simp)
    rw [if_pos hsm] at H
    have SM := Aside0.mk hsm; clear hsm
    obtain ⟨rfl, rfl⟩ := Prod.mk.inj (Option.some.inj H)
    clear H
    have E2 := Aside0.mk e2; clear e2
    go_enter Try.func36, Try.ntmps36
    go_wp2_with (fail)
    refine (impl_IsMatrix.calls k A0 c0 l0 true _ ?s1 HL0.out E1.out).mono ?_
    case s1 => exact Kd.C_below HC0.out (by repeat (first | exact HB.out | apply below_alloc | apply pw_below_drewN | apply below_drew1))
    rintro e w1 ⟨rfl, hb⟩
    have n0_ := Aside0.mk (below_step (by repeat (first | exact HB.out | apply below_alloc | apply pw_below_drewN | apply below_drew1)) hb)
    have BA := Aside0.mk (Mem.X.below (Mem.X.alloc (Mem.X.new w #[.slice A0 l0.length c0] 27) (.cells #[.slice none 0 0] 27)) hb)
    have BR := Aside0.mk (Mem.X.below (Mem.X.new (w.alloc (.cells #[.slice A0 l0.length c0] 27)) #[.slice none 0 0] 27) hb)
    clear HB hb; have HB := n0_; clear n0_
    rw [sz1] at BR
    have c1 : w1.cell? ⟨w.heap.size, 0, none⟩ = some (.slice A0 l0.length c0) := (BA.out.cell 0).trans rfl
    go_wp2_with (fail)
    refine (impl_Matrix_own.calls k A0 c0 l0 o _ ?s1 HL0.out E2.out).mono ?_
    case s1 => exact Kd.C_below HC0.out HB.out
    rintro e w2 ⟨v_, rfl, hs_, hb⟩
    obtain ⟨lo, hi, oa_, ob_, hm_⟩ := Mem.S.made' (w.heap.size + 2) hs_ HB.out hb BR.out.lt
    clear hs_
    obtain ⟨Ao, co, rfl, _, _⟩ := hm_.reads
    have n0_ := Aside0.mk (below_step HB.out hb)
    have n1_ := Aside0.mk (Mem.X.below BA.out hb)
    have n2_ := Aside0.mk (Mem.X.below BR.out hb)
    have HS := Aside0.mk hm_
    clear HB BA BR hb c1 hm_; have HB := n0_; have BA := n1_; have BR := n2_; clear n0_ n1_ n2_
    have OA := Aside0.mk oa_; have OB := Aside0.mk ob_; clear oa_ ob_
    go_wp2_with (fail)
    have n0_ := Aside0.mk (below_alloc HB.out (.cells #[.slice Ao o.length co] 27))
    have n1_ := Aside0.mk (Mem.X.alloc BA.out (.cells #[.slice Ao o.length co] 27))
    have n2_ := Aside0.mk (Mem.X.alloc BR.out (.cells #[.slice Ao o.length co] 27))
    have n3_ := Aside0.mk (Mem.S.alloc HS.out (.cells #[.slice Ao o.length co] 27))
    have BO := Aside0.mk (Mem.X.new w2 #[.slice Ao o.length co] 27)
    have OC := Aside0.mk HS.out.size
    clear HB BA BR HS H; have HB := n0_; have BA := n1_; have BR := n2_; have HS := n3_; clear n0_ n1_ n2_ n3_
    go_loopg [18] (o.length + 1) (fun kq v18 w' => ∃ i : Nat, v18 = .int .i64 (i : Int) ∧ Aside0 (i ≤ o.length ∧ kq = o.length - i + 1) ∧ Aside0 (Mem.S (Kd.slice 3 (Kd.int .i64)) 33 w w' lo hi (.slice Ao o.length co) (impl_FlattenMatrix.flatN i o)) ∧ Aside0 (Mem.X w' w.heap.size #[.slice A0 l0.length c0] 27) ∧ Aside0 (Mem.X w' (w.heap.size + 1) #[.slice none 0 0] 27) ∧ Aside0 (Mem.X w' w2.heap.size #[.slice Ao o.length co] 27) ∧ Aside0 (Below w.heap.size w w'))
    case atStart => exact ⟨0, rfl, ⟨Nat.zero_le _, rfl⟩, ⟨by simpa [impl_FlattenMatrix.flatN] using HS.out⟩, BA, BR, BO, HB⟩
    case round =>
      clear HB BA BR HS BO
      obtain ⟨i, rfl, HI, HS, BA, BR, BO, HB⟩ := hrel
      rename World => wq
      by_cases ci : i < o.length
      · have c1 : decide ((i : Int) < (o.length : Int)) = true := decide_eq_true (by omega)
        have c2 : decide (i < o.length) = true := decide_eq_true ci
        have e1 : (impl_FlattenMatrix.flatN i o).length = o.length := Mem.part_len _ _ _
        obtain ⟨go1, co1, eo1, gb1, gl1, cl1, HG1⟩ := Kd.S_form HS.out.rows (by omega)
        injection eo1 with ea en ec
        subst ea
        subst ec
        clear en gb1 gl1 HG1
        obtain ⟨oki, ce, hcl, hM, hcc, hfr, hoki, hH⟩ := Kd.S_elem HS.out.rows [] (i : Int) (by omega) (by omega)
        obtain ⟨ve, rfl, hR⟩ := hM
        have hx := hcc 0 ve rfl
        simp only [show (Kd.slice 3 (Kd.int .i64)).sz = 1 from rfl, Nat.mul_one, Nat.add_zero, Int.toNat_natCast] at hx
        rw [Int.toNat_natCast, show (impl_FlattenMatrix.flatN i o).getD i [] = o.getD i [] from Mem.part_get _ _ _ _ ci] at hR
        obtain ⟨r, hr⟩ : ∃ r, r = o.getD i [] := ⟨_, rfl⟩
        rw [← hr] at hR
        obtain ⟨Ai, ci_, rfl⟩ := Kd.R_slice hR
        have HR := Aside0.mk (show (Kd.int .i64).R 3 wq w.heap.size oki (.slice Ai r.length ci_) r from hR)
        have HH := Aside0.mk hH
        have HO := Aside0.mk hoki
        have HQ := Aside0.mk hr
        clear hcl hcc hfr hoki hH hR hr
        go_wp2_with (fail)
        go_loopg [24] (r.length + 1) (fun kq v24 w' => ∃ j : Nat, v24 = .int .i64 (j : Int) ∧ Aside0 (j ≤ r.length ∧ kq = r.length - j + 1) ∧ Aside0 ((Kd.int .i64).R 3 w' w.heap.size oki (.slice Ai r.length ci_) (impl_FlattenMatrix.flatR j r)) ∧ Aside0 (Kept wq w' oki) ∧ Aside0 (Below w.heap.size w w'))
        case atStart => exact ⟨0, rfl, ⟨Nat.zero_le _, rfl⟩, ⟨by simpa [impl_FlattenMatrix.flatR, impl_FlattenMatrix.flatRow] using HR.out⟩, ⟨Kept.refl _ _⟩, HB⟩
        case round =>
          clear HB HR
          obtain ⟨j, rfl, HJ, HR, HK, HB⟩ := hrel
          by_cases cj : j < r.length
          · have d1 : decide ((j : Int) < (r.length : Int)) = true := decide_eq_true (by omega)
            have d2 : decide (j < r.length) = true := decide_eq_true cj
            have e2 : (impl_FlattenMatrix.flatR j r).length = r.length := Mem.part_len _ _ _
            obtain ⟨go2, co2, eo2, gb2, gl2, cl2, HG2⟩ := Kd.R_form HR.out (by omega)
            injection eo2 with ea en ec
            subst ea
            subst ec
            clear en gl2 HG2
            have GB := Aside0.mk gb2; clear gb2
            obtain ⟨hx2, hf2⟩ := Kd.R_celln 0 HR.out (j : Int) (by omega) (by omega)
            have hv : rdOf 0 (impl_FlattenMatrix.flatR j r) (j : Int) = r.getD j 0 := by
              show (impl_FlattenMatrix.flatR j r).getD (j : Int).toNat 0 = _
              rw [Int.toNat_natCast]; exact Mem.part_get _ _ _ _ cj
            rw [hv] at hx2
            rw [Int.toNat_natCast] at hx2 hf2
            obtain ⟨n, hn⟩ : ∃ n, n = r.getD j 0 := ⟨_, rfl⟩
            rw [← hn] at hx2
            have hP : ∀ x : Int, (if 1 < n then 1 else n) = x → (Kd.int .i64).R 3 (wr.setCell ⟨go2, j, none⟩ (.int .i64 x)) w.heap.size oki (.slice (some ⟨go2, 0, none⟩) r.length ci_) (impl_FlattenMatrix.flatR (j + 1) r) ∧ wr.grownBy (wr.setCell ⟨go2, j, none⟩ (.int .i64 x)) (some go2) := by
              rintro x rfl
              have HP := Kd.R_putg HR.out (j : Int) (if 1 < n then 1 else n)
              rw [Int.toNat_natCast] at HP
              rw [show impl_FlattenMatrix.flatR (j + 1) r = _ from (Mem.part_set (fun n => if 1 < n then 1 else n) j r 0 cj).symm, ← hn]
              exact HP
            have hn2 : n = r[j] := by rw [hn, List.getD_eq_getElem?_getD, List.getElem?_eq_getElem cj]; rfl
            have HP1 : Aside0 (1 < r[j] → _) := ⟨fun h_ => hP 1 (by rw [hn2, if_pos h_])⟩
            have HP2 : Aside0 (r[j] ≤ 1 → _) := ⟨fun h_ => hP r[j] (by rw [hn2, if_neg (by omega)])⟩
            have hrl : r.length ≤ 1048576 := SM.out.2 r (by rw [HQ.out, List.getD_eq_getElem?_getD, List.getElem?_eq_getElem ci]; exact List.getElem_mem ci)
            have HW : Aside0 (Value.int .i64 (wrap64 ((j : Int) + 1)) = .int .i64 ((j + 1 : Nat) : Int)) := ⟨by rw [show wrap64 ((j : Int) + 1) = ((j + 1 : Nat) : Int) from by unfold wrap64; omega]⟩
            have HJ1 : Aside0 (j + 1 ≤ r.length ∧ r.length - j = r.length - (j + 1) + 1) := ⟨by omega⟩
            have HM : Aside0 (r.length - j < r.length - j + 1) := ⟨by omega⟩
            have HJ2 := HJ.out.2
            clear hP hrl e1 e2 sz1
            go_wp2_with (fail)
            all_goals (go_roundg (r.length - j))
            all_goals (try (case measure => first | exact HM.out | (rw [HJ.out.2]; exact HM.out)))
            · exact ⟨j + 1, HW.out, HJ1, ⟨(HP1.out (by assumption)).1⟩, ⟨Kept.of_grown (HP1.out (by assumption)).2 HK.out (fun k_ e_ => .inl (HR.out.1 k_ e_))⟩, ⟨below_set HB.out GB.out⟩⟩
            · exact ⟨j + 1, HW.out, HJ1, ⟨(HP2.out (by assumption)).1⟩, ⟨Kept.of_grown (HP2.out (by assumption)).2 HK.out (fun k_ e_ => .inl (HR.out.1 k_ e_))⟩, ⟨below_set HB.out GB.out⟩⟩
          · have d1 : decide ((j : Int) < (r.length : Int)) = false := decide_eq_false (by omega)
            have d2 : decide (j < r.length) = false := decide_eq_false cj
            go_wp2
            go_roundg (o.length - i)
            case measure => have := HI.out; omega
            case rel =>
              have ej : impl_FlattenMatrix.flatR j r = impl_FlattenMatrix.flatRow r := by
                have : j = r.length := by have := HJ.out; omega
                rw [this]; simp [impl_FlattenMatrix.flatR]
              refine ⟨i + 1, ?_, ⟨by omega, by omega⟩, ⟨Mem.S.write HS.out (hk := HK.out.mono (fun k_ hk_ => (HO.out k_ hk_).1)) ?_⟩, ⟨Mem.X.kept BA.out (HK.out.mono (fun k_ hk_ => (HO.out k_ hk_).1)) (by have := OA.out; omega)⟩, ⟨Mem.X.kept BR.out (HK.out.mono (fun k_ hk_ => (HO.out k_ hk_).1)) (by have := OA.out; omega)⟩, ⟨Mem.X.kept BO.out (HK.out.mono (fun k_ hk_ => (HO.out k_ hk_).1)) (by have := OC.out; omega)⟩, HB⟩
              · have := SM.out.1
                rw [show wrap64 ((i : Int) + 1) = ((i + 1 : Nat) : Int) from by unfold wrap64; omega]
              · have := Kd.H_back (Kd.H_kept HH.out HK.out (fun _ _ hn => hn)) (Kd.M_row (Kd.R_reok rfl HR.out (fun k_ hk_ => HR.out.1 k_ hk_))) (fun _ hk_ => hk_)
                rw [ej, HQ.out, Int.toNat_natCast] at this
                rw [show impl_FlattenMatrix.flatN (i + 1) o = _ from (Mem.part_set impl_FlattenMatrix.flatRow i o [] ci).symm]
                exact this
      · have c1 : decide ((i : Int) < (o.length : Int)) = false := decide_eq_false (by omega)
        have c2 : decide (i < o.length) = false := decide_eq_false ci
        have cO : wq.cell? ⟨w2.heap.size, 0, none⟩ = some (.slice Ao o.length co) := (BO.out.cell 0).trans rfl
        have cR : wq.cell? ⟨w.heap.size + 1, 0, none⟩ = some (.slice none 0 0) := (BR.out.cell 0).trans rfl
        have fR : wq.frozen? ⟨w.heap.size + 1, 0, none⟩ = false := blk_frozen BR.out.blk 0
        go_wp2_with (fail)
        refine bodyPost_ret (results_ct rfl _ _ (w.heap.size + 1) 27 #[.slice Ao o.length co] (0, 0) _ rfl (blk_put (cs := #[.slice none 0 0]) BR.out.blk 0 _ rfl) Try.underlying27 rfl (by kernel_rfl)) rfl ?_
        have ei : impl_FlattenMatrix.flatN i o = o.map impl_FlattenMatrix.flatRow := by
          have : i = o.length := by have := HI.out; omega
          rw [this]; simp [impl_FlattenMatrix.flatN]
        refine ⟨_, rfl, ?_, below_set HB.out (by simp)⟩
        rw [← ei]
        exact Kd.S_mono (Kd.S_far (p := ⟨w.heap.size + 1, 0, none⟩) HS.out.rows (fun k_ hk_ => by have := OA.out; show k_ ≠ w.heap.size + 1; omega) _) (fun _ _ => trivial)

-- NOT PRINTED: function 9 (laws_FnExactFlattenMatrix)

end Go.Proofs.Ytdphjpjimooddaa.R
