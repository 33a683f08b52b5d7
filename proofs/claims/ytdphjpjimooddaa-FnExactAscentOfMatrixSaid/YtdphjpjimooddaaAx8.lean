-- Written by hook.py, a program of this session (wip/), which runs the kit's print.py with its own parts; Lean checks it.
import Derived.Test.YtdphjpjimooddaaAx0
import Derived.Test.YtdphjpjimooddaaAx3
import Derived.Test.YtdphjpjimooddaaAx6
import Derived.Test.YtdphjpjimooddaaAx7
namespace Go.Proofs.Ytdphjpjimooddaa.Ax
open Go.RowKit Go.Proofs.YtdphjpjimooddaaW.PrintWords Go.Proofs.YtdphjpjimooddaaW.PrintLast Go.Proofs.YtdphjpjimooddaaW.PrintMore
attribute [local go_sem] max2_int min2_int max_two min_two max_three min_three max_four min_four   -- for this text's walks alone
set_option linter.unusedVariables false
set_option linter.unusedSimpArgs false

/-! ### spec_maShrink: function 77 -/
def spec_maShrink.l0 : Nat → Int → Int → List (List Int) → Int → Int → List (List Int) → Option ((List (List Int)) × Int)
  | 0, _, _, _, _, _, _ => none
  | k + 1, x4, x5, x40, x41, x42, x200000 => if x42 < x41 then (if 0 ≤ x42 then (if x42 < (x40.length : Int) then (if x42 = x5 then (spec_maShrink.l0 k x4 x5 x40 x41 (wrap64 (x42 + 1)) x200000) else ((spec_l1Own.f (rd_L1 x40 x42)).bind fun t201 => (if x42 < x5 then (if x5 < (wrap64 (x4 - 1)) then (if 0 ≤ x5 then (if x5 < (t201.length : Int) then (if 0 ≤ (wrap64 (x4 - 1)) then (if (wrap64 (x4 - 1)) < (t201.length : Int) then ((spec_maNarrow.f (t201.set ((wrap64 (x4 - 1)) : Int).toNat (rd t201 x5)) x5).bind fun t206 => (if x200000.length < 5864062014805 then (spec_maShrink.l0 k x4 x5 x40 x41 (wrap64 (x42 + 1)) (x200000 ++ [t206])) else (none))) else (none)) else (none)) else (none)) else (none)) else ((spec_maNarrow.f t201 x5).bind fun t212 => (if x200000.length < 5864062014805 then (spec_maShrink.l0 k x4 x5 x40 x41 (wrap64 (x42 + 1)) (x200000 ++ [t212])) else (none)))) else ((spec_maNarrow.f t201 x5).bind fun t218 => (if x200000.length < 5864062014805 then (spec_maShrink.l0 k x4 x5 x40 x41 (wrap64 (x42 + 1)) (x200000 ++ [t218])) else (none)))))) else (none)) else (none)) else (some (x200000, x5))
def spec_maShrink.f (k : Nat) (l0_0 : List (List Int)) : Option ((List (List Int)) × Int) := (spec_maTop.f k l0_0).bind fun t187 => (if 0 ≤ t187 then (if t187 < (l0_0.length : Int) then ((spec_maTotal.f k (rd_L1 l0_0 t187)).bind fun t189 => (if t189 > 1 then ((spec_maOwn.f k l0_0).bind fun t190 => (if t187 < (t190.length : Int) then (if 0 ≤ (wrap64 ((l0_0.length : Int) - 1)) then (if (wrap64 ((l0_0.length : Int) - 1)) < ((rd_L1 t190 t187).length : Int) then (some ((t190.set (t187 : Int).toNat ((rd_L1 t190 t187).set ((wrap64 ((l0_0.length : Int) - 1)) : Int).toNat (wrap64 ((rd (rd_L1 t190 t187) (wrap64 ((l0_0.length : Int) - 1))) - 1)))), t187)) else (none)) else (none)) else (none))) else (spec_maShrink.l0 k (l0_0.length : Int) t187 l0_0 (l0_0.length : Int) 0 ([] : List (List Int))))) else (none)) else (none))
theorem spec_maShrink.mono_l : ∀ k, (∀ y0 y1 y2 y3 y4 y5, LeO (spec_maShrink.l0 k y0 y1 y2 y3 y4 y5) (spec_maShrink.l0 (k + 1) y0 y1 y2 y3 y4 y5))
  | 0 => fun _ _ _ _ _ _ r h => by simp [spec_maShrink.l0] at h
  | k + 1 => by
    have ih0 := spec_maShrink.mono_l k
    · intro y0 y1 y2 y3 y4 y5
      unfold spec_maShrink.l0
      repeat' first | with_reducible first | exact ih0 _ _ _ _ _ _ | exact spec_maOwn.mono _ _ | exact spec_maTop.mono _ _ | exact spec_maTotal.mono _ _ | exact LeO.refl _ | exact LeO.none _ | refine LeO.ite ?_ ?_ | refine LeO.bind ?_ (fun _ => ?_)
theorem spec_maShrink.mono : ∀ a0 k, LeO (spec_maShrink.f k a0) (spec_maShrink.f (k + 1) a0) := by
  intro a0 k
  have ih0 := spec_maShrink.mono_l k
  unfold spec_maShrink.f
  repeat' first | with_reducible first | exact ih0 _ _ _ _ _ _ | exact spec_maOwn.mono _ _ | exact spec_maTop.mono _ _ | exact spec_maTotal.mono _ _ | exact LeO.refl _ | exact LeO.none _ | refine LeO.ite ?_ ?_ | refine LeO.bind ?_ (fun _ => ?_)
def spec_maShrink.T15 : Bool × List (List Nat × List Nat) := (true, [([], []), ([0], [0]), ([], []), ([], []), ([2, 3], [2, 3]), ([4], [4]), ([1, 5, 4], [1, 5]), ([0, 1, 2, 3, 4, 5, 6], []), ([7, 6, 6, 0, 1, 2, 3, 4, 5, 6], [6, 7])])
def spec_maShrink.B15 : List Nat := [0, 1, 0, 0, 12, 28, 63, 127, 255]
theorem spec_maShrink.tab15 : rtab .any (opsOf Try.f77 15) = spec_maShrink.T15 := by kernel_rfl
theorem spec_maShrink.bits15 : waitsOk spec_maShrink.T15.2 spec_maShrink.B15 = true := by kernel_rfl
set_option maxHeartbeats 8000000 in
set_option maxRecDepth 100000 in
theorem spec_maShrink.calls (k : Nat) (A0_0 : Option Addr) (c0_0 : Nat) (l0_0 : List (List Int)) (r1 : List (List Int)) (r2 : Int) (w : World) (hr0_0 : Kd.C (Kd.slice 3 (Kd.int .i64)) w A0_0 l0_0.length l0_0) (hc0_0 : l0_0.length ≤ c0_0) (h : spec_maShrink.f k l0_0 = some (r1, r2)) :
    Calls Try.prog 77 #[.agg #[.slice A0_0 l0_0.length c0_0]] w fun e w' => ∃ v0_ : Value, e = .returned (.tuple #[.agg #[v0_], .int .i64 r2]) ∧ Kd.S (Kd.slice 3 (Kd.int .i64)) 33 w' w.heap.size (fun _ => True) v0_ r1 ∧ Below w.heap.size w w' := by
  have hu27 := Try.underlying27
  have HR0_0 := Aside0.mk hr0_0
  have HC0_0 := Aside0.mk hc0_0
  clear hr0_0 hc0_0
  have HB := Aside0.mk (Below.refl w.heap.size w)
  have H : ((spec_maTop.f k l0_0).bind fun t187 => (if 0 ≤ t187 then (if t187 < (l0_0.length : Int) then ((spec_maTotal.f k (rd_L1 l0_0 t187)).bind fun t189 => (if t189 > 1 then ((spec_maOwn.f k l0_0).bind fun t190 => (if t187 < (t190.length : Int) then (if 0 ≤ (wrap64 ((l0_0.length : Int) - 1)) then (if (wrap64 ((l0_0.length : Int) - 1)) < ((rd_L1 t190 t187).length : Int) then (some ((t190.set (t187 : Int).toNat ((rd_L1 t190 t187).set ((wrap64 ((l0_0.length : Int) - 1)) : Int).toNat (wrap64 ((rd (rd_L1 t190 t187) (wrap64 ((l0_0.length : Int) - 1))) - 1)))), t187)) else (none)) else (none)) else (none))) else (spec_maShrink.l0 k (l0_0.length : Int) t187 l0_0 (l0_0.length : Int) 0 ([] : List (List Int))))) else (none)) else (none))) = some (r1, r2) := h
  clear h
  replace H := Option.bind_eq_some_iff.mp H
  obtain ⟨t187, A20, H⟩ := H
  replace H : (if 0 ≤ t187 then (if t187 < (l0_0.length : Int) then ((spec_maTotal.f k (rd_L1 l0_0 t187)).bind fun t189 => (if t189 > 1 then ((spec_maOwn.f k l0_0).bind fun t190 => (if t187 < (t190.length : Int) then (if 0 ≤ (wrap64 ((l0_0.length : Int) - 1)) then (if (wrap64 ((l0_0.length : Int) - 1)) < ((rd_L1 t190 t187).length : Int) then (some ((t190.set (t187 : Int).toNat ((rd_L1 t190 t187).set ((wrap64 ((l0_0.length : Int) - 1)) : Int).toNat (wrap64 ((rd (rd_L1 t190 t187) (wrap64 ((l0_0.length : Int) - 1))) - 1)))), t187)) else (none)) else (none)) else (none))) else (spec_maShrink.l0 k (l0_0.length : Int) t187 l0_0 (l0_0.length : Int) 0 ([] : List (List Int))))) else (none)) else (none)) = some (r1, r2) := H
  have A2 := Aside0.mk A20
  clear A20
  by_cases c3 : 0 ≤ t187
  · rw [if_pos c3] at H
    have c3b0 : decide (0 ≤ t187) = true := decide_eq_true c3
    clear c3
    by_cases c4 : t187 < (l0_0.length : Int)
    · rw [if_pos c4] at H
      have c4b0 : decide (t187 < (l0_0.length : Int)) = true := decide_eq_true c4
      clear c4
      replace H := Option.bind_eq_some_iff.mp H
      obtain ⟨t189, A50, H⟩ := H
      replace H : (if t189 > 1 then ((spec_maOwn.f k l0_0).bind fun t190 => (if t187 < (t190.length : Int) then (if 0 ≤ (wrap64 ((l0_0.length : Int) - 1)) then (if (wrap64 ((l0_0.length : Int) - 1)) < ((rd_L1 t190 t187).length : Int) then (some ((t190.set (t187 : Int).toNat ((rd_L1 t190 t187).set ((wrap64 ((l0_0.length : Int) - 1)) : Int).toNat (wrap64 ((rd (rd_L1 t190 t187) (wrap64 ((l0_0.length : Int) - 1))) - 1)))), t187)) else (none)) else (none)) else (none))) else (spec_maShrink.l0 k (l0_0.length : Int) t187 l0_0 (l0_0.length : Int) 0 ([] : List (List Int)))) = some (r1, r2) := H
      have A5 := Aside0.mk A50
      clear A50
      by_cases c6 : t189 > 1
      · rw [if_pos c6] at H
        have c6b0 : decide (1 < t189) = true := decide_eq_true c6
        clear c6
        replace H := Option.bind_eq_some_iff.mp H
        obtain ⟨t190, A70, H⟩ := H
        replace H : (if t187 < (t190.length : Int) then (if 0 ≤ (wrap64 ((l0_0.length : Int) - 1)) then (if (wrap64 ((l0_0.length : Int) - 1)) < ((rd_L1 t190 t187).length : Int) then (some ((t190.set (t187 : Int).toNat ((rd_L1 t190 t187).set ((wrap64 ((l0_0.length : Int) - 1)) : Int).toNat (wrap64 ((rd (rd_L1 t190 t187) (wrap64 ((l0_0.length : Int) - 1))) - 1)))), t187)) else (none)) else (none)) else (none)) = some (r1, r2) := H
        have A7 := Aside0.mk A70
        clear A70
        by_cases c8 : t187 < (t190.length : Int)
        · rw [if_pos c8] at H
          have c8b0 : decide (t187 < (t190.length : Int)) = true := decide_eq_true c8
          clear c8
          obtain ⟨ji9, hji9⟩ : ∃ j_ : Int, (wrap64 ((l0_0.length : Int) - 1)) = j_ := ⟨_, rfl⟩
          replace H : (if 0 ≤ (ji9) then (if (ji9) < ((rd_L1 t190 t187).length : Int) then (some ((t190.set (t187 : Int).toNat ((rd_L1 t190 t187).set ((ji9) : Int).toNat (wrap64 ((rd (rd_L1 t190 t187) (ji9)) - 1)))), t187)) else (none)) else (none)) = some (r1, r2) := by first | (rw [hji9] at H; exact H) | (simp only [hji9] at H ⊢; exact H)
          (try rw [hji9] at A2)
          (try rw [hji9] at A5)
          (try rw [hji9] at A7)
          have hji9w : (IntKind.i64.wrap ((l0_0.length : Int) - 1)) = ji9 := (i64_w _).trans hji9
          by_cases c10 : 0 ≤ (ji9)
          · rw [if_pos c10] at H
            have c10b0 : decide (0 ≤ (ji9)) = true := decide_eq_true c10
            clear c10
            by_cases c11 : (ji9) < ((rd_L1 t190 t187).length : Int)
            · rw [if_pos c11] at H
              have c11b0 : decide ((ji9) < ((rd_L1 t190 t187).length : Int)) = true := decide_eq_true c11
              clear c11
              obtain ⟨y196, hy196⟩ : ∃ y_ : List Int, y_ = ((rd_L1 t190 t187).set ((ji9) : Int).toNat (wrap64 ((rd (rd_L1 t190 t187) (ji9)) - 1))) := ⟨_, rfl⟩
              replace H : (some ((t190.set (t187 : Int).toNat y196), t187)) = some (r1, r2) := by first | (rw [hy196]; with_reducible exact H) | (have H2_ := (Option.bind_some _ _).symm.trans H; rw [hy196]; with_reducible exact H2_) | (have H2_ := (Option.bind_some _ _).symm.trans H; with_reducible exact H2_) | with_reducible exact H | (rw [hy196]; exact H) | exact H
              have Ny196 := Aside0.mk hy196
              clear hy196
              obtain ⟨y198, hy198⟩ : ∃ y_ : List (List Int), y_ = (t190.set (t187 : Int).toNat y196) := ⟨_, rfl⟩
              replace H : (some (y198, t187)) = some (r1, r2) := by first | (rw [hy198]; with_reducible exact H) | (have H2_ := (Option.bind_some _ _).symm.trans H; rw [hy198]; with_reducible exact H2_) | (have H2_ := (Option.bind_some _ _).symm.trans H; with_reducible exact H2_) | with_reducible exact H | (rw [hy198]; exact H) | exact H
              have Ny198 := Aside0.mk hy198
              clear hy198
              simp only [Option.some.injEq, Prod.mk.injEq] at H
              obtain ⟨rfl, rfl⟩ := H
              go_enter Try.func77, Try.ntmps77
              go_wp2_with (first | ((with_reducible refine gate_dst (N := 1) rfl ?_); refine box_event ?hg (N := 1) ?hd (cs := #[.slice A0_0 l0_0.length c0_0]) (t := 27) ?hr ?_; (case hd => rfl); (case hg => rfl); (case hr => first | (go_simp; done) | (go_simp; rfl)); intro gb185 hg w13 hbox hb; have n0_ := Aside0.mk (below_step (by repeat (first | (with_reducible first | exact HB.out | apply bA | apply bN | apply bD) | exact HB.out)) hb); have n1_ := Aside0.mk (hbox); have n2_ := Aside0.mk ((by rw [hg]; exact (below_size (by repeat (first | (with_reducible first | exact HB.out | apply bA | apply bN | apply bD) | exact HB.out))) : w.heap.size ≤ gb185)); have n3_ := Aside0.mk ((by rw [hg]; exact (below_size (by repeat (first | (with_reducible first | exact HB.out | apply bA | apply bN | apply bD) | exact HB.out))) : w.heap.size ≤ gb185)); clear HB; have HB := n0_; have BK185 := n1_; have GW185 := n2_; have GE185 := n3_; clear n0_ n1_ n2_ n3_; clear hb hbox hg) | ((with_reducible refine gate_dst (N := 2) rfl ?_); refine box_event ?hg (N := 2) ?hd (cs := #[.slice none 0 0]) (t := 27) ?hr ?_; (case hd => rfl); (case hg => rfl); (case hr => first | (go_simp; done) | (go_simp; rfl)); intro gb186 hg w14 hbox hb; have n0_ := Aside0.mk (blk_below (g := gb185) (o := .cells #[.slice A0_0 l0_0.length c0_0] 27 (0, 0)) (by (with_reducible repeat (first | apply qN | apply qD | apply qA)); exact BK185.out) hb); have n1_ := Aside0.mk (below_step (by repeat (first | (with_reducible first | exact HB.out | apply bA | apply bN | apply bD | refine below_set ?_ GE185.out) | exact HB.out)) hb); have n2_ := Aside0.mk (hbox); have n3_ := Aside0.mk ((by rw [hg]; exact (below_size (by repeat (first | (with_reducible first | exact HB.out | apply bA | apply bN | apply bD | refine below_set ?_ GE185.out) | exact HB.out))) : w.heap.size ≤ gb186)); have n4_ := Aside0.mk ((by rw [hg]; exact (below_size (by repeat (first | (with_reducible first | exact HB.out | apply bA | apply bN | apply bD | refine below_set ?_ GE185.out) | exact HB.out))) : w.heap.size ≤ gb186)); have n5_ := Aside0.mk ((by rw [hg]; exact Nat.ne_of_lt (blk_lt (g := gb185) (o := .cells #[.slice A0_0 l0_0.length c0_0] 27 (0, 0)) (by (with_reducible repeat (first | apply qN | apply qD | apply qA)); exact BK185.out)) : gb185 ≠ gb186)); have n6_ := Aside0.mk ((by rw [hg]; exact Nat.ne_of_gt (blk_lt (g := gb185) (o := .cells #[.slice A0_0 l0_0.length c0_0] 27 (0, 0)) (by (with_reducible repeat (first | apply qN | apply qD | apply qA)); exact BK185.out)) : gb186 ≠ gb185)); clear BK185; clear HB; have BK185 := n0_; have HB := n1_; have BK186 := n2_; have GW186 := n3_; have GE186 := n4_; have NB185_186 := n5_; have NB186_185 := n6_; clear n0_ n1_ n2_ n3_ n4_ n5_ n6_; clear hb hbox hg; have hnb15 := NB185_186.out; have hnc15 := NB186_185.out; have hcz16_0 : w14.cell? ⟨gb185, 0, none⟩ = some (.slice A0_0 l0_0.length c0_0) := (blk_cell BK185.out 0).trans rfl; have hfz16_0 := blk_frozen BK185.out 0) | ((with_reducible refine gate_callee (f := 62) rfl ?_); refine goesL_ (some 15) rfl rfl Try.func62 (by kernel_rfl) rfl #[.agg #[.slice A0_0 l0_0.length c0_0]] rfl (by (try simp only [List.map_toArray, List.map_cons, List.map_nil]); first | done | rfl | (simp only [List.length_drop, List.length_take]; rfl)) ?_; (with_reducible refine (spec_maTop.calls k _ _ l0_0 t187 _ ?side1 ?side2 A2.out).mono ?_); (case side1 => repeat (first | exact (Kd.C_below HR0_0.out HB.out) | (with_reducible refine Kd.C_alloc ?_ _) | (with_reducible refine Kd.C_drewN ?_ _) | (with_reducible refine Kd.C_drew ?_))); (case side2 => exact HC0_0.out); rintro e w17 ⟨rfl, hb⟩; refine ⟨_, rfl, ?_⟩; have n0_ := Aside0.mk (blk_below (g := gb185) (o := .cells #[.slice A0_0 l0_0.length c0_0] 27 (0, 0)) (by (with_reducible repeat (first | apply qN | apply qD | apply qA)); exact BK185.out) hb); have n1_ := Aside0.mk (blk_below (g := gb186) (o := .cells #[.slice none 0 0] 27 (0, 0)) (by (with_reducible repeat (first | apply qN | apply qD | apply qA)); exact BK186.out) hb); have n2_ := Aside0.mk (below_step (by repeat (first | (with_reducible first | exact HB.out | apply bA | apply bN | apply bD | refine below_set ?_ GE185.out | refine below_set ?_ GE186.out) | exact HB.out)) hb); clear BK185; clear BK186; clear HB; have BK185 := n0_; have BK186 := n1_; have HB := n2_; clear n0_ n1_ n2_; (try clear hb); (try clear hb2); (try clear hk); (try clear hi); have hcz18_0 : w17.cell? ⟨gb185, 0, none⟩ = some (.slice A0_0 l0_0.length c0_0) := (blk_cell BK185.out 0).trans rfl; have hfz18_0 := blk_frozen BK185.out 0; have p188 : 0 ≤ (t187 : Int) := of_decide_eq_true (by first | (with_reducible assumption) | assumption); have q188 : t187 < (l0_0.length : Int) := of_decide_eq_true (by first | (with_reducible assumption) | assumption); obtain ⟨ad188, A188_0, c188_0, e188, hx188_0, hl188_0, hi188_0⟩ := at_L1 HR0_0.out t187 p188 q188; cases e188; replace hx188_0 := (HB.out.cell (World.block_lt_of_cell? w _ hx188_0)).trans hx188_0; have HR188_0 := Aside0.mk hi188_0; have HC188_0 := Aside0.mk hl188_0; clear hi188_0 hl188_0; replace p188 := eq_true p188; replace q188 := eq_true q188) | ((with_reducible refine gate_callee (f := 64) rfl ?_); refine goesL_ (some 21) rfl rfl Try.func64 (by kernel_rfl) rfl #[.slice A188_0 (rd_L1 l0_0 t187).length c188_0] rfl (by (try simp only [List.map_toArray, List.map_cons, List.map_nil]); first | done | rfl | (simp only [List.length_drop, List.length_take]; rfl)) ?_; (with_reducible refine (spec_maTotal.calls k _ _ (rd_L1 l0_0 t187) t189 _ ?side1 ?side2 A5.out).mono ?_); (case side1 => repeat (first | exact (Kd.C_below HR188_0.out HB.out) | (with_reducible refine Kd.C_alloc ?_ _) | (with_reducible refine Kd.C_drewN ?_ _) | (with_reducible refine Kd.C_drew ?_))); (case side2 => exact HC188_0.out); rintro e w' ⟨rfl, ⟨nd, rfl⟩⟩; refine ⟨_, rfl, ?_⟩; (try (rw [drewN_self w17]; generalize hq_ : World.drewN w17 _ = w17; have n0_ : Aside0 (w17.heap[gb185]? = some (.cells #[.slice (some ad188) l0_0.length c0_0] 27 (0, 0))) := ⟨by rw [← hq_]; exact (by (with_reducible repeat (first | apply qN | apply qD | apply qA)); exact BK185.out)⟩; have n1_ : Aside0 (w17.heap[gb186]? = some (.cells #[.slice none 0 0] 27 (0, 0))) := ⟨by rw [← hq_]; exact (by (with_reducible repeat (first | apply qN | apply qD | apply qA)); exact BK186.out)⟩; have n2_ : Aside0 (Below w.heap.size w w17) := ⟨by rw [← hq_]; exact (by repeat (first | (with_reducible first | exact HB.out | apply bA | apply bN | apply bD | refine below_set ?_ GE185.out | refine below_set ?_ GE186.out) | exact HB.out))⟩; clear BK185 BK186 HB hq_; have BK185 := n0_; have BK186 := n1_; have HB := n2_; clear n0_ n1_ n2_; have hcq_185 : World.cell? w17 ⟨gb185, 0, none⟩ = some (.slice (some ad188) l0_0.length c0_0) := (blk_cell BK185.out 0).trans rfl; have hfq_185 := blk_frozen BK185.out 0; have hcq_186 : World.cell? w17 ⟨gb186, 0, none⟩ = some (.slice none 0 0) := (blk_cell BK186.out 0).trans rfl; have hfq_186 := blk_frozen BK186.out 0))) | ((with_reducible refine gate_callee (f := 100) rfl ?_); refine goesL_ (some 24) rfl rfl Try.func100 (by kernel_rfl) rfl #[.agg #[.slice (some ad188) l0_0.length c0_0]] rfl (by (try simp only [List.map_toArray, List.map_cons, List.map_nil]); first | done | rfl | (simp only [List.length_drop, List.length_take]; rfl)) ?_; (with_reducible refine (spec_maOwn.calls k _ _ l0_0 t190 _ ?side1 ?side2 A7.out).mono ?_); (case side1 => repeat (first | exact (Kd.C_below HR0_0.out HB.out) | (with_reducible refine Kd.C_alloc ?_ _) | (with_reducible refine Kd.C_drewN ?_ _) | (with_reducible refine Kd.C_drew ?_))); (case side2 => exact HC0_0.out); rintro e w19 ⟨v191, rfl, ho0, hb⟩; refine ⟨_, rfl, ?_⟩; have n0_ := Aside0.mk (Kd.S_lower ho0 (below_size (by repeat (first | (with_reducible first | exact HB.out | apply bA | apply bN | apply bD | refine below_set ?_ GE185.out | refine below_set ?_ GE186.out) | exact HB.out)))); have n1_ := Aside0.mk (blk_below (g := gb185) (o := .cells #[.slice (some ad188) l0_0.length c0_0] 27 (0, 0)) (by (with_reducible repeat (first | apply qN | apply qD | apply qA)); exact BK185.out) hb); have n2_ := Aside0.mk (blk_below (g := gb186) (o := .cells #[.slice none 0 0] 27 (0, 0)) (by (with_reducible repeat (first | apply qN | apply qD | apply qA)); exact BK186.out) hb); have n3_ := Aside0.mk (below_step (by repeat (first | (with_reducible first | exact HB.out | apply bA | apply bN | apply bD | refine below_set ?_ GE185.out | refine below_set ?_ GE186.out) | exact HB.out)) hb); clear BK185; clear BK186; clear HB; have HO192 := n0_; have BK185 := n1_; have BK186 := n2_; have HB := n3_; clear n0_ n1_ n2_ n3_; (try clear hb); (try clear hb2); (try clear hk); (try clear hi); (try clear ho0)) | ((with_reducible refine gate_dst (N := 6) rfl ?_); refine box_event ?hg (N := 6) ?hd (cs := #[.slice none 0 0]) (t := 27) ?hr ?_; (case hd => rfl); (case hg => rfl); (case hr => first | (go_simp; done) | (go_simp; rfl)); intro gb193 hg w20 hbox hb; have n0_ := Aside0.mk (Kd.S_below (by (with_reducible repeat (first | apply Kd.S_alloc | apply Kd.S_drewN | apply Kd.S_drew)); exact HO192.out) hb); have n1_ := Aside0.mk (blk_below (g := gb185) (o := .cells #[.slice (some ad188) l0_0.length c0_0] 27 (0, 0)) (by (with_reducible repeat (first | apply qN | apply qD | apply qA)); exact BK185.out) hb); have n2_ := Aside0.mk (blk_below (g := gb186) (o := .cells #[.slice none 0 0] 27 (0, 0)) (by (with_reducible repeat (first | apply qN | apply qD | apply qA)); exact BK186.out) hb); have n3_ := Aside0.mk (below_step (by repeat (first | (with_reducible first | exact HB.out | apply bA | apply bN | apply bD | refine below_set ?_ GE185.out | refine below_set ?_ GE186.out) | exact HB.out)) hb); have n4_ := Aside0.mk (hbox); have n5_ := Aside0.mk ((by rw [hg]; exact (below_size (by repeat (first | (with_reducible first | exact HB.out | apply bA | apply bN | apply bD | refine below_set ?_ GE185.out | refine below_set ?_ GE186.out) | exact HB.out))) : w.heap.size ≤ gb193)); have n6_ := Aside0.mk ((by rw [hg]; exact (below_size (by repeat (first | (with_reducible first | exact HB.out | apply bA | apply bN | apply bD | refine below_set ?_ GE185.out | refine below_set ?_ GE186.out) | exact HB.out))) : w.heap.size ≤ gb193)); have n7_ := Aside0.mk ((by rw [hg]; exact Nat.ne_of_lt (blk_lt (g := gb185) (o := .cells #[.slice (some ad188) l0_0.length c0_0] 27 (0, 0)) (by (with_reducible repeat (first | apply qN | apply qD | apply qA)); exact BK185.out)) : gb185 ≠ gb193)); have n8_ := Aside0.mk ((by rw [hg]; exact Nat.ne_of_gt (blk_lt (g := gb185) (o := .cells #[.slice (some ad188) l0_0.length c0_0] 27 (0, 0)) (by (with_reducible repeat (first | apply qN | apply qD | apply qA)); exact BK185.out)) : gb193 ≠ gb185)); have n9_ := Aside0.mk ((by rw [hg]; exact Nat.ne_of_lt (blk_lt (g := gb186) (o := .cells #[.slice none 0 0] 27 (0, 0)) (by (with_reducible repeat (first | apply qN | apply qD | apply qA)); exact BK186.out)) : gb186 ≠ gb193)); have n10_ := Aside0.mk ((by rw [hg]; exact Nat.ne_of_gt (blk_lt (g := gb186) (o := .cells #[.slice none 0 0] 27 (0, 0)) (by (with_reducible repeat (first | apply qN | apply qD | apply qA)); exact BK186.out)) : gb193 ≠ gb186)); clear HO192; clear BK185; clear BK186; clear HB; have HO192 := n0_; have BK185 := n1_; have BK186 := n2_; have HB := n3_; have BK193 := n4_; have GW193 := n5_; have GE193 := n6_; have NB185_193 := n7_; have NB193_185 := n8_; have NB186_193 := n9_; have NB193_186 := n10_; clear n0_ n1_ n2_ n3_ n4_ n5_ n6_ n7_ n8_ n9_ n10_; clear hb hbox hg; obtain ⟨Ao21, co21, eo21⟩ := Kd.S_slice HO192.out; subst eo21; have hnb22 := NB193_185.out; have hnc22 := NB185_193.out; have hnb23 := NB193_186.out; have hnc23 := NB186_193.out; have hcz24_0 : w20.cell? ⟨gb193, 0, none⟩ = some (.slice none 0 0) := (blk_cell BK193.out 0).trans rfl; have hfz24_0 := blk_frozen BK193.out 0) | ((with_reducible refine gate_store (t := 27) (p := 6) rfl ?_); refine store_event (t := 27) (p := 6) (v := ?vo_w25) (w1 := (w20.setCell ⟨gb193, 0, none⟩ (.slice Ao21 t190.length co21))) ?hg ?ho ?hn ?hr ?_; (case ho => rfl); (case hg => rfl); (case hn => rfl); (case hr => first | (go_simp; done) | (go_simp; rfl)); intro w25 hw; have n0_ : Aside0 (Kd.S (Kd.slice 3 (Kd.int .i64)) 33 w25 w.heap.size (fun _ => True) (.slice Ao21 t190.length co21) t190) := ⟨(by rw [hw]; exact (by (with_reducible repeat (first | apply Kd.S_alloc | apply Kd.S_drewN | apply Kd.S_drew)); exact Kd.S_mono (Kd.S_far (p := ⟨gb193, 0, none⟩) (Kd.S_types HO192.out BK193.out (by decide)) (fun _ hk => hk.2) (.slice Ao21 t190.length co21)) (fun _ hk => trivial)))⟩; have n1_ : Aside0 (w25.heap[gb185]? = some (.cells #[.slice (some ad188) l0_0.length c0_0] 27 (0, 0))) := ⟨(by rw [hw]; exact (by (with_reducible repeat (first | apply qN | apply qD | apply qA)); refine blk_far ?_ NB185_193.out _; (with_reducible repeat (first | apply qN | apply qD | apply qA)); exact BK185.out))⟩; have n2_ : Aside0 (w25.heap[gb186]? = some (.cells #[.slice none 0 0] 27 (0, 0))) := ⟨(by rw [hw]; exact (by (with_reducible repeat (first | apply qN | apply qD | apply qA)); refine blk_far ?_ NB186_193.out _; (with_reducible repeat (first | apply qN | apply qD | apply qA)); exact BK186.out))⟩; have n3_ : Aside0 (w25.heap[gb193]? = some (.cells #[.slice Ao21 t190.length co21] 27 (0, 0))) := ⟨(by rw [hw]; exact (by (with_reducible repeat (first | apply qN | apply qD | apply qA)); refine blk_put (cs := #[.slice none 0 0]) ?_ 0 _ rfl; (with_reducible repeat (first | apply qN | apply qD | apply qA)); exact BK193.out))⟩; have n4_ : Aside0 (Below w.heap.size w w25) := ⟨(by rw [hw]; exact (by repeat (first | (with_reducible first | exact HB.out | apply bA | apply bN | apply bD | refine below_set ?_ GE185.out | refine below_set ?_ GE186.out | refine below_set ?_ GE193.out) | exact HB.out)))⟩; clear hw; clear HO192; clear BK185; clear BK186; clear BK193; clear HB; have HO192 := n0_; have BK185 := n1_; have BK186 := n2_; have BK193 := n3_; have HB := n4_; clear n0_ n1_ n2_ n3_ n4_; have hcz26_0 : w25.cell? ⟨gb193, 0, none⟩ = some (.slice Ao21 t190.length co21) := (blk_cell BK193.out 0).trans rfl; have hfz26_0 := blk_frozen BK193.out 0; have p194 : 0 ≤ (t187 : Int) := of_decide_eq_true (by first | (with_reducible assumption) | assumption); have q194 : t187 < (t190.length : Int) := of_decide_eq_true (by first | (with_reducible assumption) | assumption); obtain ⟨ad194, A194_0, c194_0, e194, hx194_0, hl194_0, hi194_0⟩ := at_L1 (Kd.S_reads' HO192.out).2.2 t187 p194 q194; cases e194; obtain ⟨ce194, hce194, hMe194, hcc194⟩ := Kd.S_get HO192.out [] t187 p194 (by first | exact q194 | exact of_decide_eq_true (by first | (with_reducible assumption) | assumption) | (have e_ := (Kd.S_reads' HO192.out).1; omega)); obtain ⟨ve194_0, rfl, ge194_0⟩ := hMe194; have hv194_0 := hcc194 0 _ rfl; rw [Nat.add_zero, show ((Kd.slice 3 (Kd.int .i64))).sz = 1 from rfl, Nat.mul_one] at hv194_0; replace hv194_0 := Option.some.inj (hv194_0.symm.trans hx194_0); rw [hv194_0] at ge194_0; have HL194_0 := Aside0.mk (show Kd.R (Kd.int .i64) 3 _ _ _ _ (rd_L1 t190 t187) from ge194_0); clear hv194_0 ge194_0; have HX194_0 := Aside0.mk hx194_0; clear hcc194 hce194; have HR194_0 := Aside0.mk hi194_0; have HC194_0 := Aside0.mk hl194_0; clear hi194_0 hl194_0; replace p194 := eq_true p194; replace q194 := eq_true q194; have p195 : 0 ≤ ((ji9) : Int) := of_decide_eq_true (by first | (with_reducible assumption) | assumption); have q195 : (ji9) < ((rd_L1 t190 t187).length : Int) := of_decide_eq_true (by first | (with_reducible assumption) | assumption); obtain ⟨ad195, e195, hx195_0⟩ := Kd.at_int (by repeat (first | (with_reducible exact HR194_0.out) | (with_reducible refine Kd.C_alloc ?_ _) | (with_reducible refine Kd.C_drewN ?_ _) | (with_reducible refine Kd.C_drew ?_) | exact HR194_0.out)) (ji9) p195 q195; cases e195; replace p195 := eq_true p195; replace q195 := eq_true q195; have p12 : 0 ≤ ((ji9) : Int) := of_decide_eq_true (by first | (with_reducible assumption) | assumption); have q12 : ((ji9) : Int) < (((rd_L1 t190 t187).length : Int) : Int) := of_decide_eq_true (by first | (with_reducible assumption) | assumption); obtain ⟨go12, co12, eo12, gb12, gl12, cl12, HG12⟩ := Kd.R_form HL194_0.out (by omega); (first | cases eo12 | (injection eo12 with ea_ en_ ec_; (first | subst ea_ | (injection ea_ with ea_; subst ea_)); subst ec_; clear en_)); have GB12 := Aside0.mk gb12; have GG12 := Aside0.mk HG12; clear gb12 gl12 HG12; (first | simp only [add_plain] at hx195_0 | skip); obtain ⟨hx12_0, hf12_0⟩ := Kd.R_celln 0 HL194_0.out ((ji9) : Int) p12 q12; replace p12 := eq_true p12; replace q12 := eq_true q12; have hq27 : (t187 : Int) < (t190.length : Int) := (by have h_ : (t187 : Int) < ((t190.length : Int) : Int) := of_decide_eq_true (by first | (with_reducible assumption) | assumption); first | exact h_ | (have e_ := (Kd.S_reads' HO192.out).1; omega) | simpa only [List.length_set, List.length_set] using h_); obtain ⟨oki27, ce27, hcl27, hM27, hcc27, hok27, hbk27⟩ := Kd.S_borrow HO192.out [] (t187 : Int) (of_decide_eq_true (by first | (with_reducible assumption) | assumption)) hq27; obtain ⟨ve27_0, rfl, ge27_0⟩ := hM27; have hv27 := hcc27 0 _ rfl; rw [Nat.add_zero, show ((Kd.slice 3 (Kd.int .i64))).sz = 1 from rfl, Nat.mul_one] at hv27; replace hv27 := Option.some.inj (hv27.symm.trans HX194_0.out); subst hv27; clear hcc27 hcl27; replace ge27_0 := (show Kd.R (Kd.int .i64) 3 _ _ _ _ (rd_L1 t190 t187) from ge27_0); have HP27 := Kd.R_putg ge27_0 ((ji9) : Int) (wrap64 ((rd (rd_L1 t190 t187) (ji9)) - 1))) | ((with_reducible refine gate_store (t := 3) (p := 35) rfl ?_); refine store_event (t := 3) (p := 35) (v := ?vo_w28) (w1 := (w25.setCell ⟨go12, ((ji9) : Int).toNat, none⟩ (.int .i64 (wrap64 ((rd (rd_L1 t190 t187) (ji9)) - 1))))) ?hg ?ho ?hn ?hr ?_; (case ho => rfl); (case hg => rfl); (case hn => rfl); (case hr => first | (go_simp; done) | (go_simp; rfl)); intro w28 hw; have hg : w25.grownBy w28 (some go12) := (by rw [hw]; exact HP27.2); have hz_ : Kd.R (Kd.int .i64) 3 w28 w.heap.size oki27 (.slice (some ⟨go12, 0, none⟩) (rd_L1 t190 t187).length c194_0) y196 := (by rw [hw, Ny196.out]; exact HP27.1); have hp_ : Kd.S (Kd.slice 3 (Kd.int .i64)) 33 w28 w.heap.size (fun _ => True) (.slice (some ad194) t190.length co21) y198 := (by rw [Ny198.out]; exact hbk27 hg (fun k_ e_ => by injection e_ with e_; subst e_; exact ge27_0.1 _ rfl) (Kd.M_row hz_)); have hm_ := Kd.R_mono hz_ hok27; clear HP27 hbk27; have n0_ := Aside0.mk (blk_grown (g := gb185) (o := .cells #[.slice (some ad188) l0_0.length c0_0] 27 (0, 0)) (by (with_reducible repeat (first | apply qN | apply qD | apply qA)); exact BK185.out) hg (Kd.R_ne HL194_0.out BK185.out (by decide))); have n1_ := Aside0.mk (blk_grown (g := gb186) (o := .cells #[.slice none 0 0] 27 (0, 0)) (by (with_reducible repeat (first | apply qN | apply qD | apply qA)); exact BK186.out) hg (Kd.R_ne HL194_0.out BK186.out (by decide))); have n2_ := Aside0.mk (hp_); have n3_ := Aside0.mk (blk_grown (g := gb193) (o := .cells #[.slice (some ad194) t190.length co21] 27 (0, 0)) (by (with_reducible repeat (first | apply qN | apply qD | apply qA)); exact BK193.out) hg (Kd.R_ne HL194_0.out BK193.out (by decide))); have n4_ := Aside0.mk ((by rw [hw]; exact below_set (HB.out) GB12.out : Below w.heap.size w w28)); have n5_ := Aside0.mk (hm_); have n6_ := Aside0.mk ((Kd.R_reads' hm_).2.1); clear BK185; clear BK186; clear HO192; clear BK193; clear HB; clear HL194_0; have BK185 := n0_; have BK186 := n1_; have HO192 := n2_; have BK193 := n3_; have HB := n4_; have HL224 := n5_; have HC197 := n6_; clear n0_ n1_ n2_ n3_ n4_ n5_ n6_; clear hg hw hp_ hz_ hm_ hok27; have hcz29_0 : w28.cell? ⟨gb193, 0, none⟩ = some (.slice (some ad194) t190.length co21) := (blk_cell BK193.out 0).trans rfl; have hfz29_0 := blk_frozen BK193.out 0; have hcz30_0 : w28.cell? ⟨gb186, 0, none⟩ = some (.slice none 0 0) := (blk_cell BK186.out 0).trans rfl; have hfz30_0 := blk_frozen BK186.out 0))
              refine bodyPost_ret (results_ct rfl _ _ gb186 27 #[.slice (some ad194) t190.length co21] (0, 0) _ rfl (by (with_reducible repeat (first | apply qN | apply qD | apply qA)); refine blk_put (cs := #[.slice none 0 0]) ?_ 0 _ rfl; (with_reducible repeat (first | apply qN | apply qD | apply qA)); exact BK186.out) Try.underlying27 rfl (by kernel_rfl)) rfl ?_
              exact ⟨_, by first | rfl | (simp [errW_none, errW_some] <;> rfl) | (simp only [← hji9]; first | rfl | (simp [errW_none, errW_some] <;> rfl)) | (simp [*, errW_none, errW_some] <;> rfl), by (with_reducible repeat (first | apply Kd.S_alloc | apply Kd.S_drewN | apply Kd.S_drew)); exact Kd.S_mono (Kd.S_far (p := ⟨gb186, 0, none⟩) (Kd.S_types HO192.out BK186.out (by decide)) (fun _ hk => hk.2) (.slice (some ad194) t190.length co21)) (fun _ hk => trivial), by repeat (first | (with_reducible first | exact HB.out | apply bA | apply bN | apply bD | refine below_set ?_ GE185.out | refine below_set ?_ GE186.out | refine below_set ?_ GE193.out) | exact HB.out)⟩
            · rw [if_neg c11] at H
              exact absurd H (by simp)
          · rw [if_neg c10] at H
            exact absurd H (by simp)
        · rw [if_neg c8] at H
          exact absurd H (by simp)
      · rw [if_neg c6] at H
        have c6b0 : decide (1 < t189) = false := decide_eq_false c6
        clear c6
        have H' := Aside0.mk H
        clear H
        go_enter Try.func77, Try.ntmps77
        go_wp2_with (first | ((with_reducible refine gate_dst (N := 1) rfl ?_); refine box_event ?hg (N := 1) ?hd (cs := #[.slice A0_0 l0_0.length c0_0]) (t := 27) ?hr ?_; (case hd => rfl); (case hg => rfl); (case hr => first | (go_simp; done) | (go_simp; rfl)); intro gb185 hg w31 hbox hb; have n0_ := Aside0.mk (below_step (by repeat (first | (with_reducible first | exact HB.out | apply bA | apply bN | apply bD) | exact HB.out)) hb); have n1_ := Aside0.mk (hbox); have n2_ := Aside0.mk ((by rw [hg]; exact (below_size (by repeat (first | (with_reducible first | exact HB.out | apply bA | apply bN | apply bD) | exact HB.out))) : w.heap.size ≤ gb185)); have n3_ := Aside0.mk ((by rw [hg]; exact (below_size (by repeat (first | (with_reducible first | exact HB.out | apply bA | apply bN | apply bD) | exact HB.out))) : w.heap.size ≤ gb185)); clear HB; have HB := n0_; have BK185 := n1_; have GW185 := n2_; have GE185 := n3_; clear n0_ n1_ n2_ n3_; clear hb hbox hg) | ((with_reducible refine gate_dst (N := 2) rfl ?_); refine box_event ?hg (N := 2) ?hd (cs := #[.slice none 0 0]) (t := 27) ?hr ?_; (case hd => rfl); (case hg => rfl); (case hr => first | (go_simp; done) | (go_simp; rfl)); intro gb186 hg w32 hbox hb; have n0_ := Aside0.mk (blk_below (g := gb185) (o := .cells #[.slice A0_0 l0_0.length c0_0] 27 (0, 0)) (by (with_reducible repeat (first | apply qN | apply qD | apply qA)); exact BK185.out) hb); have n1_ := Aside0.mk (below_step (by repeat (first | (with_reducible first | exact HB.out | apply bA | apply bN | apply bD | refine below_set ?_ GE185.out) | exact HB.out)) hb); have n2_ := Aside0.mk (hbox); have n3_ := Aside0.mk ((by rw [hg]; exact (below_size (by repeat (first | (with_reducible first | exact HB.out | apply bA | apply bN | apply bD | refine below_set ?_ GE185.out) | exact HB.out))) : w.heap.size ≤ gb186)); have n4_ := Aside0.mk ((by rw [hg]; exact (below_size (by repeat (first | (with_reducible first | exact HB.out | apply bA | apply bN | apply bD | refine below_set ?_ GE185.out) | exact HB.out))) : w.heap.size ≤ gb186)); have n5_ := Aside0.mk ((by rw [hg]; exact Nat.ne_of_lt (blk_lt (g := gb185) (o := .cells #[.slice A0_0 l0_0.length c0_0] 27 (0, 0)) (by (with_reducible repeat (first | apply qN | apply qD | apply qA)); exact BK185.out)) : gb185 ≠ gb186)); have n6_ := Aside0.mk ((by rw [hg]; exact Nat.ne_of_gt (blk_lt (g := gb185) (o := .cells #[.slice A0_0 l0_0.length c0_0] 27 (0, 0)) (by (with_reducible repeat (first | apply qN | apply qD | apply qA)); exact BK185.out)) : gb186 ≠ gb185)); clear BK185; clear HB; have BK185 := n0_; have HB := n1_; have BK186 := n2_; have GW186 := n3_; have GE186 := n4_; have NB185_186 := n5_; have NB186_185 := n6_; clear n0_ n1_ n2_ n3_ n4_ n5_ n6_; clear hb hbox hg; have hnb33 := NB185_186.out; have hnc33 := NB186_185.out; have hcz34_0 : w32.cell? ⟨gb185, 0, none⟩ = some (.slice A0_0 l0_0.length c0_0) := (blk_cell BK185.out 0).trans rfl; have hfz34_0 := blk_frozen BK185.out 0) | ((with_reducible refine gate_callee (f := 62) rfl ?_); refine goesL_ (some 15) rfl rfl Try.func62 (by kernel_rfl) rfl #[.agg #[.slice A0_0 l0_0.length c0_0]] rfl (by (try simp only [List.map_toArray, List.map_cons, List.map_nil]); first | done | rfl | (simp only [List.length_drop, List.length_take]; rfl)) ?_; (with_reducible refine (spec_maTop.calls k _ _ l0_0 t187 _ ?side1 ?side2 A2.out).mono ?_); (case side1 => repeat (first | exact (Kd.C_below HR0_0.out HB.out) | (with_reducible refine Kd.C_alloc ?_ _) | (with_reducible refine Kd.C_drewN ?_ _) | (with_reducible refine Kd.C_drew ?_))); (case side2 => exact HC0_0.out); rintro e w35 ⟨rfl, hb⟩; refine ⟨_, rfl, ?_⟩; have n0_ := Aside0.mk (blk_below (g := gb185) (o := .cells #[.slice A0_0 l0_0.length c0_0] 27 (0, 0)) (by (with_reducible repeat (first | apply qN | apply qD | apply qA)); exact BK185.out) hb); have n1_ := Aside0.mk (blk_below (g := gb186) (o := .cells #[.slice none 0 0] 27 (0, 0)) (by (with_reducible repeat (first | apply qN | apply qD | apply qA)); exact BK186.out) hb); have n2_ := Aside0.mk (below_step (by repeat (first | (with_reducible first | exact HB.out | apply bA | apply bN | apply bD | refine below_set ?_ GE185.out | refine below_set ?_ GE186.out) | exact HB.out)) hb); clear BK185; clear BK186; clear HB; have BK185 := n0_; have BK186 := n1_; have HB := n2_; clear n0_ n1_ n2_; (try clear hb); (try clear hb2); (try clear hk); (try clear hi); have hcz36_0 : w35.cell? ⟨gb185, 0, none⟩ = some (.slice A0_0 l0_0.length c0_0) := (blk_cell BK185.out 0).trans rfl; have hfz36_0 := blk_frozen BK185.out 0; have p188 : 0 ≤ (t187 : Int) := of_decide_eq_true (by first | (with_reducible assumption) | assumption); have q188 : t187 < (l0_0.length : Int) := of_decide_eq_true (by first | (with_reducible assumption) | assumption); obtain ⟨ad188, A188_0, c188_0, e188, hx188_0, hl188_0, hi188_0⟩ := at_L1 HR0_0.out t187 p188 q188; cases e188; replace hx188_0 := (HB.out.cell (World.block_lt_of_cell? w _ hx188_0)).trans hx188_0; have HR188_0 := Aside0.mk hi188_0; have HC188_0 := Aside0.mk hl188_0; clear hi188_0 hl188_0; replace p188 := eq_true p188; replace q188 := eq_true q188) | ((with_reducible refine gate_callee (f := 64) rfl ?_); refine goesL_ (some 21) rfl rfl Try.func64 (by kernel_rfl) rfl #[.slice A188_0 (rd_L1 l0_0 t187).length c188_0] rfl (by (try simp only [List.map_toArray, List.map_cons, List.map_nil]); first | done | rfl | (simp only [List.length_drop, List.length_take]; rfl)) ?_; (with_reducible refine (spec_maTotal.calls k _ _ (rd_L1 l0_0 t187) t189 _ ?side1 ?side2 A5.out).mono ?_); (case side1 => repeat (first | exact (Kd.C_below HR188_0.out HB.out) | (with_reducible refine Kd.C_alloc ?_ _) | (with_reducible refine Kd.C_drewN ?_ _) | (with_reducible refine Kd.C_drew ?_))); (case side2 => exact HC188_0.out); rintro e w' ⟨rfl, ⟨nd, rfl⟩⟩; refine ⟨_, rfl, ?_⟩; (try (rw [drewN_self w35]; generalize hq_ : World.drewN w35 _ = w35; have n0_ : Aside0 (w35.heap[gb185]? = some (.cells #[.slice (some ad188) l0_0.length c0_0] 27 (0, 0))) := ⟨by rw [← hq_]; exact (by (with_reducible repeat (first | apply qN | apply qD | apply qA)); exact BK185.out)⟩; have n1_ : Aside0 (w35.heap[gb186]? = some (.cells #[.slice none 0 0] 27 (0, 0))) := ⟨by rw [← hq_]; exact (by (with_reducible repeat (first | apply qN | apply qD | apply qA)); exact BK186.out)⟩; have n2_ : Aside0 (Below w.heap.size w w35) := ⟨by rw [← hq_]; exact (by repeat (first | (with_reducible first | exact HB.out | apply bA | apply bN | apply bD | refine below_set ?_ GE185.out | refine below_set ?_ GE186.out) | exact HB.out))⟩; clear BK185 BK186 HB hq_; have BK185 := n0_; have BK186 := n1_; have HB := n2_; clear n0_ n1_ n2_; have hcq_185 : World.cell? w35 ⟨gb185, 0, none⟩ = some (.slice (some ad188) l0_0.length c0_0) := (blk_cell BK185.out 0).trans rfl; have hfq_185 := blk_frozen BK185.out 0; have hcq_186 : World.cell? w35 ⟨gb186, 0, none⟩ = some (.slice none 0 0) := (blk_cell BK186.out 0).trans rfl; have hfq_186 := blk_frozen BK186.out 0))) | ((with_reducible refine gate_dst (N := 7) rfl ?_); refine box_event ?hg (N := 7) ?hd (cs := #[.slice none 0 0]) (t := 27) ?hr ?_; (case hd => rfl); (case hg => rfl); (case hr => first | (go_simp; done) | (go_simp; rfl)); intro gb199 hg w37 hbox hb; have n0_ := Aside0.mk (blk_below (g := gb185) (o := .cells #[.slice (some ad188) l0_0.length c0_0] 27 (0, 0)) (by (with_reducible repeat (first | apply qN | apply qD | apply qA)); exact BK185.out) hb); have n1_ := Aside0.mk (blk_below (g := gb186) (o := .cells #[.slice none 0 0] 27 (0, 0)) (by (with_reducible repeat (first | apply qN | apply qD | apply qA)); exact BK186.out) hb); have n2_ := Aside0.mk (below_step (by repeat (first | (with_reducible first | exact HB.out | apply bA | apply bN | apply bD | refine below_set ?_ GE185.out | refine below_set ?_ GE186.out) | exact HB.out)) hb); have n3_ := Aside0.mk (hbox); have n4_ := Aside0.mk ((by rw [hg]; exact (below_size (by repeat (first | (with_reducible first | exact HB.out | apply bA | apply bN | apply bD | refine below_set ?_ GE185.out | refine below_set ?_ GE186.out) | exact HB.out))) : w.heap.size ≤ gb199)); have n5_ := Aside0.mk ((by rw [hg]; exact (below_size (by repeat (first | (with_reducible first | exact HB.out | apply bA | apply bN | apply bD | refine below_set ?_ GE185.out | refine below_set ?_ GE186.out) | exact HB.out))) : w.heap.size ≤ gb199)); have n6_ := Aside0.mk ((by rw [hg]; exact Nat.ne_of_lt (blk_lt (g := gb185) (o := .cells #[.slice (some ad188) l0_0.length c0_0] 27 (0, 0)) (by (with_reducible repeat (first | apply qN | apply qD | apply qA)); exact BK185.out)) : gb185 ≠ gb199)); have n7_ := Aside0.mk ((by rw [hg]; exact Nat.ne_of_gt (blk_lt (g := gb185) (o := .cells #[.slice (some ad188) l0_0.length c0_0] 27 (0, 0)) (by (with_reducible repeat (first | apply qN | apply qD | apply qA)); exact BK185.out)) : gb199 ≠ gb185)); have n8_ := Aside0.mk ((by rw [hg]; exact Nat.ne_of_lt (blk_lt (g := gb186) (o := .cells #[.slice none 0 0] 27 (0, 0)) (by (with_reducible repeat (first | apply qN | apply qD | apply qA)); exact BK186.out)) : gb186 ≠ gb199)); have n9_ := Aside0.mk ((by rw [hg]; exact Nat.ne_of_gt (blk_lt (g := gb186) (o := .cells #[.slice none 0 0] 27 (0, 0)) (by (with_reducible repeat (first | apply qN | apply qD | apply qA)); exact BK186.out)) : gb199 ≠ gb186)); clear BK185; clear BK186; clear HB; have BK185 := n0_; have BK186 := n1_; have HB := n2_; have BK199 := n3_; have GW199 := n4_; have GE199 := n5_; have NB185_199 := n6_; have NB199_185 := n7_; have NB186_199 := n8_; have NB199_186 := n9_; clear n0_ n1_ n2_ n3_ n4_ n5_ n6_ n7_ n8_ n9_; clear hb hbox hg; have hnb38 := NB199_185.out; have hnc38 := NB185_199.out; have hnb39 := NB199_186.out; have hnc39 := NB186_199.out; have hcz40_0 : w37.cell? ⟨gb199, 0, none⟩ = some (.slice none 0 0) := (blk_cell BK199.out 0).trans rfl; have hfz40_0 := blk_frozen BK199.out 0; have hcz41_0 : w37.cell? ⟨gb185, 0, none⟩ = some (.slice (some ad188) l0_0.length c0_0) := (blk_cell BK185.out 0).trans rfl; have hfz41_0 := blk_frozen BK185.out 0))
        go_loopg [42] k (fun kq v42 w' => ∃ (x42_1 : Int) (x200000_1 : List (List Int)) (u200000 : Value), v42 = .int .i64 x42_1 ∧ Aside0 (spec_maShrink.l0 kq (l0_0.length : Int) t187 l0_0 (l0_0.length : Int) x42_1 x200000_1 = some (r1, r2)) ∧ Aside0 (kq ≤ k) ∧ Aside0 (Kd.S (Kd.slice 3 (Kd.int .i64)) 33 w' w.heap.size (fun _ => True) u200000 x200000_1) ∧ Aside0 (w'.heap[gb185]? = some (.cells #[(.slice (some ad188) l0_0.length c0_0)] 27 (0, 0))) ∧ Aside0 (w'.heap[gb186]? = some (.cells #[(.slice none 0 0)] 27 (0, 0))) ∧ Aside0 (w'.heap[gb199]? = some (.cells #[u200000] 27 (0, 0))) ∧ Aside0 (Below w.heap.size w w'))
        case atStart => exact ⟨(0), (([] : List (List Int))), (.slice none 0 0), (by first | rfl | (simp; done) | (simp [*]; done)), H', ⟨Nat.le_refl _⟩, ⟨by first | exact Kd.S_nil _ _ _ _ _ | exact Kd.N_nil _ _ _ _ _ | exact Kd.V_nil _ _ _ _ _ | exact Kd.Q_nil _ _ _ _ _ | exact Kd.R_nil _ _ _ _ _⟩, ⟨by (with_reducible repeat (first | apply qN | apply qD | apply qA)); refine blk_far ?_ NB185_199.out _; (with_reducible repeat (first | apply qN | apply qD | apply qA)); exact BK185.out⟩, ⟨by (with_reducible repeat (first | apply qN | apply qD | apply qA)); refine blk_far ?_ NB186_199.out _; (with_reducible repeat (first | apply qN | apply qD | apply qA)); exact BK186.out⟩, ⟨by (with_reducible repeat (first | apply qN | apply qD | apply qA)); refine blk_put (cs := #[.slice none 0 0]) ?_ 0 _ rfl; (with_reducible repeat (first | apply qN | apply qD | apply qA)); exact BK199.out⟩, ⟨by repeat (first | (with_reducible first | exact HB.out | apply bA | apply bN | apply bD | refine below_set ?_ GE185.out | refine below_set ?_ GE186.out | refine below_set ?_ GE199.out) | exact HB.out)⟩⟩
        case round =>
          clear H'
          try clear c1
          try clear p1
          try clear q1
          try clear hx1
          try clear hf1
          try clear c2
          try clear p2
          try clear q2
          try clear c3
          try clear c3b0
          try clear c4
          try clear c4b0
          try clear c6
          try clear c6b0
          try clear p6
          try clear c7
          try clear c8
          try clear c8b0
          try clear c10
          try clear c10b0
          try clear c11
          try clear c11b0
          try clear p12
          try clear q12
          try clear hx12
          try clear hf12
          try clear c15
          try clear c18
          try clear p18
          try clear q18
          try clear hx18
          try clear c19
          try clear p19
          try clear q19
          try clear hx19
          try clear c22
          try clear c23
          try clear c27
          try clear q27
          try clear c33
          try clear c38
          try clear c39
          try clear hcz16_0
          try clear hcz18_0
          try clear hcz24_0
          try clear hcz26_0
          try clear hcz29_0
          try clear hcz30_0
          try clear hcz34_0
          try clear hcz36_0
          try clear hcz40_0
          try clear hcz41_0
          try clear hfz16_0
          try clear hfz18_0
          try clear hfz24_0
          try clear hfz26_0
          try clear hfz29_0
          try clear hfz30_0
          try clear hfz34_0
          try clear hfz36_0
          try clear hfz40_0
          try clear hfz41_0
          try clear hx12_0
          try clear hx188_0
          try clear hx194_0
          try clear hx195_0
          try clear p12
          try clear p188
          try clear p194
          try clear p195
          try clear q12
          try clear q188
          try clear q194
          try clear q195
          obtain ⟨x42_1, x200000_1, u200000, rfl, HA, HK1, HO_200000, BK185, BK186, BK199, HB⟩ := hrel
          cases gk with
          | zero => exact absurd HA.out (by simp [spec_maShrink.l0])
          | succ k1 =>
            have H := HA.out
            clear HA
            simp only [spec_maShrink.l0] at H
            by_cases c42 : x42_1 < (l0_0.length : Int)
            · rw [if_pos c42] at H
              have c42b0 : decide (x42_1 < (l0_0.length : Int)) = true := decide_eq_true c42
              clear c42
              by_cases c43 : 0 ≤ x42_1
              · rw [if_pos c43] at H
                have c43b0 : decide (0 ≤ x42_1) = true := decide_eq_true c43
                clear c43
                by_cases c44 : x42_1 < (l0_0.length : Int)
                · rw [if_pos c44] at H
                  have c44b0 : decide (x42_1 < (l0_0.length : Int)) = true := decide_eq_true c44
                  clear c44
                  by_cases c45 : x42_1 = t187
                  · rw [if_pos c45] at H
                    have c45b0 : (x42_1 == t187) = true := beq_iff_eq.mpr c45
                    have c45b1 : (x42_1 != t187) = false := bne_eq_false_iff_eq.mpr c45
                    clear c45
                    have H' := Aside0.mk H
                    clear H
                    have p200 : 0 ≤ (x42_1 : Int) := of_decide_eq_true (by first | (with_reducible assumption) | assumption)
                    have q200 : x42_1 < (l0_0.length : Int) := of_decide_eq_true (by first | (with_reducible assumption) | assumption)
                    obtain ⟨ad200, A200_0, c200_0, e200, hx200_0, hl200_0, hi200_0⟩ := at_L1 HR0_0.out x42_1 p200 q200
                    obtain rfl : ad188 = ad200 := (by injection e200)
                    replace hx200_0 := (HB.out.cell (World.block_lt_of_cell? w _ hx200_0)).trans hx200_0
                    have HR200_0 := Aside0.mk hi200_0
                    have HC200_0 := Aside0.mk hl200_0
                    clear hi200_0 hl200_0
                    replace p200 := eq_true p200
                    replace q200 := eq_true q200
                    go_wp2
                    go_roundg k1
                    case measure => have := HK1.out; omega
                    case rel => exact ⟨(wrap64 (x42_1 + 1)), (x200000_1), (u200000), (by first | rfl | (simp; done) | (simp [*]; done)), H', ⟨by have := HK1.out; omega⟩, ⟨by (with_reducible repeat (first | apply Kd.S_alloc | apply Kd.S_drewN | apply Kd.S_drew)); exact HO_200000.out⟩, ⟨by (with_reducible repeat (first | apply qN | apply qD | apply qA)); exact BK185.out⟩, ⟨by (with_reducible repeat (first | apply qN | apply qD | apply qA)); exact BK186.out⟩, ⟨by (with_reducible repeat (first | apply qN | apply qD | apply qA)); exact BK199.out⟩, ⟨by repeat (first | (with_reducible first | exact HB.out | apply bA | apply bN | apply bD | refine below_set ?_ GE185.out | refine below_set ?_ GE186.out | refine below_set ?_ GE199.out) | exact HB.out)⟩⟩
                  · rw [if_neg c45] at H
                    have c45b0 : (x42_1 == t187) = false := beq_eq_false_iff_ne.mpr c45
                    have c45b1 : (x42_1 != t187) = true := bne_iff_ne.mpr c45
                    replace H := Option.bind_eq_some_iff.mp H
                    obtain ⟨t201, A460, H⟩ := H
                    replace H : (if x42_1 < t187 then (if t187 < (wrap64 ((l0_0.length : Int) - 1)) then (if 0 ≤ t187 then (if t187 < (t201.length : Int) then (if 0 ≤ (wrap64 ((l0_0.length : Int) - 1)) then (if (wrap64 ((l0_0.length : Int) - 1)) < (t201.length : Int) then ((spec_maNarrow.f (t201.set ((wrap64 ((l0_0.length : Int) - 1)) : Int).toNat (rd t201 t187)) t187).bind fun t206 => (if x200000_1.length < 5864062014805 then (spec_maShrink.l0 k1 (l0_0.length : Int) t187 l0_0 (l0_0.length : Int) (wrap64 (x42_1 + 1)) (x200000_1 ++ [t206])) else (none))) else (none)) else (none)) else (none)) else (none)) else ((spec_maNarrow.f t201 t187).bind fun t212 => (if x200000_1.length < 5864062014805 then (spec_maShrink.l0 k1 (l0_0.length : Int) t187 l0_0 (l0_0.length : Int) (wrap64 (x42_1 + 1)) (x200000_1 ++ [t212])) else (none)))) else ((spec_maNarrow.f t201 t187).bind fun t218 => (if x200000_1.length < 5864062014805 then (spec_maShrink.l0 k1 (l0_0.length : Int) t187 l0_0 (l0_0.length : Int) (wrap64 (x42_1 + 1)) (x200000_1 ++ [t218])) else (none)))) = some (r1, r2) := H
                    have A46 := Aside0.mk A460
                    clear A460
                    by_cases c47 : x42_1 < t187
                    · rw [if_pos c47] at H
                      have c47b0 : decide (x42_1 < t187) = true := decide_eq_true c47
                      clear c47
                      by_cases c48 : t187 < (wrap64 ((l0_0.length : Int) - 1))
                      · rw [if_pos c48] at H
                        have c48b0 : decide (t187 < (wrap64 ((l0_0.length : Int) - 1))) = true := decide_eq_true c48
                        clear c48
                        by_cases c49 : 0 ≤ t187
                        · rw [if_pos c49] at H
                          have c49b0 : decide (0 ≤ t187) = true := decide_eq_true c49
                          clear c49
                          by_cases c50 : t187 < (t201.length : Int)
                          · rw [if_pos c50] at H
                            have c50b0 : decide (t187 < (t201.length : Int)) = true := decide_eq_true c50
                            clear c50
                            obtain ⟨ji51, hji51⟩ : ∃ j_ : Int, (wrap64 ((l0_0.length : Int) - 1)) = j_ := ⟨_, rfl⟩
                            replace H : (if 0 ≤ (ji51) then (if (ji51) < (t201.length : Int) then ((spec_maNarrow.f (t201.set ((ji51) : Int).toNat (rd t201 t187)) t187).bind fun t206 => (if x200000_1.length < 5864062014805 then (spec_maShrink.l0 k1 (l0_0.length : Int) t187 l0_0 (l0_0.length : Int) (wrap64 (x42_1 + 1)) (x200000_1 ++ [t206])) else (none))) else (none)) else (none)) = some (r1, r2) := by first | (rw [hji51] at H; exact H) | (simp only [hji51] at H ⊢; exact H)
                            (try rw [hji51] at c48b0)
                            (try rw [hji51] at A46)
                            have hji51w : (IntKind.i64.wrap ((l0_0.length : Int) - 1)) = ji51 := (i64_w _).trans hji51
                            by_cases c52 : 0 ≤ (ji51)
                            · rw [if_pos c52] at H
                              have c52b0 : decide (0 ≤ (ji51)) = true := decide_eq_true c52
                              clear c52
                              by_cases c53 : (ji51) < (t201.length : Int)
                              · rw [if_pos c53] at H
                                have c53b0 : decide ((ji51) < (t201.length : Int)) = true := decide_eq_true c53
                                clear c53
                                obtain ⟨y205, hy205⟩ : ∃ y_ : List Int, y_ = (t201.set ((ji51) : Int).toNat (rd t201 t187)) := ⟨_, rfl⟩
                                replace H : ((spec_maNarrow.f y205 t187).bind fun t206 => (if x200000_1.length < 5864062014805 then (spec_maShrink.l0 k1 (l0_0.length : Int) t187 l0_0 (l0_0.length : Int) (wrap64 (x42_1 + 1)) (x200000_1 ++ [t206])) else (none))) = some (r1, r2) := by first | (rw [hy205]; with_reducible exact H) | (have H2_ := (Option.bind_some _ _).symm.trans H; rw [hy205]; with_reducible exact H2_) | (have H2_ := (Option.bind_some _ _).symm.trans H; with_reducible exact H2_) | with_reducible exact H | (rw [hy205]; exact H) | exact H
                                have Ny205 := Aside0.mk hy205
                                clear hy205
                                replace H := Option.bind_eq_some_iff.mp H
                                obtain ⟨t206, A550, H⟩ := H
                                replace H : (if x200000_1.length < 5864062014805 then (spec_maShrink.l0 k1 (l0_0.length : Int) t187 l0_0 (l0_0.length : Int) (wrap64 (x42_1 + 1)) (x200000_1 ++ [t206])) else (none)) = some (r1, r2) := H
                                have A55 := Aside0.mk A550
                                clear A550
                                by_cases c56 : x200000_1.length < 5864062014805
                                · rw [if_pos c56] at H
                                  have LMc56 := Aside0.mk c56
                                  clear c56
                                  obtain ⟨y209, hy209⟩ : ∃ y_ : List (List Int), y_ = (x200000_1 ++ [t206]) := ⟨_, rfl⟩
                                  replace H : (spec_maShrink.l0 k1 (l0_0.length : Int) t187 l0_0 (l0_0.length : Int) (wrap64 (x42_1 + 1)) y209) = some (r1, r2) := by first | (rw [hy209]; with_reducible exact H) | (have H2_ := (Option.bind_some _ _).symm.trans H; rw [hy209]; with_reducible exact H2_) | (have H2_ := (Option.bind_some _ _).symm.trans H; with_reducible exact H2_) | with_reducible exact H | (rw [hy209]; exact H) | exact H
                                  have Ny209 := Aside0.mk hy209
                                  clear hy209
                                  have H' := Aside0.mk H
                                  clear H
                                  have p200 : 0 ≤ (x42_1 : Int) := of_decide_eq_true (by first | (with_reducible assumption) | assumption)
                                  have q200 : x42_1 < (l0_0.length : Int) := of_decide_eq_true (by first | (with_reducible assumption) | assumption)
                                  obtain ⟨ad200, A200_0, c200_0, e200, hx200_0, hl200_0, hi200_0⟩ := at_L1 HR0_0.out x42_1 p200 q200
                                  obtain rfl : ad188 = ad200 := (by injection e200)
                                  replace hx200_0 := (HB.out.cell (World.block_lt_of_cell? w _ hx200_0)).trans hx200_0
                                  have HR200_0 := Aside0.mk hi200_0
                                  have HC200_0 := Aside0.mk hl200_0
                                  clear hi200_0 hl200_0
                                  replace p200 := eq_true p200
                                  replace q200 := eq_true q200
                                  try go_wp2_with (first | ((with_reducible refine gate_callee (f := 101) rfl ?_); refine goesL_ (some 51) rfl rfl Try.func101 (by kernel_rfl) rfl #[.slice A200_0 (rd_L1 l0_0 x42_1).length c200_0] rfl (by (try simp only [List.map_toArray, List.map_cons, List.map_nil]); first | done | rfl | (simp only [List.length_drop, List.length_take]; rfl)) ?_; (with_reducible refine (spec_l1Own.calls _ _ (rd_L1 l0_0 x42_1) t201 _ ?side1 ?side2 A46.out).mono ?_); (case side1 => repeat (first | exact (Kd.C_below HR200_0.out HB.out) | (with_reducible refine Kd.C_alloc ?_ _) | (with_reducible refine Kd.C_drewN ?_ _) | (with_reducible refine Kd.C_drew ?_))); (case side2 => exact HC200_0.out); rintro e w57 ⟨v202, rfl, ho0, hb⟩; refine ⟨_, rfl, ?_⟩; have n0_ := Aside0.mk (Kd.S_elder' (by (with_reducible repeat (first | apply Kd.S_alloc | apply Kd.S_drewN | apply Kd.S_drew)); exact HO_200000.out) (Kd.R_base ho0) hb); have n1_ := Aside0.mk (Kd.R_lower ho0 (below_size (by repeat (first | (with_reducible first | exact HB.out | apply bA | apply bN | apply bD | refine below_set ?_ GE185.out | refine below_set ?_ GE186.out | refine below_set ?_ GE199.out) | exact HB.out)))); have n2_ := Aside0.mk (blk_below (g := gb185) (o := .cells #[.slice (some ad188) l0_0.length c0_0] 27 (0, 0)) (by (with_reducible repeat (first | apply qN | apply qD | apply qA)); exact BK185.out) hb); have n3_ := Aside0.mk (blk_below (g := gb186) (o := .cells #[.slice none 0 0] 27 (0, 0)) (by (with_reducible repeat (first | apply qN | apply qD | apply qA)); exact BK186.out) hb); have n4_ := Aside0.mk (blk_below (g := gb199) (o := .cells #[u200000] 27 (0, 0)) (by (with_reducible repeat (first | apply qN | apply qD | apply qA)); exact BK199.out) hb); have n5_ := Aside0.mk (below_step (by repeat (first | (with_reducible first | exact HB.out | apply bA | apply bN | apply bD | refine below_set ?_ GE185.out | refine below_set ?_ GE186.out | refine below_set ?_ GE199.out) | exact HB.out)) hb); clear HO_200000; clear BK185; clear BK186; clear BK199; clear HB; have HO_200000 := n0_; have HO203 := n1_; have BK185 := n2_; have BK186 := n3_; have BK199 := n4_; have HB := n5_; clear n0_ n1_ n2_ n3_ n4_ n5_; (try clear hb); (try clear hb2); (try clear hk); (try clear hi); (try clear ho0); obtain ⟨Ao58, co58, eo58⟩ := Kd.R_slice HO203.out; subst eo58; have p204 : 0 ≤ (t187 : Int) := of_decide_eq_true (by first | (with_reducible assumption) | assumption); have q204 : t187 < (t201.length : Int) := of_decide_eq_true (by first | (with_reducible assumption) | assumption); obtain ⟨ad204, e204, hx204_0⟩ := Kd.at_int (Kd.R_reads' HO203.out).2.2 t187 p204 q204; cases e204; replace p204 := eq_true p204; replace q204 := eq_true q204; have p54 : 0 ≤ ((ji51) : Int) := of_decide_eq_true (by first | (with_reducible assumption) | assumption); have q54 : ((ji51) : Int) < ((t201.length : Int) : Int) := of_decide_eq_true (by first | (with_reducible assumption) | assumption); obtain ⟨go54, co54, eo54, gb54, gl54, cl54, HG54⟩ := Kd.R_form HO203.out (by omega); (first | cases eo54 | (injection eo54 with ea_ en_ ec_; (first | subst ea_ | (injection ea_ with ea_; subst ea_)); subst ec_; clear en_)); have GB54 := Aside0.mk gb54; have GG54 := Aside0.mk HG54; clear gb54 gl54 HG54; (first | simp only [add_plain] at hx204_0 | skip); obtain ⟨hx54_0, hf54_0⟩ := Kd.R_celln 0 HO203.out ((ji51) : Int) p54 q54; replace p54 := eq_true p54; replace q54 := eq_true q54; obtain ⟨hy59_, hz59_⟩ := Kd.R_celln 0 HO203.out ((ji51) : Int) (of_decide_eq_true (by first | (with_reducible assumption) | assumption)) (of_decide_eq_true (by first | (with_reducible assumption) | assumption)); have HP59 := Kd.R_putg HO203.out ((ji51) : Int) (rd t201 t187)) | ((with_reducible refine gate_store (t := 3) (p := 68) rfl ?_); refine store_event (t := 3) (p := 68) (v := ?vo_w60) (w1 := (w57.setCell ⟨go54, ((ji51) : Int).toNat, none⟩ (.int .i64 (rd t201 t187)))) ?hg ?ho ?hn ?hr ?_; (case ho => rfl); (case hg => rfl); (case hn => rfl); (case hr => first | (go_simp; done) | (go_simp; rfl)); intro w60 hw; have hg : w57.grownBy w60 (some go54) := (by rw [hw]; exact HP59.2); have hp_ : Kd.R (Kd.int .i64) 3 w60 w.heap.size (fun _ => True) (.slice (some ⟨go54, 0, none⟩) t201.length co58) y205 := (by rw [hw, Ny205.out]; exact HP59.1); clear HP59; have n0_ := Aside0.mk (Kd.S_after (v := (.slice (some ⟨go54, 0, none⟩) t201.length co58)) (v1 := (.slice (some ⟨go54, 0, none⟩) t201.length co58)) (ok := (fun _ => True)) (by (with_reducible repeat (first | apply Kd.S_alloc | apply Kd.S_drewN | apply Kd.S_drew)); exact HO_200000.out) hg (.inl rfl)); have n1_ := Aside0.mk (blk_grown (g := gb185) (o := .cells #[.slice (some ad188) l0_0.length c0_0] 27 (0, 0)) (by (with_reducible repeat (first | apply qN | apply qD | apply qA)); exact BK185.out) hg (Kd.R_ne HO203.out BK185.out (by decide))); have n2_ := Aside0.mk (blk_grown (g := gb186) (o := .cells #[.slice none 0 0] 27 (0, 0)) (by (with_reducible repeat (first | apply qN | apply qD | apply qA)); exact BK186.out) hg (Kd.R_ne HO203.out BK186.out (by decide))); have n3_ := Aside0.mk (blk_grown (g := gb199) (o := .cells #[u200000] 27 (0, 0)) (by (with_reducible repeat (first | apply qN | apply qD | apply qA)); exact BK199.out) hg (Kd.R_ne HO203.out BK199.out (by decide))); have n4_ := Aside0.mk (hp_); have n5_ := Aside0.mk ((by rw [hw]; exact below_set (HB.out) GB54.out : Below w.heap.size w w60)); clear HO_200000; clear BK185; clear BK186; clear BK199; clear HO203; clear HB; have HO_200000 := n0_; have BK185 := n1_; have BK186 := n2_; have BK199 := n3_; have HO203 := n4_; have HB := n5_; clear n0_ n1_ n2_ n3_ n4_ n5_; clear hg hw hp_))
                                  have n0_ := Aside0.mk (Kd.S_drew HO_200000.out)
                                  have n1_ := Aside0.mk (Kd.R_drew HO203.out)
                                  have n2_ := Aside0.mk (blk_drew BK185.out)
                                  have n3_ := Aside0.mk (blk_drew BK186.out)
                                  have n4_ := Aside0.mk (blk_drew BK199.out)
                                  have n5_ := Aside0.mk (below_drew1 HB.out)
                                  clear HO_200000
                                  clear HO203
                                  clear BK185
                                  clear BK186
                                  clear BK199
                                  clear HB
                                  have HO_200000 := n0_
                                  have HO203 := n1_
                                  have BK185 := n2_
                                  have BK186 := n3_
                                  have BK199 := n4_
                                  have HB := n5_
                                  clear n0_ n1_ n2_ n3_ n4_ n5_
                                  refine start_ (n := 9) (S := fun w' => w'.cell? ⟨gb199, 0, none⟩ = some (u200000)) (ds := [8]) #[false, false, false, false, false, false, false, false, false] (by kernel_rfl) rfl rfl ((blk_cell BK199.out 0).trans rfl) (fun hHeld => ?_); refine with_tabW spec_maShrink.tab15 spec_maShrink.bits15 (fun HT_ HW_ => ?_)
                                  generalize w60.drew = w61 at HO_200000 HO203 BK185 BK186 BK199 HB hHeld ⊢
                                  refine pure_ (i := 0) (N := some 69) (v := ?_) (a' := ?_) #[true, false, false, false, false, false, false, false, false] rfl rfl (any_of HT_.out (by kernel_rfl)) (fun _ _ _ h => h) (Or.inl ⟨by rfl, ?_⟩) ?_ ?_
                                  rotate_left
                                  · intro w'
                                    go_simp
                                    with_reducible rfl
                                  rotate_left
                                  · simp only [Act.put, List.setIfInBounds_toArray, List.set_cons_zero, List.set_cons_succ, i64_w, i32_w]
                                    rfl
                                  refine pure_ (i := 2) (N := some 71) (v := ?_) (a' := ?_) #[true, false, true, false, false, false, false, false, false] rfl rfl (any_of HT_.out (by kernel_rfl)) (fun _ _ _ h => h) (Or.inl ⟨by rfl, ?_⟩) ?_ ?_
                                  rotate_left
                                  · intro w'
                                    go_simp
                                    with_reducible rfl
                                  rotate_left
                                  · simp only [Act.put, List.setIfInBounds_toArray, List.set_cons_zero, List.set_cons_succ, i64_w, i32_w]
                                    rfl
                                  refine pure_ (i := 3) (N := some 72) (v := ?_) (a' := ?_) #[true, false, true, true, false, false, false, false, false] rfl rfl (any_of HT_.out (by kernel_rfl)) (fun _ _ _ h => h) (Or.inl ⟨by rfl, ?_⟩) ?_ ?_
                                  rotate_left
                                  · intro w'
                                    go_simp
                                    with_reducible rfl
                                  rotate_left
                                  · simp only [Act.put, List.setIfInBounds_toArray, List.set_cons_zero, List.set_cons_succ, i64_w, i32_w]
                                    rfl
                                  refine take_ (i := 1) (N := some 70) (v := ?_) (a' := ?_) #[true, true, true, true, false, false, false, false, false] rfl rfl (take_ofW HT_.out HW_.out (by kernel_rfl)) (fun _ _ _ h => h) (Or.inl ⟨by rfl, ?_⟩) hHeld ?_ ?_
                                  rotate_left
                                  · intro w' s0
                                    go_simp
                                    with_reducible rfl
                                  rotate_left
                                  · simp only [Act.put, List.setIfInBounds_toArray, List.set_cons_zero, List.set_cons_succ, i64_w, i32_w]
                                    rfl
                                  refine one_ (i := 4) (N := some 73) #[true, true, true, true, true, false, false, false, false] rfl rfl (one_of HT_.out (by kernel_rfl)) (by decide) (fun K hK => ?_)
                                  refine goes_ Try.func102 (by kernel_rfl) rfl #[.slice (some ⟨go54, 0, none⟩) y205.length co58, .int .i64 t187] (by rfl) rfl rfl (by (try simp only [List.map_toArray, List.map_cons, List.map_nil]); first | done | (rw [show y205.length = t201.length from (Kd.R_reads' HO203.out).1.symm] <;> rfl) | rfl | (simp only [List.length_drop, List.length_take]; rfl)) ?_
                                  with_reducible refine (spec_maNarrow.calls _ _ y205 t187 t206 _ ?side1 ?side2 A55.out).mono ?_
                                  (case side1 => repeat (first | exact (Kd.R_reads' HO203.out).2.2 | (with_reducible refine Kd.C_alloc ?_ _) | (with_reducible refine Kd.C_drewN ?_ _) | (with_reducible refine Kd.C_drew ?_)))
                                  (case side2 => rw [show y205.length = t201.length from (Kd.R_reads' HO203.out).1.symm]; exact (Kd.R_reads' HO203.out).2.1)
                                  rintro e w62 ⟨v207, rfl, ho0, hb⟩
                                  refine ⟨_, rfl, ?_⟩
                                  have n0_ := Aside0.mk (Kd.S_elder' (by (with_reducible repeat (first | apply Kd.S_alloc | apply Kd.S_drewN | apply Kd.S_drew)); exact HO_200000.out) (Kd.R_base ho0) hb)
                                  have n1_ := Aside0.mk (Kd.R_elder' (by (with_reducible repeat (first | apply Kd.R_alloc | apply Kd.R_drewN | apply Kd.R_drew)); exact HO203.out) (Kd.R_base ho0) hb)
                                  have n2_ := Aside0.mk (Kd.R_lower (Kd.R_new' ho0 (Kd.R_lt (by (with_reducible repeat (first | apply Kd.R_alloc | apply Kd.R_drewN | apply Kd.R_drew)); exact HO203.out))) (below_size (by repeat (first | (with_reducible first | exact HB.out | apply bA | apply bN | apply bD | refine below_set ?_ GE185.out | refine below_set ?_ GE186.out | refine below_set ?_ GE199.out) | exact HB.out))))
                                  have n3_ := Aside0.mk (blk_below (g := gb185) (o := .cells #[.slice (some ad188) l0_0.length c0_0] 27 (0, 0)) (by (with_reducible repeat (first | apply qN | apply qD | apply qA)); exact BK185.out) hb)
                                  have n4_ := Aside0.mk (blk_below (g := gb186) (o := .cells #[.slice none 0 0] 27 (0, 0)) (by (with_reducible repeat (first | apply qN | apply qD | apply qA)); exact BK186.out) hb)
                                  have n5_ := Aside0.mk (blk_below (g := gb199) (o := .cells #[u200000] 27 (0, 0)) (by (with_reducible repeat (first | apply qN | apply qD | apply qA)); exact BK199.out) hb)
                                  have n6_ := Aside0.mk (below_step (by repeat (first | (with_reducible first | exact HB.out | apply bA | apply bN | apply bD | refine below_set ?_ GE185.out | refine below_set ?_ GE186.out | refine below_set ?_ GE199.out) | exact HB.out)) hb)
                                  clear HO_200000
                                  clear HO203
                                  clear BK185
                                  clear BK186
                                  clear BK199
                                  clear HB
                                  have HO_200000 := n0_
                                  have HO203 := n1_
                                  have HO208 := n2_
                                  have BK185 := n3_
                                  have BK186 := n4_
                                  have BK199 := n5_
                                  have HB := n6_
                                  clear n0_ n1_ n2_ n3_ n4_ n5_ n6_
                                  (try clear hb)
                                  (try clear hb2)
                                  (try clear hk)
                                  (try clear hi)
                                  (try clear ho0)
                                  obtain ⟨Ao64, co64, eo64⟩ := Kd.R_slice HO208.out
                                  (first | subst eo64 | (injection eo64 with f1_ f2_ f3_; have f4_ := f1_.symm; have f5_ := f3_.symm; clear f1_ f2_ f3_; subst f4_; subst f5_))
                                  refine hK.out _ _ ((blk_cell BK199.out 0).trans rfl) (fun hHeld => ?_)
                                  clear hK K
                                  refine norm_ (a' := ?_) ?_ ?_
                                  rotate_left
                                  · show Act.put _ (some 73) _ = _
                                    simp only [Act.put, List.setIfInBounds_toArray, List.set_cons_zero, List.set_cons_succ, i64_w, i32_w]
                                    rfl
                                  refine one_ (i := 5) (N := some 74) #[true, true, true, true, true, true, false, false, false] rfl rfl (one_of HT_.out (by kernel_rfl)) (by decide) (fun K hK => ?_)
                                  refine value_ (w1 := ?_) (v := ?_) (by rfl) rfl ?_ ?_
                                  rotate_left 2
                                  · go_simp
                                    constructor
                                    · rfl
                                    · rfl
                                  refine hK.out _ _ ((blk_cell (blk_alloc BK199.out _) 0).trans rfl) (fun hHeld => ?_)
                                  clear hK K
                                  refine norm_ (a' := ?_) ?_ ?_
                                  rotate_left
                                  · show Act.put _ (some 74) _ = _
                                    simp only [Act.put, List.setIfInBounds_toArray, List.set_cons_zero, List.set_cons_succ, i64_w, i32_w]
                                    rfl
                                  refine one_ (i := 6) (N := some 75) #[true, true, true, true, true, true, true, false, false] rfl rfl (one_of HT_.out (by kernel_rfl)) (by decide) (fun K hK => ?_)
                                  refine Kd.S_append_step (Kd.slice 3 (Kd.int .i64)) (w0 := w) w.heap.size (by rfl) (.tmp 70) (.tmp 74) 22 33 (.slice none 0 0) 24 rfl Try.underlying22 info33 rfl (by decide) (by omega) u200000 x200000_1 t206 [.slice Ao64 t206.length co64] (fun k_ => some k_ ≠ (.slice (some ⟨go54, 0, none⟩) t201.length co58 : Value).ownBlock) (fun k_ => some k_ = (.slice Ao64 t206.length co64 : Value).ownBlock) rfl rfl ?aP (fun k_ hk_ => ((Kd.R_mono (ok' := fun k_ => ((fun k_ => some k_ ≠ (.slice (some ⟨go54, 0, none⟩) t201.length co58 : Value).ownBlock)) k_ ∧ some k_ ≠ (u200000 : Value).ownBlock) (Kd.R_apart' (HO208.out) (Kd.S_typed HO_200000.out) (by decide)) (fun k_ hk => ⟨hk.1.2, hk.2⟩))).1 k_ hk_.symm) ?aF ?aO ?aB ?aS ?aL ?_
                                  (case aP => exact Kd.M_row (Kd.R_mono (Kd.R_tight rfl (Kd.R_mono (ok' := fun k_ => ((fun k_ => some k_ ≠ (.slice (some ⟨go54, 0, none⟩) t201.length co58 : Value).ownBlock)) k_ ∧ some k_ ≠ (u200000 : Value).ownBlock) (Kd.R_apart' (HO208.out) (Kd.S_typed HO_200000.out) (by decide)) (fun k_ hk => ⟨hk.1.2, hk.2⟩))) (fun _ h_ => h_)))
                                  (case aB => exact (by repeat (first | (with_reducible first | exact HB.out | apply bA | apply bN | apply bD | refine below_set ?_ GE185.out | refine below_set ?_ GE186.out | refine below_set ?_ GE199.out) | exact HB.out)))
                                  (case aF => exact (fun k_ hk => Kd.fresh' (Kd.R_lt (by (with_reducible repeat (first | apply Kd.R_alloc | apply Kd.R_drewN | apply Kd.R_drew)); exact HO203.out)) k_ hk))
                                  (case aO => exact (by (with_reducible repeat (first | apply Kd.S_alloc | apply Kd.S_drewN | apply Kd.S_drew)); exact Kd.S_mono HO_200000.out (fun k_ hk => ⟨hk.1.2, fun e_ => hk.2 e_⟩)))
                                  (case aS => exact (below_size (by repeat (first | (with_reducible first | exact HB.out | apply bA | apply bN | apply bD | refine below_set ?_ GE185.out | refine below_set ?_ GE186.out | refine below_set ?_ GE199.out) | exact HB.out))))
                                  (case aL => have := LMc56.out; omega)
                                  intro v210 w63 ho hb hg hat
                                  rw [← Ny209.out] at ho
                                  have n0_ := Aside0.mk (blk_grown (g := gb185) (o := .cells #[.slice (some ad188) l0_0.length c0_0] 27 (0, 0)) (by (with_reducible repeat (first | apply qN | apply qD | apply qA)); exact BK185.out) hg (Kd.S_ne HO_200000.out BK185.out (by decide)))
                                  have n1_ := Aside0.mk (blk_grown (g := gb186) (o := .cells #[.slice none 0 0] 27 (0, 0)) (by (with_reducible repeat (first | apply qN | apply qD | apply qA)); exact BK186.out) hg (Kd.S_ne HO_200000.out BK186.out (by decide)))
                                  have n2_ := Aside0.mk (blk_grown (g := gb199) (o := .cells #[u200000] 27 (0, 0)) (by (with_reducible repeat (first | apply qN | apply qD | apply qA)); exact BK199.out) hg (Kd.S_ne HO_200000.out BK199.out (by decide)))
                                  have n3_ := Aside0.mk (Kd.R_over' (by (with_reducible repeat (first | apply Kd.R_alloc | apply Kd.R_drewN | apply Kd.R_drew)); exact HO203.out) (Kd.S_typed (by (with_reducible repeat (first | apply Kd.S_alloc | apply Kd.S_drewN | apply Kd.S_drew)); exact HO_200000.out)) (by decide) hg)
                                  have n4_ := Aside0.mk (hb)
                                  have n5_ := Aside0.mk (ho)
                                  clear BK185
                                  clear BK186
                                  clear BK199
                                  clear HO203
                                  clear HB
                                  clear HO_200000
                                  clear HO208
                                  have BK185 := n0_
                                  have BK186 := n1_
                                  have BK199 := n2_
                                  have HO203 := n3_
                                  have HB := n4_
                                  have HO211 := n5_
                                  clear n0_ n1_ n2_ n3_ n4_ n5_
                                  clear ho hb hg hat
                                  obtain ⟨Ao65, co65, eo65⟩ := Kd.S_slice HO211.out
                                  (first | subst eo65 | (injection eo65 with f1_ f2_ f3_; have f4_ := f1_.symm; have f5_ := f3_.symm; clear f1_ f2_ f3_; subst f4_; subst f5_))
                                  refine hK.out _ _ ((blk_cell BK199.out 0).trans rfl) (fun hHeld => ?_)
                                  clear hK K
                                  refine norm_ (a' := ?_) ?_ ?_
                                  rotate_left
                                  · show Act.put _ (some 75) _ = _
                                    simp only [Act.put, List.setIfInBounds_toArray, List.set_cons_zero, List.set_cons_succ, i64_w, i32_w]
                                    rfl
                                  refine pure_ (i := 7) (N := some 76) (v := ?_) (a' := ?_) #[true, true, true, true, true, true, true, true, false] rfl rfl (any_of HT_.out (by kernel_rfl)) (fun _ _ _ h => h) (Or.inl ⟨by rfl, ?_⟩) ?_ ?_
                                  rotate_left
                                  · intro w'
                                    go_simp
                                    with_reducible rfl
                                  rotate_left
                                  · simp only [Act.put, List.setIfInBounds_toArray, List.set_cons_zero, List.set_cons_succ, i64_w, i32_w]
                                    rfl
                                  refine last_ (i := 8) (N := none) #[true, true, true, true, true, true, true, true, true] rfl rfl (one_of HT_.out (by kernel_rfl)) (by decide) (fun K hK => ?_)
                                  have hs66 : w63.cell? ⟨gb199, 0, none⟩ = some (u200000) := (blk_cell BK199.out 0).trans rfl
                                  have hfs66 := blk_frozen BK199.out 0
                                  have hns66_0 := NB185_199.out
                                  have hns66_1 := NB186_199.out
                                  have hms66_0 := NB199_185.out
                                  have hms66_1 := NB199_186.out
                                  refine skip_ (w1 := ?_) (by rfl) rfl ?_ ?_
                                  rotate_left
                                  · go_simp
                                    rfl
                                  refine hK.out _ _ ?_
                                  clear hK K
                                  refine done_ (done_of HT_.out (by kernel_rfl)) ?_
                                  try go_wp2
                                  go_roundg k1
                                  case measure => have := HK1.out; omega
                                  case rel => exact ⟨(wrap64 (x42_1 + 1)), (y209), (.slice Ao65 y209.length co65), (by first | rfl | (simp; done) | (simp [*]; done)), H', ⟨by have := HK1.out; omega⟩, ⟨by (with_reducible repeat (first | apply Kd.S_alloc | apply Kd.S_drewN | apply Kd.S_drew)); exact Kd.S_mono (Kd.S_far (p := ⟨gb199, 0, none⟩) (Kd.S_types HO211.out BK199.out (by decide)) (fun _ hk => hk.2) (.slice Ao65 y209.length co65)) (fun _ hk => trivial)⟩, ⟨by (with_reducible repeat (first | apply qN | apply qD | apply qA)); refine blk_far ?_ NB185_199.out _; (with_reducible repeat (first | apply qN | apply qD | apply qA)); exact BK185.out⟩, ⟨by (with_reducible repeat (first | apply qN | apply qD | apply qA)); refine blk_far ?_ NB186_199.out _; (with_reducible repeat (first | apply qN | apply qD | apply qA)); exact BK186.out⟩, ⟨by (with_reducible repeat (first | apply qN | apply qD | apply qA)); refine blk_put (cs := #[u200000]) ?_ 0 _ rfl; (with_reducible repeat (first | apply qN | apply qD | apply qA)); exact BK199.out⟩, ⟨by repeat (first | (with_reducible first | exact HB.out | apply bA | apply bN | apply bD | refine below_set ?_ GE185.out | refine below_set ?_ GE186.out | refine below_set ?_ GE199.out) | exact HB.out)⟩⟩
                                · rw [if_neg c56] at H
                                  exact absurd H (by simp)
                              · rw [if_neg c53] at H
                                exact absurd H (by simp)
                            · rw [if_neg c52] at H
                              exact absurd H (by simp)
                          · rw [if_neg c50] at H
                            exact absurd H (by simp)
                        · rw [if_neg c49] at H
                          exact absurd H (by simp)
                      · rw [if_neg c48] at H
                        have c48b0 : decide (t187 < (wrap64 ((l0_0.length : Int) - 1))) = false := decide_eq_false c48
                        clear c48
                        replace H := Option.bind_eq_some_iff.mp H
                        obtain ⟨t212, A670, H⟩ := H
                        replace H : (if x200000_1.length < 5864062014805 then (spec_maShrink.l0 k1 (l0_0.length : Int) t187 l0_0 (l0_0.length : Int) (wrap64 (x42_1 + 1)) (x200000_1 ++ [t212])) else (none)) = some (r1, r2) := H
                        have A67 := Aside0.mk A670
                        clear A670
                        by_cases c68 : x200000_1.length < 5864062014805
                        · rw [if_pos c68] at H
                          have LMc68 := Aside0.mk c68
                          clear c68
                          obtain ⟨y215, hy215⟩ : ∃ y_ : List (List Int), y_ = (x200000_1 ++ [t212]) := ⟨_, rfl⟩
                          replace H : (spec_maShrink.l0 k1 (l0_0.length : Int) t187 l0_0 (l0_0.length : Int) (wrap64 (x42_1 + 1)) y215) = some (r1, r2) := by first | (rw [hy215]; with_reducible exact H) | (have H2_ := (Option.bind_some _ _).symm.trans H; rw [hy215]; with_reducible exact H2_) | (have H2_ := (Option.bind_some _ _).symm.trans H; with_reducible exact H2_) | with_reducible exact H | (rw [hy215]; exact H) | exact H
                          have Ny215 := Aside0.mk hy215
                          clear hy215
                          have H' := Aside0.mk H
                          clear H
                          have p200 : 0 ≤ (x42_1 : Int) := of_decide_eq_true (by first | (with_reducible assumption) | assumption)
                          have q200 : x42_1 < (l0_0.length : Int) := of_decide_eq_true (by first | (with_reducible assumption) | assumption)
                          obtain ⟨ad200, A200_0, c200_0, e200, hx200_0, hl200_0, hi200_0⟩ := at_L1 HR0_0.out x42_1 p200 q200
                          obtain rfl : ad188 = ad200 := (by injection e200)
                          replace hx200_0 := (HB.out.cell (World.block_lt_of_cell? w _ hx200_0)).trans hx200_0
                          have HR200_0 := Aside0.mk hi200_0
                          have HC200_0 := Aside0.mk hl200_0
                          clear hi200_0 hl200_0
                          replace p200 := eq_true p200
                          replace q200 := eq_true q200
                          try go_wp2_with (first | ((with_reducible refine gate_callee (f := 101) rfl ?_); refine goesL_ (some 51) rfl rfl Try.func101 (by kernel_rfl) rfl #[.slice A200_0 (rd_L1 l0_0 x42_1).length c200_0] rfl (by (try simp only [List.map_toArray, List.map_cons, List.map_nil]); first | done | rfl | (simp only [List.length_drop, List.length_take]; rfl)) ?_; (with_reducible refine (spec_l1Own.calls _ _ (rd_L1 l0_0 x42_1) t201 _ ?side1 ?side2 A46.out).mono ?_); (case side1 => repeat (first | exact (Kd.C_below HR200_0.out HB.out) | (with_reducible refine Kd.C_alloc ?_ _) | (with_reducible refine Kd.C_drewN ?_ _) | (with_reducible refine Kd.C_drew ?_))); (case side2 => exact HC200_0.out); rintro e w69 ⟨v202, rfl, ho0, hb⟩; refine ⟨_, rfl, ?_⟩; have n0_ := Aside0.mk (Kd.S_elder' (by (with_reducible repeat (first | apply Kd.S_alloc | apply Kd.S_drewN | apply Kd.S_drew)); exact HO_200000.out) (Kd.R_base ho0) hb); have n1_ := Aside0.mk (Kd.R_lower ho0 (below_size (by repeat (first | (with_reducible first | exact HB.out | apply bA | apply bN | apply bD | refine below_set ?_ GE185.out | refine below_set ?_ GE186.out | refine below_set ?_ GE199.out) | exact HB.out)))); have n2_ := Aside0.mk (blk_below (g := gb185) (o := .cells #[.slice (some ad188) l0_0.length c0_0] 27 (0, 0)) (by (with_reducible repeat (first | apply qN | apply qD | apply qA)); exact BK185.out) hb); have n3_ := Aside0.mk (blk_below (g := gb186) (o := .cells #[.slice none 0 0] 27 (0, 0)) (by (with_reducible repeat (first | apply qN | apply qD | apply qA)); exact BK186.out) hb); have n4_ := Aside0.mk (blk_below (g := gb199) (o := .cells #[u200000] 27 (0, 0)) (by (with_reducible repeat (first | apply qN | apply qD | apply qA)); exact BK199.out) hb); have n5_ := Aside0.mk (below_step (by repeat (first | (with_reducible first | exact HB.out | apply bA | apply bN | apply bD | refine below_set ?_ GE185.out | refine below_set ?_ GE186.out | refine below_set ?_ GE199.out) | exact HB.out)) hb); clear HO_200000; clear BK185; clear BK186; clear BK199; clear HB; have HO_200000 := n0_; have HO203 := n1_; have BK185 := n2_; have BK186 := n3_; have BK199 := n4_; have HB := n5_; clear n0_ n1_ n2_ n3_ n4_ n5_; (try clear hb); (try clear hb2); (try clear hk); (try clear hi); (try clear ho0)))
                          have n0_ := Aside0.mk (Kd.S_drew HO_200000.out)
                          have n1_ := Aside0.mk (Kd.R_drew HO203.out)
                          have n2_ := Aside0.mk (blk_drew BK185.out)
                          have n3_ := Aside0.mk (blk_drew BK186.out)
                          have n4_ := Aside0.mk (blk_drew BK199.out)
                          have n5_ := Aside0.mk (below_drew1 HB.out)
                          clear HO_200000
                          clear HO203
                          clear BK185
                          clear BK186
                          clear BK199
                          clear HB
                          have HO_200000 := n0_
                          have HO203 := n1_
                          have BK185 := n2_
                          have BK186 := n3_
                          have BK199 := n4_
                          have HB := n5_
                          clear n0_ n1_ n2_ n3_ n4_ n5_
                          obtain ⟨Ao71, co71, eo71⟩ := Kd.R_slice HO203.out
                          (first | subst eo71 | (injection eo71 with f1_ f2_ f3_; have f4_ := f1_.symm; have f5_ := f3_.symm; clear f1_ f2_ f3_; subst f4_; subst f5_))
                          refine start_ (n := 9) (S := fun w' => w'.cell? ⟨gb199, 0, none⟩ = some (u200000)) (ds := [8]) #[false, false, false, false, false, false, false, false, false] (by kernel_rfl) rfl rfl ((blk_cell BK199.out 0).trans rfl) (fun hHeld => ?_); refine with_tabW spec_maShrink.tab15 spec_maShrink.bits15 (fun HT_ HW_ => ?_)
                          generalize w69.drew = w70 at HO_200000 HO203 BK185 BK186 BK199 HB hHeld ⊢
                          refine pure_ (i := 0) (N := some 69) (v := ?_) (a' := ?_) #[true, false, false, false, false, false, false, false, false] rfl rfl (any_of HT_.out (by kernel_rfl)) (fun _ _ _ h => h) (Or.inl ⟨by rfl, ?_⟩) ?_ ?_
                          rotate_left
                          · intro w'
                            go_simp
                            with_reducible rfl
                          rotate_left
                          · simp only [Act.put, List.setIfInBounds_toArray, List.set_cons_zero, List.set_cons_succ, i64_w, i32_w]
                            rfl
                          refine pure_ (i := 2) (N := some 71) (v := ?_) (a' := ?_) #[true, false, true, false, false, false, false, false, false] rfl rfl (any_of HT_.out (by kernel_rfl)) (fun _ _ _ h => h) (Or.inl ⟨by rfl, ?_⟩) ?_ ?_
                          rotate_left
                          · intro w'
                            go_simp
                            with_reducible rfl
                          rotate_left
                          · simp only [Act.put, List.setIfInBounds_toArray, List.set_cons_zero, List.set_cons_succ, i64_w, i32_w]
                            rfl
                          refine pure_ (i := 3) (N := some 72) (v := ?_) (a' := ?_) #[true, false, true, true, false, false, false, false, false] rfl rfl (any_of HT_.out (by kernel_rfl)) (fun _ _ _ h => h) (Or.inl ⟨by rfl, ?_⟩) ?_ ?_
                          rotate_left
                          · intro w'
                            go_simp
                            with_reducible rfl
                          rotate_left
                          · simp only [Act.put, List.setIfInBounds_toArray, List.set_cons_zero, List.set_cons_succ, i64_w, i32_w]
                            rfl
                          refine take_ (i := 1) (N := some 70) (v := ?_) (a' := ?_) #[true, true, true, true, false, false, false, false, false] rfl rfl (take_ofW HT_.out HW_.out (by kernel_rfl)) (fun _ _ _ h => h) (Or.inl ⟨by rfl, ?_⟩) hHeld ?_ ?_
                          rotate_left
                          · intro w' s0
                            go_simp
                            with_reducible rfl
                          rotate_left
                          · simp only [Act.put, List.setIfInBounds_toArray, List.set_cons_zero, List.set_cons_succ, i64_w, i32_w]
                            rfl
                          refine one_ (i := 4) (N := some 73) #[true, true, true, true, true, false, false, false, false] rfl rfl (one_of HT_.out (by kernel_rfl)) (by decide) (fun K hK => ?_)
                          refine goes_ Try.func102 (by kernel_rfl) rfl #[.slice Ao71 t201.length co71, .int .i64 t187] (by rfl) rfl rfl (by (try simp only [List.map_toArray, List.map_cons, List.map_nil]); first | done | rfl | (simp only [List.length_drop, List.length_take]; rfl)) ?_
                          with_reducible refine (spec_maNarrow.calls _ _ t201 t187 t212 _ ?side1 ?side2 A67.out).mono ?_
                          (case side1 => repeat (first | exact (Kd.R_reads' HO203.out).2.2 | (with_reducible refine Kd.C_alloc ?_ _) | (with_reducible refine Kd.C_drewN ?_ _) | (with_reducible refine Kd.C_drew ?_)))
                          (case side2 => exact (Kd.R_reads' HO203.out).2.1)
                          rintro e w72 ⟨v213, rfl, ho0, hb⟩
                          refine ⟨_, rfl, ?_⟩
                          have n0_ := Aside0.mk (Kd.S_elder' (by (with_reducible repeat (first | apply Kd.S_alloc | apply Kd.S_drewN | apply Kd.S_drew)); exact HO_200000.out) (Kd.R_base ho0) hb)
                          have n1_ := Aside0.mk (Kd.R_elder' (by (with_reducible repeat (first | apply Kd.R_alloc | apply Kd.R_drewN | apply Kd.R_drew)); exact HO203.out) (Kd.R_base ho0) hb)
                          have n2_ := Aside0.mk (Kd.R_lower (Kd.R_new' ho0 (Kd.R_lt (by (with_reducible repeat (first | apply Kd.R_alloc | apply Kd.R_drewN | apply Kd.R_drew)); exact HO203.out))) (below_size (by repeat (first | (with_reducible first | exact HB.out | apply bA | apply bN | apply bD | refine below_set ?_ GE185.out | refine below_set ?_ GE186.out | refine below_set ?_ GE199.out) | exact HB.out))))
                          have n3_ := Aside0.mk (blk_below (g := gb185) (o := .cells #[.slice (some ad188) l0_0.length c0_0] 27 (0, 0)) (by (with_reducible repeat (first | apply qN | apply qD | apply qA)); exact BK185.out) hb)
                          have n4_ := Aside0.mk (blk_below (g := gb186) (o := .cells #[.slice none 0 0] 27 (0, 0)) (by (with_reducible repeat (first | apply qN | apply qD | apply qA)); exact BK186.out) hb)
                          have n5_ := Aside0.mk (blk_below (g := gb199) (o := .cells #[u200000] 27 (0, 0)) (by (with_reducible repeat (first | apply qN | apply qD | apply qA)); exact BK199.out) hb)
                          have n6_ := Aside0.mk (below_step (by repeat (first | (with_reducible first | exact HB.out | apply bA | apply bN | apply bD | refine below_set ?_ GE185.out | refine below_set ?_ GE186.out | refine below_set ?_ GE199.out) | exact HB.out)) hb)
                          clear HO_200000
                          clear HO203
                          clear BK185
                          clear BK186
                          clear BK199
                          clear HB
                          have HO_200000 := n0_
                          have HO203 := n1_
                          have HO214 := n2_
                          have BK185 := n3_
                          have BK186 := n4_
                          have BK199 := n5_
                          have HB := n6_
                          clear n0_ n1_ n2_ n3_ n4_ n5_ n6_
                          (try clear hb)
                          (try clear hb2)
                          (try clear hk)
                          (try clear hi)
                          (try clear ho0)
                          obtain ⟨Ao74, co74, eo74⟩ := Kd.R_slice HO214.out
                          (first | subst eo74 | (injection eo74 with f1_ f2_ f3_; have f4_ := f1_.symm; have f5_ := f3_.symm; clear f1_ f2_ f3_; subst f4_; subst f5_))
                          refine hK.out _ _ ((blk_cell BK199.out 0).trans rfl) (fun hHeld => ?_)
                          clear hK K
                          refine norm_ (a' := ?_) ?_ ?_
                          rotate_left
                          · show Act.put _ (some 73) _ = _
                            simp only [Act.put, List.setIfInBounds_toArray, List.set_cons_zero, List.set_cons_succ, i64_w, i32_w]
                            rfl
                          refine one_ (i := 5) (N := some 74) #[true, true, true, true, true, true, false, false, false] rfl rfl (one_of HT_.out (by kernel_rfl)) (by decide) (fun K hK => ?_)
                          refine value_ (w1 := ?_) (v := ?_) (by rfl) rfl ?_ ?_
                          rotate_left 2
                          · go_simp
                            constructor
                            · rfl
                            · rfl
                          refine hK.out _ _ ((blk_cell (blk_alloc BK199.out _) 0).trans rfl) (fun hHeld => ?_)
                          clear hK K
                          refine norm_ (a' := ?_) ?_ ?_
                          rotate_left
                          · show Act.put _ (some 74) _ = _
                            simp only [Act.put, List.setIfInBounds_toArray, List.set_cons_zero, List.set_cons_succ, i64_w, i32_w]
                            rfl
                          refine one_ (i := 6) (N := some 75) #[true, true, true, true, true, true, true, false, false] rfl rfl (one_of HT_.out (by kernel_rfl)) (by decide) (fun K hK => ?_)
                          refine Kd.S_append_step (Kd.slice 3 (Kd.int .i64)) (w0 := w) w.heap.size (by rfl) (.tmp 70) (.tmp 74) 22 33 (.slice none 0 0) 24 rfl Try.underlying22 info33 rfl (by decide) (by omega) u200000 x200000_1 t212 [.slice Ao74 t212.length co74] (fun k_ => some k_ ≠ (.slice Ao71 t201.length co71 : Value).ownBlock) (fun k_ => some k_ = (.slice Ao74 t212.length co74 : Value).ownBlock) rfl rfl ?aP (fun k_ hk_ => ((Kd.R_mono (ok' := fun k_ => ((fun k_ => some k_ ≠ (.slice Ao71 t201.length co71 : Value).ownBlock)) k_ ∧ some k_ ≠ (u200000 : Value).ownBlock) (Kd.R_apart' (HO214.out) (Kd.S_typed HO_200000.out) (by decide)) (fun k_ hk => ⟨hk.1.2, hk.2⟩))).1 k_ hk_.symm) ?aF ?aO ?aB ?aS ?aL ?_
                          (case aP => exact Kd.M_row (Kd.R_mono (Kd.R_tight rfl (Kd.R_mono (ok' := fun k_ => ((fun k_ => some k_ ≠ (.slice Ao71 t201.length co71 : Value).ownBlock)) k_ ∧ some k_ ≠ (u200000 : Value).ownBlock) (Kd.R_apart' (HO214.out) (Kd.S_typed HO_200000.out) (by decide)) (fun k_ hk => ⟨hk.1.2, hk.2⟩))) (fun _ h_ => h_)))
                          (case aB => exact (by repeat (first | (with_reducible first | exact HB.out | apply bA | apply bN | apply bD | refine below_set ?_ GE185.out | refine below_set ?_ GE186.out | refine below_set ?_ GE199.out) | exact HB.out)))
                          (case aF => exact (fun k_ hk => Kd.fresh' (Kd.R_lt (by (with_reducible repeat (first | apply Kd.R_alloc | apply Kd.R_drewN | apply Kd.R_drew)); exact HO203.out)) k_ hk))
                          (case aO => exact (by (with_reducible repeat (first | apply Kd.S_alloc | apply Kd.S_drewN | apply Kd.S_drew)); exact Kd.S_mono HO_200000.out (fun k_ hk => ⟨hk.1.2, fun e_ => hk.2 e_⟩)))
                          (case aS => exact (below_size (by repeat (first | (with_reducible first | exact HB.out | apply bA | apply bN | apply bD | refine below_set ?_ GE185.out | refine below_set ?_ GE186.out | refine below_set ?_ GE199.out) | exact HB.out))))
                          (case aL => have := LMc68.out; omega)
                          intro v216 w73 ho hb hg hat
                          rw [← Ny215.out] at ho
                          have n0_ := Aside0.mk (blk_grown (g := gb185) (o := .cells #[.slice (some ad188) l0_0.length c0_0] 27 (0, 0)) (by (with_reducible repeat (first | apply qN | apply qD | apply qA)); exact BK185.out) hg (Kd.S_ne HO_200000.out BK185.out (by decide)))
                          have n1_ := Aside0.mk (blk_grown (g := gb186) (o := .cells #[.slice none 0 0] 27 (0, 0)) (by (with_reducible repeat (first | apply qN | apply qD | apply qA)); exact BK186.out) hg (Kd.S_ne HO_200000.out BK186.out (by decide)))
                          have n2_ := Aside0.mk (blk_grown (g := gb199) (o := .cells #[u200000] 27 (0, 0)) (by (with_reducible repeat (first | apply qN | apply qD | apply qA)); exact BK199.out) hg (Kd.S_ne HO_200000.out BK199.out (by decide)))
                          have n3_ := Aside0.mk (Kd.R_over' (by (with_reducible repeat (first | apply Kd.R_alloc | apply Kd.R_drewN | apply Kd.R_drew)); exact HO203.out) (Kd.S_typed (by (with_reducible repeat (first | apply Kd.S_alloc | apply Kd.S_drewN | apply Kd.S_drew)); exact HO_200000.out)) (by decide) hg)
                          have n4_ := Aside0.mk (hb)
                          have n5_ := Aside0.mk (ho)
                          clear BK185
                          clear BK186
                          clear BK199
                          clear HO203
                          clear HB
                          clear HO_200000
                          clear HO214
                          have BK185 := n0_
                          have BK186 := n1_
                          have BK199 := n2_
                          have HO203 := n3_
                          have HB := n4_
                          have HO217 := n5_
                          clear n0_ n1_ n2_ n3_ n4_ n5_
                          clear ho hb hg hat
                          obtain ⟨Ao75, co75, eo75⟩ := Kd.S_slice HO217.out
                          (first | subst eo75 | (injection eo75 with f1_ f2_ f3_; have f4_ := f1_.symm; have f5_ := f3_.symm; clear f1_ f2_ f3_; subst f4_; subst f5_))
                          refine hK.out _ _ ((blk_cell BK199.out 0).trans rfl) (fun hHeld => ?_)
                          clear hK K
                          refine norm_ (a' := ?_) ?_ ?_
                          rotate_left
                          · show Act.put _ (some 75) _ = _
                            simp only [Act.put, List.setIfInBounds_toArray, List.set_cons_zero, List.set_cons_succ, i64_w, i32_w]
                            rfl
                          refine pure_ (i := 7) (N := some 76) (v := ?_) (a' := ?_) #[true, true, true, true, true, true, true, true, false] rfl rfl (any_of HT_.out (by kernel_rfl)) (fun _ _ _ h => h) (Or.inl ⟨by rfl, ?_⟩) ?_ ?_
                          rotate_left
                          · intro w'
                            go_simp
                            with_reducible rfl
                          rotate_left
                          · simp only [Act.put, List.setIfInBounds_toArray, List.set_cons_zero, List.set_cons_succ, i64_w, i32_w]
                            rfl
                          refine last_ (i := 8) (N := none) #[true, true, true, true, true, true, true, true, true] rfl rfl (one_of HT_.out (by kernel_rfl)) (by decide) (fun K hK => ?_)
                          have hs76 : w73.cell? ⟨gb199, 0, none⟩ = some (u200000) := (blk_cell BK199.out 0).trans rfl
                          have hfs76 := blk_frozen BK199.out 0
                          have hns76_0 := NB185_199.out
                          have hns76_1 := NB186_199.out
                          have hms76_0 := NB199_185.out
                          have hms76_1 := NB199_186.out
                          refine skip_ (w1 := ?_) (by rfl) rfl ?_ ?_
                          rotate_left
                          · go_simp
                            rfl
                          refine hK.out _ _ ?_
                          clear hK K
                          refine done_ (done_of HT_.out (by kernel_rfl)) ?_
                          try go_wp2
                          go_roundg k1
                          case measure => have := HK1.out; omega
                          case rel => exact ⟨(wrap64 (x42_1 + 1)), (y215), (.slice Ao75 y215.length co75), (by first | rfl | (simp; done) | (simp [*]; done)), H', ⟨by have := HK1.out; omega⟩, ⟨by (with_reducible repeat (first | apply Kd.S_alloc | apply Kd.S_drewN | apply Kd.S_drew)); exact Kd.S_mono (Kd.S_far (p := ⟨gb199, 0, none⟩) (Kd.S_types HO217.out BK199.out (by decide)) (fun _ hk => hk.2) (.slice Ao75 y215.length co75)) (fun _ hk => trivial)⟩, ⟨by (with_reducible repeat (first | apply qN | apply qD | apply qA)); refine blk_far ?_ NB185_199.out _; (with_reducible repeat (first | apply qN | apply qD | apply qA)); exact BK185.out⟩, ⟨by (with_reducible repeat (first | apply qN | apply qD | apply qA)); refine blk_far ?_ NB186_199.out _; (with_reducible repeat (first | apply qN | apply qD | apply qA)); exact BK186.out⟩, ⟨by (with_reducible repeat (first | apply qN | apply qD | apply qA)); refine blk_put (cs := #[u200000]) ?_ 0 _ rfl; (with_reducible repeat (first | apply qN | apply qD | apply qA)); exact BK199.out⟩, ⟨by repeat (first | (with_reducible first | exact HB.out | apply bA | apply bN | apply bD | refine below_set ?_ GE185.out | refine below_set ?_ GE186.out | refine below_set ?_ GE199.out) | exact HB.out)⟩⟩
                        · rw [if_neg c68] at H
                          exact absurd H (by simp)
                    · rw [if_neg c47] at H
                      have c47b0 : decide (x42_1 < t187) = false := decide_eq_false c47
                      clear c47
                      replace H := Option.bind_eq_some_iff.mp H
                      obtain ⟨t218, A770, H⟩ := H
                      replace H : (if x200000_1.length < 5864062014805 then (spec_maShrink.l0 k1 (l0_0.length : Int) t187 l0_0 (l0_0.length : Int) (wrap64 (x42_1 + 1)) (x200000_1 ++ [t218])) else (none)) = some (r1, r2) := H
                      have A77 := Aside0.mk A770
                      clear A770
                      by_cases c78 : x200000_1.length < 5864062014805
                      · rw [if_pos c78] at H
                        have LMc78 := Aside0.mk c78
                        clear c78
                        obtain ⟨y221, hy221⟩ : ∃ y_ : List (List Int), y_ = (x200000_1 ++ [t218]) := ⟨_, rfl⟩
                        replace H : (spec_maShrink.l0 k1 (l0_0.length : Int) t187 l0_0 (l0_0.length : Int) (wrap64 (x42_1 + 1)) y221) = some (r1, r2) := by first | (rw [hy221]; with_reducible exact H) | (have H2_ := (Option.bind_some _ _).symm.trans H; rw [hy221]; with_reducible exact H2_) | (have H2_ := (Option.bind_some _ _).symm.trans H; with_reducible exact H2_) | with_reducible exact H | (rw [hy221]; exact H) | exact H
                        have Ny221 := Aside0.mk hy221
                        clear hy221
                        have H' := Aside0.mk H
                        clear H
                        have p200 : 0 ≤ (x42_1 : Int) := of_decide_eq_true (by first | (with_reducible assumption) | assumption)
                        have q200 : x42_1 < (l0_0.length : Int) := of_decide_eq_true (by first | (with_reducible assumption) | assumption)
                        obtain ⟨ad200, A200_0, c200_0, e200, hx200_0, hl200_0, hi200_0⟩ := at_L1 HR0_0.out x42_1 p200 q200
                        obtain rfl : ad188 = ad200 := (by injection e200)
                        replace hx200_0 := (HB.out.cell (World.block_lt_of_cell? w _ hx200_0)).trans hx200_0
                        have HR200_0 := Aside0.mk hi200_0
                        have HC200_0 := Aside0.mk hl200_0
                        clear hi200_0 hl200_0
                        replace p200 := eq_true p200
                        replace q200 := eq_true q200
                        try go_wp2_with (first | ((with_reducible refine gate_callee (f := 101) rfl ?_); refine goesL_ (some 51) rfl rfl Try.func101 (by kernel_rfl) rfl #[.slice A200_0 (rd_L1 l0_0 x42_1).length c200_0] rfl (by (try simp only [List.map_toArray, List.map_cons, List.map_nil]); first | done | rfl | (simp only [List.length_drop, List.length_take]; rfl)) ?_; (with_reducible refine (spec_l1Own.calls _ _ (rd_L1 l0_0 x42_1) t201 _ ?side1 ?side2 A46.out).mono ?_); (case side1 => repeat (first | exact (Kd.C_below HR200_0.out HB.out) | (with_reducible refine Kd.C_alloc ?_ _) | (with_reducible refine Kd.C_drewN ?_ _) | (with_reducible refine Kd.C_drew ?_))); (case side2 => exact HC200_0.out); rintro e w79 ⟨v202, rfl, ho0, hb⟩; refine ⟨_, rfl, ?_⟩; have n0_ := Aside0.mk (Kd.S_elder' (by (with_reducible repeat (first | apply Kd.S_alloc | apply Kd.S_drewN | apply Kd.S_drew)); exact HO_200000.out) (Kd.R_base ho0) hb); have n1_ := Aside0.mk (Kd.R_lower ho0 (below_size (by repeat (first | (with_reducible first | exact HB.out | apply bA | apply bN | apply bD | refine below_set ?_ GE185.out | refine below_set ?_ GE186.out | refine below_set ?_ GE199.out) | exact HB.out)))); have n2_ := Aside0.mk (blk_below (g := gb185) (o := .cells #[.slice (some ad188) l0_0.length c0_0] 27 (0, 0)) (by (with_reducible repeat (first | apply qN | apply qD | apply qA)); exact BK185.out) hb); have n3_ := Aside0.mk (blk_below (g := gb186) (o := .cells #[.slice none 0 0] 27 (0, 0)) (by (with_reducible repeat (first | apply qN | apply qD | apply qA)); exact BK186.out) hb); have n4_ := Aside0.mk (blk_below (g := gb199) (o := .cells #[u200000] 27 (0, 0)) (by (with_reducible repeat (first | apply qN | apply qD | apply qA)); exact BK199.out) hb); have n5_ := Aside0.mk (below_step (by repeat (first | (with_reducible first | exact HB.out | apply bA | apply bN | apply bD | refine below_set ?_ GE185.out | refine below_set ?_ GE186.out | refine below_set ?_ GE199.out) | exact HB.out)) hb); clear HO_200000; clear BK185; clear BK186; clear BK199; clear HB; have HO_200000 := n0_; have HO203 := n1_; have BK185 := n2_; have BK186 := n3_; have BK199 := n4_; have HB := n5_; clear n0_ n1_ n2_ n3_ n4_ n5_; (try clear hb); (try clear hb2); (try clear hk); (try clear hi); (try clear ho0)))
                        have n0_ := Aside0.mk (Kd.S_drew HO_200000.out)
                        have n1_ := Aside0.mk (Kd.R_drew HO203.out)
                        have n2_ := Aside0.mk (blk_drew BK185.out)
                        have n3_ := Aside0.mk (blk_drew BK186.out)
                        have n4_ := Aside0.mk (blk_drew BK199.out)
                        have n5_ := Aside0.mk (below_drew1 HB.out)
                        clear HO_200000
                        clear HO203
                        clear BK185
                        clear BK186
                        clear BK199
                        clear HB
                        have HO_200000 := n0_
                        have HO203 := n1_
                        have BK185 := n2_
                        have BK186 := n3_
                        have BK199 := n4_
                        have HB := n5_
                        clear n0_ n1_ n2_ n3_ n4_ n5_
                        obtain ⟨Ao81, co81, eo81⟩ := Kd.R_slice HO203.out
                        (first | subst eo81 | (injection eo81 with f1_ f2_ f3_; have f4_ := f1_.symm; have f5_ := f3_.symm; clear f1_ f2_ f3_; subst f4_; subst f5_))
                        refine start_ (n := 9) (S := fun w' => w'.cell? ⟨gb199, 0, none⟩ = some (u200000)) (ds := [8]) #[false, false, false, false, false, false, false, false, false] (by kernel_rfl) rfl rfl ((blk_cell BK199.out 0).trans rfl) (fun hHeld => ?_); refine with_tabW spec_maShrink.tab15 spec_maShrink.bits15 (fun HT_ HW_ => ?_)
                        generalize w79.drew = w80 at HO_200000 HO203 BK185 BK186 BK199 HB hHeld ⊢
                        refine pure_ (i := 0) (N := some 69) (v := ?_) (a' := ?_) #[true, false, false, false, false, false, false, false, false] rfl rfl (any_of HT_.out (by kernel_rfl)) (fun _ _ _ h => h) (Or.inl ⟨by rfl, ?_⟩) ?_ ?_
                        rotate_left
                        · intro w'
                          go_simp
                          with_reducible rfl
                        rotate_left
                        · simp only [Act.put, List.setIfInBounds_toArray, List.set_cons_zero, List.set_cons_succ, i64_w, i32_w]
                          rfl
                        refine pure_ (i := 2) (N := some 71) (v := ?_) (a' := ?_) #[true, false, true, false, false, false, false, false, false] rfl rfl (any_of HT_.out (by kernel_rfl)) (fun _ _ _ h => h) (Or.inl ⟨by rfl, ?_⟩) ?_ ?_
                        rotate_left
                        · intro w'
                          go_simp
                          with_reducible rfl
                        rotate_left
                        · simp only [Act.put, List.setIfInBounds_toArray, List.set_cons_zero, List.set_cons_succ, i64_w, i32_w]
                          rfl
                        refine pure_ (i := 3) (N := some 72) (v := ?_) (a' := ?_) #[true, false, true, true, false, false, false, false, false] rfl rfl (any_of HT_.out (by kernel_rfl)) (fun _ _ _ h => h) (Or.inl ⟨by rfl, ?_⟩) ?_ ?_
                        rotate_left
                        · intro w'
                          go_simp
                          with_reducible rfl
                        rotate_left
                        · simp only [Act.put, List.setIfInBounds_toArray, List.set_cons_zero, List.set_cons_succ, i64_w, i32_w]
                          rfl
                        refine take_ (i := 1) (N := some 70) (v := ?_) (a' := ?_) #[true, true, true, true, false, false, false, false, false] rfl rfl (take_ofW HT_.out HW_.out (by kernel_rfl)) (fun _ _ _ h => h) (Or.inl ⟨by rfl, ?_⟩) hHeld ?_ ?_
                        rotate_left
                        · intro w' s0
                          go_simp
                          with_reducible rfl
                        rotate_left
                        · simp only [Act.put, List.setIfInBounds_toArray, List.set_cons_zero, List.set_cons_succ, i64_w, i32_w]
                          rfl
                        refine one_ (i := 4) (N := some 73) #[true, true, true, true, true, false, false, false, false] rfl rfl (one_of HT_.out (by kernel_rfl)) (by decide) (fun K hK => ?_)
                        refine goes_ Try.func102 (by kernel_rfl) rfl #[.slice Ao81 t201.length co81, .int .i64 t187] (by rfl) rfl rfl (by (try simp only [List.map_toArray, List.map_cons, List.map_nil]); first | done | rfl | (simp only [List.length_drop, List.length_take]; rfl)) ?_
                        with_reducible refine (spec_maNarrow.calls _ _ t201 t187 t218 _ ?side1 ?side2 A77.out).mono ?_
                        (case side1 => repeat (first | exact (Kd.R_reads' HO203.out).2.2 | (with_reducible refine Kd.C_alloc ?_ _) | (with_reducible refine Kd.C_drewN ?_ _) | (with_reducible refine Kd.C_drew ?_)))
                        (case side2 => exact (Kd.R_reads' HO203.out).2.1)
                        rintro e w82 ⟨v219, rfl, ho0, hb⟩
                        refine ⟨_, rfl, ?_⟩
                        have n0_ := Aside0.mk (Kd.S_elder' (by (with_reducible repeat (first | apply Kd.S_alloc | apply Kd.S_drewN | apply Kd.S_drew)); exact HO_200000.out) (Kd.R_base ho0) hb)
                        have n1_ := Aside0.mk (Kd.R_elder' (by (with_reducible repeat (first | apply Kd.R_alloc | apply Kd.R_drewN | apply Kd.R_drew)); exact HO203.out) (Kd.R_base ho0) hb)
                        have n2_ := Aside0.mk (Kd.R_lower (Kd.R_new' ho0 (Kd.R_lt (by (with_reducible repeat (first | apply Kd.R_alloc | apply Kd.R_drewN | apply Kd.R_drew)); exact HO203.out))) (below_size (by repeat (first | (with_reducible first | exact HB.out | apply bA | apply bN | apply bD | refine below_set ?_ GE185.out | refine below_set ?_ GE186.out | refine below_set ?_ GE199.out) | exact HB.out))))
                        have n3_ := Aside0.mk (blk_below (g := gb185) (o := .cells #[.slice (some ad188) l0_0.length c0_0] 27 (0, 0)) (by (with_reducible repeat (first | apply qN | apply qD | apply qA)); exact BK185.out) hb)
                        have n4_ := Aside0.mk (blk_below (g := gb186) (o := .cells #[.slice none 0 0] 27 (0, 0)) (by (with_reducible repeat (first | apply qN | apply qD | apply qA)); exact BK186.out) hb)
                        have n5_ := Aside0.mk (blk_below (g := gb199) (o := .cells #[u200000] 27 (0, 0)) (by (with_reducible repeat (first | apply qN | apply qD | apply qA)); exact BK199.out) hb)
                        have n6_ := Aside0.mk (below_step (by repeat (first | (with_reducible first | exact HB.out | apply bA | apply bN | apply bD | refine below_set ?_ GE185.out | refine below_set ?_ GE186.out | refine below_set ?_ GE199.out) | exact HB.out)) hb)
                        clear HO_200000
                        clear HO203
                        clear BK185
                        clear BK186
                        clear BK199
                        clear HB
                        have HO_200000 := n0_
                        have HO203 := n1_
                        have HO220 := n2_
                        have BK185 := n3_
                        have BK186 := n4_
                        have BK199 := n5_
                        have HB := n6_
                        clear n0_ n1_ n2_ n3_ n4_ n5_ n6_
                        (try clear hb)
                        (try clear hb2)
                        (try clear hk)
                        (try clear hi)
                        (try clear ho0)
                        obtain ⟨Ao84, co84, eo84⟩ := Kd.R_slice HO220.out
                        (first | subst eo84 | (injection eo84 with f1_ f2_ f3_; have f4_ := f1_.symm; have f5_ := f3_.symm; clear f1_ f2_ f3_; subst f4_; subst f5_))
                        refine hK.out _ _ ((blk_cell BK199.out 0).trans rfl) (fun hHeld => ?_)
                        clear hK K
                        refine norm_ (a' := ?_) ?_ ?_
                        rotate_left
                        · show Act.put _ (some 73) _ = _
                          simp only [Act.put, List.setIfInBounds_toArray, List.set_cons_zero, List.set_cons_succ, i64_w, i32_w]
                          rfl
                        refine one_ (i := 5) (N := some 74) #[true, true, true, true, true, true, false, false, false] rfl rfl (one_of HT_.out (by kernel_rfl)) (by decide) (fun K hK => ?_)
                        refine value_ (w1 := ?_) (v := ?_) (by rfl) rfl ?_ ?_
                        rotate_left 2
                        · go_simp
                          constructor
                          · rfl
                          · rfl
                        refine hK.out _ _ ((blk_cell (blk_alloc BK199.out _) 0).trans rfl) (fun hHeld => ?_)
                        clear hK K
                        refine norm_ (a' := ?_) ?_ ?_
                        rotate_left
                        · show Act.put _ (some 74) _ = _
                          simp only [Act.put, List.setIfInBounds_toArray, List.set_cons_zero, List.set_cons_succ, i64_w, i32_w]
                          rfl
                        refine one_ (i := 6) (N := some 75) #[true, true, true, true, true, true, true, false, false] rfl rfl (one_of HT_.out (by kernel_rfl)) (by decide) (fun K hK => ?_)
                        refine Kd.S_append_step (Kd.slice 3 (Kd.int .i64)) (w0 := w) w.heap.size (by rfl) (.tmp 70) (.tmp 74) 22 33 (.slice none 0 0) 24 rfl Try.underlying22 info33 rfl (by decide) (by omega) u200000 x200000_1 t218 [.slice Ao84 t218.length co84] (fun k_ => some k_ ≠ (.slice Ao81 t201.length co81 : Value).ownBlock) (fun k_ => some k_ = (.slice Ao84 t218.length co84 : Value).ownBlock) rfl rfl ?aP (fun k_ hk_ => ((Kd.R_mono (ok' := fun k_ => ((fun k_ => some k_ ≠ (.slice Ao81 t201.length co81 : Value).ownBlock)) k_ ∧ some k_ ≠ (u200000 : Value).ownBlock) (Kd.R_apart' (HO220.out) (Kd.S_typed HO_200000.out) (by decide)) (fun k_ hk => ⟨hk.1.2, hk.2⟩))).1 k_ hk_.symm) ?aF ?aO ?aB ?aS ?aL ?_
                        (case aP => exact Kd.M_row (Kd.R_mono (Kd.R_tight rfl (Kd.R_mono (ok' := fun k_ => ((fun k_ => some k_ ≠ (.slice Ao81 t201.length co81 : Value).ownBlock)) k_ ∧ some k_ ≠ (u200000 : Value).ownBlock) (Kd.R_apart' (HO220.out) (Kd.S_typed HO_200000.out) (by decide)) (fun k_ hk => ⟨hk.1.2, hk.2⟩))) (fun _ h_ => h_)))
                        (case aB => exact (by repeat (first | (with_reducible first | exact HB.out | apply bA | apply bN | apply bD | refine below_set ?_ GE185.out | refine below_set ?_ GE186.out | refine below_set ?_ GE199.out) | exact HB.out)))
                        (case aF => exact (fun k_ hk => Kd.fresh' (Kd.R_lt (by (with_reducible repeat (first | apply Kd.R_alloc | apply Kd.R_drewN | apply Kd.R_drew)); exact HO203.out)) k_ hk))
                        (case aO => exact (by (with_reducible repeat (first | apply Kd.S_alloc | apply Kd.S_drewN | apply Kd.S_drew)); exact Kd.S_mono HO_200000.out (fun k_ hk => ⟨hk.1.2, fun e_ => hk.2 e_⟩)))
                        (case aS => exact (below_size (by repeat (first | (with_reducible first | exact HB.out | apply bA | apply bN | apply bD | refine below_set ?_ GE185.out | refine below_set ?_ GE186.out | refine below_set ?_ GE199.out) | exact HB.out))))
                        (case aL => have := LMc78.out; omega)
                        intro v222 w83 ho hb hg hat
                        rw [← Ny221.out] at ho
                        have n0_ := Aside0.mk (blk_grown (g := gb185) (o := .cells #[.slice (some ad188) l0_0.length c0_0] 27 (0, 0)) (by (with_reducible repeat (first | apply qN | apply qD | apply qA)); exact BK185.out) hg (Kd.S_ne HO_200000.out BK185.out (by decide)))
                        have n1_ := Aside0.mk (blk_grown (g := gb186) (o := .cells #[.slice none 0 0] 27 (0, 0)) (by (with_reducible repeat (first | apply qN | apply qD | apply qA)); exact BK186.out) hg (Kd.S_ne HO_200000.out BK186.out (by decide)))
                        have n2_ := Aside0.mk (blk_grown (g := gb199) (o := .cells #[u200000] 27 (0, 0)) (by (with_reducible repeat (first | apply qN | apply qD | apply qA)); exact BK199.out) hg (Kd.S_ne HO_200000.out BK199.out (by decide)))
                        have n3_ := Aside0.mk (Kd.R_over' (by (with_reducible repeat (first | apply Kd.R_alloc | apply Kd.R_drewN | apply Kd.R_drew)); exact HO203.out) (Kd.S_typed (by (with_reducible repeat (first | apply Kd.S_alloc | apply Kd.S_drewN | apply Kd.S_drew)); exact HO_200000.out)) (by decide) hg)
                        have n4_ := Aside0.mk (hb)
                        have n5_ := Aside0.mk (ho)
                        clear BK185
                        clear BK186
                        clear BK199
                        clear HO203
                        clear HB
                        clear HO_200000
                        clear HO220
                        have BK185 := n0_
                        have BK186 := n1_
                        have BK199 := n2_
                        have HO203 := n3_
                        have HB := n4_
                        have HO223 := n5_
                        clear n0_ n1_ n2_ n3_ n4_ n5_
                        clear ho hb hg hat
                        obtain ⟨Ao85, co85, eo85⟩ := Kd.S_slice HO223.out
                        (first | subst eo85 | (injection eo85 with f1_ f2_ f3_; have f4_ := f1_.symm; have f5_ := f3_.symm; clear f1_ f2_ f3_; subst f4_; subst f5_))
                        refine hK.out _ _ ((blk_cell BK199.out 0).trans rfl) (fun hHeld => ?_)
                        clear hK K
                        refine norm_ (a' := ?_) ?_ ?_
                        rotate_left
                        · show Act.put _ (some 75) _ = _
                          simp only [Act.put, List.setIfInBounds_toArray, List.set_cons_zero, List.set_cons_succ, i64_w, i32_w]
                          rfl
                        refine pure_ (i := 7) (N := some 76) (v := ?_) (a' := ?_) #[true, true, true, true, true, true, true, true, false] rfl rfl (any_of HT_.out (by kernel_rfl)) (fun _ _ _ h => h) (Or.inl ⟨by rfl, ?_⟩) ?_ ?_
                        rotate_left
                        · intro w'
                          go_simp
                          with_reducible rfl
                        rotate_left
                        · simp only [Act.put, List.setIfInBounds_toArray, List.set_cons_zero, List.set_cons_succ, i64_w, i32_w]
                          rfl
                        refine last_ (i := 8) (N := none) #[true, true, true, true, true, true, true, true, true] rfl rfl (one_of HT_.out (by kernel_rfl)) (by decide) (fun K hK => ?_)
                        have hs86 : w83.cell? ⟨gb199, 0, none⟩ = some (u200000) := (blk_cell BK199.out 0).trans rfl
                        have hfs86 := blk_frozen BK199.out 0
                        have hns86_0 := NB185_199.out
                        have hns86_1 := NB186_199.out
                        have hms86_0 := NB199_185.out
                        have hms86_1 := NB199_186.out
                        refine skip_ (w1 := ?_) (by rfl) rfl ?_ ?_
                        rotate_left
                        · go_simp
                          rfl
                        refine hK.out _ _ ?_
                        clear hK K
                        refine done_ (done_of HT_.out (by kernel_rfl)) ?_
                        try go_wp2
                        go_roundg k1
                        case measure => have := HK1.out; omega
                        case rel => exact ⟨(wrap64 (x42_1 + 1)), (y221), (.slice Ao85 y221.length co85), (by first | rfl | (simp; done) | (simp [*]; done)), H', ⟨by have := HK1.out; omega⟩, ⟨by (with_reducible repeat (first | apply Kd.S_alloc | apply Kd.S_drewN | apply Kd.S_drew)); exact Kd.S_mono (Kd.S_far (p := ⟨gb199, 0, none⟩) (Kd.S_types HO223.out BK199.out (by decide)) (fun _ hk => hk.2) (.slice Ao85 y221.length co85)) (fun _ hk => trivial)⟩, ⟨by (with_reducible repeat (first | apply qN | apply qD | apply qA)); refine blk_far ?_ NB185_199.out _; (with_reducible repeat (first | apply qN | apply qD | apply qA)); exact BK185.out⟩, ⟨by (with_reducible repeat (first | apply qN | apply qD | apply qA)); refine blk_far ?_ NB186_199.out _; (with_reducible repeat (first | apply qN | apply qD | apply qA)); exact BK186.out⟩, ⟨by (with_reducible repeat (first | apply qN | apply qD | apply qA)); refine blk_put (cs := #[u200000]) ?_ 0 _ rfl; (with_reducible repeat (first | apply qN | apply qD | apply qA)); exact BK199.out⟩, ⟨by repeat (first | (with_reducible first | exact HB.out | apply bA | apply bN | apply bD | refine below_set ?_ GE185.out | refine below_set ?_ GE186.out | refine below_set ?_ GE199.out) | exact HB.out)⟩⟩
                      · rw [if_neg c78] at H
                        exact absurd H (by simp)
                · rw [if_neg c44] at H
                  exact absurd H (by simp)
              · rw [if_neg c43] at H
                exact absurd H (by simp)
            · rw [if_neg c42] at H
              have c42b0 : decide (x42_1 < (l0_0.length : Int)) = false := decide_eq_false c42
              clear c42
              simp only [Option.some.injEq, Prod.mk.injEq] at H
              obtain ⟨rfl, rfl⟩ := H
              have hnb87 := NB199_185.out
              have hnc87 := NB185_199.out
              have hnb88 := NB199_186.out
              have hnc88 := NB186_199.out
              have hcz89_0 : wr.cell? ⟨gb199, 0, none⟩ = some (u200000) := (blk_cell BK199.out 0).trans rfl
              have hfz89_0 := blk_frozen BK199.out 0
              obtain ⟨Ao90, co90, eo90⟩ := Kd.S_slice HO_200000.out
              subst eo90
              have hnb91 := NB186_185.out
              have hnc91 := NB185_186.out
              have hcz92_0 : wr.cell? ⟨gb186, 0, none⟩ = some (.slice none 0 0) := (blk_cell BK186.out 0).trans rfl
              have hfz92_0 := blk_frozen BK186.out 0
              go_wp2
              refine bodyPost_ret (results_ct rfl _ _ gb186 27 #[.slice Ao90 x200000_1.length co90] (0, 0) _ rfl (by (with_reducible repeat (first | apply qN | apply qD | apply qA)); refine blk_put (cs := #[.slice none 0 0]) ?_ 0 _ rfl; (with_reducible repeat (first | apply qN | apply qD | apply qA)); exact BK186.out) Try.underlying27 rfl (by kernel_rfl)) rfl ?_
              exact ⟨_, by first | rfl | (simp [errW_none, errW_some] <;> rfl) | (simp [*, errW_none, errW_some] <;> rfl), by (with_reducible repeat (first | apply Kd.S_alloc | apply Kd.S_drewN | apply Kd.S_drew)); exact Kd.S_mono (Kd.S_far (p := ⟨gb186, 0, none⟩) (Kd.S_types HO_200000.out BK186.out (by decide)) (fun _ hk => hk.2) (.slice Ao90 x200000_1.length co90)) (fun _ hk => trivial), by repeat (first | (with_reducible first | exact HB.out | apply bA | apply bN | apply bD | refine below_set ?_ GE185.out | refine below_set ?_ GE186.out | refine below_set ?_ GE199.out) | exact HB.out)⟩
    · rw [if_neg c4] at H
      exact absurd H (by simp)
  · rw [if_neg c3] at H
    exact absurd H (by simp)

end Go.Proofs.Ytdphjpjimooddaa.Ax
