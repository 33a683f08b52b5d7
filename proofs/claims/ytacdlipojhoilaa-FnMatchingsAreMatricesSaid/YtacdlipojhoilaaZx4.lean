-- Written by hook.py, a program of this session (wip/), which runs the kit's print.py with its own parts; Lean checks it.
import Derived.Test.YtacdlipojhoilaaZx0
import Derived.Test.YtacdlipojhoilaaZx2
import Derived.Test.YtacdlipojhoilaaZx3
import Derived.Test.YtacdlipojhoilaaZxXSq
namespace Go.Proofs.Ytacdlipojhoilaa.Zx
open Go.RowKit Go.Proofs.YtacdlipojhoilaaW.PrintWords Go.Proofs.YtacdlipojhoilaaW.PrintLast Go.Proofs.YtacdlipojhoilaaW.PrintMore Go.Proofs.Ytacdlipojhoilaa.Sq
attribute [local go_sem] max2_int min2_int max_two min_two max_three min_three max_four min_four   -- for this text's walks alone
set_option linter.unusedVariables false
set_option linter.unusedSimpArgs false

mutual
def impl_matrixOfMatching.l0 : Nat → List Int → List Int → Int → Int → Int → Option ((List (List Int)))
 | 0, _, _, _, _, _ => none
 | k + 1, x0, x3, x4, x11, x12 => if x12 < x11 then ((impl_isOpener.f x0 x12).bind fun t128 => (if t128 = true then (if x12 = 0 then (if x3.length < 17592186044416 then (impl_matrixOfMatching.l0 k x0 (x3 ++ [wrap64 (x4 + 1)]) (wrap64 (x4 + 1)) x11 (wrap64 (x12 + 1))) else (none)) else ((impl_isOpener.f x0 (wrap64 (x12 - 1))).bind fun t132 => (if t132 = true then (if x3.length < 17592186044416 then (impl_matrixOfMatching.l0 k x0 (x3 ++ [x4]) x4 x11 (wrap64 (x12 + 1))) else (none)) else (if x3.length < 17592186044416 then (impl_matrixOfMatching.l0 k x0 (x3 ++ [wrap64 (x4 + 1)]) (wrap64 (x4 + 1)) x11 (wrap64 (x12 + 1))) else (none))))) else (if x3.length < 17592186044416 then (impl_matrixOfMatching.l0 k x0 (x3 ++ [x4]) x4 x11 (wrap64 (x12 + 1))) else (none)))) else ((impl_ofSize.f k (wrap64 (x4 + 1))).bind fun t142 => ((impl_arcs.f k x0).bind fun t146 => (impl_matrixOfMatching.l1 k x3 t146 (t146.length : Int) 0 t142)))
def impl_matrixOfMatching.l1 : Nat → List Int → List (S62) → Int → Int → List (List Int) → Option ((List (List Int)))
 | 0, _, _, _, _, _ => none
 | k + 1, x3, x40, x41, x42, x146000 => if x42 < x41 then (if 0 ≤ x42 then (if x42 < (x40.length : Int) then (if 0 ≤ ((rd_T62 x40 x42).f0) then (if ((rd_T62 x40 x42).f0) < (x3.length : Int) then (if 0 ≤ (rd x3 ((rd_T62 x40 x42).f0)) then (if (rd x3 ((rd_T62 x40 x42).f0)) < (x146000.length : Int) then (if 0 ≤ ((rd_T62 x40 x42).f1) then (if ((rd_T62 x40 x42).f1) < (x3.length : Int) then (if 0 ≤ (rd x3 ((rd_T62 x40 x42).f1)) then (if (rd x3 ((rd_T62 x40 x42).f1)) < ((rd_L2 x146000 (rd x3 ((rd_T62 x40 x42).f0))).length : Int) then (impl_matrixOfMatching.l1 k x3 x40 x41 (wrap64 (x42 + 1)) (x146000.set ((rd x3 ((rd_T62 x40 x42).f0)) : Int).toNat ((rd_L2 x146000 (rd x3 ((rd_T62 x40 x42).f0))).set ((rd x3 ((rd_T62 x40 x42).f1)) : Int).toNat (wrap64 ((rd (rd_L2 x146000 (rd x3 ((rd_T62 x40 x42).f0))) (rd x3 ((rd_T62 x40 x42).f1))) + 1))))) else (none)) else (none)) else (none)) else (none)) else (none)) else (none)) else (none)) else (none)) else (none)) else (none)) else (some x146000)
end
def impl_matrixOfMatching.f (k : Nat) (l0 : List Int) : Option ((List (List Int))) := impl_matrixOfMatching.l0 k l0 (([] : List Int)) (-1) (l0.length : Int) 0
theorem impl_matrixOfMatching.mono_l : ∀ k, (∀ y0 y1 y2 y3 y4, LeO (impl_matrixOfMatching.l0 k y0 y1 y2 y3 y4) (impl_matrixOfMatching.l0 (k + 1) y0 y1 y2 y3 y4)) ∧ (∀ y0 y1 y2 y3 y4, LeO (impl_matrixOfMatching.l1 k y0 y1 y2 y3 y4) (impl_matrixOfMatching.l1 (k + 1) y0 y1 y2 y3 y4))
 | 0 => ⟨fun _ _ _ _ _ r h => by simp [impl_matrixOfMatching.l0] at h, fun _ _ _ _ _ r h => by simp [impl_matrixOfMatching.l1] at h⟩
 | k + 1 => by
  obtain ⟨ih0, ih1⟩ := impl_matrixOfMatching.mono_l k
  refine ⟨?_, ?_⟩
  ·intro y0 y1 y2 y3 y4
   unfold impl_matrixOfMatching.l0
   repeat' first | with_reducible first | exact ih0 _ _ _ _ _ | exact ih1 _ _ _ _ _ | exact impl_arcs.mono _ _ | exact impl_ofSize.mono _ _ | exact LeO.refl _ | exact LeO.none _ | refine LeO.ite ?_ ?_ | refine LeO.bind ?_ (fun _ => ?_)
  ·intro y0 y1 y2 y3 y4
   unfold impl_matrixOfMatching.l1
   repeat' first | with_reducible first | exact ih0 _ _ _ _ _ | exact ih1 _ _ _ _ _ | exact impl_arcs.mono _ _ | exact impl_ofSize.mono _ _ | exact LeO.refl _ | exact LeO.none _ | refine LeO.ite ?_ ?_ | refine LeO.bind ?_ (fun _ => ?_)
theorem impl_matrixOfMatching.mono : ∀ a0 k, LeO (impl_matrixOfMatching.f k a0) (impl_matrixOfMatching.f (k + 1) a0) := by
 intro a0 k
 obtain ⟨ih0, ih1⟩ := impl_matrixOfMatching.mono_l k
 unfold impl_matrixOfMatching.f
 repeat' first | with_reducible first | exact ih0 _ _ _ _ _ | exact ih1 _ _ _ _ _ | exact impl_arcs.mono _ _ | exact impl_ofSize.mono _ _ | exact LeO.refl _ | exact LeO.none _ | refine LeO.ite ?_ ?_ | refine LeO.bind ?_ (fun _ => ?_)
def impl_matrixOfMatching.T13 : Bool × List (List Nat × List Nat) := (true, [([], []), ([0], [0]), ([], []), ([], []), ([3], [3]), ([2, 4], [2, 4]), ([5], [5]), ([1, 6], [1, 6]), ([7], [7]), ([], []), ([], []), ([10], [10]), ([9, 11], [9, 11]), ([12], [12]), ([8, 13], [8, 13]), ([14], [14]), ([15], [15]), ([8, 13, 0, 1, 2, 3, 4, 5, 6, 7, 8, 9, 10, 11, 12, 13, 14, 15, 16], [8, 13]), ([17, 16, 0, 1, 2, 3, 4, 5, 6, 7, 8, 9, 10, 11, 12, 13, 14, 15, 16], [16, 17])])
def impl_matrixOfMatching.B13 : List Nat := [0, 1, 0, 0, 8, 28, 60, 127, 255, 0, 0, 1024, 3584, 7680, 16383, 32767, 65535, 131071, 262143]
theorem impl_matrixOfMatching.tab13 : rtab .any (opsOf Try.f79 13) = impl_matrixOfMatching.T13 := by kernel_rfl
theorem impl_matrixOfMatching.bits13 : waitsOk impl_matrixOfMatching.T13.2 impl_matrixOfMatching.B13 = true := by kernel_rfl
set_option maxHeartbeats 8000000 in
set_option maxRecDepth 100000 in
theorem impl_matrixOfMatching.calls (k : Nat) (A0 : Option Addr) (c0 : Nat) (l0 : List Int) (r : List (List Int)) (w : World) (hr0 : Kd.C (Kd.int .i64) w A0 l0.length l0) (hc0 : l0.length ≤ c0) (h : impl_matrixOfMatching.f k l0 = some r) :
  Calls Try.prog 79 #[.slice A0 l0.length c0] w fun e w' => ∃ v0_ : Value, e = .returned (.agg #[v0_]) ∧ Kd.S (Kd.slice 3 (Kd.int .i64)) 24 w' w.heap.size (fun _ => True) v0_ r ∧ Below w.heap.size w w' := by
 have hu36 := Try.underlying36
 have hu62 := Try.underlying62
 have HR0 := aM hr0
 have HC0 := aM hc0
 clear hr0 hc0
 have HB := aM (Below.refl w.heap.size w)
 have H : (impl_matrixOfMatching.l0 k l0 (([] : List Int)) (-1) (l0.length : Int) 0) = some r := h
 clear h
 obtain ⟨y125, hy125⟩ : ∃ y_ : List Int, y_ = (([] : List Int)) := ⟨_, rfl⟩
 replace H : (impl_matrixOfMatching.l0 k l0 y125 (-1) (l0.length : Int) 0) = some r := by first | (rw [hy125]; with_reducible exact H) | (have H2_ := (Option.bind_some _ _).symm.trans H; rw [hy125]; with_reducible exact H2_) | (have H2_ := (Option.bind_some _ _).symm.trans H; with_reducible exact H2_) | with_reducible exact H | (rw [hy125]; exact H) | exact H
 have Ny125 := aM hy125
 clear hy125
 have H' := aM H
 clear H
 go_enter Try.func79, Try.ntmps79
 go_wp2_with (first | ((with_reducible refine gate_dst (N := 2) rfl ?_); refine bE 2 36 #[.slice none 0 0] ?_; intro gb124 hg w2 hbox hb; have _ := aM (below_step bq hb); have _ := aM (hbox); have _ := aM ((gS hg)); have _ := aM ((gS hg)); clear HB; rename_i HB BK124 GW124 GE124; clear hb hbox hg) | ((with_reducible refine gate_dst (N := 9) rfl ?_); refine Kd.R_lit (Kd.int .i64) _ 3 ?hg (N := 9) ?hd (xs := ([] : List Int)) (inner := []) (ok := fun _ => True) (okp := fun _ => True) ?hr ?hp (fun _ hk => hk) trivial (Below.refl _ _) (Nat.le_refl _) (by simp) ?_; (case hd => rfl); (case hg => rfl); (case hr => first | (go_simp; done) | (go_simp; rfl)); (case hp => exact (Reps.none _ _)); intro v126 w3 ho4 hb hg_ hnew_; clear hg_ hnew_; (first | rw [← Ny125.out] at ho4 | (simp only [Int.reduceToNat] at ho4; rw [← Ny125.out] at ho4)); have _ := aM (Kd.R_lower ho4 (below_size bq)); have _ := aM (blk_below (g := gb124) (o := .cells #[.slice none 0 0] 36 (0, 0)) (qQ BK124) hb); have _ := aM (below_step bq hb); clear BK124 HB; rename_i HO127 BK124 HB; clear hb ho4))
 go_loopg [3, 4, 12] k (fun kq v3 v4 v12 w' => ∃ (x3_1 : List Int) (x4_1 : Int) (x12_1 : Int), v4 = .int .i64 x4_1 ∧ v12 = .int .i64 x12_1 ∧ Aside0 (impl_matrixOfMatching.l0 kq l0 x3_1 x4_1 (l0.length : Int) x12_1 = some r) ∧ Aside0 (kq ≤ k) ∧ Aside0 (Kd.R (Kd.int .i64) 3 w' w.heap.size (fun _ => True) v3 x3_1) ∧ Aside0 (w'.heap[gb124]? = some (.cells #[(.slice none 0 0)] 36 (0, 0))) ∧ Aside0 (Below w.heap.size w w'))
 case atStart => exact ⟨(y125), ((-1)), (0), (by first | rfl | (simp; done) | (simp [*]; done)), (by first | rfl | (simp; done) | (simp [*]; done)), H', ⟨Nat.le_refl _⟩, ⟨by (with_reducible repeat first|apply rA|apply rN|apply rD); exact HO127.out⟩, ⟨by (with_reducible repeat first|apply qN|apply qD|apply qA); exact BK124.out⟩, ⟨by exact bq⟩⟩
 case round =>
  clear H'
  try clear p2
  obtain ⟨x3_1, x4_1, x12_1, rfl, rfl, HA, HK1, HO_3, BK124, HB⟩ := hrel
  cases gk with
  | zero => exact absurd HA.out (by simp [impl_matrixOfMatching.l0])
  | succ k1 =>
   have H := HA.out
   clear HA
   simp only [impl_matrixOfMatching.l0] at H
   by_cases c5 : x12_1 < (l0.length : Int)
   ·rw [if_pos c5] at H
    have c5b0 : decide (x12_1 < (l0.length : Int)) = true := decide_eq_true c5
    clear c5
    replace H := Option.bind_eq_some_iff.mp H
    obtain ⟨t128, A60, H⟩ := H
    replace H : (if t128 = true then (if x12_1 = 0 then (if x3_1.length < 17592186044416 then (impl_matrixOfMatching.l0 k1 l0 (x3_1 ++ [wrap64 (x4_1 + 1)]) (wrap64 (x4_1 + 1)) (l0.length : Int) (wrap64 (x12_1 + 1))) else (none)) else ((impl_isOpener.f l0 (wrap64 (x12_1 - 1))).bind fun t132 => (if t132 = true then (if x3_1.length < 17592186044416 then (impl_matrixOfMatching.l0 k1 l0 (x3_1 ++ [x4_1]) x4_1 (l0.length : Int) (wrap64 (x12_1 + 1))) else (none)) else (if x3_1.length < 17592186044416 then (impl_matrixOfMatching.l0 k1 l0 (x3_1 ++ [wrap64 (x4_1 + 1)]) (wrap64 (x4_1 + 1)) (l0.length : Int) (wrap64 (x12_1 + 1))) else (none))))) else (if x3_1.length < 17592186044416 then (impl_matrixOfMatching.l0 k1 l0 (x3_1 ++ [x4_1]) x4_1 (l0.length : Int) (wrap64 (x12_1 + 1))) else (none))) = some r := H
    have A6 := aM A60
    clear A60
    by_cases c7 : t128 = true
    ·subst c7
     have H1 : (if x12_1 = 0 then (if x3_1.length < 17592186044416 then (impl_matrixOfMatching.l0 k1 l0 (x3_1 ++ [wrap64 (x4_1 + 1)]) (wrap64 (x4_1 + 1)) (l0.length : Int) (wrap64 (x12_1 + 1))) else (none)) else ((impl_isOpener.f l0 (wrap64 (x12_1 - 1))).bind fun t132 => (if t132 = true then (if x3_1.length < 17592186044416 then (impl_matrixOfMatching.l0 k1 l0 (x3_1 ++ [x4_1]) x4_1 (l0.length : Int) (wrap64 (x12_1 + 1))) else (none)) else (if x3_1.length < 17592186044416 then (impl_matrixOfMatching.l0 k1 l0 (x3_1 ++ [wrap64 (x4_1 + 1)]) (wrap64 (x4_1 + 1)) (l0.length : Int) (wrap64 (x12_1 + 1))) else (none))))) = some r := by rw [if_pos rfl] at H; exact H
     clear H
     have H := H1
     clear H1
     by_cases c8 : x12_1 = 0
     ·rw [if_pos c8] at H
      have c8b0 : (x12_1 == 0) = true := beq_iff_eq.mpr c8
      have c8b1 : (x12_1 != 0) = false := bne_eq_false_iff_eq.mpr c8
      clear c8
      by_cases c9 : x3_1.length < 17592186044416
      ·rw [if_pos c9] at H
       have LMc9 := aM c9
       clear c9
       obtain ⟨y129, hy129⟩ : ∃ y_ : List Int, y_ = (x3_1 ++ [wrap64 (x4_1 + 1)]) := ⟨_, rfl⟩
       replace H : (impl_matrixOfMatching.l0 k1 l0 y129 (wrap64 (x4_1 + 1)) (l0.length : Int) (wrap64 (x12_1 + 1))) = some r := by first | (rw [hy129]; with_reducible exact H) | (have H2_ := (Option.bind_some _ _).symm.trans H; rw [hy129]; with_reducible exact H2_) | (have H2_ := (Option.bind_some _ _).symm.trans H; with_reducible exact H2_) | with_reducible exact H | (rw [hy129]; exact H) | exact H
       have Ny129 := aM hy129
       clear hy129
       have H' := aM H
       clear H
       go_wp2_with (first | ((with_reducible refine gate_callee (f := 100) rfl ?_); refine gL (some 17) Try.func100 #[.slice A0 l0.length c0, .int .i64 x12_1] ?_; (with_reducible refine (impl_isOpener.calls _ _ l0 x12_1 true _ (cQ (Kd.C_below HR0.out HB.out)) HC0.out A6.out).mono ?_); rintro e w' ⟨rfl, ⟨nd, rfl⟩⟩; refine ⟨_, rfl, ?_⟩) | ((with_reducible refine gate_builtin (b := .append) (xs := #[.tmp 31, .tmp 33]) rfl ?_); at_builtin; refine Kd.R_append (Kd.int .i64) (w0 := w) w.heap.size rfl (.tmp 31) (.tmp 33) 24 3 (.int .i64 0) 8 rfl Try.underlying24 info3 rfl (by decide) (by omega) u3 x3_1 (wrap64 (x4_1 + 1)) [.int .i64 (wrap64 (x4_1 + 1))] (fun _ => True) (fun _ => False) rfl rfl ?aP (fun _ hk => hk.elim) ?aF ?aO ?aB ?aS ?aL ?_; (case aP => exact rfl); (case aB => exact bq); (case aF => exact (fun _ _ => trivial)); (case aO => exact (rQ HO_3)); (case aS => exact (below_size bq)); (case aL => have := LMc9.out; omega); intro v130 w10 ho hb hg hat; rw [← Ny129.out] at ho; have _ := aM (blk_grown (g := gb124) (o := .cells #[.slice none 0 0] 36 (0, 0)) (qQ BK124) hg (Kd.R_ne HO_3.out BK124.out (by decide))); have _ := aM (hb); have _ := aM (ho); clear BK124 HB HO_3; rename_i BK124 HB HO131; clear ho hb hg hat))
       go_roundg k1
       case measure => have := HK1.out; omega
       case rel => exact ⟨(y129), (wrap64 (x4_1 + 1)), (wrap64 (x12_1 + 1)), (by first | rfl | (simp; done) | (simp [*]; done)), (by first | rfl | (simp; done) | (simp [*]; done)), H', ⟨by have := HK1.out; omega⟩, ⟨by (with_reducible repeat first|apply rA|apply rN|apply rD); exact HO131.out⟩, ⟨by (with_reducible repeat first|apply qN|apply qD|apply qA); exact BK124.out⟩, ⟨by exact bq⟩⟩
      ·rw [if_neg c9] at H
       exact absurd H (by simp)
     ·rw [if_neg c8] at H
      have c8b0 : (x12_1 == 0) = false := beq_eq_false_iff_ne.mpr c8
      have c8b1 : (x12_1 != 0) = true := bne_iff_ne.mpr c8
      replace H := Option.bind_eq_some_iff.mp H
      obtain ⟨t132, A110, H⟩ := H
      replace H : (if t132 = true then (if x3_1.length < 17592186044416 then (impl_matrixOfMatching.l0 k1 l0 (x3_1 ++ [x4_1]) x4_1 (l0.length : Int) (wrap64 (x12_1 + 1))) else (none)) else (if x3_1.length < 17592186044416 then (impl_matrixOfMatching.l0 k1 l0 (x3_1 ++ [wrap64 (x4_1 + 1)]) (wrap64 (x4_1 + 1)) (l0.length : Int) (wrap64 (x12_1 + 1))) else (none))) = some r := H
      have A11 := aM A110
      clear A110
      by_cases c12 : t132 = true
      ·subst c12
       have H1 : (if x3_1.length < 17592186044416 then (impl_matrixOfMatching.l0 k1 l0 (x3_1 ++ [x4_1]) x4_1 (l0.length : Int) (wrap64 (x12_1 + 1))) else (none)) = some r := by rw [if_pos rfl] at H; exact H
       clear H
       have H := H1
       clear H1
       by_cases c13 : x3_1.length < 17592186044416
       ·rw [if_pos c13] at H
        have LMc13 := aM c13
        clear c13
        obtain ⟨y133, hy133⟩ : ∃ y_ : List Int, y_ = (x3_1 ++ [x4_1]) := ⟨_, rfl⟩
        replace H : (impl_matrixOfMatching.l0 k1 l0 y133 x4_1 (l0.length : Int) (wrap64 (x12_1 + 1))) = some r := by first | (rw [hy133]; with_reducible exact H) | (have H2_ := (Option.bind_some _ _).symm.trans H; rw [hy133]; with_reducible exact H2_) | (have H2_ := (Option.bind_some _ _).symm.trans H; with_reducible exact H2_) | with_reducible exact H | (rw [hy133]; exact H) | exact H
        have Ny133 := aM hy133
        clear hy133
        have H' := aM H
        clear H
        go_wp2_with (first | ((with_reducible refine gate_callee (f := 100) rfl ?_); refine gL (some 17) Try.func100 #[.slice A0 l0.length c0, .int .i64 x12_1] ?_; (with_reducible refine (impl_isOpener.calls _ _ l0 x12_1 true _ (cQ (Kd.C_below HR0.out HB.out)) HC0.out A6.out).mono ?_); rintro e w' ⟨rfl, ⟨nd, rfl⟩⟩; refine ⟨_, rfl, ?_⟩) | (go_at_call 100; (with_reducible refine (impl_isOpener.calls _ _ l0 (wrap64 (x12_1 - 1)) true _ (cQ (Kd.C_below HR0.out bq)) HC0.out A11.out).mono ?_); rintro e w' ⟨rfl, ⟨nd, rfl⟩⟩) | ((with_reducible refine gate_builtin (b := .append) (xs := #[.tmp 31, .tmp 33]) rfl ?_); at_builtin; refine Kd.R_append (Kd.int .i64) (w0 := w) w.heap.size rfl (.tmp 31) (.tmp 33) 24 3 (.int .i64 0) 8 rfl Try.underlying24 info3 rfl (by decide) (by omega) u3 x3_1 x4_1 [.int .i64 x4_1] (fun _ => True) (fun _ => False) rfl rfl ?aP (fun _ hk => hk.elim) ?aF ?aO ?aB ?aS ?aL ?_; (case aP => exact rfl); (case aB => exact bq); (case aF => exact (fun _ _ => trivial)); (case aO => exact (rQ HO_3)); (case aS => exact (below_size bq)); (case aL => have := LMc13.out; omega); intro v134 w14 ho hb hg hat; rw [← Ny133.out] at ho; have _ := aM (blk_grown (g := gb124) (o := .cells #[.slice none 0 0] 36 (0, 0)) (qQ BK124) hg (Kd.R_ne HO_3.out BK124.out (by decide))); have _ := aM (hb); have _ := aM (ho); clear BK124 HB HO_3; rename_i BK124 HB HO135; clear ho hb hg hat))
        go_roundg k1
        case measure => have := HK1.out; omega
        case rel => exact ⟨(y133), (x4_1), (wrap64 (x12_1 + 1)), (by first | rfl | (simp; done) | (simp [*]; done)), (by first | rfl | (simp; done) | (simp [*]; done)), H', ⟨by have := HK1.out; omega⟩, ⟨by (with_reducible repeat first|apply rA|apply rN|apply rD); exact HO135.out⟩, ⟨by (with_reducible repeat first|apply qN|apply qD|apply qA); exact BK124.out⟩, ⟨by exact bq⟩⟩
       ·rw [if_neg c13] at H
        exact absurd H (by simp)
      ·replace c12 := Bool.eq_false_iff.mpr c12
       subst c12
       have H1 : (if x3_1.length < 17592186044416 then (impl_matrixOfMatching.l0 k1 l0 (x3_1 ++ [wrap64 (x4_1 + 1)]) (wrap64 (x4_1 + 1)) (l0.length : Int) (wrap64 (x12_1 + 1))) else (none)) = some r := by rw [if_neg (show ¬ (false = true) by decide)] at H; exact H
       clear H
       have H := H1
       clear H1
       by_cases c15 : x3_1.length < 17592186044416
       ·rw [if_pos c15] at H
        have LMc15 := aM c15
        clear c15
        obtain ⟨y136, hy136⟩ : ∃ y_ : List Int, y_ = (x3_1 ++ [wrap64 (x4_1 + 1)]) := ⟨_, rfl⟩
        replace H : (impl_matrixOfMatching.l0 k1 l0 y136 (wrap64 (x4_1 + 1)) (l0.length : Int) (wrap64 (x12_1 + 1))) = some r := by first | (rw [hy136]; with_reducible exact H) | (have H2_ := (Option.bind_some _ _).symm.trans H; rw [hy136]; with_reducible exact H2_) | (have H2_ := (Option.bind_some _ _).symm.trans H; with_reducible exact H2_) | with_reducible exact H | (rw [hy136]; exact H) | exact H
        have Ny136 := aM hy136
        clear hy136
        have H' := aM H
        clear H
        go_wp2_with (first | ((with_reducible refine gate_callee (f := 100) rfl ?_); refine gL (some 17) Try.func100 #[.slice A0 l0.length c0, .int .i64 x12_1] ?_; (with_reducible refine (impl_isOpener.calls _ _ l0 x12_1 true _ (cQ (Kd.C_below HR0.out HB.out)) HC0.out A6.out).mono ?_); rintro e w' ⟨rfl, ⟨nd, rfl⟩⟩; refine ⟨_, rfl, ?_⟩) | (go_at_call 100; (with_reducible refine (impl_isOpener.calls _ _ l0 (wrap64 (x12_1 - 1)) false _ (cQ (Kd.C_below HR0.out bq)) HC0.out A11.out).mono ?_); rintro e w' ⟨rfl, ⟨nd, rfl⟩⟩) | ((with_reducible refine gate_builtin (b := .append) (xs := #[.tmp 31, .tmp 33]) rfl ?_); at_builtin; refine Kd.R_append (Kd.int .i64) (w0 := w) w.heap.size rfl (.tmp 31) (.tmp 33) 24 3 (.int .i64 0) 8 rfl Try.underlying24 info3 rfl (by decide) (by omega) u3 x3_1 (wrap64 (x4_1 + 1)) [.int .i64 (wrap64 (x4_1 + 1))] (fun _ => True) (fun _ => False) rfl rfl ?aP (fun _ hk => hk.elim) ?aF ?aO ?aB ?aS ?aL ?_; (case aP => exact rfl); (case aB => exact bq); (case aF => exact (fun _ _ => trivial)); (case aO => exact (rQ HO_3)); (case aS => exact (below_size bq)); (case aL => have := LMc15.out; omega); intro v137 w16 ho hb hg hat; rw [← Ny136.out] at ho; have _ := aM (blk_grown (g := gb124) (o := .cells #[.slice none 0 0] 36 (0, 0)) (qQ BK124) hg (Kd.R_ne HO_3.out BK124.out (by decide))); have _ := aM (hb); have _ := aM (ho); clear BK124 HB HO_3; rename_i BK124 HB HO138; clear ho hb hg hat))
        go_roundg k1
        case measure => have := HK1.out; omega
        case rel => exact ⟨(y136), (wrap64 (x4_1 + 1)), (wrap64 (x12_1 + 1)), (by first | rfl | (simp; done) | (simp [*]; done)), (by first | rfl | (simp; done) | (simp [*]; done)), H', ⟨by have := HK1.out; omega⟩, ⟨by (with_reducible repeat first|apply rA|apply rN|apply rD); exact HO138.out⟩, ⟨by (with_reducible repeat first|apply qN|apply qD|apply qA); exact BK124.out⟩, ⟨by exact bq⟩⟩
       ·rw [if_neg c15] at H
        exact absurd H (by simp)
    ·replace c7 := Bool.eq_false_iff.mpr c7
     subst c7
     have H1 : (if x3_1.length < 17592186044416 then (impl_matrixOfMatching.l0 k1 l0 (x3_1 ++ [x4_1]) x4_1 (l0.length : Int) (wrap64 (x12_1 + 1))) else (none)) = some r := by rw [if_neg (show ¬ (false = true) by decide)] at H; exact H
     clear H
     have H := H1
     clear H1
     by_cases c17 : x3_1.length < 17592186044416
     ·rw [if_pos c17] at H
      have LMc17 := aM c17
      clear c17
      obtain ⟨y139, hy139⟩ : ∃ y_ : List Int, y_ = (x3_1 ++ [x4_1]) := ⟨_, rfl⟩
      replace H : (impl_matrixOfMatching.l0 k1 l0 y139 x4_1 (l0.length : Int) (wrap64 (x12_1 + 1))) = some r := by first | (rw [hy139]; with_reducible exact H) | (have H2_ := (Option.bind_some _ _).symm.trans H; rw [hy139]; with_reducible exact H2_) | (have H2_ := (Option.bind_some _ _).symm.trans H; with_reducible exact H2_) | with_reducible exact H | (rw [hy139]; exact H) | exact H
      have Ny139 := aM hy139
      clear hy139
      have H' := aM H
      clear H
      go_wp2_with (first | ((with_reducible refine gate_callee (f := 100) rfl ?_); refine gL (some 17) Try.func100 #[.slice A0 l0.length c0, .int .i64 x12_1] ?_; (with_reducible refine (impl_isOpener.calls _ _ l0 x12_1 false _ (cQ (Kd.C_below HR0.out HB.out)) HC0.out A6.out).mono ?_); rintro e w' ⟨rfl, ⟨nd, rfl⟩⟩; refine ⟨_, rfl, ?_⟩) | ((with_reducible refine gate_builtin (b := .append) (xs := #[.tmp 31, .tmp 33]) rfl ?_); at_builtin; refine Kd.R_append (Kd.int .i64) (w0 := w) w.heap.size rfl (.tmp 31) (.tmp 33) 24 3 (.int .i64 0) 8 rfl Try.underlying24 info3 rfl (by decide) (by omega) u3 x3_1 x4_1 [.int .i64 x4_1] (fun _ => True) (fun _ => False) rfl rfl ?aP (fun _ hk => hk.elim) ?aF ?aO ?aB ?aS ?aL ?_; (case aP => exact rfl); (case aB => exact bq); (case aF => exact (fun _ _ => trivial)); (case aO => exact (rQ HO_3)); (case aS => exact (below_size bq)); (case aL => have := LMc17.out; omega); intro v140 w18 ho hb hg hat; rw [← Ny139.out] at ho; have _ := aM (blk_grown (g := gb124) (o := .cells #[.slice none 0 0] 36 (0, 0)) (qQ BK124) hg (Kd.R_ne HO_3.out BK124.out (by decide))); have _ := aM (hb); have _ := aM (ho); clear BK124 HB HO_3; rename_i BK124 HB HO141; clear ho hb hg hat))
      go_roundg k1
      case measure => have := HK1.out; omega
      case rel => exact ⟨(y139), (x4_1), (wrap64 (x12_1 + 1)), (by first | rfl | (simp; done) | (simp [*]; done)), (by first | rfl | (simp; done) | (simp [*]; done)), H', ⟨by have := HK1.out; omega⟩, ⟨by (with_reducible repeat first|apply rA|apply rN|apply rD); exact HO141.out⟩, ⟨by (with_reducible repeat first|apply qN|apply qD|apply qA); exact BK124.out⟩, ⟨by exact bq⟩⟩
     ·rw [if_neg c17] at H
      exact absurd H (by simp)
   ·rw [if_neg c5] at H
    have c5b0 : decide (x12_1 < (l0.length : Int)) = false := decide_eq_false c5
    clear c5
    replace H := Option.bind_eq_some_iff.mp H
    obtain ⟨t142, A190, H⟩ := H
    replace H : ((impl_arcs.f k1 l0).bind fun t146 => (impl_matrixOfMatching.l1 k1 x3_1 t146 (t146.length : Int) 0 t142)) = some r := H
    have A19 := aM A190
    clear A190
    replace H := Option.bind_eq_some_iff.mp H
    obtain ⟨t146, A200, H⟩ := H
    replace H : (impl_matrixOfMatching.l1 k1 x3_1 t146 (t146.length : Int) 0 t142) = some r := H
    have A20 := aM A200
    clear A200
    have H' := aM H
    clear H
    go_wp2_with (first | ((with_reducible refine gate_callee (f := 101) rfl ?_); refine gL (some 38) Try.func101 #[.int .i64 (wrap64 (x4_1 + 1))] ?_; (with_reducible refine (impl_ofSize.calls k1 (wrap64 (x4_1 + 1)) t142 _ A19.out).mono ?_); rintro e w21 ⟨v143, rfl, ho0, hb⟩; refine ⟨_, rfl, ?_⟩; have _ := aM (Kd.R_below (rQ HO_3) hb); have _ := aM (Kd.S_lower (Kd.S_new' ho0 (Kd.R_lt (rQ HO_3))) (below_size bq)); have _ := aM (blk_below (g := gb124) (o := .cells #[.slice none 0 0] 36 (0, 0)) (qQ BK124) hb); have _ := aM (below_step bq hb); clear HO_3 BK124 HB; rename_i HO_3 HO144 BK124 HB; (try clear hb); (try clear hb2); (try clear hk); (try clear hi); (try clear ho0)) | ((with_reducible refine gate_dst (N := 6) rfl ?_); refine bE 6 36 #[.slice none 0 0] ?_; intro gb145 hg w22 hbox hb; have _ := aM (Kd.R_below (rQ HO_3) hb); have _ := aM (Kd.S_below (sQ HO144) hb); have _ := aM (blk_below (g := gb124) (o := .cells #[.slice none 0 0] 36 (0, 0)) (qQ BK124) hb); have _ := aM (below_step bq hb); have _ := aM (hbox); have _ := aM ((gS hg)); have _ := aM ((gS hg)); have _ := aM ((by rw [hg]; exact Nat.ne_of_lt (blk_lt (g := gb124) (o := .cells #[.slice none 0 0] 36 (0, 0)) (qQ BK124)) : gb124 ≠ gb145)); have _ := aM ((by rw [hg]; exact Nat.ne_of_gt (blk_lt (g := gb124) (o := .cells #[.slice none 0 0] 36 (0, 0)) (qQ BK124)) : gb145 ≠ gb124)); clear HO_3 HO144 BK124 HB; rename_i HO_3 HO144 BK124 HB BK145 GW145 GE145 NB124_145 NB145_124; clear hb hbox hg; obtain ⟨Ao23, co23, eo23⟩ := Kd.S_slice HO144.out; subst eo23; have hnb24 := NB145_124.out; have hnc24 := NB124_145.out; have hcz25_0 : w22.cell? ⟨gb145, 0, none⟩ = some (.slice none 0 0) := (blk_cell BK145.out 0).trans rfl; have hfz25_0 := blk_frozen BK145.out 0) | ((with_reducible refine gate_callee (f := 129) rfl ?_); refine gL (some 40) Try.func129 #[.slice A0 l0.length c0] ?_; (with_reducible refine (impl_arcs.calls k1 _ _ l0 t146 _ ?side1 ?side2 A20.out).mono ?_); (case side1 => exact Kd.C_below HR0.out bq); (case side2 => exact HC0.out); rintro e w26 ⟨v147, rfl, ho0, hb⟩; refine ⟨_, rfl, ?_⟩; have _ := aM (Kd.R_below (by (with_reducible repeat first|apply rA|apply rN|apply rD); exact (Kd.R_mono (Kd.R_far (p := ⟨gb145, 0, none⟩) (Kd.R_types HO_3.out BK145.out (by decide)) (fun _ hk => hk.2) (.slice Ao23 t142.length co23)) (fun _ h_ => h_.1))) hb); have _ := aM (Kd.S_below (by (with_reducible repeat first|apply sA|apply sN|apply sD); exact (Kd.S_mono (Kd.S_far (p := ⟨gb145, 0, none⟩) (Kd.S_types HO144.out BK145.out (by decide)) (fun _ hk => hk.2) (.slice Ao23 t142.length co23)) (fun _ h_ => h_.1))) hb); have _ := aM (Kd.R_lower ho0 (below_size bq)); have _ := aM (blk_below (g := gb124) (o := .cells #[.slice none 0 0] 36 (0, 0)) (by (with_reducible repeat first|apply qN|apply qD|apply qA); refine blk_far ?_ NB124_145.out _; (with_reducible repeat first|apply qN|apply qD|apply qA); exact BK124.out) hb); have _ := aM (blk_below (g := gb145) (o := .cells #[.slice Ao23 t142.length co23] 36 (0, 0)) (by (with_reducible repeat first|apply qN|apply qD|apply qA); refine blk_put (cs := #[.slice none 0 0]) ?_ 0 _ rfl; (with_reducible repeat first|apply qN|apply qD|apply qA); exact BK145.out) hb); have _ := aM (below_step bq hb); clear HO_3 HO144 BK124 BK145 HB; rename_i HO_3 HO144 HO148 BK124 BK145 HB; (try clear hb); (try clear hb2); (try clear hk); (try clear hi); (try clear ho0); obtain ⟨Ao27, co27, eo27⟩ := Kd.R_slice HO148.out; subst eo27))
    go_loopg [42] k1 (fun kq v42 w' => ∃ (x3_2 : List Int) (x42_2 : Int) (x146000_2 : List (List Int)) (u146000 : Value), v42 = .int .i64 x42_2 ∧ Aside0 (impl_matrixOfMatching.l1 kq x3_2 t146 (t146.length : Int) x42_2 x146000_2 = some r) ∧ Aside0 (kq ≤ k1) ∧ Aside0 (Kd.R (Kd.int .i64) 3 w' w.heap.size (fun _ => True) u3 x3_2) ∧ Aside0 (Kd.R k62 62 w' w.heap.size (fun _ => True) (.slice Ao27 t146.length co27) t146) ∧ Aside0 (Kd.S (Kd.slice 3 (Kd.int .i64)) 24 w' w.heap.size (fun k_ => some k_ ≠ (u3 : Value).ownBlock) u146000 x146000_2) ∧ Aside0 (w'.heap[gb124]? = some (.cells #[(.slice none 0 0)] 36 (0, 0))) ∧ Aside0 (w'.heap[gb145]? = some (.cells #[u146000] 36 (0, 0))) ∧ Aside0 (Below w.heap.size w w'))
    case atStart => exact ⟨(x3_1), (0), (t142), (.slice Ao23 t142.length co23), (by first | rfl | (simp; done) | (simp [*]; done)), H', ⟨Nat.le_refl _⟩, ⟨by (with_reducible repeat first|apply rA|apply rN|apply rD); exact HO_3.out⟩, ⟨by (with_reducible repeat first|apply rA|apply rN|apply rD); exact HO148.out⟩, ⟨by (with_reducible repeat first|apply sA|apply sN|apply sD); exact Kd.S_mono HO144.out (fun _ hk => hk.2)⟩, ⟨by (with_reducible repeat first|apply qN|apply qD|apply qA); exact BK124.out⟩, ⟨by (with_reducible repeat first|apply qN|apply qD|apply qA); exact BK145.out⟩, ⟨by exact bq⟩⟩
    case round =>
     clear H'
     try clear c1
     try clear c2
     try clear p2
     try clear c5
     try clear c5b0
     try clear p6
     try clear c7
     try clear c8
     try clear c8b0
     try clear c8b1
     try clear c9
     try clear c10
     try clear c12
     try clear c13
     try clear c15
     try clear c17
     try clear c24
     try clear hcz25_0
     try clear hfz25_0
     try clear p2
     obtain ⟨x3_2, x42_2, x146000_2, u146000, rfl, HA, HK2, HO_3, HO_40, HO_146000, BK124, BK145, HB⟩ := hrel
     cases gk with
     | zero => exact absurd HA.out (by simp [impl_matrixOfMatching.l1])
     | succ k2 =>
      have H := HA.out
      clear HA
      simp only [impl_matrixOfMatching.l1] at H
      by_cases c28 : x42_2 < (t146.length : Int)
      ·rw [if_pos c28] at H
       have c28b0 : decide (x42_2 < (t146.length : Int)) = true := decide_eq_true c28
       clear c28
       by_cases c29 : 0 ≤ x42_2
       ·rw [if_pos c29] at H
        have c29b0 : decide (0 ≤ x42_2) = true := decide_eq_true c29
        clear c29
        by_cases c30 : x42_2 < (t146.length : Int)
        ·rw [if_pos c30] at H
         have c30b0 : decide (x42_2 < (t146.length : Int)) = true := decide_eq_true c30
         clear c30
         by_cases c31 : 0 ≤ ((rd_T62 t146 x42_2).f0)
         ·rw [if_pos c31] at H
          have c31b0 : decide (0 ≤ ((rd_T62 t146 x42_2).f0)) = true := decide_eq_true c31
          clear c31
          by_cases c32 : ((rd_T62 t146 x42_2).f0) < (x3_2.length : Int)
          ·rw [if_pos c32] at H
           have c32b0 : decide (((rd_T62 t146 x42_2).f0) < (x3_2.length : Int)) = true := decide_eq_true c32
           clear c32
           by_cases c33 : 0 ≤ (rd x3_2 ((rd_T62 t146 x42_2).f0))
           ·rw [if_pos c33] at H
            have c33b0 : decide (0 ≤ (rd x3_2 ((rd_T62 t146 x42_2).f0))) = true := decide_eq_true c33
            clear c33
            by_cases c34 : (rd x3_2 ((rd_T62 t146 x42_2).f0)) < (x146000_2.length : Int)
            ·rw [if_pos c34] at H
             have c34b0 : decide ((rd x3_2 ((rd_T62 t146 x42_2).f0)) < (x146000_2.length : Int)) = true := decide_eq_true c34
             clear c34
             by_cases c35 : 0 ≤ ((rd_T62 t146 x42_2).f1)
             ·rw [if_pos c35] at H
              have c35b0 : decide (0 ≤ ((rd_T62 t146 x42_2).f1)) = true := decide_eq_true c35
              clear c35
              by_cases c36 : ((rd_T62 t146 x42_2).f1) < (x3_2.length : Int)
              ·rw [if_pos c36] at H
               have c36b0 : decide (((rd_T62 t146 x42_2).f1) < (x3_2.length : Int)) = true := decide_eq_true c36
               clear c36
               by_cases c37 : 0 ≤ (rd x3_2 ((rd_T62 t146 x42_2).f1))
               ·rw [if_pos c37] at H
                have c37b0 : decide (0 ≤ (rd x3_2 ((rd_T62 t146 x42_2).f1))) = true := decide_eq_true c37
                clear c37
                by_cases c38 : (rd x3_2 ((rd_T62 t146 x42_2).f1)) < ((rd_L2 x146000_2 (rd x3_2 ((rd_T62 t146 x42_2).f0))).length : Int)
                ·rw [if_pos c38] at H
                 have c38b0 : decide ((rd x3_2 ((rd_T62 t146 x42_2).f1)) < ((rd_L2 x146000_2 (rd x3_2 ((rd_T62 t146 x42_2).f0))).length : Int)) = true := decide_eq_true c38
                 clear c38
                 obtain ⟨y155, hy155⟩ : ∃ y_ : List Int, y_ = ((rd_L2 x146000_2 (rd x3_2 ((rd_T62 t146 x42_2).f0))).set ((rd x3_2 ((rd_T62 t146 x42_2).f1)) : Int).toNat (wrap64 ((rd (rd_L2 x146000_2 (rd x3_2 ((rd_T62 t146 x42_2).f0))) (rd x3_2 ((rd_T62 t146 x42_2).f1))) + 1))) := ⟨_, rfl⟩
                 replace H : (impl_matrixOfMatching.l1 k2 x3_2 t146 (t146.length : Int) (wrap64 (x42_2 + 1)) (x146000_2.set ((rd x3_2 ((rd_T62 t146 x42_2).f0)) : Int).toNat y155)) = some r := by first | (rw [hy155]; with_reducible exact H) | (have H2_ := (Option.bind_some _ _).symm.trans H; rw [hy155]; with_reducible exact H2_) | (have H2_ := (Option.bind_some _ _).symm.trans H; with_reducible exact H2_) | with_reducible exact H | (rw [hy155]; exact H) | exact H
                 have Ny155 := aM hy155
                 clear hy155
                 obtain ⟨y157, hy157⟩ : ∃ y_ : List (List Int), y_ = (x146000_2.set ((rd x3_2 ((rd_T62 t146 x42_2).f0)) : Int).toNat y155) := ⟨_, rfl⟩
                 replace H : (impl_matrixOfMatching.l1 k2 x3_2 t146 (t146.length : Int) (wrap64 (x42_2 + 1)) y157) = some r := by first | (rw [hy157]; with_reducible exact H) | (have H2_ := (Option.bind_some _ _).symm.trans H; rw [hy157]; with_reducible exact H2_) | (have H2_ := (Option.bind_some _ _).symm.trans H; with_reducible exact H2_) | with_reducible exact H | (rw [hy157]; exact H) | exact H
                 have Ny157 := aM hy157
                 clear hy157
                 have H' := aM H
                 clear H
                 have p149 : 0 ≤ (x42_2 : Int) := odt
                 have q149 : x42_2 < (t146.length : Int) := odt
                 obtain ⟨ad149, e149, hx149_0, hx149_1⟩ := at_T62 (Kd.R_reads' HO_40.out).2.2 x42_2 p149 q149
                 cases e149
                 replace p149 := eq_true p149
                 replace q149 := eq_true q149
                 try go_wp2_with (first | ((with_reducible refine gate_dst (N := 8) rfl ?_); refine bE 8 62 #[.int .i64 0, .int .i64 0] ?_; intro gb150 hg w40 hbox hb; have _ := aM (Kd.R_below (rQ HO_3) hb); have _ := aM (Kd.R_below (Kd.R_elderB (rQ HO_40) gb150 (Nat.le_of_eq hg.symm)) hb); have _ := aM (Kd.S_below (sQ HO_146000) hb); have _ := aM (blk_below (g := gb124) (o := .cells #[.slice none 0 0] 36 (0, 0)) (qQ BK124) hb); have _ := aM (blk_below (g := gb145) (o := .cells #[u146000] 36 (0, 0)) (qQ BK145) hb); have _ := aM (below_step bq hb); have _ := aM (hbox); have _ := aM ((gS hg)); have _ := aM ((gS hg)); have _ := aM ((by rw [hg]; exact Nat.ne_of_lt (blk_lt (g := gb124) (o := .cells #[.slice none 0 0] 36 (0, 0)) (qQ BK124)) : gb124 ≠ gb150)); have _ := aM ((by rw [hg]; exact Nat.ne_of_gt (blk_lt (g := gb124) (o := .cells #[.slice none 0 0] 36 (0, 0)) (qQ BK124)) : gb150 ≠ gb124)); have _ := aM ((by rw [hg]; exact Nat.ne_of_lt (blk_lt (g := gb145) (o := .cells #[u146000] 36 (0, 0)) (qQ BK145)) : gb145 ≠ gb150)); have _ := aM ((by rw [hg]; exact Nat.ne_of_gt (blk_lt (g := gb145) (o := .cells #[u146000] 36 (0, 0)) (qQ BK145)) : gb150 ≠ gb145)); clear HO_3 HO_40 HO_146000 BK124 BK145 HB; rename_i HO_3 HO_40 HO_146000 BK124 BK145 HB BK150 GW150 GE150 NB124_150 NB150_124 NB145_150 NB150_145; clear hb hbox hg; have hnb41 := NB150_124.out; have hnc41 := NB124_150.out; have hnb42 := NB150_145.out; have hnc42 := NB145_150.out; have hcz43_0 : w40.cell? ⟨gb150, 0, none⟩ = some (.int .i64 0) := (blk_cell BK150.out 0).trans rfl; have hcz43_1 : w40.cell? ⟨gb150, 1, none⟩ = some (.int .i64 0) := (blk_cell BK150.out 1).trans rfl; have hfz43_0 := blk_frozen BK150.out 0; have hfz43_1 := blk_frozen BK150.out 1))
                 have n0_ : Aside0 (Kd.R (Kd.int .i64) 3 ((w40.setCell ⟨gb150, 0, none⟩ (.int .i64 ((rd_T62 t146 x42_2).f0))).setCell ⟨gb150, 1, none⟩ (.int .i64 ((rd_T62 t146 x42_2).f1))) w.heap.size (fun _ => True) u3 x3_2) := ⟨by (with_reducible repeat first|apply rA|apply rN|apply rD); exact Kd.R_mono (Kd.R_far (p := ⟨gb150, 1, none⟩) (Kd.R_far (p := ⟨gb150, 0, none⟩) (Kd.R_types HO_3.out BK150.out (by decide)) (fun _ hk => hk.2) (.int .i64 ((rd_T62 t146 x42_2).f0))) (fun _ hk => hk.2) (.int .i64 ((rd_T62 t146 x42_2).f1))) (fun _ hk => trivial)⟩
                 have n1_ : Aside0 (Kd.R k62 62 ((w40.setCell ⟨gb150, 0, none⟩ (.int .i64 ((rd_T62 t146 x42_2).f0))).setCell ⟨gb150, 1, none⟩ (.int .i64 ((rd_T62 t146 x42_2).f1))) w.heap.size (fun k_ => k_ ≠ gb150) (.slice (some ad149) t146.length co27) t146) := ⟨by (with_reducible repeat first|apply rA|apply rN|apply rD); exact Kd.R_mono (Kd.R_far (p := ⟨gb150, 1, none⟩) (Kd.R_far (p := ⟨gb150, 0, none⟩) (Kd.R_mono HO_40.out (fun k_ hk => (⟨hk, hk.2⟩ : _ ∧ k_ ≠ gb150))) (fun _ hk => hk.2) (.int .i64 ((rd_T62 t146 x42_2).f0))) (fun _ hk => hk.2) (.int .i64 ((rd_T62 t146 x42_2).f1))) (fun _ hk => hk.1.2)⟩
                 have n2_ : Aside0 (Kd.S (Kd.slice 3 (Kd.int .i64)) 24 ((w40.setCell ⟨gb150, 0, none⟩ (.int .i64 ((rd_T62 t146 x42_2).f0))).setCell ⟨gb150, 1, none⟩ (.int .i64 ((rd_T62 t146 x42_2).f1))) w.heap.size (fun k_ => some k_ ≠ (u3 : Value).ownBlock) u146000 x146000_2) := ⟨by (with_reducible repeat first|apply sA|apply sN|apply sD); exact Kd.S_mono (Kd.S_far (p := ⟨gb150, 1, none⟩) (Kd.S_far (p := ⟨gb150, 0, none⟩) (Kd.S_types HO_146000.out BK150.out (by decide)) (fun _ hk => hk.2) (.int .i64 ((rd_T62 t146 x42_2).f0))) (fun _ hk => hk.2) (.int .i64 ((rd_T62 t146 x42_2).f1))) (fun _ hk => hk.1)⟩
                 have n3_ : Aside0 (((w40.setCell ⟨gb150, 0, none⟩ (.int .i64 ((rd_T62 t146 x42_2).f0))).setCell ⟨gb150, 1, none⟩ (.int .i64 ((rd_T62 t146 x42_2).f1))).heap[gb124]? = some (.cells #[.slice none 0 0] 36 (0, 0))) := ⟨by (with_reducible repeat first|apply qN|apply qD|apply qA); refine blk_far ?_ NB124_150.out _; (with_reducible repeat first|apply qN|apply qD|apply qA); refine blk_far ?_ NB124_150.out _; (with_reducible repeat first|apply qN|apply qD|apply qA); exact BK124.out⟩
                 have n4_ : Aside0 (((w40.setCell ⟨gb150, 0, none⟩ (.int .i64 ((rd_T62 t146 x42_2).f0))).setCell ⟨gb150, 1, none⟩ (.int .i64 ((rd_T62 t146 x42_2).f1))).heap[gb145]? = some (.cells #[u146000] 36 (0, 0))) := ⟨by (with_reducible repeat first|apply qN|apply qD|apply qA); refine blk_far ?_ NB145_150.out _; (with_reducible repeat first|apply qN|apply qD|apply qA); refine blk_far ?_ NB145_150.out _; (with_reducible repeat first|apply qN|apply qD|apply qA); exact BK145.out⟩
                 have n5_ : Aside0 (((w40.setCell ⟨gb150, 0, none⟩ (.int .i64 ((rd_T62 t146 x42_2).f0))).setCell ⟨gb150, 1, none⟩ (.int .i64 ((rd_T62 t146 x42_2).f1))).heap[gb150]? = some (.cells #[.int .i64 ((rd_T62 t146 x42_2).f0), .int .i64 ((rd_T62 t146 x42_2).f1)] 62 (0, 0))) := ⟨by (with_reducible repeat first|apply qN|apply qD|apply qA); refine blk_put (cs := #[.int .i64 ((rd_T62 t146 x42_2).f0), .int .i64 0]) ?_ 1 _ rfl; (with_reducible repeat first|apply qN|apply qD|apply qA); refine blk_put (cs := #[.int .i64 0, .int .i64 0]) ?_ 0 _ rfl; (with_reducible repeat first|apply qN|apply qD|apply qA); exact BK150.out⟩
                 have n6_ : Aside0 (Below w.heap.size w ((w40.setCell ⟨gb150, 0, none⟩ (.int .i64 ((rd_T62 t146 x42_2).f0))).setCell ⟨gb150, 1, none⟩ (.int .i64 ((rd_T62 t146 x42_2).f1)))) := ⟨by exact bq⟩
                 (try clear HO_3)
                 (try clear HO_40)
                 (try clear HO_146000)
                 (try clear BK124)
                 (try clear BK145)
                 (try clear BK150)
                 (try clear HB)
                 generalize ((w40.setCell ⟨gb150, 0, none⟩ (.int .i64 ((rd_T62 t146 x42_2).f0))).setCell ⟨gb150, 1, none⟩ (.int .i64 ((rd_T62 t146 x42_2).f1))) = w44 at n0_ n1_ n2_ n3_ n4_ n5_ n6_ ⊢
                 have HO_3 := n0_
                 have HO_40 := n1_
                 have HO_146000 := n2_
                 have BK124 := n3_
                 have BK145 := n4_
                 have BK150 := n5_
                 have HB := n6_
                 clear n0_ n1_ n2_ n3_ n4_ n5_ n6_
                 have n0_ := aM (Kd.R_drew HO_3.out)
                 have n1_ := aM (Kd.R_drew HO_40.out)
                 have n2_ := aM (Kd.S_drew HO_146000.out)
                 have n3_ := aM (blk_drew BK124.out)
                 have n4_ := aM (blk_drew BK145.out)
                 have n5_ := aM (blk_drew BK150.out)
                 have n6_ := aM (below_drew1 HB.out)
                 clear HO_3
                 clear HO_40
                 clear HO_146000
                 clear BK124
                 clear BK145
                 clear BK150
                 clear HB
                 have HO_3 := n0_
                 have HO_40 := n1_
                 have HO_146000 := n2_
                 have BK124 := n3_
                 have BK145 := n4_
                 have BK150 := n5_
                 have HB := n6_
                 clear n0_ n1_ n2_ n3_ n4_ n5_ n6_
                 obtain ⟨Ao46, co46, eo46⟩ := Kd.R_slice HO_3.out
                 (first | subst eo46 | (injection eo46 with f1_ f2_ f3_; have f4_ := f1_.symm; have f5_ := f3_.symm; clear f1_ f2_ f3_; subst f4_; subst f5_))
                 have p151 : 0 ≤ (((rd_T62 t146 x42_2).f0) : Int) := odt
                 have q151 : ((rd_T62 t146 x42_2).f0) < (x3_2.length : Int) := odt
                 obtain ⟨ad151, e151, hx151_0⟩ := Kd.at_int (Kd.R_reads' HO_3.out).2.2 ((rd_T62 t146 x42_2).f0) p151 q151
                 cases e151
                 replace p151 := eq_true p151
                 replace q151 := eq_true q151
                 obtain ⟨Ao47, co47, eo47⟩ := Kd.S_slice HO_146000.out
                 (first | subst eo47 | (injection eo47 with f1_ f2_ f3_; have f4_ := f1_.symm; have f5_ := f3_.symm; clear f1_ f2_ f3_; subst f4_; subst f5_))
                 have p152 : 0 ≤ ((rd x3_2 ((rd_T62 t146 x42_2).f0)) : Int) := odt
                 have q152 : (rd x3_2 ((rd_T62 t146 x42_2).f0)) < (x146000_2.length : Int) := odt
                 obtain ⟨ad152, A152_0, c152_0, e152, hx152_0, hl152_0, hi152_0⟩ := at_L2 (Kd.S_reads' HO_146000.out).2.2 (rd x3_2 ((rd_T62 t146 x42_2).f0)) p152 q152
                 cases e152
                 obtain ⟨ce152, hce152, hMe152, hcc152⟩ := Kd.S_get HO_146000.out [] (rd x3_2 ((rd_T62 t146 x42_2).f0)) p152 (by first | exact q152 | exact odt | (have e_ := (Kd.S_reads' HO_146000.out).1; omega))
                 obtain ⟨ve152_0, rfl, ge152_0⟩ := hMe152
                 have hv152_0 := hcc152 0 _ rfl
                 rw [Nat.add_zero, show ((Kd.slice 3 (Kd.int .i64))).sz = 1 from rfl, Nat.mul_one] at hv152_0
                 replace hv152_0 := Option.some.inj (hv152_0.symm.trans hx152_0)
                 rw [hv152_0] at ge152_0
                 have HL152_0 := aM (show Kd.R (Kd.int .i64) 3 _ _ _ _ (rd_L2 x146000_2 (rd x3_2 ((rd_T62 t146 x42_2).f0))) from ge152_0)
                 clear hv152_0 ge152_0
                 have HX152_0 := aM hx152_0
                 clear hcc152 hce152
                 have HR152_0 := aM hi152_0
                 have HC152_0 := aM hl152_0
                 clear hi152_0 hl152_0
                 replace p152 := eq_true p152
                 replace q152 := eq_true q152
                 have p153 : 0 ≤ (((rd_T62 t146 x42_2).f1) : Int) := odt
                 have q153 : ((rd_T62 t146 x42_2).f1) < (x3_2.length : Int) := odt
                 obtain ⟨ad153, e153, hx153_0⟩ := Kd.at_int (Kd.R_reads' HO_3.out).2.2 ((rd_T62 t146 x42_2).f1) p153 q153
                 obtain rfl : ad151 = ad153 := (by injection e153)
                 replace p153 := eq_true p153
                 replace q153 := eq_true q153
                 have p154 : 0 ≤ ((rd x3_2 ((rd_T62 t146 x42_2).f1)) : Int) := odt
                 have q154 : (rd x3_2 ((rd_T62 t146 x42_2).f1)) < ((rd_L2 x146000_2 (rd x3_2 ((rd_T62 t146 x42_2).f0))).length : Int) := odt
                 obtain ⟨ad154, e154, hx154_0⟩ := Kd.at_int (cQ HR152_0.out) (rd x3_2 ((rd_T62 t146 x42_2).f1)) p154 q154
                 cases e154
                 replace p154 := eq_true p154
                 replace q154 := eq_true q154
                 have p39 : 0 ≤ ((rd x3_2 ((rd_T62 t146 x42_2).f1)) : Int) := odt
                 have q39 : ((rd x3_2 ((rd_T62 t146 x42_2).f1)) : Int) < (((rd_L2 x146000_2 (rd x3_2 ((rd_T62 t146 x42_2).f0))).length : Int) : Int) := odt
                 obtain ⟨go39, co39, eo39, gb39, gl39, cl39, HG39⟩ := Kd.R_form HL152_0.out (by omega)
                 (first | cases eo39 | (injection eo39 with ea_ en_ ec_; (first | subst ea_ | (injection ea_ with ea_; subst ea_)); subst ec_; clear en_))
                 have GB39 := aM gb39
                 have GG39 := aM HG39
                 clear gb39 gl39 HG39
                 (first | simp only [add_plain] at hx154_0 | skip)
                 obtain ⟨hx39_0, hf39_0⟩ := Kd.R_celln 0 HL152_0.out ((rd x3_2 ((rd_T62 t146 x42_2).f1)) : Int) p39 q39
                 replace p39 := eq_true p39
                 replace q39 := eq_true q39
                 have hq48 : ((rd x3_2 ((rd_T62 t146 x42_2).f0)) : Int) < (x146000_2.length : Int) := (by have h_ : ((rd x3_2 ((rd_T62 t146 x42_2).f0)) : Int) < ((x146000_2.length : Int) : Int) := odt; first | exact h_ | (have e_ := (Kd.S_reads' HO_146000.out).1; omega) | simpa only [List.length_set, List.length_set] using h_)
                 obtain ⟨oki48, ce48, hcl48, hM48, hcc48, hok48, hbk48⟩ := Kd.S_borrow HO_146000.out [] ((rd x3_2 ((rd_T62 t146 x42_2).f0)) : Int) (odt) hq48
                 obtain ⟨ve48_0, rfl, ge48_0⟩ := hM48
                 have hv48 := hcc48 0 _ rfl
                 rw [Nat.add_zero, show ((Kd.slice 3 (Kd.int .i64))).sz = 1 from rfl, Nat.mul_one] at hv48
                 replace hv48 := Option.some.inj (hv48.symm.trans HX152_0.out)
                 subst hv48
                 clear hcc48 hcl48
                 replace ge48_0 := (show Kd.R (Kd.int .i64) 3 _ _ _ _ (rd_L2 x146000_2 (rd x3_2 ((rd_T62 t146 x42_2).f0))) from ge48_0)
                 have HP48 := Kd.R_putg ge48_0 ((rd x3_2 ((rd_T62 t146 x42_2).f1)) : Int) (wrap64 ((rd (rd_L2 x146000_2 (rd x3_2 ((rd_T62 t146 x42_2).f0))) (rd x3_2 ((rd_T62 t146 x42_2).f1))) + 1))
                 rw [← Ny155.out] at HP48
                 have HS48 := hbk48 HP48.2 (fun k_ e_ => by injection e_ with e_; subst e_; exact ge48_0.1 _ rfl) (x' := y155) (Kd.M_row HP48.1)
                 rw [← Ny157.out] at HS48
                 have HQ48 := aM HS48
                 clear HP48 HS48 hbk48 hok48
                 refine start_ (n := 19) (S := fun w' => w'.cell? ⟨gb145, 0, none⟩ = some (.slice (some ad152) x146000_2.length co47) ∧ w'.cell? ⟨gb150, 0, none⟩ = some (.int .i64 ((rd_T62 t146 x42_2).f0)) ∧ w'.cell? ⟨gb150, 1, none⟩ = some (.int .i64 ((rd_T62 t146 x42_2).f1)) ∧ w'.cell? (ad151.add (((rd_T62 t146 x42_2).f0)).toNat) = some (.int .i64 (rd x3_2 ((rd_T62 t146 x42_2).f0))) ∧ w'.cell? (ad152.add ((rd x3_2 ((rd_T62 t146 x42_2).f0))).toNat) = some (.slice (some ⟨go39, 0, none⟩) (rd_L2 x146000_2 (rd x3_2 ((rd_T62 t146 x42_2).f0))).length c152_0) ∧ w'.cell? (ad151.add (((rd_T62 t146 x42_2).f1)).toNat) = some (.int .i64 (rd x3_2 ((rd_T62 t146 x42_2).f1))) ∧ w'.cell? ⟨go39, ((rd x3_2 ((rd_T62 t146 x42_2).f1))).toNat, none⟩ = some (.int .i64 (rd (rd_L2 x146000_2 (rd x3_2 ((rd_T62 t146 x42_2).f0))) (rd x3_2 ((rd_T62 t146 x42_2).f1))))) (ds := [18]) #[false, false, false, false, false, false, false, false, false, false, false, false, false, false, false, false, false, false, false] (by kernel_rfl) rfl rfl ⟨(blk_cell BK145.out 0).trans rfl, (blk_cell BK150.out 0).trans rfl, (blk_cell BK150.out 1).trans rfl, hx151_0, hx152_0, hx153_0, hx154_0⟩ (fun hHeld => ?_); refine with_tabW impl_matrixOfMatching.tab13 impl_matrixOfMatching.bits13 (fun HT_ HW_ => ?_)
                 generalize w44.drew = w45 at HO_3 HO_40 HO_146000 BK124 BK145 BK150 HB GG39 HL152_0 HQ48 HR152_0 HX152_0 hf39_0 hx151_0 hx152_0 hx153_0 hx154_0 hx39_0 hHeld ⊢
                 refine pure_ (i := 0) (N := some 46) (v := ?_) (a' := ?_) #[true, false, false, false, false, false, false, false, false, false, false, false, false, false, false, false, false, false, false] rfl rfl (any_of HT_.out (by kernel_rfl)) (fun _ _ _ h => h) (Or.inl ⟨by rfl, ?_⟩) ?_ ?_
                 rotate_left
                 ·intro w'
                  go_simp
                  with_reducible rfl
                 rotate_left
                 ·simp only [Act.put, List.setIfInBounds_toArray, List.set_cons_zero, List.set_cons_succ, i64_w, i32_w]
                  rfl
                 refine pure_ (i := 2) (N := some 48) (v := ?_) (a' := ?_) #[true, false, true, false, false, false, false, false, false, false, false, false, false, false, false, false, false, false, false] rfl rfl (any_of HT_.out (by kernel_rfl)) (fun _ _ _ h => h) (Or.inl ⟨by rfl, ?_⟩) ?_ ?_
                 rotate_left
                 ·intro w'
                  go_simp
                  with_reducible rfl
                 rotate_left
                 ·simp only [Act.put, List.setIfInBounds_toArray, List.set_cons_zero, List.set_cons_succ, i64_w, i32_w]
                  rfl
                 refine pure_ (i := 3) (N := some 49) (v := ?_) (a' := ?_) #[true, false, true, true, false, false, false, false, false, false, false, false, false, false, false, false, false, false, false] rfl rfl (any_of HT_.out (by kernel_rfl)) (fun _ _ _ h => h) (Or.inl ⟨by rfl, ?_⟩) ?_ ?_
                 rotate_left
                 ·intro w'
                  go_simp
                  with_reducible rfl
                 rotate_left
                 ·simp only [Act.put, List.setIfInBounds_toArray, List.set_cons_zero, List.set_cons_succ, i64_w, i32_w]
                  rfl
                 refine pure_ (i := 9) (N := some 55) (v := ?_) (a' := ?_) #[true, false, true, true, false, false, false, false, false, true, false, false, false, false, false, false, false, false, false] rfl rfl (any_of HT_.out (by kernel_rfl)) (fun _ _ _ h => h) (Or.inl ⟨by rfl, ?_⟩) ?_ ?_
                 rotate_left
                 ·intro w'
                  go_simp
                  with_reducible rfl
                 rotate_left
                 ·simp only [Act.put, List.setIfInBounds_toArray, List.set_cons_zero, List.set_cons_succ, i64_w, i32_w]
                  rfl
                 refine pure_ (i := 10) (N := some 56) (v := ?_) (a' := ?_) #[true, false, true, true, false, false, false, false, false, true, true, false, false, false, false, false, false, false, false] rfl rfl (any_of HT_.out (by kernel_rfl)) (fun _ _ _ h => h) (Or.inl ⟨by rfl, ?_⟩) ?_ ?_
                 rotate_left
                 ·intro w'
                  go_simp
                  with_reducible rfl
                 rotate_left
                 ·simp only [Act.put, List.setIfInBounds_toArray, List.set_cons_zero, List.set_cons_succ, i64_w, i32_w]
                  rfl
                 refine take_ (i := 1) (N := some 47) (v := ?_) (a' := ?_) #[true, true, true, true, false, false, false, false, false, true, true, false, false, false, false, false, false, false, false] rfl rfl (take_ofW HT_.out HW_.out (by kernel_rfl)) (fun _ _ _ h => h) (Or.inl ⟨by rfl, ?_⟩) hHeld ?_ ?_
                 rotate_left
                 ·rintro w' ⟨s0, s1, s2, s3, s4, s5, s6⟩
                  go_simp
                  with_reducible rfl
                 rotate_left
                 ·simp only [Act.put, List.setIfInBounds_toArray, List.set_cons_zero, List.set_cons_succ, i64_w, i32_w]
                  rfl
                 refine take_ (i := 4) (N := some 50) (v := ?_) (a' := ?_) #[true, true, true, true, true, false, false, false, false, true, true, false, false, false, false, false, false, false, false] rfl rfl (take_ofW HT_.out HW_.out (by kernel_rfl)) (fun _ _ _ h => h) (Or.inl ⟨by rfl, ?_⟩) hHeld ?_ ?_
                 rotate_left
                 ·rintro w' ⟨s0, s1, s2, s3, s4, s5, s6⟩
                  go_simp
                  with_reducible rfl
                 rotate_left
                 ·simp only [Act.put, List.setIfInBounds_toArray, List.set_cons_zero, List.set_cons_succ, i64_w, i32_w]
                  rfl
                 refine pure_ (i := 5) (N := some 51) (v := ?_) (a' := ?_) #[true, true, true, true, true, true, false, false, false, true, true, false, false, false, false, false, false, false, false] rfl rfl (any_of HT_.out (by kernel_rfl)) (fun _ _ _ h => h) (Or.inl ⟨by rfl, ?_⟩) ?_ ?_
                 rotate_left
                 ·intro w'
                  go_simp
                  with_reducible rfl
                 rotate_left
                 ·simp only [Act.put, List.setIfInBounds_toArray, List.set_cons_zero, List.set_cons_succ, i64_w, i32_w]
                  rfl
                 refine take_ (i := 6) (N := some 52) (v := ?_) (a' := ?_) #[true, true, true, true, true, true, true, false, false, true, true, false, false, false, false, false, false, false, false] rfl rfl (take_ofW HT_.out HW_.out (by kernel_rfl)) (fun _ _ _ h => h) (Or.inl ⟨by rfl, ?_⟩) hHeld ?_ ?_
                 rotate_left
                 ·rintro w' ⟨s0, s1, s2, s3, s4, s5, s6⟩
                  go_simp
                  with_reducible rfl
                 rotate_left
                 ·simp only [Act.put, List.setIfInBounds_toArray, List.set_cons_zero, List.set_cons_succ, i64_w, i32_w]
                  rfl
                 refine pure_ (i := 7) (N := some 53) (v := ?_) (a' := ?_) #[true, true, true, true, true, true, true, true, false, true, true, false, false, false, false, false, false, false, false] rfl rfl (any_of HT_.out (by kernel_rfl)) (fun _ _ _ h => h) (Or.inl ⟨by rfl, ?_⟩) ?_ ?_
                 rotate_left
                 ·intro w'
                  go_simp
                  with_reducible rfl
                 rotate_left
                 ·simp only [Act.put, List.setIfInBounds_toArray, List.set_cons_zero, List.set_cons_succ, i64_w, i32_w]
                  rfl
                 refine take_ (i := 8) (N := some 54) (v := ?_) (a' := ?_) #[true, true, true, true, true, true, true, true, true, true, true, false, false, false, false, false, false, false, false] rfl rfl (take_ofW HT_.out HW_.out (by kernel_rfl)) (fun _ _ _ h => h) (Or.inl ⟨by rfl, ?_⟩) hHeld ?_ ?_
                 rotate_left
                 ·rintro w' ⟨s0, s1, s2, s3, s4, s5, s6⟩
                  go_simp
                  with_reducible rfl
                 rotate_left
                 ·simp only [Act.put, List.setIfInBounds_toArray, List.set_cons_zero, List.set_cons_succ, i64_w, i32_w]
                  rfl
                 refine take_ (i := 11) (N := some 57) (v := ?_) (a' := ?_) #[true, true, true, true, true, true, true, true, true, true, true, true, false, false, false, false, false, false, false] rfl rfl (take_ofW HT_.out HW_.out (by kernel_rfl)) (fun _ _ _ h => h) (Or.inl ⟨by rfl, ?_⟩) hHeld ?_ ?_
                 rotate_left
                 ·rintro w' ⟨s0, s1, s2, s3, s4, s5, s6⟩
                  go_simp
                  with_reducible rfl
                 rotate_left
                 ·simp only [Act.put, List.setIfInBounds_toArray, List.set_cons_zero, List.set_cons_succ, i64_w, i32_w]
                  rfl
                 refine pure_ (i := 12) (N := some 58) (v := ?_) (a' := ?_) #[true, true, true, true, true, true, true, true, true, true, true, true, true, false, false, false, false, false, false] rfl rfl (any_of HT_.out (by kernel_rfl)) (fun _ _ _ h => h) (Or.inl ⟨by rfl, ?_⟩) ?_ ?_
                 rotate_left
                 ·intro w'
                  go_simp
                  with_reducible rfl
                 rotate_left
                 ·simp only [Act.put, List.setIfInBounds_toArray, List.set_cons_zero, List.set_cons_succ, i64_w, i32_w]
                  rfl
                 refine take_ (i := 13) (N := some 59) (v := ?_) (a' := ?_) #[true, true, true, true, true, true, true, true, true, true, true, true, true, true, false, false, false, false, false] rfl rfl (take_ofW HT_.out HW_.out (by kernel_rfl)) (fun _ _ _ h => h) (Or.inl ⟨by rfl, ?_⟩) hHeld ?_ ?_
                 rotate_left
                 ·rintro w' ⟨s0, s1, s2, s3, s4, s5, s6⟩
                  go_simp
                  with_reducible rfl
                 rotate_left
                 ·simp only [Act.put, List.setIfInBounds_toArray, List.set_cons_zero, List.set_cons_succ, i64_w, i32_w]
                  rfl
                 refine pure_ (i := 14) (N := some 60) (v := ?_) (a' := ?_) #[true, true, true, true, true, true, true, true, true, true, true, true, true, true, true, false, false, false, false] rfl rfl (any_of HT_.out (by kernel_rfl)) (fun _ _ _ h => h) (Or.inl ⟨by rfl, ?_⟩) ?_ ?_
                 rotate_left
                 ·intro w'
                  go_simp
                  with_reducible rfl
                 rotate_left
                 ·simp only [Act.put, List.setIfInBounds_toArray, List.set_cons_zero, List.set_cons_succ, i64_w, i32_w]
                  rfl
                 refine take_ (i := 15) (N := some 61) (v := ?_) (a' := ?_) #[true, true, true, true, true, true, true, true, true, true, true, true, true, true, true, true, false, false, false] rfl rfl (take_ofW HT_.out HW_.out (by kernel_rfl)) (fun _ _ _ h => h) (Or.inl ⟨by rfl, ?_⟩) hHeld ?_ ?_
                 rotate_left
                 ·rintro w' ⟨s0, s1, s2, s3, s4, s5, s6⟩
                  go_simp
                  with_reducible rfl
                 rotate_left
                 ·simp only [Act.put, List.setIfInBounds_toArray, List.set_cons_zero, List.set_cons_succ, i64_w, i32_w]
                  rfl
                 refine pure_ (i := 16) (N := some 62) (v := ?_) (a' := ?_) #[true, true, true, true, true, true, true, true, true, true, true, true, true, true, true, true, true, false, false] rfl rfl (any_of HT_.out (by kernel_rfl)) (fun _ _ _ h => h) (Or.inl ⟨by rfl, ?_⟩) ?_ ?_
                 rotate_left
                 ·intro w'
                  go_simp
                  with_reducible rfl
                 rotate_left
                 ·simp only [Act.put, List.setIfInBounds_toArray, List.set_cons_zero, List.set_cons_succ, i64_w, i32_w]
                  rfl
                 refine pure_ (i := 17) (N := some 63) (v := ?_) (a' := ?_) #[true, true, true, true, true, true, true, true, true, true, true, true, true, true, true, true, true, true, false] rfl rfl (any_of HT_.out (by kernel_rfl)) (fun _ _ _ h => h) (Or.inl ⟨by rfl, ?_⟩) ?_ ?_
                 rotate_left
                 ·intro w'
                  go_simp
                  with_reducible rfl
                 rotate_left
                 ·simp only [Act.put, List.setIfInBounds_toArray, List.set_cons_zero, List.set_cons_succ, i64_w, i32_w]
                  rfl
                 refine last_ (i := 18) (N := none) #[true, true, true, true, true, true, true, true, true, true, true, true, true, true, true, true, true, true, true] rfl rfl (one_of HT_.out (by kernel_rfl)) (by decide) (fun K hK => ?_)
                 refine skip_ (w1 := ?_) (by rfl) rfl ?_ ?_
                 rotate_left
                 ·go_simp
                  rfl
                 refine hK.out _ _ ?_
                 clear hK K
                 refine done_ (done_of HT_.out (by kernel_rfl)) ?_
                 try go_wp2
                 go_roundg k2
                 case measure => have := HK1.out; have := HK2.out; omega
                 case rel => exact ⟨(x3_2), (wrap64 (x42_2 + 1)), (y157), (.slice (some ad152) x146000_2.length co47), (by first | rfl | (simp; done) | (simp [*]; done)), H', ⟨by have := HK1.out; have := HK2.out; omega⟩, ⟨by (with_reducible repeat first|apply rA|apply rN|apply rD); exact Kd.R_mono (Kd.R_far (p := ⟨go39, ((rd x3_2 ((rd_T62 t146 x42_2).f1)) : Int).toNat, none⟩) (Kd.R_far1 HO_3.out rfl ((HL152_0.out.1 _ rfl).1)) (fun _ hk => hk.2) (.int .i64 (wrap64 ((rd (rd_L2 x146000_2 (rd x3_2 ((rd_T62 t146 x42_2).f0))) (rd x3_2 ((rd_T62 t146 x42_2).f1))) + 1)))) (fun _ hk => trivial)⟩, ⟨by (with_reducible repeat first|apply rA|apply rN|apply rD); exact Kd.R_mono (Kd.R_far (p := ⟨go39, ((rd x3_2 ((rd_T62 t146 x42_2).f1)) : Int).toNat, none⟩) (Kd.R_types HO_40.out GG39.out (by decide)) (fun _ hk => hk.2) (.int .i64 (wrap64 ((rd (rd_L2 x146000_2 (rd x3_2 ((rd_T62 t146 x42_2).f0))) (rd x3_2 ((rd_T62 t146 x42_2).f1))) + 1)))) (fun _ hk => trivial)⟩, ⟨by (with_reducible repeat first|apply sA|apply sN|apply sD); exact HQ48.out⟩, ⟨by (with_reducible repeat first|apply qN|apply qD|apply qA); refine blk_far ?_ (by have h_ := Kd.R_ne HL152_0.out BK124.out (by decide); intro e_; exact h_ (by rw [e_]; rfl)) _; (with_reducible repeat first|apply qN|apply qD|apply qA); exact BK124.out⟩, ⟨by (with_reducible repeat first|apply qN|apply qD|apply qA); refine blk_far ?_ (by have h_ := Kd.R_ne HL152_0.out BK145.out (by decide); intro e_; exact h_ (by rw [e_]; rfl)) _; (with_reducible repeat first|apply qN|apply qD|apply qA); exact BK145.out⟩, ⟨by exact bq⟩⟩
                ·rw [if_neg c38] at H
                 exact absurd H (by simp)
               ·rw [if_neg c37] at H
                exact absurd H (by simp)
              ·rw [if_neg c36] at H
               exact absurd H (by simp)
             ·rw [if_neg c35] at H
              exact absurd H (by simp)
            ·rw [if_neg c34] at H
             exact absurd H (by simp)
           ·rw [if_neg c33] at H
            exact absurd H (by simp)
          ·rw [if_neg c32] at H
           exact absurd H (by simp)
         ·rw [if_neg c31] at H
          exact absurd H (by simp)
        ·rw [if_neg c30] at H
         exact absurd H (by simp)
       ·rw [if_neg c29] at H
        exact absurd H (by simp)
      ·rw [if_neg c28] at H
       have c28b0 : decide (x42_2 < (t146.length : Int)) = false := decide_eq_false c28
       clear c28
       obtain rfl := Option.some.inj H
       have hnb50 := NB145_124.out
       have hnc50 := NB124_145.out
       have hcz51_0 : wr.cell? ⟨gb145, 0, none⟩ = some (u146000) := (blk_cell BK145.out 0).trans rfl
       have hfz51_0 := blk_frozen BK145.out 0
       obtain ⟨Ao52, co52, eo52⟩ := Kd.S_slice HO_146000.out
       subst eo52
       have hcz53_0 : wr.cell? ⟨gb124, 0, none⟩ = some (.slice none 0 0) := (blk_cell BK124.out 0).trans rfl
       have hfz53_0 := blk_frozen BK124.out 0
       go_wp2
       refine bodyPost_ret (results_cell_row rfl _ _ gb124 36 #[.slice Ao52 x146000_2.length co52] (0, 0) _ rfl (by (with_reducible repeat first|apply qN|apply qD|apply qA); refine blk_put (cs := #[.slice none 0 0]) ?_ 0 _ rfl; (with_reducible repeat first|apply qN|apply qD|apply qA); exact BK124.out) Try.underlying36 rfl (by kernel_rfl)) rfl ?_
       exact ⟨_, by first | rfl | (simp [errW_none, errW_some] <;> rfl) | (simp [*, errW_none, errW_some] <;> rfl), by (with_reducible repeat first|apply sA|apply sN|apply sD); exact Kd.S_mono (Kd.S_far (p := ⟨gb124, 0, none⟩) (Kd.S_types HO_146000.out BK124.out (by decide)) (fun _ hk => hk.2) (.slice Ao52 x146000_2.length co52)) (fun _ hk => trivial), by exact bq⟩

end Go.Proofs.Ytacdlipojhoilaa.Zx
