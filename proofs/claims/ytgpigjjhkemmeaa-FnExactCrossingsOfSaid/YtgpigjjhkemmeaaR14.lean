-- Written by hook.py, a program of this session (wip/), which runs the kit's print.py with its own parts; Lean checks it.
import Derived.Test.YtgpigjjhkemmeaaR0
import Derived.Test.YtgpigjjhkemmeaaR1
import Derived.Test.YtgpigjjhkemmeaaR2
import Derived.Test.YtgpigjjhkemmeaaR8
namespace Go.Proofs.Ytgpigjjhkemmeaa.R
open Go.RowKit Go.Proofs.YtgpigjjhkemmeaaW.PrintWords Go.Proofs.YtgpigjjhkemmeaaW.PrintLast Go.Proofs.YtgpigjjhkemmeaaW.PrintMore
attribute [local go_sem] max2_int min2_int max_two min_two max_three min_three max_four min_four   -- for this text's walks alone
set_option linter.unusedVariables false
set_option linter.unusedSimpArgs false

/-! ### spec_CrossingsOf: function 31 -/
def spec_CrossingsOf.step (x y : S60) (s : Int × Int) : Int × Int := (if y.f0 < x.f1 ∧ x.f1 < y.f1 then wrap64 (s.1 + 1) else s.1, if y.f1 < x.f1 then wrap64 (s.2 + 1) else s.2)
def spec_CrossingsOf.inner (xs : List S60) (i : Nat) (s : Int × Int) : Nat → Int × Int
  | 0 => s
  | j + 1 => spec_CrossingsOf.step (rd_T60 xs (i : Int)) (rd_T60 (xs.drop (i + 1)) (j : Int)) (spec_CrossingsOf.inner xs i s j)
def spec_CrossingsOf.outer (xs : List S60) : Nat → Int × Int
  | 0 => (0, 0)
  | i + 1 => spec_CrossingsOf.inner xs i (spec_CrossingsOf.outer xs i) (xs.length - (i + 1))
def spec_CrossingsOf.f (k : Nat) (l0 : List Int) : Option (Int × Int × Bool) := (spec_stGood.f k l0).bind fun t => if t = true then (spec_stArcs.f k l0).bind fun xs => (if xs.length ≤ 1048576 then some ((spec_CrossingsOf.outer xs xs.length).1, (spec_CrossingsOf.outer xs xs.length).2, true) else none) else some (0, 0, false)
theorem spec_CrossingsOf.mono : ∀ a0 k, LeO (spec_CrossingsOf.f k a0) (spec_CrossingsOf.f (k + 1) a0) := fun a0 k => LeO.bind (spec_stGood.mono _ _) (fun _ => LeO.ite (LeO.bind (spec_stArcs.mono _ _) (fun _ => LeO.refl _)) (LeO.refl _))
set_option maxHeartbeats 8000000 in
set_option maxRecDepth 100000 in
open spec_CrossingsOf Go.Proofs.Ytgpigjjhkemmeaa.Live in
theorem spec_CrossingsOf.calls (k : Nat) (A0 : Option Addr) (c0 : Nat) (l0 : List Int) (r1 r2 : Int) (r3 : Bool) (w : World) (hr0 : Kd.C (Kd.int .i64) w A0 l0.length l0) (hc0 : l0.length ≤ c0) (h : spec_CrossingsOf.f k l0 = some (r1, r2, r3)) :
    Calls Try.prog 31 #[.slice A0 l0.length c0] w fun e w' => e = .returned (.tuple #[.int .i64 r1, .int .i64 r2, .bool r3]) ∧ Below w.heap.size w w' := by
  have HC := Aside0.mk hr0; have HL := Aside0.mk hc0; clear hr0 hc0
  obtain ⟨t, e1, h⟩ := Option.bind_eq_some_iff.mp h
  have E1 := Aside0.mk e1; clear e1
  have H := Aside0.mk (Live.start w)
  cases t with
  | false =>
    rw [if_neg (by simp)] at h
    simp only [Option.some.injEq, Prod.mk.injEq] at h
    obtain ⟨rfl, rfl, rfl⟩ := h
    go_enter Try.func31, Try.ntmps31
    go_wp2_with (first | (go_at_call 52; (with_reducible refine (spec_stGood.calls k _ _ _ _ _ HC.out HL.out E1.out).mono ?_); rintro e w' ⟨rfl, nd, rfl⟩))
    go_ret3
    exact ⟨rfl, (H.out.drewN nd).below⟩
  | true =>
    rw [if_pos rfl] at h
    obtain ⟨xs, e2, h⟩ := Option.bind_eq_some_iff.mp h
    by_cases hx : xs.length ≤ 1048576
    case neg => rw [if_neg hx] at h; exact absurd h (by simp)
    rw [if_pos hx] at h
    simp only [Option.some.injEq, Prod.mk.injEq] at h
    obtain ⟨rfl, rfl, rfl⟩ := h
    have E2 := Aside0.mk e2; clear e2
    have HX := Aside0.mk hx; clear hx
    go_enter Try.func31, Try.ntmps31
    go_wp2_with (first | (go_at_call 52; (with_reducible refine (spec_stGood.calls k _ _ _ _ _ HC.out HL.out E1.out).mono ?_); rintro e w' ⟨rfl, nd, rfl⟩; replace H := Aside0.mk (H.out.drewN nd)) | (go_at_call 60; (with_reducible refine (spec_stArcs.calls k _ _ _ _ _ (Kd.C_below HC.out H.out.below) HL.out E2.out).mono ?_); rintro e w1 ⟨v_, rfl, hs_, hb⟩; replace H := Aside0.mk (H.out.add (o := row _ _ _ _) hb hs_); clear hb hs_; obtain ⟨A, c, rfl, hc, _⟩ := H.out.form 0 rfl; have HC1 := Aside0.mk hc; clear hc))
    have hn : (Int.ofNat 0) = 0 := rfl
    clear hn
    go_loopg [19, 5, 6] (xs.length + 1) (fun kq v19 v5 v6 w' => ∃ i : Nat, v19 = .int .i64 (i : Int) ∧ v5 = .int .i64 (outer xs i).1 ∧ v6 = .int .i64 (outer xs i).2 ∧ Aside0 (i ≤ xs.length ∧ kq = xs.length - i + 1) ∧ Aside0 (Live w w' [row k60 60 (.slice A xs.length c) xs]))
    case atStart => exact ⟨0, rfl, rfl, rfl, ⟨Nat.zero_le _, rfl⟩, H⟩
    case round =>
      clear H HC1
      obtain ⟨i, rfl, rfl, rfl, HI, H⟩ := hrel
      rename World => wq
      by_cases ci : i < xs.length
      · have c1 : decide ((i : Int) < (xs.length : Int)) = true := decide_eq_true (by omega)
        have c2 : decide (i < xs.length) = true := decide_eq_true ci
        have HI1 : Aside0 (i + 1 ≤ xs.length ∧ xs.length - i = xs.length - (i + 1) + 1) := ⟨by omega⟩
        obtain ⟨g, c', e1, _, _⟩ := H.out.form1 0 rfl (by omega)
        injection e1 with ea en ec
        subst ea; subst ec; clear en
        obtain ⟨_, hcc, hC⟩ := H.out.now 0 rfl
        obtain ⟨ad, e1, hx0, hx1⟩ := at_T60 hC (i : Int) (by omega) (by omega)
        injection e1 with e1; subst e1
        simp only [Int.toNat_natCast, add_at, Nat.zero_add] at hx0 hx1
        have hil : i ≤ 1048576 := by have := HX.out; omega
        obtain ⟨A', hA'⟩ : ∃ A', A' = (if c = i + 1 then some (⟨g, 0, none⟩ : Addr) else some ((⟨g, 0, none⟩ : Addr).add ((i + 1) * 2))) := ⟨_, rfl⟩
        have hcut : ∀ W, (Instr.slice 35 (.slice (some ⟨g, 0, none⟩) xs.length c) (some (.int .i64 ((i : Int) + 1))) none none).run Try.prog W = .ok (.slice A' (xs.drop (i + 1)).length (c - (i + 1))) W := fun W => by
          have := cut_drop (P := Try.prog) 35 60 .i64 Try.underlying35 info60 (some ⟨g, 0, none⟩) xs.length c (i + 1) (by omega) W
          rw [List.length_drop, hA']; exact this
        have HK := Aside0.mk (Kd.C_drop hC (show i + 1 ≤ xs.length by omega) hcc)
        have HA := Aside0.mk hA'; clear hA' hC hcc
        have H2 := Aside0.mk (H.out.new #[.int .i64 (rd_T60 xs (i : Int)).f0, .int .i64 (rd_T60 xs (i : Int)).f1] 60)
        obtain ⟨ys, hys⟩ : ∃ ys, ys = xs.drop (i + 1) := ⟨_, rfl⟩
        rw [← hys] at HK hcut
        obtain ⟨x, hx⟩ : ∃ x, x = rd_T60 xs (i : Int) := ⟨_, rfl⟩
        rw [← hx] at H2 hx0 hx1
        have HY := Aside0.mk hys; clear hys
        have HXX := Aside0.mk hx; clear hx
        go_wp2_with (fail)
        clear hcut
        go_loopg [29, 5, 6] (ys.length + 1) (fun kq v29 v5 v6 w' => ∃ j : Nat, v29 = .int .i64 (j : Int) ∧ v5 = .int .i64 (inner xs i (outer xs i) j).1 ∧ v6 = .int .i64 (inner xs i (outer xs i) j).2 ∧ Aside0 (j ≤ ys.length ∧ kq = ys.length - j + 1) ∧ Aside0 (Live w w' [row k60 60 (.slice (some ⟨g, 0, none⟩) xs.length c) xs, var wq.heap.size #[.int .i64 x.f0, .int .i64 x.f1] 60]))
        case atStart => exact ⟨0, rfl, rfl, rfl, ⟨Nat.zero_le _, rfl⟩, H2⟩
        case round =>
          clear H2
          obtain ⟨j, rfl, rfl, rfl, HJ, H2⟩ := hrel
          by_cases cj : j < ys.length
          · have d1 : decide ((j : Int) < (ys.length : Int)) = true := decide_eq_true (by omega)
            have d2 : decide (j < ys.length) = true := decide_eq_true cj
            have HJ1 : Aside0 (j + 1 ≤ ys.length ∧ ys.length - j = ys.length - (j + 1) + 1) := ⟨by omega⟩
            have HJW := Aside0.mk (up1 (j := j) (by have := HX.out; have : ys.length ≤ xs.length := (by rw [HY.out, List.length_drop]; omega); omega))
            have hC2 : Kd.C k60 wr A' ys.length ys := by
              have h9 := (Kd.C_drop (H2.out.now 0 rfl).2.2 (show i + 1 ≤ xs.length by omega) (H2.out.now 0 rfl).2.1)
              rw [← HY.out] at h9
              rw [HA.out]; exact h9
            obtain ⟨ad, e1, hy0, hy1⟩ := at_T60 hC2 (j : Int) (by omega) (by omega)
            subst e1
            clear hC2
            simp only [Int.toNat_natCast] at hy0 hy1
            obtain ⟨y, hy⟩ : ∃ y, y = rd_T60 ys (j : Int) := ⟨_, rfl⟩
            rw [← hy] at hy0 hy1
            have HYY := Aside0.mk hy; clear hy
            obtain ⟨s, hs⟩ : ∃ s, s = inner xs i (outer xs i) j := ⟨_, rfl⟩
            have e5 : inner xs i (outer xs i) (j + 1) = step x y s := by rw [inner, HXX.out, HYY.out, HY.out, hs]
            rw [← hs]
            have HS := Aside0.mk hs; clear hs
            have E5 := Aside0.mk e5; clear e5
            have hg0 : wr.cell? ⟨wq.heap.size, 0, none⟩ = some (.int .i64 x.f0) := H2.out.cell 1 rfl 0
            have hg1 : wr.cell? ⟨wq.heap.size, 1, none⟩ = some (.int .i64 x.f1) := H2.out.cell 1 rfl 1
            have hlt : wq.heap.size < wr.heap.size := H2.out.lt 1 rfl
            have HN := Aside0.mk (H2.out.alloc (.cells #[.int .i64 y.f0, .int .i64 y.f1] 60))
            by_cases b1 : y.f0 < x.f1
            all_goals by_cases b2 : x.f1 < y.f1
            all_goals by_cases b3 : y.f1 < x.f1
            all_goals (try omega)
            all_goals (first | have g1 : decide (y.f0 < x.f1) = false := decide_eq_false b1 | have g1 : decide (y.f0 < x.f1) = true := decide_eq_true b1)
            all_goals (first | have g2 : decide (x.f1 < y.f1) = false := decide_eq_false b2 | have g2 : decide (x.f1 < y.f1) = true := decide_eq_true b2)
            all_goals (first | have g3 : decide (y.f1 < x.f1) = false := decide_eq_false b3 | have g3 : decide (y.f1 < x.f1) = true := decide_eq_true b3)
            all_goals go_wp2
            all_goals go_roundg (ys.length - j)
            all_goals (try (case measure => have := HJ.out; omega))
            all_goals exact ⟨j + 1, HJW.out, by rw [E5.out]; simp only [step]; first | rw [if_pos (by omega)] | rw [if_neg (by omega)], by rw [E5.out]; simp only [step]; first | rw [if_pos (by omega)] | rw [if_neg (by omega)], HJ1, HN⟩
          · have d1 : decide ((j : Int) < (ys.length : Int)) = false := decide_eq_false (by omega)
            have d2 : decide (j < ys.length) = false := decide_eq_false cj
            obtain rfl : j = ys.length := by have := HJ.out; omega
            have eo : inner xs i (outer xs i) ys.length = outer xs (i + 1) := by rw [outer, HY.out, List.length_drop]
            rw [eo]
            have HI2 := Aside0.mk (H2.out.keep 1)
            have HIW : Aside0 (Value.int .i64 (wrap64 ((i : Int) + 1)) = .int .i64 ((i + 1 : Nat) : Int)) := ⟨by rw [show wrap64 ((i : Int) + 1) = ((i + 1 : Nat) : Int) from by unfold wrap64; omega]⟩
            go_wp2
            go_roundg (xs.length - i)
            case measure => have := HI.out; omega
            case rel => exact ⟨i + 1, by first | rfl | exact HIW.out, rfl, rfl, HI1, HI2⟩
      · have c1 : decide ((i : Int) < (xs.length : Int)) = false := decide_eq_false (by omega)
        have c2 : decide (i < xs.length) = false := decide_eq_false ci
        obtain rfl : i = xs.length := by have := HI.out; omega
        go_wp2
        go_ret3
        exact ⟨rfl, H.out.below⟩

/-! ### impl_arcs: function 61 -/
def impl_arcs.l0 : Nat → List (S60) → List Int → Int → Int → Option ((List (S60)))
  | 0, _, _, _, _ => none
  | k + 1, x3, x7, x8, x9 => if x9 < x8 then (if 0 ≤ x9 then (if x9 < (x7.length : Int) then (if (rd x7 x9) > x9 then (if x3.length < 8796093022208 then (impl_arcs.l0 k (x3 ++ [(⟨x9, rd x7 x9⟩ : S60)]) x7 x8 (wrap64 (x9 + 1))) else (none)) else (impl_arcs.l0 k x3 x7 x8 (wrap64 (x9 + 1)))) else (none)) else (none)) else (some x3)
def impl_arcs.f (k : Nat) (l0 : List Int) : Option ((List (S60))) := impl_arcs.l0 k (([] : List (S60))) l0 (l0.length : Int) 0
theorem impl_arcs.mono_l : ∀ k, (∀ y0 y1 y2 y3, LeO (impl_arcs.l0 k y0 y1 y2 y3) (impl_arcs.l0 (k + 1) y0 y1 y2 y3))
  | 0 => fun _ _ _ _ r h => by simp [impl_arcs.l0] at h
  | k + 1 => by
    have ih0 := impl_arcs.mono_l k
    · intro y0 y1 y2 y3
      unfold impl_arcs.l0
      repeat' first
      | (with_reducible exact ih0 _ _ _ _)
      | (with_reducible exact LeO.refl _)
      | (with_reducible exact LeO.none _)
      | (with_reducible refine LeO.ite ?_ ?_)
      | (with_reducible refine LeO.bind ?_ (fun _ => ?_))
      | exact ih0 _ _ _ _
      | exact LeO.none _
      | refine LeO.ite ?_ ?_
      | refine LeO.bind ?_ (fun _ => ?_)
theorem impl_arcs.mono : ∀ a0 k, LeO (impl_arcs.f k a0) (impl_arcs.f (k + 1) a0) := by
  intro a0 k
  have ih0 := impl_arcs.mono_l k
  unfold impl_arcs.f
  repeat' first
      | (with_reducible exact ih0 _ _ _ _)
      | (with_reducible exact LeO.refl _)
      | (with_reducible exact LeO.none _)
      | (with_reducible refine LeO.ite ?_ ?_)
      | (with_reducible refine LeO.bind ?_ (fun _ => ?_))
      | exact ih0 _ _ _ _
      | exact LeO.none _
      | refine LeO.ite ?_ ?_
      | refine LeO.bind ?_ (fun _ => ?_)
set_option maxHeartbeats 8000000 in
set_option maxRecDepth 100000 in
theorem impl_arcs.calls (k : Nat) (A0 : Option Addr) (c0 : Nat) (l0 : List Int) (r : List (S60)) (w : World) (hr0 : Kd.C (Kd.int .i64) w A0 l0.length l0) (hc0 : l0.length ≤ c0) (h : impl_arcs.f k l0 = some r) :
    Calls Try.prog 61 #[.slice A0 l0.length c0] w fun e w' => ∃ v0_ : Value, e = .returned (v0_) ∧ Kd.R k60 60 w' w.heap.size (fun _ => True) v0_ r ∧ Below w.heap.size w w' := by
  have hu60 := Try.underlying60
  have HR0 := Aside0.mk hr0
  have HC0 := Aside0.mk hc0
  clear hr0 hc0
  have HB := Aside0.mk (Below.refl w.heap.size w)
  have H : (impl_arcs.l0 k (([] : List (S60))) l0 (l0.length : Int) 0) = some r := h
  clear h
  obtain ⟨y360, hy360⟩ : ∃ y_ : List (S60), y_ = (([] : List (S60))) := ⟨_, rfl⟩
  replace H : (impl_arcs.l0 k y360 l0 (l0.length : Int) 0) = some r := by first | (rw [hy360]; with_reducible exact H) | (have H2_ := (Option.bind_some _ _).symm.trans H; rw [hy360]; with_reducible exact H2_) | (have H2_ := (Option.bind_some _ _).symm.trans H; with_reducible exact H2_) | with_reducible exact H | (rw [hy360]; exact H) | exact H
  have Ny360 := Aside0.mk hy360
  clear hy360
  have H' := Aside0.mk H
  clear H
  go_enter Try.func61, Try.ntmps61
  go_wp2_with (first | ((with_reducible refine gate_dst (N := 6) rfl ?_); refine Kd.R_lit k60 _ 60 ?hg (N := 6) ?hd (xs := ([] : List (S60))) (inner := []) (ok := fun _ => True) (okp := fun _ => True) ?hr ?hp (fun _ hk => hk) trivial (Below.refl _ _) (Nat.le_refl _) (by simp) ?_; (case hd => rfl); (case hg => rfl); (case hr => first | (go_simp; done) | (go_simp; rfl)); (case hp => exact (Reps.none _ _)); intro v361 w2 ho3 hb hg_ hnew_; clear hg_ hnew_; (first | rw [← Ny360.out] at ho3 | (simp only [Int.reduceToNat] at ho3; rw [← Ny360.out] at ho3)); have n0_ := Aside0.mk (Kd.R_lower ho3 (below_size (by repeat (first | (with_reducible first | exact HB.out | apply below_alloc | apply pw_below_drewN | apply below_drew1) | exact HB.out)))); have n1_ := Aside0.mk (below_step (by repeat (first | (with_reducible first | exact HB.out | apply below_alloc | apply pw_below_drewN | apply below_drew1) | exact HB.out)) hb); clear HB; have HO362 := n0_; have HB := n1_; clear n0_ n1_; clear hb ho3))
  go_loopg [3, 9] k (fun kq v3 v9 w' => ∃ (x3_1 : List (S60)) (x9_1 : Int), v9 = .int .i64 x9_1 ∧ Aside0 (impl_arcs.l0 kq x3_1 l0 (l0.length : Int) x9_1 = some r) ∧ Aside0 (kq ≤ k) ∧ Aside0 (Kd.R k60 60 w' w.heap.size (fun _ => True) v3 x3_1) ∧ Aside0 (Below w.heap.size w w'))
  case atStart => exact ⟨(y360), (0), (by first | rfl | (simp; done) | (simp [*]; done)), H', ⟨Nat.le_refl _⟩, ⟨by (with_reducible repeat (first | apply Kd.R_alloc | apply Kd.R_drewN | apply Kd.R_drew)); exact HO362.out⟩, ⟨by repeat (first | (with_reducible first | exact HB.out | apply below_alloc | apply pw_below_drewN | apply below_drew1) | exact HB.out)⟩⟩
  case round =>
    clear H'
    try clear p2
    obtain ⟨x3_1, x9_1, rfl, HA, HK1, HO_3, HB⟩ := hrel
    cases gk with
    | zero => exact absurd HA.out (by simp [impl_arcs.l0])
    | succ k1 =>
      have H := HA.out
      clear HA
      simp only [impl_arcs.l0] at H
      by_cases c4 : x9_1 < (l0.length : Int)
      · rw [if_pos c4] at H
        have c4b0 : decide (x9_1 < (l0.length : Int)) = true := decide_eq_true c4
        clear c4
        by_cases c5 : 0 ≤ x9_1
        · rw [if_pos c5] at H
          have c5b0 : decide (0 ≤ x9_1) = true := decide_eq_true c5
          clear c5
          by_cases c6 : x9_1 < (l0.length : Int)
          · rw [if_pos c6] at H
            have c6b0 : decide (x9_1 < (l0.length : Int)) = true := decide_eq_true c6
            clear c6
            by_cases c7 : (rd l0 x9_1) > x9_1
            · rw [if_pos c7] at H
              have c7b0 : decide (x9_1 < (rd l0 x9_1)) = true := decide_eq_true c7
              clear c7
              by_cases c8 : x3_1.length < 8796093022208
              · rw [if_pos c8] at H
                have LMc8 := Aside0.mk c8
                clear c8
                obtain ⟨y364, hy364⟩ : ∃ y_ : List (S60), y_ = (x3_1 ++ [(⟨x9_1, rd l0 x9_1⟩ : S60)]) := ⟨_, rfl⟩
                replace H : (impl_arcs.l0 k1 y364 l0 (l0.length : Int) (wrap64 (x9_1 + 1))) = some r := by first | (rw [hy364]; with_reducible exact H) | (have H2_ := (Option.bind_some _ _).symm.trans H; rw [hy364]; with_reducible exact H2_) | (have H2_ := (Option.bind_some _ _).symm.trans H; with_reducible exact H2_) | with_reducible exact H | (rw [hy364]; exact H) | exact H
                have Ny364 := Aside0.mk hy364
                clear hy364
                have H' := Aside0.mk H
                clear H
                have p363 : 0 ≤ (x9_1 : Int) := of_decide_eq_true (by first | (with_reducible assumption) | assumption)
                have q363 : x9_1 < (l0.length : Int) := of_decide_eq_true (by first | (with_reducible assumption) | assumption)
                obtain ⟨ad363, e363, hx363_0⟩ := Kd.at_int HR0.out x9_1 p363 q363
                cases e363
                replace hx363_0 := (HB.out.cell (World.block_lt_of_cell? w _ hx363_0)).trans hx363_0
                replace p363 := eq_true p363
                replace q363 := eq_true q363
                go_wp2_with (first | ((with_reducible refine gate_builtin (b := .append) (xs := #[.tmp 17, .tmp 21]) rfl ?_); at_builtin; refine Kd.R_append k60 (w0 := w) w.heap.size rfl (.tmp 17) (.tmp 21) 35 60 (.agg #[(.int .i64 0), (.int .i64 0)]) 16 rfl Try.underlying35 info60 rfl (by decide) (by omega) u3 x3_1 (⟨x9_1, rd l0 x9_1⟩ : S60) [.int .i64 x9_1, .int .i64 (rd l0 x9_1)] (fun _ => True) (fun _ => False) rfl rfl ?aP (fun _ hk => hk.elim) ?aF ?aO ?aB ?aS ?aL ?_; (case aP => exact k60_mkM _ _ _ (⟨x9_1, rd l0 x9_1⟩ : S60)); (case aB => exact (by repeat (first | (with_reducible first | exact HB.out | apply below_alloc | apply pw_below_drewN | apply below_drew1) | exact HB.out))); (case aF => exact (fun _ _ => trivial)); (case aO => exact (by (with_reducible repeat (first | apply Kd.R_alloc | apply Kd.R_drewN | apply Kd.R_drew)); exact HO_3.out)); (case aS => exact (below_size (by repeat (first | (with_reducible first | exact HB.out | apply below_alloc | apply pw_below_drewN | apply below_drew1) | exact HB.out)))); (case aL => have := LMc8.out; omega); intro v365 w9 ho hb hg hat; rw [← Ny364.out] at ho; have n0_ := Aside0.mk (hb); have n1_ := Aside0.mk (ho); clear HB; clear HO_3; have HB := n0_; have HO366 := n1_; clear n0_ n1_; clear ho hb hg hat))
                go_roundg k1
                case measure => have := HK1.out; omega
                case rel => exact ⟨(y364), (wrap64 (x9_1 + 1)), (by first | rfl | (simp; done) | (simp [*]; done)), H', ⟨by have := HK1.out; omega⟩, ⟨by (with_reducible repeat (first | apply Kd.R_alloc | apply Kd.R_drewN | apply Kd.R_drew)); exact HO366.out⟩, ⟨by repeat (first | (with_reducible first | exact HB.out | apply below_alloc | apply pw_below_drewN | apply below_drew1) | exact HB.out)⟩⟩
              · rw [if_neg c8] at H
                exact absurd H (by simp)
            · rw [if_neg c7] at H
              have c7b0 : decide (x9_1 < (rd l0 x9_1)) = false := decide_eq_false c7
              clear c7
              have H' := Aside0.mk H
              clear H
              have p363 : 0 ≤ (x9_1 : Int) := of_decide_eq_true (by first | (with_reducible assumption) | assumption)
              have q363 : x9_1 < (l0.length : Int) := of_decide_eq_true (by first | (with_reducible assumption) | assumption)
              obtain ⟨ad363, e363, hx363_0⟩ := Kd.at_int HR0.out x9_1 p363 q363
              cases e363
              replace hx363_0 := (HB.out.cell (World.block_lt_of_cell? w _ hx363_0)).trans hx363_0
              replace p363 := eq_true p363
              replace q363 := eq_true q363
              go_wp2
              go_roundg k1
              case measure => have := HK1.out; omega
              case rel => exact ⟨(x3_1), (wrap64 (x9_1 + 1)), (by first | rfl | (simp; done) | (simp [*]; done)), H', ⟨by have := HK1.out; omega⟩, ⟨by (with_reducible repeat (first | apply Kd.R_alloc | apply Kd.R_drewN | apply Kd.R_drew)); exact HO_3.out⟩, ⟨by repeat (first | (with_reducible first | exact HB.out | apply below_alloc | apply pw_below_drewN | apply below_drew1) | exact HB.out)⟩⟩
          · rw [if_neg c6] at H
            exact absurd H (by simp)
        · rw [if_neg c5] at H
          exact absurd H (by simp)
      · rw [if_neg c4] at H
        have c4b0 : decide (x9_1 < (l0.length : Int)) = false := decide_eq_false c4
        clear c4
        obtain rfl := Option.some.inj H
        go_wp2
        go_ret
        exact ⟨_, by first | rfl | (simp [errW_none, errW_some] <;> rfl) | (simp [*, errW_none, errW_some] <;> rfl), by (with_reducible repeat (first | apply Kd.R_alloc | apply Kd.R_drewN | apply Kd.R_drew)); exact HO_3.out, by repeat (first | (with_reducible first | exact HB.out | apply below_alloc | apply pw_below_drewN | apply below_drew1) | exact HB.out)⟩

/-! ### impl_CrossingsOf: function 32 -/
def impl_CrossingsOf.step (x y : S60) (s : Int × Int) : Int × Int := (if y.f1 < x.f0 then s else if y.f1 < x.f1 then (wrap64 (s.1 + 1), s.2) else (s.1, wrap64 (s.2 + 1)))
def impl_CrossingsOf.inner (xs : List S60) (i : Nat) (s : Int × Int) : Nat → Int × Int
  | 0 => s
  | j + 1 => impl_CrossingsOf.step (rd_T60 xs (i : Int)) (rd_T60 (xs.take i) (j : Int)) (impl_CrossingsOf.inner xs i s j)
def impl_CrossingsOf.outer (xs : List S60) : Nat → Int × Int
  | 0 => (0, 0)
  | i + 1 => impl_CrossingsOf.inner xs i (impl_CrossingsOf.outer xs i) i
def impl_CrossingsOf.f (k : Nat) (l0 : List Int) : Option (Int × Int × Bool) := (impl_IsMatching.f k l0).bind fun t => if t = true then (impl_arcs.f k l0).bind fun xs => (if xs.length ≤ 1048576 then some ((impl_CrossingsOf.outer xs xs.length).1, (impl_CrossingsOf.outer xs xs.length).2, true) else none) else some (0, 0, false)
theorem impl_CrossingsOf.mono : ∀ a0 k, LeO (impl_CrossingsOf.f k a0) (impl_CrossingsOf.f (k + 1) a0) := fun a0 k => LeO.bind (impl_IsMatching.mono _ _) (fun _ => LeO.ite (LeO.bind (impl_arcs.mono _ _) (fun _ => LeO.refl _)) (LeO.refl _))
set_option maxHeartbeats 8000000 in
set_option maxRecDepth 100000 in
open impl_CrossingsOf Go.Proofs.Ytgpigjjhkemmeaa.Live in
theorem impl_CrossingsOf.calls (k : Nat) (A0 : Option Addr) (c0 : Nat) (l0 : List Int) (r1 r2 : Int) (r3 : Bool) (w : World) (hr0 : Kd.C (Kd.int .i64) w A0 l0.length l0) (hc0 : l0.length ≤ c0) (h : impl_CrossingsOf.f k l0 = some (r1, r2, r3)) :
    Calls Try.prog 32 #[.slice A0 l0.length c0] w fun e w' => e = .returned (.tuple #[.int .i64 r1, .int .i64 r2, .bool r3]) ∧ Below w.heap.size w w' := by
  have HC := Aside0.mk hr0; have HL := Aside0.mk hc0; clear hr0 hc0
  obtain ⟨t, e1, h⟩ := Option.bind_eq_some_iff.mp h
  have E1 := Aside0.mk e1; clear e1
  have H := Aside0.mk (Live.start w)
  cases t with
  | false =>
    rw [if_neg (by simp)] at h
    simp only [Option.some.injEq, Prod.mk.injEq] at h
    obtain ⟨rfl, rfl, rfl⟩ := h
    go_enter Try.func32, Try.ntmps32
    go_wp2_with (first | (go_at_call 17; (with_reducible refine (impl_IsMatching.calls k _ _ _ _ _ HC.out HL.out E1.out).mono ?_); rintro e w' ⟨rfl, nd, rfl⟩))
    go_ret3
    exact ⟨rfl, (H.out.drewN nd).below⟩
  | true =>
    rw [if_pos rfl] at h
    obtain ⟨xs, e2, h⟩ := Option.bind_eq_some_iff.mp h
    by_cases hx : xs.length ≤ 1048576
    case neg => rw [if_neg hx] at h; exact absurd h (by simp)
    rw [if_pos hx] at h
    simp only [Option.some.injEq, Prod.mk.injEq] at h
    obtain ⟨rfl, rfl, rfl⟩ := h
    have E2 := Aside0.mk e2; clear e2
    have HX := Aside0.mk hx; clear hx
    go_enter Try.func32, Try.ntmps32
    go_wp2_with (first | (go_at_call 17; (with_reducible refine (impl_IsMatching.calls k _ _ _ _ _ HC.out HL.out E1.out).mono ?_); rintro e w' ⟨rfl, nd, rfl⟩; replace H := Aside0.mk (H.out.drewN nd)) | (go_at_call 61; (with_reducible refine (impl_arcs.calls k _ _ _ _ _ (Kd.C_below HC.out H.out.below) HL.out E2.out).mono ?_); rintro e w1 ⟨v_, rfl, hs_, hb⟩; replace H := Aside0.mk (H.out.add (o := row _ _ _ _) hb hs_); clear hb hs_; obtain ⟨A, c, rfl, hc, _⟩ := H.out.form 0 rfl; have HC1 := Aside0.mk hc; clear hc))
    have hn : (Int.ofNat 0) = 0 := rfl
    clear hn
    go_loopg [19, 5, 6] (xs.length + 1) (fun kq v19 v5 v6 w' => ∃ i : Nat, v19 = .int .i64 (i : Int) ∧ v5 = .int .i64 (outer xs i).1 ∧ v6 = .int .i64 (outer xs i).2 ∧ Aside0 (i ≤ xs.length ∧ kq = xs.length - i + 1) ∧ Aside0 (Live w w' [row k60 60 (.slice A xs.length c) xs]))
    case atStart => exact ⟨0, rfl, rfl, rfl, ⟨Nat.zero_le _, rfl⟩, H⟩
    case round =>
      clear H HC1
      obtain ⟨i, rfl, rfl, rfl, HI, H⟩ := hrel
      rename World => wq
      by_cases ci : i < xs.length
      · have c1 : decide ((i : Int) < (xs.length : Int)) = true := decide_eq_true (by omega)
        have c2 : decide (i < xs.length) = true := decide_eq_true ci
        have HI1 : Aside0 (i + 1 ≤ xs.length ∧ xs.length - i = xs.length - (i + 1) + 1) := ⟨by omega⟩
        obtain ⟨g, c', e1, _, _⟩ := H.out.form1 0 rfl (by omega)
        injection e1 with ea en ec
        subst ea; subst ec; clear en
        obtain ⟨_, hcc, hC⟩ := H.out.now 0 rfl
        obtain ⟨ad, e1, hx0, hx1⟩ := at_T60 hC (i : Int) (by omega) (by omega)
        injection e1 with e1; subst e1
        simp only [Int.toNat_natCast, add_at, Nat.zero_add] at hx0 hx1
        have hil : i ≤ 1048576 := by have := HX.out; omega
        have hcut : ∀ W, (Instr.slice 35 (.slice (some ⟨g, 0, none⟩) xs.length c) none (some (.int .i64 (i : Int))) none).run Try.prog W = .ok (.slice (some ⟨g, 0, none⟩) (xs.take i).length c) W := fun W => by
          rw [List.length_take, Nat.min_eq_left (by omega)]
          exact cut_take (P := Try.prog) 35 60 .i64 Try.underlying35 info60 (some ⟨g, 0, none⟩) xs.length c i (by omega) W
        have HK := Aside0.mk (Kd.C_take hC (show i ≤ xs.length by omega))
        clear hC hcc
        have H2 := Aside0.mk (H.out.new #[.int .i64 (rd_T60 xs (i : Int)).f0, .int .i64 (rd_T60 xs (i : Int)).f1] 60)
        obtain ⟨ys, hys⟩ : ∃ ys, ys = xs.take i := ⟨_, rfl⟩
        rw [← hys] at HK hcut
        obtain ⟨x, hx⟩ : ∃ x, x = rd_T60 xs (i : Int) := ⟨_, rfl⟩
        rw [← hx] at H2 hx0 hx1
        have HY := Aside0.mk hys; clear hys
        have HXX := Aside0.mk hx; clear hx
        go_wp2_with (fail)
        clear hcut
        go_loopg [28, 5, 6] (ys.length + 1) (fun kq v28 v5 v6 w' => ∃ j : Nat, v28 = .int .i64 (j : Int) ∧ v5 = .int .i64 (inner xs i (outer xs i) j).1 ∧ v6 = .int .i64 (inner xs i (outer xs i) j).2 ∧ Aside0 (j ≤ ys.length ∧ kq = ys.length - j + 1) ∧ Aside0 (Live w w' [row k60 60 (.slice (some ⟨g, 0, none⟩) xs.length c) xs, var wq.heap.size #[.int .i64 x.f0, .int .i64 x.f1] 60]))
        case atStart => exact ⟨0, rfl, rfl, rfl, ⟨Nat.zero_le _, rfl⟩, H2⟩
        case round =>
          clear H2
          obtain ⟨j, rfl, rfl, rfl, HJ, H2⟩ := hrel
          by_cases cj : j < ys.length
          · have d1 : decide ((j : Int) < (ys.length : Int)) = true := decide_eq_true (by omega)
            have d2 : decide (j < ys.length) = true := decide_eq_true cj
            have HJ1 : Aside0 (j + 1 ≤ ys.length ∧ ys.length - j = ys.length - (j + 1) + 1) := ⟨by omega⟩
            have HJW := Aside0.mk (up1 (j := j) (by have := HX.out; have : ys.length ≤ xs.length := (by rw [HY.out, List.length_take]; omega); omega))
            have hC2 : Kd.C k60 wr (some ⟨g, 0, none⟩) ys.length ys := by
              have h9 := (Kd.C_take (H2.out.now 0 rfl).2.2 (show i ≤ xs.length by omega))
              rw [← HY.out] at h9
              exact h9
            obtain ⟨ad, e1, hy0, hy1⟩ := at_T60 hC2 (j : Int) (by omega) (by omega)
            injection e1 with e1; subst e1
            clear hC2
            simp only [Int.toNat_natCast, add_at, Nat.zero_add] at hy0 hy1
            obtain ⟨y, hy⟩ : ∃ y, y = rd_T60 ys (j : Int) := ⟨_, rfl⟩
            rw [← hy] at hy0 hy1
            have HYY := Aside0.mk hy; clear hy
            obtain ⟨s, hs⟩ : ∃ s, s = inner xs i (outer xs i) j := ⟨_, rfl⟩
            have e5 : inner xs i (outer xs i) (j + 1) = step x y s := by rw [inner, HXX.out, HYY.out, HY.out, hs]
            rw [← hs]
            have HS := Aside0.mk hs; clear hs
            have E5 := Aside0.mk e5; clear e5
            have hg0 : wr.cell? ⟨wq.heap.size, 0, none⟩ = some (.int .i64 x.f0) := H2.out.cell 1 rfl 0
            have hg1 : wr.cell? ⟨wq.heap.size, 1, none⟩ = some (.int .i64 x.f1) := H2.out.cell 1 rfl 1
            have hlt : wq.heap.size < wr.heap.size := H2.out.lt 1 rfl
            have HN := Aside0.mk (H2.out.alloc (.cells #[.int .i64 y.f0, .int .i64 y.f1] 60))
            by_cases b1 : y.f1 < x.f0
            all_goals by_cases b2 : y.f1 < x.f1
            all_goals (first | have g1 : decide (y.f1 < x.f0) = false := decide_eq_false b1 | have g1 : decide (y.f1 < x.f0) = true := decide_eq_true b1)
            all_goals (first | have g2 : decide (y.f1 < x.f1) = false := decide_eq_false b2 | have g2 : decide (y.f1 < x.f1) = true := decide_eq_true b2)
            all_goals go_wp2
            all_goals go_roundg (ys.length - j)
            all_goals (try (case measure => have := HJ.out; omega))
            all_goals exact ⟨j + 1, HJW.out, by rw [E5.out]; simp only [step]; first | rw [if_pos (by omega)] | rw [if_neg (by omega), if_pos (by omega)] | rw [if_neg (by omega), if_neg (by omega)], by rw [E5.out]; simp only [step]; first | rw [if_pos (by omega)] | rw [if_neg (by omega), if_pos (by omega)] | rw [if_neg (by omega), if_neg (by omega)], HJ1, HN⟩
          · have d1 : decide ((j : Int) < (ys.length : Int)) = false := decide_eq_false (by omega)
            have d2 : decide (j < ys.length) = false := decide_eq_false cj
            obtain rfl : j = ys.length := by have := HJ.out; omega
            have eo : inner xs i (outer xs i) ys.length = outer xs (i + 1) := by rw [outer, HY.out, List.length_take, Nat.min_eq_left (by omega)]
            rw [eo]
            have HI2 := Aside0.mk (H2.out.keep 1)
            have HIW : Aside0 (Value.int .i64 (wrap64 ((i : Int) + 1)) = .int .i64 ((i + 1 : Nat) : Int)) := ⟨by rw [show wrap64 ((i : Int) + 1) = ((i + 1 : Nat) : Int) from by unfold wrap64; omega]⟩
            go_wp2
            go_roundg (xs.length - i)
            case measure => have := HI.out; omega
            case rel => exact ⟨i + 1, by first | rfl | exact HIW.out, rfl, rfl, HI1, HI2⟩
      · have c1 : decide ((i : Int) < (xs.length : Int)) = false := decide_eq_false (by omega)
        have c2 : decide (i < xs.length) = false := decide_eq_false ci
        obtain rfl : i = xs.length := by have := HI.out; omega
        go_wp2
        go_ret3
        exact ⟨rfl, H.out.below⟩

end Go.Proofs.Ytgpigjjhkemmeaa.R
