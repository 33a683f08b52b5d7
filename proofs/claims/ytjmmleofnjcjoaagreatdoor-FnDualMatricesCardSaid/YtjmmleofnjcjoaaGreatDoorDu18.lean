-- Written by hook.py (wip/), over the kit's print.py.
import Derived.Test.YtjmmleofnjcjoaaGreatDoorDu2
import Derived.Test.YtjmmleofnjcjoaaGreatDoorDu16
import Derived.Test.YtjmmleofnjcjoaaGreatDoorDuXSq
namespace Go.Proofs.YtjmmleofnjcjoaaGreatDoor.Du
open Go.RowKit Go.Proofs.YtjmmleofnjcjoaaGreatDoorW.PrintWords Go.Proofs.YtjmmleofnjcjoaaGreatDoorW.PrintLast Go.Proofs.YtjmmleofnjcjoaaGreatDoorW.PrintMore Go.Proofs.YtjmmleofnjcjoaaGreatDoor.Sq
attribute [local go_sem] max2_int min2_int max_two min_two max_three min_three max_four min_four
set_option linter.unusedVariables false
set_option linter.unusedSimpArgs false
set_option maxHeartbeats 8000000
set_option maxRecDepth 100000
mutual
def Y11.l0 : Nat → Int → Int → List Int → Option (List Int × Bool)
 | 0, _, _, _ => none
 | k + 1, x4, x416000, x416001 => if x4 < x416000 then (Y11.l1 k x4 0 x416000 x416001) else (some (([] : List Int), false))
def Y11.l1 : Nat → Int → Int → Int → List Int → Option (List Int × Bool)
 | 0, _, _, _, _ => none
 | k + 1, x4, x5, x416000, x416001 => if x5 < x416000 then (Y11.l2 k x4 x5 0 x416000 x416001) else (Y11.l0 k (wrap64 (x4 + 1)) x416000 x416001)
def Y11.l2 : Nat → Int → Int → Int → Int → List Int → Option (List Int × Bool)
 | 0, _, _, _, _, _ => none
 | k + 1, x4, x5, x6, x416000, x416001 => if x6 < x416000 then (Y11.l3 k x4 x5 x6 0 x416000 x416001) else (Y11.l1 k x4 (wrap64 (x5 + 1)) x416000 x416001)
def Y11.l3 : Nat → Int → Int → Int → Int → Int → List Int → Option (List Int × Bool)
 | 0, _, _, _, _, _, _ => none
 | k + 1, x4, x5, x6, x7, x416000, x416001 => if x7 < x416000 then ((Y55.f x416000 x416001 x4 x5 x6 x7).bind fun t416 => (if t416 = true then (some ((([x4, x5, x6, x7] : List Int)), true)) else (Y11.l3 k x4 x5 x6 (wrap64 (x7 + 1)) x416000 x416001))) else (Y11.l2 k x4 x5 (wrap64 (x6 + 1)) x416000 x416001)
end
def Y11.f (k : Nat) (a0_0 : Int) (l0_1 : List Int) : Option (List Int × Bool) := Y11.l0 k 0 a0_0 l0_1
theorem Y11.calls (k : Nat) (a0_0 : Int) (A0_1 : Option Addr) (c0_1 : Nat) (l0_1 : List Int) (r1 : List Int) (r2 : Bool) (w : World) (hr0_1 : Kd.C (Kd.int .i64) w A0_1 l0_1.length l0_1) (hc0_1 : l0_1.length ≤ c0_1) (h : Y11.f k a0_0 l0_1 = some (r1, r2)) :
  Calls Tryz.prog 205 #[.agg #[.int .i64 a0_0, .slice A0_1 l0_1.length c0_1]] w fun e w' => ∃ v0_ : Value, e = .returned (.tuple #[v0_, .bool r2]) ∧ Kd.R (Kd.int .i64) 3 w' w.heap.size (fun _ => True) v0_ r1 ∧ Below w.heap.size w w' := by
 have hu26 := Tryz.underlying26
 have HR0_1 := aM hr0_1
 have HC0_1 := aM hc0_1
 clear hr0_1 hc0_1
 have HB := aM (Below.refl w.heap.size w)
 have H : (Y11.l0 k 0 a0_0 l0_1) = some (r1, r2) := h
 clear h
 have H' := aM H
 clear H
 go_enter Tryz.func205, Tryz.ntmps205
 go_wp2_with (first | ((with_reducible refine gate_dst (N := 1) rfl ?_); refine bF 1 26 #[.int .i64 a0_0, .slice A0_1 l0_1.length c0_1] bq ?_; intro gb415 w2 hg hb _ _ _ _; clear HB; rename_i HB BK415 GW415 GE415; clear hb hg))
 go_loopg [4] k (fun kq v4 w' => ∃ (x4_1 : Int), v4 = .int .i64 x4_1 ∧ Aside0 (Y11.l0 kq x4_1 a0_0 l0_1 = some (r1, r2)) ∧ Aside0 (kq ≤ k) ∧ Aside0 (w'.heap[gb415]? = some (.cells #[.int .i64 a0_0, (.slice A0_1 l0_1.length c0_1)] 26 (0, 0))) ∧ Aside0 (Below w.heap.size w w'))
 case atStart => exact ⟨(0), eR, H', ⟨Nat.le_refl _⟩, ⟨qQ BK415⟩, ⟨bq⟩⟩
 case round =>
  clear H'
  obtain ⟨x4_1, rfl, HA, HK1, BK415, HB⟩ := hrel
  cases gk with
  | zero => exact absurd HA.out (by simp [Y11.l0])
  | succ k1 =>
   have H := HA.out
   clear HA
   simp only [Y11.l0] at H
   by_cases c3 : x4_1 < a0_0
   ·rw [if_pos c3] at H
    have c3b0 := decide_eq_true c3
    clear c3
    have H' := aM H
    clear H
    have hcz4_0 := zc20 BK415
    have hcz4_1 := zc21 BK415
    have hfz4_0 := blk_frozen BK415.out 0
    have hfz4_1 := blk_frozen BK415.out 1
    go_wp2
    go_loopg [5] k1 (fun kq v5 w' => ∃ (x5_2 : Int), v5 = .int .i64 x5_2 ∧ Aside0 (Y11.l1 kq x4_1 x5_2 a0_0 l0_1 = some (r1, r2)) ∧ Aside0 (kq ≤ k1) ∧ Aside0 (w'.heap[gb415]? = some (.cells #[.int .i64 a0_0, (.slice A0_1 l0_1.length c0_1)] 26 (0, 0))) ∧ Aside0 (Below w.heap.size w w'))
    case atStart => exact ⟨(0), eR, H', ⟨Nat.le_refl _⟩, ⟨qQ BK415⟩, ⟨bq⟩⟩
    case round =>
     clear H'
     try clear c3
     try clear c3b0
     try clear hcz4_0
     try clear hcz4_1
     try clear hfz4_0
     try clear hfz4_1
     obtain ⟨x5_2, rfl, HA, HK2, BK415, HB⟩ := hrel
     cases gk with
     | zero => exact absurd HA.out (by simp [Y11.l1])
     | succ k2 =>
      have H := HA.out
      clear HA
      simp only [Y11.l1] at H
      by_cases c5 : x5_2 < a0_0
      ·rw [if_pos c5] at H
       have c5b0 := decide_eq_true c5
       clear c5
       have H' := aM H
       clear H
       have hcz6_0 := zc20 BK415
       have hcz6_1 := zc21 BK415
       have hfz6_0 := blk_frozen BK415.out 0
       have hfz6_1 := blk_frozen BK415.out 1
       go_wp2
       go_loopg [6] k2 (fun kq v6 w' => ∃ (x6_3 : Int), v6 = .int .i64 x6_3 ∧ Aside0 (Y11.l2 kq x4_1 x5_2 x6_3 a0_0 l0_1 = some (r1, r2)) ∧ Aside0 (kq ≤ k2) ∧ Aside0 (w'.heap[gb415]? = some (.cells #[.int .i64 a0_0, (.slice A0_1 l0_1.length c0_1)] 26 (0, 0))) ∧ Aside0 (Below w.heap.size w w'))
       case atStart => exact ⟨(0), eR, H', ⟨Nat.le_refl _⟩, ⟨qQ BK415⟩, ⟨bq⟩⟩
       case round =>
        clear H'
        try clear c3
        try clear c3b0
        try clear c5
        try clear c5b0
        try clear hcz4_0
        try clear hcz4_1
        try clear hcz6_0
        try clear hcz6_1
        try clear hfz4_0
        try clear hfz4_1
        try clear hfz6_0
        try clear hfz6_1
        obtain ⟨x6_3, rfl, HA, HK3, BK415, HB⟩ := hrel
        cases gk with
        | zero => exact absurd HA.out (by simp [Y11.l2])
        | succ k3 =>
         have H := HA.out
         clear HA
         simp only [Y11.l2] at H
         by_cases c7 : x6_3 < a0_0
         ·rw [if_pos c7] at H
          have c7b0 := decide_eq_true c7
          clear c7
          have H' := aM H
          clear H
          have hcz8_0 := zc20 BK415
          have hcz8_1 := zc21 BK415
          have hfz8_0 := blk_frozen BK415.out 0
          have hfz8_1 := blk_frozen BK415.out 1
          go_wp2
          go_loopg [7] k3 (fun kq v7 w' => ∃ (x7_4 : Int), v7 = .int .i64 x7_4 ∧ Aside0 (Y11.l3 kq x4_1 x5_2 x6_3 x7_4 a0_0 l0_1 = some (r1, r2)) ∧ Aside0 (kq ≤ k3) ∧ Aside0 (w'.heap[gb415]? = some (.cells #[.int .i64 a0_0, (.slice A0_1 l0_1.length c0_1)] 26 (0, 0))) ∧ Aside0 (Below w.heap.size w w'))
          case atStart => exact ⟨(0), eR, H', ⟨Nat.le_refl _⟩, ⟨qQ BK415⟩, ⟨bq⟩⟩
          case round =>
           clear H'
           try clear c3
           try clear c3b0
           try clear c5
           try clear c5b0
           try clear c7
           try clear c7b0
           try clear hcz4_0
           try clear hcz4_1
           try clear hcz6_0
           try clear hcz6_1
           try clear hcz8_0
           try clear hcz8_1
           try clear hfz4_0
           try clear hfz4_1
           try clear hfz6_0
           try clear hfz6_1
           try clear hfz8_0
           try clear hfz8_1
           obtain ⟨x7_4, rfl, HA, HK4, BK415, HB⟩ := hrel
           cases gk with
           | zero => exact absurd HA.out (by simp [Y11.l3])
           | succ k4 =>
            have H := HA.out
            clear HA
            simp only [Y11.l3] at H
            by_cases c9 : x7_4 < a0_0
            ·rw [if_pos c9] at H
             have c9b0 := decide_eq_true c9
             clear c9
             replace H := bS H
             obtain ⟨t416, A10, H⟩ := H
             try dsimp only at H
             by_cases c11 : t416 = true
             ·subst c11
              have H1 : (some ((([x4_1, x5_2, x6_3, x7_4] : List Int)), true)) = some (r1, r2) := by rw [if_pos rfl] at H; exact H
              clear H
              have H := H1
              clear H1
              obtain ⟨y417, hy417⟩ := nE ((([x4_1, x5_2, x6_3, x7_4] : List Int)) : List Int)
              try rw [← hy417] at H
              try with_reducible replace H := (Option.bind_some _ _).symm.trans H
              try dsimp only at H
              have Ny417 := aM hy417
              clear hy417
              simp only [Option.some.injEq, Prod.mk.injEq] at H
              obtain ⟨rfl, rfl⟩ := H
              have hcz12_0 := zc20 BK415
              have hcz12_1 := zc21 BK415
              have hfz12_0 := blk_frozen BK415.out 0
              have hfz12_1 := blk_frozen BK415.out 1
              go_wp2_with (first | ((with_reducible refine gate_callee (f := 238) rfl ?_); refine gL (some 37) Tryz.func238 #[.agg #[.int .i64 a0_0, .slice A0_1 l0_1.length c0_1], .int .i64 x4_1, .int .i64 x5_2, .int .i64 x6_3, .int .i64 x7_4] ?_; (with_reducible refine (Y55.calls a0_0 _ _ l0_1 x4_1 x5_2 x6_3 x7_4 true _ (cQ (Kd.C_below HR0_1.out HB.out)) HC0_1.out A10.out).mono ?_); rintro e w13 ⟨rfl, hb⟩; refine ⟨_, rfl, ?_⟩; have _ := bK BK415 hb; have _ := bB hb; clear BK415 HB; rename_i BK415 HB; (try clear hb)) | ((with_reducible refine gate_dst (N := 42) rfl ?_); refine Kd.R_lit (Kd.int .i64) _ 3 ?hg (N := 42) ?hd (xs := ([x4_1, x5_2, x6_3, x7_4] : List Int)) (inner := [.int .i64 x4_1, .int .i64 x5_2, .int .i64 x6_3, .int .i64 x7_4]) (ok := fun _ => True) (okp := fun _ => True) ?hr ?hp (fun _ hk => hk) trivial (Below.refl _ _) (Nat.le_refl _) (by simp) ?_; (case hd => rfl); (case hg => rfl); (case hr => first | (go_simp; done) | (go_simp; rfl)); (case hp => exact (Reps.one (show Kd.M (Kd.int .i64) _ _ _ x4_1 [.int .i64 x4_1] from rfl) (Reps.one (show Kd.M (Kd.int .i64) _ _ _ x5_2 [.int .i64 x5_2] from rfl) (Reps.one (show Kd.M (Kd.int .i64) _ _ _ x6_3 [.int .i64 x6_3] from rfl) (Reps.one (show Kd.M (Kd.int .i64) _ _ _ x7_4 [.int .i64 x7_4] from rfl) (Reps.none _ _)))))); intro v418 w14 ho15 hb hg_ hnew_; clear hg_ hnew_; (first | rw [← Ny417.out] at ho15 | (simp only [Int.reduceToNat] at ho15; rw [← Ny417.out] at ho15)); have _ := aM (Kd.R_lower ho15 (below_size bq)); have _ := bK BK415 hb; have _ := bB hb; clear BK415 HB; rename_i HO419 BK415 HB; clear hb ho15))
              go_ret2
              exact ⟨_, eE, rQ HO419, bq⟩
             ·replace c11 := Bool.eq_false_iff.mpr c11
              subst c11
              have H1 : (Y11.l3 k4 x4_1 x5_2 x6_3 (wrap64 (x7_4 + 1)) a0_0 l0_1) = some (r1, r2) := by rw [if_neg (show ¬ (false = true) by decide)] at H; exact H
              clear H
              have H := H1
              clear H1
              have H' := aM H
              clear H
              have hcz16_0 := zc20 BK415
              have hcz16_1 := zc21 BK415
              have hfz16_0 := blk_frozen BK415.out 0
              have hfz16_1 := blk_frozen BK415.out 1
              go_wp2_with (first | ((with_reducible refine gate_callee (f := 238) rfl ?_); refine gL (some 37) Tryz.func238 #[.agg #[.int .i64 a0_0, .slice A0_1 l0_1.length c0_1], .int .i64 x4_1, .int .i64 x5_2, .int .i64 x6_3, .int .i64 x7_4] ?_; (with_reducible refine (Y55.calls a0_0 _ _ l0_1 x4_1 x5_2 x6_3 x7_4 false _ (cQ (Kd.C_below HR0_1.out HB.out)) HC0_1.out A10.out).mono ?_); rintro e w17 ⟨rfl, hb⟩; refine ⟨_, rfl, ?_⟩; have _ := bK BK415 hb; have _ := bB hb; clear BK415 HB; rename_i BK415 HB; (try clear hb)))
              go_roundg k4
              case measure => have := HK1.out; have := HK2.out; have := HK3.out; have := HK4.out; omega
              case rel => exact ⟨(wrap64 (x7_4 + 1)), eR, H', ⟨by have := HK1.out; have := HK2.out; have := HK3.out; have := HK4.out; omega⟩, ⟨qQ BK415⟩, ⟨bq⟩⟩
            ·rw [if_neg c9] at H
             have c9b0 := decide_eq_false c9
             clear c9
             have H' := aM H
             clear H
             have hcz18_0 := zc20 BK415
             have hcz18_1 := zc21 BK415
             have hfz18_0 := blk_frozen BK415.out 0
             have hfz18_1 := blk_frozen BK415.out 1
             go_wp2
             go_roundg k4
             case measure => have := HK1.out; have := HK2.out; have := HK3.out; have := HK4.out; omega
             case rel => exact ⟨(wrap64 (x6_3 + 1)), eR, H', ⟨by have := HK1.out; have := HK2.out; have := HK3.out; have := HK4.out; omega⟩, ⟨qQ BK415⟩, ⟨bq⟩⟩
         ·rw [if_neg c7] at H
          have c7b0 := decide_eq_false c7
          clear c7
          have H' := aM H
          clear H
          have hcz19_0 := zc20 BK415
          have hcz19_1 := zc21 BK415
          have hfz19_0 := blk_frozen BK415.out 0
          have hfz19_1 := blk_frozen BK415.out 1
          go_wp2
          go_roundg k3
          case measure => have := HK1.out; have := HK2.out; have := HK3.out; omega
          case rel => exact ⟨(wrap64 (x5_2 + 1)), eR, H', ⟨by have := HK1.out; have := HK2.out; have := HK3.out; omega⟩, ⟨qQ BK415⟩, ⟨bq⟩⟩
      ·rw [if_neg c5] at H
       have c5b0 := decide_eq_false c5
       clear c5
       have H' := aM H
       clear H
       have hcz20_0 := zc20 BK415
       have hcz20_1 := zc21 BK415
       have hfz20_0 := blk_frozen BK415.out 0
       have hfz20_1 := blk_frozen BK415.out 1
       go_wp2
       go_roundg k2
       case measure => have := HK1.out; have := HK2.out; omega
       case rel => exact ⟨(wrap64 (x4_1 + 1)), eR, H', ⟨by have := HK1.out; have := HK2.out; omega⟩, ⟨qQ BK415⟩, ⟨bq⟩⟩
   ·rw [if_neg c3] at H
    have c3b0 := decide_eq_false c3
    clear c3
    simp only [Option.some.injEq, Prod.mk.injEq] at H
    obtain ⟨rfl, rfl⟩ := H
    have hcz21_0 := zc20 BK415
    have hcz21_1 := zc21 BK415
    have hfz21_0 := blk_frozen BK415.out 0
    have hfz21_1 := blk_frozen BK415.out 1
    go_wp2
    go_ret2
    exact ⟨_, eE, by first | exact Kd.R_nil _ _ _ _ _ | exact Kd.N_nil _ _ _ _ _ | exact Kd.V_nil _ _ _ _ _ | exact Kd.Q_nil _ _ _ _ _ | exact Kd.S_nil _ _ _ _ _, bq⟩
def Y60.f (k : Nat) (a0_0 : Int) (l0_1 : List Int) : Option (Bool) := (Y11.f k a0_0 l0_1).bind fun bt421 => (some (!bt421.2))
theorem Y60.calls (k : Nat) (a0_0 : Int) (A0_1 : Option Addr) (c0_1 : Nat) (l0_1 : List Int) (r : Bool) (w : World) (hr0_1 : Kd.C (Kd.int .i64) w A0_1 l0_1.length l0_1) (hc0_1 : l0_1.length ≤ c0_1) (h : Y60.f k a0_0 l0_1 = some r) :
  Calls Tryz.prog 155 #[.agg #[.int .i64 a0_0, .slice A0_1 l0_1.length c0_1]] w fun e w' => e = .returned (.bool r) ∧ Below w.heap.size w w' := by
 have hu26 := Tryz.underlying26
 have HR0_1 := aM hr0_1
 have HC0_1 := aM hc0_1
 clear hr0_1 hc0_1
 have HB := aM (Below.refl w.heap.size w)
 unfold Y60.f at h
 have H := h
 clear h
 replace H := bS H
 obtain ⟨⟨t421, t424⟩, A2, H⟩ := H
 try dsimp only at H
 obtain rfl := Option.some.inj H
 go_enter Tryz.func155, Tryz.ntmps155
 go_wp2_with (first | ((with_reducible refine gate_dst (N := 1) rfl ?_); refine bF 1 26 #[.int .i64 a0_0, .slice A0_1 l0_1.length c0_1] bq ?_; intro gb420 w3 hg hb _ _ _ _; clear HB; rename_i HB BK420 GW420 GE420; clear hb hg; have hcz4_0 := zc20 BK420; have hcz4_1 := zc21 BK420; have hfz4_0 := blk_frozen BK420.out 0; have hfz4_1 := blk_frozen BK420.out 1) | ((with_reducible refine gate_callee (f := 205) rfl ?_); refine gL (some 7) Tryz.func205 #[.agg #[.int .i64 a0_0, .slice A0_1 l0_1.length c0_1]] ?_; (with_reducible refine (Y11.calls k a0_0 _ _ l0_1 t421 t424 _ (cQ (Kd.C_below HR0_1.out HB.out)) HC0_1.out A2.out).mono ?_); rintro e w5 ⟨v422, rfl, ho0, hb⟩; refine ⟨_, rfl, ?_⟩; have _ := aM (Kd.R_lower ho0 (below_size bq)); have _ := bK BK420 hb; have _ := bB hb; clear BK420 HB; rename_i HO423 BK420 HB; (try clear hb); (try clear ho0)))
 go_ret
 exact ⟨eE, bq⟩
def Y57.f (k : Nat) (a0_0 : Int) (l0_1 : List Int) : Option (Bool) := (Y27.f k a0_0 l0_1).bind fun t426 => (if t426 = true then ((Y60.f k a0_0 l0_1).bind fun t427 => (some t427)) else (some false))
theorem Y57.calls (k : Nat) (a0_0 : Int) (A0_1 : Option Addr) (c0_1 : Nat) (l0_1 : List Int) (r : Bool) (w : World) (hr0_1 : Kd.C (Kd.int .i64) w A0_1 l0_1.length l0_1) (hc0_1 : l0_1.length ≤ c0_1) (h : Y57.f k a0_0 l0_1 = some r) :
  Calls Tryz.prog 72 #[.agg #[.int .i64 a0_0, .slice A0_1 l0_1.length c0_1]] w fun e w' => e = .returned (.bool r) ∧ Below w.heap.size w w' := by
 have hu26 := Tryz.underlying26
 have HR0_1 := aM hr0_1
 have HC0_1 := aM hc0_1
 clear hr0_1 hc0_1
 have HB := aM (Below.refl w.heap.size w)
 unfold Y57.f at h
 have H := h
 clear h
 replace H := bS H
 obtain ⟨t426, A2, H⟩ := H
 try dsimp only at H
 by_cases c3 : t426 = true
 ·subst c3
  have H1 : ((Y60.f k a0_0 l0_1).bind fun t427 => (some t427)) = some r := by rw [if_pos rfl] at H; exact H
  clear H
  have H := H1
  clear H1
  replace H := bS H
  obtain ⟨t427, A4, H⟩ := H
  try dsimp only at H
  obtain rfl := Option.some.inj H
  go_enter Tryz.func72, Tryz.ntmps72
  go_wp2_with (first | ((with_reducible refine gate_dst (N := 1) rfl ?_); refine bF 1 26 #[.int .i64 a0_0, .slice A0_1 l0_1.length c0_1] bq ?_; intro gb425 w5 hg hb _ _ _ _; clear HB; rename_i HB BK425 GW425 GE425; clear hb hg; have hcz6_0 := zc20 BK425; have hcz6_1 := zc21 BK425; have hfz6_0 := blk_frozen BK425.out 0; have hfz6_1 := blk_frozen BK425.out 1) | ((with_reducible refine gate_callee (f := 91) rfl ?_); refine gL (some 4) Tryz.func91 #[.agg #[.int .i64 a0_0, .slice A0_1 l0_1.length c0_1]] ?_; (with_reducible refine (Y27.calls k a0_0 _ _ l0_1 true _ (cQ (Kd.C_below HR0_1.out HB.out)) HC0_1.out A2.out).mono ?_); rintro e w7 ⟨rfl, hb⟩; refine ⟨_, rfl, ?_⟩; have _ := bK BK425 hb; have _ := bB hb; clear BK425 HB; rename_i BK425 HB; (try clear hb); have hcz8_0 := zc20 BK425; have hcz8_1 := zc21 BK425; have hfz8_0 := blk_frozen BK425.out 0; have hfz8_1 := blk_frozen BK425.out 1) | (go_at_call 155; (with_reducible refine (Y60.calls k a0_0 _ _ l0_1 t427 _ (cQ (Kd.C_below HR0_1.out HB.out)) HC0_1.out A4.out).mono ?_); rintro e w9 ⟨rfl, hb⟩; have _ := bK BK425 hb; have _ := bB hb; clear BK425 HB; rename_i BK425 HB; (try clear hb)))
  go_ret
  exact ⟨eE, bq⟩
 ·replace c3 := Bool.eq_false_iff.mpr c3
  subst c3
  have H1 : (some false) = some r := by rw [if_neg (show ¬ (false = true) by decide)] at H; exact H
  clear H
  have H := H1
  clear H1
  obtain rfl := Option.some.inj H
  go_enter Tryz.func72, Tryz.ntmps72
  go_wp2_with (first | ((with_reducible refine gate_dst (N := 1) rfl ?_); refine bF 1 26 #[.int .i64 a0_0, .slice A0_1 l0_1.length c0_1] bq ?_; intro gb425 w10 hg hb _ _ _ _; clear HB; rename_i HB BK425 GW425 GE425; clear hb hg; have hcz11_0 := zc20 BK425; have hcz11_1 := zc21 BK425; have hfz11_0 := blk_frozen BK425.out 0; have hfz11_1 := blk_frozen BK425.out 1) | ((with_reducible refine gate_callee (f := 91) rfl ?_); refine gL (some 4) Tryz.func91 #[.agg #[.int .i64 a0_0, .slice A0_1 l0_1.length c0_1]] ?_; (with_reducible refine (Y27.calls k a0_0 _ _ l0_1 false _ (cQ (Kd.C_below HR0_1.out HB.out)) HC0_1.out A2.out).mono ?_); rintro e w12 ⟨rfl, hb⟩; refine ⟨_, rfl, ?_⟩; have _ := bK BK425 hb; have _ := bB hb; clear BK425 HB; rename_i BK425 HB; (try clear hb)))
  go_ret
  exact ⟨eE, bq⟩
def Y47.f (a0 : Int) (a1 : Int) : Option (Int) := if a0 > a1 then (some a0) else (some a1)
theorem Y47.calls (a0 : Int) (a1 : Int) (r : Int) (w : World) (h : Y47.f a0 a1 = some r) :
  Calls Tryz.prog 78 #[.int .i64 a0, .int .i64 a1] w fun e w' => e = .returned (.int .i64 r) ∧ Drawn0 w w' := by
 have H : (if a0 > a1 then (some a0) else (some a1)) = some r := h
 clear h
 by_cases c3 : a0 > a1
 ·rw [if_pos c3] at H
  have c3b0 := decide_eq_true c3
  clear c3
  obtain rfl := Option.some.inj H
  go_enter Tryz.func78, Tryz.ntmps78
  go_wp2
  go_ret
  exact ⟨by first | rfl | (simp; done) | (simp [*]; done), dQ⟩
 ·rw [if_neg c3] at H
  have c3b0 := decide_eq_false c3
  clear c3
  obtain rfl := Option.some.inj H
  go_enter Tryz.func78, Tryz.ntmps78
  go_wp2
  go_ret
  exact ⟨by first | rfl | (simp; done) | (simp [*]; done), dQ⟩
def Y17.l0 : Nat → Int → Int → List Int → Int → Int → Option (Int)
 | 0, _, _, _, _, _ => none
 | k + 1, x1, x5, x9, x10, x11 => if x11 < x10 then (if 0 ≤ x11 then (if x11 < (x9.length : Int) then ((Y7.f (rd x9 x11) x1).bind fun t430 => (if t430 = true then (Y17.l0 k x1 (Go.bits .or .i64 x5 (shl .i64 1 x11)) x9 x10 (wrap64 (x11 + 1))) else (Y17.l0 k x1 x5 x9 x10 (wrap64 (x11 + 1))))) else (none)) else (none)) else (some x5)
def Y17.f (k : Nat) (a0_0 : Int) (l0_1 : List Int) (a1 : Int) : Option (Int) := Y17.l0 k a1 0 l0_1 (l0_1.length : Int) 0
theorem Y17.calls (k : Nat) (a0_0 : Int) (A0_1 : Option Addr) (c0_1 : Nat) (l0_1 : List Int) (a1 : Int) (r : Int) (w : World) (hr0_1 : Kd.C (Kd.int .i64) w A0_1 l0_1.length l0_1) (hc0_1 : l0_1.length ≤ c0_1) (h : Y17.f k a0_0 l0_1 a1 = some r) :
  Calls Tryz.prog 129 #[.agg #[.int .i64 a0_0, .slice A0_1 l0_1.length c0_1], .int .i64 a1] w fun e w' => e = .returned (.int .i64 r) ∧ Below w.heap.size w w' := by
 have hu26 := Tryz.underlying26
 have HR0_1 := aM hr0_1
 have HC0_1 := aM hc0_1
 clear hr0_1 hc0_1
 have HB := aM (Below.refl w.heap.size w)
 have H : (Y17.l0 k a1 0 l0_1 (l0_1.length : Int) 0) = some r := h
 clear h
 have H' := aM H
 clear H
 go_enter Tryz.func129, Tryz.ntmps129
 go_wp2_with (first | ((with_reducible refine gate_dst (N := 2) rfl ?_); refine bF 2 26 #[.int .i64 a0_0, .slice A0_1 l0_1.length c0_1] bq ?_; intro gb428 w3 hg hb _ _ _ _; clear HB; rename_i HB BK428 GW428 GE428; clear hb hg; have hcz4_0 := zc20 BK428; have hcz4_1 := zc21 BK428; have hfz4_0 := blk_frozen BK428.out 0; have hfz4_1 := blk_frozen BK428.out 1))
 go_loopg [5, 11] k (fun kq v5 v11 w' => ∃ (x5_1 : Int) (x11_1 : Int), v5 = .int .i64 x5_1 ∧ v11 = .int .i64 x11_1 ∧ Aside0 (Y17.l0 kq a1 x5_1 l0_1 (l0_1.length : Int) x11_1 = some r) ∧ Aside0 (kq ≤ k) ∧ Aside0 (w'.heap[gb428]? = some (.cells #[.int .i64 a0_0, (.slice A0_1 l0_1.length c0_1)] 26 (0, 0))) ∧ Aside0 (Below w.heap.size w w'))
 case atStart => exact ⟨(0), (0), eR, eR, H', ⟨Nat.le_refl _⟩, ⟨qQ BK428⟩, ⟨bq⟩⟩
 case round =>
  clear H'
  try clear hcz4_0
  try clear hcz4_1
  try clear hfz4_0
  try clear hfz4_1
  obtain ⟨x5_1, x11_1, rfl, rfl, HA, HK1, BK428, HB⟩ := hrel
  cases gk with
  | zero => exact absurd HA.out (by simp [Y17.l0])
  | succ k1 =>
   have H := HA.out
   clear HA
   simp only [Y17.l0] at H
   by_cases c5 : x11_1 < (l0_1.length : Int)
   ·rw [if_pos c5] at H
    have c5b0 := decide_eq_true c5
    clear c5
    replace H := iD2 H
    obtain ⟨c6b0, c7b0, H⟩ := H
    replace H := bS H
    obtain ⟨t430, A8, H⟩ := H
    try dsimp only at H
    by_cases c9 : t430 = true
    ·subst c9
     have H1 : (Y17.l0 k1 a1 (Go.bits .or .i64 x5_1 (shl .i64 1 x11_1)) l0_1 (l0_1.length : Int) (wrap64 (x11_1 + 1))) = some r := by rw [if_pos rfl] at H; exact H
     clear H
     have H := H1
     clear H1
     have c10b0 := eq_true (odt : 0 ≤ x11_1)
     obtain ⟨ji11, hji11⟩ : ∃ j_ : Int, (shl .i64 1 x11_1) = j_ := ⟨_, rfl⟩
     replace H : (Y17.l0 k1 a1 (Go.bits .or .i64 x5_1 (ji11)) l0_1 (l0_1.length : Int) (wrap64 (x11_1 + 1))) = some r := by first | (rw [hji11] at H; exact H) | (simp only [hji11] at H ⊢; exact H)
     (try rw [hji11] at A8)
     have hji11_ : (IntKind.i64.wrap (1 * 2 ^ min x11_1.toNat 64)) = ji11 := hji11
     have hji11z : x11_1 ≤ 64 → (IntKind.i64.wrap (1 * 2 ^ x11_1.toNat)) = ji11 := shl_small hji11
     have hji11u : (IntKind.i64.wrap (2 ^ min x11_1.toNat 64)) = ji11 := by have h_ := hji11_; rw [Int.one_mul] at h_; exact h_
     have hji11v : x11_1 ≤ 64 → (IntKind.i64.wrap (2 ^ x11_1.toNat)) = ji11 := fun hle_ => by have h_ := hji11z hle_; rw [Int.one_mul] at h_; exact h_
     have hji11y : (wrap64 (1 * 2 ^ min x11_1.toNat 64)) = ji11 := (i64_w _).symm.trans hji11_
     have hji11x : x11_1 ≤ 64 → (wrap64 (1 * 2 ^ x11_1.toNat)) = ji11 := fun h_ => (i64_w _).symm.trans (hji11z h_)
     have H' := aM H
     clear H
     have p429 : 0 ≤ (x11_1 : Int) := odt
     have q429 : x11_1 < (l0_1.length : Int) := odt
     obtain ⟨ad429, e429, hx429_0⟩ := Kd.at_int HR0_1.out x11_1 p429 q429
     cases e429
     replace hx429_0 := (HB.out.cell (World.block_lt_of_cell? w _ hx429_0)).trans hx429_0
     replace p429 := eq_true p429
     replace q429 := eq_true q429
     go_wp2_with (first | ((with_reducible refine gate_callee (f := 149) rfl ?_); refine gL (some 18) Tryz.func149 #[.int .i64 (rd l0_1 x11_1), .int .i64 a1] ?_; (with_reducible refine (Y7.calls (rd l0_1 x11_1) a1 true _ A8.out).mono ?_); rintro e w' ⟨rfl, ⟨nd, rfl⟩⟩; refine ⟨_, rfl, ?_⟩))
     go_roundg k1
     case measure => have := HK1.out; omega
     case rel => exact ⟨(Go.bits .or .i64 x5_1 (ji11)), (wrap64 (x11_1 + 1)), (by first | rfl | (simp; done) | (simp only [← hji11] <;> (first | rfl | simp)) | (simp [*]; done)), eR, H', ⟨by have := HK1.out; omega⟩, ⟨qQ BK428⟩, ⟨bq⟩⟩
    ·replace c9 := Bool.eq_false_iff.mpr c9
     subst c9
     have H1 : (Y17.l0 k1 a1 x5_1 l0_1 (l0_1.length : Int) (wrap64 (x11_1 + 1))) = some r := by rw [if_neg (show ¬ (false = true) by decide)] at H; exact H
     clear H
     have H := H1
     clear H1
     have H' := aM H
     clear H
     have p429 : 0 ≤ (x11_1 : Int) := odt
     have q429 : x11_1 < (l0_1.length : Int) := odt
     obtain ⟨ad429, e429, hx429_0⟩ := Kd.at_int HR0_1.out x11_1 p429 q429
     cases e429
     replace hx429_0 := (HB.out.cell (World.block_lt_of_cell? w _ hx429_0)).trans hx429_0
     replace p429 := eq_true p429
     replace q429 := eq_true q429
     go_wp2_with (first | ((with_reducible refine gate_callee (f := 149) rfl ?_); refine gL (some 18) Tryz.func149 #[.int .i64 (rd l0_1 x11_1), .int .i64 a1] ?_; (with_reducible refine (Y7.calls (rd l0_1 x11_1) a1 false _ A8.out).mono ?_); rintro e w' ⟨rfl, ⟨nd, rfl⟩⟩; refine ⟨_, rfl, ?_⟩))
     go_roundg k1
     case measure => have := HK1.out; omega
     case rel => exact ⟨(x5_1), (wrap64 (x11_1 + 1)), eR, eR, H', ⟨by have := HK1.out; omega⟩, ⟨qQ BK428⟩, ⟨bq⟩⟩
   ·rw [if_neg c5] at H
    have c5b0 := decide_eq_false c5
    clear c5
    obtain rfl := Option.some.inj H
    go_wp2
    go_ret
    exact ⟨eE, bq⟩
def Y45.l0 : Nat → List Int → Int → Int → Option (List Int)
 | 0, _, _, _ => none
 | k + 1, x0, x1, x5 => if x5 < (x0.length : Int) then (if 0 ≤ x5 then (if (rd x0 x5) < x1 then (Y45.l0 k x0 x1 (wrap64 (x5 + 1))) else (if (rd x0 x5) = x1 then (some x0) else ((some (([] : List Int) : List Int)).bind fun y433 => (if x5 ≤ (x0.length : Int) then ((some (x0.take (x5 : Int).toNat : List Int)).bind fun y436 => (if y433.length + y436.length < 17592186044416 then ((some (y433 ++ y436 : List Int)).bind fun y440 => (if y440.length < 17592186044416 then ((some (y440 ++ [x1] : List Int)).bind fun y443 => ((some (x0.drop (x5 : Int).toNat : List Int)).bind fun y446 => (if y443.length + y446.length < 17592186044416 then (some (y443 ++ y446)) else (none)))) else (none))) else (none))) else (none))))) else (none)) else ((some (([] : List Int) : List Int)).bind fun y453 => (if 0 ≤ x5 then (if x5 ≤ (x0.length : Int) then ((some (x0.take (x5 : Int).toNat : List Int)).bind fun y456 => (if y453.length + y456.length < 17592186044416 then ((some (y453 ++ y456 : List Int)).bind fun y460 => (if y460.length < 17592186044416 then ((some (y460 ++ [x1] : List Int)).bind fun y463 => ((some (x0.drop (x5 : Int).toNat : List Int)).bind fun y466 => (if y463.length + y466.length < 17592186044416 then (some (y463 ++ y466)) else (none)))) else (none))) else (none))) else (none)) else (none)))
def Y45.f (k : Nat) (l0 : List Int) (a1 : Int) : Option (List Int) := Y45.l0 k l0 a1 0
set_option maxHeartbeats 8000000 in
set_option maxRecDepth 100000 in
theorem Y45.calls (k : Nat) (P0_ : Nat → Prop) (u9000_ : Value) (l0 : List Int) (a1 : Int) (r : List Int) (w0 w : World) (hB : Below w0.heap.size w0 w) (ho0 : Kd.R (Kd.int .i64) 3 w w0.heap.size P0_ u9000_ l0) (h : Y45.f k l0 a1 = some r) :
  Calls Tryz.prog 195 #[u9000_, .int .i64 a1] w fun e w' => ∃ v0_ : Value, e = .returned (v0_) ∧ Kd.R (Kd.int .i64) 3 w' w0.heap.size (fun k_ => (P0_ k_ ∨ w.heap.size ≤ k_)) v0_ r ∧ Below w0.heap.size w0 w' ∧ Kept w w' (fun k_ => P0_ k_) := by
 have HO0 := aM (show Kd.R (Kd.int .i64) 3 w w0.heap.size (fun k_ => (P0_ k_ ∨ w.heap.size ≤ k_)) u9000_ l0 from Kd.R_mono ho0 (fun k_ hk => (.inl hk)))
 have HK := aM (Kept.refl w (fun k_ => P0_ k_))
 have HW0 := aM hB.size
 have HB := aM hB
 clear hB
 have H : (Y45.l0 k l0 a1 0) = some r := h
 clear h
 have H' := aM H
 clear H
 go_enter Tryz.func195, Tryz.ntmps195
 go_wp2
 go_loopg [5] k (fun kq v5 w' => ∃ (x5_1 : Int), v5 = .int .i64 x5_1 ∧ Aside0 (Y45.l0 kq l0 a1 x5_1 = some r) ∧ Aside0 (kq ≤ k) ∧ Aside0 (Kd.R (Kd.int .i64) 3 w' w0.heap.size (fun k_ => (P0_ k_ ∨ w.heap.size ≤ k_)) u9000_ l0) ∧ Aside0 (Kept w w' (fun k_ => P0_ k_)) ∧ Aside0 (Below w0.heap.size w0 w'))
 case atStart => exact ⟨(0), eR, H', ⟨Nat.le_refl _⟩, ⟨rQ HO0⟩, ⟨by repeat (first | (with_reducible first | exact HK.out | apply Kept.alloc | apply Kept.drewN | apply Kept.drew) | exact HK.out)⟩, ⟨bq⟩⟩
 case round =>
  clear H'
  obtain ⟨x5_1, rfl, HA, HK1, HO_0, HK, HB⟩ := hrel
  cases gk with
  | zero => exact absurd HA.out (by simp [Y45.l0])
  | succ k1 =>
   have H := HA.out
   clear HA
   simp only [Y45.l0] at H
   by_cases c3 : x5_1 < (l0.length : Int)
   ·rw [if_pos c3] at H
    have c3b0 := decide_eq_true c3
    clear c3
    replace H := iD H
    obtain ⟨c4b0, H⟩ := H
    by_cases c5 : (rd l0 x5_1) < a1
    ·rw [if_pos c5] at H
     have c5b0 := decide_eq_true c5
     clear c5
     have H' := aM H
     clear H
     obtain ⟨Ao6, co6, eo6⟩ := Kd.R_slice HO_0.out
     subst eo6
     have p431 : 0 ≤ (x5_1 : Int) := odt
     have q431 : x5_1 < (l0.length : Int) := odt
     obtain ⟨ad431, e431, hx431_0⟩ := Kd.at_int (Kd.R_reads' HO_0.out).2.2 x5_1 p431 q431
     cases e431
     replace p431 := eq_true p431
     replace q431 := eq_true q431
     go_wp2
     go_roundg k1
     case measure => have := HK1.out; omega
     case rel => exact ⟨(wrap64 (x5_1 + 1)), eR, H', ⟨by have := HK1.out; omega⟩, ⟨rQ HO_0⟩, ⟨by repeat (first | (with_reducible first | exact HK.out | apply Kept.alloc | apply Kept.drewN | apply Kept.drew) | exact HK.out)⟩, ⟨bq⟩⟩
    ·rw [if_neg c5] at H
     have c5b0 := decide_eq_false c5
     clear c5
     by_cases c7 : (rd l0 x5_1) = a1
     ·rw [if_pos c7] at H
      have c7b0 : ((rd l0 x5_1) == a1) = true := beq_iff_eq.mpr c7
      have c7b1 : ((rd l0 x5_1) != a1) = false := bne_eq_false_iff_eq.mpr c7
      clear c7
      obtain rfl := Option.some.inj H
      obtain ⟨Ao8, co8, eo8⟩ := Kd.R_slice HO_0.out
      subst eo8
      have p431 : 0 ≤ (x5_1 : Int) := odt
      have q431 : x5_1 < (l0.length : Int) := odt
      obtain ⟨ad431, e431, hx431_0⟩ := Kd.at_int (Kd.R_reads' HO_0.out).2.2 x5_1 p431 q431
      cases e431
      replace p431 := eq_true p431
      replace q431 := eq_true q431
      have p432 : 0 ≤ (x5_1 : Int) := odt
      have q432 : x5_1 < (l0.length : Int) := odt
      obtain ⟨ad432, e432, hx432_0⟩ := Kd.at_int (Kd.R_reads' HO_0.out).2.2 x5_1 p432 q432
      obtain rfl : ad431 = ad432 := (by injection e432)
      replace p432 := eq_true p432
      replace q432 := eq_true q432
      go_wp2
      go_ret
      exact ⟨_, eE, rQ HO_0, by exact bq, by repeat (first | (with_reducible first | exact HK.out | apply Kept.alloc | apply Kept.drewN | apply Kept.drew) | exact HK.out)⟩
     ·rw [if_neg c7] at H
      have c7b0 : ((rd l0 x5_1) == a1) = false := beq_eq_false_iff_ne.mpr c7
      have c7b1 : ((rd l0 x5_1) != a1) = true := bne_iff_ne.mpr c7
      obtain ⟨y433, hy433⟩ := nE ((([] : List Int)) : List Int)
      replace H : (if x5_1 ≤ (l0.length : Int) then ((some (l0.take (x5_1 : Int).toNat : List Int)).bind fun y436 => (if y433.length + y436.length < 17592186044416 then ((some (y433 ++ y436 : List Int)).bind fun y440 => (if y440.length < 17592186044416 then ((some (y440 ++ [a1] : List Int)).bind fun y443 => ((some (l0.drop (x5_1 : Int).toNat : List Int)).bind fun y446 => (if y443.length + y446.length < 17592186044416 then (some (y443 ++ y446)) else (none)))) else (none))) else (none))) else (none)) = some r := by first | (rw [hy433]; with_reducible exact H) | (have H2_ := (Option.bind_some _ _).symm.trans H; rw [hy433]; with_reducible exact H2_) | (have H2_ := (Option.bind_some _ _).symm.trans H; with_reducible exact H2_) | with_reducible exact H | (rw [hy433]; exact H) | exact H
      have Ny433 := aM hy433
      clear hy433
      have c9b0 := eq_true (odt : 0 ≤ x5_1)
      replace H := iS H
      obtain ⟨c10, H⟩ := H
      have c10b0 := eq_true c10
      have c10b1 := decide_eq_true c10
      clear c10
      obtain ⟨y436, hy436⟩ := nE ((l0.take (x5_1 : Int).toNat) : List Int)
      try rw [← hy436] at H
      try with_reducible replace H := (Option.bind_some _ _).symm.trans H
      try dsimp only at H
      have Ny436 := aM hy436
      clear hy436
      replace H := iS H
      obtain ⟨c11, H⟩ := H
      have LMc11 := aM c11
      clear c11
      obtain ⟨y440, hy440⟩ := nE ((y433 ++ y436) : List Int)
      try rw [← hy440] at H
      try with_reducible replace H := (Option.bind_some _ _).symm.trans H
      try dsimp only at H
      have Ny440 := aM hy440
      clear hy440
      replace H := iS H
      obtain ⟨c12, H⟩ := H
      have LMc12 := aM c12
      clear c12
      obtain ⟨y443, hy443⟩ := nE ((y440 ++ [a1]) : List Int)
      try rw [← hy443] at H
      try with_reducible replace H := (Option.bind_some _ _).symm.trans H
      try dsimp only at H
      have Ny443 := aM hy443
      clear hy443
      have c13b0 := eq_true (odt : 0 ≤ x5_1)
      have c14b0 := eq_true (odt : x5_1 ≤ (l0.length : Int))
      obtain ⟨y446, hy446⟩ := nE ((l0.drop (x5_1 : Int).toNat) : List Int)
      try rw [← hy446] at H
      try with_reducible replace H := (Option.bind_some _ _).symm.trans H
      try dsimp only at H
      have Ny446 := aM hy446
      clear hy446
      replace H := iS H
      obtain ⟨c15, H⟩ := H
      have LMc15 := aM c15
      clear c15
      obtain ⟨y450, hy450⟩ := nE ((y443 ++ y446) : List Int)
      try rw [← hy450] at H
      try with_reducible replace H := (Option.bind_some _ _).symm.trans H
      try dsimp only at H
      have Ny450 := aM hy450
      clear hy450
      obtain rfl := Option.some.inj H
      obtain ⟨Ao16, co16, eo16⟩ := Kd.R_slice HO_0.out
      subst eo16
      have p431 : 0 ≤ (x5_1 : Int) := odt
      have q431 : x5_1 < (l0.length : Int) := odt
      obtain ⟨ad431, e431, hx431_0⟩ := Kd.at_int (Kd.R_reads' HO_0.out).2.2 x5_1 p431 q431
      cases e431
      replace p431 := eq_true p431
      replace q431 := eq_true q431
      have p432 : 0 ≤ (x5_1 : Int) := odt
      have q432 : x5_1 < (l0.length : Int) := odt
      obtain ⟨ad432, e432, hx432_0⟩ := Kd.at_int (Kd.R_reads' HO_0.out).2.2 x5_1 p432 q432
      obtain rfl : ad431 = ad432 := (by injection e432)
      replace p432 := eq_true p432
      replace q432 := eq_true q432
      go_wp2_with (first | ((with_reducible refine gate_dst (N := 34) rfl ?_); refine Kd.R_lit (Kd.int .i64) _ 3 ?hg (N := 34) ?hd (xs := ([] : List Int)) (inner := []) (ok := fun _ => True) (okp := fun _ => True) ?hr ?hp (fun _ hk => hk) trivial (Below.refl _ _) (Nat.le_refl _) (by simp) ?_; (case hd => rfl); (case hg => rfl); (case hr => first | (go_simp; done) | (go_simp; rfl)); (case hp => exact (Reps.none _ _)); intro v434 w17 ho18 hb hg_ hnew_; clear hg_ hnew_; (first | rw [← Ny433.out] at ho18 | (simp only [Int.reduceToNat] at ho18; rw [← Ny433.out] at ho18)); have _ := aM (Kd.R_elder' (rQ HO_0) (Kd.R_base ho18) hb); have _ := aM (Kd.R_lower (Kd.R_new' (Kd.R_newM (M := fun k_ => (P0_ k_ ∨ w.heap.size ≤ k_)) ho18 (by first | exact HK.out.1 | exact (show Kept w _ (fun k_ => P0_ k_) from by repeat (first | (with_reducible first | exact HK.out | apply Kept.alloc | apply Kept.drewN | apply Kept.drew) | exact HK.out)).1) (fun k_ h_ => .inr h_)) (Kd.R_lt (rQ HO_0))) (below_size bq)); have _ := aM (Kept.below (S := (fun k_ => P0_ k_)) (by repeat (first | (with_reducible first | exact HK.out | apply Kept.alloc | apply Kept.drewN | apply Kept.drew) | exact HK.out)) hb); have _ := bB hb; clear HO_0 HK HB; rename_i HO_0 HO435 HK HB; clear hb ho18; have q19 : (x5_1 : Int) ≤ ((l0.length : Int) : Int) := odt; obtain ⟨i019, hi019, _, hsz19, _⟩ := info_parts info3; have hroom19 : l0.length ≤ co16 := (Kd.R_reads' HO_0.out).2.1; have hC19 : Kd.C (Kd.int .i64) _ (some ad431) l0.length l0 := (Kd.R_reads' HO_0.out).2.2; have hcut19 := cut_to (P := Tryz.prog) 24 3 .i64 Tryz.underlying24 hi019 (some ad431) l0.length co16 x5_1 (odt) q19 hroom19; have hr19 := Kd.C_take (m := (x5_1 : Int).toNat) hC19 (by omega); have hy19 : y436.length = (x5_1 : Int).toNat := (by rw [Ny436.out, List.length_take]; omega); rw [← Ny436.out] at hr19; rw [← hy19] at hcut19; have HR439 := aM hr19; have HC439 := aM (show y436.length ≤ co16 from by omega); clear hr19 hC19 hroom19 hi019 hsz19; have KY19 := aM hy19; clear hy19; have KL19 := aM (show (x5_1 : Int).toNat ≤ l0.length from by omega); replace q19 := eq_true q19) | ((with_reducible refine gate_builtin (b := .append) (xs := #[.tmp 34, .tmp 37]) rfl ?_); at_builtin; refine Kd.R_append_rows (Kd.int .i64) (w0 := w0) w0.heap.size rfl (.tmp 34) (.tmp 37) 24 3 (.int .i64 0) 8 rfl Tryz.underlying24 info3 rfl (by decide) (by omega) v434 y433 y436 _ _ _ (fun k_ => (P0_ k_ ∨ w.heap.size ≤ k_) ∧ some k_ ≠ (.slice (some ad431) l0.length co16 : Value).ownBlock) (fun _ => False) rfl rfl ?aO ?aR (fun _ _ h => h) (fun _ h => h.elim) ?aF ?aB ?aS ?aL ?_; (case aR => repeat (first | exact (cQ HR439.out) | (with_reducible refine Kd.C_alloc ?_ _) | (with_reducible refine Kd.C_drewN ?_ _) | (with_reducible refine Kd.C_drew ?_))); (case aB => exact bq); (case aF => exact (fun k_ hk => ⟨(.inr (Nat.le_trans (by first | exact HK.out.1 | exact (show Kept w _ (fun k_ => P0_ k_) from by repeat (first | (with_reducible first | exact HK.out | apply Kept.alloc | apply Kept.drewN | apply Kept.drew) | exact HK.out)).1) hk)), Kd.fresh' (Kd.R_lt (rQ HO_0)) k_ hk⟩)); (case aO => exact (by (with_reducible repeat first|apply rA|apply rN|apply rD); exact Kd.R_mono HO435.out (fun _ hk => ⟨hk.1.1, hk.2⟩))); (case aS => exact (below_size bq)); (case aL => have := LMc11.out; omega); intro v441 w20 ho hb hg hat; rw [← Ny440.out] at ho; have _ := aM (Kd.R_after (ok := (fun k_ => (P0_ k_ ∨ w.heap.size ≤ k_))) (rQ HO_0) hg hat); have _ := aM (hb); have _ := aM (Kept.of_grown (S := (fun k_ => P0_ k_)) hg (by repeat (first | (with_reducible first | exact HK.out | apply Kept.alloc | apply Kept.drewN | apply Kept.drew) | exact HK.out)) (fun k_ e_ => (HO435.out.1 k_ e_).1.1)); have _ := aM ((show Kd.C (Kd.int .i64) w20 (some ad431) y436.length y436 from by rw [Ny436.out]; exact Kd.C_take (m := (x5_1 : Int).toNat) ((Kd.R_reads' (Kd.R_after (ok := (fun k_ => (P0_ k_ ∨ w.heap.size ≤ k_))) (rQ HO_0) hg hat)).2.2) KL19.out)); have _ := aM (ho); clear HO_0 HB HK HR439 HO435; rename_i HO_0 HB HK HR439 HO442; clear ho hb hg hat) | ((with_reducible refine gate_builtin (b := .append) (xs := #[.tmp 39, .tmp 41]) rfl ?_); at_builtin; refine Kd.R_append (Kd.int .i64) (w0 := w0) w0.heap.size rfl (.tmp 39) (.tmp 41) 24 3 (.int .i64 0) 8 rfl Tryz.underlying24 info3 rfl (by decide) (by omega) v441 y440 a1 [.int .i64 a1] (fun k_ => (P0_ k_ ∨ w.heap.size ≤ k_) ∧ some k_ ≠ (.slice (some ad431) l0.length co16 : Value).ownBlock) (fun _ => False) rfl rfl ?aP (fun _ hk => hk.elim) ?aF ?aO ?aB ?aS ?aL ?_; (case aP => exact rfl); (case aB => exact bq); (case aF => exact (fun k_ hk => ⟨(.inr (Nat.le_trans (by first | exact HK.out.1 | exact (show Kept w _ (fun k_ => P0_ k_) from by repeat (first | (with_reducible first | exact HK.out | apply Kept.alloc | apply Kept.drewN | apply Kept.drew) | exact HK.out)).1) hk)), Kd.fresh' (Kd.R_lt (rQ HO_0)) k_ hk⟩)); (case aO => exact (rQ HO442)); (case aS => exact (below_size bq)); (case aL => have := LMc12.out; omega); intro v444 w21 ho hb hg hat; rw [← Ny443.out] at ho; have _ := aM (Kd.R_after (ok := (fun k_ => (P0_ k_ ∨ w.heap.size ≤ k_))) (rQ HO_0) hg hat); have _ := aM (hb); have _ := aM (Kept.of_grown (S := (fun k_ => P0_ k_)) hg (by repeat (first | (with_reducible first | exact HK.out | apply Kept.alloc | apply Kept.drewN | apply Kept.drew) | exact HK.out)) (fun k_ e_ => (HO442.out.1 k_ e_).1)); have _ := aM ((show Kd.C (Kd.int .i64) w21 (some ad431) y436.length y436 from by rw [Ny436.out]; exact Kd.C_take (m := (x5_1 : Int).toNat) ((Kd.R_reads' (Kd.R_after (ok := (fun k_ => (P0_ k_ ∨ w.heap.size ≤ k_))) (rQ HO_0) hg hat)).2.2) KL19.out)); have _ := aM (ho); clear HO_0 HB HK HR439 HO442; rename_i HO_0 HB HK HR439 HO445; clear ho hb hg hat; have q22 : (x5_1 : Int) ≤ ((l0.length : Int) : Int) := odt; obtain ⟨i022, hi022, _, hsz22, _⟩ := info_parts info3; have hroom22 : l0.length ≤ co16 := (Kd.R_reads' HO_0.out).2.1; have hC22 : Kd.C (Kd.int .i64) _ (some ad431) l0.length l0 := (Kd.R_reads' HO_0.out).2.2; have q022 : (0 : Int) ≤ (x5_1 : Int) := odt; have hcut22 := cut_from (P := Tryz.prog) 24 3 .i64 Tryz.underlying24 hi022 1 hsz22 (some ad431) l0.length co16 x5_1 q022 q22; have hr22 := Kd.C_drop (m := (x5_1 : Int).toNat) (c := co16) hC22 (by omega) hroom22; obtain ⟨A22, hA22⟩ : ∃ A1, A1 = (if co16 = (x5_1 : Int).toNat then (some ad431) else ((some ad431) : Option Addr).map (·.add ((x5_1 : Int).toNat * 1))) := ⟨_, rfl⟩; obtain ⟨c22, hc22⟩ : ∃ c1, c1 = co16 - (x5_1 : Int).toNat := ⟨_, rfl⟩; have hy22 : y446.length = l0.length - (x5_1 : Int).toNat := (by rw [Ny446.out, List.length_drop] <;> omega); rw [show (l0).drop (x5_1 : Int).toNat = y446 from Ny446.out.symm] at hr22; replace hr22 : Kd.C (Kd.int .i64) _ A22 y446.length y446 := (by rw [hA22]; exact hr22); rw [← hy22, ← hA22, ← hc22] at hcut22; have HR449 := aM hr22; have HC449 := aM (show y446.length ≤ c22 from by rw [hy22, hc22]; exact Nat.sub_le_sub_right hroom22 _); clear hr22 hC22 hroom22 hi022 hsz22 hc22; have KY22 := aM hy22; have KA22 := aM hA22; clear hy22 hA22; have KL22 := aM (show (x5_1 : Int).toNat ≤ l0.length from by omega); replace q22 := eq_true q22) | ((with_reducible refine gate_builtin (b := .append) (xs := #[.tmp 43, .tmp 46]) rfl ?_); at_builtin; refine Kd.R_append_rows (Kd.int .i64) (w0 := w0) w0.heap.size rfl (.tmp 43) (.tmp 46) 24 3 (.int .i64 0) 8 rfl Tryz.underlying24 info3 rfl (by decide) (by omega) v444 y443 y446 _ _ _ (fun k_ => (P0_ k_ ∨ w.heap.size ≤ k_) ∧ some k_ ≠ (.slice (some ad431) l0.length co16 : Value).ownBlock) (fun _ => False) rfl rfl ?aO ?aR (fun _ _ h => h) (fun _ h => h.elim) ?aF ?aB ?aS ?aL ?_; (case aR => repeat (first | exact (cQ HR449.out) | (with_reducible refine Kd.C_alloc ?_ _) | (with_reducible refine Kd.C_drewN ?_ _) | (with_reducible refine Kd.C_drew ?_))); (case aB => exact bq); (case aF => exact (fun k_ hk => ⟨(.inr (Nat.le_trans (by first | exact HK.out.1 | exact (show Kept w _ (fun k_ => P0_ k_) from by repeat (first | (with_reducible first | exact HK.out | apply Kept.alloc | apply Kept.drewN | apply Kept.drew) | exact HK.out)).1) hk)), Kd.fresh' (Kd.R_lt (rQ HO_0)) k_ hk⟩)); (case aO => exact (rQ HO445)); (case aS => exact (below_size bq)); (case aL => have := LMc15.out; omega); intro v451 w23 ho hb hg hat; rw [← Ny450.out] at ho; have _ := aM (Kd.R_after (ok := (fun k_ => (P0_ k_ ∨ w.heap.size ≤ k_))) (rQ HO_0) hg hat); have _ := aM (hb); have _ := aM (Kept.of_grown (S := (fun k_ => P0_ k_)) hg (by repeat (first | (with_reducible first | exact HK.out | apply Kept.alloc | apply Kept.drewN | apply Kept.drew) | exact HK.out)) (fun k_ e_ => (HO445.out.1 k_ e_).1)); have _ := aM ((show Kd.C (Kd.int .i64) w23 (some ad431) y436.length y436 from by rw [Ny436.out]; exact Kd.C_take (m := (x5_1 : Int).toNat) ((Kd.R_reads' (Kd.R_after (ok := (fun k_ => (P0_ k_ ∨ w.heap.size ≤ k_))) (rQ HO_0) hg hat)).2.2) KL19.out)); have _ := aM ((show Kd.C (Kd.int .i64) w23 A22 y446.length y446 from by rw [Ny446.out, KA22.out]; exact Kd.C_drop (m := (x5_1 : Int).toNat) (c := co16) ((Kd.R_reads' (Kd.R_after (ok := (fun k_ => (P0_ k_ ∨ w.heap.size ≤ k_))) (rQ HO_0) hg hat)).2.2) KL22.out ((Kd.R_reads' (Kd.R_after (ok := (fun k_ => (P0_ k_ ∨ w.heap.size ≤ k_))) (rQ HO_0) hg hat)).2.1))); have _ := aM (ho); clear HO_0 HB HK HR439 HR449 HO445; rename_i HO_0 HB HK HR439 HR449 HO452; clear ho hb hg hat))
      go_ret
      exact ⟨_, eE, by (with_reducible repeat first|apply rA|apply rN|apply rD); exact Kd.R_mono HO452.out (fun _ hk => hk.1), by exact bq, by repeat (first | (with_reducible first | exact HK.out | apply Kept.alloc | apply Kept.drewN | apply Kept.drew) | exact HK.out)⟩
   ·rw [if_neg c3] at H
    have c3b0 := decide_eq_false c3
    clear c3
    obtain ⟨y453, hy453⟩ := nE ((([] : List Int)) : List Int)
    replace H : (if 0 ≤ x5_1 then (if x5_1 ≤ (l0.length : Int) then ((some (l0.take (x5_1 : Int).toNat : List Int)).bind fun y456 => (if y453.length + y456.length < 17592186044416 then ((some (y453 ++ y456 : List Int)).bind fun y460 => (if y460.length < 17592186044416 then ((some (y460 ++ [a1] : List Int)).bind fun y463 => ((some (l0.drop (x5_1 : Int).toNat : List Int)).bind fun y466 => (if y463.length + y466.length < 17592186044416 then (some (y463 ++ y466)) else (none)))) else (none))) else (none))) else (none)) else (none)) = some r := by first | (rw [hy453]; with_reducible exact H) | (have H2_ := (Option.bind_some _ _).symm.trans H; rw [hy453]; with_reducible exact H2_) | (have H2_ := (Option.bind_some _ _).symm.trans H; with_reducible exact H2_) | with_reducible exact H | (rw [hy453]; exact H) | exact H
    have Ny453 := aM hy453
    clear hy453
    replace H := iS H
    obtain ⟨c24, H⟩ := H
    have c24b0 := eq_true c24
    have c24b1 := decide_eq_true c24
    clear c24
    replace H := iS H
    obtain ⟨c25, H⟩ := H
    have c25b0 := eq_true c25
    have c25b1 := decide_eq_true c25
    clear c25
    obtain ⟨y456, hy456⟩ := nE ((l0.take (x5_1 : Int).toNat) : List Int)
    try rw [← hy456] at H
    try with_reducible replace H := (Option.bind_some _ _).symm.trans H
    try dsimp only at H
    have Ny456 := aM hy456
    clear hy456
    replace H := iS H
    obtain ⟨c26, H⟩ := H
    have LMc26 := aM c26
    clear c26
    obtain ⟨y460, hy460⟩ := nE ((y453 ++ y456) : List Int)
    try rw [← hy460] at H
    try with_reducible replace H := (Option.bind_some _ _).symm.trans H
    try dsimp only at H
    have Ny460 := aM hy460
    clear hy460
    replace H := iS H
    obtain ⟨c27, H⟩ := H
    have LMc27 := aM c27
    clear c27
    obtain ⟨y463, hy463⟩ := nE ((y460 ++ [a1]) : List Int)
    try rw [← hy463] at H
    try with_reducible replace H := (Option.bind_some _ _).symm.trans H
    try dsimp only at H
    have Ny463 := aM hy463
    clear hy463
    have c28b0 := eq_true (odt : 0 ≤ x5_1)
    have c29b0 := eq_true (odt : x5_1 ≤ (l0.length : Int))
    obtain ⟨y466, hy466⟩ := nE ((l0.drop (x5_1 : Int).toNat) : List Int)
    try rw [← hy466] at H
    try with_reducible replace H := (Option.bind_some _ _).symm.trans H
    try dsimp only at H
    have Ny466 := aM hy466
    clear hy466
    replace H := iS H
    obtain ⟨c30, H⟩ := H
    have LMc30 := aM c30
    clear c30
    obtain ⟨y470, hy470⟩ := nE ((y463 ++ y466) : List Int)
    try rw [← hy470] at H
    try with_reducible replace H := (Option.bind_some _ _).symm.trans H
    try dsimp only at H
    have Ny470 := aM hy470
    clear hy470
    obtain rfl := Option.some.inj H
    obtain ⟨Ao31, co31, eo31⟩ := Kd.R_slice HO_0.out
    subst eo31
    go_wp2_with (first | ((with_reducible refine gate_dst (N := 34) rfl ?_); refine Kd.R_lit (Kd.int .i64) _ 3 ?hg (N := 34) ?hd (xs := ([] : List Int)) (inner := []) (ok := fun _ => True) (okp := fun _ => True) ?hr ?hp (fun _ hk => hk) trivial (Below.refl _ _) (Nat.le_refl _) (by simp) ?_; (case hd => rfl); (case hg => rfl); (case hr => first | (go_simp; done) | (go_simp; rfl)); (case hp => exact (Reps.none _ _)); intro v454 w32 ho33 hb hg_ hnew_; clear hg_ hnew_; (first | rw [← Ny453.out] at ho33 | (simp only [Int.reduceToNat] at ho33; rw [← Ny453.out] at ho33)); have _ := aM (Kd.R_elder' (rQ HO_0) (Kd.R_base ho33) hb); have _ := aM (Kd.R_lower (Kd.R_new' (Kd.R_newM (M := fun k_ => (P0_ k_ ∨ w.heap.size ≤ k_)) ho33 (by first | exact HK.out.1 | exact (show Kept w _ (fun k_ => P0_ k_) from by repeat (first | (with_reducible first | exact HK.out | apply Kept.alloc | apply Kept.drewN | apply Kept.drew) | exact HK.out)).1) (fun k_ h_ => .inr h_)) (Kd.R_lt (rQ HO_0))) (below_size bq)); have _ := aM (Kept.below (S := (fun k_ => P0_ k_)) (by repeat (first | (with_reducible first | exact HK.out | apply Kept.alloc | apply Kept.drewN | apply Kept.drew) | exact HK.out)) hb); have _ := bB hb; clear HO_0 HK HB; rename_i HO_0 HO455 HK HB; clear hb ho33; have q34 : (x5_1 : Int) ≤ ((l0.length : Int) : Int) := odt; obtain ⟨i034, hi034, _, hsz34, _⟩ := info_parts info3; have hroom34 : l0.length ≤ co31 := (Kd.R_reads' HO_0.out).2.1; have hC34 : Kd.C (Kd.int .i64) _ Ao31 l0.length l0 := (Kd.R_reads' HO_0.out).2.2; have hcut34 := cut_to (P := Tryz.prog) 24 3 .i64 Tryz.underlying24 hi034 Ao31 l0.length co31 x5_1 (odt) q34 hroom34; have hr34 := Kd.C_take (m := (x5_1 : Int).toNat) hC34 (by omega); have hy34 : y456.length = (x5_1 : Int).toNat := (by rw [Ny456.out, List.length_take]; omega); rw [← Ny456.out] at hr34; rw [← hy34] at hcut34; have HR459 := aM hr34; have HC459 := aM (show y456.length ≤ co31 from by omega); clear hr34 hC34 hroom34 hi034 hsz34; have KY34 := aM hy34; clear hy34; have KL34 := aM (show (x5_1 : Int).toNat ≤ l0.length from by omega); replace q34 := eq_true q34) | ((with_reducible refine gate_builtin (b := .append) (xs := #[.tmp 34, .tmp 37]) rfl ?_); at_builtin; refine Kd.R_append_rows (Kd.int .i64) (w0 := w0) w0.heap.size rfl (.tmp 34) (.tmp 37) 24 3 (.int .i64 0) 8 rfl Tryz.underlying24 info3 rfl (by decide) (by omega) v454 y453 y456 _ _ _ (fun k_ => (P0_ k_ ∨ w.heap.size ≤ k_) ∧ some k_ ≠ (.slice Ao31 l0.length co31 : Value).ownBlock) (fun _ => False) rfl rfl ?aO ?aR (fun _ _ h => h) (fun _ h => h.elim) ?aF ?aB ?aS ?aL ?_; (case aR => repeat (first | exact (cQ HR459.out) | (with_reducible refine Kd.C_alloc ?_ _) | (with_reducible refine Kd.C_drewN ?_ _) | (with_reducible refine Kd.C_drew ?_))); (case aB => exact bq); (case aF => exact (fun k_ hk => ⟨(.inr (Nat.le_trans (by first | exact HK.out.1 | exact (show Kept w _ (fun k_ => P0_ k_) from by repeat (first | (with_reducible first | exact HK.out | apply Kept.alloc | apply Kept.drewN | apply Kept.drew) | exact HK.out)).1) hk)), Kd.fresh' (Kd.R_lt (rQ HO_0)) k_ hk⟩)); (case aO => exact (by (with_reducible repeat first|apply rA|apply rN|apply rD); exact Kd.R_mono HO455.out (fun _ hk => ⟨hk.1.1, hk.2⟩))); (case aS => exact (below_size bq)); (case aL => have := LMc26.out; omega); intro v461 w35 ho hb hg hat; rw [← Ny460.out] at ho; have _ := aM (Kd.R_after (ok := (fun k_ => (P0_ k_ ∨ w.heap.size ≤ k_))) (rQ HO_0) hg hat); have _ := aM (hb); have _ := aM (Kept.of_grown (S := (fun k_ => P0_ k_)) hg (by repeat (first | (with_reducible first | exact HK.out | apply Kept.alloc | apply Kept.drewN | apply Kept.drew) | exact HK.out)) (fun k_ e_ => (HO455.out.1 k_ e_).1.1)); have _ := aM ((show Kd.C (Kd.int .i64) w35 Ao31 y456.length y456 from by rw [Ny456.out]; exact Kd.C_take (m := (x5_1 : Int).toNat) ((Kd.R_reads' (Kd.R_after (ok := (fun k_ => (P0_ k_ ∨ w.heap.size ≤ k_))) (rQ HO_0) hg hat)).2.2) KL34.out)); have _ := aM (ho); clear HO_0 HB HK HR459 HO455; rename_i HO_0 HB HK HR459 HO462; clear ho hb hg hat) | ((with_reducible refine gate_builtin (b := .append) (xs := #[.tmp 39, .tmp 41]) rfl ?_); at_builtin; refine Kd.R_append (Kd.int .i64) (w0 := w0) w0.heap.size rfl (.tmp 39) (.tmp 41) 24 3 (.int .i64 0) 8 rfl Tryz.underlying24 info3 rfl (by decide) (by omega) v461 y460 a1 [.int .i64 a1] (fun k_ => (P0_ k_ ∨ w.heap.size ≤ k_) ∧ some k_ ≠ (.slice Ao31 l0.length co31 : Value).ownBlock) (fun _ => False) rfl rfl ?aP (fun _ hk => hk.elim) ?aF ?aO ?aB ?aS ?aL ?_; (case aP => exact rfl); (case aB => exact bq); (case aF => exact (fun k_ hk => ⟨(.inr (Nat.le_trans (by first | exact HK.out.1 | exact (show Kept w _ (fun k_ => P0_ k_) from by repeat (first | (with_reducible first | exact HK.out | apply Kept.alloc | apply Kept.drewN | apply Kept.drew) | exact HK.out)).1) hk)), Kd.fresh' (Kd.R_lt (rQ HO_0)) k_ hk⟩)); (case aO => exact (rQ HO462)); (case aS => exact (below_size bq)); (case aL => have := LMc27.out; omega); intro v464 w36 ho hb hg hat; rw [← Ny463.out] at ho; have _ := aM (Kd.R_after (ok := (fun k_ => (P0_ k_ ∨ w.heap.size ≤ k_))) (rQ HO_0) hg hat); have _ := aM (hb); have _ := aM (Kept.of_grown (S := (fun k_ => P0_ k_)) hg (by repeat (first | (with_reducible first | exact HK.out | apply Kept.alloc | apply Kept.drewN | apply Kept.drew) | exact HK.out)) (fun k_ e_ => (HO462.out.1 k_ e_).1)); have _ := aM ((show Kd.C (Kd.int .i64) w36 Ao31 y456.length y456 from by rw [Ny456.out]; exact Kd.C_take (m := (x5_1 : Int).toNat) ((Kd.R_reads' (Kd.R_after (ok := (fun k_ => (P0_ k_ ∨ w.heap.size ≤ k_))) (rQ HO_0) hg hat)).2.2) KL34.out)); have _ := aM (ho); clear HO_0 HB HK HR459 HO462; rename_i HO_0 HB HK HR459 HO465; clear ho hb hg hat; have q37 : (x5_1 : Int) ≤ ((l0.length : Int) : Int) := odt; obtain ⟨i037, hi037, _, hsz37, _⟩ := info_parts info3; have hroom37 : l0.length ≤ co31 := (Kd.R_reads' HO_0.out).2.1; have hC37 : Kd.C (Kd.int .i64) _ Ao31 l0.length l0 := (Kd.R_reads' HO_0.out).2.2; have q037 : (0 : Int) ≤ (x5_1 : Int) := odt; have hcut37 := cut_from (P := Tryz.prog) 24 3 .i64 Tryz.underlying24 hi037 1 hsz37 Ao31 l0.length co31 x5_1 q037 q37; have hr37 := Kd.C_drop (m := (x5_1 : Int).toNat) (c := co31) hC37 (by omega) hroom37; obtain ⟨A37, hA37⟩ : ∃ A1, A1 = (if co31 = (x5_1 : Int).toNat then Ao31 else (Ao31 : Option Addr).map (·.add ((x5_1 : Int).toNat * 1))) := ⟨_, rfl⟩; obtain ⟨c37, hc37⟩ : ∃ c1, c1 = co31 - (x5_1 : Int).toNat := ⟨_, rfl⟩; have hy37 : y466.length = l0.length - (x5_1 : Int).toNat := (by rw [Ny466.out, List.length_drop] <;> omega); rw [show (l0).drop (x5_1 : Int).toNat = y466 from Ny466.out.symm] at hr37; replace hr37 : Kd.C (Kd.int .i64) _ A37 y466.length y466 := (by rw [hA37]; exact hr37); rw [← hy37, ← hA37, ← hc37] at hcut37; have HR469 := aM hr37; have HC469 := aM (show y466.length ≤ c37 from by rw [hy37, hc37]; exact Nat.sub_le_sub_right hroom37 _); clear hr37 hC37 hroom37 hi037 hsz37 hc37; have KY37 := aM hy37; have KA37 := aM hA37; clear hy37 hA37; have KL37 := aM (show (x5_1 : Int).toNat ≤ l0.length from by omega); replace q37 := eq_true q37) | ((with_reducible refine gate_builtin (b := .append) (xs := #[.tmp 43, .tmp 46]) rfl ?_); at_builtin; refine Kd.R_append_rows (Kd.int .i64) (w0 := w0) w0.heap.size rfl (.tmp 43) (.tmp 46) 24 3 (.int .i64 0) 8 rfl Tryz.underlying24 info3 rfl (by decide) (by omega) v464 y463 y466 _ _ _ (fun k_ => (P0_ k_ ∨ w.heap.size ≤ k_) ∧ some k_ ≠ (.slice Ao31 l0.length co31 : Value).ownBlock) (fun _ => False) rfl rfl ?aO ?aR (fun _ _ h => h) (fun _ h => h.elim) ?aF ?aB ?aS ?aL ?_; (case aR => repeat (first | exact (cQ HR469.out) | (with_reducible refine Kd.C_alloc ?_ _) | (with_reducible refine Kd.C_drewN ?_ _) | (with_reducible refine Kd.C_drew ?_))); (case aB => exact bq); (case aF => exact (fun k_ hk => ⟨(.inr (Nat.le_trans (by first | exact HK.out.1 | exact (show Kept w _ (fun k_ => P0_ k_) from by repeat (first | (with_reducible first | exact HK.out | apply Kept.alloc | apply Kept.drewN | apply Kept.drew) | exact HK.out)).1) hk)), Kd.fresh' (Kd.R_lt (rQ HO_0)) k_ hk⟩)); (case aO => exact (rQ HO465)); (case aS => exact (below_size bq)); (case aL => have := LMc30.out; omega); intro v471 w38 ho hb hg hat; rw [← Ny470.out] at ho; have _ := aM (Kd.R_after (ok := (fun k_ => (P0_ k_ ∨ w.heap.size ≤ k_))) (rQ HO_0) hg hat); have _ := aM (hb); have _ := aM (Kept.of_grown (S := (fun k_ => P0_ k_)) hg (by repeat (first | (with_reducible first | exact HK.out | apply Kept.alloc | apply Kept.drewN | apply Kept.drew) | exact HK.out)) (fun k_ e_ => (HO465.out.1 k_ e_).1)); have _ := aM ((show Kd.C (Kd.int .i64) w38 Ao31 y456.length y456 from by rw [Ny456.out]; exact Kd.C_take (m := (x5_1 : Int).toNat) ((Kd.R_reads' (Kd.R_after (ok := (fun k_ => (P0_ k_ ∨ w.heap.size ≤ k_))) (rQ HO_0) hg hat)).2.2) KL34.out)); have _ := aM ((show Kd.C (Kd.int .i64) w38 A37 y466.length y466 from by rw [Ny466.out, KA37.out]; exact Kd.C_drop (m := (x5_1 : Int).toNat) (c := co31) ((Kd.R_reads' (Kd.R_after (ok := (fun k_ => (P0_ k_ ∨ w.heap.size ≤ k_))) (rQ HO_0) hg hat)).2.2) KL37.out ((Kd.R_reads' (Kd.R_after (ok := (fun k_ => (P0_ k_ ∨ w.heap.size ≤ k_))) (rQ HO_0) hg hat)).2.1))); have _ := aM (ho); clear HO_0 HB HK HR459 HR469 HO465; rename_i HO_0 HB HK HR459 HR469 HO472; clear ho hb hg hat))
    go_ret
    exact ⟨_, eE, by (with_reducible repeat first|apply rA|apply rN|apply rD); exact Kd.R_mono HO472.out (fun _ hk => hk.1), by exact bq, by repeat (first | (with_reducible first | exact HK.out | apply Kept.alloc | apply Kept.drewN | apply Kept.drew) | exact HK.out)⟩
end Go.Proofs.YtjmmleofnjcjoaaGreatDoor.Du
