-- Written by hook.py, a program of this session (wip/), which runs the kit's print.py with its own parts; Lean checks it.
import Derived.Test.YtcodionjhcmfhaaDoorMo0
import Derived.Test.YtcodionjhcmfhaaDoorMo2
import Derived.Test.YtcodionjhcmfhaaDoorMoXSq
namespace Go.Proofs.YtcodionjhcmfhaaDoor.Mo
open Go.RowKit Go.Proofs.YtcodionjhcmfhaaDoorW.PrintWords Go.Proofs.YtcodionjhcmfhaaDoorW.PrintLast Go.Proofs.YtcodionjhcmfhaaDoorW.PrintMore Go.Proofs.YtcodionjhcmfhaaDoor.Sq
attribute [local go_sem] max2_int min2_int max_two min_two max_three min_three max_four min_four   -- for this text's walks alone
set_option linter.unusedVariables false
set_option linter.unusedSimpArgs false

mutual
def spec_ivTwoTwo.l0 : Nat → Int → Int → List Int → Option (List Int × Bool)
 | 0, _, _, _ => none
 | k + 1, x4, x131000, x131001 => if x4 < x131000 then (spec_ivTwoTwo.l1 k x4 0 x131000 x131001) else (some (([] : List Int), false))
def spec_ivTwoTwo.l1 : Nat → Int → Int → Int → List Int → Option (List Int × Bool)
 | 0, _, _, _, _ => none
 | k + 1, x4, x5, x131000, x131001 => if x5 < x131000 then (spec_ivTwoTwo.l2 k x4 x5 0 x131000 x131001) else (spec_ivTwoTwo.l0 k (wrap64 (x4 + 1)) x131000 x131001)
def spec_ivTwoTwo.l2 : Nat → Int → Int → Int → Int → List Int → Option (List Int × Bool)
 | 0, _, _, _, _, _ => none
 | k + 1, x4, x5, x6, x131000, x131001 => if x6 < x131000 then (spec_ivTwoTwo.l3 k x4 x5 x6 0 x131000 x131001) else (spec_ivTwoTwo.l1 k x4 (wrap64 (x5 + 1)) x131000 x131001)
def spec_ivTwoTwo.l3 : Nat → Int → Int → Int → Int → Int → List Int → Option (List Int × Bool)
 | 0, _, _, _, _, _, _ => none
 | k + 1, x4, x5, x6, x7, x131000, x131001 => if x7 < x131000 then ((spec_ivRefuses.f x131000 x131001 x4 x5 x6 x7).bind fun t131 => (if t131 = true then (some ((([x4, x5, x6, x7] : List Int)), true)) else (spec_ivTwoTwo.l3 k x4 x5 x6 (wrap64 (x7 + 1)) x131000 x131001))) else (spec_ivTwoTwo.l2 k x4 x5 (wrap64 (x6 + 1)) x131000 x131001)
end
def spec_ivTwoTwo.f (k : Nat) (a0_0 : Int) (l0_1 : List Int) : Option (List Int × Bool) := spec_ivTwoTwo.l0 k 0 a0_0 l0_1
set_option maxHeartbeats 8000000 in
set_option maxRecDepth 100000 in
theorem spec_ivTwoTwo.calls (k : Nat) (a0_0 : Int) (A0_1 : Option Addr) (c0_1 : Nat) (l0_1 : List Int) (r1 : List Int) (r2 : Bool) (w : World) (hr0_1 : Kd.C (Kd.int .i64) w A0_1 l0_1.length l0_1) (hc0_1 : l0_1.length ≤ c0_1) (h : spec_ivTwoTwo.f k a0_0 l0_1 = some (r1, r2)) :
  Calls Tryd.prog 95 #[.agg #[.int .i64 a0_0, .slice A0_1 l0_1.length c0_1]] w fun e w' => ∃ v0_ : Value, e = .returned (.tuple #[v0_, .bool r2]) ∧ Kd.R (Kd.int .i64) 3 w' w.heap.size (fun _ => True) v0_ r1 ∧ Below w.heap.size w w' := by
 have hu31 := Tryd.underlying31
 have HR0_1 := aM hr0_1
 have HC0_1 := aM hc0_1
 clear hr0_1 hc0_1
 have HB := aM (Below.refl w.heap.size w)
 have H : (spec_ivTwoTwo.l0 k 0 a0_0 l0_1) = some (r1, r2) := h
 clear h
 have H' := aM H
 clear H
 go_enter Tryd.func95, Tryd.ntmps95
 go_wp2_with (first | ((with_reducible refine gate_dst (N := 1) rfl ?_); refine bE 1 31 #[.int .i64 a0_0, .slice A0_1 l0_1.length c0_1] ?_; intro gb130 hg w2 hbox hb; have _ := aM (below_step bq hb); have _ := aM (hbox); have _ := aM ((gS hg)); have _ := aM ((gS hg)); clear HB; rename_i HB BK130 GW130 GE130; clear hb hbox hg))
 go_loopg [4] k (fun kq v4 w' => ∃ (x4_1 : Int), v4 = .int .i64 x4_1 ∧ Aside0 (spec_ivTwoTwo.l0 kq x4_1 a0_0 l0_1 = some (r1, r2)) ∧ Aside0 (kq ≤ k) ∧ Aside0 (w'.heap[gb130]? = some (.cells #[.int .i64 a0_0, (.slice A0_1 l0_1.length c0_1)] 31 (0, 0))) ∧ Aside0 (Below w.heap.size w w'))
 case atStart => exact ⟨(0), eR, H', ⟨Nat.le_refl _⟩, ⟨qQ BK130⟩, ⟨bq⟩⟩
 case round =>
  clear H'
  try clear p2
  obtain ⟨x4_1, rfl, HA, HK1, BK130, HB⟩ := hrel
  cases gk with
  | zero => exact absurd HA.out (by simp [spec_ivTwoTwo.l0])
  | succ k1 =>
   have H := HA.out
   clear HA
   simp only [spec_ivTwoTwo.l0] at H
   by_cases c3 : x4_1 < a0_0
   ·rw [if_pos c3] at H
    have c3b0 := decide_eq_true c3
    clear c3
    have H' := aM H
    clear H
    have hcz4_0 := zc20 BK130
    have hcz4_1 := zc21 BK130
    have hfz4_0 := blk_frozen BK130.out 0
    have hfz4_1 := blk_frozen BK130.out 1
    go_wp2
    go_loopg [5] k1 (fun kq v5 w' => ∃ (x5_2 : Int), v5 = .int .i64 x5_2 ∧ Aside0 (spec_ivTwoTwo.l1 kq x4_1 x5_2 a0_0 l0_1 = some (r1, r2)) ∧ Aside0 (kq ≤ k1) ∧ Aside0 (w'.heap[gb130]? = some (.cells #[.int .i64 a0_0, (.slice A0_1 l0_1.length c0_1)] 31 (0, 0))) ∧ Aside0 (Below w.heap.size w w'))
    case atStart => exact ⟨(0), eR, H', ⟨Nat.le_refl _⟩, ⟨qQ BK130⟩, ⟨bq⟩⟩
    case round =>
     clear H'
     try clear p2
     try clear c3
     try clear c3b0
     try clear hcz4_0
     try clear hcz4_1
     try clear hfz4_0
     try clear hfz4_1
     try clear p2
     obtain ⟨x5_2, rfl, HA, HK2, BK130, HB⟩ := hrel
     cases gk with
     | zero => exact absurd HA.out (by simp [spec_ivTwoTwo.l1])
     | succ k2 =>
      have H := HA.out
      clear HA
      simp only [spec_ivTwoTwo.l1] at H
      by_cases c5 : x5_2 < a0_0
      ·rw [if_pos c5] at H
       have c5b0 := decide_eq_true c5
       clear c5
       have H' := aM H
       clear H
       have hcz6_0 := zc20 BK130
       have hcz6_1 := zc21 BK130
       have hfz6_0 := blk_frozen BK130.out 0
       have hfz6_1 := blk_frozen BK130.out 1
       go_wp2
       go_loopg [6] k2 (fun kq v6 w' => ∃ (x6_3 : Int), v6 = .int .i64 x6_3 ∧ Aside0 (spec_ivTwoTwo.l2 kq x4_1 x5_2 x6_3 a0_0 l0_1 = some (r1, r2)) ∧ Aside0 (kq ≤ k2) ∧ Aside0 (w'.heap[gb130]? = some (.cells #[.int .i64 a0_0, (.slice A0_1 l0_1.length c0_1)] 31 (0, 0))) ∧ Aside0 (Below w.heap.size w w'))
       case atStart => exact ⟨(0), eR, H', ⟨Nat.le_refl _⟩, ⟨qQ BK130⟩, ⟨bq⟩⟩
       case round =>
        clear H'
        try clear p2
        try clear c3
        try clear c3b0
        try clear c5
        try clear c5b0
        try clear hcz4_0
        try clear hcz4_1
        try clear hcz6_0
        try clear hcz6_1
        try clear hfz4_0
        try clear hfz4_1
        try clear hfz6_0
        try clear hfz6_1
        try clear p2
        obtain ⟨x6_3, rfl, HA, HK3, BK130, HB⟩ := hrel
        cases gk with
        | zero => exact absurd HA.out (by simp [spec_ivTwoTwo.l2])
        | succ k3 =>
         have H := HA.out
         clear HA
         simp only [spec_ivTwoTwo.l2] at H
         by_cases c7 : x6_3 < a0_0
         ·rw [if_pos c7] at H
          have c7b0 := decide_eq_true c7
          clear c7
          have H' := aM H
          clear H
          have hcz8_0 := zc20 BK130
          have hcz8_1 := zc21 BK130
          have hfz8_0 := blk_frozen BK130.out 0
          have hfz8_1 := blk_frozen BK130.out 1
          go_wp2
          go_loopg [7] k3 (fun kq v7 w' => ∃ (x7_4 : Int), v7 = .int .i64 x7_4 ∧ Aside0 (spec_ivTwoTwo.l3 kq x4_1 x5_2 x6_3 x7_4 a0_0 l0_1 = some (r1, r2)) ∧ Aside0 (kq ≤ k3) ∧ Aside0 (w'.heap[gb130]? = some (.cells #[.int .i64 a0_0, (.slice A0_1 l0_1.length c0_1)] 31 (0, 0))) ∧ Aside0 (Below w.heap.size w w'))
          case atStart => exact ⟨(0), eR, H', ⟨Nat.le_refl _⟩, ⟨qQ BK130⟩, ⟨bq⟩⟩
          case round =>
           clear H'
           try clear p2
           try clear c3
           try clear c3b0
           try clear c5
           try clear c5b0
           try clear c7
           try clear c7b0
           try clear hcz4_0
           try clear hcz4_1
           try clear hcz6_0
           try clear hcz6_1
           try clear hcz8_0
           try clear hcz8_1
           try clear hfz4_0
           try clear hfz4_1
           try clear hfz6_0
           try clear hfz6_1
           try clear hfz8_0
           try clear hfz8_1
           try clear p2
           obtain ⟨x7_4, rfl, HA, HK4, BK130, HB⟩ := hrel
           cases gk with
           | zero => exact absurd HA.out (by simp [spec_ivTwoTwo.l3])
           | succ k4 =>
            have H := HA.out
            clear HA
            simp only [spec_ivTwoTwo.l3] at H
            by_cases c9 : x7_4 < a0_0
            ·rw [if_pos c9] at H
             have c9b0 := decide_eq_true c9
             clear c9
             replace H := bS H
             obtain ⟨t131, A10, H⟩ := H
             try dsimp only at H
             by_cases c11 : t131 = true
             ·subst c11
              have H1 : (some ((([x4_1, x5_2, x6_3, x7_4] : List Int)), true)) = some (r1, r2) := by rw [if_pos rfl] at H; exact H
              clear H
              have H := H1
              clear H1
              obtain ⟨y132, hy132⟩ : ∃ y_ : List Int, y_ = (([x4_1, x5_2, x6_3, x7_4] : List Int)) := ⟨_, rfl⟩
              replace H : (some (y132, true)) = some (r1, r2) := by first | (rw [hy132]; with_reducible exact H) | (have H2_ := (Option.bind_some _ _).symm.trans H; rw [hy132]; with_reducible exact H2_) | (have H2_ := (Option.bind_some _ _).symm.trans H; with_reducible exact H2_) | with_reducible exact H | (rw [hy132]; exact H) | exact H
              have Ny132 := aM hy132
              clear hy132
              simp only [Option.some.injEq, Prod.mk.injEq] at H
              obtain ⟨rfl, rfl⟩ := H
              have hcz12_0 := zc20 BK130
              have hcz12_1 := zc21 BK130
              have hfz12_0 := blk_frozen BK130.out 0
              have hfz12_1 := blk_frozen BK130.out 1
              go_wp2_with (first | ((with_reducible refine gate_callee (f := 122) rfl ?_); refine gL (some 37) Tryd.func122 #[.agg #[.int .i64 a0_0, .slice A0_1 l0_1.length c0_1], .int .i64 x4_1, .int .i64 x5_2, .int .i64 x6_3, .int .i64 x7_4] ?_; (with_reducible refine (spec_ivRefuses.calls a0_0 _ _ l0_1 x4_1 x5_2 x6_3 x7_4 true _ (cQ (Kd.C_below HR0_1.out HB.out)) HC0_1.out A10.out).mono ?_); rintro e w13 ⟨rfl, hb⟩; refine ⟨_, rfl, ?_⟩; have _ := aM (blk_below (qQ BK130) hb); have _ := aM (below_step bq hb); clear BK130 HB; rename_i BK130 HB; (try clear hb); (try clear hb2); (try clear hk); (try clear hi)) | ((with_reducible refine gate_dst (N := 42) rfl ?_); refine Kd.R_lit (Kd.int .i64) _ 3 ?hg (N := 42) ?hd (xs := ([x4_1, x5_2, x6_3, x7_4] : List Int)) (inner := [.int .i64 x4_1, .int .i64 x5_2, .int .i64 x6_3, .int .i64 x7_4]) (ok := fun _ => True) (okp := fun _ => True) ?hr ?hp (fun _ hk => hk) trivial (Below.refl _ _) (Nat.le_refl _) (by simp) ?_; (case hd => rfl); (case hg => rfl); (case hr => first | (go_simp; done) | (go_simp; rfl)); (case hp => exact (Reps.one (show Kd.M (Kd.int .i64) _ _ _ x4_1 [.int .i64 x4_1] from rfl) (Reps.one (show Kd.M (Kd.int .i64) _ _ _ x5_2 [.int .i64 x5_2] from rfl) (Reps.one (show Kd.M (Kd.int .i64) _ _ _ x6_3 [.int .i64 x6_3] from rfl) (Reps.one (show Kd.M (Kd.int .i64) _ _ _ x7_4 [.int .i64 x7_4] from rfl) (Reps.none _ _)))))); intro v133 w14 ho15 hb hg_ hnew_; clear hg_ hnew_; (first | rw [← Ny132.out] at ho15 | (simp only [Int.reduceToNat] at ho15; rw [← Ny132.out] at ho15)); have _ := aM (Kd.R_lower ho15 (below_size bq)); have _ := aM (blk_below (qQ BK130) hb); have _ := aM (below_step bq hb); clear BK130 HB; rename_i HO134 BK130 HB; clear hb ho15))
              go_ret2
              exact ⟨_, eE, rQ HO134, bq⟩
             ·replace c11 := Bool.eq_false_iff.mpr c11
              subst c11
              have H1 : (spec_ivTwoTwo.l3 k4 x4_1 x5_2 x6_3 (wrap64 (x7_4 + 1)) a0_0 l0_1) = some (r1, r2) := by rw [if_neg (show ¬ (false = true) by decide)] at H; exact H
              clear H
              have H := H1
              clear H1
              have H' := aM H
              clear H
              have hcz16_0 := zc20 BK130
              have hcz16_1 := zc21 BK130
              have hfz16_0 := blk_frozen BK130.out 0
              have hfz16_1 := blk_frozen BK130.out 1
              go_wp2_with (first | ((with_reducible refine gate_callee (f := 122) rfl ?_); refine gL (some 37) Tryd.func122 #[.agg #[.int .i64 a0_0, .slice A0_1 l0_1.length c0_1], .int .i64 x4_1, .int .i64 x5_2, .int .i64 x6_3, .int .i64 x7_4] ?_; (with_reducible refine (spec_ivRefuses.calls a0_0 _ _ l0_1 x4_1 x5_2 x6_3 x7_4 false _ (cQ (Kd.C_below HR0_1.out HB.out)) HC0_1.out A10.out).mono ?_); rintro e w17 ⟨rfl, hb⟩; refine ⟨_, rfl, ?_⟩; have _ := aM (blk_below (qQ BK130) hb); have _ := aM (below_step bq hb); clear BK130 HB; rename_i BK130 HB; (try clear hb); (try clear hb2); (try clear hk); (try clear hi)))
              go_roundg k4
              case measure => have := HK1.out; have := HK2.out; have := HK3.out; have := HK4.out; omega
              case rel => exact ⟨(wrap64 (x7_4 + 1)), eR, H', ⟨by have := HK1.out; have := HK2.out; have := HK3.out; have := HK4.out; omega⟩, ⟨qQ BK130⟩, ⟨bq⟩⟩
            ·rw [if_neg c9] at H
             have c9b0 := decide_eq_false c9
             clear c9
             have H' := aM H
             clear H
             have hcz18_0 := zc20 BK130
             have hcz18_1 := zc21 BK130
             have hfz18_0 := blk_frozen BK130.out 0
             have hfz18_1 := blk_frozen BK130.out 1
             go_wp2
             go_roundg k4
             case measure => have := HK1.out; have := HK2.out; have := HK3.out; have := HK4.out; omega
             case rel => exact ⟨(wrap64 (x6_3 + 1)), eR, H', ⟨by have := HK1.out; have := HK2.out; have := HK3.out; have := HK4.out; omega⟩, ⟨qQ BK130⟩, ⟨bq⟩⟩
         ·rw [if_neg c7] at H
          have c7b0 := decide_eq_false c7
          clear c7
          have H' := aM H
          clear H
          have hcz19_0 := zc20 BK130
          have hcz19_1 := zc21 BK130
          have hfz19_0 := blk_frozen BK130.out 0
          have hfz19_1 := blk_frozen BK130.out 1
          go_wp2
          go_roundg k3
          case measure => have := HK1.out; have := HK2.out; have := HK3.out; omega
          case rel => exact ⟨(wrap64 (x5_2 + 1)), eR, H', ⟨by have := HK1.out; have := HK2.out; have := HK3.out; omega⟩, ⟨qQ BK130⟩, ⟨bq⟩⟩
      ·rw [if_neg c5] at H
       have c5b0 := decide_eq_false c5
       clear c5
       have H' := aM H
       clear H
       have hcz20_0 := zc20 BK130
       have hcz20_1 := zc21 BK130
       have hfz20_0 := blk_frozen BK130.out 0
       have hfz20_1 := blk_frozen BK130.out 1
       go_wp2
       go_roundg k2
       case measure => have := HK1.out; have := HK2.out; omega
       case rel => exact ⟨(wrap64 (x4_1 + 1)), eR, H', ⟨by have := HK1.out; have := HK2.out; omega⟩, ⟨qQ BK130⟩, ⟨bq⟩⟩
   ·rw [if_neg c3] at H
    have c3b0 := decide_eq_false c3
    clear c3
    simp only [Option.some.injEq, Prod.mk.injEq] at H
    obtain ⟨rfl, rfl⟩ := H
    have hcz21_0 := zc20 BK130
    have hcz21_1 := zc21 BK130
    have hfz21_0 := blk_frozen BK130.out 0
    have hfz21_1 := blk_frozen BK130.out 1
    go_wp2
    go_ret2
    exact ⟨_, eE, by first | exact Kd.R_nil _ _ _ _ _ | exact Kd.N_nil _ _ _ _ _ | exact Kd.V_nil _ _ _ _ _ | exact Kd.Q_nil _ _ _ _ _ | exact Kd.S_nil _ _ _ _ _, bq⟩

def spec_ivIs.f (k : Nat) (a0_0 : Int) (l0_1 : List Int) : Option (Bool) := (spec_ivTwoTwo.f k a0_0 l0_1).bind fun bt136 => (some (!bt136.2))
set_option maxHeartbeats 8000000 in
set_option maxRecDepth 100000 in
theorem spec_ivIs.calls (k : Nat) (a0_0 : Int) (A0_1 : Option Addr) (c0_1 : Nat) (l0_1 : List Int) (r : Bool) (w : World) (hr0_1 : Kd.C (Kd.int .i64) w A0_1 l0_1.length l0_1) (hc0_1 : l0_1.length ≤ c0_1) (h : spec_ivIs.f k a0_0 l0_1 = some r) :
  Calls Tryd.prog 64 #[.agg #[.int .i64 a0_0, .slice A0_1 l0_1.length c0_1]] w fun e w' => e = .returned (.bool r) ∧ Below w.heap.size w w' := by
 have hu31 := Tryd.underlying31
 have HR0_1 := aM hr0_1
 have HC0_1 := aM hc0_1
 clear hr0_1 hc0_1
 have HB := aM (Below.refl w.heap.size w)
 have H : ((spec_ivTwoTwo.f k a0_0 l0_1).bind fun bt136 => (some (!bt136.2))) = some r := h
 clear h
 replace H := bS H
 obtain ⟨⟨t136, t139⟩, A2, H⟩ := H
 try dsimp only at H
 obtain rfl := Option.some.inj H
 go_enter Tryd.func64, Tryd.ntmps64
 go_wp2_with (first | ((with_reducible refine gate_dst (N := 1) rfl ?_); refine bE 1 31 #[.int .i64 a0_0, .slice A0_1 l0_1.length c0_1] ?_; intro gb135 hg w3 hbox hb; have _ := aM (below_step bq hb); have _ := aM (hbox); have _ := aM ((gS hg)); have _ := aM ((gS hg)); clear HB; rename_i HB BK135 GW135 GE135; clear hb hbox hg; have hcz4_0 := zc20 BK135; have hcz4_1 := zc21 BK135; have hfz4_0 := blk_frozen BK135.out 0; have hfz4_1 := blk_frozen BK135.out 1) | ((with_reducible refine gate_callee (f := 95) rfl ?_); refine gL (some 7) Tryd.func95 #[.agg #[.int .i64 a0_0, .slice A0_1 l0_1.length c0_1]] ?_; (with_reducible refine (spec_ivTwoTwo.calls k a0_0 _ _ l0_1 t136 t139 _ (cQ (Kd.C_below HR0_1.out HB.out)) HC0_1.out A2.out).mono ?_); rintro e w5 ⟨v137, rfl, ho0, hb⟩; refine ⟨_, rfl, ?_⟩; have _ := aM (Kd.R_lower ho0 (below_size bq)); have _ := aM (blk_below (qQ BK135) hb); have _ := aM (below_step bq hb); clear BK135 HB; rename_i HO138 BK135 HB; (try clear hb); (try clear hb2); (try clear hk); (try clear hi); (try clear ho0)))
 go_ret
 exact ⟨eE, bq⟩

def spec_ivGoodOrder.f (k : Nat) (a0_0 : Int) (l0_1 : List Int) : Option (Bool) := (spec_orGood.f k a0_0 l0_1).bind fun t141 => (if t141 = true then ((spec_ivIs.f k a0_0 l0_1).bind fun t142 => (some t142)) else (some false))
set_option maxHeartbeats 8000000 in
set_option maxRecDepth 100000 in
theorem spec_ivGoodOrder.calls (k : Nat) (a0_0 : Int) (A0_1 : Option Addr) (c0_1 : Nat) (l0_1 : List Int) (r : Bool) (w : World) (hr0_1 : Kd.C (Kd.int .i64) w A0_1 l0_1.length l0_1) (hc0_1 : l0_1.length ≤ c0_1) (h : spec_ivGoodOrder.f k a0_0 l0_1 = some r) :
  Calls Tryd.prog 37 #[.agg #[.int .i64 a0_0, .slice A0_1 l0_1.length c0_1]] w fun e w' => e = .returned (.bool r) ∧ Below w.heap.size w w' := by
 have hu31 := Tryd.underlying31
 have HR0_1 := aM hr0_1
 have HC0_1 := aM hc0_1
 clear hr0_1 hc0_1
 have HB := aM (Below.refl w.heap.size w)
 have H : ((spec_orGood.f k a0_0 l0_1).bind fun t141 => (if t141 = true then ((spec_ivIs.f k a0_0 l0_1).bind fun t142 => (some t142)) else (some false))) = some r := h
 clear h
 replace H := bS H
 obtain ⟨t141, A2, H⟩ := H
 try dsimp only at H
 by_cases c3 : t141 = true
 ·subst c3
  have H1 : ((spec_ivIs.f k a0_0 l0_1).bind fun t142 => (some t142)) = some r := by rw [if_pos rfl] at H; exact H
  clear H
  have H := H1
  clear H1
  replace H := bS H
  obtain ⟨t142, A4, H⟩ := H
  try dsimp only at H
  obtain rfl := Option.some.inj H
  go_enter Tryd.func37, Tryd.ntmps37
  go_wp2_with (first | ((with_reducible refine gate_dst (N := 1) rfl ?_); refine bE 1 31 #[.int .i64 a0_0, .slice A0_1 l0_1.length c0_1] ?_; intro gb140 hg w5 hbox hb; have _ := aM (below_step bq hb); have _ := aM (hbox); have _ := aM ((gS hg)); have _ := aM ((gS hg)); clear HB; rename_i HB BK140 GW140 GE140; clear hb hbox hg; have hcz6_0 := zc20 BK140; have hcz6_1 := zc21 BK140; have hfz6_0 := blk_frozen BK140.out 0; have hfz6_1 := blk_frozen BK140.out 1) | ((with_reducible refine gate_callee (f := 63) rfl ?_); refine gL (some 4) Tryd.func63 #[.agg #[.int .i64 a0_0, .slice A0_1 l0_1.length c0_1]] ?_; (with_reducible refine (spec_orGood.calls k a0_0 _ _ l0_1 true _ (cQ (Kd.C_below HR0_1.out HB.out)) HC0_1.out A2.out).mono ?_); rintro e w7 ⟨rfl, hb⟩; refine ⟨_, rfl, ?_⟩; have _ := aM (blk_below (qQ BK140) hb); have _ := aM (below_step bq hb); clear BK140 HB; rename_i BK140 HB; (try clear hb); (try clear hb2); (try clear hk); (try clear hi); have hcz8_0 := zc20 BK140; have hcz8_1 := zc21 BK140; have hfz8_0 := blk_frozen BK140.out 0; have hfz8_1 := blk_frozen BK140.out 1) | (go_at_call 64; (with_reducible refine (spec_ivIs.calls k a0_0 _ _ l0_1 t142 _ (cQ (Kd.C_below HR0_1.out HB.out)) HC0_1.out A4.out).mono ?_); rintro e w9 ⟨rfl, hb⟩; have _ := aM (blk_below (qQ BK140) hb); have _ := aM (below_step bq hb); clear BK140 HB; rename_i BK140 HB; (try clear hb); (try clear hb2); (try clear hk); (try clear hi)))
  go_ret
  exact ⟨eE, bq⟩
 ·replace c3 := Bool.eq_false_iff.mpr c3
  subst c3
  have H1 : (some false) = some r := by rw [if_neg (show ¬ (false = true) by decide)] at H; exact H
  clear H
  have H := H1
  clear H1
  obtain rfl := Option.some.inj H
  go_enter Tryd.func37, Tryd.ntmps37
  go_wp2_with (first | ((with_reducible refine gate_dst (N := 1) rfl ?_); refine bE 1 31 #[.int .i64 a0_0, .slice A0_1 l0_1.length c0_1] ?_; intro gb140 hg w10 hbox hb; have _ := aM (below_step bq hb); have _ := aM (hbox); have _ := aM ((gS hg)); have _ := aM ((gS hg)); clear HB; rename_i HB BK140 GW140 GE140; clear hb hbox hg; have hcz11_0 := zc20 BK140; have hcz11_1 := zc21 BK140; have hfz11_0 := blk_frozen BK140.out 0; have hfz11_1 := blk_frozen BK140.out 1) | ((with_reducible refine gate_callee (f := 63) rfl ?_); refine gL (some 4) Tryd.func63 #[.agg #[.int .i64 a0_0, .slice A0_1 l0_1.length c0_1]] ?_; (with_reducible refine (spec_orGood.calls k a0_0 _ _ l0_1 false _ (cQ (Kd.C_below HR0_1.out HB.out)) HC0_1.out A2.out).mono ?_); rintro e w12 ⟨rfl, hb⟩; refine ⟨_, rfl, ?_⟩; have _ := aM (blk_below (qQ BK140) hb); have _ := aM (below_step bq hb); clear BK140 HB; rename_i BK140 HB; (try clear hb); (try clear hb2); (try clear hk); (try clear hi)))
  go_ret
  exact ⟨eE, bq⟩

end Go.Proofs.YtcodionjhcmfhaaDoor.Mo
