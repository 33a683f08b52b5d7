-- Written by hook.py (wip/), over the kit's print.py.
import Derived.Test.YtcodionjhcmfhaaGreatDoorOa2
import Derived.Test.YtcodionjhcmfhaaGreatDoorOa8
import Derived.Test.YtcodionjhcmfhaaGreatDoorOa24
import Derived.Test.YtcodionjhcmfhaaGreatDoorOaXSq
namespace Go.Proofs.YtcodionjhcmfhaaGreatDoor.Oa
open Go.RowKit Go.Proofs.YtcodionjhcmfhaaGreatDoorW.PrintWords Go.Proofs.YtcodionjhcmfhaaGreatDoorW.PrintLast Go.Proofs.YtcodionjhcmfhaaGreatDoorW.PrintMore Go.Proofs.YtcodionjhcmfhaaGreatDoor.Sq
attribute [local go_sem] max2_int min2_int max_two min_two max_three min_three max_four min_four
set_option linter.unusedVariables false
set_option linter.unusedSimpArgs false
set_option maxHeartbeats 8000000
set_option maxRecDepth 100000
mutual
def Y8.j0 : Nat → Bool → List (List Int) → Option (Int × List Int × Bool)
 | 0, _, _ => none
 | k + 1, x16, x476000 => if x16 = true then (some (0, ([] : List Int), false)) else (Y8.l0 k ([] : List (S70)) x476000 (x476000.length : Int) 0)
def Y8.l0 : Nat → List (S70) → List (List Int) → Int → Int → Option (Int × List Int × Bool)
 | 0, _, _, _, _ => none
 | k + 1, x4, x19, x20, x21 => if x21 < x20 then (if 0 ≤ x21 then (if x21 < (x19.length : Int) then (Y8.l1 k x4 x21 x19 x20 x21 (rd_L3 x19 x21) ((rd_L3 x19 x21).length : Int) 0) else (none)) else (none)) else ((Y22.f k x4).bind fun bt479 => (some (bt479.1, bt479.2, true)))
def Y8.l1 : Nat → List (S70) → Int → List (List Int) → Int → Int → List Int → Int → Int → Option (Int × List Int × Bool)
 | 0, _, _, _, _, _, _, _, _ => none
 | k + 1, x4, x5, x19, x20, x21, x26, x27, x28 => if x28 < x27 then (if 0 ≤ x28 then (if x28 < (x26.length : Int) then (Y8.l2 k x4 x5 x28 (rd x26 x28) x19 x20 x21 x26 x27 x28) else (none)) else (none)) else (Y8.l0 k x4 x19 x20 (wrap64 (x21 + 1)))
def Y8.l2 : Nat → List (S70) → Int → Int → Int → List (List Int) → Int → Int → List Int → Int → Int → Option (Int × List Int × Bool)
 | 0, _, _, _, _, _, _, _, _, _, _ => none
 | k + 1, x4, x5, x7, x8, x19, x20, x21, x26, x27, x28 => if x8 > 0 then (if x4.length < 8796093022208 then (Y8.l2 k (x4 ++ [(⟨x5, x7⟩ : S70)]) x5 x7 (wrap64 (x8 - 1)) x19 x20 x21 x26 x27 x28) else (none)) else (Y8.l1 k x4 x5 x19 x20 x21 x26 x27 (wrap64 (x28 + 1)))
end
def Y8.f (k : Nat) (l0_0 : List (List Int)) : Option (Int × List Int × Bool) := (Y7.f k l0_0).bind fun t477 => (if t477 = true then ((Y40.f k l0_0).bind fun t478 => (Y8.j0 k (decide (t478 > 10)) l0_0)) else (Y8.j0 k true l0_0))
theorem Y8.calls (k : Nat) (A0_0 : Option Addr) (c0_0 : Nat) (l0_0 : List (List Int)) (r1 : Int) (r2 : List Int) (r3 : Bool) (w : World) (hr0_0 : Kd.C (Kd.slice 3 (Kd.int .i64)) w A0_0 l0_0.length l0_0) (hc0_0 : l0_0.length ≤ c0_0) (h : Y8.f k l0_0 = some (r1, r2, r3)) :
  Calls Tryz.prog 17 #[.agg #[.slice A0_0 l0_0.length c0_0]] w fun e w' => ∃ v1_ : Value, e = .returned (.tuple #[.agg #[.int .i64 r1, v1_], .bool r3]) ∧ Kd.R (Kd.int .i64) 3 w' w.heap.size (fun _ => True) v1_ r2 ∧ Below w.heap.size w w' := by
 have hu30 := Tryz.underlying30
 have hu26 := Tryz.underlying26
 have hu70 := Tryz.underlying70
 have HR0_0 := aM hr0_0
 have HC0_0 := aM hc0_0
 clear hr0_0 hc0_0
 have HB := aM (Below.refl w.heap.size w)
 unfold Y8.f at h
 have H := h
 clear h
 have HC2 := aM H
 clear H
 go_enter Tryz.func17, Tryz.ntmps17
 go_upto_region 1 with (first | ((with_reducible refine gate_dst (N := 1) rfl ?_); refine bF 1 30 #[.slice A0_0 l0_0.length c0_0] bq ?_; intro gb475 w3 hg hb _ _ _ _; clear HB; rename_i HB BK475 GW475 GE475; clear hb hg) | ((with_reducible refine gate_dst (N := 2) rfl ?_); refine bE 2 26 #[.int .i64 0, .slice none 0 0] ?_; intro gb476 hg w4 hbox hb; have _ := bK BK475 hb; have _ := bB hb; have _ := aM (hbox); have _ := aM ((gS hg)); have _ := aM ((gS hg)); have _ := aM (nL hg BK475); have _ := aM (nG hg BK475); clear BK475 HB; rename_i BK475 HB BK476 GW476 GE476 NB475_476 NB476_475; clear hb hbox hg))
 (try simp only [Act.put, List.setIfInBounds_toArray, List.set_cons_zero, List.set_cons_succ])
 go_cut [16] (fun v16 wc => ∃ (kq : Nat) (x16_1 : Bool), v16 = .bool x16_1 ∧ Aside0 (Y8.j0 kq x16_1 l0_0 = some (r1, r2, r3)) ∧ Aside0 (kq ≤ k) ∧ Aside0 (wc.heap[gb475]? = some (.cells #[(.slice A0_0 l0_0.length c0_0)] 30 (0, 0))) ∧ Aside0 (wc.heap[gb476]? = some (.cells #[.int .i64 0, (.slice none 0 0)] 26 (0, 0))) ∧ Aside0 (Below w.heap.size w wc))
 case first =>
  have H := HC2.out
  clear HC2
  replace H := bS H
  obtain ⟨t477, A5, H⟩ := H
  try dsimp only at H
  by_cases c6 : t477 = true
  ·subst c6
   have H1 : ((Y40.f k l0_0).bind fun t478 => (Y8.j0 k (decide (t478 > 10)) l0_0)) = some (r1, r2, r3) := by rw [if_pos rfl] at H; exact H
   clear H
   have H := H1
   clear H1
   replace H := bS H
   obtain ⟨t478, A7, H⟩ := H
   try dsimp only at H
   have H' := aM H
   clear H
   have hnb8 := NB475_476.out
   have hnc8 := NB476_475.out
   have hcz9_0 := zc10 BK475
   have hfz9_0 := blk_frozen BK475.out 0
   go_wp2_with (first | ((with_reducible refine gate_callee (f := 39) rfl ?_); refine gL (some 10) Tryz.func39 #[.agg #[.slice A0_0 l0_0.length c0_0]] ?_; (with_reducible refine (Y7.calls k _ _ l0_0 true _ (cQ (Kd.C_below HR0_0.out HB.out)) HC0_0.out A5.out).mono ?_); rintro e w10 ⟨rfl, hb⟩; refine ⟨_, rfl, ?_⟩; have _ := bK BK475 hb; have _ := bK BK476 hb; have _ := bB hb; clear BK475 BK476 HB; rename_i BK475 BK476 HB; (try clear hb); have hcz11_0 := zc10 BK475; have hfz11_0 := blk_frozen BK475.out 0) | (go_at_call 46; (with_reducible refine (Y40.calls k _ _ l0_0 t478 _ (cQ (Kd.C_below HR0_0.out HB.out)) HC0_0.out A7.out).mono ?_); rintro e w12 ⟨rfl, hb⟩; have _ := bK BK475 hb; have _ := bK BK476 hb; have _ := bB hb; clear BK475 BK476 HB; rename_i BK475 BK476 HB; (try clear hb)))
   go_meet
   case rel => exact ⟨_, (decide (t478 > 10)), eR, H', ⟨by first | omega | exact Nat.le_refl _⟩, ⟨qQ BK475⟩, ⟨qQ BK476⟩, ⟨bq⟩⟩
  ·replace c6 := Bool.eq_false_iff.mpr c6
   subst c6
   have H1 : (Y8.j0 k true l0_0) = some (r1, r2, r3) := by rw [if_neg (show ¬ (false = true) by decide)] at H; exact H
   clear H
   have H := H1
   clear H1
   have H' := aM H
   clear H
   have hnb13 := NB475_476.out
   have hnc13 := NB476_475.out
   have hcz14_0 := zc10 BK475
   have hfz14_0 := blk_frozen BK475.out 0
   go_wp2_with (first | ((with_reducible refine gate_callee (f := 39) rfl ?_); refine gL (some 10) Tryz.func39 #[.agg #[.slice A0_0 l0_0.length c0_0]] ?_; (with_reducible refine (Y7.calls k _ _ l0_0 false _ (cQ (Kd.C_below HR0_0.out HB.out)) HC0_0.out A5.out).mono ?_); rintro e w15 ⟨rfl, hb⟩; refine ⟨_, rfl, ?_⟩; have _ := bK BK475 hb; have _ := bK BK476 hb; have _ := bB hb; clear BK475 BK476 HB; rename_i BK475 BK476 HB; (try clear hb)))
   go_meet
   case rel => exact ⟨_, (true), eR, H', ⟨by first | omega | exact Nat.le_refl _⟩, ⟨qQ BK475⟩, ⟨qQ BK476⟩, ⟨bq⟩⟩
 case rest =>
  clear HC2
  try clear c6
  try clear hcz11_0
  try clear hcz14_0
  try clear hcz9_0
  try clear hfz11_0
  try clear hfz14_0
  try clear hfz9_0
  obtain ⟨kq, x16_1, rfl, HA, HJ1, BK475, BK476, HB⟩ := hcut
  cases kq with
  | zero => exact absurd HA.out (by simp [Y8.j0])
  | succ kj1 =>
   have H := HA.out
   clear HA
   simp only [Y8.j0] at H
   by_cases c16 : x16_1 = true
   ·subst c16
    have H1 : (some (0, ([] : List Int), false)) = some (r1, r2, r3) := by rw [if_pos rfl] at H; exact H
    clear H
    have H := H1
    clear H1
    simp only [Option.some.injEq, Prod.mk.injEq] at H
    obtain ⟨rfl, rfl, rfl⟩ := H
    have hnb17 := NB476_475.out
    have hnc17 := NB475_476.out
    have hcz18_0 := zc20 BK476
    have hcz18_1 := zc21 BK476
    have hfz18_0 := blk_frozen BK476.out 0
    have hfz18_1 := blk_frozen BK476.out 1
    go_wp2
    refine bodyPost_ret (results_ct rfl _ _ gb476 26 #[.int .i64 0, .slice none 0 0] (0, 0) _ rfl (by (with_reducible repeat first|apply qN|apply qD|apply qA); refine blk_put (cs := #[.int .i64 0, .slice none 0 0]) ?_ 1 _ rfl; (with_reducible repeat first|apply qN|apply qD|apply qA); refine blk_put (cs := #[.int .i64 0, .slice none 0 0]) ?_ 0 _ rfl; (with_reducible repeat first|apply qN|apply qD|apply qA); exact BK476.out) Tryz.underlying26 rfl (by kernel_rfl)) rfl ?_
    exact ⟨_, eE, by first | exact Kd.R_nil _ _ _ _ _ | exact Kd.N_nil _ _ _ _ _ | exact Kd.V_nil _ _ _ _ _ | exact Kd.Q_nil _ _ _ _ _ | exact Kd.S_nil _ _ _ _ _, bq⟩
   ·replace c16 := Bool.eq_false_iff.mpr c16
    subst c16
    have H1 : (Y8.l0 kj1 ([] : List (S70)) l0_0 (l0_0.length : Int) 0) = some (r1, r2, r3) := by rw [if_neg (show ¬ (false = true) by decide)] at H; exact H
    clear H
    have H := H1
    clear H1
    have H' := aM H
    clear H
    have hnb19 := NB475_476.out
    have hnc19 := NB476_475.out
    have hcz20_0 := zc10 BK475
    have hfz20_0 := blk_frozen BK475.out 0
    go_wp2
    go_loopg [4, 21] kj1 (fun kq v4 v21 w' => ∃ (x4_2 : List (S70)) (x21_2 : Int), v21 = .int .i64 x21_2 ∧ Aside0 (Y8.l0 kq x4_2 l0_0 (l0_0.length : Int) x21_2 = some (r1, r2, r3)) ∧ Aside0 (kq ≤ kj1) ∧ Aside0 (Kd.R k70 70 w' w.heap.size (fun _ => True) v4 x4_2) ∧ Aside0 (w'.heap[gb475]? = some (.cells #[(.slice A0_0 l0_0.length c0_0)] 30 (0, 0))) ∧ Aside0 (w'.heap[gb476]? = some (.cells #[.int .i64 0, (.slice none 0 0)] 26 (0, 0))) ∧ Aside0 (Below w.heap.size w w'))
    case atStart => exact ⟨(([] : List (S70))), (0), eR, H', ⟨Nat.le_refl _⟩, ⟨by first | exact Kd.R_nil _ _ _ _ _ | exact Kd.N_nil _ _ _ _ _ | exact Kd.V_nil _ _ _ _ _ | exact Kd.Q_nil _ _ _ _ _ | exact Kd.S_nil _ _ _ _ _⟩, ⟨qQ BK475⟩, ⟨qQ BK476⟩, ⟨bq⟩⟩
    case round =>
     clear H'
     try clear c6
     try clear c16
     try clear hcz11_0
     try clear hcz14_0
     try clear hcz18_0
     try clear hcz18_1
     try clear hcz20_0
     try clear hcz9_0
     try clear hfz11_0
     try clear hfz14_0
     try clear hfz18_0
     try clear hfz18_1
     try clear hfz20_0
     try clear hfz9_0
     obtain ⟨x4_2, x21_2, rfl, HA, HK2, HO_4, BK475, BK476, HB⟩ := hrel
     cases gk with
     | zero => exact absurd HA.out (by simp [Y8.l0])
     | succ k2 =>
      have H := HA.out
      clear HA
      simp only [Y8.l0] at H
      by_cases c21 : x21_2 < (l0_0.length : Int)
      ·rw [if_pos c21] at H
       have c21b0 := decide_eq_true c21
       clear c21
       replace H := iD2 H
       obtain ⟨c22b0, c23b0, H⟩ := H
       have H' := aM H
       clear H
       have p483 : 0 ≤ (x21_2 : Int) := odt
       have q483 : x21_2 < (l0_0.length : Int) := odt
       obtain ⟨ad483, A483_0, c483_0, e483, hx483_0, hl483_0, hi483_0⟩ := at_L3 HR0_0.out x21_2 p483 q483
       cases e483
       replace hx483_0 := (HB.out.cell (World.block_lt_of_cell? w _ hx483_0)).trans hx483_0
       have HR483_0 := aM hi483_0
       have HC483_0 := aM hl483_0
       clear hi483_0 hl483_0
       replace p483 := eq_true p483
       replace q483 := eq_true q483
       go_wp2
       go_loopg [4, 28] k2 (fun kq v4 v28 w' => ∃ (x4_3 : List (S70)) (x28_3 : Int), v28 = .int .i64 x28_3 ∧ Aside0 (Y8.l1 kq x4_3 x21_2 l0_0 (l0_0.length : Int) x21_2 (rd_L3 l0_0 x21_2) ((rd_L3 l0_0 x21_2).length : Int) x28_3 = some (r1, r2, r3)) ∧ Aside0 (kq ≤ k2) ∧ Aside0 (Kd.R k70 70 w' w.heap.size (fun _ => True) v4 x4_3) ∧ Aside0 (w'.heap[gb475]? = some (.cells #[(.slice (some ad483) l0_0.length c0_0)] 30 (0, 0))) ∧ Aside0 (w'.heap[gb476]? = some (.cells #[.int .i64 0, (.slice none 0 0)] 26 (0, 0))) ∧ Aside0 (Below w.heap.size w w'))
       case atStart => exact ⟨(x4_2), (0), eR, H', ⟨Nat.le_refl _⟩, ⟨rQ HO_4⟩, ⟨qQ BK475⟩, ⟨qQ BK476⟩, ⟨bq⟩⟩
       case round =>
        clear H'
        try clear c6
        try clear c16
        try clear c21
        try clear c21b0
        try clear c22b0
        try clear c23b0
        try clear hcz11_0
        try clear hcz14_0
        try clear hcz18_0
        try clear hcz18_1
        try clear hcz20_0
        try clear hcz9_0
        try clear hfz11_0
        try clear hfz14_0
        try clear hfz18_0
        try clear hfz18_1
        try clear hfz20_0
        try clear hfz9_0
        try clear hx483_0
        try clear p483
        try clear q483
        obtain ⟨x4_3, x28_3, rfl, HA, HK3, HO_4, BK475, BK476, HB⟩ := hrel
        cases gk with
        | zero => exact absurd HA.out (by simp [Y8.l1])
        | succ k3 =>
         have H := HA.out
         clear HA
         simp only [Y8.l1] at H
         by_cases c24 : x28_3 < ((rd_L3 l0_0 x21_2).length : Int)
         ·rw [if_pos c24] at H
          have c24b0 := decide_eq_true c24
          clear c24
          replace H := iD2 H
          obtain ⟨c25b0, c26b0, H⟩ := H
          have H' := aM H
          clear H
          have p484 : 0 ≤ (x28_3 : Int) := odt
          have q484 : x28_3 < ((rd_L3 l0_0 x21_2).length : Int) := odt
          obtain ⟨ad484, e484, hx484_0⟩ := Kd.at_int HR483_0.out x28_3 p484 q484
          cases e484
          replace hx484_0 := (HB.out.cell (World.block_lt_of_cell? w _ hx484_0)).trans hx484_0
          replace p484 := eq_true p484
          replace q484 := eq_true q484
          go_wp2
          go_loopg [4, 8] k3 (fun kq v4 v8 w' => ∃ (x4_4 : List (S70)) (x8_4 : Int), v8 = .int .i64 x8_4 ∧ Aside0 (Y8.l2 kq x4_4 x21_2 x28_3 x8_4 l0_0 (l0_0.length : Int) x21_2 (rd_L3 l0_0 x21_2) ((rd_L3 l0_0 x21_2).length : Int) x28_3 = some (r1, r2, r3)) ∧ Aside0 (kq ≤ k3) ∧ Aside0 (Kd.R k70 70 w' w.heap.size (fun _ => True) v4 x4_4) ∧ Aside0 (w'.heap[gb475]? = some (.cells #[(.slice (some ad483) l0_0.length c0_0)] 30 (0, 0))) ∧ Aside0 (w'.heap[gb476]? = some (.cells #[.int .i64 0, (.slice none 0 0)] 26 (0, 0))) ∧ Aside0 (Below w.heap.size w w'))
          case atStart => exact ⟨(x4_3), (rd (rd_L3 l0_0 x21_2) x28_3), eR, H', ⟨Nat.le_refl _⟩, ⟨rQ HO_4⟩, ⟨qQ BK475⟩, ⟨qQ BK476⟩, ⟨bq⟩⟩
          case round =>
           clear H'
           try clear c6
           try clear c16
           try clear c21
           try clear c21b0
           try clear c22b0
           try clear c23b0
           try clear c24
           try clear c24b0
           try clear c25b0
           try clear c26b0
           try clear hcz11_0
           try clear hcz14_0
           try clear hcz18_0
           try clear hcz18_1
           try clear hcz20_0
           try clear hcz9_0
           try clear hfz11_0
           try clear hfz14_0
           try clear hfz18_0
           try clear hfz18_1
           try clear hfz20_0
           try clear hfz9_0
           try clear hx483_0
           try clear hx484_0
           try clear p483
           try clear p484
           try clear q483
           try clear q484
           obtain ⟨x4_4, x8_4, rfl, HA, HK4, HO_4, BK475, BK476, HB⟩ := hrel
           cases gk with
           | zero => exact absurd HA.out (by simp [Y8.l2])
           | succ k4 =>
            have H := HA.out
            clear HA
            simp only [Y8.l2] at H
            by_cases c27 : x8_4 > 0
            ·rw [if_pos c27] at H
             have c27b0 := decide_eq_true c27
             clear c27
             replace H := iS H
             obtain ⟨c28, H⟩ := H
             have LMc28 := aM c28
             clear c28
             obtain ⟨y485, hy485⟩ := nE ((x4_4 ++ [(⟨x21_2, x28_3⟩ : S70)]) : List (S70))
             try rw [← hy485] at H
             try with_reducible replace H := (Option.bind_some _ _).symm.trans H
             try dsimp only at H
             have Ny485 := aM hy485
             clear hy485
             have H' := aM H
             clear H
             go_wp2_with (first | ((with_reducible refine gate_builtin (b := .append) (xs := #[.tmp 37, .tmp 41]) rfl ?_); at_builtin; refine Kd.R_append k70 (w0 := w) w.heap.size rfl (.tmp 37) (.tmp 41) 68 70 (.agg #[(.int .i64 0), (.int .i64 0)]) 16 rfl Tryz.underlying68 info70 rfl (by decide) (by omega) u4 x4_4 (⟨x21_2, x28_3⟩ : S70) [.int .i64 x21_2, .int .i64 x28_3] (fun _ => True) (fun _ => False) rfl rfl ?aP (fun _ hk => hk.elim) ?aF ?aO ?aB ?aS ?aL ?_; (case aP => exact k70_mkM _ _ _ (⟨x21_2, x28_3⟩ : S70)); (case aB => exact bq); (case aF => exact (fun _ _ => trivial)); (case aO => exact (rQ HO_4)); (case aS => exact (below_size bq)); (case aL => have := LMc28.out; omega); intro v486 w29 ho hb hg hat; rw [← Ny485.out] at ho; have _ := aM (blk_grown (g := gb475) (o := .cells #[.slice (some ad483) l0_0.length c0_0] 30 (0, 0)) (qQ BK475) hg (Kd.R_ne HO_4.out BK475.out (by decide))); have _ := aM (blk_grown (g := gb476) (o := .cells #[.int .i64 0, .slice none 0 0] 26 (0, 0)) (qQ BK476) hg (Kd.R_ne HO_4.out BK476.out (by decide))); have _ := aM (hb); have _ := aM (ho); clear BK475 BK476 HB HO_4; rename_i BK475 BK476 HB HO487; clear ho hb hg hat))
             go_roundg k4
             case measure => have := HJ1.out; have := HK2.out; have := HK3.out; have := HK4.out; omega
             case rel => exact ⟨(y485), (wrap64 (x8_4 - 1)), eR, H', ⟨by have := HJ1.out; have := HK2.out; have := HK3.out; have := HK4.out; omega⟩, ⟨rQ HO487⟩, ⟨qQ BK475⟩, ⟨qQ BK476⟩, ⟨bq⟩⟩
            ·rw [if_neg c27] at H
             have c27b0 := decide_eq_false c27
             clear c27
             have H' := aM H
             clear H
             go_wp2
             go_roundg k4
             case measure => have := HJ1.out; have := HK2.out; have := HK3.out; have := HK4.out; omega
             case rel => exact ⟨(x4_4), (wrap64 (x28_3 + 1)), eR, H', ⟨by have := HJ1.out; have := HK2.out; have := HK3.out; have := HK4.out; omega⟩, ⟨rQ HO_4⟩, ⟨qQ BK475⟩, ⟨qQ BK476⟩, ⟨bq⟩⟩
         ·rw [if_neg c24] at H
          have c24b0 := decide_eq_false c24
          clear c24
          have H' := aM H
          clear H
          go_wp2
          go_roundg k3
          case measure => have := HJ1.out; have := HK2.out; have := HK3.out; omega
          case rel => exact ⟨(x4_3), (wrap64 (x21_2 + 1)), eR, H', ⟨by have := HJ1.out; have := HK2.out; have := HK3.out; omega⟩, ⟨rQ HO_4⟩, ⟨qQ BK475⟩, ⟨qQ BK476⟩, ⟨bq⟩⟩
      ·rw [if_neg c21] at H
       have c21b0 := decide_eq_false c21
       clear c21
       replace H := bS H
       obtain ⟨⟨t479, t480⟩, A30, H⟩ := H
       try dsimp only at H
       simp only [Option.some.injEq, Prod.mk.injEq] at H
       obtain ⟨rfl, rfl, rfl⟩ := H
       obtain ⟨Ao31, co31, eo31⟩ := Kd.R_slice HO_4.out
       subst eo31
       go_wp2_with (first | ((with_reducible refine gate_callee (f := 47) rfl ?_); refine gL (some 46) Tryz.func47 #[.slice Ao31 x4_2.length co31] ?_; (with_reducible refine (Y22.calls k2 _ _ x4_2 t479 t480 _ (cQ ((Kd.R_reads' HO_4.out).2.2)) ((Kd.R_reads' HO_4.out).2.1) A30.out).mono ?_); rintro e w32 ⟨v481, rfl, ho0, hb⟩; refine ⟨_, rfl, ?_⟩; have _ := aM (Kd.R_below (rQ HO_4) hb); have _ := aM (Kd.R_lower ho0 (below_size bq)); have _ := bK BK475 hb; have _ := bK BK476 hb; have _ := bB hb; clear HO_4 BK475 BK476 HB; rename_i HO_4 HO482 BK475 BK476 HB; (try clear hb); (try clear ho0); have hnb33 := NB476_475.out; have hnc33 := NB475_476.out; have hcz34_0 := zc20 BK476; have hcz34_1 := zc21 BK476; have hfz34_0 := blk_frozen BK476.out 0; have hfz34_1 := blk_frozen BK476.out 1; obtain ⟨Ao35, co35, eo35⟩ := Kd.R_slice HO482.out; subst eo35))
       refine bodyPost_ret (results_ct rfl _ _ gb476 26 #[.int .i64 t479, .slice Ao35 t480.length co35] (0, 0) _ rfl (by (with_reducible repeat first|apply qN|apply qD|apply qA); refine blk_put (cs := #[.int .i64 t479, .slice none 0 0]) ?_ 1 _ rfl; (with_reducible repeat first|apply qN|apply qD|apply qA); refine blk_put (cs := #[.int .i64 0, .slice none 0 0]) ?_ 0 _ rfl; (with_reducible repeat first|apply qN|apply qD|apply qA); exact BK476.out) Tryz.underlying26 rfl (by kernel_rfl)) rfl ?_
       exact ⟨_, eE, by (with_reducible repeat first|apply rA|apply rN|apply rD); exact Kd.R_mono (Kd.R_far (p := ⟨gb476, 1, none⟩) (Kd.R_far (p := ⟨gb476, 0, none⟩) (Kd.R_types HO482.out BK476.out (by decide)) (fun _ hk => hk.2) (.int .i64 t479)) (fun _ hk => hk.2) (.slice Ao35 t480.length co35)) (fun _ hk => trivial), bq⟩
def laws_pSameOrder.f (k : Nat) (a0_0 : Int) (l0_1 : List Int) (a1_0 : Int) (l1_1 : List Int) : Option (Bool) := if a0_0 = a1_0 then ((laws_pSame.f k l0_1 l1_1).bind fun t490 => (some t490)) else (some false)
theorem laws_pSameOrder.calls (k : Nat) (a0_0 : Int) (A0_1 : Option Addr) (c0_1 : Nat) (l0_1 : List Int) (a1_0 : Int) (A1_1 : Option Addr) (c1_1 : Nat) (l1_1 : List Int) (r : Bool) (w : World) (hr0_1 : Kd.C (Kd.int .i64) w A0_1 l0_1.length l0_1) (hc0_1 : l0_1.length ≤ c0_1) (hr1_1 : Kd.C (Kd.int .i64) w A1_1 l1_1.length l1_1) (hc1_1 : l1_1.length ≤ c1_1) (h : laws_pSameOrder.f k a0_0 l0_1 a1_0 l1_1 = some r) :
  Calls Tryz.prog 18 #[.agg #[.int .i64 a0_0, .slice A0_1 l0_1.length c0_1], .agg #[.int .i64 a1_0, .slice A1_1 l1_1.length c1_1]] w fun e w' => e = .returned (.bool r) ∧ Below w.heap.size w w' := by
 have hu26 := Tryz.underlying26
 have HR0_1 := aM hr0_1
 have HC0_1 := aM hc0_1
 clear hr0_1 hc0_1
 have HR1_1 := aM hr1_1
 have HC1_1 := aM hc1_1
 clear hr1_1 hc1_1
 have HB := aM (Below.refl w.heap.size w)
 unfold laws_pSameOrder.f at h
 have H := h
 clear h
 by_cases c3 : a0_0 = a1_0
 ·rw [if_pos c3] at H
  have c3b0 : (a0_0 == a1_0) = true := beq_iff_eq.mpr c3
  have c3b1 : (a0_0 != a1_0) = false := bne_eq_false_iff_eq.mpr c3
  clear c3
  replace H := bS H
  obtain ⟨t490, A4, H⟩ := H
  try dsimp only at H
  obtain rfl := Option.some.inj H
  go_enter Tryz.func18, Tryz.ntmps18
  go_wp2_with (first | ((with_reducible refine gate_dst (N := 2) rfl ?_); refine bF 2 26 #[.int .i64 a0_0, .slice A0_1 l0_1.length c0_1] bq ?_; intro gb488 w5 hg hb _ _ _ _; clear HB; rename_i HB BK488 GW488 GE488; clear hb hg) | ((with_reducible refine gate_dst (N := 3) rfl ?_); refine bE 3 26 #[.int .i64 a1_0, .slice A1_1 l1_1.length c1_1] ?_; intro gb489 hg w6 hbox hb; have _ := bK BK488 hb; have _ := bB hb; have _ := aM (hbox); have _ := aM ((gS hg)); have _ := aM ((gS hg)); have _ := aM (nL hg BK488); have _ := aM (nG hg BK488); clear BK488 HB; rename_i BK488 HB BK489 GW489 GE489 NB488_489 NB489_488; clear hb hbox hg; have hnb7 := NB488_489.out; have hnc7 := NB489_488.out; have hcz8_0 := zc20 BK488; have hcz8_1 := zc21 BK488; have hfz8_0 := blk_frozen BK488.out 0; have hfz8_1 := blk_frozen BK488.out 1; have hcz9_0 := zc20 BK489; have hcz9_1 := zc21 BK489; have hfz9_0 := blk_frozen BK489.out 0; have hfz9_1 := blk_frozen BK489.out 1) | (go_at_call 23; (with_reducible refine (laws_pSame.calls k _ _ l0_1 _ _ l1_1 t490 _ (cQ (Kd.C_below HR0_1.out HB.out)) HC0_1.out ?side3 ?side4 A4.out).mono ?_); (case side3 => exact cQ (Kd.C_below HR1_1.out HB.out)); (case side4 => exact HC1_1.out); rintro e w' ⟨rfl, ⟨nd, rfl⟩⟩))
  go_ret
  exact ⟨eE, bq⟩
 ·rw [if_neg c3] at H
  have c3b0 : (a0_0 == a1_0) = false := beq_eq_false_iff_ne.mpr c3
  have c3b1 : (a0_0 != a1_0) = true := bne_iff_ne.mpr c3
  obtain rfl := Option.some.inj H
  go_enter Tryz.func18, Tryz.ntmps18
  go_wp2_with (first | ((with_reducible refine gate_dst (N := 2) rfl ?_); refine bF 2 26 #[.int .i64 a0_0, .slice A0_1 l0_1.length c0_1] bq ?_; intro gb488 w10 hg hb _ _ _ _; clear HB; rename_i HB BK488 GW488 GE488; clear hb hg) | ((with_reducible refine gate_dst (N := 3) rfl ?_); refine bE 3 26 #[.int .i64 a1_0, .slice A1_1 l1_1.length c1_1] ?_; intro gb489 hg w11 hbox hb; have _ := bK BK488 hb; have _ := bB hb; have _ := aM (hbox); have _ := aM ((gS hg)); have _ := aM ((gS hg)); have _ := aM (nL hg BK488); have _ := aM (nG hg BK488); clear BK488 HB; rename_i BK488 HB BK489 GW489 GE489 NB488_489 NB489_488; clear hb hbox hg; have hnb12 := NB488_489.out; have hnc12 := NB489_488.out; have hcz13_0 := zc20 BK488; have hcz13_1 := zc21 BK488; have hfz13_0 := blk_frozen BK488.out 0; have hfz13_1 := blk_frozen BK488.out 1; have hcz14_0 := zc20 BK489; have hcz14_1 := zc21 BK489; have hfz14_0 := blk_frozen BK489.out 0; have hfz14_1 := blk_frozen BK489.out 1))
  go_ret
  exact ⟨eE, bq⟩
def Y76.f (l0 : List Int) : Option (List Int) := if l0.length < 17592186044416 then some l0 else none
theorem Y76.calls (A0 : Option Addr) (c0 : Nat) (l0 : List Int) (r : List Int) (w : World) (hr0 : Kd.C (Kd.int .i64) w A0 l0.length l0) (hc0 : l0.length ≤ c0) (h : Y76.f l0 = some r) :
    Calls Tryz.prog 100 #[.slice A0 l0.length c0] w fun e w' => ∃ v0_ : Value, e = .returned (v0_) ∧ Kd.R (Kd.int .i64) 3 w' w.heap.size (fun _ => True) v0_ r ∧ Below w.heap.size w w' := by
 have HB := aM (Below.refl w.heap.size w)
 unfold Y76.f at h
 by_cases c2 : l0.length < 17592186044416
 · {
 rw [if_pos c2] at h
 obtain rfl := Option.some.inj h
 clear h
 have LMc2 := aM c2
 clear c2
 cases A0 with
 | none => {
 have hn : l0.length = 0 := by {
 rcases Nat.eq_zero_or_pos l0.length with h0 | h0
 · exact h0
 · {
 obtain ⟨ad, he, _⟩ := hr0.2.2 h0
 cases he}}
 obtain rfl : l0 = [] := List.eq_nil_of_length_eq_zero hn
 clear hn hr0 hc0
 have q1 : ∀ (W : World) (n c n' c' : Nat), (binOp .eql 24 (.slice none n c) (.slice none n' c')).run Tryz.prog W = .ok (.bool true) W := fun W n c n' c' => Go.Lib.run_eql_slice_nil W _ _ none n c n' c' Tryz.underlying24
 go_enter Tryz.func100, Tryz.ntmps100
 go_wp2
 go_ret
 exact ⟨_, rfl, Kd.R_nil _ _ _ _ _, by repeat (first | (with_reducible first | exact HB.out | apply below_alloc | apply pw_below_drewN | apply below_drew1) | exact HB.out)⟩}
 | some ad0 => {
 have HR0 := aM hr0
 have HC0 := aM hc0
 clear hr0 hc0
 obtain ⟨y580, hy580⟩ := nE ((([] : List Int)) : List Int)
 have Ny580 := aM hy580
 clear hy580
 obtain ⟨y583, hy583⟩ := nE ((y580 ++ l0) : List Int)
 have Ny583 := aM hy583
 clear hy583
 have q1 : ∀ (W : World) (n c n' c' : Nat), (binOp .eql 24 (.slice (some ad0) n c) (.slice none n' c')).run Tryz.prog W = .ok (.bool false) W := fun W n c n' c' => Go.Lib.run_eql_slice_nil W _ _ (some ad0) n c n' c' Tryz.underlying24
 have E583 : Aside0 (y583 = l0) := ⟨by rw [Ny583.out, Ny580.out]; rfl⟩
 go_enter Tryz.func100, Tryz.ntmps100
 go_wp2_with (first | ((with_reducible refine gate_dst (N := 5) rfl ?_); refine Kd.R_lit (Kd.int .i64) _ 3 ?hg (N := 5) ?hd (xs := ([] : List Int)) (inner := []) (ok := fun _ => True) (okp := fun _ => True) ?hr ?hp (fun _ hk => hk) trivial (Below.refl _ _) (Nat.le_refl _) (by simp) ?_; (case hd => rfl); (case hg => rfl); (case hr => first | (go_simp; done) | (go_simp; rfl)); (case hp => exact (Reps.none _ _)); intro v581 w3 ho4 hb hg_ hnew_; clear hg_ hnew_; (first | rw [← Ny580.out] at ho4 | (simp only [Int.reduceToNat] at ho4; rw [← Ny580.out] at ho4)); have _ := aM (Kd.R_lower ho4 (below_size (by repeat (first | (with_reducible first | exact HB.out | apply below_alloc | apply pw_below_drewN | apply below_drew1) | exact HB.out)))); have _ := aM (below_step (by repeat (first | (with_reducible first | exact HB.out | apply below_alloc | apply pw_below_drewN | apply below_drew1) | exact HB.out)) hb); clear HB; rename_i HO582 HB; clear hb ho4) | ((with_reducible refine gate_builtin (b := .append) (xs := #[.tmp 5, .tmp 6]) rfl ?_); at_builtin; refine Kd.R_append_rows (Kd.int .i64) (w0 := w) w.heap.size rfl (.tmp 5) (.tmp 6) 24 3 (.int .i64 0) 8 rfl Tryz.underlying24 info3 rfl (by decide) (by omega) v581 y580 l0 _ _ _ (fun _ => True) (fun _ => False) rfl rfl ?aO ?aR (fun _ _ h => h) (fun _ h => h.elim) ?aF ?aB ?aS ?aL ?_; (case aR => repeat (first | exact (Kd.C_below HR0.out HB.out) | (with_reducible refine Kd.C_alloc ?_ _) | (with_reducible refine Kd.C_drewN ?_ _) | (with_reducible refine Kd.C_drew ?_))); (case aB => exact (by repeat (first | (with_reducible first | exact HB.out | apply below_alloc | apply pw_below_drewN | apply below_drew1) | exact HB.out))); (case aF => exact (fun _ _ => trivial)); (case aO => exact (by (with_reducible repeat (first | apply Kd.R_alloc | apply Kd.R_drewN | apply Kd.R_drew)); exact HO582.out)); (case aS => exact (below_size (by repeat (first | (with_reducible first | exact HB.out | apply below_alloc | apply pw_below_drewN | apply below_drew1) | exact HB.out)))); (case aL => have := LMc2.out; have := Ny580.out; simp_all; omega); intro v584 w5 ho hb hg hat; rw [← Ny583.out] at ho; have _ := aM (hb); have _ := aM (ho); clear HB HO582; rename_i HB HO585; clear ho hb hg hat))
 go_ret
 exact ⟨_, rfl, by (with_reducible repeat (first | apply Kd.R_alloc | apply Kd.R_drewN | apply Kd.R_drew)); (have := HO585.out; rw [E583.out] at this; exact this), by repeat (first | (with_reducible first | exact HB.out | apply below_alloc | apply pw_below_drewN | apply below_drew1) | exact HB.out)⟩}}
 · {
 rw [if_neg c2] at h
 exact absurd h (by simp)}
def Y23.l0 : Nat → List (List Int) → Int → Int → List (List Int) → Option ((List (List Int)))
 | 0, _, _, _, _ => none
 | k + 1, x8, x9, x10, x494000 => if x10 < x9 then (if 0 ≤ x10 then (if x10 < (x8.length : Int) then ((Y76.f (rd_L3 x8 x10)).bind fun t495 => (if x494000.length < 5864062014805 then (Y23.l0 k x8 x9 (wrap64 (x10 + 1)) (x494000 ++ [t495])) else (none))) else (none)) else (none)) else (some x494000)
def Y23.f (k : Nat) (l0_0 : List (List Int)) : Option ((List (List Int))) := Y23.l0 k l0_0 (l0_0.length : Int) 0 ([] : List (List Int))
def Y23.T5 : Bool × List (List Nat × List Nat) := (true, [([], []), ([0], [0]), ([], []), ([2], [2]), ([3], [3]), ([1, 4, 3], [1, 4]), ([0, 1, 2, 3, 4, 5], []), ([6, 5, 5, 0, 1, 2, 3, 4, 5], [5, 6])])
def Y23.B5 : List Nat := [0, 1, 0, 4, 12, 31, 63, 127]
theorem Y23.tab5 : rtab .any (opsOf Tryz.f60 5) = Y23.T5 := by kernel_rfl
theorem Y23.bits5 : waitsOk Y23.T5.2 Y23.B5 = true := by kernel_rfl
theorem Y23.calls (k : Nat) (A0_0 : Option Addr) (c0_0 : Nat) (l0_0 : List (List Int)) (r : List (List Int)) (w : World) (hr0_0 : Kd.C (Kd.slice 3 (Kd.int .i64)) w A0_0 l0_0.length l0_0) (hc0_0 : l0_0.length ≤ c0_0) (h : Y23.f k l0_0 = some r) :
  Calls Tryz.prog 60 #[.agg #[.slice A0_0 l0_0.length c0_0]] w fun e w' => ∃ v0_ : Value, e = .returned (.agg #[v0_]) ∧ Kd.S (Kd.slice 3 (Kd.int .i64)) 24 w' w.heap.size (fun _ => True) v0_ r ∧ Below w.heap.size w w' := by
 have hu30 := Tryz.underlying30
 have HR0_0 := aM hr0_0
 have HC0_0 := aM hc0_0
 clear hr0_0 hc0_0
 have HB := aM (Below.refl w.heap.size w)
 unfold Y23.f at h
 have H := h
 clear h
 have H' := aM H
 clear H
 go_enter Tryz.func60, Tryz.ntmps60
 go_wp2_with (first | ((with_reducible refine gate_dst (N := 1) rfl ?_); refine bF 1 30 #[.slice A0_0 l0_0.length c0_0] bq ?_; intro gb491 w2 hg hb _ _ _ _; clear HB; rename_i HB BK491 GW491 GE491; clear hb hg) | ((with_reducible refine gate_dst (N := 2) rfl ?_); refine bE 2 30 #[.slice none 0 0] ?_; intro gb492 hg w3 hbox hb; have _ := bK BK491 hb; have _ := bB hb; have _ := aM (hbox); have _ := aM ((gS hg)); have _ := aM ((gS hg)); have _ := aM (nL hg BK491); have _ := aM (nG hg BK491); clear BK491 HB; rename_i BK491 HB BK492 GW492 GE492 NB491_492 NB492_491; clear hb hbox hg) | ((with_reducible refine gate_dst (N := 3) rfl ?_); refine bE 3 30 #[.slice none 0 0] ?_; intro gb493 hg w4 hbox hb; have _ := bK BK491 hb; have _ := bK BK492 hb; have _ := bB hb; have _ := aM (hbox); have _ := aM ((gS hg)); have _ := aM ((gS hg)); have _ := aM (nL hg BK491); have _ := aM (nG hg BK491); have _ := aM (nL hg BK492); have _ := aM (nG hg BK492); clear BK491 BK492 HB; rename_i BK491 BK492 HB BK493 GW493 GE493 NB491_493 NB493_491 NB492_493 NB493_492; clear hb hbox hg; have hnb5 := NB493_491.out; have hnc5 := NB491_493.out; have hnb6 := NB493_492.out; have hnc6 := NB492_493.out; have hcz7_0 := zc10 BK493; have hfz7_0 := blk_frozen BK493.out 0; have hnb8 := NB491_492.out; have hnc8 := NB492_491.out; have hcz9_0 := zc10 BK491; have hfz9_0 := blk_frozen BK491.out 0))
 go_loopg [10] k (fun kq v10 w' => ∃ (x10_1 : Int) (x494000_1 : List (List Int)) (u494000 : Value), v10 = .int .i64 x10_1 ∧ Aside0 (Y23.l0 kq l0_0 (l0_0.length : Int) x10_1 x494000_1 = some r) ∧ Aside0 (kq ≤ k) ∧ Aside0 (Kd.S (Kd.slice 3 (Kd.int .i64)) 24 w' w.heap.size (fun _ => True) u494000 x494000_1) ∧ Aside0 (w'.heap[gb491]? = some (.cells #[(.slice A0_0 l0_0.length c0_0)] 30 (0, 0))) ∧ Aside0 (w'.heap[gb492]? = some (.cells #[(.slice none 0 0)] 30 (0, 0))) ∧ Aside0 (w'.heap[gb493]? = some (.cells #[u494000] 30 (0, 0))) ∧ Aside0 (Below w.heap.size w w'))
 case atStart => exact ⟨(0), (([] : List (List Int))), (.slice none 0 0), eR, H', ⟨Nat.le_refl _⟩, ⟨by first | exact Kd.S_nil _ _ _ _ _ | exact Kd.N_nil _ _ _ _ _ | exact Kd.V_nil _ _ _ _ _ | exact Kd.Q_nil _ _ _ _ _ | exact Kd.R_nil _ _ _ _ _⟩, ⟨by (with_reducible repeat first|apply qN|apply qD|apply qA); refine blk_far ?_ NB491_493.out _; (with_reducible repeat first|apply qN|apply qD|apply qA); exact BK491.out⟩, ⟨by (with_reducible repeat first|apply qN|apply qD|apply qA); refine blk_far ?_ NB492_493.out _; (with_reducible repeat first|apply qN|apply qD|apply qA); exact BK492.out⟩, ⟨by (with_reducible repeat first|apply qN|apply qD|apply qA); refine blk_put (cs := #[.slice none 0 0]) ?_ 0 _ rfl; (with_reducible repeat first|apply qN|apply qD|apply qA); exact BK493.out⟩, ⟨bq⟩⟩
 case round =>
  clear H'
  try clear hcz7_0
  try clear hcz9_0
  try clear hfz7_0
  try clear hfz9_0
  obtain ⟨x10_1, x494000_1, u494000, rfl, HA, HK1, HO_494000, BK491, BK492, BK493, HB⟩ := hrel
  cases gk with
  | zero => exact absurd HA.out (by simp [Y23.l0])
  | succ k1 =>
   have H := HA.out
   clear HA
   simp only [Y23.l0] at H
   by_cases c10 : x10_1 < (l0_0.length : Int)
   ·rw [if_pos c10] at H
    have c10b0 := decide_eq_true c10
    clear c10
    replace H := iD2 H
    obtain ⟨c11b0, c12b0, H⟩ := H
    replace H := bS H
    obtain ⟨t495, A13, H⟩ := H
    try dsimp only at H
    replace H := iS H
    obtain ⟨c14, H⟩ := H
    have LMc14 := aM c14
    clear c14
    obtain ⟨y498, hy498⟩ := nE ((x494000_1 ++ [t495]) : List (List Int))
    try rw [← hy498] at H
    try with_reducible replace H := (Option.bind_some _ _).symm.trans H
    try dsimp only at H
    have Ny498 := aM hy498
    clear hy498
    have H' := aM H
    clear H
    have p494 : 0 ≤ (x10_1 : Int) := odt
    have q494 : x10_1 < (l0_0.length : Int) := odt
    obtain ⟨ad494, A494_0, c494_0, e494, hx494_0, hl494_0, hi494_0⟩ := at_L3 HR0_0.out x10_1 p494 q494
    cases e494
    replace hx494_0 := (HB.out.cell (World.block_lt_of_cell? w _ hx494_0)).trans hx494_0
    have HR494_0 := aM hi494_0
    have HC494_0 := aM hl494_0
    clear hi494_0 hl494_0
    replace p494 := eq_true p494
    replace q494 := eq_true q494
    try go_wp2
    have n0_ := aM (Kd.S_drew HO_494000.out)
    have n1_ := aM (blk_drew BK491.out)
    have n2_ := aM (blk_drew BK492.out)
    have n3_ := aM (blk_drew BK493.out)
    have n4_ := aM (below_drew1 HB.out)
    clear HO_494000
    clear BK491
    clear BK492
    clear BK493
    clear HB
    have HO_494000 := n0_
    have BK491 := n1_
    have BK492 := n2_
    have BK493 := n3_
    have HB := n4_
    clear n0_ n1_ n2_ n3_ n4_
    refine start_ (n := 8) (S := fun w' => w'.cell? ⟨gb493, 0, none⟩ = some (u494000)) (ds := [7]) #[false, false, false, false, false, false, false, false] (by kernel_rfl) rfl rfl ((blk_cell BK493.out 0).trans rfl) (fun hHeld => ?_); refine with_tabW Y23.tab5 Y23.bits5 (fun HT_ HW_ => ?_)
    generalize wr.drew = w15 at HO_494000 BK491 BK492 BK493 HB hHeld ⊢
    refine pA 0 14 (h := ?_)
    refine pA 2 16 (h := ?_)
    refine tA 1 15 hHeld (h := ?_)
    refine one_ (i := 3) (N := some 17) #[true, true, true, true, false, false, false, false] rfl rfl (one_of HT_.out (by kernel_rfl)) (by decide) (fun K hK => ?_)
    refine goes_ Tryz.func100 (by kernel_rfl) rfl #[.slice A494_0 (rd_L3 l0_0 x10_1).length c494_0] (by rfl) rfl rfl (by (try simp only [List.map_toArray, List.map_cons, List.map_nil]); first | done | rfl | (simp only [List.length_drop, List.length_take]; rfl)) ?_
    with_reducible refine (Y76.calls _ _ (rd_L3 l0_0 x10_1) t495 _ ?side1 ?side2 A13.out).mono ?_
    (case side1 => exact cQ (Kd.C_below HR494_0.out HB.out))
    (case side2 => exact HC494_0.out)
    rintro e w16 ⟨v496, rfl, ho0, hb⟩
    refine ⟨_, rfl, ?_⟩
    have n0_ := aM (Kd.S_elder' (sQ HO_494000) (Kd.R_base ho0) hb)
    have n1_ := aM (Kd.R_lower ho0 (below_size bq))
    have n2_ := aM (blk_below (qQ BK491) hb)
    have n3_ := aM (blk_below (qQ BK492) hb)
    have n4_ := aM (blk_below (qQ BK493) hb)
    have n5_ := aM (below_step bq hb)
    clear HO_494000
    clear BK491
    clear BK492
    clear BK493
    clear HB
    have HO_494000 := n0_
    have HO497 := n1_
    have BK491 := n2_
    have BK492 := n3_
    have BK493 := n4_
    have HB := n5_
    clear n0_ n1_ n2_ n3_ n4_ n5_
    (try clear hb)
    (try clear hb2)
    (try clear hk)
    (try clear hi)
    (try clear ho0)
    obtain ⟨Ao18, co18, eo18⟩ := Kd.R_slice HO497.out
    (first | subst eo18 | (injection eo18 with f1_ f2_ f3_; have f4_ := f1_.symm; have f5_ := f3_.symm; clear f1_ f2_ f3_; subst f4_; subst f5_))
    refine hK.out _ _ ((blk_cell BK493.out 0).trans rfl) (fun hHeld => ?_)
    clear hK K
    refine nA 17 (h := ?_)
    refine one_ (i := 4) (N := some 18) #[true, true, true, true, true, false, false, false] rfl rfl (one_of HT_.out (by kernel_rfl)) (by decide) (fun K hK => ?_)
    refine value_ (w1 := ?_) (v := ?_) (by rfl) rfl ?_ ?_
    rotate_left 2
    ·go_simp
     constructor
     ·rfl
     ·rfl
    refine hK.out _ _ ((blk_cell (blk_alloc BK493.out _) 0).trans rfl) (fun hHeld => ?_)
    clear hK K
    refine nA 18 (h := ?_)
    refine one_ (i := 5) (N := some 19) #[true, true, true, true, true, true, false, false] rfl rfl (one_of HT_.out (by kernel_rfl)) (by decide) (fun K hK => ?_)
    refine Kd.S_append_step (Kd.slice 3 (Kd.int .i64)) (w0 := w) w.heap.size (by rfl) (.tmp 15) (.tmp 18) 28 24 (.slice none 0 0) 24 rfl Tryz.underlying28 info24 rfl (by decide) (by omega) u494000 x494000_1 t495 [.slice Ao18 t495.length co18] (fun _ => True) (fun k_ => some k_ = (.slice Ao18 t495.length co18 : Value).ownBlock) rfl rfl ?aP (fun k_ hk_ => ((Kd.R_mono (ok' := fun k_ => ((fun _ => True)) k_ ∧ some k_ ≠ (u494000 : Value).ownBlock) (Kd.R_apart' (HO497.out) (Kd.S_typed HO_494000.out) (by decide)) (fun k_ hk => ⟨trivial, hk.2⟩))).1 k_ hk_.symm) ?aF ?aO ?aB ?aS ?aL ?_
    (case aP => exact Kd.M_row (Kd.R_mono (Kd.R_tight rfl (Kd.R_mono (ok' := fun k_ => ((fun _ => True)) k_ ∧ some k_ ≠ (u494000 : Value).ownBlock) (Kd.R_apart' (HO497.out) (Kd.S_typed HO_494000.out) (by decide)) (fun k_ hk => ⟨trivial, hk.2⟩))) (fun _ h_ => h_)))
    (case aB => exact bq)
    (case aF => exact (fun _ _ => trivial))
    (case aO => exact (by (with_reducible repeat first|apply sA|apply sN|apply sD); exact Kd.S_mono HO_494000.out (fun k_ hk => ⟨trivial, fun e_ => hk.2 e_⟩)))
    (case aS => exact (below_size bq))
    (case aL => have := LMc14.out; omega)
    intro v499 w17 ho hb hg hat
    rw [← Ny498.out] at ho
    have n0_ := aM (blk_grown (g := gb491) (o := .cells #[.slice (some ad494) l0_0.length c0_0] 30 (0, 0)) (qQ BK491) hg (Kd.S_ne HO_494000.out BK491.out (by decide)))
    have n1_ := aM (blk_grown (g := gb492) (o := .cells #[.slice none 0 0] 30 (0, 0)) (qQ BK492) hg (Kd.S_ne HO_494000.out BK492.out (by decide)))
    have n2_ := aM (blk_grown (g := gb493) (o := .cells #[u494000] 30 (0, 0)) (qQ BK493) hg (Kd.S_ne HO_494000.out BK493.out (by decide)))
    have n3_ := aM (hb)
    have n4_ := aM (ho)
    clear BK491
    clear BK492
    clear BK493
    clear HB
    clear HO_494000
    clear HO497
    have BK491 := n0_
    have BK492 := n1_
    have BK493 := n2_
    have HB := n3_
    have HO500 := n4_
    clear n0_ n1_ n2_ n3_ n4_
    clear ho hb hg hat
    obtain ⟨Ao19, co19, eo19⟩ := Kd.S_slice HO500.out
    (first | subst eo19 | (injection eo19 with f1_ f2_ f3_; have f4_ := f1_.symm; have f5_ := f3_.symm; clear f1_ f2_ f3_; subst f4_; subst f5_))
    refine hK.out _ _ ((blk_cell BK493.out 0).trans rfl) (fun hHeld => ?_)
    clear hK K
    refine nA 19 (h := ?_)
    refine pA 6 20 (h := ?_)
    refine last_ (i := 7) (N := none) #[true, true, true, true, true, true, true, true] rfl rfl (one_of HT_.out (by kernel_rfl)) (by decide) (fun K hK => ?_)
    have hs20 := zc10 BK493
    have hfs20 := blk_frozen BK493.out 0
    have hns20_0 := NB491_493.out
    have hns20_1 := NB492_493.out
    have hms20_0 := NB493_491.out
    have hms20_1 := NB493_492.out
    refine skip_ (w1 := ?_) (by rfl) rfl ?_ ?_
    rotate_left
    ·go_simp
     rfl
    refine hK.out _ _ ?_
    clear hK K
    refine done_ (done_of HT_.out (by kernel_rfl)) ?_
    try go_wp2
    go_roundg k1
    case measure => have := HK1.out; omega
    case rel => exact ⟨(wrap64 (x10_1 + 1)), (y498), (.slice Ao19 y498.length co19), eR, H', ⟨by have := HK1.out; omega⟩, ⟨by (with_reducible repeat first|apply sA|apply sN|apply sD); exact Kd.S_mono (Kd.S_far (p := ⟨gb493, 0, none⟩) (Kd.S_types HO500.out BK493.out (by decide)) (fun _ hk => hk.2) (.slice Ao19 y498.length co19)) (fun _ hk => trivial)⟩, ⟨by (with_reducible repeat first|apply qN|apply qD|apply qA); refine blk_far ?_ NB491_493.out _; (with_reducible repeat first|apply qN|apply qD|apply qA); exact BK491.out⟩, ⟨by (with_reducible repeat first|apply qN|apply qD|apply qA); refine blk_far ?_ NB492_493.out _; (with_reducible repeat first|apply qN|apply qD|apply qA); exact BK492.out⟩, ⟨by (with_reducible repeat first|apply qN|apply qD|apply qA); refine blk_put (cs := #[u494000]) ?_ 0 _ rfl; (with_reducible repeat first|apply qN|apply qD|apply qA); exact BK493.out⟩, ⟨bq⟩⟩
   ·rw [if_neg c10] at H
    have c10b0 := decide_eq_false c10
    clear c10
    obtain rfl := Option.some.inj H
    have hnb21 := NB493_491.out
    have hnc21 := NB491_493.out
    have hnb22 := NB493_492.out
    have hnc22 := NB492_493.out
    have hcz23_0 := zc10 BK493
    have hfz23_0 := blk_frozen BK493.out 0
    obtain ⟨Ao24, co24, eo24⟩ := Kd.S_slice HO_494000.out
    subst eo24
    have hnb25 := NB492_491.out
    have hnc25 := NB491_492.out
    have hcz26_0 := zc10 BK492
    have hfz26_0 := blk_frozen BK492.out 0
    go_wp2
    refine bodyPost_ret (results_cell_row rfl _ _ gb492 30 #[.slice Ao24 x494000_1.length co24] (0, 0) _ rfl (by (with_reducible repeat first|apply qN|apply qD|apply qA); refine blk_put (cs := #[.slice none 0 0]) ?_ 0 _ rfl; (with_reducible repeat first|apply qN|apply qD|apply qA); exact BK492.out) Tryz.underlying30 rfl (by kernel_rfl)) rfl ?_
    exact ⟨_, eE, by (with_reducible repeat first|apply sA|apply sN|apply sD); exact Kd.S_mono (Kd.S_far (p := ⟨gb492, 0, none⟩) (Kd.S_types HO_494000.out BK492.out (by decide)) (fun _ hk => hk.2) (.slice Ao24 x494000_1.length co24)) (fun _ hk => trivial), bq⟩
def Y62.f (l0 : List Int) : Option (Bool) := if 0 ≤ (wrap64 ((l0.length : Int) - 1)) then (if (wrap64 ((l0.length : Int) - 1)) < (l0.length : Int) then (some ((rd l0 (wrap64 ((l0.length : Int) - 1))) != 0)) else (none)) else (none)
theorem Y62.calls (A0 : Option Addr) (c0 : Nat) (l0 : List Int) (r : Bool) (w : World) (hr0 : Kd.C (Kd.int .i64) w A0 l0.length l0) (hc0 : l0.length ≤ c0) (h : Y62.f l0 = some r) :
  Calls Tryz.prog 145 #[.slice A0 l0.length c0] w fun e w' => e = .returned (.bool r) ∧ Drawn0 w w' := by
 have HR0 := aM hr0
 have HC0 := aM hc0
 clear hr0 hc0
 unfold Y62.f at h
 have H := h
 clear h
 obtain ⟨ji2, hji2⟩ : ∃ j_ : Int, (wrap64 ((l0.length : Int) - 1)) = j_ := ⟨_, rfl⟩
 replace H : (if 0 ≤ (ji2) then (if (ji2) < (l0.length : Int) then (some ((rd l0 (ji2)) != 0)) else (none)) else (none)) = some r := by first | (rw [hji2] at H; exact H) | (simp only [hji2] at H ⊢; exact H)
 have hji2w : (IntKind.i64.wrap ((l0.length : Int) - 1)) = ji2 := (i64_w _).trans hji2
 replace H := iD2 H
 obtain ⟨c3b0, c4b0, H⟩ := H
 obtain rfl := Option.some.inj H
 have p501 : 0 ≤ ((ji2) : Int) := odt
 have q501 : (ji2) < (l0.length : Int) := odt
 obtain ⟨ad501, e501, hx501_0⟩ := Kd.at_int HR0.out (ji2) p501 q501
 cases e501
 replace p501 := eq_true p501
 replace q501 := eq_true q501
 go_enter Tryz.func145, Tryz.ntmps145
 go_wp2
 go_ret
 exact ⟨by first | rfl | (simp; done) | (simp only [← hji2] <;> (first | rfl | simp)) | (simp [*]; done), dQ⟩
def Y55.seek : List (List Int) → Int → Option Int
  | [], _ => some (-1)
  | row :: rest, i => (Y62.f row).bind fun b => if b = true then some i else Y55.seek rest (i + 1)
def Y55.f (l0 : List (List Int)) : Option Int := Y55.seek l0 0
set_option maxHeartbeats 2000000 in
set_option maxRecDepth 100000 in
theorem Y55.calls (A0 : Option Addr) (c0 : Nat) (l0 : List (List Int)) (r : Int) (w : World) (hr0 : Kd.C (Kd.slice 3 (Kd.int .i64)) w A0 l0.length l0) (hc0 : l0.length ≤ c0) (h : Y55.f l0 = some r) :
    Calls Tryz.prog 144 #[.slice A0 l0.length c0, .func (.func 145) #[] #[]] w fun e w' => e = .returned (.int .i64 r) ∧ Below w.heap.size w w' := by
 have HL := aM hr0.2.1
 have HR0 := aM hr0
 have HH := aM h
 clear hr0 hc0 h
 have hle := HL.out
 go_enter Tryz.func144, Tryz.ntmps144
 go_wp2
 go_loopg [5, 8] l0.length (fun gg _ s8 w' => ∃ i : Nat, i ≤ l0.length ∧ l0.length - i ≤ gg ∧ s8 = .int .i64 i ∧ Aside0 (Y55.seek (l0.drop i) (i : Int) = some r) ∧ Drawn0 w w')
 case atStart => exact ⟨0, Nat.zero_le _, by omega, rfl, ⟨by rw [List.drop_zero]; exact HH.out⟩, Drawn0.refl _⟩
 case round => (
 clear HH
 obtain ⟨i, hi, hg, rfl, HZ, ⟨m1, rfl⟩⟩ := hrel
 by_cases hlt : i < l0.length
 · {
 obtain ⟨ad, A1, c1, ea, hx, hl1, hi1⟩ := at_L3 HR0.out (i : Int) (by omega) (by omega)
 cases ea
 have hlz : (i : Int) < (l0.length : Int) := by omega
 simp only [Int.toNat_natCast] at hx
 have hz := HZ.out
 clear HZ
 rw [List.drop_eq_getElem_cons hlt] at hz
 have er : rd_L3 l0 (i : Int) = l0[i] := by unfold rd_L3; simp [List.getD_eq_getElem?_getD, hlt]
 rw [← er] at hz
 obtain ⟨b, hb, hz⟩ := Option.bind_eq_some_iff.mp (show (Y62.f (rd_L3 l0 (i : Int))).bind _ = some r from hz)
 clear er
 have HBB := aM hb
 have HR1 := aM hi1
 have HC1 := aM hl1
 have HZ := aM hz
 clear hb hi1 hl1 hz
 cases b with
 | false => {
 go_wp2_with (first | (go_at_call 145; refine (Y62.calls A1 c1 (rd_L3 l0 (i : Int)) false _ ?side1 HC1.out HBB.out).mono ?_; (case side1 => exact cQ HR1.out); rintro e w' ⟨rfl, ⟨nd, rfl⟩⟩))
 obtain ⟨k, rfl⟩ : ∃ k, gk = k + 1 := ⟨gk - 1, by omega⟩
 go_roundg k
 case measure => omega
 case rel => exact ⟨i + 1, by omega, by omega, by go_num, ⟨by have := HZ.out; simp only [Bool.false_eq_true, if_false] at this; rw [show ((i + 1 : Nat) : Int) = (i : Int) + 1 from by omega]; exact this⟩, dQ⟩}
 | true => {
 go_wp2_with (first | (go_at_call 145; refine (Y62.calls A1 c1 (rd_L3 l0 (i : Int)) true _ ?side1 HC1.out HBB.out).mono ?_; (case side1 => exact cQ HR1.out); rintro e w' ⟨rfl, ⟨nd, rfl⟩⟩))
 go_ret
 have e1 : some (i : Int) = some r := by have := HZ.out; simpa using this
 obtain rfl := Option.some.inj e1
 exact ⟨rfl, by repeat (first | exact Below.refl _ _ | apply pw_below_drewN)⟩}}
 · {
 go_wp2
 go_ret
 have e1 := HZ.out
 rw [List.drop_eq_nil_of_le (by omega)] at e1
 obtain rfl := Option.some.inj e1
 exact ⟨rfl, by repeat (first | exact Below.refl _ _ | apply pw_below_drewN)⟩})
def Y74.f (l0_0 : List (List Int)) : Option (Int) := (Y55.f l0_0).bind fun t503 => (some t503)
theorem Y74.calls (A0_0 : Option Addr) (c0_0 : Nat) (l0_0 : List (List Int)) (r : Int) (w : World) (hr0_0 : Kd.C (Kd.slice 3 (Kd.int .i64)) w A0_0 l0_0.length l0_0) (hc0_0 : l0_0.length ≤ c0_0) (h : Y74.f l0_0 = some r) :
  Calls Tryz.prog 117 #[.agg #[.slice A0_0 l0_0.length c0_0]] w fun e w' => e = .returned (.int .i64 r) ∧ Below w.heap.size w w' := by
 have hu30 := Tryz.underlying30
 have HR0_0 := aM hr0_0
 have HC0_0 := aM hc0_0
 clear hr0_0 hc0_0
 have HB := aM (Below.refl w.heap.size w)
 unfold Y74.f at h
 have H := h
 clear h
 replace H := bS H
 obtain ⟨t503, A2, H⟩ := H
 try dsimp only at H
 obtain rfl := Option.some.inj H
 go_enter Tryz.func117, Tryz.ntmps117
 go_wp2_with (first | ((with_reducible refine gate_dst (N := 1) rfl ?_); refine bF 1 30 #[.slice A0_0 l0_0.length c0_0] bq ?_; intro gb502 w3 hg hb _ _ _ _; clear HB; rename_i HB BK502 GW502 GE502; clear hb hg; have hcz4_0 := zc10 BK502; have hfz4_0 := blk_frozen BK502.out 0) | ((with_reducible refine gate_callee (f := 144) rfl ?_); refine gL (some 5) Tryz.func144 #[.slice A0_0 l0_0.length c0_0, .func (.func 145) #[] #[]] ?_; (with_reducible refine (Y55.calls _ _ l0_0  t503 _ (cQ (Kd.C_below HR0_0.out HB.out)) HC0_0.out A2.out).mono ?_); rintro e w5 ⟨rfl, hb⟩; refine ⟨_, rfl, ?_⟩; have _ := bK BK502 hb; have _ := bB hb; clear BK502 HB; rename_i BK502 HB; (try clear hb)))
 go_ret
 exact ⟨eE, bq⟩
theorem Y63.info : (Tryz.prog.info? 24).map (fun i => (i.zero, i.size, i.bytes)) = some (some (.slice none 0 0), 1, 24) := by kernel_rfl
theorem Y63.zero : ∀ w, (zeroValue 24).run Tryz.prog w = .ok (.slice none 0 0) w := fun w => by
  obtain ⟨i0, hi0, h0, h1, h2⟩ := info_parts Y63.info
  simp [zeroValue, typeInfo, hi0, h0, Result.andThen]
set_option maxHeartbeats 4000000 in
set_option maxRecDepth 100000 in
open Go.Proofs.YtcodionjhcmfhaaGreatDoor.Live Go.Lib in
theorem Y63.shift (g n c i : Nat) (cur : Array Value) (w : World) (hi : i < n) (hn : n ≤ c) (hc : c ≤ 9223372036854775807) (hg : w.heap[g]? = some (.cells cur 24 (0, 0))) (hcur : cur.size = c) (h1c : ∀ v ∈ cur.toList.take n, v.oneCell' = true) :
    Calls Tryz.prog 118 #[.slice (some ⟨g, 0, none⟩) n c, .int .i64 (i : Int), .int .i64 ((i + 1 : Nat) : Int)] w fun e w' =>
      e = .returned (.slice (some ⟨g, 0, none⟩) (n - 1) c) ∧ w' = (w.drew.setCells g i ((cur.toList.take n).drop (i + 1))).setCells g (n - 1) [.slice none 0 0] := by
  obtain ⟨cs, hcs⟩ : ∃ cs, cs = (cur.toList.take n).drop (i + 1) := ⟨_, rfl⟩
  have hcl : cs.length = n - (i + 1) := by rw [hcs, List.length_drop, List.length_take, Array.length_toList]; omega
  have hone : ∀ v ∈ cs, v.oneCell' = true := fun v hv => h1c v (by rw [hcs] at hv; exact List.mem_of_mem_drop hv)
  have hcell : ∀ j v, cs[j]? = some v → w.drew.cell? ⟨g, i + 1 + j, none⟩ = some v := fun j v hj => by
    rw [blk_cell (w := w.drew) hg (i + 1 + j)]
    rw [hcs, List.getElem?_drop, List.getElem?_take] at hj
    split at hj
    · rw [← Array.getElem?_toList]; exact hj
    · cases hj
  obtain ⟨i0, hi0, hz0, hzs, hzb⟩ := info_parts Y63.info
  obtain ⟨A, hA, hsrc⟩ : ∃ A : Addr, (if c = i + 1 then some (⟨g, 0, none⟩ : Addr) else some ⟨g, i + 1, none⟩) = some A ∧ Aside0 (∀ t u, cs[t]? = some u → w.drew.cell? (A.add t) = some u) := by
    by_cases h : c = i + 1
    · refine ⟨⟨g, 0, none⟩, by simp [h], ⟨fun t u hu => ?_⟩⟩
      have h0 : cs.length = 0 := by rw [hcl]; omega
      rw [List.length_eq_zero_iff.1 h0] at hu
      simp at hu
    · exact ⟨⟨g, i + 1, none⟩, by simp [h], ⟨fun t u hu => by rw [Addr.add_lit]; exact hcell t u hu⟩⟩
  have s1 : Aside0 (cs.length = (n - (i + 1)) * 1) := ⟨by rw [Nat.mul_one]; exact hcl⟩
  have s2 : Aside0 (∀ u ∈ cs, u.oneCell' = true) := ⟨hone⟩
  have s3 : Aside0 (∀ t, t < cs.length → (w.drew.cell? ⟨g, 0 + i * 1 + t, none⟩).isSome = true ∧ w.drew.frozen? ⟨g, 0 + i * 1 + t, none⟩ = false) := ⟨fun t ht => ⟨by rw [blk_cell (w := w.drew) hg, Array.getElem?_eq_getElem (by omega)]; rfl, blk_frozen (w := w.drew) hg _⟩⟩
  obtain ⟨W1, hW1⟩ : ∃ W1, W1 = w.drew.setCells g (0 + i * 1) cs := ⟨_, rfl⟩
  have hG1 : W1.heap[g]? = some (.cells (setL cur (0 + i * 1) cs) 24 (0, 0)) := by rw [hW1]; exact heap_setCells g cs _ w.drew cur hg
  have hcle : ∀ ty, (Builtin.clear_ #[28] ty #[.slice (some ⟨g, i + (n - (i + 1)), none⟩) (n - (i + (n - (i + 1)))) (c - (i + (n - (i + 1))))]).run Tryz.prog W1 = .ok (.tuple #[]) (W1.setCells g (i + (n - (i + 1))) (List.replicate (n - (i + (n - (i + 1)))) (.slice none 0 0))) :=
    fun ty => Go.Lib.run_clear_slice W1 _ _ ty _ Tryz.underlying28 Y63.zero rfl rfl g (i + (n - (i + 1))) _ _ (by omega) (fun t ht => by rw [blk_cell hG1, Array.getElem?_eq_getElem (by rw [setL_size]; omega)]; rfl) (fun t ht => blk_frozen hG1 _)
  have hW := aM hW1
  have HCS := aM hcs
  have hic : i ≤ c := by omega
  have hjc : i + 1 ≤ c := by omega
  have hb0 : (0 : Int) ≤ (i : Int) + 1 := by omega
  have hb1 : (i : Int) + 1 ≤ (n : Int) := by omega
  clear hW1 hG1 hcell hone hcl hcs hg hcur h1c hz0 hzb
  go_enter Tryz.func118, Tryz.ntmps118
  go_wp2_with fail
  go_region_law (refine step_append_room rfl (.tmp 22) (.tmp 25) 28 rfl 24 i0 1 Tryz.underlying28 hi0 hzs g 0 i c (by simp [Act.eval, Act.put]) A (n - (i + 1)) (c - (i + 1)) cs (by simp [Act.eval, Act.put]) s1.out hsrc.out s2.out (by omega) s3.out ?_; rw [← hW.out])
  go_wp2
  go_ret
  have e1 : i + (n - (i + 1)) = n - 1 := by omega
  have e2 : n - (n - 1) = 1 := by omega
  refine ⟨by rw [← e1]; rfl, ?_⟩
  rw [hW.out, HCS.out, Nat.zero_add, Nat.mul_one, e1, e2]
  rfl
set_option maxHeartbeats 4000000 in
open Go.Proofs.YtcodionjhcmfhaaGreatDoor.Live Go.Lib in
theorem Y63.owns (base i n : Nat) (v : Value) (inner : List Value) (w : World) (hown : w.ownsRow base 24 1 v n inner) (hi : i < n) (h1c : ∀ x ∈ inner, x.oneCell' = true) :
    Calls Tryz.prog 118 #[v, .int .i64 (i : Int), .int .i64 ((i + 1 : Nat) : Int)] w fun e w' =>
      ∃ v', e = .returned v' ∧ w'.ownsRow base 24 1 v' (n - 1) (inner.eraseIdx i) ∧ w.grownBy w' v.ownBlock ∧ v'.ownBlock = v.ownBlock := by
  rcases hown.2 with ⟨rfl, rfl⟩ | ⟨g, cap, cur, rfl, h2, h3, h4, h5, h6, h7⟩
  · omega
  · rw [Nat.mul_one] at h6 h7
    have h5' : cap ≤ 9223372036854775807 := by unfold maxLen at h5; omega
    have hlen : inner.length = n := by simpa using hown.1
    refine (Y63.shift g n cap i cur w hi h4 h5' h3 h6 (by rw [h7]; exact h1c)).mono ?_
    rintro e w' ⟨rfl, rfl⟩
    have g1 := grown_setCells g ((cur.toList.take n).drop (i + 1)) i w.drew
    have g2 := grown_setCells g [.slice none 0 0] (n - 1) (w.drew.setCells g i ((cur.toList.take n).drop (i + 1)))
    have hl1 : ((cur.toList.take n).drop (i + 1)).length = n - (i + 1) := by rw [List.length_drop, List.length_take, Array.length_toList]; omega
    refine ⟨_, rfl, ⟨by rw [List.length_eraseIdx]; split <;> omega, .inr ⟨g, cap, setL (setL cur i ((cur.toList.take n).drop (i + 1))) (n - 1) [.slice none 0 0], rfl, h2, heap_setCells _ _ _ _ _ (heap_setCells _ _ _ w.drew _ h3), by omega, h5, by rw [setL_size, setL_size, Nat.mul_one]; exact h6, ?_⟩⟩, ?_, rfl⟩
    · have hsz : (setL cur i ((cur.toList.take n).drop (i + 1))).toList.length = cap := by rw [Array.length_toList, setL_size]; exact h6
      rw [Nat.mul_one, setL_list _ _ _ (by rw [setL_size]; simp only [List.length_cons, List.length_nil]; omega), List.append_assoc, List.take_append_of_le_length (by rw [List.length_take, hsz]; omega), List.take_take, Nat.min_self,
        setL_list _ _ _ (by rw [hl1]; omega)]
      rw [List.take_append_of_le_length (by rw [List.length_append, List.length_take, Array.length_toList, hl1]; omega), List.take_of_length_le (by rw [List.length_append, List.length_take, Array.length_toList, hl1]; omega)]
      rw [List.eraseIdx_eq_take_drop_succ, ← h7, List.take_take, Nat.min_eq_left (by omega)]
    · exact ⟨g2.1.os.trans g1.1.os, g2.1.tape.trans g1.1.tape, g2.1.output.trans g1.1.output, Nat.le_of_eq (g2.2.trans g1.2).symm, fun k hk hk2 => (g2.1.block k (by rw [g1.2]; exact hk) hk2).trans (g1.1.block k hk hk2)⟩
end Go.Proofs.YtcodionjhcmfhaaGreatDoor.Oa
