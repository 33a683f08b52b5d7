-- Written by hook.py (wip/), over the kit's print.py.
import Derived.Test.YtjmmleofnjcjoaaGreatDoorDu2
import Derived.Test.YtjmmleofnjcjoaaGreatDoorDu18
import Derived.Test.YtjmmleofnjcjoaaGreatDoorDu20
import Derived.Test.YtjmmleofnjcjoaaGreatDoorDuXSq
namespace Go.Proofs.YtjmmleofnjcjoaaGreatDoor.Du
open Go.RowKit Go.Proofs.YtjmmleofnjcjoaaGreatDoorW.PrintWords Go.Proofs.YtjmmleofnjcjoaaGreatDoorW.PrintLast Go.Proofs.YtjmmleofnjcjoaaGreatDoorW.PrintMore Go.Proofs.YtjmmleofnjcjoaaGreatDoor.Sq
attribute [local go_sem] max2_int min2_int max_two min_two max_three min_three max_four min_four
set_option linter.unusedVariables false
set_option linter.unusedSimpArgs false
set_option maxHeartbeats 8000000
set_option maxRecDepth 100000
mutual
def Y25.l0 : Nat → List (S130) → Int → Int → List (List Int) → Option ((List (List Int)))
 | 0, _, _, _, _ => none
 | k + 1, x3, x4, x6, x509000 => if x6 < x4 then (if 0 ≤ x4 then (if (x4 : Int).toNat ≤ 35184372088832 then (Y25.l1 k x3 x4 x6 (List.replicate (x4 : Int).toNat 0) x3 (x3.length : Int) 0 x509000) else (none)) else (none)) else (some x509000)
def Y25.l1 : Nat → List (S130) → Int → Int → List Int → List (S130) → Int → Int → List (List Int) → Option ((List (List Int)))
 | 0, _, _, _, _, _, _, _, _ => none
 | k + 1, x3, x4, x6, x7, x24, x25, x26, x509000 => if x26 < x25 then (if 0 ≤ x26 then (if x26 < (x24.length : Int) then (if ((rd_T130 x24 x26).f0) = x6 then (if 0 ≤ ((rd_T130 x24 x26).f1) then (if ((rd_T130 x24 x26).f1) < (x7.length : Int) then (Y25.l1 k x3 x4 x6 (x7.set (((rd_T130 x24 x26).f1) : Int).toNat (wrap64 ((rd x7 ((rd_T130 x24 x26).f1)) + 1))) x24 x25 (wrap64 (x26 + 1)) x509000) else (none)) else (none)) else (Y25.l1 k x3 x4 x6 x7 x24 x25 (wrap64 (x26 + 1)) x509000)) else (none)) else (none)) else (if x509000.length < 5864062014805 then (Y25.l0 k x3 x4 (wrap64 (x6 + 1)) (x509000 ++ [x7])) else (none))
end
def Y25.f (k : Nat) (a0_0 : Int) (l0_1 : List Int) : Option ((List (List Int))) := (Y22.f k a0_0 l0_1).bind fun t501 => ((Y13.f k a0_0 l0_1).bind fun t504 => ((Y28.f k t504).bind fun t507 => (Y25.l0 k t501 (wrap64 (t507 + 1)) 0 ([] : List (List Int)))))
theorem Y25.calls (k : Nat) (a0_0 : Int) (A0_1 : Option Addr) (c0_1 : Nat) (l0_1 : List Int) (r : List (List Int)) (w : World) (hr0_1 : Kd.C (Kd.int .i64) w A0_1 l0_1.length l0_1) (hc0_1 : l0_1.length ≤ c0_1) (h : Y25.f k a0_0 l0_1 = some r) :
  Calls Tryz.prog 74 #[.agg #[.int .i64 a0_0, .slice A0_1 l0_1.length c0_1]] w fun e w' => ∃ v0_ : Value, e = .returned (.agg #[v0_]) ∧ Kd.S (Kd.slice 3 (Kd.int .i64)) 24 w' w.heap.size (fun _ => True) v0_ r ∧ Below w.heap.size w w' := by
 have hu26 := Tryz.underlying26
 have hu41 := Tryz.underlying41
 have hu130 := Tryz.underlying130
 have HR0_1 := aM hr0_1
 have HC0_1 := aM hc0_1
 clear hr0_1 hc0_1
 have HB := aM (Below.refl w.heap.size w)
 unfold Y25.f at h
 have H := h
 clear h
 replace H := bS H
 obtain ⟨t501, A2, H⟩ := H
 try dsimp only at H
 replace H := bS H
 obtain ⟨t504, A3, H⟩ := H
 try dsimp only at H
 replace H := bS H
 obtain ⟨t507, A4, H⟩ := H
 try dsimp only at H
 have H' := aM H
 clear H
 go_enter Tryz.func74, Tryz.ntmps74
 go_wp2_with (first | ((with_reducible refine gate_dst (N := 1) rfl ?_); refine bF 1 26 #[.int .i64 a0_0, .slice A0_1 l0_1.length c0_1] bq ?_; intro gb499 w5 hg hb _ _ _ _; clear HB; rename_i HB BK499 GW499 GE499; clear hb hg) | ((with_reducible refine gate_dst (N := 2) rfl ?_); refine bE 2 41 #[.slice none 0 0] ?_; intro gb500 hg w6 hbox hb; have _ := bK BK499 hb; have _ := bB hb; have _ := aM (hbox); have _ := aM ((gS hg)); have _ := aM ((gS hg)); have _ := aM (nL hg BK499); have _ := aM (nG hg BK499); clear BK499 HB; rename_i BK499 HB BK500 GW500 GE500 NB499_500 NB500_499; clear hb hbox hg; have hnb7 := NB499_500.out; have hnc7 := NB500_499.out; have hcz8_0 := zc20 BK499; have hcz8_1 := zc21 BK499; have hfz8_0 := blk_frozen BK499.out 0; have hfz8_1 := blk_frozen BK499.out 1) | ((with_reducible refine gate_callee (f := 157) rfl ?_); refine gL (some 11) Tryz.func157 #[.agg #[.int .i64 a0_0, .slice A0_1 l0_1.length c0_1]] ?_; (with_reducible refine (Y22.calls k a0_0 _ _ l0_1 t501 _ (cQ (Kd.C_below HR0_1.out HB.out)) HC0_1.out A2.out).mono ?_); rintro e w9 ⟨v502, rfl, ho0, hb⟩; refine ⟨_, rfl, ?_⟩; have _ := aM (Kd.R_lower ho0 (below_size bq)); have _ := bK BK499 hb; have _ := bK BK500 hb; have _ := bB hb; clear BK499 BK500 HB; rename_i HO503 BK499 BK500 HB; (try clear hb); (try clear ho0); have hcz10_0 := zc20 BK499; have hcz10_1 := zc21 BK499; have hfz10_0 := blk_frozen BK499.out 0; have hfz10_1 := blk_frozen BK499.out 1) | ((with_reducible refine gate_callee (f := 159) rfl ?_); refine gL (some 13) Tryz.func159 #[.agg #[.int .i64 a0_0, .slice A0_1 l0_1.length c0_1]] ?_; (with_reducible refine (Y13.calls k a0_0 _ _ l0_1 t504 _ (cQ (Kd.C_below HR0_1.out HB.out)) HC0_1.out A3.out).mono ?_); rintro e w11 ⟨v505, rfl, ho0, hb⟩; refine ⟨_, rfl, ?_⟩; have _ := aM (Kd.R_below (rQ HO503) hb); have _ := aM (Kd.R_lower ho0 (below_size bq)); have _ := bK BK499 hb; have _ := bK BK500 hb; have _ := bB hb; clear HO503 BK499 BK500 HB; rename_i HO503 HO506 BK499 BK500 HB; (try clear hb); (try clear ho0); obtain ⟨Ao12, co12, eo12⟩ := Kd.R_slice HO506.out; subst eo12) | ((with_reducible refine gate_callee (f := 158) rfl ?_); refine gL (some 14) Tryz.func158 #[.slice Ao12 t504.length co12] ?_; (with_reducible refine (Y28.calls k _ _ t504 t507 _ (cQ ((Kd.R_reads' HO506.out).2.2)) ((Kd.R_reads' HO506.out).2.1) A4.out).mono ?_); rintro e w' ⟨rfl, ⟨nd, rfl⟩⟩; refine ⟨_, rfl, ?_⟩; (try (rw [drewN_self w11]; generalize hq_ : World.drewN w11 _ = w11; have _ : Aside0 (Kd.R k130 130 w11 w.heap.size (fun _ => True) v502 t501) := ⟨by rw [← hq_]; exact (rQ HO503)⟩; have _ : Aside0 (Kd.R (Kd.int .i64) 3 w11 w.heap.size (fun _ => True) (.slice Ao12 t504.length co12) t504) := ⟨by rw [← hq_]; exact (rQ HO506)⟩; have _ : Aside0 (w11.heap[gb499]? = some (.cells #[.int .i64 a0_0, .slice A0_1 l0_1.length c0_1] 26 (0, 0))) := ⟨by rw [← hq_]; exact (qQ BK499)⟩; have _ : Aside0 (w11.heap[gb500]? = some (.cells #[.slice none 0 0] 41 (0, 0))) := ⟨by rw [← hq_]; exact (qQ BK500)⟩; have _ : Aside0 (Below w.heap.size w w11) := ⟨by rw [← hq_]; exact bq⟩; clear HO503 HO506 BK499 BK500 HB hq_; rename_i HO503 HO506 BK499 BK500 HB))) | ((with_reducible refine gate_dst (N := 5) rfl ?_); refine bE 5 41 #[.slice none 0 0] ?_; intro gb508 hg w13 hbox hb; have _ := aM (Kd.R_below (rQ HO503) hb); have _ := aM (Kd.R_below (rQ HO506) hb); have _ := bK BK499 hb; have _ := bK BK500 hb; have _ := bB hb; have _ := aM (hbox); have _ := aM ((gS hg)); have _ := aM ((gS hg)); have _ := aM (nL hg BK499); have _ := aM (nG hg BK499); have _ := aM (nL hg BK500); have _ := aM (nG hg BK500); clear HO503 HO506 BK499 BK500 HB; rename_i HO503 HO506 BK499 BK500 HB BK508 GW508 GE508 NB499_508 NB508_499 NB500_508 NB508_500; clear hb hbox hg; have hnb14 := NB508_499.out; have hnc14 := NB499_508.out; have hnb15 := NB508_500.out; have hnc15 := NB500_508.out; have hcz16_0 := zc10 BK508; have hfz16_0 := blk_frozen BK508.out 0))
 go_loopg [6] k (fun kq v6 w' => ∃ (x6_1 : Int) (x509000_1 : List (List Int)) (u509000 : Value), v6 = .int .i64 x6_1 ∧ Aside0 (Y25.l0 kq t501 (wrap64 (t507 + 1)) x6_1 x509000_1 = some r) ∧ Aside0 (kq ≤ k) ∧ Aside0 (Kd.R k130 130 w' w.heap.size (fun _ => True) v502 t501) ∧ Aside0 (Kd.S (Kd.slice 3 (Kd.int .i64)) 24 w' w.heap.size (fun _ => True) u509000 x509000_1) ∧ Aside0 (w'.heap[gb499]? = some (.cells #[.int .i64 a0_0, (.slice A0_1 l0_1.length c0_1)] 26 (0, 0))) ∧ Aside0 (w'.heap[gb500]? = some (.cells #[(.slice none 0 0)] 41 (0, 0))) ∧ Aside0 (w'.heap[gb508]? = some (.cells #[u509000] 41 (0, 0))) ∧ Aside0 (Below w.heap.size w w'))
 case atStart => exact ⟨(0), (([] : List (List Int))), (.slice none 0 0), eR, H', ⟨Nat.le_refl _⟩, ⟨by (with_reducible repeat first|apply rA|apply rN|apply rD); exact Kd.R_mono (Kd.R_far (p := ⟨gb508, 0, none⟩) (Kd.R_types HO503.out BK508.out (by decide)) (fun _ hk => hk.2) (.slice none 0 0)) (fun _ hk => trivial)⟩, ⟨by first | exact Kd.S_nil _ _ _ _ _ | exact Kd.N_nil _ _ _ _ _ | exact Kd.V_nil _ _ _ _ _ | exact Kd.Q_nil _ _ _ _ _ | exact Kd.R_nil _ _ _ _ _⟩, ⟨by (with_reducible repeat first|apply qN|apply qD|apply qA); refine blk_far ?_ NB499_508.out _; (with_reducible repeat first|apply qN|apply qD|apply qA); exact BK499.out⟩, ⟨by (with_reducible repeat first|apply qN|apply qD|apply qA); refine blk_far ?_ NB500_508.out _; (with_reducible repeat first|apply qN|apply qD|apply qA); exact BK500.out⟩, ⟨by (with_reducible repeat first|apply qN|apply qD|apply qA); refine blk_put (cs := #[.slice none 0 0]) ?_ 0 _ rfl; (with_reducible repeat first|apply qN|apply qD|apply qA); exact BK508.out⟩, ⟨bq⟩⟩
 case round =>
  clear H'
  try clear hcz10_0
  try clear hcz10_1
  try clear hcz16_0
  try clear hcz8_0
  try clear hcz8_1
  try clear hfz10_0
  try clear hfz10_1
  try clear hfz16_0
  try clear hfz8_0
  try clear hfz8_1
  obtain ⟨x6_1, x509000_1, u509000, rfl, HA, HK1, HO_3, HO_509000, BK499, BK500, BK508, HB⟩ := hrel
  cases gk with
  | zero => exact absurd HA.out (by simp [Y25.l0])
  | succ k1 =>
   have H := HA.out
   clear HA
   simp only [Y25.l0] at H
   by_cases c17 : x6_1 < (wrap64 (t507 + 1))
   ·rw [if_pos c17] at H
    have c17b0 := decide_eq_true c17
    clear c17
    obtain ⟨ji18, hji18⟩ : ∃ j_ : Int, (wrap64 (t507 + 1)) = j_ := ⟨_, rfl⟩
    replace H : (if 0 ≤ (ji18) then (if ((ji18) : Int).toNat ≤ 35184372088832 then (Y25.l1 k1 t501 (ji18) x6_1 (List.replicate ((ji18) : Int).toNat 0) t501 (t501.length : Int) 0 x509000_1) else (none)) else (none)) = some r := by first | (rw [hji18] at H; exact H) | (simp only [hji18] at H ⊢; exact H)
    (try rw [hji18] at c17b0)
    have hji18w : (IntKind.i64.wrap (t507 + 1)) = ji18 := (i64_w _).trans hji18
    replace H := iS H
    obtain ⟨c19, H⟩ := H
    have c19b0 := eq_true c19
    have c19b1 := decide_eq_true c19
    clear c19
    replace H := iS H
    obtain ⟨c20, H⟩ := H
    have c20b0 := eq_true c20
    have c20b1 := decide_eq_true c20
    clear c20
    obtain ⟨y509, hy509⟩ := nE ((List.replicate ((ji18) : Int).toNat 0) : List Int)
    try rw [← hy509] at H
    try with_reducible replace H := (Option.bind_some _ _).symm.trans H
    try dsimp only at H
    have Ny509 := aM hy509
    clear hy509
    have H' := aM H
    clear H
    go_wp2_with (first | ((with_reducible refine gate_dst (N := 23) rfl ?_); (try rw [hji18]); refine Kd.R_make (Kd.int .i64) _ 3 rfl (N := 23) rfl 24 _ _ rfl (ji18) rfl rfl Tryz.underlying24 (.int .i64 0) 8 info3 rfl (by decide) (by omega) 0 (ok := fun _ => True) (okp := fun _ => True) rfl (fun _ hk => hk) trivial (odt) (Nat.le_trans (Nat.mul_le_mul_right _ (odt : (ji18).toNat ≤ 35184372088832)) (by omega)) (Below.refl _ _) (Nat.le_refl _) ?_; intro v510 w21 ho22 hb hg_ hnew_; clear hg_ hnew_; (first | rw [← Ny509.out] at ho22 | (simp only [Int.reduceToNat] at ho22; rw [← Ny509.out] at ho22)); have _ := aM (Kd.R_below (rQ HO_3) hb); have _ := aM (Kd.S_elder' (sQ HO_509000) (Kd.R_base ho22) hb); have _ := aM (Kd.R_lower ho22 (below_size bq)); have _ := bK BK499 hb; have _ := bK BK500 hb; have _ := bK BK508 hb; have _ := bB hb; clear HO_3 HO_509000 BK499 BK500 BK508 HB; rename_i HO_3 HO_509000 HO511 BK499 BK500 BK508 HB; clear hb ho22; obtain ⟨Ao23, co23, eo23⟩ := Kd.R_slice HO_3.out; subst eo23))
    go_loopg [26] k1 (fun kq v26 w' => ∃ (x7_2 : List Int) (x26_2 : Int), v26 = .int .i64 x26_2 ∧ Aside0 (Y25.l1 kq t501 (ji18) x6_1 x7_2 t501 (t501.length : Int) x26_2 x509000_1 = some r) ∧ Aside0 (kq ≤ k1) ∧ Aside0 (Kd.R k130 130 w' w.heap.size (fun _ => True) (.slice Ao23 t501.length co23) t501) ∧ Aside0 (Kd.R (Kd.int .i64) 3 w' w.heap.size (fun _ => True) v510 x7_2) ∧ Aside0 (Kd.R k130 130 w' w.heap.size (fun _ => True) (.slice Ao23 t501.length co23) t501) ∧ Aside0 (Kd.S (Kd.slice 3 (Kd.int .i64)) 24 w' w.heap.size (fun k_ => some k_ ≠ (v510 : Value).ownBlock) u509000 x509000_1) ∧ Aside0 (w'.heap[gb499]? = some (.cells #[.int .i64 a0_0, (.slice A0_1 l0_1.length c0_1)] 26 (0, 0))) ∧ Aside0 (w'.heap[gb500]? = some (.cells #[(.slice none 0 0)] 41 (0, 0))) ∧ Aside0 (w'.heap[gb508]? = some (.cells #[u509000] 41 (0, 0))) ∧ Aside0 (Below w.heap.size w w'))
    case atStart => exact ⟨(y509), (0), eR, H', ⟨Nat.le_refl _⟩, ⟨rQ HO_3⟩, ⟨rQ HO511⟩, ⟨rQ HO_3⟩, ⟨by (with_reducible repeat first|apply sA|apply sN|apply sD); exact Kd.S_mono HO_509000.out (fun _ hk => hk.2)⟩, ⟨qQ BK499⟩, ⟨qQ BK500⟩, ⟨qQ BK508⟩, ⟨bq⟩⟩
    case round =>
     clear H'
     try clear c17
     try clear c17b0
     try clear c19
     try clear c19b0
     try clear c19b1
     try clear c20
     try clear c20b0
     try clear c20b1
     try clear hcz10_0
     try clear hcz10_1
     try clear hcz16_0
     try clear hcz8_0
     try clear hcz8_1
     try clear hfz10_0
     try clear hfz10_1
     try clear hfz16_0
     try clear hfz8_0
     try clear hfz8_1
     obtain ⟨x7_2, x26_2, rfl, HA, HK2, HO_3, HO_7, HO_24, HO_509000, BK499, BK500, BK508, HB⟩ := hrel
     cases gk with
     | zero => exact absurd HA.out (by simp [Y25.l1])
     | succ k2 =>
      have H := HA.out
      clear HA
      simp only [Y25.l1] at H
      by_cases c24 : x26_2 < (t501.length : Int)
      ·rw [if_pos c24] at H
       have c24b0 := decide_eq_true c24
       clear c24
       replace H := iD2 H
       obtain ⟨c25b0, c26b0, H⟩ := H
       by_cases c27 : ((rd_T130 t501 x26_2).f0) = x6_1
       ·rw [if_pos c27] at H
        have c27b0 : (((rd_T130 t501 x26_2).f0) == x6_1) = true := beq_iff_eq.mpr c27
        have c27b1 : (((rd_T130 t501 x26_2).f0) != x6_1) = false := bne_eq_false_iff_eq.mpr c27
        clear c27
        replace H := iD2 H
        obtain ⟨c28b0, c29b0, H⟩ := H
        obtain ⟨y515, hy515⟩ := nE ((x7_2.set (((rd_T130 t501 x26_2).f1) : Int).toNat (wrap64 ((rd x7_2 ((rd_T130 t501 x26_2).f1)) + 1))) : List Int)
        try rw [← hy515] at H
        try with_reducible replace H := (Option.bind_some _ _).symm.trans H
        try dsimp only at H
        have Ny515 := aM hy515
        clear hy515
        have H' := aM H
        clear H
        have p512 : 0 ≤ (x26_2 : Int) := odt
        have q512 : x26_2 < (t501.length : Int) := odt
        obtain ⟨ad512, e512, hx512_0, hx512_1⟩ := at_T130 (Kd.R_reads' HO_24.out).2.2 x26_2 p512 q512
        cases e512
        replace p512 := eq_true p512
        replace q512 := eq_true q512
        go_wp2_with (first | ((with_reducible refine gate_dst (N := 9) rfl ?_); refine bE 9 130 #[.int .i64 0, .int .i64 0] ?_; intro gb513 hg w31 hbox hb; have _ := aM (Kd.R_below (Kd.R_elderB (rQ HO_3) gb513 (Nat.le_of_eq hg.symm)) hb); have _ := aM (Kd.R_below (rQ HO_7) hb); have _ := aM (Kd.R_below (Kd.R_elderB (rQ HO_24) gb513 (Nat.le_of_eq hg.symm)) hb); have _ := aM (Kd.S_below (sQ HO_509000) hb); have _ := bK BK499 hb; have _ := bK BK500 hb; have _ := bK BK508 hb; have _ := bB hb; have _ := aM (hbox); have _ := aM ((gS hg)); have _ := aM ((gS hg)); have _ := aM (nL hg BK499); have _ := aM (nG hg BK499); have _ := aM (nL hg BK500); have _ := aM (nG hg BK500); have _ := aM (nL hg BK508); have _ := aM (nG hg BK508); clear HO_3 HO_7 HO_24 HO_509000 BK499 BK500 BK508 HB; rename_i HO_3 HO_7 HO_24 HO_509000 BK499 BK500 BK508 HB BK513 GW513 GE513 NB499_513 NB513_499 NB500_513 NB513_500 NB508_513 NB513_508; clear hb hbox hg; have hnb32 := NB513_499.out; have hnc32 := NB499_513.out; have hnb33 := NB513_500.out; have hnc33 := NB500_513.out; have hnb34 := NB513_508.out; have hnc34 := NB508_513.out; have hcz35_0 := zc20 BK513; have hcz35_1 := zc21 BK513; have hfz35_0 := blk_frozen BK513.out 0; have hfz35_1 := blk_frozen BK513.out 1) | ((with_reducible refine gate_store (t := 130) (p := 9) rfl ?_); refine sE ((w31.setCell ⟨gb513, 0, none⟩ (.int .i64 ((rd_T130 t501 x26_2).f0))).setCell ⟨gb513, 1, none⟩ (.int .i64 ((rd_T130 t501 x26_2).f1))) 130 9 ?_; intro w36 hw; have _ : Aside0 (Kd.R k130 130 w36 w.heap.size (fun k_ => k_ ≠ gb513) (.slice (some ad512) t501.length co23) t501) := ⟨(by rw [hw]; exact (by (with_reducible repeat first|apply rA|apply rN|apply rD); exact Kd.R_mono (Kd.R_far (p := ⟨gb513, 1, none⟩) (Kd.R_far (p := ⟨gb513, 0, none⟩) (Kd.R_mono HO_3.out (fun k_ hk => (⟨hk, hk.2⟩ : _ ∧ k_ ≠ gb513))) (fun _ hk => hk.2) (.int .i64 ((rd_T130 t501 x26_2).f0))) (fun _ hk => hk.2) (.int .i64 ((rd_T130 t501 x26_2).f1))) (fun _ hk => hk.1.2)))⟩; have _ : Aside0 (Kd.R (Kd.int .i64) 3 w36 w.heap.size (fun _ => True) v510 x7_2) := ⟨(by rw [hw]; exact (by (with_reducible repeat first|apply rA|apply rN|apply rD); exact Kd.R_mono (Kd.R_far (p := ⟨gb513, 1, none⟩) (Kd.R_far (p := ⟨gb513, 0, none⟩) (Kd.R_types HO_7.out BK513.out (by decide)) (fun _ hk => hk.2) (.int .i64 ((rd_T130 t501 x26_2).f0))) (fun _ hk => hk.2) (.int .i64 ((rd_T130 t501 x26_2).f1))) (fun _ hk => trivial)))⟩; have _ : Aside0 (Kd.R k130 130 w36 w.heap.size (fun k_ => k_ ≠ gb513) (.slice (some ad512) t501.length co23) t501) := ⟨(by rw [hw]; exact (by (with_reducible repeat first|apply rA|apply rN|apply rD); exact Kd.R_mono (Kd.R_far (p := ⟨gb513, 1, none⟩) (Kd.R_far (p := ⟨gb513, 0, none⟩) (Kd.R_mono HO_24.out (fun k_ hk => (⟨hk, hk.2⟩ : _ ∧ k_ ≠ gb513))) (fun _ hk => hk.2) (.int .i64 ((rd_T130 t501 x26_2).f0))) (fun _ hk => hk.2) (.int .i64 ((rd_T130 t501 x26_2).f1))) (fun _ hk => hk.1.2)))⟩; have _ : Aside0 (Kd.S (Kd.slice 3 (Kd.int .i64)) 24 w36 w.heap.size (fun k_ => some k_ ≠ (v510 : Value).ownBlock) u509000 x509000_1) := ⟨(by rw [hw]; exact (by (with_reducible repeat first|apply sA|apply sN|apply sD); exact Kd.S_mono (Kd.S_far (p := ⟨gb513, 1, none⟩) (Kd.S_far (p := ⟨gb513, 0, none⟩) (Kd.S_types HO_509000.out BK513.out (by decide)) (fun _ hk => hk.2) (.int .i64 ((rd_T130 t501 x26_2).f0))) (fun _ hk => hk.2) (.int .i64 ((rd_T130 t501 x26_2).f1))) (fun _ hk => hk.1)))⟩; have _ : Aside0 (w36.heap[gb499]? = some (.cells #[.int .i64 a0_0, .slice A0_1 l0_1.length c0_1] 26 (0, 0))) := ⟨(by rw [hw]; exact (by (with_reducible repeat first|apply qN|apply qD|apply qA); refine blk_far ?_ NB499_513.out _; (with_reducible repeat first|apply qN|apply qD|apply qA); refine blk_far ?_ NB499_513.out _; (with_reducible repeat first|apply qN|apply qD|apply qA); exact BK499.out))⟩; have _ : Aside0 (w36.heap[gb500]? = some (.cells #[.slice none 0 0] 41 (0, 0))) := ⟨(by rw [hw]; exact (by (with_reducible repeat first|apply qN|apply qD|apply qA); refine blk_far ?_ NB500_513.out _; (with_reducible repeat first|apply qN|apply qD|apply qA); refine blk_far ?_ NB500_513.out _; (with_reducible repeat first|apply qN|apply qD|apply qA); exact BK500.out))⟩; have _ : Aside0 (w36.heap[gb508]? = some (.cells #[u509000] 41 (0, 0))) := ⟨(by rw [hw]; exact (by (with_reducible repeat first|apply qN|apply qD|apply qA); refine blk_far ?_ NB508_513.out _; (with_reducible repeat first|apply qN|apply qD|apply qA); refine blk_far ?_ NB508_513.out _; (with_reducible repeat first|apply qN|apply qD|apply qA); exact BK508.out))⟩; have _ : Aside0 (w36.heap[gb513]? = some (.cells #[.int .i64 ((rd_T130 t501 x26_2).f0), .int .i64 ((rd_T130 t501 x26_2).f1)] 130 (0, 0))) := ⟨(by rw [hw]; exact (by (with_reducible repeat first|apply qN|apply qD|apply qA); refine blk_put (cs := #[.int .i64 ((rd_T130 t501 x26_2).f0), .int .i64 0]) ?_ 1 _ rfl; (with_reducible repeat first|apply qN|apply qD|apply qA); refine blk_put (cs := #[.int .i64 0, .int .i64 0]) ?_ 0 _ rfl; (with_reducible repeat first|apply qN|apply qD|apply qA); exact BK513.out))⟩; have _ : Aside0 (Below w.heap.size w w36) := ⟨(by rw [hw]; exact bq)⟩; clear hw HO_3 HO_7 HO_24 HO_509000 BK499 BK500 BK508 BK513 HB; rename_i HO_3 HO_7 HO_24 HO_509000 BK499 BK500 BK508 BK513 HB; have hcz37_0 := zc20 BK513; have hcz37_1 := zc21 BK513; have hfz37_0 := blk_frozen BK513.out 0; have hfz37_1 := blk_frozen BK513.out 1; obtain ⟨Ao38, co38, eo38⟩ := Kd.R_slice HO_7.out; subst eo38; have p514 : 0 ≤ (((rd_T130 t501 x26_2).f1) : Int) := odt; have q514 : ((rd_T130 t501 x26_2).f1) < (x7_2.length : Int) := odt; obtain ⟨ad514, e514, hx514_0⟩ := Kd.at_int (Kd.R_reads' HO_7.out).2.2 ((rd_T130 t501 x26_2).f1) p514 q514; cases e514; replace p514 := eq_true p514; replace q514 := eq_true q514; have p30 : 0 ≤ (((rd_T130 t501 x26_2).f1) : Int) := odt; have q30 : (((rd_T130 t501 x26_2).f1) : Int) < ((x7_2.length : Int) : Int) := odt; obtain ⟨go30, co30, eo30, gb30, gl30, cl30, HG30⟩ := Kd.R_form HO_7.out (by omega); (first | cases eo30 | (injection eo30 with ea_ en_ ec_; (first | subst ea_ | (injection ea_ with ea_; subst ea_)); subst ec_; clear en_)); have GB30 := aM gb30; have GG30 := aM HG30; clear gb30 gl30 HG30; (first | simp only [add_plain] at hx514_0 | skip); obtain ⟨hx30_0, hf30_0⟩ := Kd.R_celln 0 HO_7.out (((rd_T130 t501 x26_2).f1) : Int) p30 q30; replace p30 := eq_true p30; replace q30 := eq_true q30; obtain ⟨hy39_, hz39_⟩ := Kd.R_celln 0 HO_7.out (((rd_T130 t501 x26_2).f1) : Int) (odt) (odt); have HP39 := Kd.R_putg HO_7.out (((rd_T130 t501 x26_2).f1) : Int) (wrap64 ((rd x7_2 ((rd_T130 t501 x26_2).f1)) + 1))) | ((with_reducible refine gate_store (t := 3) (p := 40) rfl ?_); refine sE (w36.setCell ⟨go30, (((rd_T130 t501 x26_2).f1) : Int).toNat, none⟩ (.int .i64 (wrap64 ((rd x7_2 ((rd_T130 t501 x26_2).f1)) + 1)))) 3 40 ?_; intro w40 hw; have hg : w36.grownBy w40 (some go30) := (by rw [hw]; exact HP39.2); have hp_ : Kd.R (Kd.int .i64) 3 w40 w.heap.size (fun _ => True) (.slice (some ⟨go30, 0, none⟩) x7_2.length co38) y515 := (by rw [hw, Ny515.out]; exact HP39.1); clear HP39; have _ := aM (Kd.R_over' (v := (.slice (some ⟨go30, 0, none⟩) x7_2.length co38)) (rQ HO_3) (Kd.R_typed HO_7.out) (by decide) hg); have _ := aM (hp_); have _ := aM (Kd.R_over' (v := (.slice (some ⟨go30, 0, none⟩) x7_2.length co38)) (rQ HO_24) (Kd.R_typed HO_7.out) (by decide) hg); have _ := aM (Kd.S_after (v := (.slice (some ⟨go30, 0, none⟩) x7_2.length co38)) (v1 := (.slice (some ⟨go30, 0, none⟩) x7_2.length co38)) (ok := (fun _ => True)) (by (with_reducible repeat first|apply sA|apply sN|apply sD); exact Kd.S_mono HO_509000.out (fun _ hk => ⟨trivial, hk⟩)) hg (.inl rfl)); have _ := aM (blk_grown (g := gb499) (o := .cells #[.int .i64 a0_0, .slice A0_1 l0_1.length c0_1] 26 (0, 0)) (qQ BK499) hg (Kd.R_ne HO_7.out BK499.out (by decide))); have _ := aM (blk_grown (g := gb500) (o := .cells #[.slice none 0 0] 41 (0, 0)) (qQ BK500) hg (Kd.R_ne HO_7.out BK500.out (by decide))); have _ := aM (blk_grown (g := gb508) (o := .cells #[u509000] 41 (0, 0)) (qQ BK508) hg (Kd.R_ne HO_7.out BK508.out (by decide))); have _ := aM (blk_grown (g := gb513) (o := .cells #[.int .i64 ((rd_T130 t501 x26_2).f0), .int .i64 ((rd_T130 t501 x26_2).f1)] 130 (0, 0)) (qQ BK513) hg (Kd.R_ne HO_7.out BK513.out (by decide))); have _ := aM ((by rw [hw]; exact below_set (HB.out) GB30.out : Below w.heap.size w w40)); clear HO_3 HO_7 HO_24 HO_509000 BK499 BK500 BK508 BK513 HB; rename_i HO_3 HO_7 HO_24 HO_509000 BK499 BK500 BK508 BK513 HB; clear hg hw hp_))
        go_roundg k2
        case measure => have := HK1.out; have := HK2.out; omega
        case rel => exact ⟨(y515), (wrap64 (x26_2 + 1)), eR, H', ⟨by have := HK1.out; have := HK2.out; omega⟩, ⟨by (with_reducible repeat first|apply rA|apply rN|apply rD); exact Kd.R_mono HO_3.out (fun _ hk => trivial)⟩, ⟨rQ HO_7⟩, ⟨by (with_reducible repeat first|apply rA|apply rN|apply rD); exact Kd.R_mono HO_24.out (fun _ hk => trivial)⟩, ⟨by (with_reducible repeat first|apply sA|apply sN|apply sD); exact Kd.S_mono HO_509000.out (fun _ hk => hk.2)⟩, ⟨qQ BK499⟩, ⟨qQ BK500⟩, ⟨qQ BK508⟩, ⟨bq⟩⟩
       ·rw [if_neg c27] at H
        have c27b0 : (((rd_T130 t501 x26_2).f0) == x6_1) = false := beq_eq_false_iff_ne.mpr c27
        have c27b1 : (((rd_T130 t501 x26_2).f0) != x6_1) = true := bne_iff_ne.mpr c27
        have H' := aM H
        clear H
        have p512 : 0 ≤ (x26_2 : Int) := odt
        have q512 : x26_2 < (t501.length : Int) := odt
        obtain ⟨ad512, e512, hx512_0, hx512_1⟩ := at_T130 (Kd.R_reads' HO_24.out).2.2 x26_2 p512 q512
        cases e512
        replace p512 := eq_true p512
        replace q512 := eq_true q512
        go_wp2_with (first | ((with_reducible refine gate_dst (N := 9) rfl ?_); refine bE 9 130 #[.int .i64 0, .int .i64 0] ?_; intro gb513 hg w41 hbox hb; have _ := aM (Kd.R_below (Kd.R_elderB (rQ HO_3) gb513 (Nat.le_of_eq hg.symm)) hb); have _ := aM (Kd.R_below (rQ HO_7) hb); have _ := aM (Kd.R_below (Kd.R_elderB (rQ HO_24) gb513 (Nat.le_of_eq hg.symm)) hb); have _ := aM (Kd.S_below (sQ HO_509000) hb); have _ := bK BK499 hb; have _ := bK BK500 hb; have _ := bK BK508 hb; have _ := bB hb; have _ := aM (hbox); have _ := aM ((gS hg)); have _ := aM ((gS hg)); have _ := aM (nL hg BK499); have _ := aM (nG hg BK499); have _ := aM (nL hg BK500); have _ := aM (nG hg BK500); have _ := aM (nL hg BK508); have _ := aM (nG hg BK508); clear HO_3 HO_7 HO_24 HO_509000 BK499 BK500 BK508 HB; rename_i HO_3 HO_7 HO_24 HO_509000 BK499 BK500 BK508 HB BK513 GW513 GE513 NB499_513 NB513_499 NB500_513 NB513_500 NB508_513 NB513_508; clear hb hbox hg; have hnb42 := NB513_499.out; have hnc42 := NB499_513.out; have hnb43 := NB513_500.out; have hnc43 := NB500_513.out; have hnb44 := NB513_508.out; have hnc44 := NB508_513.out; have hcz45_0 := zc20 BK513; have hcz45_1 := zc21 BK513; have hfz45_0 := blk_frozen BK513.out 0; have hfz45_1 := blk_frozen BK513.out 1))
        go_roundg k2
        case measure => have := HK1.out; have := HK2.out; omega
        case rel => exact ⟨(x7_2), (wrap64 (x26_2 + 1)), eR, H', ⟨by have := HK1.out; have := HK2.out; omega⟩, ⟨by (with_reducible repeat first|apply rA|apply rN|apply rD); exact Kd.R_mono (Kd.R_far (p := ⟨gb513, 1, none⟩) (Kd.R_far (p := ⟨gb513, 0, none⟩) (Kd.R_mono HO_3.out (fun k_ hk => (⟨hk, hk.2⟩ : _ ∧ k_ ≠ gb513))) (fun _ hk => hk.2) (.int .i64 ((rd_T130 t501 x26_2).f0))) (fun _ hk => hk.2) (.int .i64 ((rd_T130 t501 x26_2).f1))) (fun _ hk => trivial)⟩, ⟨by (with_reducible repeat first|apply rA|apply rN|apply rD); exact Kd.R_mono (Kd.R_far (p := ⟨gb513, 1, none⟩) (Kd.R_far (p := ⟨gb513, 0, none⟩) (Kd.R_types HO_7.out BK513.out (by decide)) (fun _ hk => hk.2) (.int .i64 ((rd_T130 t501 x26_2).f0))) (fun _ hk => hk.2) (.int .i64 ((rd_T130 t501 x26_2).f1))) (fun _ hk => trivial)⟩, ⟨by (with_reducible repeat first|apply rA|apply rN|apply rD); exact Kd.R_mono (Kd.R_far (p := ⟨gb513, 1, none⟩) (Kd.R_far (p := ⟨gb513, 0, none⟩) (Kd.R_mono HO_24.out (fun k_ hk => (⟨hk, hk.2⟩ : _ ∧ k_ ≠ gb513))) (fun _ hk => hk.2) (.int .i64 ((rd_T130 t501 x26_2).f0))) (fun _ hk => hk.2) (.int .i64 ((rd_T130 t501 x26_2).f1))) (fun _ hk => trivial)⟩, ⟨by (with_reducible repeat first|apply sA|apply sN|apply sD); exact Kd.S_mono (Kd.S_far (p := ⟨gb513, 1, none⟩) (Kd.S_far (p := ⟨gb513, 0, none⟩) (Kd.S_types HO_509000.out BK513.out (by decide)) (fun _ hk => hk.2) (.int .i64 ((rd_T130 t501 x26_2).f0))) (fun _ hk => hk.2) (.int .i64 ((rd_T130 t501 x26_2).f1))) (fun _ hk => hk.1)⟩, ⟨by (with_reducible repeat first|apply qN|apply qD|apply qA); refine blk_far ?_ NB499_513.out _; (with_reducible repeat first|apply qN|apply qD|apply qA); refine blk_far ?_ NB499_513.out _; (with_reducible repeat first|apply qN|apply qD|apply qA); exact BK499.out⟩, ⟨by (with_reducible repeat first|apply qN|apply qD|apply qA); refine blk_far ?_ NB500_513.out _; (with_reducible repeat first|apply qN|apply qD|apply qA); refine blk_far ?_ NB500_513.out _; (with_reducible repeat first|apply qN|apply qD|apply qA); exact BK500.out⟩, ⟨by (with_reducible repeat first|apply qN|apply qD|apply qA); refine blk_far ?_ NB508_513.out _; (with_reducible repeat first|apply qN|apply qD|apply qA); refine blk_far ?_ NB508_513.out _; (with_reducible repeat first|apply qN|apply qD|apply qA); exact BK508.out⟩, ⟨bq⟩⟩
      ·rw [if_neg c24] at H
       have c24b0 := decide_eq_false c24
       clear c24
       replace H := iS H
       obtain ⟨c46, H⟩ := H
       have LMc46 := aM c46
       clear c46
       obtain ⟨y516, hy516⟩ := nE ((x509000_1 ++ [x7_2]) : List (List Int))
       try rw [← hy516] at H
       try with_reducible replace H := (Option.bind_some _ _).symm.trans H
       try dsimp only at H
       have Ny516 := aM hy516
       clear hy516
       have H' := aM H
       clear H
       have hnb47 := NB508_499.out
       have hnc47 := NB499_508.out
       have hnb48 := NB508_500.out
       have hnc48 := NB500_508.out
       have hcz49_0 := zc10 BK508
       have hfz49_0 := blk_frozen BK508.out 0
       obtain ⟨Ao51, co51, eo51⟩ := Kd.R_slice HO_7.out
       subst eo51
       go_wp2_with (first | ((with_reducible refine gate_builtin (b := .append) (xs := #[.tmp 43, .tmp 45]) rfl ?_); at_builtin; refine Kd.S_append (Kd.slice 3 (Kd.int .i64)) (w0 := w) w.heap.size rfl (.tmp 43) (.tmp 45) 39 24 (.slice none 0 0) 24 rfl Tryz.underlying39 info24 rfl (by decide) (by omega) u509000 x509000_1 x7_2 [.slice Ao51 x7_2.length co51] (fun _ => True) (fun k_ => some k_ = (.slice Ao51 x7_2.length co51 : Value).ownBlock) rfl rfl ?aP (fun k_ hk_ => ((Kd.R_mono (ok' := fun k_ => ((fun _ => True)) k_ ∧ some k_ ≠ (u509000 : Value).ownBlock) (Kd.R_apart' (HO_7.out) (Kd.S_typed HO_509000.out) (by decide)) (fun k_ hk => ⟨trivial, hk.2⟩))).1 k_ hk_.symm) ?aF ?aO ?aB ?aS ?aL ?_; (case aP => exact Kd.M_row (Kd.R_mono (Kd.R_tight rfl (Kd.R_mono (ok' := fun k_ => ((fun _ => True)) k_ ∧ some k_ ≠ (u509000 : Value).ownBlock) (Kd.R_apart' (HO_7.out) (Kd.S_typed HO_509000.out) (by decide)) (fun k_ hk => ⟨trivial, hk.2⟩))) (fun _ h_ => h_))); (case aB => exact bq); (case aF => exact (fun _ _ => trivial)); (case aO => exact (by (with_reducible repeat first|apply sA|apply sN|apply sD); exact Kd.S_mono HO_509000.out (fun k_ hk => ⟨trivial, fun e_ => hk e_⟩))); (case aS => exact (below_size bq)); (case aL => have := LMc46.out; omega); intro v517 w50 ho hb hg hat; rw [← Ny516.out] at ho; have _ := aM (Kd.R_over' (rQ HO_3) (Kd.S_typed (sQ HO_509000)) (by decide) hg); have _ := aM (Kd.R_over' (rQ HO_24) (Kd.S_typed (sQ HO_509000)) (by decide) hg); have _ := aM (blk_grown (g := gb499) (o := .cells #[.int .i64 a0_0, .slice A0_1 l0_1.length c0_1] 26 (0, 0)) (qQ BK499) hg (Kd.S_ne HO_509000.out BK499.out (by decide))); have _ := aM (blk_grown (g := gb500) (o := .cells #[.slice none 0 0] 41 (0, 0)) (qQ BK500) hg (Kd.S_ne HO_509000.out BK500.out (by decide))); have _ := aM (blk_grown (g := gb508) (o := .cells #[u509000] 41 (0, 0)) (qQ BK508) hg (Kd.S_ne HO_509000.out BK508.out (by decide))); have _ := aM (hb); have _ := aM (ho); clear HO_3 HO_24 BK499 BK500 BK508 HB HO_509000 HO_7; rename_i HO_3 HO_24 BK499 BK500 BK508 HB HO518; clear ho hb hg hat; obtain ⟨Ao52, co52, eo52⟩ := Kd.S_slice HO518.out; subst eo52; have hcz53_0 := zc10 BK508; have hfz53_0 := blk_frozen BK508.out 0))
       subst hji18
       go_roundg k2
       case measure => have := HK1.out; have := HK2.out; omega
       case rel => exact ⟨(wrap64 (x6_1 + 1)), (y516), (.slice Ao52 y516.length co52), eR, H', ⟨by have := HK1.out; have := HK2.out; omega⟩, ⟨by (with_reducible repeat first|apply rA|apply rN|apply rD); exact Kd.R_mono (Kd.R_far (p := ⟨gb508, 0, none⟩) (Kd.R_types HO_3.out BK508.out (by decide)) (fun _ hk => hk.2) (.slice Ao52 y516.length co52)) (fun _ hk => trivial)⟩, ⟨by (with_reducible repeat first|apply sA|apply sN|apply sD); exact Kd.S_mono (Kd.S_far (p := ⟨gb508, 0, none⟩) (Kd.S_types HO518.out BK508.out (by decide)) (fun _ hk => hk.2) (.slice Ao52 y516.length co52)) (fun _ hk => trivial)⟩, ⟨by (with_reducible repeat first|apply qN|apply qD|apply qA); refine blk_far ?_ NB499_508.out _; (with_reducible repeat first|apply qN|apply qD|apply qA); exact BK499.out⟩, ⟨by (with_reducible repeat first|apply qN|apply qD|apply qA); refine blk_far ?_ NB500_508.out _; (with_reducible repeat first|apply qN|apply qD|apply qA); exact BK500.out⟩, ⟨by (with_reducible repeat first|apply qN|apply qD|apply qA); refine blk_put (cs := #[u509000]) ?_ 0 _ rfl; (with_reducible repeat first|apply qN|apply qD|apply qA); exact BK508.out⟩, ⟨bq⟩⟩
   ·rw [if_neg c17] at H
    have c17b0 := decide_eq_false c17
    clear c17
    obtain rfl := Option.some.inj H
    have hnb54 := NB508_499.out
    have hnc54 := NB499_508.out
    have hnb55 := NB508_500.out
    have hnc55 := NB500_508.out
    have hcz56_0 := zc10 BK508
    have hfz56_0 := blk_frozen BK508.out 0
    obtain ⟨Ao57, co57, eo57⟩ := Kd.S_slice HO_509000.out
    subst eo57
    have hnb58 := NB500_499.out
    have hnc58 := NB499_500.out
    have hcz59_0 := zc10 BK500
    have hfz59_0 := blk_frozen BK500.out 0
    go_wp2
    refine bodyPost_ret (results_cell_row rfl _ _ gb500 41 #[.slice Ao57 x509000_1.length co57] (0, 0) _ rfl (by (with_reducible repeat first|apply qN|apply qD|apply qA); refine blk_put (cs := #[.slice none 0 0]) ?_ 0 _ rfl; (with_reducible repeat first|apply qN|apply qD|apply qA); exact BK500.out) Tryz.underlying41 rfl (by kernel_rfl)) rfl ?_
    exact ⟨_, eE, by (with_reducible repeat first|apply sA|apply sN|apply sD); exact Kd.S_mono (Kd.S_far (p := ⟨gb500, 0, none⟩) (Kd.S_types HO_509000.out BK500.out (by decide)) (fun _ hk => hk.2) (.slice Ao57 x509000_1.length co57)) (fun _ hk => trivial), bq⟩
def Y52.f (k : Nat) (a0_0 : Int) (l0_1 : List Int) : Option ((List (List Int)) × Bool) := (Y57.f k a0_0 l0_1).bind fun t521 => (if t521 = true then ((Y25.f k a0_0 l0_1).bind fun t522 => (some (t522, true))) else (some (([] : List (List Int)), false)))
theorem Y52.calls (k : Nat) (a0_0 : Int) (A0_1 : Option Addr) (c0_1 : Nat) (l0_1 : List Int) (r1 : List (List Int)) (r2 : Bool) (w : World) (hr0_1 : Kd.C (Kd.int .i64) w A0_1 l0_1.length l0_1) (hc0_1 : l0_1.length ≤ c0_1) (h : Y52.f k a0_0 l0_1 = some (r1, r2)) :
  Calls Tryz.prog 19 #[.agg #[.int .i64 a0_0, .slice A0_1 l0_1.length c0_1]] w fun e w' => ∃ v0_ : Value, e = .returned (.tuple #[.agg #[v0_], .bool r2]) ∧ Kd.S (Kd.slice 3 (Kd.int .i64)) 24 w' w.heap.size (fun _ => True) v0_ r1 ∧ Below w.heap.size w w' := by
 have hu26 := Tryz.underlying26
 have hu41 := Tryz.underlying41
 have HR0_1 := aM hr0_1
 have HC0_1 := aM hc0_1
 clear hr0_1 hc0_1
 have HB := aM (Below.refl w.heap.size w)
 unfold Y52.f at h
 have H := h
 clear h
 replace H := bS H
 obtain ⟨t521, A2, H⟩ := H
 try dsimp only at H
 by_cases c3 : t521 = true
 ·subst c3
  have H1 : ((Y25.f k a0_0 l0_1).bind fun t522 => (some (t522, true))) = some (r1, r2) := by rw [if_pos rfl] at H; exact H
  clear H
  have H := H1
  clear H1
  replace H := bS H
  obtain ⟨t522, A4, H⟩ := H
  try dsimp only at H
  simp only [Option.some.injEq, Prod.mk.injEq] at H
  obtain ⟨rfl, rfl⟩ := H
  go_enter Tryz.func19, Tryz.ntmps19
  go_wp2_with (first | ((with_reducible refine gate_dst (N := 1) rfl ?_); refine bF 1 26 #[.int .i64 a0_0, .slice A0_1 l0_1.length c0_1] bq ?_; intro gb519 w5 hg hb _ _ _ _; clear HB; rename_i HB BK519 GW519 GE519; clear hb hg) | ((with_reducible refine gate_dst (N := 2) rfl ?_); refine bE 2 41 #[.slice none 0 0] ?_; intro gb520 hg w6 hbox hb; have _ := bK BK519 hb; have _ := bB hb; have _ := aM (hbox); have _ := aM ((gS hg)); have _ := aM ((gS hg)); have _ := aM (nL hg BK519); have _ := aM (nG hg BK519); clear BK519 HB; rename_i BK519 HB BK520 GW520 GE520 NB519_520 NB520_519; clear hb hbox hg; have hnb7 := NB519_520.out; have hnc7 := NB520_519.out; have hcz8_0 := zc20 BK519; have hcz8_1 := zc21 BK519; have hfz8_0 := blk_frozen BK519.out 0; have hfz8_1 := blk_frozen BK519.out 1) | ((with_reducible refine gate_callee (f := 72) rfl ?_); refine gL (some 5) Tryz.func72 #[.agg #[.int .i64 a0_0, .slice A0_1 l0_1.length c0_1]] ?_; (with_reducible refine (Y57.calls k a0_0 _ _ l0_1 true _ (cQ (Kd.C_below HR0_1.out HB.out)) HC0_1.out A2.out).mono ?_); rintro e w9 ⟨rfl, hb⟩; refine ⟨_, rfl, ?_⟩; have _ := bK BK519 hb; have _ := bK BK520 hb; have _ := bB hb; clear BK519 BK520 HB; rename_i BK519 BK520 HB; (try clear hb); have hcz10_0 := zc20 BK519; have hcz10_1 := zc21 BK519; have hfz10_0 := blk_frozen BK519.out 0; have hfz10_1 := blk_frozen BK519.out 1) | ((with_reducible refine gate_callee (f := 74) rfl ?_); refine gL (some 9) Tryz.func74 #[.agg #[.int .i64 a0_0, .slice A0_1 l0_1.length c0_1]] ?_; (with_reducible refine (Y25.calls k a0_0 _ _ l0_1 t522 _ (cQ (Kd.C_below HR0_1.out HB.out)) HC0_1.out A4.out).mono ?_); rintro e w11 ⟨v523, rfl, ho0, hb⟩; refine ⟨_, rfl, ?_⟩; have _ := aM (Kd.S_lower ho0 (below_size bq)); have _ := bK BK519 hb; have _ := bK BK520 hb; have _ := bB hb; clear BK519 BK520 HB; rename_i HO524 BK519 BK520 HB; (try clear hb); (try clear ho0); obtain ⟨Ao12, co12, eo12⟩ := Kd.S_slice HO524.out; subst eo12; have hcz13_0 := zc10 BK520; have hfz13_0 := blk_frozen BK520.out 0))
  refine bodyPost_ret (results_ct rfl _ _ gb520 41 #[.slice Ao12 t522.length co12] (0, 0) _ rfl (by (with_reducible repeat first|apply qN|apply qD|apply qA); refine blk_put (cs := #[.slice none 0 0]) ?_ 0 _ rfl; (with_reducible repeat first|apply qN|apply qD|apply qA); exact BK520.out) Tryz.underlying41 rfl (by kernel_rfl)) rfl ?_
  exact ⟨_, eE, by (with_reducible repeat first|apply sA|apply sN|apply sD); exact Kd.S_mono (Kd.S_far (p := ⟨gb520, 0, none⟩) (Kd.S_types HO524.out BK520.out (by decide)) (fun _ hk => hk.2) (.slice Ao12 t522.length co12)) (fun _ hk => trivial), bq⟩
 ·replace c3 := Bool.eq_false_iff.mpr c3
  subst c3
  have H1 : (some (([] : List (List Int)), false)) = some (r1, r2) := by rw [if_neg (show ¬ (false = true) by decide)] at H; exact H
  clear H
  have H := H1
  clear H1
  simp only [Option.some.injEq, Prod.mk.injEq] at H
  obtain ⟨rfl, rfl⟩ := H
  go_enter Tryz.func19, Tryz.ntmps19
  go_wp2_with (first | ((with_reducible refine gate_dst (N := 1) rfl ?_); refine bF 1 26 #[.int .i64 a0_0, .slice A0_1 l0_1.length c0_1] bq ?_; intro gb519 w14 hg hb _ _ _ _; clear HB; rename_i HB BK519 GW519 GE519; clear hb hg) | ((with_reducible refine gate_dst (N := 2) rfl ?_); refine bE 2 41 #[.slice none 0 0] ?_; intro gb520 hg w15 hbox hb; have _ := bK BK519 hb; have _ := bB hb; have _ := aM (hbox); have _ := aM ((gS hg)); have _ := aM ((gS hg)); have _ := aM (nL hg BK519); have _ := aM (nG hg BK519); clear BK519 HB; rename_i BK519 HB BK520 GW520 GE520 NB519_520 NB520_519; clear hb hbox hg; have hnb16 := NB519_520.out; have hnc16 := NB520_519.out; have hcz17_0 := zc20 BK519; have hcz17_1 := zc21 BK519; have hfz17_0 := blk_frozen BK519.out 0; have hfz17_1 := blk_frozen BK519.out 1) | ((with_reducible refine gate_callee (f := 72) rfl ?_); refine gL (some 5) Tryz.func72 #[.agg #[.int .i64 a0_0, .slice A0_1 l0_1.length c0_1]] ?_; (with_reducible refine (Y57.calls k a0_0 _ _ l0_1 false _ (cQ (Kd.C_below HR0_1.out HB.out)) HC0_1.out A2.out).mono ?_); rintro e w18 ⟨rfl, hb⟩; refine ⟨_, rfl, ?_⟩; have _ := bK BK519 hb; have _ := bK BK520 hb; have _ := bB hb; clear BK519 BK520 HB; rename_i BK519 BK520 HB; (try clear hb); have hcz19_0 := zc10 BK520; have hfz19_0 := blk_frozen BK520.out 0))
  refine bodyPost_ret (results_ct rfl _ _ gb520 41 #[.slice none 0 0] (0, 0) _ rfl (by (with_reducible repeat first|apply qN|apply qD|apply qA); refine blk_put (cs := #[.slice none 0 0]) ?_ 0 _ rfl; (with_reducible repeat first|apply qN|apply qD|apply qA); exact BK520.out) Tryz.underlying41 rfl (by kernel_rfl)) rfl ?_
  exact ⟨_, eE, by first | exact Kd.S_nil _ _ _ _ _ | exact Kd.N_nil _ _ _ _ _ | exact Kd.V_nil _ _ _ _ _ | exact Kd.Q_nil _ _ _ _ _ | exact Kd.R_nil _ _ _ _ _, bq⟩
def laws_pSame.l0 : Nat → List Int → List Int → Int → Int → Option (Bool)
 | 0, _, _, _, _ => none
 | k + 1, x0, x1, x12, x13 => if x13 < x12 then (if 0 ≤ x13 then (if x13 < (x0.length : Int) then (if x13 < (x1.length : Int) then (if (rd x0 x13) = (rd x1 x13) then (laws_pSame.l0 k x0 x1 x12 (wrap64 (x13 + 1))) else (some false)) else (none)) else (none)) else (none)) else (some true)
def laws_pSame.f (k : Nat) (l0 : List Int) (l1 : List Int) : Option (Bool) := if (l0.length : Int) = (l1.length : Int) then (laws_pSame.l0 k l0 l1 (l0.length : Int) 0) else (some false)
theorem laws_pSame.calls (k : Nat) (A0 : Option Addr) (c0 : Nat) (l0 : List Int) (A1 : Option Addr) (c1 : Nat) (l1 : List Int) (r : Bool) (w : World) (hr0 : Kd.C (Kd.int .i64) w A0 l0.length l0) (hc0 : l0.length ≤ c0) (hr1 : Kd.C (Kd.int .i64) w A1 l1.length l1) (hc1 : l1.length ≤ c1) (h : laws_pSame.f k l0 l1 = some r) :
  Calls Tryz.prog 14 #[.slice A0 l0.length c0, .slice A1 l1.length c1] w fun e w' => e = .returned (.bool r) ∧ Drawn0 w w' := by
 have HR0 := aM hr0
 have HC0 := aM hc0
 clear hr0 hc0
 have HR1 := aM hr1
 have HC1 := aM hc1
 clear hr1 hc1
 unfold laws_pSame.f at h
 have H := h
 clear h
 by_cases c3 : (l0.length : Int) = (l1.length : Int)
 ·rw [if_pos c3] at H
  have c3b0 : ((l0.length : Int) == (l1.length : Int)) = true := beq_iff_eq.mpr c3
  have c3b1 : ((l0.length : Int) != (l1.length : Int)) = false := bne_eq_false_iff_eq.mpr c3
  have c3b2 : (l0.length == l1.length) = true := by first | simpa using c3 | (simp at c3 ⊢; omega)
  clear c3
  have H' := aM H
  clear H
  go_enter Tryz.func14, Tryz.ntmps14
  go_wp2
  repeat (go_quiet (fail); try go_wp2)
  go_loopg [13] k (fun kq v13 w' => ∃ (x13_1 : Int), v13 = .int .i64 x13_1 ∧ Aside0 (laws_pSame.l0 kq l0 l1 (l0.length : Int) x13_1 = some r) ∧ Aside0 (kq ≤ k) ∧ Drawn0 w w')
  case atStart => exact ⟨(0), eR, H', ⟨Nat.le_refl _⟩, dQ⟩
  case round =>
   clear H'
   try clear c1
   try clear c3
   try clear c3b0
   try clear c3b1
   try clear c3b2
   obtain ⟨x13_1, rfl, HA, HK1, ⟨m1, rfl⟩⟩ := hrel
   cases gk with
   | zero => exact absurd HA.out (by simp [laws_pSame.l0])
   | succ k1 =>
    have H := HA.out
    clear HA
    simp only [laws_pSame.l0] at H
    by_cases c4 : x13_1 < (l0.length : Int)
    ·rw [if_pos c4] at H
     have c4b0 := decide_eq_true c4
     clear c4
     replace H := iD3 H
     obtain ⟨c5b0, c6b0, c7b0, H⟩ := H
     by_cases c8 : (rd l0 x13_1) = (rd l1 x13_1)
     ·rw [if_pos c8] at H
      have c8b0 : ((rd l0 x13_1) == (rd l1 x13_1)) = true := beq_iff_eq.mpr c8
      have c8b1 : ((rd l0 x13_1) != (rd l1 x13_1)) = false := bne_eq_false_iff_eq.mpr c8
      clear c8
      have H' := aM H
      clear H
      have p525 : 0 ≤ (x13_1 : Int) := odt
      have q525 : x13_1 < (l0.length : Int) := odt
      obtain ⟨ad525, e525, hx525_0⟩ := Kd.at_int HR0.out x13_1 p525 q525
      cases e525
      replace p525 := eq_true p525
      replace q525 := eq_true q525
      have p526 : 0 ≤ (x13_1 : Int) := odt
      have q526 : x13_1 < (l1.length : Int) := odt
      obtain ⟨ad526, e526, hx526_0⟩ := Kd.at_int HR1.out x13_1 p526 q526
      cases e526
      replace p526 := eq_true p526
      replace q526 := eq_true q526
      go_wp2
      repeat (go_quiet (fail); try go_wp2)
      go_roundg k1
      case measure => have := HK1.out; omega
      case rel => exact ⟨(wrap64 (x13_1 + 1)), eR, H', ⟨by have := HK1.out; omega⟩, dQ⟩
     ·rw [if_neg c8] at H
      have c8b0 : ((rd l0 x13_1) == (rd l1 x13_1)) = false := beq_eq_false_iff_ne.mpr c8
      have c8b1 : ((rd l0 x13_1) != (rd l1 x13_1)) = true := bne_iff_ne.mpr c8
      obtain rfl := Option.some.inj H
      have p525 : 0 ≤ (x13_1 : Int) := odt
      have q525 : x13_1 < (l0.length : Int) := odt
      obtain ⟨ad525, e525, hx525_0⟩ := Kd.at_int HR0.out x13_1 p525 q525
      cases e525
      replace p525 := eq_true p525
      replace q525 := eq_true q525
      have p526 : 0 ≤ (x13_1 : Int) := odt
      have q526 : x13_1 < (l1.length : Int) := odt
      obtain ⟨ad526, e526, hx526_0⟩ := Kd.at_int HR1.out x13_1 p526 q526
      cases e526
      replace p526 := eq_true p526
      replace q526 := eq_true q526
      go_wp2
      repeat (go_quiet (fail); try go_wp2)
      go_ret
      exact ⟨by first | rfl | (simp; done) | (simp [*]; done), dQ⟩
    ·rw [if_neg c4] at H
     have c4b0 := decide_eq_false c4
     clear c4
     obtain rfl := Option.some.inj H
     go_wp2
     repeat (go_quiet (fail); try go_wp2)
     go_ret
     exact ⟨by first | rfl | (simp; done) | (simp [*]; done), dQ⟩
 ·rw [if_neg c3] at H
  have c3b0 : ((l0.length : Int) == (l1.length : Int)) = false := beq_eq_false_iff_ne.mpr c3
  have c3b1 : ((l0.length : Int) != (l1.length : Int)) = true := bne_iff_ne.mpr c3
  have c3b2 : (l0.length == l1.length) = false := by first | simpa using c3 | (simp at c3 ⊢; omega)
  obtain rfl := Option.some.inj H
  go_enter Tryz.func14, Tryz.ntmps14
  go_wp2
  repeat (go_quiet (fail); try go_wp2)
  go_ret
  exact ⟨by first | rfl | (simp; done) | (simp [*]; done), dQ⟩
end Go.Proofs.YtjmmleofnjcjoaaGreatDoor.Du
