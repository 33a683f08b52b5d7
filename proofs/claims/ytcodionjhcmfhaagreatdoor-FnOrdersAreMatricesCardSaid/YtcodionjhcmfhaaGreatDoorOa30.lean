-- Written by hook.py (wip/), over the kit's print.py.
import Derived.Test.YtcodionjhcmfhaaGreatDoorOa2
import Derived.Test.YtcodionjhcmfhaaGreatDoorOa5
import Derived.Test.YtcodionjhcmfhaaGreatDoorOa29
import Derived.Test.YtcodionjhcmfhaaGreatDoorOaXSq
namespace Go.Proofs.YtcodionjhcmfhaaGreatDoor.Oa
open Go.RowKit Go.Proofs.YtcodionjhcmfhaaGreatDoorW.PrintWords Go.Proofs.YtcodionjhcmfhaaGreatDoorW.PrintLast Go.Proofs.YtcodionjhcmfhaaGreatDoorW.PrintMore Go.Proofs.YtcodionjhcmfhaaGreatDoor.Sq
attribute [local go_sem] max2_int min2_int max_two min_two max_three min_three max_four min_four
set_option linter.unusedVariables false
set_option linter.unusedSimpArgs false
mutual
def Y3.l0 : Nat → List (S70) → Int → List Int → List (S70) → Int → Int → Option ((List (S70)))
 | 0, _, _, _, _, _, _ => none
 | k + 1, x0, x1, x5, x16, x17, x18 => if x18 < x17 then (if 0 ≤ x18 then (if x18 < (x16.length : Int) then (if x5.length < 17592186044416 then (Y3.l0 k x0 x1 (x5 ++ [(rd_T70 x16 x18).f0]) x16 x17 (wrap64 (x18 + 1))) else (none)) else (none)) else (none)) else ((Y2.f x5).bind fun t552 => (if (t552.length : Int) = 0 then (some (([(⟨0, 0⟩ : S70)] : List (S70)))) else (Y3.l1 k x0 x1 (t552.length : Int) (t552.length : Int) x0 (x0.length : Int) 0)))
def Y3.l1 : Nat → List (S70) → Int → Int → Int → List (S70) → Int → Int → Option ((List (S70)))
 | 0, _, _, _, _, _, _, _ => none
 | k + 1, x0, x1, x6, x9, x36, x37, x38 => if x38 < x37 then (if 0 ≤ x38 then (if x38 < (x36.length : Int) then (if ((rd_T70 x36 x38).f1) = (wrap64 (x9 - 1)) then (Y3.l1 k x0 x1 (mn x6 ((rd_T70 x36 x38).f0)) x9 x36 x37 (wrap64 (x38 + 1))) else (Y3.l1 k x0 x1 x6 x9 x36 x37 (wrap64 (x38 + 1)))) else (none)) else (none)) else ((Y57.f x0).bind fun t560 => (if x1 ≤ x6 then (if t560.length < 8796093022208 then (some (t560 ++ [(⟨x1, wrap64 (x9 - 1)⟩ : S70)])) else (none)) else (Y3.l2 k x1 x9 t560 x0 (x0.length : Int) 0)))
def Y3.l2 : Nat → Int → Int → List (S70) → List (S70) → Int → Int → Option ((List (S70)))
 | 0, _, _, _, _, _, _ => none
 | k + 1, x1, x9, x12, x64, x65, x66 => if x66 < x65 then (if 0 ≤ x66 then (if x66 < (x64.length : Int) then (if ((rd_T70 x64 x66).f1) < x1 then (if ((rd_T70 x64 x66).f0) ≥ x1 then (if x66 < (x12.length : Int) then (Y3.l2 k x1 x9 (x12.set (x66 : Int).toNat (⟨wrap64 (((rd_T70 x12 x66).f0) + 1), (rd_T70 x12 x66).f1⟩ : S70)) x64 x65 (wrap64 (x66 + 1))) else (none)) else (Y3.l2 k x1 x9 x12 x64 x65 (wrap64 (x66 + 1)))) else (if ((rd_T70 x64 x66).f1) = (wrap64 (x9 - 1)) then (Y3.j3 k x1 x9 x12 x66 x64 x65 x66 (decide (((rd_T70 x64 x66).f0) < x1)) ((rd_T70 x64 x66).f0) ((rd_T70 x64 x66).f1)) else (Y3.j3 k x1 x9 x12 x66 x64 x65 x66 false ((rd_T70 x64 x66).f0) ((rd_T70 x64 x66).f1)))) else (none)) else (none)) else (if x12.length < 8796093022208 then (some (x12 ++ [(⟨x1, x9⟩ : S70)])) else (none))
def Y3.j3 : Nat → Int → Int → List (S70) → Int → List (S70) → Int → Int → Bool → Int → Int → Option ((List (S70)))
 | 0, _, _, _, _, _, _, _, _, _, _ => none
 | k + 1, x1, x9, x12, x13, x64, x65, x66, x84, x571000, x571001 => if x84 = true then (if 0 ≤ x13 then (if x13 < (x12.length : Int) then ((some (x12.set (x13 : Int).toNat (⟨(rd_T70 x12 x13).f0, x1⟩ : S70) : List (S70))).bind fun y573 => (if x571000 ≥ x1 then (Y3.l2 k x1 x9 (y573.set (x13 : Int).toNat (⟨wrap64 (((rd_T70 y573 x13).f0) + 1), (rd_T70 y573 x13).f1⟩ : S70)) x64 x65 (wrap64 (x66 + 1))) else (Y3.l2 k x1 x9 y573 x64 x65 (wrap64 (x66 + 1))))) else (none)) else (none)) else (if 0 ≤ x13 then (if x13 < (x12.length : Int) then ((some (x12.set (x13 : Int).toNat (⟨(rd_T70 x12 x13).f0, wrap64 (((rd_T70 x12 x13).f1) + 1)⟩ : S70) : List (S70))).bind fun y577 => (if x571000 ≥ x1 then (Y3.l2 k x1 x9 (y577.set (x13 : Int).toNat (⟨wrap64 (((rd_T70 y577 x13).f0) + 1), (rd_T70 y577 x13).f1⟩ : S70)) x64 x65 (wrap64 (x66 + 1))) else (Y3.l2 k x1 x9 y577 x64 x65 (wrap64 (x66 + 1))))) else (none)) else (none))
end
def Y3.f (k : Nat) (l0 : List (S70)) (a1 : Int) : Option ((List (S70))) := Y3.l0 k l0 a1 (([] : List Int)) l0 (l0.length : Int) 0
set_option maxHeartbeats 8000000 in
set_option maxRecDepth 100000 in
theorem Y3.calls (k : Nat) (A0 : Option Addr) (c0 : Nat) (l0 : List (S70)) (a1 : Int) (r : List (S70)) (w : World) (hr0 : Kd.C k70 w A0 l0.length l0) (hc0 : l0.length ≤ c0) (h : Y3.f k l0 a1 = some r) :
  Calls Tryz.prog 91 #[.slice A0 l0.length c0, .int .i64 a1] w fun e w' => ∃ v0_ : Value, e = .returned (v0_) ∧ Kd.R k70 70 w' w.heap.size (fun _ => True) v0_ r ∧ Below w.heap.size w w' := by
 have hu70 := Tryz.underlying70
 have HR0 := aM hr0
 have HC0 := aM hc0
 clear hr0 hc0
 have HB := aM (Below.refl w.heap.size w)
 have H : (Y3.l0 k l0 a1 (([] : List Int)) l0 (l0.length : Int) 0) = some r := h
 clear h
 obtain ⟨y544, hy544⟩ := nE ((([] : List Int)) : List Int)
 try rw [← hy544] at H
 try with_reducible replace H := (Option.bind_some _ _).symm.trans H
 try dsimp only at H
 have Ny544 := aM hy544
 clear hy544
 have H' := aM H
 clear H
 go_enter Tryz.func91, Tryz.ntmps91
 go_wp2_with (first | ((with_reducible refine gate_dst (N := 15) rfl ?_); refine Kd.R_lit (Kd.int .i64) _ 3 ?hg (N := 15) ?hd (xs := ([] : List Int)) (inner := []) (ok := fun _ => True) (okp := fun _ => True) ?hr ?hp (fun _ hk => hk) trivial (Below.refl _ _) (Nat.le_refl _) (by simp) ?_; (case hd => rfl); (case hg => rfl); (case hr => first | (go_simp; done) | (go_simp; rfl)); (case hp => exact (Reps.none _ _)); intro v545 w3 ho4 hb hg_ hnew_; clear hg_ hnew_; (first | rw [← Ny544.out] at ho4 | (simp only [Int.reduceToNat] at ho4; rw [← Ny544.out] at ho4)); have _ := aM (Kd.R_lower ho4 (below_size bq)); have _ := bB hb; clear HB; rename_i HO546 HB; clear hb ho4))
 go_loopg [5, 18] k (fun kq v5 v18 w' => ∃ (x5_1 : List Int) (x18_1 : Int), v18 = .int .i64 x18_1 ∧ Aside0 (Y3.l0 kq l0 a1 x5_1 l0 (l0.length : Int) x18_1 = some r) ∧ Aside0 (kq ≤ k) ∧ Aside0 (Kd.R (Kd.int .i64) 3 w' w.heap.size (fun _ => True) v5 x5_1) ∧ Aside0 (Below w.heap.size w w'))
 case atStart => exact ⟨(y544), (0), eR, H', ⟨Nat.le_refl _⟩, ⟨rQ HO546⟩, ⟨bq⟩⟩
 case round =>
  clear H'
  obtain ⟨x5_1, x18_1, rfl, HA, HK1, HO_5, HB⟩ := hrel
  cases gk with
  | zero => exact absurd HA.out (by simp [Y3.l0])
  | succ k1 =>
   have H := HA.out
   clear HA
   simp only [Y3.l0] at H
   by_cases c5 : x18_1 < (l0.length : Int)
   ·rw [if_pos c5] at H
    have c5b0 := decide_eq_true c5
    clear c5
    replace H := iD2 H
    obtain ⟨c6b0, c7b0, H⟩ := H
    replace H := iS H
    obtain ⟨c8, H⟩ := H
    have LMc8 := aM c8
    clear c8
    obtain ⟨y549, hy549⟩ := nE ((x5_1 ++ [(rd_T70 l0 x18_1).f0]) : List Int)
    try rw [← hy549] at H
    try with_reducible replace H := (Option.bind_some _ _).symm.trans H
    try dsimp only at H
    have Ny549 := aM hy549
    clear hy549
    have H' := aM H
    clear H
    have p547 : 0 ≤ (x18_1 : Int) := odt
    have q547 : x18_1 < (l0.length : Int) := odt
    obtain ⟨ad547, e547, hx547_0, hx547_1⟩ := at_T70 HR0.out x18_1 p547 q547
    cases e547
    replace hx547_0 := (HB.out.cell (World.block_lt_of_cell? w _ hx547_0)).trans hx547_0
    replace hx547_1 := (HB.out.cell (World.block_lt_of_cell? w _ hx547_1)).trans hx547_1
    replace p547 := eq_true p547
    replace q547 := eq_true q547
    go_wp2_with (first | ((with_reducible refine gate_dst (N := 8) rfl ?_); refine bE 8 70 #[.int .i64 0, .int .i64 0] ?_; intro gb548 hg w9 hbox hb; have _ := aM (Kd.R_below (rQ HO_5) hb); have _ := bB hb; have _ := aM (hbox); have _ := aM ((gS hg)); have _ := aM ((gS hg)); clear HO_5 HB; rename_i HO_5 HB BK548 GW548 GE548; clear hb hbox hg; have hcz10_0 := zc20 BK548; have hcz10_1 := zc21 BK548; have hfz10_0 := blk_frozen BK548.out 0; have hfz10_1 := blk_frozen BK548.out 1) | ((with_reducible refine gate_builtin (b := .append) (xs := #[.tmp 22, .tmp 25]) rfl ?_); at_builtin; refine Kd.R_append (Kd.int .i64) (w0 := w) w.heap.size rfl (.tmp 22) (.tmp 25) 24 3 (.int .i64 0) 8 rfl Tryz.underlying24 info3 rfl (by decide) (by omega) u5 x5_1 ((rd_T70 l0 x18_1).f0) [.int .i64 ((rd_T70 l0 x18_1).f0)] (fun _ => True) (fun _ => False) rfl (by first | (go_simp; done) | (go_simp; rfl)) ?aP (fun _ hk => hk.elim) ?aF ?aO ?aB ?aS ?aL ?_; (case aP => exact rfl); (case aB => exact bq); (case aF => exact (fun _ _ => trivial)); (case aO => exact (by (with_reducible repeat first|apply rA|apply rN|apply rD); exact Kd.R_mono (Kd.R_far (p := ⟨gb548, 1, none⟩) (Kd.R_far (p := ⟨gb548, 0, none⟩) (Kd.R_types HO_5.out BK548.out (by decide)) (fun _ hk => hk.2) (.int .i64 ((rd_T70 l0 x18_1).f0))) (fun _ hk => hk.2) (.int .i64 ((rd_T70 l0 x18_1).f1))) (fun _ hk => trivial))); (case aS => exact (below_size bq)); (case aL => have := LMc8.out; omega); intro v550 w11 ho hb hg hat; rw [← Ny549.out] at ho; have _ := aM (blk_grown (g := gb548) (o := .cells #[.int .i64 ((rd_T70 l0 x18_1).f0), .int .i64 ((rd_T70 l0 x18_1).f1)] 70 (0, 0)) (by (with_reducible repeat first|apply qN|apply qD|apply qA); refine blk_put (cs := #[.int .i64 ((rd_T70 l0 x18_1).f0), .int .i64 0]) ?_ 1 _ rfl; (with_reducible repeat first|apply qN|apply qD|apply qA); refine blk_put (cs := #[.int .i64 0, .int .i64 0]) ?_ 0 _ rfl; (with_reducible repeat first|apply qN|apply qD|apply qA); exact BK548.out) hg (Kd.R_ne HO_5.out BK548.out (by decide))); have _ := aM (hb); have _ := aM (ho); clear BK548 HB HO_5; rename_i BK548 HB HO551; clear ho hb hg hat))
    go_roundg k1
    case measure => have := HK1.out; omega
    case rel => exact ⟨(y549), (wrap64 (x18_1 + 1)), eR, H', ⟨by have := HK1.out; omega⟩, ⟨rQ HO551⟩, ⟨bq⟩⟩
   ·rw [if_neg c5] at H
    have c5b0 := decide_eq_false c5
    clear c5
    replace H := bS H
    obtain ⟨t552, A12, H⟩ := H
    try dsimp only at H
    by_cases c13 : (t552.length : Int) = 0
    ·rw [if_pos c13] at H
     have c13b0 : ((t552.length : Int) == 0) = true := beq_iff_eq.mpr c13
     have c13b1 : ((t552.length : Int) != 0) = false := bne_eq_false_iff_eq.mpr c13
     clear c13
     obtain ⟨y555, hy555⟩ := nE ((([(⟨0, 0⟩ : S70)] : List (S70))) : List (S70))
     try rw [← hy555] at H
     try with_reducible replace H := (Option.bind_some _ _).symm.trans H
     try dsimp only at H
     have Ny555 := aM hy555
     clear hy555
     obtain rfl := Option.some.inj H
     obtain ⟨Ao14, co14, eo14⟩ := Kd.R_slice HO_5.out
     subst eo14
     go_wp2_with (first | ((with_reducible refine gate_callee (f := 105) rfl ?_); refine gL (some 29) Tryz.func105 #[.slice Ao14 x5_1.length co14] ?_; (with_reducible refine (Y2.calls _ _ x5_1 t552 _ (cQ ((Kd.R_reads' HO_5.out).2.2)) ((Kd.R_reads' HO_5.out).2.1) A12.out).mono ?_); rintro e w15 ⟨v553, rfl, ho0, hb⟩; refine ⟨_, rfl, ?_⟩; have _ := aM (Kd.R_elder' (rQ HO_5) (Kd.R_base ho0) hb); have _ := aM (Kd.R_lower (Kd.R_new' ho0 (Kd.R_lt (rQ HO_5))) (below_size bq)); have _ := bB hb; clear HO_5 HB; rename_i HO_5 HO554 HB; (try clear hb); (try clear ho0); obtain ⟨Ao16, co16, eo16⟩ := Kd.R_slice HO554.out; subst eo16) | ((with_reducible refine gate_dst (N := 34) rfl ?_); refine Kd.R_lit k70 _ 70 ?hg (N := 34) ?hd (xs := ([(⟨0, 0⟩ : S70)] : List (S70))) (inner := [.int .i64 0, .int .i64 0]) (ok := fun _ => True) (okp := fun _ => True) ?hr ?hp (fun _ hk => hk) trivial (Below.refl _ _) (Nat.le_refl _) (by simp) ?_; (case hd => rfl); (case hg => rfl); (case hr => first | (go_simp; done) | (go_simp; rfl)); (case hp => exact (Reps.c2 (show Kd.M k70 _ _ _ (⟨0, 0⟩ : S70) [.int .i64 0, .int .i64 0] from (k70_mkM _ _ _ (⟨0, 0⟩ : S70) )) (Reps.none _ _))); intro v556 w17 ho18 hb hg_ hnew_; clear hg_ hnew_; (first | rw [← Ny555.out] at ho18 | (simp only [Int.reduceToNat] at ho18; rw [← Ny555.out] at ho18)); have _ := aM (Kd.R_below (rQ HO_5) hb); have _ := aM (Kd.R_below (rQ HO554) hb); have _ := aM (Kd.R_lower ho18 (below_size bq)); have _ := bB hb; clear HO_5 HO554 HB; rename_i HO_5 HO554 HO557 HB; clear hb ho18))
     go_ret
     exact ⟨_, eE, rQ HO557, bq⟩
    ·rw [if_neg c13] at H
     have c13b0 : ((t552.length : Int) == 0) = false := beq_eq_false_iff_ne.mpr c13
     have c13b1 : ((t552.length : Int) != 0) = true := bne_iff_ne.mpr c13
     have c13b2 : ¬ (t552 = []) := fun h_ => c13 (by rw [h_]; rfl)
     have H' := aM H
     clear H
     obtain ⟨Ao19, co19, eo19⟩ := Kd.R_slice HO_5.out
     subst eo19
     go_wp2_with (first | ((with_reducible refine gate_callee (f := 105) rfl ?_); refine gL (some 29) Tryz.func105 #[.slice Ao19 x5_1.length co19] ?_; (with_reducible refine (Y2.calls _ _ x5_1 t552 _ (cQ ((Kd.R_reads' HO_5.out).2.2)) ((Kd.R_reads' HO_5.out).2.1) A12.out).mono ?_); rintro e w20 ⟨v553, rfl, ho0, hb⟩; refine ⟨_, rfl, ?_⟩; have _ := aM (Kd.R_elder' (rQ HO_5) (Kd.R_base ho0) hb); have _ := aM (Kd.R_lower (Kd.R_new' ho0 (Kd.R_lt (rQ HO_5))) (below_size bq)); have _ := bB hb; clear HO_5 HB; rename_i HO_5 HO554 HB; (try clear hb); (try clear ho0); obtain ⟨Ao21, co21, eo21⟩ := Kd.R_slice HO554.out; subst eo21))
     go_loopg [6, 38] k1 (fun kq v6 v38 w' => ∃ (x6_2 : Int) (x38_2 : Int), v6 = .int .i64 x6_2 ∧ v38 = .int .i64 x38_2 ∧ Aside0 (Y3.l1 kq l0 a1 x6_2 (t552.length : Int) l0 (l0.length : Int) x38_2 = some r) ∧ Aside0 (kq ≤ k1) ∧ Aside0 (Below w.heap.size w w'))
     case atStart => exact ⟨((t552.length : Int)), (0), eR, eR, H', ⟨Nat.le_refl _⟩, ⟨bq⟩⟩
     case round =>
      clear H'
      try clear c2
      try clear c5
      try clear c5b0
      try clear c6b0
      try clear c7b0
      try clear c8
      try clear c13
      try clear c13b0
      try clear c13b1
      try clear c13b2
      try clear hcz10_0
      try clear hcz10_1
      try clear hfz10_0
      try clear hfz10_1
      try clear hx547_0
      try clear hx547_1
      try clear p547
      try clear q547
      obtain ⟨x6_2, x38_2, rfl, rfl, HA, HK2, HB⟩ := hrel
      cases gk with
      | zero => exact absurd HA.out (by simp [Y3.l1])
      | succ k2 =>
       have H := HA.out
       clear HA
       simp only [Y3.l1] at H
       by_cases c22 : x38_2 < (l0.length : Int)
       ·rw [if_pos c22] at H
        have c22b0 := decide_eq_true c22
        clear c22
        replace H := iD2 H
        obtain ⟨c23b0, c24b0, H⟩ := H
        by_cases c25 : ((rd_T70 l0 x38_2).f1) = (wrap64 ((t552.length : Int) - 1))
        ·rw [if_pos c25] at H
         have c25b0 : (((rd_T70 l0 x38_2).f1) == (wrap64 ((t552.length : Int) - 1))) = true := beq_iff_eq.mpr c25
         have c25b1 : (((rd_T70 l0 x38_2).f1) != (wrap64 ((t552.length : Int) - 1))) = false := bne_eq_false_iff_eq.mpr c25
         clear c25
         obtain ⟨ji26, hji26⟩ : ∃ j_ : Int, (mn x6_2 ((rd_T70 l0 x38_2).f0)) = j_ := ⟨_, rfl⟩
         replace H : (Y3.l1 k2 l0 a1 ji26 (t552.length : Int) l0 (l0.length : Int) (wrap64 (x38_2 + 1))) = some r := by first | (rw [hji26] at H; exact H) | (simp only [hji26] at H ⊢; exact H)
         have hji26_ : (if ((rd_T70 l0 x38_2).f0) < x6_2 then ((rd_T70 l0 x38_2).f0) else x6_2) = ji26 := hji26
         have H' := aM H
         clear H
         have p558 : 0 ≤ (x38_2 : Int) := odt
         have q558 : x38_2 < (l0.length : Int) := odt
         obtain ⟨ad558, e558, hx558_0, hx558_1⟩ := at_T70 HR0.out x38_2 p558 q558
         cases e558
         replace hx558_0 := (HB.out.cell (World.block_lt_of_cell? w _ hx558_0)).trans hx558_0
         replace hx558_1 := (HB.out.cell (World.block_lt_of_cell? w _ hx558_1)).trans hx558_1
         replace p558 := eq_true p558
         replace q558 := eq_true q558
         go_wp2_with (first | ((with_reducible refine gate_dst (N := 11) rfl ?_); refine bF 11 70 #[.int .i64 0, .int .i64 0] bq ?_; intro gb559 w27 hg hb _ _ _ _; clear HB; rename_i HB BK559 GW559 GE559; clear hb hg; have hcz28_0 := zc20 BK559; have hcz28_1 := zc21 BK559; have hfz28_0 := blk_frozen BK559.out 0; have hfz28_1 := blk_frozen BK559.out 1))
         go_roundg k2
         case measure => have := HK1.out; have := HK2.out; omega
         case rel => exact ⟨(ji26), (wrap64 (x38_2 + 1)), (by first | rfl | (simp; done) | (simp only [← hji26] <;> (first | rfl | simp)) | (simp [*]; done)), eR, H', ⟨by have := HK1.out; have := HK2.out; omega⟩, ⟨bq⟩⟩
        ·rw [if_neg c25] at H
         have c25b0 : (((rd_T70 l0 x38_2).f1) == (wrap64 ((t552.length : Int) - 1))) = false := beq_eq_false_iff_ne.mpr c25
         have c25b1 : (((rd_T70 l0 x38_2).f1) != (wrap64 ((t552.length : Int) - 1))) = true := bne_iff_ne.mpr c25
         have H' := aM H
         clear H
         have p558 : 0 ≤ (x38_2 : Int) := odt
         have q558 : x38_2 < (l0.length : Int) := odt
         obtain ⟨ad558, e558, hx558_0, hx558_1⟩ := at_T70 HR0.out x38_2 p558 q558
         cases e558
         replace hx558_0 := (HB.out.cell (World.block_lt_of_cell? w _ hx558_0)).trans hx558_0
         replace hx558_1 := (HB.out.cell (World.block_lt_of_cell? w _ hx558_1)).trans hx558_1
         replace p558 := eq_true p558
         replace q558 := eq_true q558
         go_wp2_with (first | ((with_reducible refine gate_dst (N := 11) rfl ?_); refine bF 11 70 #[.int .i64 0, .int .i64 0] bq ?_; intro gb559 w29 hg hb _ _ _ _; clear HB; rename_i HB BK559 GW559 GE559; clear hb hg; have hcz30_0 := zc20 BK559; have hcz30_1 := zc21 BK559; have hfz30_0 := blk_frozen BK559.out 0; have hfz30_1 := blk_frozen BK559.out 1))
         go_roundg k2
         case measure => have := HK1.out; have := HK2.out; omega
         case rel => exact ⟨(x6_2), (wrap64 (x38_2 + 1)), eR, eR, H', ⟨by have := HK1.out; have := HK2.out; omega⟩, ⟨bq⟩⟩
       ·rw [if_neg c22] at H
        have c22b0 := decide_eq_false c22
        clear c22
        replace H := bS H
        obtain ⟨t560, A31, H⟩ := H
        try dsimp only at H
        by_cases c32 : a1 ≤ x6_2
        ·rw [if_pos c32] at H
         have c32b0 := decide_eq_true c32
         clear c32
         replace H := iS H
         obtain ⟨c33, H⟩ := H
         have LMc33 := aM c33
         clear c33
         obtain ⟨y563, hy563⟩ := nE ((t560 ++ [(⟨a1, wrap64 ((t552.length : Int) - 1)⟩ : S70)]) : List (S70))
         try rw [← hy563] at H
         try with_reducible replace H := (Option.bind_some _ _).symm.trans H
         try dsimp only at H
         have Ny563 := aM hy563
         clear hy563
         obtain rfl := Option.some.inj H
         go_wp2_with (first | ((with_reducible refine gate_callee (f := 120) rfl ?_); refine gL (some 53) Tryz.func120 #[.slice A0 l0.length c0] ?_; (with_reducible refine (Y57.calls _ _ l0 t560 _ (cQ (Kd.C_below HR0.out HB.out)) HC0.out A31.out).mono ?_); rintro e w34 ⟨v561, rfl, ho0, hb⟩; refine ⟨_, rfl, ?_⟩; have _ := aM (Kd.R_lower ho0 (below_size bq)); have _ := bB hb; clear HB; rename_i HO562 HB; (try clear hb); (try clear ho0)) | ((with_reducible refine gate_builtin (b := .append) (xs := #[.tmp 57, .tmp 62]) rfl ?_); at_builtin; refine Kd.R_append k70 (w0 := w) w.heap.size rfl (.tmp 57) (.tmp 62) 68 70 (.agg #[(.int .i64 0), (.int .i64 0)]) 16 rfl Tryz.underlying68 info70 rfl (by decide) (by omega) v561 t560 (⟨a1, wrap64 ((t552.length : Int) - 1)⟩ : S70) [.int .i64 a1, .int .i64 (wrap64 ((t552.length : Int) - 1))] (fun _ => True) (fun _ => False) rfl rfl ?aP (fun _ hk => hk.elim) ?aF ?aO ?aB ?aS ?aL ?_; (case aP => exact k70_mkM _ _ _ (⟨a1, wrap64 ((t552.length : Int) - 1)⟩ : S70)); (case aB => exact bq); (case aF => exact (fun _ _ => trivial)); (case aO => exact (rQ HO562)); (case aS => exact (below_size bq)); (case aL => have := LMc33.out; omega); intro v564 w35 ho hb hg hat; rw [← Ny563.out] at ho; have _ := aM (hb); have _ := aM (ho); clear HB HO562; rename_i HB HO565; clear ho hb hg hat))
         go_ret
         exact ⟨_, eE, rQ HO565, bq⟩
        ·rw [if_neg c32] at H
         have c32b0 := decide_eq_false c32
         clear c32
         have H' := aM H
         clear H
         go_wp2_with (first | ((with_reducible refine gate_callee (f := 120) rfl ?_); refine gL (some 53) Tryz.func120 #[.slice A0 l0.length c0] ?_; (with_reducible refine (Y57.calls _ _ l0 t560 _ (cQ (Kd.C_below HR0.out HB.out)) HC0.out A31.out).mono ?_); rintro e w36 ⟨v561, rfl, ho0, hb⟩; refine ⟨_, rfl, ?_⟩; have _ := aM (Kd.R_lower ho0 (below_size bq)); have _ := bB hb; clear HB; rename_i HO562 HB; (try clear hb); (try clear ho0)))
         go_loopg [66] k2 (fun kq v66 w' => ∃ (x12_3 : List (S70)) (x66_3 : Int), v66 = .int .i64 x66_3 ∧ Aside0 (Y3.l2 kq a1 (t552.length : Int) x12_3 l0 (l0.length : Int) x66_3 = some r) ∧ Aside0 (kq ≤ k2) ∧ Aside0 (Kd.R k70 70 w' w.heap.size (fun _ => True) v561 x12_3) ∧ Aside0 (Below w.heap.size w w'))
         case atStart => exact ⟨(t560), (0), eR, H', ⟨Nat.le_refl _⟩, ⟨rQ HO562⟩, ⟨bq⟩⟩
         case round =>
          clear H'
          try clear c2
          try clear c5
          try clear c5b0
          try clear c6b0
          try clear c7b0
          try clear c8
          try clear c13
          try clear c13b0
          try clear c13b1
          try clear c13b2
          try clear c22
          try clear c22b0
          try clear c23b0
          try clear c24b0
          try clear c25
          try clear c25b0
          try clear c25b1
          try clear c32
          try clear c32b0
          try clear c33
          try clear hcz10_0
          try clear hcz10_1
          try clear hcz28_0
          try clear hcz28_1
          try clear hcz30_0
          try clear hcz30_1
          try clear hfz10_0
          try clear hfz10_1
          try clear hfz28_0
          try clear hfz28_1
          try clear hfz30_0
          try clear hfz30_1
          try clear hx547_0
          try clear hx547_1
          try clear hx558_0
          try clear hx558_1
          try clear p547
          try clear p558
          try clear q547
          try clear q558
          obtain ⟨x12_3, x66_3, rfl, HA, HK3, HO_12, HB⟩ := hrel
          cases gk with
          | zero => exact absurd HA.out (by simp [Y3.l2])
          | succ k3 =>
           have H := HA.out
           clear HA
           simp only [Y3.l2] at H
           by_cases c37 : x66_3 < (l0.length : Int)
           ·rw [if_pos c37] at H
            have c37b0 := decide_eq_true c37
            clear c37
            replace H := iD2 H
            obtain ⟨c38b0, c39b0, H⟩ := H
            by_cases c40 : ((rd_T70 l0 x66_3).f1) < a1
            ·rw [if_pos c40] at H
             have c40b0 := decide_eq_true c40
             clear c40
             by_cases c41 : ((rd_T70 l0 x66_3).f0) ≥ a1
             ·rw [if_pos c41] at H
              have c41b0 := decide_eq_true c41
              clear c41
              replace H := iD H
              obtain ⟨c42b0, H⟩ := H
              obtain ⟨y572, hy572⟩ := nE ((x12_3.set (x66_3 : Int).toNat (⟨wrap64 (((rd_T70 x12_3 x66_3).f0) + 1), (rd_T70 x12_3 x66_3).f1⟩ : S70)) : List (S70))
              try rw [← hy572] at H
              try with_reducible replace H := (Option.bind_some _ _).symm.trans H
              try dsimp only at H
              have Ny572 := aM hy572
              clear hy572
              have H' := aM H
              clear H
              have p569 : 0 ≤ (x66_3 : Int) := odt
              have q569 : x66_3 < (l0.length : Int) := odt
              obtain ⟨ad569, e569, hx569_0, hx569_1⟩ := at_T70 HR0.out x66_3 p569 q569
              cases e569
              replace hx569_0 := (HB.out.cell (World.block_lt_of_cell? w _ hx569_0)).trans hx569_0
              replace hx569_1 := (HB.out.cell (World.block_lt_of_cell? w _ hx569_1)).trans hx569_1
              replace p569 := eq_true p569
              replace q569 := eq_true q569
              go_wp2_with (first | ((with_reducible refine gate_dst (N := 14) rfl ?_); refine bE 14 70 #[.int .i64 0, .int .i64 0] ?_; intro gb570 hg w44 hbox hb; have _ := aM (Kd.R_below (Kd.R_elderB (rQ HO_12) gb570 (Nat.le_of_eq hg.symm)) hb); have _ := bB hb; have _ := aM (hbox); have _ := aM ((gS hg)); have _ := aM ((gS hg)); clear HO_12 HB; rename_i HO_12 HB BK570 GW570 GE570; clear hb hbox hg; have hcz45_0 := zc20 BK570; have hcz45_1 := zc21 BK570; have hfz45_0 := blk_frozen BK570.out 0; have hfz45_1 := blk_frozen BK570.out 1) | ((with_reducible refine gate_store (t := 70) (p := 14) rfl ?_); refine sE ((w44.setCell ⟨gb570, 0, none⟩ (.int .i64 ((rd_T70 l0 x66_3).f0))).setCell ⟨gb570, 1, none⟩ (.int .i64 ((rd_T70 l0 x66_3).f1))) 70 14 ?_; intro w46 hw; have _ : Aside0 (Kd.R k70 70 w46 w.heap.size (fun k_ => k_ ≠ gb570) v561 x12_3) := ⟨(by rw [hw]; exact (by (with_reducible repeat first|apply rA|apply rN|apply rD); exact Kd.R_mono (Kd.R_far (p := ⟨gb570, 1, none⟩) (Kd.R_far (p := ⟨gb570, 0, none⟩) (Kd.R_mono HO_12.out (fun k_ hk => (⟨hk, hk.2⟩ : _ ∧ k_ ≠ gb570))) (fun _ hk => hk.2) (.int .i64 ((rd_T70 l0 x66_3).f0))) (fun _ hk => hk.2) (.int .i64 ((rd_T70 l0 x66_3).f1))) (fun _ hk => hk.1.2)))⟩; have _ : Aside0 (w46.heap[gb570]? = some (.cells #[.int .i64 ((rd_T70 l0 x66_3).f0), .int .i64 ((rd_T70 l0 x66_3).f1)] 70 (0, 0))) := ⟨(by rw [hw]; exact (by (with_reducible repeat first|apply qN|apply qD|apply qA); refine blk_put (cs := #[.int .i64 ((rd_T70 l0 x66_3).f0), .int .i64 0]) ?_ 1 _ rfl; (with_reducible repeat first|apply qN|apply qD|apply qA); refine blk_put (cs := #[.int .i64 0, .int .i64 0]) ?_ 0 _ rfl; (with_reducible repeat first|apply qN|apply qD|apply qA); exact BK570.out))⟩; have _ : Aside0 (Below w.heap.size w w46) := ⟨(by rw [hw]; exact bq)⟩; clear hw HO_12 BK570 HB; rename_i HO_12 BK570 HB; have hcz47_0 := zc20 BK570; have hcz47_1 := zc21 BK570; have hfz47_0 := blk_frozen BK570.out 0; have hfz47_1 := blk_frozen BK570.out 1; obtain ⟨Ao48, co48, eo48⟩ := Kd.R_slice HO_12.out; subst eo48; have p571 : 0 ≤ (x66_3 : Int) := odt; have q571 : x66_3 < (x12_3.length : Int) := odt; obtain ⟨ad571, e571, hx571_0, hx571_1⟩ := at_T70 (Kd.R_reads' HO_12.out).2.2 x66_3 p571 q571; cases e571; replace p571 := eq_true p571; replace q571 := eq_true q571; have p43 : 0 ≤ (x66_3 : Int) := odt; have q43 : (x66_3 : Int) < ((x12_3.length : Int) : Int) := odt; obtain ⟨go43, co43, eo43, gb43, gl43, cl43, HG43⟩ := Kd.R_form HO_12.out (by omega); (first | cases eo43 | (injection eo43 with ea_ en_ ec_; (first | subst ea_ | (injection ea_ with ea_; subst ea_)); subst ec_; clear en_)); have GB43 := aM gb43; have GG43 := aM HG43; clear gb43 gl43 HG43; (first | simp only [add_plain] at hx571_0 | skip); (first | simp only [add_plain] at hx571_1 | skip); obtain ⟨ce43, hcl43, hM43, hcc43, hfr43⟩ := Kd.R_elem HO_12.out z70 (x66_3 : Int) p43 q43; obtain rfl := k70_openM hM43; have hx43_0 : w46.cell? ⟨go43, (x66_3 : Int).toNat * 2, none⟩ = some (.int .i64 ((rd_T70 x12_3 x66_3).f0)) := hcc43 0 _ rfl; have hx43_1 : w46.cell? ⟨go43, (x66_3 : Int).toNat * 2 + 1, none⟩ = some (.int .i64 ((rd_T70 x12_3 x66_3).f1)) := hcc43 1 _ rfl; have hf43_0 : w46.frozen? ⟨go43, (x66_3 : Int).toNat * 2, none⟩ = false := hfr43 0; have hf43_1 : w46.frozen? ⟨go43, (x66_3 : Int).toNat * 2 + 1, none⟩ = false := hfr43 1; clear hcl43 hcc43 hfr43 hM43; replace p43 := eq_true p43; replace q43 := eq_true q43; have HX49 := aM (show Kd.R k70 70 w46 w.heap.size (fun k_ => k_ ≠ gb570) (.slice (some ⟨go43, 0, none⟩) x12_3.length co48) x12_3 from (rQ HO_12)); obtain ⟨ce49, hcl49, hM49, hcc49, hfr49⟩ := Kd.R_elem HX49.out z70 (x66_3 : Int) (odt) (by have h_ : (x66_3 : Int) < ((x12_3.length : Int) : Int) := odt; first | exact h_ | (have e_ := (Kd.R_reads' HO_12.out).1; omega) | simpa using h_); obtain rfl := k70_openM hM49; have HP49 := Kd.R_seg HX49.out (x66_3 : Int) (odt) (by have h_ : (x66_3 : Int) < ((x12_3.length : Int) : Int) := odt; first | exact h_ | (have e_ := (Kd.R_reads' HO_12.out).1; omega) | simpa using h_) (seg := [.int .i64 (wrap64 (((rd_T70 x12_3 x66_3).f0) + 1))]) (j := 0) hcl49 hcc49 (show 1 ≤ 2 from by decide) (x' := (⟨wrap64 (((rd_T70 x12_3 x66_3).f0) + 1), (rd_T70 x12_3 x66_3).f1⟩ : S70)) (k70_mkM _ _ _ (⟨wrap64 (((rd_T70 x12_3 x66_3).f0) + 1), (rd_T70 x12_3 x66_3).f1⟩ : S70) ) (fun _ hk => hk); have hx49_0 := hcc49 0 _ rfl; (try simp only [show (k70).sz = 2 from rfl, Nat.mul_one, Nat.add_zero] at hx49_0); have hf49_0 := hfr49 0; (try simp only [show (k70).sz = 2 from rfl, Nat.mul_one, Nat.add_zero] at hf49_0); clear hcl49 hcc49 hfr49 hM49) | ((with_reducible refine gate_store (t := 3) (p := 112) rfl ?_); refine sE (w46.setCell ⟨go43, (x66_3 : Int).toNat * 2, none⟩ (.int .i64 (wrap64 (((rd_T70 x12_3 x66_3).f0) + 1)))) 3 112 ?_; intro w50 hw; have hg : w46.grownBy w50 (some go43) := (by rw [hw]; exact HP49.2); have hp_ : Kd.R k70 70 w50 w.heap.size (fun k_ => k_ ≠ gb570) (.slice (some ⟨go43, 0, none⟩) x12_3.length co48) y572 := (by rw [hw, Ny572.out]; exact HP49.1); clear HP49; have _ := aM (hp_); have _ := aM (blk_grown (g := gb570) (o := .cells #[.int .i64 ((rd_T70 l0 x66_3).f0), .int .i64 ((rd_T70 l0 x66_3).f1)] 70 (0, 0)) (qQ BK570) hg (Kd.R_away HO_12.out (fun _ hk => hk))); have _ := aM ((by rw [hw]; exact below_set (HB.out) GB43.out : Below w.heap.size w w50)); clear HO_12 BK570 HB; rename_i HO_12 BK570 HB; clear hg hw hp_))
              go_roundg k3
              case measure => have := HK1.out; have := HK2.out; have := HK3.out; omega
              case rel => exact ⟨(y572), (wrap64 (x66_3 + 1)), eR, H', ⟨by have := HK1.out; have := HK2.out; have := HK3.out; omega⟩, ⟨by (with_reducible repeat first|apply rA|apply rN|apply rD); exact Kd.R_mono HO_12.out (fun _ hk => trivial)⟩, ⟨bq⟩⟩
             ·rw [if_neg c41] at H
              have c41b0 := decide_eq_false c41
              clear c41
              have H' := aM H
              clear H
              have p569 : 0 ≤ (x66_3 : Int) := odt
              have q569 : x66_3 < (l0.length : Int) := odt
              obtain ⟨ad569, e569, hx569_0, hx569_1⟩ := at_T70 HR0.out x66_3 p569 q569
              cases e569
              replace hx569_0 := (HB.out.cell (World.block_lt_of_cell? w _ hx569_0)).trans hx569_0
              replace hx569_1 := (HB.out.cell (World.block_lt_of_cell? w _ hx569_1)).trans hx569_1
              replace p569 := eq_true p569
              replace q569 := eq_true q569
              go_wp2_with (first | ((with_reducible refine gate_dst (N := 14) rfl ?_); refine bE 14 70 #[.int .i64 0, .int .i64 0] ?_; intro gb570 hg w51 hbox hb; have _ := aM (Kd.R_below (Kd.R_elderB (rQ HO_12) gb570 (Nat.le_of_eq hg.symm)) hb); have _ := bB hb; have _ := aM (hbox); have _ := aM ((gS hg)); have _ := aM ((gS hg)); clear HO_12 HB; rename_i HO_12 HB BK570 GW570 GE570; clear hb hbox hg; have hcz52_0 := zc20 BK570; have hcz52_1 := zc21 BK570; have hfz52_0 := blk_frozen BK570.out 0; have hfz52_1 := blk_frozen BK570.out 1))
              go_roundg k3
              case measure => have := HK1.out; have := HK2.out; have := HK3.out; omega
              case rel => exact ⟨(x12_3), (wrap64 (x66_3 + 1)), eR, H', ⟨by have := HK1.out; have := HK2.out; have := HK3.out; omega⟩, ⟨by (with_reducible repeat first|apply rA|apply rN|apply rD); exact Kd.R_mono (Kd.R_far (p := ⟨gb570, 1, none⟩) (Kd.R_far (p := ⟨gb570, 0, none⟩) (Kd.R_mono HO_12.out (fun k_ hk => (⟨hk, hk.2⟩ : _ ∧ k_ ≠ gb570))) (fun _ hk => hk.2) (.int .i64 ((rd_T70 l0 x66_3).f0))) (fun _ hk => hk.2) (.int .i64 ((rd_T70 l0 x66_3).f1))) (fun _ hk => trivial)⟩, ⟨bq⟩⟩
            ·rw [if_neg c40] at H
             have c40b0 := decide_eq_false c40
             clear c40
             have HC53 := aM H
             clear H
             have p569 : 0 ≤ (x66_3 : Int) := odt
             have q569 : x66_3 < (l0.length : Int) := odt
             obtain ⟨ad569, e569, hx569_0, hx569_1⟩ := at_T70 HR0.out x66_3 p569 q569
             cases e569
             replace hx569_0 := (HB.out.cell (World.block_lt_of_cell? w _ hx569_0)).trans hx569_0
             replace hx569_1 := (HB.out.cell (World.block_lt_of_cell? w _ hx569_1)).trans hx569_1
             replace p569 := eq_true p569
             replace q569 := eq_true q569
             go_upto_region 25 with (first | ((with_reducible refine gate_dst (N := 14) rfl ?_); refine bE 14 70 #[.int .i64 0, .int .i64 0] ?_; intro gb570 hg w54 hbox hb; have _ := aM (Kd.R_below (Kd.R_elderB (rQ HO_12) gb570 (Nat.le_of_eq hg.symm)) hb); have _ := bB hb; have _ := aM (hbox); have _ := aM ((gS hg)); have _ := aM ((gS hg)); clear HO_12 HB; rename_i HO_12 HB BK570 GW570 GE570; clear hb hbox hg; have hcz55_0 := zc20 BK570; have hcz55_1 := zc21 BK570; have hfz55_0 := blk_frozen BK570.out 0; have hfz55_1 := blk_frozen BK570.out 1))
             (try simp only [Act.put, List.setIfInBounds_toArray, List.set_cons_zero, List.set_cons_succ])
             go_cut [84] (fun v84 wc => ∃ (kq : Nat) (x84_52 : Bool), v84 = .bool x84_52 ∧ Aside0 (Y3.j3 kq a1 (t552.length : Int) x12_3 x66_3 l0 (l0.length : Int) x66_3 x84_52 ((rd_T70 l0 x66_3).f0) ((rd_T70 l0 x66_3).f1) = some r) ∧ Aside0 (kq ≤ k3) ∧ Aside0 (Kd.R k70 70 wc w.heap.size (fun k_ => k_ ≠ gb570) v561 x12_3) ∧ Aside0 (wc.heap[gb570]? = some (.cells #[.int .i64 ((rd_T70 l0 x66_3).f0), .int .i64 ((rd_T70 l0 x66_3).f1)] 70 (0, 0))) ∧ Aside0 (Below w.heap.size w wc))
             case first =>
              have H := HC53.out
              clear HC53
              by_cases c56 : ((rd_T70 l0 x66_3).f1) = (wrap64 ((t552.length : Int) - 1))
              ·rw [if_pos c56] at H
               have c56b0 : (((rd_T70 l0 x66_3).f1) == (wrap64 ((t552.length : Int) - 1))) = true := beq_iff_eq.mpr c56
               have c56b1 : (((rd_T70 l0 x66_3).f1) != (wrap64 ((t552.length : Int) - 1))) = false := bne_eq_false_iff_eq.mpr c56
               clear c56
               (first | rw [c56b0] | (simp only [i64_w, i32_w]; rw [c56b0]) | skip)
               have H' := aM H
               clear H
               have hcz57_0 := zc20 BK570
               have hcz57_1 := zc21 BK570
               have hfz57_0 := blk_frozen BK570.out 0
               have hfz57_1 := blk_frozen BK570.out 1
               go_wp2
               go_meet
               case rel => exact ⟨_, (decide (((rd_T70 l0 x66_3).f0) < a1)), eR, H', ⟨by have := HK1.out; have := HK2.out; have := HK3.out; first | omega | exact Nat.le_refl _⟩, ⟨by (with_reducible repeat first|apply rA|apply rN|apply rD); exact Kd.R_mono (Kd.R_far (p := ⟨gb570, 1, none⟩) (Kd.R_far (p := ⟨gb570, 0, none⟩) (Kd.R_mono HO_12.out (fun k_ hk => (⟨hk, hk.2⟩ : _ ∧ k_ ≠ gb570))) (fun _ hk => hk.2) (.int .i64 ((rd_T70 l0 x66_3).f0))) (fun _ hk => hk.2) (.int .i64 ((rd_T70 l0 x66_3).f1))) (fun _ hk => hk.1.2)⟩, ⟨by (with_reducible repeat first|apply qN|apply qD|apply qA); refine blk_put (cs := #[.int .i64 ((rd_T70 l0 x66_3).f0), .int .i64 0]) ?_ 1 _ rfl; (with_reducible repeat first|apply qN|apply qD|apply qA); refine blk_put (cs := #[.int .i64 0, .int .i64 0]) ?_ 0 _ rfl; (with_reducible repeat first|apply qN|apply qD|apply qA); exact BK570.out⟩, ⟨bq⟩⟩
              ·rw [if_neg c56] at H
               have c56b0 : (((rd_T70 l0 x66_3).f1) == (wrap64 ((t552.length : Int) - 1))) = false := beq_eq_false_iff_ne.mpr c56
               have c56b1 : (((rd_T70 l0 x66_3).f1) != (wrap64 ((t552.length : Int) - 1))) = true := bne_iff_ne.mpr c56
               (first | rw [c56b0] | (simp only [i64_w, i32_w]; rw [c56b0]) | skip)
               have H' := aM H
               clear H
               have hcz58_0 := zc20 BK570
               have hcz58_1 := zc21 BK570
               have hfz58_0 := blk_frozen BK570.out 0
               have hfz58_1 := blk_frozen BK570.out 1
               go_wp2
               go_meet
               case rel => exact ⟨_, (false), eR, H', ⟨by have := HK1.out; have := HK2.out; have := HK3.out; first | omega | exact Nat.le_refl _⟩, ⟨by (with_reducible repeat first|apply rA|apply rN|apply rD); exact Kd.R_mono (Kd.R_far (p := ⟨gb570, 1, none⟩) (Kd.R_far (p := ⟨gb570, 0, none⟩) (Kd.R_mono HO_12.out (fun k_ hk => (⟨hk, hk.2⟩ : _ ∧ k_ ≠ gb570))) (fun _ hk => hk.2) (.int .i64 ((rd_T70 l0 x66_3).f0))) (fun _ hk => hk.2) (.int .i64 ((rd_T70 l0 x66_3).f1))) (fun _ hk => hk.1.2)⟩, ⟨by (with_reducible repeat first|apply qN|apply qD|apply qA); refine blk_put (cs := #[.int .i64 ((rd_T70 l0 x66_3).f0), .int .i64 0]) ?_ 1 _ rfl; (with_reducible repeat first|apply qN|apply qD|apply qA); refine blk_put (cs := #[.int .i64 0, .int .i64 0]) ?_ 0 _ rfl; (with_reducible repeat first|apply qN|apply qD|apply qA); exact BK570.out⟩, ⟨bq⟩⟩
             case rest =>
              clear HC53
              try clear c2
              try clear c5
              try clear c5b0
              try clear c6b0
              try clear c7b0
              try clear c8
              try clear c13
              try clear c13b0
              try clear c13b1
              try clear c13b2
              try clear c22
              try clear c22b0
              try clear c23b0
              try clear c24b0
              try clear c25
              try clear c25b0
              try clear c25b1
              try clear c32
              try clear c32b0
              try clear c33
              try clear c37
              try clear c37b0
              try clear c38b0
              try clear c39b0
              try clear c40
              try clear c40b0
              try clear c41
              try clear c41b0
              try clear c42b0
              try clear p43
              try clear q43
              try clear c56
              try clear c56b0
              try clear c56b1
              try clear hcz10_0
              try clear hcz10_1
              try clear hcz28_0
              try clear hcz28_1
              try clear hcz30_0
              try clear hcz30_1
              try clear hcz45_0
              try clear hcz45_1
              try clear hcz47_0
              try clear hcz47_1
              try clear hcz52_0
              try clear hcz52_1
              try clear hcz55_0
              try clear hcz55_1
              try clear hcz57_0
              try clear hcz57_1
              try clear hcz58_0
              try clear hcz58_1
              try clear hfz10_0
              try clear hfz10_1
              try clear hfz28_0
              try clear hfz28_1
              try clear hfz30_0
              try clear hfz30_1
              try clear hfz45_0
              try clear hfz45_1
              try clear hfz47_0
              try clear hfz47_1
              try clear hfz52_0
              try clear hfz52_1
              try clear hfz55_0
              try clear hfz55_1
              try clear hfz57_0
              try clear hfz57_1
              try clear hfz58_0
              try clear hfz58_1
              try clear hx43_0
              try clear hx43_1
              try clear hx49_0
              try clear hx547_0
              try clear hx547_1
              try clear hx558_0
              try clear hx558_1
              try clear hx569_0
              try clear hx569_1
              try clear hx571_0
              try clear hx571_1
              try clear p43
              try clear p547
              try clear p558
              try clear p569
              try clear p571
              try clear q43
              try clear q547
              try clear q558
              try clear q569
              try clear q571
              obtain ⟨kq, x84_52, rfl, HA, HJ52, HO_12, BK570, HB⟩ := hcut
              cases kq with
              | zero => exact absurd HA.out (by simp [Y3.j3])
              | succ kj52 =>
               have H := HA.out
               clear HA
               simp only [Y3.j3] at H
               by_cases c59 : x84_52 = true
               ·subst c59
                have H1 : (if 0 ≤ x66_3 then (if x66_3 < (x12_3.length : Int) then ((some (x12_3.set (x66_3 : Int).toNat (⟨(rd_T70 x12_3 x66_3).f0, a1⟩ : S70) : List (S70))).bind fun y573 => (if ((rd_T70 l0 x66_3).f0) ≥ a1 then (Y3.l2 kj52 a1 (t552.length : Int) (y573.set (x66_3 : Int).toNat (⟨wrap64 (((rd_T70 y573 x66_3).f0) + 1), (rd_T70 y573 x66_3).f1⟩ : S70)) l0 (l0.length : Int) (wrap64 (x66_3 + 1))) else (Y3.l2 kj52 a1 (t552.length : Int) y573 l0 (l0.length : Int) (wrap64 (x66_3 + 1))))) else (none)) else (none)) = some r := by rw [if_pos rfl] at H; exact H
                clear H
                have H := H1
                clear H1
                replace H := iD2 H
                obtain ⟨c60b0, c61b0, H⟩ := H
                obtain ⟨y573, hy573⟩ := nE ((x12_3.set (x66_3 : Int).toNat (⟨(rd_T70 x12_3 x66_3).f0, a1⟩ : S70)) : List (S70))
                try rw [← hy573] at H
                try with_reducible replace H := (Option.bind_some _ _).symm.trans H
                try dsimp only at H
                have Ny573 := aM hy573
                clear hy573
                by_cases c63 : ((rd_T70 l0 x66_3).f0) ≥ a1
                ·rw [if_pos c63] at H
                 have c63b0 := decide_eq_true c63
                 clear c63
                 obtain ⟨y575, hy575⟩ := nE ((y573.set (x66_3 : Int).toNat (⟨wrap64 (((rd_T70 y573 x66_3).f0) + 1), (rd_T70 y573 x66_3).f1⟩ : S70)) : List (S70))
                 try rw [← hy575] at H
                 try with_reducible replace H := (Option.bind_some _ _).symm.trans H
                 try dsimp only at H
                 have Ny575 := aM hy575
                 clear hy575
                 have H' := aM H
                 clear H
                 have p62 : 0 ≤ (x66_3 : Int) := odt
                 have q62 : (x66_3 : Int) < ((x12_3.length : Int) : Int) := odt
                 obtain ⟨go62, co62, eo62, gb62, gl62, cl62, HG62⟩ := Kd.R_form HO_12.out (by omega)
                 (first | cases eo62 | (injection eo62 with ea_ en_ ec_; (first | subst ea_ | (injection ea_ with ea_; subst ea_)); subst ec_; clear en_))
                 have GB62 := aM gb62
                 have GG62 := aM HG62
                 clear gb62 gl62 HG62
                 obtain ⟨ce62, hcl62, hM62, hcc62, hfr62⟩ := Kd.R_elem HO_12.out z70 (x66_3 : Int) p62 q62
                 obtain rfl := k70_openM hM62
                 have hx62_0 : wc.cell? ⟨go62, (x66_3 : Int).toNat * 2, none⟩ = some (.int .i64 ((rd_T70 x12_3 x66_3).f0)) := hcc62 0 _ rfl
                 have hx62_1 : wc.cell? ⟨go62, (x66_3 : Int).toNat * 2 + 1, none⟩ = some (.int .i64 ((rd_T70 x12_3 x66_3).f1)) := hcc62 1 _ rfl
                 have hf62_0 : wc.frozen? ⟨go62, (x66_3 : Int).toNat * 2, none⟩ = false := hfr62 0
                 have hf62_1 : wc.frozen? ⟨go62, (x66_3 : Int).toNat * 2 + 1, none⟩ = false := hfr62 1
                 clear hcl62 hcc62 hfr62 hM62
                 replace p62 := eq_true p62
                 replace q62 := eq_true q62
                 have HX65 := aM (show Kd.R k70 70 wc w.heap.size (fun k_ => k_ ≠ gb570) (.slice (some ⟨go62, 0, none⟩) x12_3.length co62) x12_3 from (rQ HO_12))
                 obtain ⟨ce65, hcl65, hM65, hcc65, hfr65⟩ := Kd.R_elem HX65.out z70 (x66_3 : Int) (odt) (by have h_ : (x66_3 : Int) < ((x12_3.length : Int) : Int) := odt; first | exact h_ | (have e_ := (Kd.R_reads' HO_12.out).1; omega) | simpa using h_)
                 obtain rfl := k70_openM hM65
                 have HP65 := Kd.R_seg HX65.out (x66_3 : Int) (odt) (by have h_ : (x66_3 : Int) < ((x12_3.length : Int) : Int) := odt; first | exact h_ | (have e_ := (Kd.R_reads' HO_12.out).1; omega) | simpa using h_) (seg := [.int .i64 a1]) (j := 1) hcl65 hcc65 (show 2 ≤ 2 from by decide) (x' := (⟨(rd_T70 x12_3 x66_3).f0, a1⟩ : S70)) (k70_mkM _ _ _ (⟨(rd_T70 x12_3 x66_3).f0, a1⟩ : S70) ) (fun _ hk => hk)
                 have hx65_1 := hcc65 1 _ rfl
                 (try simp only [show (k70).sz = 2 from rfl, Nat.mul_one, Nat.add_zero] at hx65_1)
                 have hf65_1 := hfr65 1
                 (try simp only [show (k70).sz = 2 from rfl, Nat.mul_one, Nat.add_zero] at hf65_1)
                 clear hcl65 hcc65 hfr65 hM65
                 go_wp2_with (first | ((with_reducible refine gate_store (t := 3) (p := 100) rfl ?_); refine sE (wc.setCell ⟨go62, (x66_3 : Int).toNat * 2 + 1, none⟩ (.int .i64 a1)) 3 100 ?_; intro w66 hw; have hg : wc.grownBy w66 (some go62) := (by rw [hw]; exact HP65.2); have hp_ : Kd.R k70 70 w66 w.heap.size (fun k_ => k_ ≠ gb570) (.slice (some ⟨go62, 0, none⟩) x12_3.length co62) y573 := (by rw [hw, Ny573.out]; exact HP65.1); clear HP65; have _ := aM (hp_); have _ := aM (blk_grown (g := gb570) (o := .cells #[.int .i64 ((rd_T70 l0 x66_3).f0), .int .i64 ((rd_T70 l0 x66_3).f1)] 70 (0, 0)) (qQ BK570) hg (Kd.R_away HO_12.out (fun _ hk => hk))); have _ := aM ((by rw [hw]; exact below_set (HB.out) GB62.out : Below w.heap.size w w66)); clear HO_12 BK570 HB; rename_i HO_12 BK570 HB; clear hg hw hp_; have hcz67_0 := zc20 BK570; have hcz67_1 := zc21 BK570; have hfz67_0 := blk_frozen BK570.out 0; have hfz67_1 := blk_frozen BK570.out 1; have p574 : 0 ≤ (x66_3 : Int) := odt; have q574 : x66_3 < (y573.length : Int) := (by have h_ : (x66_3 : Int) < ((x12_3.length : Int) : Int) := odt; first | (have e_ := (Kd.R_reads' HO_12.out).1; omega) | simpa only [Ny573.out, List.length_set] using h_); have ql574 : ((x66_3 : Int) < ((x12_3.length : Int) : Int)) = True := eq_true (odt); obtain ⟨ad574, e574, hx574_0, hx574_1⟩ := at_T70 (Kd.R_reads' HO_12.out).2.2 x66_3 p574 q574; obtain rfl : (⟨go62, 0, none⟩ : Addr) = ad574 := (by injection e574); (first | simp only [add_plain] at hx574_0 | simp only [add_at] at hx574_0 | simp only [Addr.add, Nat.zero_add] at hx574_0 | skip); (first | simp only [add_plain] at hx574_1 | simp only [add_at] at hx574_1 | simp only [Addr.add, Nat.zero_add] at hx574_1 | skip); replace p574 := eq_true p574; replace q574 := eq_true q574; have p64 : 0 ≤ (x66_3 : Int) := odt; have q64 : (x66_3 : Int) < ((x12_3.length : Int) : Int) := odt; obtain ⟨ce64, hcl64, hM64, hcc64, hfr64⟩ := Kd.R_elem HO_12.out z70 (x66_3 : Int) p64 q64; obtain rfl := k70_openM hM64; have hx64_0 : w66.cell? ⟨go62, (x66_3 : Int).toNat * 2, none⟩ = some (.int .i64 ((rd_T70 y573 x66_3).f0)) := hcc64 0 _ rfl; have hx64_1 : w66.cell? ⟨go62, (x66_3 : Int).toNat * 2 + 1, none⟩ = some (.int .i64 ((rd_T70 y573 x66_3).f1)) := hcc64 1 _ rfl; have hf64_0 : w66.frozen? ⟨go62, (x66_3 : Int).toNat * 2, none⟩ = false := hfr64 0; have hf64_1 : w66.frozen? ⟨go62, (x66_3 : Int).toNat * 2 + 1, none⟩ = false := hfr64 1; clear hcl64 hcc64 hfr64 hM64; replace p64 := eq_true p64; replace q64 := eq_true q64; have HX68 := aM (show Kd.R k70 70 w66 w.heap.size (fun k_ => k_ ≠ gb570) (.slice (some ⟨go62, 0, none⟩) x12_3.length co62) y573 from (rQ HO_12)); obtain ⟨ce68, hcl68, hM68, hcc68, hfr68⟩ := Kd.R_elem HX68.out z70 (x66_3 : Int) (odt) (by have h_ : (x66_3 : Int) < ((x12_3.length : Int) : Int) := odt; first | exact h_ | (have e_ := (Kd.R_reads' HO_12.out).1; omega) | simpa using h_); obtain rfl := k70_openM hM68; have HP68 := Kd.R_seg HX68.out (x66_3 : Int) (odt) (by have h_ : (x66_3 : Int) < ((x12_3.length : Int) : Int) := odt; first | exact h_ | (have e_ := (Kd.R_reads' HO_12.out).1; omega) | simpa using h_) (seg := [.int .i64 (wrap64 (((rd_T70 y573 x66_3).f0) + 1))]) (j := 0) hcl68 hcc68 (show 1 ≤ 2 from by decide) (x' := (⟨wrap64 (((rd_T70 y573 x66_3).f0) + 1), (rd_T70 y573 x66_3).f1⟩ : S70)) (k70_mkM _ _ _ (⟨wrap64 (((rd_T70 y573 x66_3).f0) + 1), (rd_T70 y573 x66_3).f1⟩ : S70) ) (fun _ hk => hk); have hx68_0 := hcc68 0 _ rfl; (try simp only [show (k70).sz = 2 from rfl, Nat.mul_one, Nat.add_zero] at hx68_0); have hf68_0 := hfr68 0; (try simp only [show (k70).sz = 2 from rfl, Nat.mul_one, Nat.add_zero] at hf68_0); clear hcl68 hcc68 hfr68 hM68) | ((with_reducible refine gate_store (t := 3) (p := 112) rfl ?_); refine sE (w66.setCell ⟨go62, (x66_3 : Int).toNat * 2, none⟩ (.int .i64 (wrap64 (((rd_T70 y573 x66_3).f0) + 1)))) 3 112 ?_; intro w69 hw; have hg : w66.grownBy w69 (some go62) := (by rw [hw]; exact HP68.2); have hp_ : Kd.R k70 70 w69 w.heap.size (fun k_ => k_ ≠ gb570) (.slice (some ⟨go62, 0, none⟩) x12_3.length co62) y575 := (by rw [hw, Ny575.out]; exact HP68.1); clear HP68; have _ := aM (hp_); have _ := aM (blk_grown (g := gb570) (o := .cells #[.int .i64 ((rd_T70 l0 x66_3).f0), .int .i64 ((rd_T70 l0 x66_3).f1)] 70 (0, 0)) (qQ BK570) hg (Kd.R_away HO_12.out (fun _ hk => hk))); have _ := aM ((by rw [hw]; exact below_set (HB.out) GB62.out : Below w.heap.size w w69)); clear HO_12 BK570 HB; rename_i HO_12 BK570 HB; clear hg hw hp_))
                 go_roundg kj52
                 case measure => have := HK1.out; have := HK2.out; have := HK3.out; have := HJ52.out; omega
                 case rel => exact ⟨(y575), (wrap64 (x66_3 + 1)), eR, H', ⟨by have := HK1.out; have := HK2.out; have := HK3.out; have := HJ52.out; omega⟩, ⟨by (with_reducible repeat first|apply rA|apply rN|apply rD); exact Kd.R_mono HO_12.out (fun _ hk => trivial)⟩, ⟨bq⟩⟩
                ·rw [if_neg c63] at H
                 have c63b0 := decide_eq_false c63
                 clear c63
                 have H' := aM H
                 clear H
                 have p62 : 0 ≤ (x66_3 : Int) := odt
                 have q62 : (x66_3 : Int) < ((x12_3.length : Int) : Int) := odt
                 obtain ⟨go62, co62, eo62, gb62, gl62, cl62, HG62⟩ := Kd.R_form HO_12.out (by omega)
                 (first | cases eo62 | (injection eo62 with ea_ en_ ec_; (first | subst ea_ | (injection ea_ with ea_; subst ea_)); subst ec_; clear en_))
                 have GB62 := aM gb62
                 have GG62 := aM HG62
                 clear gb62 gl62 HG62
                 obtain ⟨ce62, hcl62, hM62, hcc62, hfr62⟩ := Kd.R_elem HO_12.out z70 (x66_3 : Int) p62 q62
                 obtain rfl := k70_openM hM62
                 have hx62_0 : wc.cell? ⟨go62, (x66_3 : Int).toNat * 2, none⟩ = some (.int .i64 ((rd_T70 x12_3 x66_3).f0)) := hcc62 0 _ rfl
                 have hx62_1 : wc.cell? ⟨go62, (x66_3 : Int).toNat * 2 + 1, none⟩ = some (.int .i64 ((rd_T70 x12_3 x66_3).f1)) := hcc62 1 _ rfl
                 have hf62_0 : wc.frozen? ⟨go62, (x66_3 : Int).toNat * 2, none⟩ = false := hfr62 0
                 have hf62_1 : wc.frozen? ⟨go62, (x66_3 : Int).toNat * 2 + 1, none⟩ = false := hfr62 1
                 clear hcl62 hcc62 hfr62 hM62
                 replace p62 := eq_true p62
                 replace q62 := eq_true q62
                 have HX70 := aM (show Kd.R k70 70 wc w.heap.size (fun k_ => k_ ≠ gb570) (.slice (some ⟨go62, 0, none⟩) x12_3.length co62) x12_3 from (rQ HO_12))
                 obtain ⟨ce70, hcl70, hM70, hcc70, hfr70⟩ := Kd.R_elem HX70.out z70 (x66_3 : Int) (odt) (by have h_ : (x66_3 : Int) < ((x12_3.length : Int) : Int) := odt; first | exact h_ | (have e_ := (Kd.R_reads' HO_12.out).1; omega) | simpa using h_)
                 obtain rfl := k70_openM hM70
                 have HP70 := Kd.R_seg HX70.out (x66_3 : Int) (odt) (by have h_ : (x66_3 : Int) < ((x12_3.length : Int) : Int) := odt; first | exact h_ | (have e_ := (Kd.R_reads' HO_12.out).1; omega) | simpa using h_) (seg := [.int .i64 a1]) (j := 1) hcl70 hcc70 (show 2 ≤ 2 from by decide) (x' := (⟨(rd_T70 x12_3 x66_3).f0, a1⟩ : S70)) (k70_mkM _ _ _ (⟨(rd_T70 x12_3 x66_3).f0, a1⟩ : S70) ) (fun _ hk => hk)
                 have hx70_1 := hcc70 1 _ rfl
                 (try simp only [show (k70).sz = 2 from rfl, Nat.mul_one, Nat.add_zero] at hx70_1)
                 have hf70_1 := hfr70 1
                 (try simp only [show (k70).sz = 2 from rfl, Nat.mul_one, Nat.add_zero] at hf70_1)
                 clear hcl70 hcc70 hfr70 hM70
                 go_wp2_with (first | ((with_reducible refine gate_store (t := 3) (p := 100) rfl ?_); refine sE (wc.setCell ⟨go62, (x66_3 : Int).toNat * 2 + 1, none⟩ (.int .i64 a1)) 3 100 ?_; intro w71 hw; have hg : wc.grownBy w71 (some go62) := (by rw [hw]; exact HP70.2); have hp_ : Kd.R k70 70 w71 w.heap.size (fun k_ => k_ ≠ gb570) (.slice (some ⟨go62, 0, none⟩) x12_3.length co62) y573 := (by rw [hw, Ny573.out]; exact HP70.1); clear HP70; have _ := aM (hp_); have _ := aM (blk_grown (g := gb570) (o := .cells #[.int .i64 ((rd_T70 l0 x66_3).f0), .int .i64 ((rd_T70 l0 x66_3).f1)] 70 (0, 0)) (qQ BK570) hg (Kd.R_away HO_12.out (fun _ hk => hk))); have _ := aM ((by rw [hw]; exact below_set (HB.out) GB62.out : Below w.heap.size w w71)); clear HO_12 BK570 HB; rename_i HO_12 BK570 HB; clear hg hw hp_; have hcz72_0 := zc20 BK570; have hcz72_1 := zc21 BK570; have hfz72_0 := blk_frozen BK570.out 0; have hfz72_1 := blk_frozen BK570.out 1))
                 go_roundg kj52
                 case measure => have := HK1.out; have := HK2.out; have := HK3.out; have := HJ52.out; omega
                 case rel => exact ⟨(y573), (wrap64 (x66_3 + 1)), eR, H', ⟨by have := HK1.out; have := HK2.out; have := HK3.out; have := HJ52.out; omega⟩, ⟨by (with_reducible repeat first|apply rA|apply rN|apply rD); exact Kd.R_mono HO_12.out (fun _ hk => trivial)⟩, ⟨bq⟩⟩
               ·replace c59 := Bool.eq_false_iff.mpr c59
                subst c59
                have H1 : (if 0 ≤ x66_3 then (if x66_3 < (x12_3.length : Int) then ((some (x12_3.set (x66_3 : Int).toNat (⟨(rd_T70 x12_3 x66_3).f0, wrap64 (((rd_T70 x12_3 x66_3).f1) + 1)⟩ : S70) : List (S70))).bind fun y577 => (if ((rd_T70 l0 x66_3).f0) ≥ a1 then (Y3.l2 kj52 a1 (t552.length : Int) (y577.set (x66_3 : Int).toNat (⟨wrap64 (((rd_T70 y577 x66_3).f0) + 1), (rd_T70 y577 x66_3).f1⟩ : S70)) l0 (l0.length : Int) (wrap64 (x66_3 + 1))) else (Y3.l2 kj52 a1 (t552.length : Int) y577 l0 (l0.length : Int) (wrap64 (x66_3 + 1))))) else (none)) else (none)) = some r := by rw [if_neg (show ¬ (false = true) by decide)] at H; exact H
                clear H
                have H := H1
                clear H1
                replace H := iD2 H
                obtain ⟨c73b0, c74b0, H⟩ := H
                obtain ⟨y577, hy577⟩ := nE ((x12_3.set (x66_3 : Int).toNat (⟨(rd_T70 x12_3 x66_3).f0, wrap64 (((rd_T70 x12_3 x66_3).f1) + 1)⟩ : S70)) : List (S70))
                try rw [← hy577] at H
                try with_reducible replace H := (Option.bind_some _ _).symm.trans H
                try dsimp only at H
                have Ny577 := aM hy577
                clear hy577
                by_cases c76 : ((rd_T70 l0 x66_3).f0) ≥ a1
                ·rw [if_pos c76] at H
                 have c76b0 := decide_eq_true c76
                 clear c76
                 obtain ⟨y579, hy579⟩ := nE ((y577.set (x66_3 : Int).toNat (⟨wrap64 (((rd_T70 y577 x66_3).f0) + 1), (rd_T70 y577 x66_3).f1⟩ : S70)) : List (S70))
                 try rw [← hy579] at H
                 try with_reducible replace H := (Option.bind_some _ _).symm.trans H
                 try dsimp only at H
                 have Ny579 := aM hy579
                 clear hy579
                 have H' := aM H
                 clear H
                 obtain ⟨Ao78, co78, eo78⟩ := Kd.R_slice HO_12.out
                 subst eo78
                 have p576 : 0 ≤ (x66_3 : Int) := odt
                 have q576 : x66_3 < (x12_3.length : Int) := odt
                 obtain ⟨ad576, e576, hx576_0, hx576_1⟩ := at_T70 (Kd.R_reads' HO_12.out).2.2 x66_3 p576 q576
                 cases e576
                 replace p576 := eq_true p576
                 replace q576 := eq_true q576
                 have p75 : 0 ≤ (x66_3 : Int) := odt
                 have q75 : (x66_3 : Int) < ((x12_3.length : Int) : Int) := odt
                 obtain ⟨go75, co75, eo75, gb75, gl75, cl75, HG75⟩ := Kd.R_form HO_12.out (by omega)
                 (first | cases eo75 | (injection eo75 with ea_ en_ ec_; (first | subst ea_ | (injection ea_ with ea_; subst ea_)); subst ec_; clear en_))
                 have GB75 := aM gb75
                 have GG75 := aM HG75
                 clear gb75 gl75 HG75
                 (first | simp only [add_plain] at hx576_0 | skip)
                 (first | simp only [add_plain] at hx576_1 | skip)
                 obtain ⟨ce75, hcl75, hM75, hcc75, hfr75⟩ := Kd.R_elem HO_12.out z70 (x66_3 : Int) p75 q75
                 obtain rfl := k70_openM hM75
                 have hx75_0 : wc.cell? ⟨go75, (x66_3 : Int).toNat * 2, none⟩ = some (.int .i64 ((rd_T70 x12_3 x66_3).f0)) := hcc75 0 _ rfl
                 have hx75_1 : wc.cell? ⟨go75, (x66_3 : Int).toNat * 2 + 1, none⟩ = some (.int .i64 ((rd_T70 x12_3 x66_3).f1)) := hcc75 1 _ rfl
                 have hf75_0 : wc.frozen? ⟨go75, (x66_3 : Int).toNat * 2, none⟩ = false := hfr75 0
                 have hf75_1 : wc.frozen? ⟨go75, (x66_3 : Int).toNat * 2 + 1, none⟩ = false := hfr75 1
                 clear hcl75 hcc75 hfr75 hM75
                 replace p75 := eq_true p75
                 replace q75 := eq_true q75
                 have HX79 := aM (show Kd.R k70 70 wc w.heap.size (fun k_ => k_ ≠ gb570) (.slice (some ⟨go75, 0, none⟩) x12_3.length co78) x12_3 from (rQ HO_12))
                 obtain ⟨ce79, hcl79, hM79, hcc79, hfr79⟩ := Kd.R_elem HX79.out z70 (x66_3 : Int) (odt) (by have h_ : (x66_3 : Int) < ((x12_3.length : Int) : Int) := odt; first | exact h_ | (have e_ := (Kd.R_reads' HO_12.out).1; omega) | simpa using h_)
                 obtain rfl := k70_openM hM79
                 have HP79 := Kd.R_seg HX79.out (x66_3 : Int) (odt) (by have h_ : (x66_3 : Int) < ((x12_3.length : Int) : Int) := odt; first | exact h_ | (have e_ := (Kd.R_reads' HO_12.out).1; omega) | simpa using h_) (seg := [.int .i64 (wrap64 (((rd_T70 x12_3 x66_3).f1) + 1))]) (j := 1) hcl79 hcc79 (show 2 ≤ 2 from by decide) (x' := (⟨(rd_T70 x12_3 x66_3).f0, wrap64 (((rd_T70 x12_3 x66_3).f1) + 1)⟩ : S70)) (k70_mkM _ _ _ (⟨(rd_T70 x12_3 x66_3).f0, wrap64 (((rd_T70 x12_3 x66_3).f1) + 1)⟩ : S70) ) (fun _ hk => hk)
                 have hx79_1 := hcc79 1 _ rfl
                 (try simp only [show (k70).sz = 2 from rfl, Nat.mul_one, Nat.add_zero] at hx79_1)
                 have hf79_1 := hfr79 1
                 (try simp only [show (k70).sz = 2 from rfl, Nat.mul_one, Nat.add_zero] at hf79_1)
                 clear hcl79 hcc79 hfr79 hM79
                 go_wp2_with (first | ((with_reducible refine gate_store (t := 3) (p := 78) rfl ?_); refine sE (wc.setCell ⟨go75, (x66_3 : Int).toNat * 2 + 1, none⟩ (.int .i64 (wrap64 (((rd_T70 x12_3 x66_3).f1) + 1)))) 3 78 ?_; intro w80 hw; have hg : wc.grownBy w80 (some go75) := (by rw [hw]; exact HP79.2); have hp_ : Kd.R k70 70 w80 w.heap.size (fun k_ => k_ ≠ gb570) (.slice (some ⟨go75, 0, none⟩) x12_3.length co78) y577 := (by rw [hw, Ny577.out]; exact HP79.1); clear HP79; have _ := aM (hp_); have _ := aM (blk_grown (g := gb570) (o := .cells #[.int .i64 ((rd_T70 l0 x66_3).f0), .int .i64 ((rd_T70 l0 x66_3).f1)] 70 (0, 0)) (qQ BK570) hg (Kd.R_away HO_12.out (fun _ hk => hk))); have _ := aM ((by rw [hw]; exact below_set (HB.out) GB75.out : Below w.heap.size w w80)); clear HO_12 BK570 HB; rename_i HO_12 BK570 HB; clear hg hw hp_; have hcz81_0 := zc20 BK570; have hcz81_1 := zc21 BK570; have hfz81_0 := blk_frozen BK570.out 0; have hfz81_1 := blk_frozen BK570.out 1; have p578 : 0 ≤ (x66_3 : Int) := odt; have q578 : x66_3 < (y577.length : Int) := (by have h_ : (x66_3 : Int) < ((x12_3.length : Int) : Int) := odt; first | (have e_ := (Kd.R_reads' HO_12.out).1; omega) | simpa only [Ny577.out, List.length_set] using h_); have ql578 : ((x66_3 : Int) < ((x12_3.length : Int) : Int)) = True := eq_true (odt); obtain ⟨ad578, e578, hx578_0, hx578_1⟩ := at_T70 (Kd.R_reads' HO_12.out).2.2 x66_3 p578 q578; obtain rfl : (⟨go75, 0, none⟩ : Addr) = ad578 := (by injection e578); (first | simp only [add_plain] at hx578_0 | simp only [add_at] at hx578_0 | simp only [Addr.add, Nat.zero_add] at hx578_0 | skip); (first | simp only [add_plain] at hx578_1 | simp only [add_at] at hx578_1 | simp only [Addr.add, Nat.zero_add] at hx578_1 | skip); replace p578 := eq_true p578; replace q578 := eq_true q578; have p77 : 0 ≤ (x66_3 : Int) := odt; have q77 : (x66_3 : Int) < ((x12_3.length : Int) : Int) := odt; obtain ⟨ce77, hcl77, hM77, hcc77, hfr77⟩ := Kd.R_elem HO_12.out z70 (x66_3 : Int) p77 q77; obtain rfl := k70_openM hM77; have hx77_0 : w80.cell? ⟨go75, (x66_3 : Int).toNat * 2, none⟩ = some (.int .i64 ((rd_T70 y577 x66_3).f0)) := hcc77 0 _ rfl; have hx77_1 : w80.cell? ⟨go75, (x66_3 : Int).toNat * 2 + 1, none⟩ = some (.int .i64 ((rd_T70 y577 x66_3).f1)) := hcc77 1 _ rfl; have hf77_0 : w80.frozen? ⟨go75, (x66_3 : Int).toNat * 2, none⟩ = false := hfr77 0; have hf77_1 : w80.frozen? ⟨go75, (x66_3 : Int).toNat * 2 + 1, none⟩ = false := hfr77 1; clear hcl77 hcc77 hfr77 hM77; replace p77 := eq_true p77; replace q77 := eq_true q77; have HX82 := aM (show Kd.R k70 70 w80 w.heap.size (fun k_ => k_ ≠ gb570) (.slice (some ⟨go75, 0, none⟩) x12_3.length co78) y577 from (rQ HO_12)); obtain ⟨ce82, hcl82, hM82, hcc82, hfr82⟩ := Kd.R_elem HX82.out z70 (x66_3 : Int) (odt) (by have h_ : (x66_3 : Int) < ((x12_3.length : Int) : Int) := odt; first | exact h_ | (have e_ := (Kd.R_reads' HO_12.out).1; omega) | simpa using h_); obtain rfl := k70_openM hM82; have HP82 := Kd.R_seg HX82.out (x66_3 : Int) (odt) (by have h_ : (x66_3 : Int) < ((x12_3.length : Int) : Int) := odt; first | exact h_ | (have e_ := (Kd.R_reads' HO_12.out).1; omega) | simpa using h_) (seg := [.int .i64 (wrap64 (((rd_T70 y577 x66_3).f0) + 1))]) (j := 0) hcl82 hcc82 (show 1 ≤ 2 from by decide) (x' := (⟨wrap64 (((rd_T70 y577 x66_3).f0) + 1), (rd_T70 y577 x66_3).f1⟩ : S70)) (k70_mkM _ _ _ (⟨wrap64 (((rd_T70 y577 x66_3).f0) + 1), (rd_T70 y577 x66_3).f1⟩ : S70) ) (fun _ hk => hk); have hx82_0 := hcc82 0 _ rfl; (try simp only [show (k70).sz = 2 from rfl, Nat.mul_one, Nat.add_zero] at hx82_0); have hf82_0 := hfr82 0; (try simp only [show (k70).sz = 2 from rfl, Nat.mul_one, Nat.add_zero] at hf82_0); clear hcl82 hcc82 hfr82 hM82) | ((with_reducible refine gate_store (t := 3) (p := 112) rfl ?_); refine sE (w80.setCell ⟨go75, (x66_3 : Int).toNat * 2, none⟩ (.int .i64 (wrap64 (((rd_T70 y577 x66_3).f0) + 1)))) 3 112 ?_; intro w83 hw; have hg : w80.grownBy w83 (some go75) := (by rw [hw]; exact HP82.2); have hp_ : Kd.R k70 70 w83 w.heap.size (fun k_ => k_ ≠ gb570) (.slice (some ⟨go75, 0, none⟩) x12_3.length co78) y579 := (by rw [hw, Ny579.out]; exact HP82.1); clear HP82; have _ := aM (hp_); have _ := aM (blk_grown (g := gb570) (o := .cells #[.int .i64 ((rd_T70 l0 x66_3).f0), .int .i64 ((rd_T70 l0 x66_3).f1)] 70 (0, 0)) (qQ BK570) hg (Kd.R_away HO_12.out (fun _ hk => hk))); have _ := aM ((by rw [hw]; exact below_set (HB.out) GB75.out : Below w.heap.size w w83)); clear HO_12 BK570 HB; rename_i HO_12 BK570 HB; clear hg hw hp_))
                 go_roundg kj52
                 case measure => have := HK1.out; have := HK2.out; have := HK3.out; have := HJ52.out; omega
                 case rel => exact ⟨(y579), (wrap64 (x66_3 + 1)), eR, H', ⟨by have := HK1.out; have := HK2.out; have := HK3.out; have := HJ52.out; omega⟩, ⟨by (with_reducible repeat first|apply rA|apply rN|apply rD); exact Kd.R_mono HO_12.out (fun _ hk => trivial)⟩, ⟨bq⟩⟩
                ·rw [if_neg c76] at H
                 have c76b0 := decide_eq_false c76
                 clear c76
                 have H' := aM H
                 clear H
                 obtain ⟨Ao84, co84, eo84⟩ := Kd.R_slice HO_12.out
                 subst eo84
                 have p576 : 0 ≤ (x66_3 : Int) := odt
                 have q576 : x66_3 < (x12_3.length : Int) := odt
                 obtain ⟨ad576, e576, hx576_0, hx576_1⟩ := at_T70 (Kd.R_reads' HO_12.out).2.2 x66_3 p576 q576
                 cases e576
                 replace p576 := eq_true p576
                 replace q576 := eq_true q576
                 have p75 : 0 ≤ (x66_3 : Int) := odt
                 have q75 : (x66_3 : Int) < ((x12_3.length : Int) : Int) := odt
                 obtain ⟨go75, co75, eo75, gb75, gl75, cl75, HG75⟩ := Kd.R_form HO_12.out (by omega)
                 (first | cases eo75 | (injection eo75 with ea_ en_ ec_; (first | subst ea_ | (injection ea_ with ea_; subst ea_)); subst ec_; clear en_))
                 have GB75 := aM gb75
                 have GG75 := aM HG75
                 clear gb75 gl75 HG75
                 (first | simp only [add_plain] at hx576_0 | skip)
                 (first | simp only [add_plain] at hx576_1 | skip)
                 obtain ⟨ce75, hcl75, hM75, hcc75, hfr75⟩ := Kd.R_elem HO_12.out z70 (x66_3 : Int) p75 q75
                 obtain rfl := k70_openM hM75
                 have hx75_0 : wc.cell? ⟨go75, (x66_3 : Int).toNat * 2, none⟩ = some (.int .i64 ((rd_T70 x12_3 x66_3).f0)) := hcc75 0 _ rfl
                 have hx75_1 : wc.cell? ⟨go75, (x66_3 : Int).toNat * 2 + 1, none⟩ = some (.int .i64 ((rd_T70 x12_3 x66_3).f1)) := hcc75 1 _ rfl
                 have hf75_0 : wc.frozen? ⟨go75, (x66_3 : Int).toNat * 2, none⟩ = false := hfr75 0
                 have hf75_1 : wc.frozen? ⟨go75, (x66_3 : Int).toNat * 2 + 1, none⟩ = false := hfr75 1
                 clear hcl75 hcc75 hfr75 hM75
                 replace p75 := eq_true p75
                 replace q75 := eq_true q75
                 have HX85 := aM (show Kd.R k70 70 wc w.heap.size (fun k_ => k_ ≠ gb570) (.slice (some ⟨go75, 0, none⟩) x12_3.length co84) x12_3 from (rQ HO_12))
                 obtain ⟨ce85, hcl85, hM85, hcc85, hfr85⟩ := Kd.R_elem HX85.out z70 (x66_3 : Int) (odt) (by have h_ : (x66_3 : Int) < ((x12_3.length : Int) : Int) := odt; first | exact h_ | (have e_ := (Kd.R_reads' HO_12.out).1; omega) | simpa using h_)
                 obtain rfl := k70_openM hM85
                 have HP85 := Kd.R_seg HX85.out (x66_3 : Int) (odt) (by have h_ : (x66_3 : Int) < ((x12_3.length : Int) : Int) := odt; first | exact h_ | (have e_ := (Kd.R_reads' HO_12.out).1; omega) | simpa using h_) (seg := [.int .i64 (wrap64 (((rd_T70 x12_3 x66_3).f1) + 1))]) (j := 1) hcl85 hcc85 (show 2 ≤ 2 from by decide) (x' := (⟨(rd_T70 x12_3 x66_3).f0, wrap64 (((rd_T70 x12_3 x66_3).f1) + 1)⟩ : S70)) (k70_mkM _ _ _ (⟨(rd_T70 x12_3 x66_3).f0, wrap64 (((rd_T70 x12_3 x66_3).f1) + 1)⟩ : S70) ) (fun _ hk => hk)
                 have hx85_1 := hcc85 1 _ rfl
                 (try simp only [show (k70).sz = 2 from rfl, Nat.mul_one, Nat.add_zero] at hx85_1)
                 have hf85_1 := hfr85 1
                 (try simp only [show (k70).sz = 2 from rfl, Nat.mul_one, Nat.add_zero] at hf85_1)
                 clear hcl85 hcc85 hfr85 hM85
                 go_wp2_with (first | ((with_reducible refine gate_store (t := 3) (p := 78) rfl ?_); refine sE (wc.setCell ⟨go75, (x66_3 : Int).toNat * 2 + 1, none⟩ (.int .i64 (wrap64 (((rd_T70 x12_3 x66_3).f1) + 1)))) 3 78 ?_; intro w86 hw; have hg : wc.grownBy w86 (some go75) := (by rw [hw]; exact HP85.2); have hp_ : Kd.R k70 70 w86 w.heap.size (fun k_ => k_ ≠ gb570) (.slice (some ⟨go75, 0, none⟩) x12_3.length co84) y577 := (by rw [hw, Ny577.out]; exact HP85.1); clear HP85; have _ := aM (hp_); have _ := aM (blk_grown (g := gb570) (o := .cells #[.int .i64 ((rd_T70 l0 x66_3).f0), .int .i64 ((rd_T70 l0 x66_3).f1)] 70 (0, 0)) (qQ BK570) hg (Kd.R_away HO_12.out (fun _ hk => hk))); have _ := aM ((by rw [hw]; exact below_set (HB.out) GB75.out : Below w.heap.size w w86)); clear HO_12 BK570 HB; rename_i HO_12 BK570 HB; clear hg hw hp_; have hcz87_0 := zc20 BK570; have hcz87_1 := zc21 BK570; have hfz87_0 := blk_frozen BK570.out 0; have hfz87_1 := blk_frozen BK570.out 1))
                 go_roundg kj52
                 case measure => have := HK1.out; have := HK2.out; have := HK3.out; have := HJ52.out; omega
                 case rel => exact ⟨(y577), (wrap64 (x66_3 + 1)), eR, H', ⟨by have := HK1.out; have := HK2.out; have := HK3.out; have := HJ52.out; omega⟩, ⟨by (with_reducible repeat first|apply rA|apply rN|apply rD); exact Kd.R_mono HO_12.out (fun _ hk => trivial)⟩, ⟨bq⟩⟩
           ·rw [if_neg c37] at H
            have c37b0 := decide_eq_false c37
            clear c37
            replace H := iS H
            obtain ⟨c88, H⟩ := H
            have LMc88 := aM c88
            clear c88
            obtain ⟨y566, hy566⟩ := nE ((x12_3 ++ [(⟨a1, (t552.length : Int)⟩ : S70)]) : List (S70))
            try rw [← hy566] at H
            try with_reducible replace H := (Option.bind_some _ _).symm.trans H
            try dsimp only at H
            have Ny566 := aM hy566
            clear hy566
            obtain rfl := Option.some.inj H
            go_wp2_with (first | ((with_reducible refine gate_builtin (b := .append) (xs := #[.tmp 114, .tmp 118]) rfl ?_); at_builtin; refine Kd.R_append k70 (w0 := w) w.heap.size rfl (.tmp 114) (.tmp 118) 68 70 (.agg #[(.int .i64 0), (.int .i64 0)]) 16 rfl Tryz.underlying68 info70 rfl (by decide) (by omega) v561 x12_3 (⟨a1, (t552.length : Int)⟩ : S70) [.int .i64 a1, .int .i64 (t552.length : Int)] (fun _ => True) (fun _ => False) rfl rfl ?aP (fun _ hk => hk.elim) ?aF ?aO ?aB ?aS ?aL ?_; (case aP => exact k70_mkM _ _ _ (⟨a1, (t552.length : Int)⟩ : S70)); (case aB => exact bq); (case aF => exact (fun _ _ => trivial)); (case aO => exact (rQ HO_12)); (case aS => exact (below_size bq)); (case aL => have := LMc88.out; omega); intro v567 w89 ho hb hg hat; rw [← Ny566.out] at ho; have _ := aM (hb); have _ := aM (ho); clear HB HO_12; rename_i HB HO568; clear ho hb hg hat))
            go_ret
            exact ⟨_, eE, rQ HO568, bq⟩
end Go.Proofs.YtcodionjhcmfhaaGreatDoor.Oa
