-- Written by hook.py (wip/), over the kit's print.py.
import Derived.Test.YtjmmleofnjcjoaaGreatDoorDu2
import Derived.Test.YtjmmleofnjcjoaaGreatDoorDu21
import Derived.Test.YtjmmleofnjcjoaaGreatDoorDuXSq
namespace Go.Proofs.YtjmmleofnjcjoaaGreatDoor.Du
open Go.RowKit Go.Proofs.YtjmmleofnjcjoaaGreatDoorW.PrintWords Go.Proofs.YtjmmleofnjcjoaaGreatDoorW.PrintLast Go.Proofs.YtjmmleofnjcjoaaGreatDoorW.PrintMore Go.Proofs.YtjmmleofnjcjoaaGreatDoor.Sq
attribute [local go_sem] max2_int min2_int max_two min_two max_three min_three max_four min_four
set_option linter.unusedVariables false
set_option linter.unusedSimpArgs false
set_option maxHeartbeats 8000000
set_option maxRecDepth 100000
def laws_pSameMatrix.l0 : Nat → Int → Int → List (List Int) → List (List Int) → Option (Bool)
 | 0, _, _, _, _ => none
 | k + 1, x15, x16, x528000, x529000 => if x16 < x15 then (if 0 ≤ x16 then (if x16 < (x528000.length : Int) then (if x16 < (x529000.length : Int) then ((laws_pSame.f k (rd_L4 x528000 x16) (rd_L4 x529000 x16)).bind fun t531 => (if t531 = true then (laws_pSameMatrix.l0 k x15 (wrap64 (x16 + 1)) x528000 x529000) else (some false))) else (none)) else (none)) else (none)) else (some true)
def laws_pSameMatrix.f (k : Nat) (l0_0 : List (List Int)) (l1_0 : List (List Int)) : Option (Bool) := if (l0_0.length : Int) = (l1_0.length : Int) then (laws_pSameMatrix.l0 k (l0_0.length : Int) 0 l0_0 l1_0) else (some false)
theorem laws_pSameMatrix.calls (k : Nat) (A0_0 : Option Addr) (c0_0 : Nat) (l0_0 : List (List Int)) (A1_0 : Option Addr) (c1_0 : Nat) (l1_0 : List (List Int)) (r : Bool) (w : World) (hr0_0 : Kd.C (Kd.slice 3 (Kd.int .i64)) w A0_0 l0_0.length l0_0) (hc0_0 : l0_0.length ≤ c0_0) (hr1_0 : Kd.C (Kd.slice 3 (Kd.int .i64)) w A1_0 l1_0.length l1_0) (hc1_0 : l1_0.length ≤ c1_0) (h : laws_pSameMatrix.f k l0_0 l1_0 = some r) :
  Calls Tryz.prog 20 #[.agg #[.slice A0_0 l0_0.length c0_0], .agg #[.slice A1_0 l1_0.length c1_0]] w fun e w' => e = .returned (.bool r) ∧ Below w.heap.size w w' := by
 have hu41 := Tryz.underlying41
 have HR0_0 := aM hr0_0
 have HC0_0 := aM hc0_0
 clear hr0_0 hc0_0
 have HR1_0 := aM hr1_0
 have HC1_0 := aM hc1_0
 clear hr1_0 hc1_0
 have HB := aM (Below.refl w.heap.size w)
 unfold laws_pSameMatrix.f at h
 have H := h
 clear h
 by_cases c3 : (l0_0.length : Int) = (l1_0.length : Int)
 ·rw [if_pos c3] at H
  have c3b0 : ((l0_0.length : Int) == (l1_0.length : Int)) = true := beq_iff_eq.mpr c3
  have c3b1 : ((l0_0.length : Int) != (l1_0.length : Int)) = false := bne_eq_false_iff_eq.mpr c3
  have c3b2 : (l0_0.length == l1_0.length) = true := by first | simpa using c3 | (simp at c3 ⊢; omega)
  clear c3
  have H' := aM H
  clear H
  go_enter Tryz.func20, Tryz.ntmps20
  go_wp2_with (first | ((with_reducible refine gate_dst (N := 2) rfl ?_); refine bF 2 41 #[.slice A0_0 l0_0.length c0_0] bq ?_; intro gb527 w4 hg hb _ _ _ _; clear HB; rename_i HB BK527 GW527 GE527; clear hb hg) | ((with_reducible refine gate_dst (N := 3) rfl ?_); refine bE 3 41 #[.slice A1_0 l1_0.length c1_0] ?_; intro gb528 hg w5 hbox hb; have _ := bK BK527 hb; have _ := bB hb; have _ := aM (hbox); have _ := aM ((gS hg)); have _ := aM ((gS hg)); have _ := aM (nL hg BK527); have _ := aM (nG hg BK527); clear BK527 HB; rename_i BK527 HB BK528 GW528 GE528 NB527_528 NB528_527; clear hb hbox hg; have hnb6 := NB527_528.out; have hnc6 := NB528_527.out; have hcz7_0 := zc10 BK527; have hfz7_0 := blk_frozen BK527.out 0; have hcz8_0 := zc10 BK528; have hfz8_0 := blk_frozen BK528.out 0))
  repeat (go_quiet (first | ((with_reducible refine gate_dst (N := 2) rfl ?_); refine bF 2 41 #[.slice A0_0 l0_0.length c0_0] bq ?_; intro gb527 w4 hg hb _ _ _ _; clear HB; rename_i HB BK527 GW527 GE527; clear hb hg) | ((with_reducible refine gate_dst (N := 3) rfl ?_); refine bE 3 41 #[.slice A1_0 l1_0.length c1_0] ?_; intro gb528 hg w5 hbox hb; have _ := bK BK527 hb; have _ := bB hb; have _ := aM (hbox); have _ := aM ((gS hg)); have _ := aM ((gS hg)); have _ := aM (nL hg BK527); have _ := aM (nG hg BK527); clear BK527 HB; rename_i BK527 HB BK528 GW528 GE528 NB527_528 NB528_527; clear hb hbox hg; have hnb6 := NB527_528.out; have hnc6 := NB528_527.out; have hcz7_0 := zc10 BK527; have hfz7_0 := blk_frozen BK527.out 0; have hcz8_0 := zc10 BK528; have hfz8_0 := blk_frozen BK528.out 0)); try go_wp2_with (first | ((with_reducible refine gate_dst (N := 2) rfl ?_); refine bF 2 41 #[.slice A0_0 l0_0.length c0_0] bq ?_; intro gb527 w4 hg hb _ _ _ _; clear HB; rename_i HB BK527 GW527 GE527; clear hb hg) | ((with_reducible refine gate_dst (N := 3) rfl ?_); refine bE 3 41 #[.slice A1_0 l1_0.length c1_0] ?_; intro gb528 hg w5 hbox hb; have _ := bK BK527 hb; have _ := bB hb; have _ := aM (hbox); have _ := aM ((gS hg)); have _ := aM ((gS hg)); have _ := aM (nL hg BK527); have _ := aM (nG hg BK527); clear BK527 HB; rename_i BK527 HB BK528 GW528 GE528 NB527_528 NB528_527; clear hb hbox hg; have hnb6 := NB527_528.out; have hnc6 := NB528_527.out; have hcz7_0 := zc10 BK527; have hfz7_0 := blk_frozen BK527.out 0; have hcz8_0 := zc10 BK528; have hfz8_0 := blk_frozen BK528.out 0)))
  go_loopg [16] k (fun kq v16 w' => ∃ (x16_1 : Int), v16 = .int .i64 x16_1 ∧ Aside0 (laws_pSameMatrix.l0 kq (l0_0.length : Int) x16_1 l0_0 l1_0 = some r) ∧ Aside0 (kq ≤ k) ∧ Aside0 (w'.heap[gb527]? = some (.cells #[(.slice A0_0 l0_0.length c0_0)] 41 (0, 0))) ∧ Aside0 (w'.heap[gb528]? = some (.cells #[(.slice A1_0 l1_0.length c1_0)] 41 (0, 0))) ∧ Aside0 (Below w.heap.size w w'))
  case atStart => exact ⟨(0), eR, H', ⟨Nat.le_refl _⟩, ⟨qQ BK527⟩, ⟨qQ BK528⟩, ⟨bq⟩⟩
  case round =>
   clear H'
   try clear c3
   try clear c3b0
   try clear c3b1
   try clear c3b2
   try clear hcz7_0
   try clear hcz8_0
   try clear hfz7_0
   try clear hfz8_0
   obtain ⟨x16_1, rfl, HA, HK1, BK527, BK528, HB⟩ := hrel
   cases gk with
   | zero => exact absurd HA.out (by simp [laws_pSameMatrix.l0])
   | succ k1 =>
    have H := HA.out
    clear HA
    simp only [laws_pSameMatrix.l0] at H
    by_cases c9 : x16_1 < (l0_0.length : Int)
    ·rw [if_pos c9] at H
     have c9b0 := decide_eq_true c9
     clear c9
     replace H := iD3 H
     obtain ⟨c10b0, c11b0, c12b0, H⟩ := H
     replace H := bS H
     obtain ⟨t531, A13, H⟩ := H
     try dsimp only at H
     by_cases c14 : t531 = true
     ·subst c14
      have H1 : (laws_pSameMatrix.l0 k1 (l0_0.length : Int) (wrap64 (x16_1 + 1)) l0_0 l1_0) = some r := by rw [if_pos rfl] at H; exact H
      clear H
      have H := H1
      clear H1
      have H' := aM H
      clear H
      have hnb15 := NB527_528.out
      have hnc15 := NB528_527.out
      have hcz16_0 := zc10 BK527
      have hfz16_0 := blk_frozen BK527.out 0
      have p529 : 0 ≤ (x16_1 : Int) := odt
      have q529 : x16_1 < (l0_0.length : Int) := odt
      obtain ⟨ad529, A529_0, c529_0, e529, hx529_0, hl529_0, hi529_0⟩ := at_L4 HR0_0.out x16_1 p529 q529
      cases e529
      replace hx529_0 := (HB.out.cell (World.block_lt_of_cell? w _ hx529_0)).trans hx529_0
      have HR529_0 := aM hi529_0
      have HC529_0 := aM hl529_0
      clear hi529_0 hl529_0
      replace p529 := eq_true p529
      replace q529 := eq_true q529
      have hcz17_0 := zc10 BK528
      have hfz17_0 := blk_frozen BK528.out 0
      have p530 : 0 ≤ (x16_1 : Int) := odt
      have q530 : x16_1 < (l1_0.length : Int) := odt
      obtain ⟨ad530, A530_0, c530_0, e530, hx530_0, hl530_0, hi530_0⟩ := at_L4 HR1_0.out x16_1 p530 q530
      cases e530
      replace hx530_0 := (HB.out.cell (World.block_lt_of_cell? w _ hx530_0)).trans hx530_0
      have HR530_0 := aM hi530_0
      have HC530_0 := aM hl530_0
      clear hi530_0 hl530_0
      replace p530 := eq_true p530
      replace q530 := eq_true q530
      go_wp2_with (first | (go_at_call 14; (with_reducible refine (laws_pSame.calls k1 _ _ (rd_L4 l0_0 x16_1) _ _ (rd_L4 l1_0 x16_1) true _ (cQ (Kd.C_below HR529_0.out HB.out)) HC529_0.out ?side3 ?side4 A13.out).mono ?_); (case side3 => exact cQ (Kd.C_below HR530_0.out HB.out)); (case side4 => exact HC530_0.out); rintro e w' ⟨rfl, ⟨nd, rfl⟩⟩; (try first | exact ⟨rfl, _, World.drewN_drewN _ _ _⟩ | exact ⟨rfl, _, Eq.trans (World.drewN_drewN _ _ _) (congrArg (World.drewN _) (Nat.add_assoc _ _ _))⟩)))
      repeat (go_quiet (first | (go_at_call 14; (with_reducible refine (laws_pSame.calls k1 _ _ (rd_L4 l0_0 x16_1) _ _ (rd_L4 l1_0 x16_1) true _ (cQ (Kd.C_below HR529_0.out HB.out)) HC529_0.out ?side3 ?side4 A13.out).mono ?_); (case side3 => exact cQ (Kd.C_below HR530_0.out HB.out)); (case side4 => exact HC530_0.out); rintro e w' ⟨rfl, ⟨nd, rfl⟩⟩; (try first | exact ⟨rfl, _, World.drewN_drewN _ _ _⟩ | exact ⟨rfl, _, Eq.trans (World.drewN_drewN _ _ _) (congrArg (World.drewN _) (Nat.add_assoc _ _ _))⟩))); try go_wp2_with (first | (go_at_call 14; (with_reducible refine (laws_pSame.calls k1 _ _ (rd_L4 l0_0 x16_1) _ _ (rd_L4 l1_0 x16_1) true _ (cQ (Kd.C_below HR529_0.out HB.out)) HC529_0.out ?side3 ?side4 A13.out).mono ?_); (case side3 => exact cQ (Kd.C_below HR530_0.out HB.out)); (case side4 => exact HC530_0.out); rintro e w' ⟨rfl, ⟨nd, rfl⟩⟩; (try first | exact ⟨rfl, _, World.drewN_drewN _ _ _⟩ | exact ⟨rfl, _, Eq.trans (World.drewN_drewN _ _ _) (congrArg (World.drewN _) (Nat.add_assoc _ _ _))⟩))))
      go_roundg k1
      case measure => have := HK1.out; omega
      case rel => exact ⟨(wrap64 (x16_1 + 1)), eR, H', ⟨by have := HK1.out; omega⟩, ⟨qQ BK527⟩, ⟨qQ BK528⟩, ⟨bq⟩⟩
     ·replace c14 := Bool.eq_false_iff.mpr c14
      subst c14
      have H1 : (some false) = some r := by rw [if_neg (show ¬ (false = true) by decide)] at H; exact H
      clear H
      have H := H1
      clear H1
      obtain rfl := Option.some.inj H
      have hnb18 := NB527_528.out
      have hnc18 := NB528_527.out
      have hcz19_0 := zc10 BK527
      have hfz19_0 := blk_frozen BK527.out 0
      have p529 : 0 ≤ (x16_1 : Int) := odt
      have q529 : x16_1 < (l0_0.length : Int) := odt
      obtain ⟨ad529, A529_0, c529_0, e529, hx529_0, hl529_0, hi529_0⟩ := at_L4 HR0_0.out x16_1 p529 q529
      cases e529
      replace hx529_0 := (HB.out.cell (World.block_lt_of_cell? w _ hx529_0)).trans hx529_0
      have HR529_0 := aM hi529_0
      have HC529_0 := aM hl529_0
      clear hi529_0 hl529_0
      replace p529 := eq_true p529
      replace q529 := eq_true q529
      have hcz20_0 := zc10 BK528
      have hfz20_0 := blk_frozen BK528.out 0
      have p530 : 0 ≤ (x16_1 : Int) := odt
      have q530 : x16_1 < (l1_0.length : Int) := odt
      obtain ⟨ad530, A530_0, c530_0, e530, hx530_0, hl530_0, hi530_0⟩ := at_L4 HR1_0.out x16_1 p530 q530
      cases e530
      replace hx530_0 := (HB.out.cell (World.block_lt_of_cell? w _ hx530_0)).trans hx530_0
      have HR530_0 := aM hi530_0
      have HC530_0 := aM hl530_0
      clear hi530_0 hl530_0
      replace p530 := eq_true p530
      replace q530 := eq_true q530
      go_wp2_with (first | (go_at_call 14; (with_reducible refine (laws_pSame.calls k1 _ _ (rd_L4 l0_0 x16_1) _ _ (rd_L4 l1_0 x16_1) false _ (cQ (Kd.C_below HR529_0.out HB.out)) HC529_0.out ?side3 ?side4 A13.out).mono ?_); (case side3 => exact cQ (Kd.C_below HR530_0.out HB.out)); (case side4 => exact HC530_0.out); rintro e w' ⟨rfl, ⟨nd, rfl⟩⟩; (try first | exact ⟨rfl, _, World.drewN_drewN _ _ _⟩ | exact ⟨rfl, _, Eq.trans (World.drewN_drewN _ _ _) (congrArg (World.drewN _) (Nat.add_assoc _ _ _))⟩)))
      repeat (go_quiet (first | (go_at_call 14; (with_reducible refine (laws_pSame.calls k1 _ _ (rd_L4 l0_0 x16_1) _ _ (rd_L4 l1_0 x16_1) false _ (cQ (Kd.C_below HR529_0.out HB.out)) HC529_0.out ?side3 ?side4 A13.out).mono ?_); (case side3 => exact cQ (Kd.C_below HR530_0.out HB.out)); (case side4 => exact HC530_0.out); rintro e w' ⟨rfl, ⟨nd, rfl⟩⟩; (try first | exact ⟨rfl, _, World.drewN_drewN _ _ _⟩ | exact ⟨rfl, _, Eq.trans (World.drewN_drewN _ _ _) (congrArg (World.drewN _) (Nat.add_assoc _ _ _))⟩))); try go_wp2_with (first | (go_at_call 14; (with_reducible refine (laws_pSame.calls k1 _ _ (rd_L4 l0_0 x16_1) _ _ (rd_L4 l1_0 x16_1) false _ (cQ (Kd.C_below HR529_0.out HB.out)) HC529_0.out ?side3 ?side4 A13.out).mono ?_); (case side3 => exact cQ (Kd.C_below HR530_0.out HB.out)); (case side4 => exact HC530_0.out); rintro e w' ⟨rfl, ⟨nd, rfl⟩⟩; (try first | exact ⟨rfl, _, World.drewN_drewN _ _ _⟩ | exact ⟨rfl, _, Eq.trans (World.drewN_drewN _ _ _) (congrArg (World.drewN _) (Nat.add_assoc _ _ _))⟩))))
      go_ret
      exact ⟨eE, bq⟩
    ·rw [if_neg c9] at H
     have c9b0 := decide_eq_false c9
     clear c9
     obtain rfl := Option.some.inj H
     go_wp2
     repeat (go_quiet (fail); try go_wp2)
     go_ret
     exact ⟨eE, bq⟩
 ·rw [if_neg c3] at H
  have c3b0 : ((l0_0.length : Int) == (l1_0.length : Int)) = false := beq_eq_false_iff_ne.mpr c3
  have c3b1 : ((l0_0.length : Int) != (l1_0.length : Int)) = true := bne_iff_ne.mpr c3
  have c3b2 : (l0_0.length == l1_0.length) = false := by first | simpa using c3 | (simp at c3 ⊢; omega)
  obtain rfl := Option.some.inj H
  go_enter Tryz.func20, Tryz.ntmps20
  go_wp2_with (first | ((with_reducible refine gate_dst (N := 2) rfl ?_); refine bF 2 41 #[.slice A0_0 l0_0.length c0_0] bq ?_; intro gb527 w21 hg hb _ _ _ _; clear HB; rename_i HB BK527 GW527 GE527; clear hb hg) | ((with_reducible refine gate_dst (N := 3) rfl ?_); refine bE 3 41 #[.slice A1_0 l1_0.length c1_0] ?_; intro gb528 hg w22 hbox hb; have _ := bK BK527 hb; have _ := bB hb; have _ := aM (hbox); have _ := aM ((gS hg)); have _ := aM ((gS hg)); have _ := aM (nL hg BK527); have _ := aM (nG hg BK527); clear BK527 HB; rename_i BK527 HB BK528 GW528 GE528 NB527_528 NB528_527; clear hb hbox hg; have hnb23 := NB527_528.out; have hnc23 := NB528_527.out; have hcz24_0 := zc10 BK527; have hfz24_0 := blk_frozen BK527.out 0; have hcz25_0 := zc10 BK528; have hfz25_0 := blk_frozen BK528.out 0))
  repeat (go_quiet (first | ((with_reducible refine gate_dst (N := 2) rfl ?_); refine bF 2 41 #[.slice A0_0 l0_0.length c0_0] bq ?_; intro gb527 w21 hg hb _ _ _ _; clear HB; rename_i HB BK527 GW527 GE527; clear hb hg) | ((with_reducible refine gate_dst (N := 3) rfl ?_); refine bE 3 41 #[.slice A1_0 l1_0.length c1_0] ?_; intro gb528 hg w22 hbox hb; have _ := bK BK527 hb; have _ := bB hb; have _ := aM (hbox); have _ := aM ((gS hg)); have _ := aM ((gS hg)); have _ := aM (nL hg BK527); have _ := aM (nG hg BK527); clear BK527 HB; rename_i BK527 HB BK528 GW528 GE528 NB527_528 NB528_527; clear hb hbox hg; have hnb23 := NB527_528.out; have hnc23 := NB528_527.out; have hcz24_0 := zc10 BK527; have hfz24_0 := blk_frozen BK527.out 0; have hcz25_0 := zc10 BK528; have hfz25_0 := blk_frozen BK528.out 0)); try go_wp2_with (first | ((with_reducible refine gate_dst (N := 2) rfl ?_); refine bF 2 41 #[.slice A0_0 l0_0.length c0_0] bq ?_; intro gb527 w21 hg hb _ _ _ _; clear HB; rename_i HB BK527 GW527 GE527; clear hb hg) | ((with_reducible refine gate_dst (N := 3) rfl ?_); refine bE 3 41 #[.slice A1_0 l1_0.length c1_0] ?_; intro gb528 hg w22 hbox hb; have _ := bK BK527 hb; have _ := bB hb; have _ := aM (hbox); have _ := aM ((gS hg)); have _ := aM ((gS hg)); have _ := aM (nL hg BK527); have _ := aM (nG hg BK527); clear BK527 HB; rename_i BK527 HB BK528 GW528 GE528 NB527_528 NB528_527; clear hb hbox hg; have hnb23 := NB527_528.out; have hnc23 := NB528_527.out; have hcz24_0 := zc10 BK527; have hfz24_0 := blk_frozen BK527.out 0; have hcz25_0 := zc10 BK528; have hfz25_0 := blk_frozen BK528.out 0)))
  go_ret
  exact ⟨eE, bq⟩
def Y32.f (l0_0 : List (List Int)) : Option (Int) := some (l0_0.length : Int)
theorem Y32.calls (A0_0 : Option Addr) (c0_0 : Nat) (l0_0 : List (List Int)) (r : Int) (w : World) (hr0_0 : Kd.C (Kd.slice 3 (Kd.int .i64)) w A0_0 l0_0.length l0_0) (hc0_0 : l0_0.length ≤ c0_0) (h : Y32.f l0_0 = some r) :
  Calls Tryz.prog 82 #[.agg #[.slice A0_0 l0_0.length c0_0]] w fun e w' => e = .returned (.int .i64 r) ∧ Below w.heap.size w w' := by
 have hu41 := Tryz.underlying41
 have HR0_0 := aM hr0_0
 have HC0_0 := aM hc0_0
 clear hr0_0 hc0_0
 have HB := aM (Below.refl w.heap.size w)
 have H : (some (l0_0.length : Int)) = some r := h
 clear h
 obtain rfl := Option.some.inj H
 go_enter Tryz.func82, Tryz.ntmps82
 go_wp2_with (first | ((with_reducible refine gate_dst (N := 1) rfl ?_); refine bF 1 41 #[.slice A0_0 l0_0.length c0_0] bq ?_; intro gb532 w2 hg hb _ _ _ _; clear HB; rename_i HB BK532 GW532 GE532; clear hb hg; have hcz3_0 := zc10 BK532; have hfz3_0 := blk_frozen BK532.out 0))
 go_ret
 exact ⟨eE, bq⟩
mutual
def Y10.l0 : Nat → List Int → List Int → List (List Int) → Int → Int → Option (List Int × List Int)
 | 0, _, _, _, _, _ => none
 | k + 1, x4, x5, x17, x18, x19 => if x19 < x18 then (if 0 ≤ x19 then (if x19 < (x17.length : Int) then (Y10.l1 k x4 x5 x19 x17 x18 x19 (rd_L4 x17 x19) ((rd_L4 x17 x19).length : Int) 0) else (none)) else (none)) else (some (x4, x5))
def Y10.l1 : Nat → List Int → List Int → Int → List (List Int) → Int → Int → List Int → Int → Int → Option (List Int × List Int)
 | 0, _, _, _, _, _, _, _, _, _ => none
 | k + 1, x4, x5, x6, x17, x18, x19, x24, x25, x26 => if x26 < x25 then (if 0 ≤ x26 then (if x26 < (x24.length : Int) then (if 0 ≤ x6 then (if x6 < (x4.length : Int) then (if x26 < (x5.length : Int) then (Y10.l1 k (x4.set (x6 : Int).toNat (wrap64 ((rd x4 x6) + (rd x24 x26)))) (x5.set (x26 : Int).toNat (wrap64 ((rd x5 x26) + (rd x24 x26)))) x6 x17 x18 x19 x24 x25 (wrap64 (x26 + 1))) else (none)) else (none)) else (none)) else (none)) else (none)) else (Y10.l0 k x4 x5 x17 x18 (wrap64 (x19 + 1)))
end
def Y10.f (k : Nat) (l0_0 : List (List Int)) : Option (List Int × List Int) := (Y32.f l0_0).bind fun t534 => (if 0 ≤ t534 then (if (t534 : Int).toNat ≤ 35184372088832 then ((Y32.f l0_0).bind fun t538 => (if 0 ≤ t538 then (if (t538 : Int).toNat ≤ 35184372088832 then (Y10.l0 k (List.replicate (t534 : Int).toNat 0) (List.replicate (t538 : Int).toNat 0) l0_0 (l0_0.length : Int) 0) else (none)) else (none))) else (none)) else (none))
def Y10.T1 : Bool × List (List Nat × List Nat) := (true, [([], []), ([0], [0]), ([1, 1], [1]), ([], []), ([3, 1], [3]), ([4, 4], [4]), ([2, 4, 0, 1, 2], [2]), ([5, 6, 0, 1, 2, 3, 4, 5, 6], [5])])
def Y10.B1 : List Nat := [0, 1, 3, 0, 11, 27, 31, 127]
theorem Y10.tab1 : rtab .any (opsOf Tryz.f86 1) = Y10.T1 := by kernel_rfl
theorem Y10.bits1 : waitsOk Y10.T1.2 Y10.B1 = true := by kernel_rfl
set_option maxHeartbeats 8000000 in
set_option maxRecDepth 100000 in
theorem Y10.calls (k : Nat) (A0_0 : Option Addr) (c0_0 : Nat) (l0_0 : List (List Int)) (r1 : List Int) (r2 : List Int) (w : World) (hr0_0 : Kd.C (Kd.slice 3 (Kd.int .i64)) w A0_0 l0_0.length l0_0) (hc0_0 : l0_0.length ≤ c0_0) (h : Y10.f k l0_0 = some (r1, r2)) :
  Calls Tryz.prog 86 #[.agg #[.slice A0_0 l0_0.length c0_0]] w fun e w' => ∃ v0_ v1_ : Value, e = .returned (.tuple #[v0_, v1_]) ∧ Kd.R (Kd.int .i64) 3 w' w.heap.size (fun k_ => some k_ ≠ (v1_ : Value).ownBlock) v0_ r1 ∧ Kd.R (Kd.int .i64) 3 w' w.heap.size (fun k_ => some k_ ≠ (v0_ : Value).ownBlock) v1_ r2 ∧ Below w.heap.size w w' := by
 have hu41 := Tryz.underlying41
 have HR0_0 := aM hr0_0
 have HC0_0 := aM hc0_0
 clear hr0_0 hc0_0
 have HB := aM (Below.refl w.heap.size w)
 unfold Y10.f at h
 have H := h
 clear h
 replace H := bS H
 obtain ⟨t534, A2, H⟩ := H
 try dsimp only at H
 replace H := iS H
 obtain ⟨c3, H⟩ := H
 have c3b0 := eq_true c3
 have c3b1 := decide_eq_true c3
 clear c3
 replace H := iS H
 obtain ⟨c4, H⟩ := H
 have c4b0 := eq_true c4
 have c4b1 := decide_eq_true c4
 clear c4
 obtain ⟨y535, hy535⟩ := nE ((List.replicate (t534 : Int).toNat 0) : List Int)
 try rw [← hy535] at H
 try with_reducible replace H := (Option.bind_some _ _).symm.trans H
 try dsimp only at H
 have Ny535 := aM hy535
 clear hy535
 replace H := bS H
 obtain ⟨t538, A5, H⟩ := H
 try dsimp only at H
 replace H := iS H
 obtain ⟨c6, H⟩ := H
 have c6b0 := eq_true c6
 have c6b1 := decide_eq_true c6
 clear c6
 replace H := iS H
 obtain ⟨c7, H⟩ := H
 have c7b0 := eq_true c7
 have c7b1 := decide_eq_true c7
 clear c7
 obtain ⟨y539, hy539⟩ := nE ((List.replicate (t538 : Int).toNat 0) : List Int)
 try rw [← hy539] at H
 try with_reducible replace H := (Option.bind_some _ _).symm.trans H
 try dsimp only at H
 have Ny539 := aM hy539
 clear hy539
 have H' := aM H
 clear H
 go_enter Tryz.func86, Tryz.ntmps86
 try go_wp2_with (first | ((with_reducible refine gate_dst (N := 1) rfl ?_); refine bF 1 41 #[.slice A0_0 l0_0.length c0_0] bq ?_; intro gb533 w8 hg hb _ _ _ _; clear HB; rename_i HB BK533 GW533 GE533; clear hb hg))
 have n0_ := aM (blk_drew BK533.out)
 have n1_ := aM (below_drew1 HB.out)
 clear BK533
 clear HB
 have BK533 := n0_
 have HB := n1_
 clear n0_ n1_
 refine start_ (n := 8) (S := fun w' => w'.cell? ⟨gb533, 0, none⟩ = some (.slice A0_0 l0_0.length c0_0)) (ds := []) #[false, false, false, false, false, false, false, false] (by kernel_rfl) rfl rfl ((blk_cell BK533.out 0).trans rfl) (fun hHeld => ?_); refine with_tabW Y10.tab1 Y10.bits1 (fun HT_ HW_ => ?_)
 generalize w8.drew = w9 at BK533 HB hHeld ⊢
 refine tA 0 10 hHeld (h := ?_)
 refine tA 3 13 hHeld (h := ?_)
 refine one_ (i := 1) (N := some 11) #[true, true, false, true, false, false, false, false] rfl rfl (one_of HT_.out (by kernel_rfl)) (by decide) (fun K hK => ?_)
 refine goes_ Tryz.func82 (by kernel_rfl) rfl #[.agg #[.slice A0_0 l0_0.length c0_0]] (by rfl) rfl rfl (by (try simp only [List.map_toArray, List.map_cons, List.map_nil]); first | done | rfl | (simp only [List.length_drop, List.length_take]; rfl)) ?_
 with_reducible refine (Y32.calls _ _ l0_0 t534 _ ?side1 ?side2 A2.out).mono ?_
 (case side1 => exact cQ (Kd.C_below HR0_0.out HB.out))
 (case side2 => exact HC0_0.out)
 rintro e w10 ⟨rfl, hb⟩
 refine ⟨_, rfl, ?_⟩
 have n0_ := aM (blk_below (qQ BK533) hb)
 have n1_ := aM (below_step bq hb)
 clear BK533
 clear HB
 have BK533 := n0_
 have HB := n1_
 clear n0_ n1_
 (try clear hb)
 (try clear hb2)
 (try clear hk)
 (try clear hi)
 refine hK.out _ _ ((blk_cell BK533.out 0).trans rfl) (fun hHeld => ?_)
 clear hK K
 refine nA 11 (h := ?_)
 refine join_ (σ := Value × Value) 1 #[true, true, true, true, true, true, true, false] (fun s_ => [(12, s_.1), (14, .int .i64 t538), (15, s_.2), (4, s_.1)]) (fun s_ w' => (w'.cell? ⟨gb533, 0, none⟩ = some (.slice A0_0 l0_0.length c0_0)) ∧ (Kd.R (Kd.int .i64) 3 w' w.heap.size (fun k_ => some k_ ≠ (s_.2 : Value).ownBlock) s_.1 y535) ∧ (Kd.R (Kd.int .i64) 3 w' w.heap.size (fun k_ => some k_ ≠ (s_.1 : Value).ownBlock) s_.2 y539) ∧ (w'.heap[gb533]? = some (.cells #[.slice A0_0 l0_0.length c0_0] 41 (0, 0))) ∧ (Below w.heap.size w w')) ?_ ?_
 rotate_left
 ·intro hCont
  refine two_ (i := 2) (j := 4) (Ni := some 12) (Nj := some 14) #[true, true, true, true, false, false, false, false] #[true, true, false, true, true, false, false, false] rfl rfl rfl rfl (two_of HT_.out (by kernel_rfl)) (by decide) (by decide) (fun K hK => ?_) (fun K hK => ?_)
  ·skip
   refine Kd.R_make_step (Kd.int .i64) _ 3 (by rfl) (N := 12) rfl 24 _ _ rfl t534 rfl rfl Tryz.underlying24 (.int .i64 0) 8 info3 rfl (by decide) (by omega) 0 (ok := fun _ => True) (okp := fun _ => True) rfl (fun _ hk => hk) trivial (odt) (Nat.le_trans (Nat.mul_le_mul_right _ (odt : t534.toNat ≤ 35184372088832)) (by omega)) (Below.refl _ _) (Nat.le_refl _) ?_
   intro v536 w11 ho12 hb hg_ hnew_
   clear hg_ hnew_
   (first | rw [← Ny535.out] at ho12 | (simp only [Int.reduceToNat] at ho12; rw [← Ny535.out] at ho12))
   have n0_ := aM (Kd.R_lower ho12 (below_size bq))
   have n1_ := aM (blk_below (qQ BK533) hb)
   have n2_ := aM (below_step bq hb)
   clear BK533
   clear HB
   have HO537 := n0_
   have BK533 := n1_
   have HB := n2_
   clear n0_ n1_ n2_
   clear hb ho12
   refine hK.out _ _ ((blk_cell BK533.out 0).trans rfl) (fun hHeld => ?_)
   clear hK K
   refine nA 12 (h := ?_)
   refine one_ (i := 4) (N := some 14) #[true, true, true, true, true, false, false, false] rfl rfl (one_of HT_.out (by kernel_rfl)) (by decide) (fun K hK => ?_)
   refine goes_ Tryz.func82 (by kernel_rfl) rfl #[.agg #[.slice A0_0 l0_0.length c0_0]] (by rfl) rfl rfl (by (try simp only [List.map_toArray, List.map_cons, List.map_nil]); first | done | rfl | (simp only [List.length_drop, List.length_take]; rfl)) ?_
   with_reducible refine (Y32.calls _ _ l0_0 t538 _ ?side1 ?side2 A5.out).mono ?_
   (case side1 => exact cQ (Kd.C_below HR0_0.out HB.out))
   (case side2 => exact HC0_0.out)
   rintro e w13 ⟨rfl, hb⟩
   refine ⟨_, rfl, ?_⟩
   have n0_ := aM (Kd.R_below (rQ HO537) hb)
   have n1_ := aM (blk_below (qQ BK533) hb)
   have n2_ := aM (below_step bq hb)
   clear HO537
   clear BK533
   clear HB
   have HO537 := n0_
   have BK533 := n1_
   have HB := n2_
   clear n0_ n1_ n2_
   (try clear hb)
   (try clear hb2)
   (try clear hk)
   (try clear hi)
   refine hK.out _ _ ((blk_cell BK533.out 0).trans rfl) (fun hHeld => ?_)
   clear hK K
   refine nA 14 (h := ?_)
   refine pA 6 4 (h := ?_)
   refine one_ (i := 5) (N := some 15) #[true, true, true, true, true, true, true, false] rfl rfl (one_of HT_.out (by kernel_rfl)) (by decide) (fun K hK => ?_)
   refine Kd.R_make_step (Kd.int .i64) _ 3 (by rfl) (N := 15) rfl 24 _ _ rfl t538 rfl rfl Tryz.underlying24 (.int .i64 0) 8 info3 rfl (by decide) (by omega) 0 (ok := fun _ => True) (okp := fun _ => True) rfl (fun _ hk => hk) trivial (odt) (Nat.le_trans (Nat.mul_le_mul_right _ (odt : t538.toNat ≤ 35184372088832)) (by omega)) (Below.refl _ _) (Nat.le_refl _) ?_
   intro v540 w14 ho15 hb hg_ hnew_
   clear hg_ hnew_
   (first | rw [← Ny539.out] at ho15 | (simp only [Int.reduceToNat] at ho15; rw [← Ny539.out] at ho15))
   have n0_ := aM (Kd.R_elder' (rQ HO537) (Kd.R_base ho15) hb)
   have n1_ := aM (Kd.R_lower (Kd.R_new' ho15 (Kd.R_lt (rQ HO537))) (below_size bq))
   have n2_ := aM (blk_below (qQ BK533) hb)
   have n3_ := aM (below_step bq hb)
   clear HO537
   clear BK533
   clear HB
   have HO537 := n0_
   have HO541 := n1_
   have BK533 := n2_
   have HB := n3_
   clear n0_ n1_ n2_ n3_
   clear hb ho15
   refine hK.out _ _ ((blk_cell BK533.out 0).trans rfl) (fun hHeld => ?_)
   clear hK K
   refine nA 15 (h := ?_)
   exact norm_ (by simp only [putAll, Act.put, List.setIfInBounds_toArray, List.set_cons_zero, List.set_cons_succ]) (hCont (v536, v540) _ ⟨hHeld, (by (with_reducible repeat first|apply rA|apply rN|apply rD); exact Kd.R_mono HO537.out (fun _ hk => hk.2)), (by (with_reducible repeat first|apply rA|apply rN|apply rD); exact Kd.R_mono HO541.out (fun _ hk => hk.2)), (qQ BK533), bq⟩)
  ·skip
   refine goes_ Tryz.func82 (by kernel_rfl) rfl #[.agg #[.slice A0_0 l0_0.length c0_0]] (by rfl) rfl rfl (by (try simp only [List.map_toArray, List.map_cons, List.map_nil]); first | done | rfl | (simp only [List.length_drop, List.length_take]; rfl)) ?_
   with_reducible refine (Y32.calls _ _ l0_0 t538 _ ?side1 ?side2 A5.out).mono ?_
   (case side1 => exact cQ (Kd.C_below HR0_0.out HB.out))
   (case side2 => exact HC0_0.out)
   rintro e w11 ⟨rfl, hb⟩
   refine ⟨_, rfl, ?_⟩
   have n0_ := aM (blk_below (qQ BK533) hb)
   have n1_ := aM (below_step bq hb)
   clear BK533
   clear HB
   have BK533 := n0_
   have HB := n1_
   clear n0_ n1_
   (try clear hb)
   (try clear hb2)
   (try clear hk)
   (try clear hi)
   refine hK.out _ _ ((blk_cell BK533.out 0).trans rfl) (fun hHeld => ?_)
   clear hK K
   refine nA 14 (h := ?_)
   refine two_ (i := 2) (j := 5) (Ni := some 12) (Nj := some 15) #[true, true, true, true, true, false, false, false] #[true, true, false, true, true, true, false, false] rfl rfl rfl rfl (two_of HT_.out (by kernel_rfl)) (by decide) (by decide) (fun K hK => ?_) (fun K hK => ?_)
   ·skip
    refine Kd.R_make_step (Kd.int .i64) _ 3 (by rfl) (N := 12) rfl 24 _ _ rfl t534 rfl rfl Tryz.underlying24 (.int .i64 0) 8 info3 rfl (by decide) (by omega) 0 (ok := fun _ => True) (okp := fun _ => True) rfl (fun _ hk => hk) trivial (odt) (Nat.le_trans (Nat.mul_le_mul_right _ (odt : t534.toNat ≤ 35184372088832)) (by omega)) (Below.refl _ _) (Nat.le_refl _) ?_
    intro v536 w12 ho13 hb hg_ hnew_
    clear hg_ hnew_
    (first | rw [← Ny535.out] at ho13 | (simp only [Int.reduceToNat] at ho13; rw [← Ny535.out] at ho13))
    have n0_ := aM (Kd.R_lower ho13 (below_size bq))
    have n1_ := aM (blk_below (qQ BK533) hb)
    have n2_ := aM (below_step bq hb)
    clear BK533
    clear HB
    have HO537 := n0_
    have BK533 := n1_
    have HB := n2_
    clear n0_ n1_ n2_
    clear hb ho13
    refine hK.out _ _ ((blk_cell BK533.out 0).trans rfl) (fun hHeld => ?_)
    clear hK K
    refine nA 12 (h := ?_)
    refine pA 6 4 (h := ?_)
    refine one_ (i := 5) (N := some 15) #[true, true, true, true, true, true, true, false] rfl rfl (one_of HT_.out (by kernel_rfl)) (by decide) (fun K hK => ?_)
    refine Kd.R_make_step (Kd.int .i64) _ 3 (by rfl) (N := 15) rfl 24 _ _ rfl t538 rfl rfl Tryz.underlying24 (.int .i64 0) 8 info3 rfl (by decide) (by omega) 0 (ok := fun _ => True) (okp := fun _ => True) rfl (fun _ hk => hk) trivial (odt) (Nat.le_trans (Nat.mul_le_mul_right _ (odt : t538.toNat ≤ 35184372088832)) (by omega)) (Below.refl _ _) (Nat.le_refl _) ?_
    intro v540 w14 ho15 hb hg_ hnew_
    clear hg_ hnew_
    (first | rw [← Ny539.out] at ho15 | (simp only [Int.reduceToNat] at ho15; rw [← Ny539.out] at ho15))
    have n0_ := aM (Kd.R_elder' (rQ HO537) (Kd.R_base ho15) hb)
    have n1_ := aM (Kd.R_lower (Kd.R_new' ho15 (Kd.R_lt (rQ HO537))) (below_size bq))
    have n2_ := aM (blk_below (qQ BK533) hb)
    have n3_ := aM (below_step bq hb)
    clear HO537
    clear BK533
    clear HB
    have HO537 := n0_
    have HO541 := n1_
    have BK533 := n2_
    have HB := n3_
    clear n0_ n1_ n2_ n3_
    clear hb ho15
    refine hK.out _ _ ((blk_cell BK533.out 0).trans rfl) (fun hHeld => ?_)
    clear hK K
    refine nA 15 (h := ?_)
    exact norm_ (by simp only [putAll, Act.put, List.setIfInBounds_toArray, List.set_cons_zero, List.set_cons_succ]) (hCont (v536, v540) _ ⟨hHeld, (by (with_reducible repeat first|apply rA|apply rN|apply rD); exact Kd.R_mono HO537.out (fun _ hk => hk.2)), (by (with_reducible repeat first|apply rA|apply rN|apply rD); exact Kd.R_mono HO541.out (fun _ hk => hk.2)), (qQ BK533), bq⟩)
   ·skip
    refine Kd.R_make_step (Kd.int .i64) _ 3 (by rfl) (N := 15) rfl 24 _ _ rfl t538 rfl rfl Tryz.underlying24 (.int .i64 0) 8 info3 rfl (by decide) (by omega) 0 (ok := fun _ => True) (okp := fun _ => True) rfl (fun _ hk => hk) trivial (odt) (Nat.le_trans (Nat.mul_le_mul_right _ (odt : t538.toNat ≤ 35184372088832)) (by omega)) (Below.refl _ _) (Nat.le_refl _) ?_
    intro v540 w12 ho13 hb hg_ hnew_
    clear hg_ hnew_
    (first | rw [← Ny539.out] at ho13 | (simp only [Int.reduceToNat] at ho13; rw [← Ny539.out] at ho13))
    have n0_ := aM (Kd.R_lower ho13 (below_size bq))
    have n1_ := aM (blk_below (qQ BK533) hb)
    have n2_ := aM (below_step bq hb)
    clear BK533
    clear HB
    have HO541 := n0_
    have BK533 := n1_
    have HB := n2_
    clear n0_ n1_ n2_
    clear hb ho13
    refine hK.out _ _ ((blk_cell BK533.out 0).trans rfl) (fun hHeld => ?_)
    clear hK K
    refine nA 15 (h := ?_)
    refine one_ (i := 2) (N := some 12) #[true, true, true, true, true, true, false, false] rfl rfl (one_of HT_.out (by kernel_rfl)) (by decide) (fun K hK => ?_)
    refine Kd.R_make_step (Kd.int .i64) _ 3 (by rfl) (N := 12) rfl 24 _ _ rfl t534 rfl rfl Tryz.underlying24 (.int .i64 0) 8 info3 rfl (by decide) (by omega) 0 (ok := fun _ => True) (okp := fun _ => True) rfl (fun _ hk => hk) trivial (odt) (Nat.le_trans (Nat.mul_le_mul_right _ (odt : t534.toNat ≤ 35184372088832)) (by omega)) (Below.refl _ _) (Nat.le_refl _) ?_
    intro v536 w14 ho15 hb hg_ hnew_
    clear hg_ hnew_
    (first | rw [← Ny535.out] at ho15 | (simp only [Int.reduceToNat] at ho15; rw [← Ny535.out] at ho15))
    have n0_ := aM (Kd.R_elder' (rQ HO541) (Kd.R_base ho15) hb)
    have n1_ := aM (Kd.R_lower (Kd.R_new' ho15 (Kd.R_lt (rQ HO541))) (below_size bq))
    have n2_ := aM (blk_below (qQ BK533) hb)
    have n3_ := aM (below_step bq hb)
    clear HO541
    clear BK533
    clear HB
    have HO541 := n0_
    have HO537 := n1_
    have BK533 := n2_
    have HB := n3_
    clear n0_ n1_ n2_ n3_
    clear hb ho15
    refine hK.out _ _ ((blk_cell BK533.out 0).trans rfl) (fun hHeld => ?_)
    clear hK K
    refine nA 12 (h := ?_)
    refine pA 6 4 (h := ?_)
    exact norm_ (by simp only [putAll, Act.put, List.setIfInBounds_toArray, List.set_cons_zero, List.set_cons_succ]) (hCont (v536, v540) _ ⟨hHeld, (by (with_reducible repeat first|apply rA|apply rN|apply rD); exact Kd.R_mono HO537.out (fun _ hk => hk.2)), (by (with_reducible repeat first|apply rA|apply rN|apply rD); exact Kd.R_mono HO541.out (fun _ hk => hk.2)), (qQ BK533), bq⟩)
 rintro ⟨v536, v540⟩ w16 ⟨hS_, h0_, h1_, h2_, h3_⟩
 have n0_ : Aside0 (Kd.R (Kd.int .i64) 3 w16 w.heap.size (fun k_ => some k_ ≠ (v540 : Value).ownBlock) v536 y535) := ⟨h0_⟩
 have n1_ : Aside0 (Kd.R (Kd.int .i64) 3 w16 w.heap.size (fun k_ => some k_ ≠ (v536 : Value).ownBlock) v540 y539) := ⟨h1_⟩
 have n2_ : Aside0 (w16.heap[gb533]? = some (.cells #[.slice A0_0 l0_0.length c0_0] 41 (0, 0))) := ⟨h2_⟩
 have n3_ : Aside0 (Below w.heap.size w w16) := ⟨h3_⟩
 clear BK533
 clear HB
 clear h0_ h1_ h2_ h3_
 have HO537 := n0_
 have HO541 := n1_
 have BK533 := n2_
 have HB := n3_
 clear n0_ n1_ n2_ n3_
 have hHeld : w16.cell? ⟨gb533, 0, none⟩ = some (.slice A0_0 l0_0.length c0_0) := hS_
 refine norm_ (a' := ?_) ?_ ?_
 rotate_left
 ·simp only [putAll, Act.put, List.setIfInBounds_toArray, List.set_cons_zero, List.set_cons_succ]
  rfl
 refine pA 7 5 (h := ?_)
 refine done_ (done_of HT_.out (by kernel_rfl)) ?_
 have hcz17_0 := zc10 BK533
 have hfz17_0 := blk_frozen BK533.out 0
 try go_wp2
 go_loopg [19] k (fun kq v19 w' => ∃ (x4_1 : List Int) (x5_1 : List Int) (x19_1 : Int), v19 = .int .i64 x19_1 ∧ Aside0 (Y10.l0 kq x4_1 x5_1 l0_0 (l0_0.length : Int) x19_1 = some (r1, r2)) ∧ Aside0 (kq ≤ k) ∧ Aside0 (Kd.R (Kd.int .i64) 3 w' w.heap.size (fun k_ => some k_ ≠ (v540 : Value).ownBlock) v536 x4_1) ∧ Aside0 (Kd.R (Kd.int .i64) 3 w' w.heap.size (fun k_ => some k_ ≠ (v536 : Value).ownBlock) v540 x5_1) ∧ Aside0 (w'.heap[gb533]? = some (.cells #[(.slice A0_0 l0_0.length c0_0)] 41 (0, 0))) ∧ Aside0 (Below w.heap.size w w'))
 case atStart => exact ⟨(y535), (y539), (0), eR, H', ⟨Nat.le_refl _⟩, ⟨rQ HO537⟩, ⟨rQ HO541⟩, ⟨qQ BK533⟩, ⟨bq⟩⟩
 case round =>
  clear H'
  try clear c3
  try clear c3b0
  try clear c3b1
  try clear c4
  try clear c4b0
  try clear c4b1
  try clear c6
  try clear c6b0
  try clear c6b1
  try clear c7
  try clear c7b0
  try clear c7b1
  try clear hcz17_0
  try clear hfz17_0
  obtain ⟨x4_1, x5_1, x19_1, rfl, HA, HK1, HO_4, HO_5, BK533, HB⟩ := hrel
  cases gk with
  | zero => exact absurd HA.out (by simp [Y10.l0])
  | succ k1 =>
   have H := HA.out
   clear HA
   simp only [Y10.l0] at H
   by_cases c18 : x19_1 < (l0_0.length : Int)
   ·rw [if_pos c18] at H
    have c18b0 := decide_eq_true c18
    clear c18
    replace H := iD2 H
    obtain ⟨c19b0, c20b0, H⟩ := H
    have H' := aM H
    clear H
    have p542 : 0 ≤ (x19_1 : Int) := odt
    have q542 : x19_1 < (l0_0.length : Int) := odt
    obtain ⟨ad542, A542_0, c542_0, e542, hx542_0, hl542_0, hi542_0⟩ := at_L4 HR0_0.out x19_1 p542 q542
    cases e542
    replace hx542_0 := (HB.out.cell (World.block_lt_of_cell? w _ hx542_0)).trans hx542_0
    have HR542_0 := aM hi542_0
    have HC542_0 := aM hl542_0
    clear hi542_0 hl542_0
    replace p542 := eq_true p542
    replace q542 := eq_true q542
    go_wp2
    go_loopg [26] k1 (fun kq v26 w' => ∃ (x4_2 : List Int) (x5_2 : List Int) (x26_2 : Int), v26 = .int .i64 x26_2 ∧ Aside0 (Y10.l1 kq x4_2 x5_2 x19_1 l0_0 (l0_0.length : Int) x19_1 (rd_L4 l0_0 x19_1) ((rd_L4 l0_0 x19_1).length : Int) x26_2 = some (r1, r2)) ∧ Aside0 (kq ≤ k1) ∧ Aside0 (Kd.R (Kd.int .i64) 3 w' w.heap.size (fun k_ => some k_ ≠ (v540 : Value).ownBlock) v536 x4_2) ∧ Aside0 (Kd.R (Kd.int .i64) 3 w' w.heap.size (fun k_ => some k_ ≠ (v536 : Value).ownBlock) v540 x5_2) ∧ Aside0 (w'.heap[gb533]? = some (.cells #[(.slice (some ad542) l0_0.length c0_0)] 41 (0, 0))) ∧ Aside0 (Below w.heap.size w w'))
    case atStart => exact ⟨(x4_1), (x5_1), (0), eR, H', ⟨Nat.le_refl _⟩, ⟨rQ HO_4⟩, ⟨rQ HO_5⟩, ⟨qQ BK533⟩, ⟨bq⟩⟩
    case round =>
     clear H'
     try clear c3
     try clear c3b0
     try clear c3b1
     try clear c4
     try clear c4b0
     try clear c4b1
     try clear c6
     try clear c6b0
     try clear c6b1
     try clear c7
     try clear c7b0
     try clear c7b1
     try clear c18
     try clear c18b0
     try clear c19b0
     try clear c20b0
     try clear hcz17_0
     try clear hfz17_0
     try clear hx542_0
     try clear p542
     try clear q542
     obtain ⟨x4_2, x5_2, x26_2, rfl, HA, HK2, HO_4, HO_5, BK533, HB⟩ := hrel
     cases gk with
     | zero => exact absurd HA.out (by simp [Y10.l1])
     | succ k2 =>
      have H := HA.out
      clear HA
      simp only [Y10.l1] at H
      by_cases c21 : x26_2 < ((rd_L4 l0_0 x19_1).length : Int)
      ·rw [if_pos c21] at H
       have c21b0 := decide_eq_true c21
       clear c21
       replace H := iD4 H
       obtain ⟨c22b0, c23b0, c24b0, c25b0, H⟩ := H
       obtain ⟨y545, hy545⟩ := nE ((x4_2.set (x19_1 : Int).toNat (wrap64 ((rd x4_2 x19_1) + (rd (rd_L4 l0_0 x19_1) x26_2)))) : List Int)
       try rw [← hy545] at H
       try with_reducible replace H := (Option.bind_some _ _).symm.trans H
       try dsimp only at H
       have Ny545 := aM hy545
       clear hy545
       replace H := iD H
       obtain ⟨c27b0, H⟩ := H
       obtain ⟨y547, hy547⟩ := nE ((x5_2.set (x26_2 : Int).toNat (wrap64 ((rd x5_2 x26_2) + (rd (rd_L4 l0_0 x19_1) x26_2)))) : List Int)
       try rw [← hy547] at H
       try with_reducible replace H := (Option.bind_some _ _).symm.trans H
       try dsimp only at H
       have Ny547 := aM hy547
       clear hy547
       have H' := aM H
       clear H
       have p543 : 0 ≤ (x26_2 : Int) := odt
       have q543 : x26_2 < ((rd_L4 l0_0 x19_1).length : Int) := odt
       obtain ⟨ad543, e543, hx543_0⟩ := Kd.at_int HR542_0.out x26_2 p543 q543
       cases e543
       replace hx543_0 := (HB.out.cell (World.block_lt_of_cell? w _ hx543_0)).trans hx543_0
       replace p543 := eq_true p543
       replace q543 := eq_true q543
       obtain ⟨Ao29, co29, eo29⟩ := Kd.R_slice HO_4.out
       subst eo29
       have p544 : 0 ≤ (x19_1 : Int) := odt
       have q544 : x19_1 < (x4_2.length : Int) := odt
       obtain ⟨ad544, e544, hx544_0⟩ := Kd.at_int (Kd.R_reads' HO_4.out).2.2 x19_1 p544 q544
       cases e544
       replace p544 := eq_true p544
       replace q544 := eq_true q544
       have p26 : 0 ≤ (x19_1 : Int) := odt
       have q26 : (x19_1 : Int) < ((x4_2.length : Int) : Int) := odt
       obtain ⟨go26, co26, eo26, gb26, gl26, cl26, HG26⟩ := Kd.R_form HO_4.out (by omega)
       (first | cases eo26 | (injection eo26 with ea_ en_ ec_; (first | subst ea_ | (injection ea_ with ea_; subst ea_)); subst ec_; clear en_))
       have GB26 := aM gb26
       have GG26 := aM HG26
       clear gb26 gl26 HG26
       (first | simp only [add_plain] at hx544_0 | skip)
       obtain ⟨hx26_0, hf26_0⟩ := Kd.R_celln 0 HO_4.out (x19_1 : Int) p26 q26
       replace p26 := eq_true p26
       replace q26 := eq_true q26
       have HP30 := Kd.R_putg HO_4.out (x19_1 : Int) (wrap64 ((rd x4_2 x19_1) + (rd (rd_L4 l0_0 x19_1) x26_2)))
       go_wp2_with (first | ((with_reducible refine gate_store (t := 3) (p := 37) rfl ?_); refine sE (wr.setCell ⟨go26, (x19_1 : Int).toNat, none⟩ (.int .i64 (wrap64 ((rd x4_2 x19_1) + (rd (rd_L4 l0_0 x19_1) x26_2))))) 3 37 ?_; intro w31 hw; have hg : wr.grownBy w31 (some go26) := (by rw [hw]; exact HP30.2); have hp_ : Kd.R (Kd.int .i64) 3 w31 w.heap.size (fun k_ => some k_ ≠ (v540 : Value).ownBlock) (.slice (some ⟨go26, 0, none⟩) x4_2.length co29) y545 := (by rw [hw, Ny545.out]; exact HP30.1); clear HP30; have _ := aM (hp_); have _ := aM (Kd.R_after (v := (.slice (some ⟨go26, 0, none⟩) x4_2.length co29)) (v1 := (.slice (some ⟨go26, 0, none⟩) x4_2.length co29)) (ok := (fun _ => True)) (by (with_reducible repeat first|apply rA|apply rN|apply rD); exact Kd.R_mono HO_5.out (fun _ hk => ⟨trivial, hk⟩)) hg (.inl rfl)); have _ := aM (blk_grown (g := gb533) (o := .cells #[.slice (some ad542) l0_0.length c0_0] 41 (0, 0)) (qQ BK533) hg (Kd.R_ne HO_4.out BK533.out (by decide))); have _ := aM ((by rw [hw]; exact below_set (HB.out) GB26.out : Below w.heap.size w w31)); clear HO_4 HO_5 BK533 HB; rename_i HO_4 HO_5 BK533 HB; clear hg hw hp_; obtain ⟨Ao32, co32, eo32⟩ := Kd.R_slice HO_5.out; subst eo32; have p546 : 0 ≤ (x26_2 : Int) := odt; have q546 : x26_2 < (x5_2.length : Int) := odt; obtain ⟨ad546, e546, hx546_0⟩ := Kd.at_int (Kd.R_reads' HO_5.out).2.2 x26_2 p546 q546; cases e546; replace p546 := eq_true p546; replace q546 := eq_true q546; have p28 : 0 ≤ (x26_2 : Int) := odt; have q28 : (x26_2 : Int) < ((x5_2.length : Int) : Int) := odt; obtain ⟨go28, co28, eo28, gb28, gl28, cl28, HG28⟩ := Kd.R_form HO_5.out (by omega); (first | cases eo28 | (injection eo28 with ea_ en_ ec_; (first | subst ea_ | (injection ea_ with ea_; subst ea_)); subst ec_; clear en_)); have GB28 := aM gb28; have GG28 := aM HG28; clear gb28 gl28 HG28; (first | simp only [add_plain] at hx546_0 | skip); obtain ⟨hx28_0, hf28_0⟩ := Kd.R_celln 0 HO_5.out (x26_2 : Int) p28 q28; replace p28 := eq_true p28; replace q28 := eq_true q28; have n_ := aM (Kd.R_mono (ok' := (fun k_ => some k_ ≠ (.slice (some ⟨go26, 0, none⟩) x4_2.length co29 : Value).ownBlock)) HO_5.out (fun k_ hk => hk.2)); clear HO_5; have HO_5 := n_; clear n_; obtain ⟨hy33_, hz33_⟩ := Kd.R_celln 0 HO_5.out (x26_2 : Int) (odt) (odt); have HP33 := Kd.R_putg HO_5.out (x26_2 : Int) (wrap64 ((rd x5_2 x26_2) + (rd (rd_L4 l0_0 x19_1) x26_2)))) | ((with_reducible refine gate_store (t := 3) (p := 44) rfl ?_); refine sE (w31.setCell ⟨go28, (x26_2 : Int).toNat, none⟩ (.int .i64 (wrap64 ((rd x5_2 x26_2) + (rd (rd_L4 l0_0 x19_1) x26_2))))) 3 44 ?_; intro w34 hw; have hg : w31.grownBy w34 (some go28) := (by rw [hw]; exact HP33.2); have hp_ : Kd.R (Kd.int .i64) 3 w34 w.heap.size (fun k_ => some k_ ≠ (.slice (some ⟨go26, 0, none⟩) x4_2.length co29 : Value).ownBlock) (.slice (some ⟨go28, 0, none⟩) x5_2.length co32) y547 := (by rw [hw, Ny547.out]; exact HP33.1); clear HP33; have _ := aM (Kd.R_after (v := (.slice (some ⟨go28, 0, none⟩) x5_2.length co32)) (v1 := (.slice (some ⟨go28, 0, none⟩) x5_2.length co32)) (ok := (fun _ => True)) (by (with_reducible repeat first|apply rA|apply rN|apply rD); exact Kd.R_mono HO_4.out (fun _ hk => ⟨trivial, hk⟩)) hg (.inl rfl)); have _ := aM (hp_); have _ := aM (blk_grown (g := gb533) (o := .cells #[.slice (some ad542) l0_0.length c0_0] 41 (0, 0)) (qQ BK533) hg (Kd.R_ne HO_5.out BK533.out (by decide))); have _ := aM ((by rw [hw]; exact below_set (HB.out) GB28.out : Below w.heap.size w w34)); clear HO_4 HO_5 BK533 HB; rename_i HO_4 HO_5 BK533 HB; clear hg hw hp_))
       go_roundg k2
       case measure => have := HK1.out; have := HK2.out; omega
       case rel => exact ⟨(y545), (y547), (wrap64 (x26_2 + 1)), eR, H', ⟨by have := HK1.out; have := HK2.out; omega⟩, ⟨by (with_reducible repeat first|apply rA|apply rN|apply rD); exact Kd.R_mono HO_4.out (fun _ hk => hk.2)⟩, ⟨rQ HO_5⟩, ⟨qQ BK533⟩, ⟨bq⟩⟩
      ·rw [if_neg c21] at H
       have c21b0 := decide_eq_false c21
       clear c21
       have H' := aM H
       clear H
       go_wp2
       go_roundg k2
       case measure => have := HK1.out; have := HK2.out; omega
       case rel => exact ⟨(x4_2), (x5_2), (wrap64 (x19_1 + 1)), eR, H', ⟨by have := HK1.out; have := HK2.out; omega⟩, ⟨rQ HO_4⟩, ⟨rQ HO_5⟩, ⟨qQ BK533⟩, ⟨bq⟩⟩
   ·rw [if_neg c18] at H
    have c18b0 := decide_eq_false c18
    clear c18
    simp only [Option.some.injEq, Prod.mk.injEq] at H
    obtain ⟨rfl, rfl⟩ := H
    go_wp2
    go_ret2
    exact ⟨_, _, eE, rQ HO_4, rQ HO_5, bq⟩
def slices_Index_int_int.l0 : Nat → List Int → Int → Int → Int → Option (Int)
 | 0, _, _, _, _ => none
 | k + 1, x0, x1, x7, x8 => if x8 < x7 then (if 0 ≤ x8 then (if x8 < (x0.length : Int) then (if x1 = (rd x0 x8) then (some x8) else (slices_Index_int_int.l0 k x0 x1 x7 (wrap64 (x8 + 1)))) else (none)) else (none)) else (some (-1))
def slices_Index_int_int.f (k : Nat) (l0 : List Int) (a1 : Int) : Option (Int) := slices_Index_int_int.l0 k l0 a1 (l0.length : Int) 0
theorem slices_Index_int_int.calls (k : Nat) (A0 : Option Addr) (c0 : Nat) (l0 : List Int) (a1 : Int) (r : Int) (w : World) (hr0 : Kd.C (Kd.int .i64) w A0 l0.length l0) (hc0 : l0.length ≤ c0) (h : slices_Index_int_int.f k l0 a1 = some r) :
  Calls Tryz.prog 95 #[.slice A0 l0.length c0, .int .i64 a1] w fun e w' => e = .returned (.int .i64 r) ∧ Drawn0 w w' := by
 have HR0 := aM hr0
 have HC0 := aM hc0
 clear hr0 hc0
 have H : (slices_Index_int_int.l0 k l0 a1 (l0.length : Int) 0) = some r := h
 clear h
 have H' := aM H
 clear H
 go_enter Tryz.func95, Tryz.ntmps95
 go_wp2
 go_loopg [8] k (fun kq v8 w' => ∃ (x8_1 : Int), v8 = .int .i64 x8_1 ∧ Aside0 (slices_Index_int_int.l0 kq l0 a1 (l0.length : Int) x8_1 = some r) ∧ Aside0 (kq ≤ k) ∧ Drawn0 w w')
 case atStart => exact ⟨(0), eR, H', ⟨Nat.le_refl _⟩, dQ⟩
 case round =>
  clear H'
  obtain ⟨x8_1, rfl, HA, HK1, ⟨m1, rfl⟩⟩ := hrel
  cases gk with
  | zero => exact absurd HA.out (by simp [slices_Index_int_int.l0])
  | succ k1 =>
   have H := HA.out
   clear HA
   simp only [slices_Index_int_int.l0] at H
   by_cases c3 : x8_1 < (l0.length : Int)
   ·rw [if_pos c3] at H
    have c3b0 := decide_eq_true c3
    clear c3
    replace H := iD2 H
    obtain ⟨c4b0, c5b0, H⟩ := H
    by_cases c6 : a1 = (rd l0 x8_1)
    ·rw [if_pos c6] at H
     have c6b0 : (a1 == (rd l0 x8_1)) = true := beq_iff_eq.mpr c6
     have c6b1 : (a1 != (rd l0 x8_1)) = false := bne_eq_false_iff_eq.mpr c6
     clear c6
     obtain rfl := Option.some.inj H
     have p548 : 0 ≤ (x8_1 : Int) := odt
     have q548 : x8_1 < (l0.length : Int) := odt
     obtain ⟨ad548, e548, hx548_0⟩ := Kd.at_int HR0.out x8_1 p548 q548
     cases e548
     replace p548 := eq_true p548
     replace q548 := eq_true q548
     go_wp2
     go_ret
     exact ⟨by first | rfl | (simp; done) | (simp [*]; done), dQ⟩
    ·rw [if_neg c6] at H
     have c6b0 : (a1 == (rd l0 x8_1)) = false := beq_eq_false_iff_ne.mpr c6
     have c6b1 : (a1 != (rd l0 x8_1)) = true := bne_iff_ne.mpr c6
     have H' := aM H
     clear H
     have p548 : 0 ≤ (x8_1 : Int) := odt
     have q548 : x8_1 < (l0.length : Int) := odt
     obtain ⟨ad548, e548, hx548_0⟩ := Kd.at_int HR0.out x8_1 p548 q548
     cases e548
     replace p548 := eq_true p548
     replace q548 := eq_true q548
     go_wp2
     go_roundg k1
     case measure => have := HK1.out; omega
     case rel => exact ⟨(wrap64 (x8_1 + 1)), eR, H', ⟨by have := HK1.out; omega⟩, dQ⟩
   ·rw [if_neg c3] at H
    have c3b0 := decide_eq_false c3
    clear c3
    obtain rfl := Option.some.inj H
    go_wp2
    go_ret
    exact ⟨by first | rfl | (simp; done) | (simp [*]; done), dQ⟩
def slices_Contains_int_int.f (k : Nat) (l0 : List Int) (a1 : Int) : Option (Bool) := (slices_Index_int_int.f k l0 a1).bind fun t549 => (some (decide (t549 ≥ 0)))
theorem slices_Contains_int_int.calls (k : Nat) (A0 : Option Addr) (c0 : Nat) (l0 : List Int) (a1 : Int) (r : Bool) (w : World) (hr0 : Kd.C (Kd.int .i64) w A0 l0.length l0) (hc0 : l0.length ≤ c0) (h : slices_Contains_int_int.f k l0 a1 = some r) :
  Calls Tryz.prog 162 #[.slice A0 l0.length c0, .int .i64 a1] w fun e w' => e = .returned (.bool r) ∧ Drawn0 w w' := by
 have HR0 := aM hr0
 have HC0 := aM hc0
 clear hr0 hc0
 unfold slices_Contains_int_int.f at h
 have H := h
 clear h
 replace H := bS H
 obtain ⟨t549, A3, H⟩ := H
 try dsimp only at H
 obtain rfl := Option.some.inj H
 go_enter Tryz.func162, Tryz.ntmps162
 go_wp2_with (first | ((with_reducible refine gate_callee (f := 95) rfl ?_); refine gL (some 7) Tryz.func95 #[.slice A0 l0.length c0, .int .i64 a1] ?_; (with_reducible refine (slices_Index_int_int.calls k _ _ l0 a1 t549 _ (cQ HR0.out) HC0.out A3.out).mono ?_); rintro e w' ⟨rfl, ⟨nd, rfl⟩⟩; refine ⟨_, rfl, ?_⟩))
 go_ret
 exact ⟨by first | rfl | (simp; done) | (simp [*]; done), dQ⟩
def Y58.f (a0 : Int) : Option (Bool) := some (a0 != 0)
theorem Y58.calls (a0 : Int) (r : Bool) (w : World) (h : Y58.f a0 = some r) :
  Calls Tryz.prog 168 #[.int .i64 a0] w fun e w' => e = .returned (.bool r) ∧ Drawn0 w w' := by
 have H : (some (a0 != 0)) = some r := h
 clear h
 obtain rfl := Option.some.inj H
 go_enter Tryz.func168, Tryz.ntmps168
 go_wp2
 go_ret
 exact ⟨by first | rfl | (simp; done) | (simp [*]; done), dQ⟩
def slices_IndexFunc_int_int.f (l0 : List Int) : Option Int := some (if l0.any (fun x => x != 0) then 0 else -1)
set_option maxHeartbeats 2000000 in
set_option maxRecDepth 100000 in
theorem slices_IndexFunc_int_int.finds (A0 : Option Addr) (c0 : Nat) (l0 : List Int) (w : World) (hr0 : Kd.C (Kd.int .i64) w A0 l0.length l0) :
    Calls Tryz.prog 213 #[.slice A0 l0.length c0, .func (.func 168) #[] #[]] w fun e w' => (∃ r : Int, e = .returned (.int .i64 r) ∧ Aside0 (decide (r ≥ 0) = l0.any (fun x => x != 0))) ∧ Drawn0 w w' := by
 have HL := aM hr0.2.1
 have HR0 := aM hr0
 clear hr0
 have hle := HL.out
 go_enter Tryz.func213, Tryz.ntmps213
 go_wp2
 go_loopg [5, 8] l0.length (fun gg _ s8 w' => ∃ i : Nat, i ≤ l0.length ∧ l0.length - i ≤ gg ∧ s8 = .int .i64 i ∧ Aside0 (∀ j, j < i → l0.getD j 0 = 0) ∧ Drawn0 w w')
 case atStart => exact ⟨0, Nat.zero_le _, by omega, rfl, ⟨fun j hj => absurd hj (Nat.not_lt_zero _)⟩, Drawn0.refl _⟩
 case round => (
 obtain ⟨i, hi, hg, rfl, HZ, ⟨m1, rfl⟩⟩ := hrel
 by_cases hlt : i < l0.length
 · {
 obtain ⟨ad, ea, hx⟩ := Kd.at_int HR0.out (i : Int) (by omega) (by omega)
 cases ea
 have hlz : (i : Int) < (l0.length : Int) := by omega
 simp only [Int.toNat_natCast] at hx
 by_cases h0 : rd l0 (i : Int) = 0
 · {
 have hq := (show (Y58.f (rd l0 (i : Int))) = some false by unfold Y58.f; simp [h0])
 have HQ := aM hq
 have H0 := aM h0
 clear hq h0
 go_wp2_with (first | (go_at_call 168; refine (Y58.calls (rd l0 (i : Int)) false _ HQ.out).mono ?_; rintro e w' ⟨rfl, ⟨nd, rfl⟩⟩))
 obtain ⟨k, rfl⟩ : ∃ k, gk = k + 1 := ⟨gk - 1, by omega⟩
 go_roundg k
 case measure => omega
 case rel => exact ⟨i + 1, by omega, by omega, by go_num, ⟨fun j hj => by
  by_cases e : j = i
  · subst e; have := H0.out; simpa [rd] using this
  · exact HZ.out j (by omega)⟩, dQ⟩}
 · {
 have hq := (show (Y58.f (rd l0 (i : Int))) = some true by unfold Y58.f; simp [h0])
 have HQ := aM hq
 have H0 := aM h0
 clear hq h0
 go_wp2_with (first | (go_at_call 168; refine (Y58.calls (rd l0 (i : Int)) true _ HQ.out).mono ?_; rintro e w' ⟨rfl, ⟨nd, rfl⟩⟩))
 go_ret
 refine ⟨⟨_, rfl, ⟨?_⟩⟩, dQ⟩
 have h1 : l0.any (fun x => x != 0) = true := by {
 rw [List.any_eq_true]
 refine ⟨l0[i], List.getElem_mem hlt, ?_⟩
 have := H0.out
 simp [rd, List.getD_eq_getElem?_getD, hlt] at this
 simpa using this}
 rw [h1]; simp}}
 · {
 go_wp2
 go_ret
 refine ⟨⟨_, rfl, ⟨?_⟩⟩, dQ⟩
 have h1 : l0.any (fun x => x != 0) = false := by {
 rw [List.any_eq_false]
 intro x hx
 obtain ⟨j, hj, rfl⟩ := List.getElem_of_mem hx
 have := HZ.out j (by omega)
 simp [List.getD_eq_getElem?_getD, hj] at this
 simp [this]}
 rw [h1]; simp})
def slices_ContainsFunc_int_int.f (l0 : List Int) : Option Bool := some (l0.any (fun x => x != 0))
set_option maxHeartbeats 2000000 in
set_option maxRecDepth 100000 in
theorem slices_ContainsFunc_int_int.calls (A0 : Option Addr) (c0 : Nat) (l0 : List Int) (r : Bool) (w : World) (hr0 : Kd.C (Kd.int .i64) w A0 l0.length l0) (hc0 : l0.length ≤ c0) (h : slices_ContainsFunc_int_int.f l0 = some r) :
    Calls Tryz.prog 167 #[.slice A0 l0.length c0, .func (.func 168) #[] #[]] w fun e w' => e = .returned (.bool r) ∧ Below w.heap.size w w' := by
 have HR0 := aM hr0
 have HH := aM h
 clear hr0 h
 go_enter Tryz.func167, Tryz.ntmps167
 go_wp2_with (first | (go_at_call 213; refine (slices_IndexFunc_int_int.finds A0 c0 l0 _ HR0.out).mono ?_; rintro e w' ⟨⟨q, rfl, HQ⟩, ⟨nd, rfl⟩⟩))
 go_ret
 have h1 := HH.out
 unfold slices_ContainsFunc_int_int.f at h1
 obtain rfl := Option.some.inj h1
 exact ⟨by rw [← HQ.out]; first | rfl | simp, pw_below_drewN (Below.refl _ _) _⟩
def Y40.l0 : Nat → Int → List Int → Int → Int → Option (Int)
 | 0, _, _, _, _ => none
 | k + 1, x3, x13, x14, x15 => if x15 < x14 then (if 0 ≤ x15 then (if x15 < (x13.length : Int) then (Y40.l0 k (wrap64 (x3 + (rd x13 x15))) x13 x14 (wrap64 (x15 + 1))) else (none)) else (none)) else (some x3)
def Y40.f (k : Nat) (l0_0 : List (List Int)) : Option (Int) := (Y10.f k l0_0).bind fun bt551 => (Y40.l0 k 0 bt551.1 (bt551.1.length : Int) 0)
theorem Y40.calls (k : Nat) (A0_0 : Option Addr) (c0_0 : Nat) (l0_0 : List (List Int)) (r : Int) (w : World) (hr0_0 : Kd.C (Kd.slice 3 (Kd.int .i64)) w A0_0 l0_0.length l0_0) (hc0_0 : l0_0.length ≤ c0_0) (h : Y40.f k l0_0 = some r) :
  Calls Tryz.prog 169 #[.agg #[.slice A0_0 l0_0.length c0_0]] w fun e w' => e = .returned (.int .i64 r) ∧ Below w.heap.size w w' := by
 have hu41 := Tryz.underlying41
 have HR0_0 := aM hr0_0
 have HC0_0 := aM hc0_0
 clear hr0_0 hc0_0
 have HB := aM (Below.refl w.heap.size w)
 unfold Y40.f at h
 have H := h
 clear h
 replace H := bS H
 obtain ⟨⟨t551, t554⟩, A2, H⟩ := H
 try dsimp only at H
 have H' := aM H
 clear H
 go_enter Tryz.func169, Tryz.ntmps169
 go_wp2_with (first | ((with_reducible refine gate_dst (N := 1) rfl ?_); refine bF 1 41 #[.slice A0_0 l0_0.length c0_0] bq ?_; intro gb550 w3 hg hb _ _ _ _; clear HB; rename_i HB BK550 GW550 GE550; clear hb hg; have hcz4_0 := zc10 BK550; have hfz4_0 := blk_frozen BK550.out 0) | ((with_reducible refine gate_callee (f := 86) rfl ?_); refine gL (some 10) Tryz.func86 #[.agg #[.slice A0_0 l0_0.length c0_0]] ?_; (with_reducible refine (Y10.calls k _ _ l0_0 t551 t554 _ (cQ (Kd.C_below HR0_0.out HB.out)) HC0_0.out A2.out).mono ?_); rintro e w5 ⟨v552, v555, rfl, ho0, ho1, hb⟩; refine ⟨_, rfl, ?_⟩; have _ := aM (Kd.R_lower ho0 (below_size bq)); have _ := aM (Kd.R_lower ho1 (below_size bq)); have _ := bK BK550 hb; have _ := bB hb; clear BK550 HB; rename_i HO553 HO556 BK550 HB; (try clear hb); (try clear ho0); (try clear ho1); obtain ⟨Ao6, co6, eo6⟩ := Kd.R_slice HO553.out; subst eo6))
 go_loopg [3, 15] k (fun kq v3 v15 w' => ∃ (x3_1 : Int) (x15_1 : Int), v3 = .int .i64 x3_1 ∧ v15 = .int .i64 x15_1 ∧ Aside0 (Y40.l0 kq x3_1 t551 (t551.length : Int) x15_1 = some r) ∧ Aside0 (kq ≤ k) ∧ Aside0 (Kd.R (Kd.int .i64) 3 w' w.heap.size (fun _ => True) (.slice Ao6 t551.length co6) t551) ∧ Aside0 (w'.heap[gb550]? = some (.cells #[(.slice A0_0 l0_0.length c0_0)] 41 (0, 0))) ∧ Aside0 (Below w.heap.size w w'))
 case atStart => exact ⟨(0), (0), eR, eR, H', ⟨Nat.le_refl _⟩, ⟨by (with_reducible repeat first|apply rA|apply rN|apply rD); exact Kd.R_mono HO553.out (fun _ hk => trivial)⟩, ⟨qQ BK550⟩, ⟨bq⟩⟩
 case round =>
  clear H'
  try clear hcz4_0
  try clear hfz4_0
  obtain ⟨x3_1, x15_1, rfl, rfl, HA, HK1, HO_13, BK550, HB⟩ := hrel
  cases gk with
  | zero => exact absurd HA.out (by simp [Y40.l0])
  | succ k1 =>
   have H := HA.out
   clear HA
   simp only [Y40.l0] at H
   by_cases c7 : x15_1 < (t551.length : Int)
   ·rw [if_pos c7] at H
    have c7b0 := decide_eq_true c7
    clear c7
    replace H := iD2 H
    obtain ⟨c8b0, c9b0, H⟩ := H
    have H' := aM H
    clear H
    have p557 : 0 ≤ (x15_1 : Int) := odt
    have q557 : x15_1 < (t551.length : Int) := odt
    obtain ⟨ad557, e557, hx557_0⟩ := Kd.at_int (Kd.R_reads' HO_13.out).2.2 x15_1 p557 q557
    cases e557
    replace p557 := eq_true p557
    replace q557 := eq_true q557
    go_wp2
    go_roundg k1
    case measure => have := HK1.out; omega
    case rel => exact ⟨(wrap64 (x3_1 + (rd t551 x15_1))), (wrap64 (x15_1 + 1)), eR, eR, H', ⟨by have := HK1.out; omega⟩, ⟨rQ HO_13⟩, ⟨qQ BK550⟩, ⟨bq⟩⟩
   ·rw [if_neg c7] at H
    have c7b0 := decide_eq_false c7
    clear c7
    obtain rfl := Option.some.inj H
    go_wp2
    go_ret
    exact ⟨eE, bq⟩
end Go.Proofs.YtjmmleofnjcjoaaGreatDoor.Du
