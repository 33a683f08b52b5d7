-- Written by hook.py, a program of this session (wip/), which runs the kit's print.py with its own parts; Lean checks it.
import Derived.Test.YtacdlipojhoilaaMx0
import Derived.Test.YtacdlipojhoilaaMx6
import Derived.Test.YtacdlipojhoilaaXSq
namespace Go.Proofs.Ytacdlipojhoilaa.Mx
open Go.RowKit Go.Proofs.YtacdlipojhoilaaW.PrintWords Go.Proofs.YtacdlipojhoilaaW.PrintLast Go.Proofs.YtacdlipojhoilaaW.PrintMore Go.Proofs.Ytacdlipojhoilaa.Sq
attribute [local go_sem] max2_int min2_int max_two min_two max_three min_three max_four min_four   -- for this text's walks alone
set_option linter.unusedVariables false
set_option linter.unusedSimpArgs false

/-! ### spec_asUndo: function 114 -/
mutual
def spec_asUndo.l0 : Nat → List Int → Int → Option (List Int)
 | 0, _, _ => none
 | k + 1, x3, x4 => if x4 > 0 then (if 0 ≤ (wrap64 (x4 - 1)) then (if (wrap64 (x4 - 1)) < (x3.length : Int) then (if 0 ≤ x4 then (if x4 < (x3.length : Int) then (if (rd x3 (wrap64 (x4 - 1))) < (rd x3 x4) then (spec_asUndo.l1 k x3 x4 0) else (spec_asUndo.l0 k x3 (wrap64 (x4 - 1)))) else (none)) else (none)) else (none)) else (none)) else (some x3)
def spec_asUndo.l1 : Nat → List Int → Int → Int → Option (List Int)
 | 0, _, _, _ => none
 | k + 1, x3, x4, x5 => if x5 < x4 then (if 0 ≤ x5 then (if x5 < (x3.length : Int) then (if 0 ≤ x4 then (if x4 < (x3.length : Int) then (if (rd x3 x5) > (rd x3 x4) then (spec_asUndo.l1 k (x3.set (x5 : Int).toNat (wrap64 ((rd x3 x5) - 1))) x4 (wrap64 (x5 + 1))) else (spec_asUndo.l1 k x3 x4 (wrap64 (x5 + 1)))) else (none)) else (none)) else (none)) else (none)) else (spec_asUndo.l0 k x3 (wrap64 (x4 - 1)))
end
def spec_asUndo.f (k : Nat) (l0 : List Int) : Option (List Int) := (spec_l1Own.f l0).bind fun t223 => (spec_asUndo.l0 k t223 (wrap64 ((t223.length : Int) - 1)))
theorem spec_asUndo.mono_l : ∀ k, (∀ y0 y1, LeO (spec_asUndo.l0 k y0 y1) (spec_asUndo.l0 (k + 1) y0 y1)) ∧ (∀ y0 y1 y2, LeO (spec_asUndo.l1 k y0 y1 y2) (spec_asUndo.l1 (k + 1) y0 y1 y2))
 | 0 => ⟨fun _ _ r h => by simp [spec_asUndo.l0] at h, fun _ _ _ r h => by simp [spec_asUndo.l1] at h⟩
 | k + 1 => by
  obtain ⟨ih0, ih1⟩ := spec_asUndo.mono_l k
  refine ⟨?_, ?_⟩
  ·intro y0 y1
   unfold spec_asUndo.l0
   repeat' first | with_reducible first | exact ih0 _ _ | exact ih1 _ _ _ | exact LeO.refl _ | exact LeO.none _ | refine LeO.ite ?_ ?_ | refine LeO.bind ?_ (fun _ => ?_)
  ·intro y0 y1 y2
   unfold spec_asUndo.l1
   repeat' first | with_reducible first | exact ih0 _ _ | exact ih1 _ _ _ | exact LeO.refl _ | exact LeO.none _ | refine LeO.ite ?_ ?_ | refine LeO.bind ?_ (fun _ => ?_)
theorem spec_asUndo.mono : ∀ a0 k, LeO (spec_asUndo.f k a0) (spec_asUndo.f (k + 1) a0) := by
 intro a0 k
 obtain ⟨ih0, ih1⟩ := spec_asUndo.mono_l k
 unfold spec_asUndo.f
 repeat' first | with_reducible first | exact ih0 _ _ | exact ih1 _ _ _ | exact LeO.refl _ | exact LeO.none _ | refine LeO.ite ?_ ?_ | refine LeO.bind ?_ (fun _ => ?_)
set_option maxHeartbeats 8000000 in
set_option maxRecDepth 100000 in
theorem spec_asUndo.calls (k : Nat) (A0 : Option Addr) (c0 : Nat) (l0 : List Int) (r : List Int) (w : World) (hr0 : Kd.C (Kd.int .i64) w A0 l0.length l0) (hc0 : l0.length ≤ c0) (h : spec_asUndo.f k l0 = some r) :
  Calls Try.prog 114 #[.slice A0 l0.length c0] w fun e w' => ∃ v0_ : Value, e = .returned (v0_) ∧ Kd.R (Kd.int .i64) 3 w' w.heap.size (fun _ => True) v0_ r ∧ Below w.heap.size w w' := by
 have HR0 := aM hr0
 have HC0 := aM hc0
 clear hr0 hc0
 have HB := aM (Below.refl w.heap.size w)
 have H : ((spec_l1Own.f l0).bind fun t223 => (spec_asUndo.l0 k t223 (wrap64 ((t223.length : Int) - 1)))) = some r := h
 clear h
 replace H := Option.bind_eq_some_iff.mp H
 obtain ⟨t223, A20, H⟩ := H
 replace H : (spec_asUndo.l0 k t223 (wrap64 ((t223.length : Int) - 1))) = some r := H
 have A2 := aM A20
 clear A20
 have H' := aM H
 clear H
 go_enter Try.func114, Try.ntmps114
 go_wp2_with (first | (go_at_call 126; (with_reducible refine (spec_l1Own.calls _ _ l0 t223 _ (cQ HR0.out) HC0.out A2.out).mono ?_); rintro e w3 ⟨v224, rfl, ho0, hb⟩; have _ := aM (Kd.R_lower ho0 (below_size bq)); have _ := aM (below_step bq hb); clear HB; rename_i HO225 HB; (try clear hb); (try clear hb2); (try clear hk); (try clear hi); (try clear ho0); obtain ⟨Ao4, co4, eo4⟩ := Kd.R_slice HO225.out; subst eo4))
 repeat (go_quiet (first | (go_at_call 126; (with_reducible refine (spec_l1Own.calls _ _ l0 t223 _ (cQ HR0.out) HC0.out A2.out).mono ?_); rintro e w3 ⟨v224, rfl, ho0, hb⟩; have _ := aM (Kd.R_lower ho0 (below_size bq)); have _ := aM (below_step bq hb); clear HB; rename_i HO225 HB; (try clear hb); (try clear hb2); (try clear hk); (try clear hi); (try clear ho0); obtain ⟨Ao4, co4, eo4⟩ := Kd.R_slice HO225.out; subst eo4)); try go_wp2_with (first | (go_at_call 126; (with_reducible refine (spec_l1Own.calls _ _ l0 t223 _ (cQ HR0.out) HC0.out A2.out).mono ?_); rintro e w3 ⟨v224, rfl, ho0, hb⟩; have _ := aM (Kd.R_lower ho0 (below_size bq)); have _ := aM (below_step bq hb); clear HB; rename_i HO225 HB; (try clear hb); (try clear hb2); (try clear hk); (try clear hi); (try clear ho0); obtain ⟨Ao4, co4, eo4⟩ := Kd.R_slice HO225.out; subst eo4)))
 go_loopg [4] k (fun kq v4 w' => ∃ (x3_1 : List Int) (x4_1 : Int), v4 = .int .i64 x4_1 ∧ Aside0 (spec_asUndo.l0 kq x3_1 x4_1 = some r) ∧ Aside0 (kq ≤ k) ∧ Aside0 (Kd.R (Kd.int .i64) 3 w' w.heap.size (fun _ => True) (.slice Ao4 t223.length co4) x3_1) ∧ Aside0 (Below w.heap.size w w'))
 case atStart => exact ⟨(t223), (wrap64 ((t223.length : Int) - 1)), (by first | rfl | (simp; done) | (simp [*]; done)), H', ⟨Nat.le_refl _⟩, ⟨by (with_reducible repeat first|apply rA|apply rN|apply rD); exact HO225.out⟩, ⟨by exact bq⟩⟩
 case round =>
  clear H'
  try clear c1
  try clear p2
  obtain ⟨x3_1, x4_1, rfl, HA, HK1, HO_3, HB⟩ := hrel
  have hl3_1 := (Kd.R_reads' HO_3.out).1
  rw [hl3_1] at HO_3
  (try simp only [hl3_1])
  cases gk with
  | zero => exact absurd HA.out (by simp [spec_asUndo.l0])
  | succ k1 =>
   have H := HA.out
   clear HA
   simp only [spec_asUndo.l0] at H
   by_cases c5 : x4_1 > 0
   ·rw [if_pos c5] at H
    have c5b0 : decide (0 < x4_1) = true := decide_eq_true c5
    clear c5
    obtain ⟨ji6, hji6⟩ : ∃ j_ : Int, (wrap64 (x4_1 - 1)) = j_ := ⟨_, rfl⟩
    replace H : (if 0 ≤ (ji6) then (if (ji6) < (x3_1.length : Int) then (if 0 ≤ x4_1 then (if x4_1 < (x3_1.length : Int) then (if (rd x3_1 (ji6)) < (rd x3_1 x4_1) then (spec_asUndo.l1 k1 x3_1 x4_1 0) else (spec_asUndo.l0 k1 x3_1 ji6)) else (none)) else (none)) else (none)) else (none)) = some r := by first | (rw [hji6] at H; exact H) | (simp only [hji6] at H ⊢; exact H)
    have hji6w : (IntKind.i64.wrap (x4_1 - 1)) = ji6 := (i64_w _).trans hji6
    by_cases c7 : 0 ≤ (ji6)
    ·rw [if_pos c7] at H
     have c7b0 : decide (0 ≤ (ji6)) = true := decide_eq_true c7
     clear c7
     by_cases c8 : (ji6) < (x3_1.length : Int)
     ·rw [if_pos c8] at H
      have c8b0 : decide ((ji6) < (x3_1.length : Int)) = true := decide_eq_true c8
      clear c8
      by_cases c9 : 0 ≤ x4_1
      ·rw [if_pos c9] at H
       have c9b0 : decide (0 ≤ x4_1) = true := decide_eq_true c9
       clear c9
       by_cases c10 : x4_1 < (x3_1.length : Int)
       ·rw [if_pos c10] at H
        have c10b0 : decide (x4_1 < (x3_1.length : Int)) = true := decide_eq_true c10
        clear c10
        by_cases c11 : (rd x3_1 (ji6)) < (rd x3_1 x4_1)
        ·rw [if_pos c11] at H
         have c11b0 : decide ((rd x3_1 (ji6)) < (rd x3_1 x4_1)) = true := decide_eq_true c11
         clear c11
         have H' := aM H
         clear H
         have p226 : 0 ≤ ((ji6) : Int) := odt
         have q226 : (ji6) < (x3_1.length : Int) := odt
         obtain ⟨ad226, e226, hx226_0⟩ := Kd.at_int (Kd.R_reads' HO_3.out).2.2 (ji6) p226 q226
         cases e226
         replace p226 := eq_true p226
         replace q226 := eq_true q226
         have p227 : 0 ≤ (x4_1 : Int) := odt
         have q227 : x4_1 < (x3_1.length : Int) := odt
         obtain ⟨ad227, e227, hx227_0⟩ := Kd.at_int (Kd.R_reads' HO_3.out).2.2 x4_1 p227 q227
         obtain rfl : ad226 = ad227 := (by injection e227)
         replace p227 := eq_true p227
         replace q227 := eq_true q227
         go_wp2
         repeat (go_quiet (fail); try go_wp2)
         go_loopg [5] k1 (fun kq v5 w' => ∃ (x3_2 : List Int) (x5_2 : Int), v5 = .int .i64 x5_2 ∧ Aside0 (spec_asUndo.l1 kq x3_2 x4_1 x5_2 = some r) ∧ Aside0 (kq ≤ k1) ∧ Aside0 (Kd.R (Kd.int .i64) 3 w' w.heap.size (fun _ => True) (.slice (some ad226) x3_1.length co4) x3_2) ∧ Aside0 (Below w.heap.size w w'))
         case atStart => exact ⟨(x3_1), (0), (by first | rfl | (simp; done) | (simp [*]; done)), H', ⟨Nat.le_refl _⟩, ⟨by (try simp only [hl3_1]); (with_reducible repeat first|apply rA|apply rN|apply rD); exact HO_3.out⟩, ⟨by exact bq⟩⟩
         case round =>
          clear H'
          try clear c1
          try clear p2
          try clear q2
          try clear hx2
          try clear c5
          try clear c5b0
          try clear p6
          try clear c7
          try clear c7b0
          try clear c8
          try clear c8b0
          try clear c9
          try clear c9b0
          try clear c10
          try clear c10b0
          try clear c11
          try clear c11b0
          try clear hx226_0
          try clear hx227_0
          try clear p2
          try clear p226
          try clear p227
          try clear q226
          try clear q227
          obtain ⟨x3_2, x5_2, rfl, HA, HK2, HO_3, HB⟩ := hrel
          have hl3_2 := (Kd.R_reads' HO_3.out).1
          rw [hl3_2] at HO_3
          (try simp only [hl3_2])
          cases gk with
          | zero => exact absurd HA.out (by simp [spec_asUndo.l1])
          | succ k2 =>
           have H := HA.out
           clear HA
           simp only [spec_asUndo.l1] at H
           by_cases c12 : x5_2 < x4_1
           ·rw [if_pos c12] at H
            have c12b0 : decide (x5_2 < x4_1) = true := decide_eq_true c12
            clear c12
            by_cases c13 : 0 ≤ x5_2
            ·rw [if_pos c13] at H
             have c13b0 : decide (0 ≤ x5_2) = true := decide_eq_true c13
             clear c13
             by_cases c14 : x5_2 < (x3_2.length : Int)
             ·rw [if_pos c14] at H
              have c14b0 : decide (x5_2 < (x3_2.length : Int)) = true := decide_eq_true c14
              clear c14
              by_cases c15 : 0 ≤ x4_1
              ·rw [if_pos c15] at H
               have c15b0 : decide (0 ≤ x4_1) = true := decide_eq_true c15
               clear c15
               by_cases c16 : x4_1 < (x3_2.length : Int)
               ·rw [if_pos c16] at H
                have c16b0 : decide (x4_1 < (x3_2.length : Int)) = true := decide_eq_true c16
                clear c16
                by_cases c17 : (rd x3_2 x5_2) > (rd x3_2 x4_1)
                ·rw [if_pos c17] at H
                 have c17b0 : decide ((rd x3_2 x4_1) < (rd x3_2 x5_2)) = true := decide_eq_true c17
                 clear c17
                 obtain ⟨y231, hy231⟩ : ∃ y_ : List Int, y_ = (x3_2.set (x5_2 : Int).toNat (wrap64 ((rd x3_2 x5_2) - 1))) := ⟨_, rfl⟩
                 replace H : (spec_asUndo.l1 k2 y231 x4_1 (wrap64 (x5_2 + 1))) = some r := by first | (rw [hy231]; with_reducible exact H) | (have H2_ := (Option.bind_some _ _).symm.trans H; rw [hy231]; with_reducible exact H2_) | (have H2_ := (Option.bind_some _ _).symm.trans H; with_reducible exact H2_) | with_reducible exact H | (rw [hy231]; exact H) | exact H
                 have Ny231 := aM hy231
                 clear hy231
                 have H' := aM H
                 clear H
                 have p228 : 0 ≤ (x5_2 : Int) := odt
                 have q228 : x5_2 < (x3_2.length : Int) := odt
                 obtain ⟨ad228, e228, hx228_0⟩ := Kd.at_int (Kd.R_reads' HO_3.out).2.2 x5_2 p228 q228
                 obtain rfl : ad226 = ad228 := (by injection e228)
                 replace p228 := eq_true p228
                 replace q228 := eq_true q228
                 have p229 : 0 ≤ (x4_1 : Int) := odt
                 have q229 : x4_1 < (x3_2.length : Int) := odt
                 obtain ⟨ad229, e229, hx229_0⟩ := Kd.at_int (Kd.R_reads' HO_3.out).2.2 x4_1 p229 q229
                 obtain rfl : ad226 = ad229 := (by injection e229)
                 replace p229 := eq_true p229
                 replace q229 := eq_true q229
                 have p230 : 0 ≤ (x5_2 : Int) := odt
                 have q230 : x5_2 < (x3_2.length : Int) := odt
                 obtain ⟨ad230, e230, hx230_0⟩ := Kd.at_int (Kd.R_reads' HO_3.out).2.2 x5_2 p230 q230
                 obtain rfl : ad226 = ad230 := (by injection e230)
                 replace p230 := eq_true p230
                 replace q230 := eq_true q230
                 have p18 : 0 ≤ (x5_2 : Int) := odt
                 have q18 : (x5_2 : Int) < ((x3_2.length : Int) : Int) := odt
                 obtain ⟨go18, co18, eo18, gb18, gl18, cl18, HG18⟩ := Kd.R_form HO_3.out (by omega)
                 (first | cases eo18 | (injection eo18 with ea_ en_ ec_; (first | subst ea_ | (injection ea_ with ea_; subst ea_)); subst ec_; clear en_))
                 have GB18 := aM gb18
                 have GG18 := aM HG18
                 clear gb18 gl18 HG18
                 (first | simp only [add_plain] at hx226_0 | skip)
                 (first | simp only [add_plain] at hx227_0 | skip)
                 (first | simp only [add_plain] at hx228_0 | skip)
                 (first | simp only [add_plain] at hx229_0 | skip)
                 (first | simp only [add_plain] at hx230_0 | skip)
                 obtain ⟨hx18_0, hf18_0⟩ := Kd.R_celln 0 HO_3.out (x5_2 : Int) p18 q18
                 replace p18 := eq_true p18
                 replace q18 := eq_true q18
                 have HP19 := Kd.R_putg HO_3.out (x5_2 : Int) (wrap64 ((rd x3_2 x5_2) - 1))
                 go_wp2_with (first | ((with_reducible refine gate_store (t := 3) (p := 44) rfl ?_); (try (rw [drewN_self wr]; generalize hq_ : World.drewN wr _ = wr; have _ := aM (Kd.R_at hq_ HO_3.out); have _ := aM (below_at hq_ HB.out); (try replace hf18_0 := frozen_at_drew hq_ hf18_0); (try replace hx18_0 := cell_at_drew hq_ hx18_0); (try replace hx226_0 := cell_at_drew hq_ hx226_0); (try replace hx227_0 := cell_at_drew hq_ hx227_0); (try replace hx228_0 := cell_at_drew hq_ hx228_0); (try replace hx229_0 := cell_at_drew hq_ hx229_0); (try replace hx230_0 := cell_at_drew hq_ hx230_0); clear hq_ HO_3 HB; rename_i HO_3 HB; (try (have HP19 := Kd.R_putg HO_3.out (x5_2 : Int) (wrap64 ((rd x3_2 x5_2) - 1)))))); refine sE (wr.setCell ⟨go18, (x5_2 : Int).toNat, none⟩ (.int .i64 (wrap64 ((rd x3_2 x5_2) - 1)))) 3 44 ?_; intro w20 hw; have hg : wr.grownBy w20 (some go18) := (by rw [hw]; exact HP19.2); have hp_ : Kd.R (Kd.int .i64) 3 w20 w.heap.size (fun _ => True) (.slice (some ⟨go18, 0, none⟩) x3_2.length co4) y231 := (by rw [hw, Ny231.out]; exact HP19.1); clear HP19; have _ := aM (hp_); have _ := aM ((by rw [hw]; exact below_set (HB.out) GB18.out : Below w.heap.size w w20)); clear HO_3 HB; rename_i HO_3 HB; clear hg hw hp_))
                 repeat (go_quiet (first | ((with_reducible refine gate_store (t := 3) (p := 44) rfl ?_); (try (rw [drewN_self wr]; generalize hq_ : World.drewN wr _ = wr; have _ := aM (Kd.R_at hq_ HO_3.out); have _ := aM (below_at hq_ HB.out); (try replace hf18_0 := frozen_at_drew hq_ hf18_0); (try replace hx18_0 := cell_at_drew hq_ hx18_0); (try replace hx226_0 := cell_at_drew hq_ hx226_0); (try replace hx227_0 := cell_at_drew hq_ hx227_0); (try replace hx228_0 := cell_at_drew hq_ hx228_0); (try replace hx229_0 := cell_at_drew hq_ hx229_0); (try replace hx230_0 := cell_at_drew hq_ hx230_0); clear hq_ HO_3 HB; rename_i HO_3 HB; (try (have HP19 := Kd.R_putg HO_3.out (x5_2 : Int) (wrap64 ((rd x3_2 x5_2) - 1)))))); refine sE (wr.setCell ⟨go18, (x5_2 : Int).toNat, none⟩ (.int .i64 (wrap64 ((rd x3_2 x5_2) - 1)))) 3 44 ?_; intro w20 hw; have hg : wr.grownBy w20 (some go18) := (by rw [hw]; exact HP19.2); have hp_ : Kd.R (Kd.int .i64) 3 w20 w.heap.size (fun _ => True) (.slice (some ⟨go18, 0, none⟩) x3_2.length co4) y231 := (by rw [hw, Ny231.out]; exact HP19.1); clear HP19; have _ := aM (hp_); have _ := aM ((by rw [hw]; exact below_set (HB.out) GB18.out : Below w.heap.size w w20)); clear HO_3 HB; rename_i HO_3 HB; clear hg hw hp_)); try go_wp2_with (first | ((with_reducible refine gate_store (t := 3) (p := 44) rfl ?_); (try (rw [drewN_self wr]; generalize hq_ : World.drewN wr _ = wr; have _ := aM (Kd.R_at hq_ HO_3.out); have _ := aM (below_at hq_ HB.out); (try replace hf18_0 := frozen_at_drew hq_ hf18_0); (try replace hx18_0 := cell_at_drew hq_ hx18_0); (try replace hx226_0 := cell_at_drew hq_ hx226_0); (try replace hx227_0 := cell_at_drew hq_ hx227_0); (try replace hx228_0 := cell_at_drew hq_ hx228_0); (try replace hx229_0 := cell_at_drew hq_ hx229_0); (try replace hx230_0 := cell_at_drew hq_ hx230_0); clear hq_ HO_3 HB; rename_i HO_3 HB; (try (have HP19 := Kd.R_putg HO_3.out (x5_2 : Int) (wrap64 ((rd x3_2 x5_2) - 1)))))); refine sE (wr.setCell ⟨go18, (x5_2 : Int).toNat, none⟩ (.int .i64 (wrap64 ((rd x3_2 x5_2) - 1)))) 3 44 ?_; intro w20 hw; have hg : wr.grownBy w20 (some go18) := (by rw [hw]; exact HP19.2); have hp_ : Kd.R (Kd.int .i64) 3 w20 w.heap.size (fun _ => True) (.slice (some ⟨go18, 0, none⟩) x3_2.length co4) y231 := (by rw [hw, Ny231.out]; exact HP19.1); clear HP19; have _ := aM (hp_); have _ := aM ((by rw [hw]; exact below_set (HB.out) GB18.out : Below w.heap.size w w20)); clear HO_3 HB; rename_i HO_3 HB; clear hg hw hp_)))
                 (try simp only [← hl3_2])
                 (try rw [show (⟨go18, (ji6 : Int).toNat, none⟩ : Addr) = (⟨go18, 0, none⟩ : Addr).add (ji6 : Int).toNat from (add_plain _ _).symm])
                 (try rw [show (⟨go18, (x4_1 : Int).toNat, none⟩ : Addr) = (⟨go18, 0, none⟩ : Addr).add (x4_1 : Int).toNat from (add_plain _ _).symm])
                 go_roundg k2
                 case measure => have := HK1.out; have := HK2.out; omega
                 case rel => exact ⟨(y231), (wrap64 (x5_2 + 1)), (by first | rfl | (simp; done) | (simp [*]; done)), H', ⟨by have := HK1.out; have := HK2.out; omega⟩, ⟨by (try simp only [hl3_1]); (try simp only [hl3_2]); (with_reducible repeat first|apply rA|apply rN|apply rD); exact HO_3.out⟩, ⟨by exact bq⟩⟩
                ·rw [if_neg c17] at H
                 have c17b0 : decide ((rd x3_2 x4_1) < (rd x3_2 x5_2)) = false := decide_eq_false c17
                 clear c17
                 have H' := aM H
                 clear H
                 have p228 : 0 ≤ (x5_2 : Int) := odt
                 have q228 : x5_2 < (x3_2.length : Int) := odt
                 obtain ⟨ad228, e228, hx228_0⟩ := Kd.at_int (Kd.R_reads' HO_3.out).2.2 x5_2 p228 q228
                 obtain rfl : ad226 = ad228 := (by injection e228)
                 replace p228 := eq_true p228
                 replace q228 := eq_true q228
                 have p229 : 0 ≤ (x4_1 : Int) := odt
                 have q229 : x4_1 < (x3_2.length : Int) := odt
                 obtain ⟨ad229, e229, hx229_0⟩ := Kd.at_int (Kd.R_reads' HO_3.out).2.2 x4_1 p229 q229
                 obtain rfl : ad226 = ad229 := (by injection e229)
                 replace p229 := eq_true p229
                 replace q229 := eq_true q229
                 go_wp2
                 repeat (go_quiet (fail); try go_wp2)
                 (try simp only [← hl3_2])
                 go_roundg k2
                 case measure => have := HK1.out; have := HK2.out; omega
                 case rel => exact ⟨(x3_2), (wrap64 (x5_2 + 1)), (by first | rfl | (simp; done) | (simp [*]; done)), H', ⟨by have := HK1.out; have := HK2.out; omega⟩, ⟨by (try simp only [hl3_1]); (try simp only [hl3_2]); (with_reducible repeat first|apply rA|apply rN|apply rD); exact HO_3.out⟩, ⟨by exact bq⟩⟩
               ·rw [if_neg c16] at H
                exact absurd H (by simp)
              ·rw [if_neg c15] at H
               exact absurd H (by simp)
             ·rw [if_neg c14] at H
              exact absurd H (by simp)
            ·rw [if_neg c13] at H
             exact absurd H (by simp)
           ·rw [if_neg c12] at H
            have c12b0 : decide (x5_2 < x4_1) = false := decide_eq_false c12
            clear c12
            have H' := aM H
            clear H
            go_wp2
            repeat (go_quiet (fail); try go_wp2)
            (try simp only [← hl3_1, ← hl3_2])
            go_roundg k2
            case measure => have := HK1.out; have := HK2.out; omega
            case rel => exact ⟨(x3_2), (wrap64 (x4_1 - 1)), (by first | rfl | (simp; done) | (simp [*]; done)), H', ⟨by have := HK1.out; have := HK2.out; omega⟩, ⟨by (try simp only [hl3_1]); (try simp only [hl3_2]); (with_reducible repeat first|apply rA|apply rN|apply rD); exact HO_3.out⟩, ⟨by exact bq⟩⟩
        ·rw [if_neg c11] at H
         have c11b0 : decide ((rd x3_1 (ji6)) < (rd x3_1 x4_1)) = false := decide_eq_false c11
         clear c11
         have H' := aM H
         clear H
         have p226 : 0 ≤ ((ji6) : Int) := odt
         have q226 : (ji6) < (x3_1.length : Int) := odt
         obtain ⟨ad226, e226, hx226_0⟩ := Kd.at_int (Kd.R_reads' HO_3.out).2.2 (ji6) p226 q226
         cases e226
         replace p226 := eq_true p226
         replace q226 := eq_true q226
         have p227 : 0 ≤ (x4_1 : Int) := odt
         have q227 : x4_1 < (x3_1.length : Int) := odt
         obtain ⟨ad227, e227, hx227_0⟩ := Kd.at_int (Kd.R_reads' HO_3.out).2.2 x4_1 p227 q227
         obtain rfl : ad226 = ad227 := (by injection e227)
         replace p227 := eq_true p227
         replace q227 := eq_true q227
         go_wp2
         repeat (go_quiet (fail); try go_wp2)
         (try simp only [← hl3_1])
         go_roundg k1
         case measure => have := HK1.out; omega
         case rel => exact ⟨(x3_1), (ji6), (by first | rfl | (simp; done) | (simp only [← hji6] <;> (first | rfl | simp)) | (simp [*]; done)), H', ⟨by have := HK1.out; omega⟩, ⟨by (try simp only [hl3_1]); (with_reducible repeat first|apply rA|apply rN|apply rD); exact HO_3.out⟩, ⟨by exact bq⟩⟩
       ·rw [if_neg c10] at H
        exact absurd H (by simp)
      ·rw [if_neg c9] at H
       exact absurd H (by simp)
     ·rw [if_neg c8] at H
      exact absurd H (by simp)
    ·rw [if_neg c7] at H
     exact absurd H (by simp)
   ·rw [if_neg c5] at H
    have c5b0 : decide (0 < x4_1) = false := decide_eq_false c5
    clear c5
    obtain rfl := Option.some.inj H
    go_wp2
    repeat (go_quiet (fail); try go_wp2)
    go_ret
    exact ⟨_, by first | rfl | (simp [errW_none, errW_some] <;> rfl) | (simp [*, errW_none, errW_some] <;> rfl), by (with_reducible repeat first|apply rA|apply rN|apply rD); exact HO_3.out, by exact bq⟩

/-! ### spec_l1Same: function 115 -/
def spec_l1Same.l0 : Nat → List Int → List Int → Int → Int → Option (Bool)
 | 0, _, _, _, _ => none
 | k + 1, x0, x1, x12, x13 => if x13 < x12 then (if 0 ≤ x13 then (if x13 < (x0.length : Int) then (if x13 < (x1.length : Int) then (if (rd x0 x13) = (rd x1 x13) then (spec_l1Same.l0 k x0 x1 x12 (wrap64 (x13 + 1))) else (some false)) else (none)) else (none)) else (none)) else (some true)
def spec_l1Same.f (k : Nat) (l0 : List Int) (l1 : List Int) : Option (Bool) := if (l0.length : Int) = (l1.length : Int) then (spec_l1Same.l0 k l0 l1 (l0.length : Int) 0) else (some false)
theorem spec_l1Same.mono_l : ∀ k, (∀ y0 y1 y2 y3, LeO (spec_l1Same.l0 k y0 y1 y2 y3) (spec_l1Same.l0 (k + 1) y0 y1 y2 y3))
 | 0 => fun _ _ _ _ r h => by simp [spec_l1Same.l0] at h
 | k + 1 => by
  have ih0 := spec_l1Same.mono_l k
  ·intro y0 y1 y2 y3
   unfold spec_l1Same.l0
   repeat' first | with_reducible first | exact ih0 _ _ _ _ | exact LeO.refl _ | exact LeO.none _ | refine LeO.ite ?_ ?_ | refine LeO.bind ?_ (fun _ => ?_)
theorem spec_l1Same.mono : ∀ a0 a1 k, LeO (spec_l1Same.f k a0 a1) (spec_l1Same.f (k + 1) a0 a1) := by
 intro a0 a1 k
 have ih0 := spec_l1Same.mono_l k
 unfold spec_l1Same.f
 repeat' first | with_reducible first | exact ih0 _ _ _ _ | exact LeO.refl _ | exact LeO.none _ | refine LeO.ite ?_ ?_ | refine LeO.bind ?_ (fun _ => ?_)
set_option maxHeartbeats 8000000 in
set_option maxRecDepth 100000 in
theorem spec_l1Same.calls (k : Nat) (A0 : Option Addr) (c0 : Nat) (l0 : List Int) (A1 : Option Addr) (c1 : Nat) (l1 : List Int) (r : Bool) (w : World) (hr0 : Kd.C (Kd.int .i64) w A0 l0.length l0) (hc0 : l0.length ≤ c0) (hr1 : Kd.C (Kd.int .i64) w A1 l1.length l1) (hc1 : l1.length ≤ c1) (h : spec_l1Same.f k l0 l1 = some r) :
  Calls Try.prog 115 #[.slice A0 l0.length c0, .slice A1 l1.length c1] w fun e w' => e = .returned (.bool r) ∧ Drawn0 w w' := by
 have HR0 := aM hr0
 have HC0 := aM hc0
 clear hr0 hc0
 have HR1 := aM hr1
 have HC1 := aM hc1
 clear hr1 hc1
 have H : (if (l0.length : Int) = (l1.length : Int) then (spec_l1Same.l0 k l0 l1 (l0.length : Int) 0) else (some false)) = some r := h
 clear h
 by_cases c3 : (l0.length : Int) = (l1.length : Int)
 ·rw [if_pos c3] at H
  have c3b0 : ((l0.length : Int) == (l1.length : Int)) = true := beq_iff_eq.mpr c3
  have c3b1 : ((l0.length : Int) != (l1.length : Int)) = false := bne_eq_false_iff_eq.mpr c3
  have c3b2 : (l0.length == l1.length) = true := by first | simpa using c3 | (simp at c3 ⊢; omega)
  clear c3
  have H' := aM H
  clear H
  go_enter Try.func115, Try.ntmps115
  go_wp2
  repeat (go_quiet (fail); try go_wp2)
  go_loopg [13] k (fun kq v13 w' => ∃ (x13_1 : Int), v13 = .int .i64 x13_1 ∧ Aside0 (spec_l1Same.l0 kq l0 l1 (l0.length : Int) x13_1 = some r) ∧ Aside0 (kq ≤ k) ∧ Drawn0 w w')
  case atStart => exact ⟨(0), (by first | rfl | (simp; done) | (simp [*]; done)), H', ⟨Nat.le_refl _⟩, by repeat (first | exact Drawn0.refl _ | apply Drawn0.step)⟩
  case round =>
   clear H'
   try clear c1
   try clear p2
   try clear c3
   try clear c3b0
   try clear c3b1
   try clear c3b2
   obtain ⟨x13_1, rfl, HA, HK1, ⟨m1, rfl⟩⟩ := hrel
   cases gk with
   | zero => exact absurd HA.out (by simp [spec_l1Same.l0])
   | succ k1 =>
    have H := HA.out
    clear HA
    simp only [spec_l1Same.l0] at H
    by_cases c4 : x13_1 < (l0.length : Int)
    ·rw [if_pos c4] at H
     have c4b0 : decide (x13_1 < (l0.length : Int)) = true := decide_eq_true c4
     clear c4
     by_cases c5 : 0 ≤ x13_1
     ·rw [if_pos c5] at H
      have c5b0 : decide (0 ≤ x13_1) = true := decide_eq_true c5
      clear c5
      by_cases c6 : x13_1 < (l0.length : Int)
      ·rw [if_pos c6] at H
       have c6b0 : decide (x13_1 < (l0.length : Int)) = true := decide_eq_true c6
       clear c6
       by_cases c7 : x13_1 < (l1.length : Int)
       ·rw [if_pos c7] at H
        have c7b0 : decide (x13_1 < (l1.length : Int)) = true := decide_eq_true c7
        clear c7
        by_cases c8 : (rd l0 x13_1) = (rd l1 x13_1)
        ·rw [if_pos c8] at H
         have c8b0 : ((rd l0 x13_1) == (rd l1 x13_1)) = true := beq_iff_eq.mpr c8
         have c8b1 : ((rd l0 x13_1) != (rd l1 x13_1)) = false := bne_eq_false_iff_eq.mpr c8
         clear c8
         have H' := aM H
         clear H
         have p232 : 0 ≤ (x13_1 : Int) := odt
         have q232 : x13_1 < (l0.length : Int) := odt
         obtain ⟨ad232, e232, hx232_0⟩ := Kd.at_int HR0.out x13_1 p232 q232
         cases e232
         replace p232 := eq_true p232
         replace q232 := eq_true q232
         have p233 : 0 ≤ (x13_1 : Int) := odt
         have q233 : x13_1 < (l1.length : Int) := odt
         obtain ⟨ad233, e233, hx233_0⟩ := Kd.at_int HR1.out x13_1 p233 q233
         cases e233
         replace p233 := eq_true p233
         replace q233 := eq_true q233
         go_wp2
         repeat (go_quiet (fail); try go_wp2)
         go_roundg k1
         case measure => have := HK1.out; omega
         case rel => exact ⟨(wrap64 (x13_1 + 1)), (by first | rfl | (simp; done) | (simp [*]; done)), H', ⟨by have := HK1.out; omega⟩, by repeat (first | exact Drawn0.refl _ | apply Drawn0.step)⟩
        ·rw [if_neg c8] at H
         have c8b0 : ((rd l0 x13_1) == (rd l1 x13_1)) = false := beq_eq_false_iff_ne.mpr c8
         have c8b1 : ((rd l0 x13_1) != (rd l1 x13_1)) = true := bne_iff_ne.mpr c8
         obtain rfl := Option.some.inj H
         have p232 : 0 ≤ (x13_1 : Int) := odt
         have q232 : x13_1 < (l0.length : Int) := odt
         obtain ⟨ad232, e232, hx232_0⟩ := Kd.at_int HR0.out x13_1 p232 q232
         cases e232
         replace p232 := eq_true p232
         replace q232 := eq_true q232
         have p233 : 0 ≤ (x13_1 : Int) := odt
         have q233 : x13_1 < (l1.length : Int) := odt
         obtain ⟨ad233, e233, hx233_0⟩ := Kd.at_int HR1.out x13_1 p233 q233
         cases e233
         replace p233 := eq_true p233
         replace q233 := eq_true q233
         go_wp2
         repeat (go_quiet (fail); try go_wp2)
         go_ret
         exact ⟨by first | rfl | (simp; done) | (simp [*]; done), by repeat (first | exact Drawn0.refl _ | apply Drawn0.step)⟩
       ·rw [if_neg c7] at H
        exact absurd H (by simp)
      ·rw [if_neg c6] at H
       exact absurd H (by simp)
     ·rw [if_neg c5] at H
      exact absurd H (by simp)
    ·rw [if_neg c4] at H
     have c4b0 : decide (x13_1 < (l0.length : Int)) = false := decide_eq_false c4
     clear c4
     obtain rfl := Option.some.inj H
     go_wp2
     repeat (go_quiet (fail); try go_wp2)
     go_ret
     exact ⟨by first | rfl | (simp; done) | (simp [*]; done), by repeat (first | exact Drawn0.refl _ | apply Drawn0.step)⟩
 ·rw [if_neg c3] at H
  have c3b0 : ((l0.length : Int) == (l1.length : Int)) = false := beq_eq_false_iff_ne.mpr c3
  have c3b1 : ((l0.length : Int) != (l1.length : Int)) = true := bne_iff_ne.mpr c3
  have c3b2 : (l0.length == l1.length) = false := by first | simpa using c3 | (simp at c3 ⊢; omega)
  obtain rfl := Option.some.inj H
  go_enter Try.func115, Try.ntmps115
  go_wp2
  repeat (go_quiet (fail); try go_wp2)
  go_ret
  exact ⟨by first | rfl | (simp; done) | (simp [*]; done), by repeat (first | exact Drawn0.refl _ | apply Drawn0.step)⟩

end Go.Proofs.Ytacdlipojhoilaa.Mx
