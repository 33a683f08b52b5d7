-- Written by hook.py, a program of this session (wip/), which runs the kit's print.py with its own parts; Lean checks it.
import Derived.Test.YtcodionjhcmfhaaDoorAo0
import Derived.Test.YtcodionjhcmfhaaDoorAo2
import Derived.Test.YtcodionjhcmfhaaDoorAo6
import Derived.Test.YtcodionjhcmfhaaDoorAoXSq
namespace Go.Proofs.YtcodionjhcmfhaaDoor.Ao
open Go.RowKit Go.Proofs.YtcodionjhcmfhaaDoorW.PrintWords Go.Proofs.YtcodionjhcmfhaaDoorW.PrintLast Go.Proofs.YtcodionjhcmfhaaDoorW.PrintMore Go.Proofs.YtcodionjhcmfhaaDoor.Sq
attribute [local go_sem] max2_int min2_int max_two min_two max_three min_three max_four min_four   -- for this text's walks alone
set_option linter.unusedVariables false
set_option linter.unusedSimpArgs false

mutual
def spec_ivEnds.l0 : Nat → List Int → List (S76) → List Int → Int → Int → Int → List Int → Option ((List (S76)))
 | 0, _, _, _, _, _, _, _ => none
 | k + 1, x3, x4, x12, x13, x14, x220000, x220001 => if x14 < x13 then (if 0 ≤ x14 then (if x14 < (x12.length : Int) then (spec_ivEnds.l1 k x3 x4 x14 x12 x13 x14 x3 (x3.length : Int) 0 x220000 x220001 (rd x12 x14) (rd x12 x14)) else (none)) else (none)) else (some x4)
def spec_ivEnds.l1 : Nat → List Int → List (S76) → Int → List Int → Int → Int → List Int → Int → Int → Int → List Int → Int → Int → Option ((List (S76)))
 | 0, _, _, _, _, _, _, _, _, _, _, _, _, _ => none
 | k + 1, x3, x4, x5, x12, x13, x14, x22, x23, x24, x220000, x220001, x225000, x225001 => if x24 < x23 then (if 0 ≤ x24 then (if x24 < (x22.length : Int) then (if 0 ≤ x5 then (if x5 < (x220001.length : Int) then ((spec_orHas.f (rd x220001 x5) x24).bind fun t230 => (if t230 = true then (spec_ivEnds.l1 k x3 x4 x5 x12 x13 x14 x22 x23 (wrap64 (x24 + 1)) x220000 x220001 x225000 x225001) else ((spec_l1Most.f x225001 (rd x22 x24)).bind fun t231 => (spec_ivEnds.l1 k x3 x4 x5 x12 x13 x14 x22 x23 (wrap64 (x24 + 1)) x220000 x220001 x225000 t231)))) else (none)) else (none)) else (none)) else (none)) else (if x4.length < 8796093022208 then (spec_ivEnds.l0 k x3 (x4 ++ [(⟨x225000, x225001⟩ : S76)]) x12 x13 (wrap64 (x14 + 1)) x220000 x220001) else (none))
end
def spec_ivEnds.f (k : Nat) (a0_0 : Int) (l0_1 : List Int) : Option ((List (S76))) := (spec_ivLevels.f k a0_0 l0_1).bind fun t220 => (spec_ivEnds.l0 k t220 ([] : List (S76)) t220 (t220.length : Int) 0 a0_0 l0_1)
theorem spec_ivEnds.mono_l : ∀ k, (∀ y0 y1 y2 y3 y4 y5 y6, LeO (spec_ivEnds.l0 k y0 y1 y2 y3 y4 y5 y6) (spec_ivEnds.l0 (k + 1) y0 y1 y2 y3 y4 y5 y6)) ∧ (∀ y0 y1 y2 y3 y4 y5 y6 y7 y8 y9 y10 y11 y12, LeO (spec_ivEnds.l1 k y0 y1 y2 y3 y4 y5 y6 y7 y8 y9 y10 y11 y12) (spec_ivEnds.l1 (k + 1) y0 y1 y2 y3 y4 y5 y6 y7 y8 y9 y10 y11 y12))
 | 0 => ⟨fun _ _ _ _ _ _ _ r h => by simp [spec_ivEnds.l0] at h, fun _ _ _ _ _ _ _ _ _ _ _ _ _ r h => by simp [spec_ivEnds.l1] at h⟩
 | k + 1 => by
  obtain ⟨ih0, ih1⟩ := spec_ivEnds.mono_l k
  refine ⟨?_, ?_⟩
  ·intro y0 y1 y2 y3 y4 y5 y6
   unfold spec_ivEnds.l0
   repeat' first | with_reducible first | exact ih0 _ _ _ _ _ _ _ | exact ih1 _ _ _ _ _ _ _ _ _ _ _ _ _ | exact spec_ivLevels.mono _ _ _ | exact LeO.refl _ | exact LeO.none _ | refine LeO.ite ?_ ?_ | refine LeO.bind ?_ (fun _ => ?_)
  ·intro y0 y1 y2 y3 y4 y5 y6 y7 y8 y9 y10 y11 y12
   unfold spec_ivEnds.l1
   repeat' first | with_reducible first | exact ih0 _ _ _ _ _ _ _ | exact ih1 _ _ _ _ _ _ _ _ _ _ _ _ _ | exact spec_ivLevels.mono _ _ _ | exact LeO.refl _ | exact LeO.none _ | refine LeO.ite ?_ ?_ | refine LeO.bind ?_ (fun _ => ?_)
theorem spec_ivEnds.mono : ∀ a0 a1 k, LeO (spec_ivEnds.f k a0 a1) (spec_ivEnds.f (k + 1) a0 a1) := by
 intro a0 a1 k
 obtain ⟨ih0, ih1⟩ := spec_ivEnds.mono_l k
 unfold spec_ivEnds.f
 repeat' first | with_reducible first | exact ih0 _ _ _ _ _ _ _ | exact ih1 _ _ _ _ _ _ _ _ _ _ _ _ _ | exact spec_ivLevels.mono _ _ _ | exact LeO.refl _ | exact LeO.none _ | refine LeO.ite ?_ ?_ | refine LeO.bind ?_ (fun _ => ?_)
set_option maxHeartbeats 8000000 in
set_option maxRecDepth 100000 in
theorem spec_ivEnds.calls (k : Nat) (a0_0 : Int) (A0_1 : Option Addr) (c0_1 : Nat) (l0_1 : List Int) (r : List (S76)) (w : World) (hr0_1 : Kd.C (Kd.int .i64) w A0_1 l0_1.length l0_1) (hc0_1 : l0_1.length ≤ c0_1) (h : spec_ivEnds.f k a0_0 l0_1 = some r) :
  Calls Tryd.prog 65 #[.agg #[.int .i64 a0_0, .slice A0_1 l0_1.length c0_1]] w fun e w' => ∃ v0_ : Value, e = .returned (v0_) ∧ Kd.R k76 76 w' w.heap.size (fun _ => True) v0_ r ∧ Below w.heap.size w w' := by
 have hu31 := Tryd.underlying31
 have hu76 := Tryd.underlying76
 have HR0_1 := aM hr0_1
 have HC0_1 := aM hc0_1
 clear hr0_1 hc0_1
 have HB := aM (Below.refl w.heap.size w)
 have H : ((spec_ivLevels.f k a0_0 l0_1).bind fun t220 => (spec_ivEnds.l0 k t220 ([] : List (S76)) t220 (t220.length : Int) 0 a0_0 l0_1)) = some r := h
 clear h
 replace H := Option.bind_eq_some_iff.mp H
 obtain ⟨t220, A20, H⟩ := H
 replace H : (spec_ivEnds.l0 k t220 ([] : List (S76)) t220 (t220.length : Int) 0 a0_0 l0_1) = some r := H
 have A2 := aM A20
 clear A20
 have H' := aM H
 clear H
 go_enter Tryd.func65, Tryd.ntmps65
 go_wp2_with (first | ((with_reducible refine gate_dst (N := 1) rfl ?_); refine bE 1 31 #[.int .i64 a0_0, .slice A0_1 l0_1.length c0_1] ?_; intro gb219 hg w3 hbox hb; have _ := aM (below_step bq hb); have _ := aM (hbox); have _ := aM ((gS hg)); have _ := aM ((gS hg)); clear HB; rename_i HB BK219 GW219 GE219; clear hb hbox hg; have hcz4_0 : w3.cell? ⟨gb219, 0, none⟩ = some (.int .i64 a0_0) := (blk_cell BK219.out 0).trans rfl; have hcz4_1 : w3.cell? ⟨gb219, 1, none⟩ = some (.slice A0_1 l0_1.length c0_1) := (blk_cell BK219.out 1).trans rfl; have hfz4_0 := blk_frozen BK219.out 0; have hfz4_1 := blk_frozen BK219.out 1) | ((with_reducible refine gate_callee (f := 67) rfl ?_); refine gL (some 11) Tryd.func67 #[.agg #[.int .i64 a0_0, .slice A0_1 l0_1.length c0_1]] ?_; (with_reducible refine (spec_ivLevels.calls k a0_0 _ _ l0_1 t220 _ (cQ (Kd.C_below HR0_1.out HB.out)) HC0_1.out A2.out).mono ?_); rintro e w5 ⟨v221, rfl, ho0, hb⟩; refine ⟨_, rfl, ?_⟩; have _ := aM (Kd.R_lower ho0 (below_size bq)); have _ := aM (blk_below (g := gb219) (o := .cells #[.int .i64 a0_0, .slice A0_1 l0_1.length c0_1] 31 (0, 0)) (qQ BK219) hb); have _ := aM (below_step bq hb); clear BK219 HB; rename_i HO222 BK219 HB; (try clear hb); (try clear hb2); (try clear hk); (try clear hi); (try clear ho0); obtain ⟨Ao6, co6, eo6⟩ := Kd.R_slice HO222.out; subst eo6))
 go_loopg [4, 14] k (fun kq v4 v14 w' => ∃ (x4_1 : List (S76)) (x14_1 : Int), v14 = .int .i64 x14_1 ∧ Aside0 (spec_ivEnds.l0 kq t220 x4_1 t220 (t220.length : Int) x14_1 a0_0 l0_1 = some r) ∧ Aside0 (kq ≤ k) ∧ Aside0 (Kd.R (Kd.int .i64) 3 w' w.heap.size (fun _ => True) (.slice Ao6 t220.length co6) t220) ∧ Aside0 (Kd.R k76 76 w' w.heap.size (fun _ => True) v4 x4_1) ∧ Aside0 (Kd.R (Kd.int .i64) 3 w' w.heap.size (fun _ => True) (.slice Ao6 t220.length co6) t220) ∧ Aside0 (w'.heap[gb219]? = some (.cells #[.int .i64 a0_0, (.slice A0_1 l0_1.length c0_1)] 31 (0, 0))) ∧ Aside0 (Below w.heap.size w w'))
 case atStart => exact ⟨(([] : List (S76))), (0), (by first | rfl | (simp; done) | (simp [*]; done)), H', ⟨Nat.le_refl _⟩, ⟨by (with_reducible repeat first|apply rA|apply rN|apply rD); exact HO222.out⟩, ⟨by first | exact Kd.R_nil _ _ _ _ _ | exact Kd.N_nil _ _ _ _ _ | exact Kd.V_nil _ _ _ _ _ | exact Kd.Q_nil _ _ _ _ _ | exact Kd.S_nil _ _ _ _ _⟩, ⟨by (with_reducible repeat first|apply rA|apply rN|apply rD); exact HO222.out⟩, ⟨by (with_reducible repeat first|apply qN|apply qD|apply qA); exact BK219.out⟩, ⟨by exact bq⟩⟩
 case round =>
  clear H'
  try clear p2
  try clear c6
  try clear hcz4_0
  try clear hcz4_1
  try clear hfz4_0
  try clear hfz4_1
  obtain ⟨x4_1, x14_1, rfl, HA, HK1, HO_3, HO_4, HO_12, BK219, HB⟩ := hrel
  cases gk with
  | zero => exact absurd HA.out (by simp [spec_ivEnds.l0])
  | succ k1 =>
   have H := HA.out
   clear HA
   simp only [spec_ivEnds.l0] at H
   by_cases c7 : x14_1 < (t220.length : Int)
   ·rw [if_pos c7] at H
    have c7b0 : decide (x14_1 < (t220.length : Int)) = true := decide_eq_true c7
    clear c7
    by_cases c8 : 0 ≤ x14_1
    ·rw [if_pos c8] at H
     have c8b0 : decide (0 ≤ x14_1) = true := decide_eq_true c8
     clear c8
     by_cases c9 : x14_1 < (t220.length : Int)
     ·rw [if_pos c9] at H
      have c9b0 : decide (x14_1 < (t220.length : Int)) = true := decide_eq_true c9
      clear c9
      have H' := aM H
      clear H
      have p223 : 0 ≤ (x14_1 : Int) := odt
      have q223 : x14_1 < (t220.length : Int) := odt
      obtain ⟨ad223, e223, hx223_0⟩ := Kd.at_int (Kd.R_reads' HO_12.out).2.2 x14_1 p223 q223
      cases e223
      replace p223 := eq_true p223
      replace q223 := eq_true q223
      go_wp2_with (first | ((with_reducible refine gate_dst (N := 7) rfl ?_); refine bE 7 76 #[.int .i64 0, .int .i64 0] ?_; intro gb224 hg w10 hbox hb; have _ := aM (Kd.R_below (rQ HO_3) hb); have _ := aM (Kd.R_below (Kd.R_elderB (rQ HO_4) gb224 (Nat.le_of_eq hg.symm)) hb); have _ := aM (Kd.R_below (rQ HO_12) hb); have _ := aM (blk_below (g := gb219) (o := .cells #[.int .i64 a0_0, .slice A0_1 l0_1.length c0_1] 31 (0, 0)) (qQ BK219) hb); have _ := aM (below_step bq hb); have _ := aM (hbox); have _ := aM ((gS hg)); have _ := aM ((gS hg)); have _ := aM ((by rw [hg]; exact Nat.ne_of_lt (blk_lt (g := gb219) (o := .cells #[.int .i64 a0_0, .slice A0_1 l0_1.length c0_1] 31 (0, 0)) (qQ BK219)) : gb219 ≠ gb224)); have _ := aM ((by rw [hg]; exact Nat.ne_of_gt (blk_lt (g := gb219) (o := .cells #[.int .i64 a0_0, .slice A0_1 l0_1.length c0_1] 31 (0, 0)) (qQ BK219)) : gb224 ≠ gb219)); clear HO_3 HO_4 HO_12 BK219 HB; rename_i HO_3 HO_4 HO_12 BK219 HB BK224 GW224 GE224 NB219_224 NB224_219; clear hb hbox hg; have hnb11 := NB224_219.out; have hnc11 := NB219_224.out; have hcz12_0 : w10.cell? ⟨gb224, 0, none⟩ = some (.int .i64 0) := (blk_cell BK224.out 0).trans rfl; have hcz12_1 : w10.cell? ⟨gb224, 1, none⟩ = some (.int .i64 0) := (blk_cell BK224.out 1).trans rfl; have hfz12_0 := blk_frozen BK224.out 0; have hfz12_1 := blk_frozen BK224.out 1))
      go_loopg [24] k1 (fun kq v24 w' => ∃ (x24_2 : Int) (x225001_2 : Int), v24 = .int .i64 x24_2 ∧ Aside0 (spec_ivEnds.l1 kq t220 x4_1 x14_1 t220 (t220.length : Int) x14_1 t220 (t220.length : Int) x24_2 a0_0 l0_1 (rd t220 x14_1) x225001_2 = some r) ∧ Aside0 (kq ≤ k1) ∧ Aside0 (Kd.R (Kd.int .i64) 3 w' w.heap.size (fun _ => True) (.slice (some ad223) t220.length co6) t220) ∧ Aside0 (Kd.R k76 76 w' w.heap.size (fun k_ => k_ ≠ gb224) u4 x4_1) ∧ Aside0 (Kd.R (Kd.int .i64) 3 w' w.heap.size (fun _ => True) (.slice (some ad223) t220.length co6) t220) ∧ Aside0 (Kd.R (Kd.int .i64) 3 w' w.heap.size (fun _ => True) (.slice (some ad223) t220.length co6) t220) ∧ Aside0 (w'.heap[gb219]? = some (.cells #[.int .i64 a0_0, (.slice A0_1 l0_1.length c0_1)] 31 (0, 0))) ∧ Aside0 (w'.heap[gb224]? = some (.cells #[.int .i64 (rd t220 x14_1), .int .i64 x225001_2] 76 (0, 0))) ∧ Aside0 (Below w.heap.size w w'))
      case atStart => exact ⟨(0), (rd t220 x14_1), (by first | rfl | (simp; done) | (simp [*]; done)), H', ⟨Nat.le_refl _⟩, ⟨by (with_reducible repeat first|apply rA|apply rN|apply rD); exact Kd.R_mono (Kd.R_far (p := ⟨gb224, 1, none⟩) (Kd.R_far (p := ⟨gb224, 0, none⟩) (Kd.R_types HO_3.out BK224.out (by decide)) (fun _ hk => hk.2) (.int .i64 (rd t220 x14_1))) (fun _ hk => hk.2) (.int .i64 (rd t220 x14_1))) (fun _ hk => trivial)⟩, ⟨by (with_reducible repeat first|apply rA|apply rN|apply rD); exact Kd.R_mono (Kd.R_far (p := ⟨gb224, 1, none⟩) (Kd.R_far (p := ⟨gb224, 0, none⟩) (Kd.R_mono HO_4.out (fun k_ hk => (⟨hk, hk.2⟩ : _ ∧ k_ ≠ gb224))) (fun _ hk => hk.2) (.int .i64 (rd t220 x14_1))) (fun _ hk => hk.2) (.int .i64 (rd t220 x14_1))) (fun _ hk => hk.1.2)⟩, ⟨by (with_reducible repeat first|apply rA|apply rN|apply rD); exact Kd.R_mono (Kd.R_far (p := ⟨gb224, 1, none⟩) (Kd.R_far (p := ⟨gb224, 0, none⟩) (Kd.R_types HO_12.out BK224.out (by decide)) (fun _ hk => hk.2) (.int .i64 (rd t220 x14_1))) (fun _ hk => hk.2) (.int .i64 (rd t220 x14_1))) (fun _ hk => trivial)⟩, ⟨by (with_reducible repeat first|apply rA|apply rN|apply rD); exact Kd.R_mono (Kd.R_far (p := ⟨gb224, 1, none⟩) (Kd.R_far (p := ⟨gb224, 0, none⟩) (Kd.R_types HO_3.out BK224.out (by decide)) (fun _ hk => hk.2) (.int .i64 (rd t220 x14_1))) (fun _ hk => hk.2) (.int .i64 (rd t220 x14_1))) (fun _ hk => trivial)⟩, ⟨by (with_reducible repeat first|apply qN|apply qD|apply qA); refine blk_far ?_ NB219_224.out _; (with_reducible repeat first|apply qN|apply qD|apply qA); refine blk_far ?_ NB219_224.out _; (with_reducible repeat first|apply qN|apply qD|apply qA); exact BK219.out⟩, ⟨by (with_reducible repeat first|apply qN|apply qD|apply qA); refine blk_put (cs := #[.int .i64 (rd t220 x14_1), .int .i64 0]) ?_ 1 _ rfl; (with_reducible repeat first|apply qN|apply qD|apply qA); refine blk_put (cs := #[.int .i64 0, .int .i64 0]) ?_ 0 _ rfl; (with_reducible repeat first|apply qN|apply qD|apply qA); exact BK224.out⟩, ⟨by exact bq⟩⟩
      case round =>
       clear H'
       try clear c1
       try clear p2
       try clear q2
       try clear hx2
       try clear c6
       try clear c7
       try clear c7b0
       try clear c8
       try clear c8b0
       try clear c9
       try clear c9b0
       try clear c11
       try clear hcz12_0
       try clear hcz12_1
       try clear hcz4_0
       try clear hcz4_1
       try clear hfz12_0
       try clear hfz12_1
       try clear hfz4_0
       try clear hfz4_1
       try clear hx223_0
       try clear p2
       try clear p223
       try clear q223
       obtain ⟨x24_2, x225001_2, rfl, HA, HK2, HO_3, HO_4, HO_12, HO_22, BK219, BK224, HB⟩ := hrel
       cases gk with
       | zero => exact absurd HA.out (by simp [spec_ivEnds.l1])
       | succ k2 =>
        have H := HA.out
        clear HA
        simp only [spec_ivEnds.l1] at H
        by_cases c13 : x24_2 < (t220.length : Int)
        ·rw [if_pos c13] at H
         have c13b0 : decide (x24_2 < (t220.length : Int)) = true := decide_eq_true c13
         clear c13
         by_cases c14 : 0 ≤ x24_2
         ·rw [if_pos c14] at H
          have c14b0 : decide (0 ≤ x24_2) = true := decide_eq_true c14
          clear c14
          by_cases c15 : x24_2 < (t220.length : Int)
          ·rw [if_pos c15] at H
           have c15b0 : decide (x24_2 < (t220.length : Int)) = true := decide_eq_true c15
           clear c15
           by_cases c16 : 0 ≤ x14_1
           ·rw [if_pos c16] at H
            have c16b0 : decide (0 ≤ x14_1) = true := decide_eq_true c16
            clear c16
            by_cases c17 : x14_1 < (l0_1.length : Int)
            ·rw [if_pos c17] at H
             have c17b0 : decide (x14_1 < (l0_1.length : Int)) = true := decide_eq_true c17
             clear c17
             replace H := Option.bind_eq_some_iff.mp H
             obtain ⟨t230, A180, H⟩ := H
             replace H : (if t230 = true then (spec_ivEnds.l1 k2 t220 x4_1 x14_1 t220 (t220.length : Int) x14_1 t220 (t220.length : Int) (wrap64 (x24_2 + 1)) a0_0 l0_1 (rd t220 x14_1) x225001_2) else ((spec_l1Most.f x225001_2 (rd t220 x24_2)).bind fun t231 => (spec_ivEnds.l1 k2 t220 x4_1 x14_1 t220 (t220.length : Int) x14_1 t220 (t220.length : Int) (wrap64 (x24_2 + 1)) a0_0 l0_1 (rd t220 x14_1) t231))) = some r := H
             have A18 := aM A180
             clear A180
             by_cases c19 : t230 = true
             ·subst c19
              have H1 : (spec_ivEnds.l1 k2 t220 x4_1 x14_1 t220 (t220.length : Int) x14_1 t220 (t220.length : Int) (wrap64 (x24_2 + 1)) a0_0 l0_1 (rd t220 x14_1) x225001_2) = some r := by rw [if_pos rfl] at H; exact H
              clear H
              have H := H1
              clear H1
              have H' := aM H
              clear H
              have p228 : 0 ≤ (x24_2 : Int) := odt
              have q228 : x24_2 < (t220.length : Int) := odt
              obtain ⟨ad228, e228, hx228_0⟩ := Kd.at_int (Kd.R_reads' HO_22.out).2.2 x24_2 p228 q228
              obtain rfl : ad223 = ad228 := (by injection e228)
              replace p228 := eq_true p228
              replace q228 := eq_true q228
              have hnb20 := NB219_224.out
              have hnc20 := NB224_219.out
              have hcz21_0 : wr.cell? ⟨gb219, 0, none⟩ = some (.int .i64 a0_0) := (blk_cell BK219.out 0).trans rfl
              have hcz21_1 : wr.cell? ⟨gb219, 1, none⟩ = some (.slice A0_1 l0_1.length c0_1) := (blk_cell BK219.out 1).trans rfl
              have hfz21_0 := blk_frozen BK219.out 0
              have hfz21_1 := blk_frozen BK219.out 1
              have p229 : 0 ≤ (x14_1 : Int) := odt
              have q229 : x14_1 < (l0_1.length : Int) := odt
              obtain ⟨ad229, e229, hx229_0⟩ := Kd.at_int HR0_1.out x14_1 p229 q229
              cases e229
              replace hx229_0 := (HB.out.cell (World.block_lt_of_cell? w _ hx229_0)).trans hx229_0
              replace p229 := eq_true p229
              replace q229 := eq_true q229
              go_wp2_with (first | ((with_reducible refine gate_callee (f := 93) rfl ?_); refine gL (some 35) Tryd.func93 #[.int .i64 (rd l0_1 x14_1), .int .i64 x24_2] ?_; (with_reducible refine (spec_orHas.calls (rd l0_1 x14_1) x24_2 true _ A18.out).mono ?_); rintro e w' ⟨rfl, ⟨nd, rfl⟩⟩; refine ⟨_, rfl, ?_⟩))
              go_roundg k2
              case measure => have := HK1.out; have := HK2.out; omega
              case rel => exact ⟨(wrap64 (x24_2 + 1)), (x225001_2), (by first | rfl | (simp; done) | (simp [*]; done)), H', ⟨by have := HK1.out; have := HK2.out; omega⟩, ⟨by (with_reducible repeat first|apply rA|apply rN|apply rD); exact HO_3.out⟩, ⟨by (with_reducible repeat first|apply rA|apply rN|apply rD); exact HO_4.out⟩, ⟨by (with_reducible repeat first|apply rA|apply rN|apply rD); exact HO_12.out⟩, ⟨by (with_reducible repeat first|apply rA|apply rN|apply rD); exact HO_22.out⟩, ⟨by (with_reducible repeat first|apply qN|apply qD|apply qA); exact BK219.out⟩, ⟨by (with_reducible repeat first|apply qN|apply qD|apply qA); exact BK224.out⟩, ⟨by exact bq⟩⟩
             ·replace c19 := Bool.eq_false_iff.mpr c19
              subst c19
              have H1 : ((spec_l1Most.f x225001_2 (rd t220 x24_2)).bind fun t231 => (spec_ivEnds.l1 k2 t220 x4_1 x14_1 t220 (t220.length : Int) x14_1 t220 (t220.length : Int) (wrap64 (x24_2 + 1)) a0_0 l0_1 (rd t220 x14_1) t231)) = some r := by rw [if_neg (show ¬ (false = true) by decide)] at H; exact H
              clear H
              have H := H1
              clear H1
              replace H := Option.bind_eq_some_iff.mp H
              obtain ⟨t231, A220, H⟩ := H
              replace H : (spec_ivEnds.l1 k2 t220 x4_1 x14_1 t220 (t220.length : Int) x14_1 t220 (t220.length : Int) (wrap64 (x24_2 + 1)) a0_0 l0_1 (rd t220 x14_1) t231) = some r := H
              have A22 := aM A220
              clear A220
              have H' := aM H
              clear H
              have p228 : 0 ≤ (x24_2 : Int) := odt
              have q228 : x24_2 < (t220.length : Int) := odt
              obtain ⟨ad228, e228, hx228_0⟩ := Kd.at_int (Kd.R_reads' HO_22.out).2.2 x24_2 p228 q228
              obtain rfl : ad223 = ad228 := (by injection e228)
              replace p228 := eq_true p228
              replace q228 := eq_true q228
              have hnb23 := NB219_224.out
              have hnc23 := NB224_219.out
              have hcz24_0 : wr.cell? ⟨gb219, 0, none⟩ = some (.int .i64 a0_0) := (blk_cell BK219.out 0).trans rfl
              have hcz24_1 : wr.cell? ⟨gb219, 1, none⟩ = some (.slice A0_1 l0_1.length c0_1) := (blk_cell BK219.out 1).trans rfl
              have hfz24_0 := blk_frozen BK219.out 0
              have hfz24_1 := blk_frozen BK219.out 1
              have p229 : 0 ≤ (x14_1 : Int) := odt
              have q229 : x14_1 < (l0_1.length : Int) := odt
              obtain ⟨ad229, e229, hx229_0⟩ := Kd.at_int HR0_1.out x14_1 p229 q229
              cases e229
              replace hx229_0 := (HB.out.cell (World.block_lt_of_cell? w _ hx229_0)).trans hx229_0
              replace p229 := eq_true p229
              replace q229 := eq_true q229
              go_wp2_with (first | ((with_reducible refine gate_callee (f := 93) rfl ?_); refine gL (some 35) Tryd.func93 #[.int .i64 (rd l0_1 x14_1), .int .i64 x24_2] ?_; (with_reducible refine (spec_orHas.calls (rd l0_1 x14_1) x24_2 false _ A18.out).mono ?_); rintro e w' ⟨rfl, ⟨nd, rfl⟩⟩; refine ⟨_, rfl, ?_⟩; (try (rw [drewN_self wr]; generalize hq_ : World.drewN wr _ = wr; have _ : Aside0 (Kd.R (Kd.int .i64) 3 wr w.heap.size (fun _ => True) (.slice (some ad223) t220.length co6) t220) := ⟨by rw [← hq_]; exact (rQ HO_12)⟩; have _ : Aside0 (Kd.R (Kd.int .i64) 3 wr w.heap.size (fun _ => True) (.slice (some ad223) t220.length co6) t220) := ⟨by rw [← hq_]; exact (rQ HO_22)⟩; have _ : Aside0 (Kd.R (Kd.int .i64) 3 wr w.heap.size (fun _ => True) (.slice (some ad223) t220.length co6) t220) := ⟨by rw [← hq_]; exact (rQ HO_3)⟩; have _ : Aside0 (Kd.R k76 76 wr w.heap.size (fun k_ => k_ ≠ gb224) u4 x4_1) := ⟨by rw [← hq_]; exact (rQ HO_4)⟩; have _ : Aside0 (wr.heap[gb219]? = some (.cells #[.int .i64 a0_0, .slice (some ad229) l0_1.length c0_1] 31 (0, 0))) := ⟨by rw [← hq_]; exact (qQ BK219)⟩; have _ : Aside0 (wr.heap[gb224]? = some (.cells #[.int .i64 (rd t220 x14_1), .int .i64 x225001_2] 76 (0, 0))) := ⟨by rw [← hq_]; exact (qQ BK224)⟩; have _ : Aside0 (Below w.heap.size w wr) := ⟨by rw [← hq_]; exact bq⟩; clear HO_12 HO_22 HO_3 HO_4 BK219 BK224 HB hq_; rename_i HO_12 HO_22 HO_3 HO_4 BK219 BK224 HB; (try have hcq219_0 : wr.cell? ⟨gb219, 0, none⟩ = some (.int .i64 a0_0) := (blk_cell BK219.out 0).trans rfl); (try have hfq219_0 := blk_frozen BK219.out 0); (try have hcq219_1 : wr.cell? ⟨gb219, 1, none⟩ = some (.slice (some ad229) l0_1.length c0_1) := (blk_cell BK219.out 1).trans rfl); (try have hfq219_1 := blk_frozen BK219.out 1); (try have hcq224_0 : wr.cell? ⟨gb224, 0, none⟩ = some (.int .i64 (rd t220 x14_1)) := (blk_cell BK224.out 0).trans rfl); (try have hfq224_0 := blk_frozen BK224.out 0); (try have hcq224_1 : wr.cell? ⟨gb224, 1, none⟩ = some (.int .i64 x225001_2) := (blk_cell BK224.out 1).trans rfl); (try have hfq224_1 := blk_frozen BK224.out 1))); have hcz25_0 : wr.cell? ⟨gb224, 0, none⟩ = some (.int .i64 (rd t220 x14_1)) := (blk_cell BK224.out 0).trans rfl; have hcz25_1 : wr.cell? ⟨gb224, 1, none⟩ = some (.int .i64 x225001_2) := (blk_cell BK224.out 1).trans rfl; have hfz25_0 := blk_frozen BK224.out 0; have hfz25_1 := blk_frozen BK224.out 1) | ((with_reducible refine gate_callee (f := 96) rfl ?_); refine gL (some 40) Tryd.func96 #[.int .i64 x225001_2, .int .i64 (rd t220 x24_2)] ?_; (with_reducible refine (spec_l1Most.calls x225001_2 (rd t220 x24_2) t231 _ A22.out).mono ?_); rintro e w' ⟨rfl, ⟨nd, rfl⟩⟩; refine ⟨_, rfl, ?_⟩; (try (rw [drewN_self wr]; generalize hq_ : World.drewN wr _ = wr; have _ : Aside0 (Kd.R (Kd.int .i64) 3 wr w.heap.size (fun _ => True) (.slice (some ad223) t220.length co6) t220) := ⟨by rw [← hq_]; exact (rQ HO_12)⟩; have _ : Aside0 (Kd.R (Kd.int .i64) 3 wr w.heap.size (fun _ => True) (.slice (some ad223) t220.length co6) t220) := ⟨by rw [← hq_]; exact (rQ HO_22)⟩; have _ : Aside0 (Kd.R (Kd.int .i64) 3 wr w.heap.size (fun _ => True) (.slice (some ad223) t220.length co6) t220) := ⟨by rw [← hq_]; exact (rQ HO_3)⟩; have _ : Aside0 (Kd.R k76 76 wr w.heap.size (fun k_ => k_ ≠ gb224) u4 x4_1) := ⟨by rw [← hq_]; exact (rQ HO_4)⟩; have _ : Aside0 (wr.heap[gb219]? = some (.cells #[.int .i64 a0_0, .slice (some ad229) l0_1.length c0_1] 31 (0, 0))) := ⟨by rw [← hq_]; exact (qQ BK219)⟩; have _ : Aside0 (wr.heap[gb224]? = some (.cells #[.int .i64 (rd t220 x14_1), .int .i64 x225001_2] 76 (0, 0))) := ⟨by rw [← hq_]; exact (qQ BK224)⟩; have _ : Aside0 (Below w.heap.size w wr) := ⟨by rw [← hq_]; exact bq⟩; clear HO_12 HO_22 HO_3 HO_4 BK219 BK224 HB hq_; rename_i HO_12 HO_22 HO_3 HO_4 BK219 BK224 HB; (try have hcq219_0 : wr.cell? ⟨gb219, 0, none⟩ = some (.int .i64 a0_0) := (blk_cell BK219.out 0).trans rfl); (try have hfq219_0 := blk_frozen BK219.out 0); (try have hcq219_1 : wr.cell? ⟨gb219, 1, none⟩ = some (.slice (some ad229) l0_1.length c0_1) := (blk_cell BK219.out 1).trans rfl); (try have hfq219_1 := blk_frozen BK219.out 1); (try have hcq224_0 : wr.cell? ⟨gb224, 0, none⟩ = some (.int .i64 (rd t220 x14_1)) := (blk_cell BK224.out 0).trans rfl); (try have hfq224_0 := blk_frozen BK224.out 0); (try have hcq224_1 : wr.cell? ⟨gb224, 1, none⟩ = some (.int .i64 x225001_2) := (blk_cell BK224.out 1).trans rfl); (try have hfq224_1 := blk_frozen BK224.out 1)))))
              go_roundg k2
              case measure => have := HK1.out; have := HK2.out; omega
              case rel => exact ⟨(wrap64 (x24_2 + 1)), (t231), (by first | rfl | (simp; done) | (simp [*]; done)), H', ⟨by have := HK1.out; have := HK2.out; omega⟩, ⟨by (with_reducible repeat first|apply rA|apply rN|apply rD); exact Kd.R_mono (Kd.R_far (p := ⟨gb224, 1, none⟩) (Kd.R_types HO_3.out BK224.out (by decide)) (fun _ hk => hk.2) (.int .i64 t231)) (fun _ hk => trivial)⟩, ⟨by (with_reducible repeat first|apply rA|apply rN|apply rD); exact Kd.R_mono (Kd.R_far (p := ⟨gb224, 1, none⟩) (Kd.R_mono HO_4.out (fun k_ hk => (⟨hk, hk⟩ : _ ∧ k_ ≠ gb224))) (fun _ hk => hk.2) (.int .i64 t231)) (fun _ hk => hk.1)⟩, ⟨by (with_reducible repeat first|apply rA|apply rN|apply rD); exact Kd.R_mono (Kd.R_far (p := ⟨gb224, 1, none⟩) (Kd.R_types HO_12.out BK224.out (by decide)) (fun _ hk => hk.2) (.int .i64 t231)) (fun _ hk => trivial)⟩, ⟨by (with_reducible repeat first|apply rA|apply rN|apply rD); exact Kd.R_mono (Kd.R_far (p := ⟨gb224, 1, none⟩) (Kd.R_types HO_22.out BK224.out (by decide)) (fun _ hk => hk.2) (.int .i64 t231)) (fun _ hk => trivial)⟩, ⟨by (with_reducible repeat first|apply qN|apply qD|apply qA); refine blk_far ?_ NB219_224.out _; (with_reducible repeat first|apply qN|apply qD|apply qA); exact BK219.out⟩, ⟨by (with_reducible repeat first|apply qN|apply qD|apply qA); refine blk_put (cs := #[.int .i64 (rd t220 x14_1), .int .i64 x225001_2]) ?_ 1 _ rfl; (with_reducible repeat first|apply qN|apply qD|apply qA); exact BK224.out⟩, ⟨by exact bq⟩⟩
            ·rw [if_neg c17] at H
             exact absurd H (by simp)
           ·rw [if_neg c16] at H
            exact absurd H (by simp)
          ·rw [if_neg c15] at H
           exact absurd H (by simp)
         ·rw [if_neg c14] at H
          exact absurd H (by simp)
        ·rw [if_neg c13] at H
         have c13b0 : decide (x24_2 < (t220.length : Int)) = false := decide_eq_false c13
         clear c13
         by_cases c26 : x4_1.length < 8796093022208
         ·rw [if_pos c26] at H
          have LMc26 := aM c26
          clear c26
          obtain ⟨y225, hy225⟩ : ∃ y_ : List (S76), y_ = (x4_1 ++ [(⟨(rd t220 x14_1), x225001_2⟩ : S76)]) := ⟨_, rfl⟩
          replace H : (spec_ivEnds.l0 k2 t220 y225 t220 (t220.length : Int) (wrap64 (x14_1 + 1)) a0_0 l0_1) = some r := by first | (rw [hy225]; with_reducible exact H) | (have H2_ := (Option.bind_some _ _).symm.trans H; rw [hy225]; with_reducible exact H2_) | (have H2_ := (Option.bind_some _ _).symm.trans H; with_reducible exact H2_) | with_reducible exact H | (rw [hy225]; exact H) | exact H
          have Ny225 := aM hy225
          clear hy225
          have H' := aM H
          clear H
          have hnb27 := NB224_219.out
          have hnc27 := NB219_224.out
          have hcz28_0 : wr.cell? ⟨gb224, 0, none⟩ = some (.int .i64 (rd t220 x14_1)) := (blk_cell BK224.out 0).trans rfl
          have hcz28_1 : wr.cell? ⟨gb224, 1, none⟩ = some (.int .i64 x225001_2) := (blk_cell BK224.out 1).trans rfl
          have hfz28_0 := blk_frozen BK224.out 0
          have hfz28_1 := blk_frozen BK224.out 1
          go_wp2_with (first | ((with_reducible refine gate_builtin (b := .append) (xs := #[.tmp 43, .tmp 45]) rfl ?_); at_builtin; refine Kd.R_append k76 (w0 := w) w.heap.size rfl (.tmp 43) (.tmp 45) 48 76 (.agg #[(.int .i64 0), (.int .i64 0)]) 16 rfl Tryd.underlying48 info76 rfl (by decide) (by omega) u4 x4_1 (⟨(rd t220 x14_1), x225001_2⟩ : S76) [.int .i64 (rd t220 x14_1), .int .i64 x225001_2] (fun k_ => k_ ≠ gb224) (fun _ => False) rfl rfl ?aP (fun _ hk => hk.elim) ?aF ?aO ?aB ?aS ?aL ?_; (case aP => exact k76_mkM _ _ _ (⟨(rd t220 x14_1), x225001_2⟩ : S76)); (case aB => exact bq); (case aF => exact (fun k_ hk => Kd.freshB (g := gb224) (o := .cells #[.int .i64 (rd t220 x14_1), .int .i64 x225001_2] 76 (0, 0)) (qQ BK224) k_ hk)); (case aO => exact (rQ HO_4)); (case aS => exact (below_size bq)); (case aL => have := LMc26.out; omega); intro v226 w29 ho hb hg hat; rw [← Ny225.out] at ho; have _ := aM (Kd.R_over' (rQ HO_3) (Kd.R_typed (rQ HO_4)) (by decide) hg); have _ := aM (Kd.R_over' (rQ HO_12) (Kd.R_typed (rQ HO_4)) (by decide) hg); have _ := aM (Kd.R_over' (rQ HO_22) (Kd.R_typed (rQ HO_4)) (by decide) hg); have _ := aM (blk_grown (g := gb219) (o := .cells #[.int .i64 a0_0, .slice A0_1 l0_1.length c0_1] 31 (0, 0)) (qQ BK219) hg (Kd.R_ne HO_4.out BK219.out (by decide))); have _ := aM (blk_grown (g := gb224) (o := .cells #[.int .i64 (rd t220 x14_1), .int .i64 x225001_2] 76 (0, 0)) (qQ BK224) hg (Kd.R_away HO_4.out (fun _ hk => hk))); have _ := aM (hb); have _ := aM (ho); clear HO_3 HO_12 HO_22 BK219 BK224 HB HO_4; rename_i HO_3 HO_12 HO_22 BK219 BK224 HB HO227; clear ho hb hg hat))
          go_roundg k2
          case measure => have := HK1.out; have := HK2.out; omega
          case rel => exact ⟨(y225), (wrap64 (x14_1 + 1)), (by first | rfl | (simp; done) | (simp [*]; done)), H', ⟨by have := HK1.out; have := HK2.out; omega⟩, ⟨by (with_reducible repeat first|apply rA|apply rN|apply rD); exact HO_3.out⟩, ⟨by (with_reducible repeat first|apply rA|apply rN|apply rD); exact Kd.R_mono HO227.out (fun _ hk => trivial)⟩, ⟨by (with_reducible repeat first|apply rA|apply rN|apply rD); exact HO_12.out⟩, ⟨by (with_reducible repeat first|apply qN|apply qD|apply qA); exact BK219.out⟩, ⟨by exact bq⟩⟩
         ·rw [if_neg c26] at H
          exact absurd H (by simp)
     ·rw [if_neg c9] at H
      exact absurd H (by simp)
    ·rw [if_neg c8] at H
     exact absurd H (by simp)
   ·rw [if_neg c7] at H
    have c7b0 : decide (x14_1 < (t220.length : Int)) = false := decide_eq_false c7
    clear c7
    obtain rfl := Option.some.inj H
    go_wp2
    go_ret
    exact ⟨_, by first | rfl | (simp [errW_none, errW_some] <;> rfl) | (simp [*, errW_none, errW_some] <;> rfl), by (with_reducible repeat first|apply rA|apply rN|apply rD); exact HO_4.out, by exact bq⟩

def spec_ivMost.l0 : Nat → Int → List Int → Int → Int → Option (Int)
 | 0, _, _, _, _ => none
 | k + 1, x3, x6, x7, x8 => if x8 < x7 then (if 0 ≤ x8 then (if x8 < (x6.length : Int) then ((spec_l1Most.f x3 (rd x6 x8)).bind fun t233 => (spec_ivMost.l0 k t233 x6 x7 (wrap64 (x8 + 1)))) else (none)) else (none)) else (some x3)
def spec_ivMost.f (k : Nat) (l0 : List Int) : Option (Int) := spec_ivMost.l0 k (-1) l0 (l0.length : Int) 0
theorem spec_ivMost.mono_l : ∀ k, (∀ y0 y1 y2 y3, LeO (spec_ivMost.l0 k y0 y1 y2 y3) (spec_ivMost.l0 (k + 1) y0 y1 y2 y3))
 | 0 => fun _ _ _ _ r h => by simp [spec_ivMost.l0] at h
 | k + 1 => by
  have ih0 := spec_ivMost.mono_l k
  ·intro y0 y1 y2 y3
   unfold spec_ivMost.l0
   repeat' first | with_reducible first | exact ih0 _ _ _ _ | exact LeO.refl _ | exact LeO.none _ | refine LeO.ite ?_ ?_ | refine LeO.bind ?_ (fun _ => ?_)
theorem spec_ivMost.mono : ∀ a0 k, LeO (spec_ivMost.f k a0) (spec_ivMost.f (k + 1) a0) := by
 intro a0 k
 have ih0 := spec_ivMost.mono_l k
 unfold spec_ivMost.f
 repeat' first | with_reducible first | exact ih0 _ _ _ _ | exact LeO.refl _ | exact LeO.none _ | refine LeO.ite ?_ ?_ | refine LeO.bind ?_ (fun _ => ?_)
set_option maxHeartbeats 8000000 in
set_option maxRecDepth 100000 in
theorem spec_ivMost.calls (k : Nat) (A0 : Option Addr) (c0 : Nat) (l0 : List Int) (r : Int) (w : World) (hr0 : Kd.C (Kd.int .i64) w A0 l0.length l0) (hc0 : l0.length ≤ c0) (h : spec_ivMost.f k l0 = some r) :
  Calls Tryd.prog 66 #[.slice A0 l0.length c0] w fun e w' => e = .returned (.int .i64 r) ∧ Drawn0 w w' := by
 have HR0 := aM hr0
 have HC0 := aM hc0
 clear hr0 hc0
 have H : (spec_ivMost.l0 k (-1) l0 (l0.length : Int) 0) = some r := h
 clear h
 have H' := aM H
 clear H
 go_enter Tryd.func66, Tryd.ntmps66
 go_wp2
 go_loopg [3, 8] k (fun kq v3 v8 w' => ∃ (x3_1 : Int) (x8_1 : Int), v3 = .int .i64 x3_1 ∧ v8 = .int .i64 x8_1 ∧ Aside0 (spec_ivMost.l0 kq x3_1 l0 (l0.length : Int) x8_1 = some r) ∧ Aside0 (kq ≤ k) ∧ Drawn0 w w')
 case atStart => exact ⟨((-1)), (0), (by first | rfl | (simp; done) | (simp [*]; done)), (by first | rfl | (simp; done) | (simp [*]; done)), H', ⟨Nat.le_refl _⟩, by repeat (first | exact Drawn0.refl _ | apply Drawn0.step)⟩
 case round =>
  clear H'
  obtain ⟨x3_1, x8_1, rfl, rfl, HA, HK1, ⟨m1, rfl⟩⟩ := hrel
  cases gk with
  | zero => exact absurd HA.out (by simp [spec_ivMost.l0])
  | succ k1 =>
   have H := HA.out
   clear HA
   simp only [spec_ivMost.l0] at H
   by_cases c2 : x8_1 < (l0.length : Int)
   ·rw [if_pos c2] at H
    have c2b0 : decide (x8_1 < (l0.length : Int)) = true := decide_eq_true c2
    clear c2
    by_cases c3 : 0 ≤ x8_1
    ·rw [if_pos c3] at H
     have c3b0 : decide (0 ≤ x8_1) = true := decide_eq_true c3
     clear c3
     by_cases c4 : x8_1 < (l0.length : Int)
     ·rw [if_pos c4] at H
      have c4b0 : decide (x8_1 < (l0.length : Int)) = true := decide_eq_true c4
      clear c4
      replace H := Option.bind_eq_some_iff.mp H
      obtain ⟨t233, A50, H⟩ := H
      replace H : (spec_ivMost.l0 k1 t233 l0 (l0.length : Int) (wrap64 (x8_1 + 1))) = some r := H
      have A5 := aM A50
      clear A50
      have H' := aM H
      clear H
      have p232 : 0 ≤ (x8_1 : Int) := odt
      have q232 : x8_1 < (l0.length : Int) := odt
      obtain ⟨ad232, e232, hx232_0⟩ := Kd.at_int HR0.out x8_1 p232 q232
      cases e232
      replace p232 := eq_true p232
      replace q232 := eq_true q232
      go_wp2_with (first | ((with_reducible refine gate_callee (f := 96) rfl ?_); refine gL (some 14) Tryd.func96 #[.int .i64 x3_1, .int .i64 (rd l0 x8_1)] ?_; (with_reducible refine (spec_l1Most.calls x3_1 (rd l0 x8_1) t233 _ A5.out).mono ?_); rintro e w' ⟨rfl, ⟨nd, rfl⟩⟩; refine ⟨_, rfl, ?_⟩))
      go_roundg k1
      case measure => have := HK1.out; omega
      case rel => exact ⟨(t233), (wrap64 (x8_1 + 1)), (by first | rfl | (simp; done) | (simp [*]; done)), (by first | rfl | (simp; done) | (simp [*]; done)), H', ⟨by have := HK1.out; omega⟩, by repeat (first | exact Drawn0.refl _ | apply Drawn0.step)⟩
     ·rw [if_neg c4] at H
      exact absurd H (by simp)
    ·rw [if_neg c3] at H
     exact absurd H (by simp)
   ·rw [if_neg c2] at H
    have c2b0 : decide (x8_1 < (l0.length : Int)) = false := decide_eq_false c2
    clear c2
    obtain rfl := Option.some.inj H
    go_wp2
    go_ret
    exact ⟨by first | rfl | (simp; done) | (simp [*]; done), by repeat (first | exact Drawn0.refl _ | apply Drawn0.step)⟩

end Go.Proofs.YtcodionjhcmfhaaDoor.Ao
