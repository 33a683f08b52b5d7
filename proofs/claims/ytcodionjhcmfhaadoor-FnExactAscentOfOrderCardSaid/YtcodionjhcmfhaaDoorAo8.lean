-- Written by hook.py, a program of this session (wip/), which runs the kit's print.py with its own parts; Lean checks it.
import Derived.Test.YtcodionjhcmfhaaDoorAo0
import Derived.Test.YtcodionjhcmfhaaDoorAo6
import Derived.Test.YtcodionjhcmfhaaDoorAo7
import Derived.Test.YtcodionjhcmfhaaDoorAoXSq
namespace Go.Proofs.YtcodionjhcmfhaaDoor.Ao
open Go.RowKit Go.Proofs.YtcodionjhcmfhaaDoorW.PrintWords Go.Proofs.YtcodionjhcmfhaaDoorW.PrintLast Go.Proofs.YtcodionjhcmfhaaDoorW.PrintMore Go.Proofs.YtcodionjhcmfhaaDoor.Sq
attribute [local go_sem] max2_int min2_int max_two min_two max_three min_three max_four min_four   -- for this text's walks alone
set_option linter.unusedVariables false
set_option linter.unusedSimpArgs false

mutual
def spec_maOfOrder.l0 : Nat → List (S76) → Int → Int → List (List Int) → Option ((List (List Int)))
 | 0, _, _, _, _ => none
 | k + 1, x3, x4, x6, x244000 => if x6 < x4 then (if 0 ≤ x4 then (if (x4 : Int).toNat ≤ 35184372088832 then (spec_maOfOrder.l1 k x3 x4 x6 (List.replicate (x4 : Int).toNat 0) x3 (x3.length : Int) 0 x244000) else (none)) else (none)) else (some x244000)
def spec_maOfOrder.l1 : Nat → List (S76) → Int → Int → List Int → List (S76) → Int → Int → List (List Int) → Option ((List (List Int)))
 | 0, _, _, _, _, _, _, _, _ => none
 | k + 1, x3, x4, x6, x7, x24, x25, x26, x244000 => if x26 < x25 then (if 0 ≤ x26 then (if x26 < (x24.length : Int) then (if ((rd_T76 x24 x26).f0) = x6 then (if 0 ≤ ((rd_T76 x24 x26).f1) then (if ((rd_T76 x24 x26).f1) < (x7.length : Int) then (spec_maOfOrder.l1 k x3 x4 x6 (x7.set (((rd_T76 x24 x26).f1) : Int).toNat (wrap64 ((rd x7 ((rd_T76 x24 x26).f1)) + 1))) x24 x25 (wrap64 (x26 + 1)) x244000) else (none)) else (none)) else (spec_maOfOrder.l1 k x3 x4 x6 x7 x24 x25 (wrap64 (x26 + 1)) x244000)) else (none)) else (none)) else (if x244000.length < 5864062014805 then (spec_maOfOrder.l0 k x3 x4 (wrap64 (x6 + 1)) (x244000 ++ [x7])) else (none))
end
def spec_maOfOrder.f (k : Nat) (a0_0 : Int) (l0_1 : List Int) : Option ((List (List Int))) := (spec_ivEnds.f k a0_0 l0_1).bind fun t236 => ((spec_ivLevels.f k a0_0 l0_1).bind fun t239 => ((spec_ivMost.f k t239).bind fun t242 => (spec_maOfOrder.l0 k t236 (wrap64 (t242 + 1)) 0 ([] : List (List Int)))))
theorem spec_maOfOrder.mono_l : ∀ k, (∀ y0 y1 y2 y3, LeO (spec_maOfOrder.l0 k y0 y1 y2 y3) (spec_maOfOrder.l0 (k + 1) y0 y1 y2 y3)) ∧ (∀ y0 y1 y2 y3 y4 y5 y6 y7, LeO (spec_maOfOrder.l1 k y0 y1 y2 y3 y4 y5 y6 y7) (spec_maOfOrder.l1 (k + 1) y0 y1 y2 y3 y4 y5 y6 y7))
 | 0 => ⟨fun _ _ _ _ r h => by simp [spec_maOfOrder.l0] at h, fun _ _ _ _ _ _ _ _ r h => by simp [spec_maOfOrder.l1] at h⟩
 | k + 1 => by
  obtain ⟨ih0, ih1⟩ := spec_maOfOrder.mono_l k
  refine ⟨?_, ?_⟩
  ·intro y0 y1 y2 y3
   unfold spec_maOfOrder.l0
   repeat' first | with_reducible first | exact ih0 _ _ _ _ | exact ih1 _ _ _ _ _ _ _ _ | exact spec_ivEnds.mono _ _ _ | exact spec_ivLevels.mono _ _ _ | exact spec_ivMost.mono _ _ | exact LeO.refl _ | exact LeO.none _ | refine LeO.ite ?_ ?_ | refine LeO.bind ?_ (fun _ => ?_)
  ·intro y0 y1 y2 y3 y4 y5 y6 y7
   unfold spec_maOfOrder.l1
   repeat' first | with_reducible first | exact ih0 _ _ _ _ | exact ih1 _ _ _ _ _ _ _ _ | exact spec_ivEnds.mono _ _ _ | exact spec_ivLevels.mono _ _ _ | exact spec_ivMost.mono _ _ | exact LeO.refl _ | exact LeO.none _ | refine LeO.ite ?_ ?_ | refine LeO.bind ?_ (fun _ => ?_)
theorem spec_maOfOrder.mono : ∀ a0 a1 k, LeO (spec_maOfOrder.f k a0 a1) (spec_maOfOrder.f (k + 1) a0 a1) := by
 intro a0 a1 k
 obtain ⟨ih0, ih1⟩ := spec_maOfOrder.mono_l k
 unfold spec_maOfOrder.f
 repeat' first | with_reducible first | exact ih0 _ _ _ _ | exact ih1 _ _ _ _ _ _ _ _ | exact spec_ivEnds.mono _ _ _ | exact spec_ivLevels.mono _ _ _ | exact spec_ivMost.mono _ _ | exact LeO.refl _ | exact LeO.none _ | refine LeO.ite ?_ ?_ | refine LeO.bind ?_ (fun _ => ?_)
set_option maxHeartbeats 8000000 in
set_option maxRecDepth 100000 in
theorem spec_maOfOrder.calls (k : Nat) (a0_0 : Int) (A0_1 : Option Addr) (c0_1 : Nat) (l0_1 : List Int) (r : List (List Int)) (w : World) (hr0_1 : Kd.C (Kd.int .i64) w A0_1 l0_1.length l0_1) (hc0_1 : l0_1.length ≤ c0_1) (h : spec_maOfOrder.f k a0_0 l0_1 = some r) :
  Calls Tryd.prog 38 #[.agg #[.int .i64 a0_0, .slice A0_1 l0_1.length c0_1]] w fun e w' => ∃ v0_ : Value, e = .returned (.agg #[v0_]) ∧ Kd.S (Kd.slice 3 (Kd.int .i64)) 22 w' w.heap.size (fun _ => True) v0_ r ∧ Below w.heap.size w w' := by
 have hu31 := Tryd.underlying31
 have hu28 := Tryd.underlying28
 have hu76 := Tryd.underlying76
 have HR0_1 := aM hr0_1
 have HC0_1 := aM hc0_1
 clear hr0_1 hc0_1
 have HB := aM (Below.refl w.heap.size w)
 have H : ((spec_ivEnds.f k a0_0 l0_1).bind fun t236 => ((spec_ivLevels.f k a0_0 l0_1).bind fun t239 => ((spec_ivMost.f k t239).bind fun t242 => (spec_maOfOrder.l0 k t236 (wrap64 (t242 + 1)) 0 ([] : List (List Int)))))) = some r := h
 clear h
 replace H := Option.bind_eq_some_iff.mp H
 obtain ⟨t236, A20, H⟩ := H
 replace H : ((spec_ivLevels.f k a0_0 l0_1).bind fun t239 => ((spec_ivMost.f k t239).bind fun t242 => (spec_maOfOrder.l0 k t236 (wrap64 (t242 + 1)) 0 ([] : List (List Int))))) = some r := H
 have A2 := aM A20
 clear A20
 replace H := Option.bind_eq_some_iff.mp H
 obtain ⟨t239, A30, H⟩ := H
 replace H : ((spec_ivMost.f k t239).bind fun t242 => (spec_maOfOrder.l0 k t236 (wrap64 (t242 + 1)) 0 ([] : List (List Int)))) = some r := H
 have A3 := aM A30
 clear A30
 replace H := Option.bind_eq_some_iff.mp H
 obtain ⟨t242, A40, H⟩ := H
 replace H : (spec_maOfOrder.l0 k t236 (wrap64 (t242 + 1)) 0 ([] : List (List Int))) = some r := H
 have A4 := aM A40
 clear A40
 have H' := aM H
 clear H
 go_enter Tryd.func38, Tryd.ntmps38
 go_wp2_with (first | ((with_reducible refine gate_dst (N := 1) rfl ?_); refine bE 1 31 #[.int .i64 a0_0, .slice A0_1 l0_1.length c0_1] ?_; intro gb234 hg w5 hbox hb; have _ := aM (below_step bq hb); have _ := aM (hbox); have _ := aM ((gS hg)); have _ := aM ((gS hg)); clear HB; rename_i HB BK234 GW234 GE234; clear hb hbox hg) | ((with_reducible refine gate_dst (N := 2) rfl ?_); refine bE 2 28 #[.slice none 0 0] ?_; intro gb235 hg w6 hbox hb; have _ := aM (blk_below (g := gb234) (o := .cells #[.int .i64 a0_0, .slice A0_1 l0_1.length c0_1] 31 (0, 0)) (qQ BK234) hb); have _ := aM (below_step bq hb); have _ := aM (hbox); have _ := aM ((gS hg)); have _ := aM ((gS hg)); have _ := aM ((by rw [hg]; exact Nat.ne_of_lt (blk_lt (g := gb234) (o := .cells #[.int .i64 a0_0, .slice A0_1 l0_1.length c0_1] 31 (0, 0)) (qQ BK234)) : gb234 ≠ gb235)); have _ := aM ((by rw [hg]; exact Nat.ne_of_gt (blk_lt (g := gb234) (o := .cells #[.int .i64 a0_0, .slice A0_1 l0_1.length c0_1] 31 (0, 0)) (qQ BK234)) : gb235 ≠ gb234)); clear BK234 HB; rename_i BK234 HB BK235 GW235 GE235 NB234_235 NB235_234; clear hb hbox hg; have hnb7 := NB234_235.out; have hnc7 := NB235_234.out; have hcz8_0 : w6.cell? ⟨gb234, 0, none⟩ = some (.int .i64 a0_0) := (blk_cell BK234.out 0).trans rfl; have hcz8_1 : w6.cell? ⟨gb234, 1, none⟩ = some (.slice A0_1 l0_1.length c0_1) := (blk_cell BK234.out 1).trans rfl; have hfz8_0 := blk_frozen BK234.out 0; have hfz8_1 := blk_frozen BK234.out 1) | ((with_reducible refine gate_callee (f := 65) rfl ?_); refine gL (some 11) Tryd.func65 #[.agg #[.int .i64 a0_0, .slice A0_1 l0_1.length c0_1]] ?_; (with_reducible refine (spec_ivEnds.calls k a0_0 _ _ l0_1 t236 _ (cQ (Kd.C_below HR0_1.out HB.out)) HC0_1.out A2.out).mono ?_); rintro e w9 ⟨v237, rfl, ho0, hb⟩; refine ⟨_, rfl, ?_⟩; have _ := aM (Kd.R_lower ho0 (below_size bq)); have _ := aM (blk_below (g := gb234) (o := .cells #[.int .i64 a0_0, .slice A0_1 l0_1.length c0_1] 31 (0, 0)) (qQ BK234) hb); have _ := aM (blk_below (g := gb235) (o := .cells #[.slice none 0 0] 28 (0, 0)) (qQ BK235) hb); have _ := aM (below_step bq hb); clear BK234 BK235 HB; rename_i HO238 BK234 BK235 HB; (try clear hb); (try clear hb2); (try clear hk); (try clear hi); (try clear ho0); have hcz10_0 : w9.cell? ⟨gb234, 0, none⟩ = some (.int .i64 a0_0) := (blk_cell BK234.out 0).trans rfl; have hcz10_1 : w9.cell? ⟨gb234, 1, none⟩ = some (.slice A0_1 l0_1.length c0_1) := (blk_cell BK234.out 1).trans rfl; have hfz10_0 := blk_frozen BK234.out 0; have hfz10_1 := blk_frozen BK234.out 1) | ((with_reducible refine gate_callee (f := 67) rfl ?_); refine gL (some 13) Tryd.func67 #[.agg #[.int .i64 a0_0, .slice A0_1 l0_1.length c0_1]] ?_; (with_reducible refine (spec_ivLevels.calls k a0_0 _ _ l0_1 t239 _ (cQ (Kd.C_below HR0_1.out HB.out)) HC0_1.out A3.out).mono ?_); rintro e w11 ⟨v240, rfl, ho0, hb⟩; refine ⟨_, rfl, ?_⟩; have _ := aM (Kd.R_below (rQ HO238) hb); have _ := aM (Kd.R_lower ho0 (below_size bq)); have _ := aM (blk_below (g := gb234) (o := .cells #[.int .i64 a0_0, .slice A0_1 l0_1.length c0_1] 31 (0, 0)) (qQ BK234) hb); have _ := aM (blk_below (g := gb235) (o := .cells #[.slice none 0 0] 28 (0, 0)) (qQ BK235) hb); have _ := aM (below_step bq hb); clear HO238 BK234 BK235 HB; rename_i HO238 HO241 BK234 BK235 HB; (try clear hb); (try clear hb2); (try clear hk); (try clear hi); (try clear ho0); obtain ⟨Ao12, co12, eo12⟩ := Kd.R_slice HO241.out; subst eo12) | ((with_reducible refine gate_callee (f := 66) rfl ?_); refine gL (some 14) Tryd.func66 #[.slice Ao12 t239.length co12] ?_; (with_reducible refine (spec_ivMost.calls k _ _ t239 t242 _ (cQ ((Kd.R_reads' HO241.out).2.2)) ((Kd.R_reads' HO241.out).2.1) A4.out).mono ?_); rintro e w' ⟨rfl, ⟨nd, rfl⟩⟩; refine ⟨_, rfl, ?_⟩; (try (rw [drewN_self w11]; generalize hq_ : World.drewN w11 _ = w11; have _ : Aside0 (Kd.R k76 76 w11 w.heap.size (fun _ => True) v237 t236) := ⟨by rw [← hq_]; exact (rQ HO238)⟩; have _ : Aside0 (Kd.R (Kd.int .i64) 3 w11 w.heap.size (fun _ => True) (.slice Ao12 t239.length co12) t239) := ⟨by rw [← hq_]; exact (rQ HO241)⟩; have _ : Aside0 (w11.heap[gb234]? = some (.cells #[.int .i64 a0_0, .slice A0_1 l0_1.length c0_1] 31 (0, 0))) := ⟨by rw [← hq_]; exact (qQ BK234)⟩; have _ : Aside0 (w11.heap[gb235]? = some (.cells #[.slice none 0 0] 28 (0, 0))) := ⟨by rw [← hq_]; exact (qQ BK235)⟩; have _ : Aside0 (Below w.heap.size w w11) := ⟨by rw [← hq_]; exact bq⟩; clear HO238 HO241 BK234 BK235 HB hq_; rename_i HO238 HO241 BK234 BK235 HB))) | ((with_reducible refine gate_dst (N := 5) rfl ?_); refine bE 5 28 #[.slice none 0 0] ?_; intro gb243 hg w13 hbox hb; have _ := aM (Kd.R_below (rQ HO238) hb); have _ := aM (Kd.R_below (rQ HO241) hb); have _ := aM (blk_below (g := gb234) (o := .cells #[.int .i64 a0_0, .slice A0_1 l0_1.length c0_1] 31 (0, 0)) (qQ BK234) hb); have _ := aM (blk_below (g := gb235) (o := .cells #[.slice none 0 0] 28 (0, 0)) (qQ BK235) hb); have _ := aM (below_step bq hb); have _ := aM (hbox); have _ := aM ((gS hg)); have _ := aM ((gS hg)); have _ := aM ((by rw [hg]; exact Nat.ne_of_lt (blk_lt (g := gb234) (o := .cells #[.int .i64 a0_0, .slice A0_1 l0_1.length c0_1] 31 (0, 0)) (qQ BK234)) : gb234 ≠ gb243)); have _ := aM ((by rw [hg]; exact Nat.ne_of_gt (blk_lt (g := gb234) (o := .cells #[.int .i64 a0_0, .slice A0_1 l0_1.length c0_1] 31 (0, 0)) (qQ BK234)) : gb243 ≠ gb234)); have _ := aM ((by rw [hg]; exact Nat.ne_of_lt (blk_lt (g := gb235) (o := .cells #[.slice none 0 0] 28 (0, 0)) (qQ BK235)) : gb235 ≠ gb243)); have _ := aM ((by rw [hg]; exact Nat.ne_of_gt (blk_lt (g := gb235) (o := .cells #[.slice none 0 0] 28 (0, 0)) (qQ BK235)) : gb243 ≠ gb235)); clear HO238 HO241 BK234 BK235 HB; rename_i HO238 HO241 BK234 BK235 HB BK243 GW243 GE243 NB234_243 NB243_234 NB235_243 NB243_235; clear hb hbox hg; have hnb14 := NB243_234.out; have hnc14 := NB234_243.out; have hnb15 := NB243_235.out; have hnc15 := NB235_243.out; have hcz16_0 : w13.cell? ⟨gb243, 0, none⟩ = some (.slice none 0 0) := (blk_cell BK243.out 0).trans rfl; have hfz16_0 := blk_frozen BK243.out 0))
 go_loopg [6] k (fun kq v6 w' => ∃ (x6_1 : Int) (x244000_1 : List (List Int)) (u244000 : Value), v6 = .int .i64 x6_1 ∧ Aside0 (spec_maOfOrder.l0 kq t236 (wrap64 (t242 + 1)) x6_1 x244000_1 = some r) ∧ Aside0 (kq ≤ k) ∧ Aside0 (Kd.R k76 76 w' w.heap.size (fun _ => True) v237 t236) ∧ Aside0 (Kd.S (Kd.slice 3 (Kd.int .i64)) 22 w' w.heap.size (fun _ => True) u244000 x244000_1) ∧ Aside0 (w'.heap[gb234]? = some (.cells #[.int .i64 a0_0, (.slice A0_1 l0_1.length c0_1)] 31 (0, 0))) ∧ Aside0 (w'.heap[gb235]? = some (.cells #[(.slice none 0 0)] 28 (0, 0))) ∧ Aside0 (w'.heap[gb243]? = some (.cells #[u244000] 28 (0, 0))) ∧ Aside0 (Below w.heap.size w w'))
 case atStart => exact ⟨(0), (([] : List (List Int))), (.slice none 0 0), (by first | rfl | (simp; done) | (simp [*]; done)), H', ⟨Nat.le_refl _⟩, ⟨by (with_reducible repeat first|apply rA|apply rN|apply rD); exact Kd.R_mono (Kd.R_far (p := ⟨gb243, 0, none⟩) (Kd.R_types HO238.out BK243.out (by decide)) (fun _ hk => hk.2) (.slice none 0 0)) (fun _ hk => trivial)⟩, ⟨by first | exact Kd.S_nil _ _ _ _ _ | exact Kd.N_nil _ _ _ _ _ | exact Kd.V_nil _ _ _ _ _ | exact Kd.Q_nil _ _ _ _ _ | exact Kd.R_nil _ _ _ _ _⟩, ⟨by (with_reducible repeat first|apply qN|apply qD|apply qA); refine blk_far ?_ NB234_243.out _; (with_reducible repeat first|apply qN|apply qD|apply qA); exact BK234.out⟩, ⟨by (with_reducible repeat first|apply qN|apply qD|apply qA); refine blk_far ?_ NB235_243.out _; (with_reducible repeat first|apply qN|apply qD|apply qA); exact BK235.out⟩, ⟨by (with_reducible repeat first|apply qN|apply qD|apply qA); refine blk_put (cs := #[.slice none 0 0]) ?_ 0 _ rfl; (with_reducible repeat first|apply qN|apply qD|apply qA); exact BK243.out⟩, ⟨by exact bq⟩⟩
 case round =>
  clear H'
  try clear c1
  try clear p2
  try clear c3
  try clear c6
  try clear p6
  try clear c7
  try clear c14
  try clear c15
  try clear hcz10_0
  try clear hcz10_1
  try clear hcz16_0
  try clear hcz8_0
  try clear hcz8_1
  try clear hfz10_0
  try clear hfz10_1
  try clear hfz16_0
  try clear hfz8_0
  try clear hfz8_1
  obtain ⟨x6_1, x244000_1, u244000, rfl, HA, HK1, HO_3, HO_244000, BK234, BK235, BK243, HB⟩ := hrel
  cases gk with
  | zero => exact absurd HA.out (by simp [spec_maOfOrder.l0])
  | succ k1 =>
   have H := HA.out
   clear HA
   simp only [spec_maOfOrder.l0] at H
   by_cases c17 : x6_1 < (wrap64 (t242 + 1))
   ·rw [if_pos c17] at H
    have c17b0 : decide (x6_1 < (wrap64 (t242 + 1))) = true := decide_eq_true c17
    clear c17
    obtain ⟨ji18, hji18⟩ : ∃ j_ : Int, (wrap64 (t242 + 1)) = j_ := ⟨_, rfl⟩
    replace H : (if 0 ≤ (ji18) then (if ((ji18) : Int).toNat ≤ 35184372088832 then (spec_maOfOrder.l1 k1 t236 (ji18) x6_1 (List.replicate ((ji18) : Int).toNat 0) t236 (t236.length : Int) 0 x244000_1) else (none)) else (none)) = some r := by first | (rw [hji18] at H; exact H) | (simp only [hji18] at H ⊢; exact H)
    (try rw [hji18] at c17b0)
    have hji18w : (IntKind.i64.wrap (t242 + 1)) = ji18 := (i64_w _).trans hji18
    by_cases c19 : 0 ≤ (ji18)
    ·rw [if_pos c19] at H
     have c19b0 := eq_true c19
     have c19b1 : decide (0 ≤ (ji18)) = true := decide_eq_true c19
     clear c19
     by_cases c20 : ((ji18) : Int).toNat ≤ 35184372088832
     ·rw [if_pos c20] at H
      have c20b0 := eq_true c20
      have c20b1 : decide (((ji18) : Int).toNat ≤ 35184372088832) = true := decide_eq_true c20
      clear c20
      obtain ⟨y244, hy244⟩ : ∃ y_ : List Int, y_ = (List.replicate ((ji18) : Int).toNat 0) := ⟨_, rfl⟩
      replace H : (spec_maOfOrder.l1 k1 t236 (ji18) x6_1 y244 t236 (t236.length : Int) 0 x244000_1) = some r := by first | (rw [hy244]; with_reducible exact H) | (have H2_ := (Option.bind_some _ _).symm.trans H; rw [hy244]; with_reducible exact H2_) | (have H2_ := (Option.bind_some _ _).symm.trans H; with_reducible exact H2_) | with_reducible exact H | (rw [hy244]; exact H) | exact H
      have Ny244 := aM hy244
      clear hy244
      have H' := aM H
      clear H
      go_wp2_with (first | ((with_reducible refine gate_dst (N := 23) rfl ?_); (try rw [hji18]); refine Kd.R_make (Kd.int .i64) _ 3 rfl (N := 23) rfl 22 _ _ rfl (ji18) rfl rfl Tryd.underlying22 (.int .i64 0) 8 info3 rfl (by decide) (by omega) 0 (ok := fun _ => True) (okp := fun _ => True) rfl (fun _ hk => hk) trivial (odt) (Nat.le_trans (Nat.mul_le_mul_right _ (odt : (ji18).toNat ≤ 35184372088832)) (by omega)) (Below.refl _ _) (Nat.le_refl _) ?_; intro v245 w21 ho22 hb hg_ hnew_; clear hg_ hnew_; (first | rw [← Ny244.out] at ho22 | (simp only [Int.reduceToNat] at ho22; rw [← Ny244.out] at ho22)); have _ := aM (Kd.R_below (rQ HO_3) hb); have _ := aM (Kd.S_elder' (sQ HO_244000) (Kd.R_base ho22) hb); have _ := aM (Kd.R_lower ho22 (below_size bq)); have _ := aM (blk_below (g := gb234) (o := .cells #[.int .i64 a0_0, .slice A0_1 l0_1.length c0_1] 31 (0, 0)) (qQ BK234) hb); have _ := aM (blk_below (g := gb235) (o := .cells #[.slice none 0 0] 28 (0, 0)) (qQ BK235) hb); have _ := aM (blk_below (g := gb243) (o := .cells #[u244000] 28 (0, 0)) (qQ BK243) hb); have _ := aM (below_step bq hb); clear HO_3 HO_244000 BK234 BK235 BK243 HB; rename_i HO_3 HO_244000 HO246 BK234 BK235 BK243 HB; clear hb ho22; obtain ⟨Ao23, co23, eo23⟩ := Kd.R_slice HO_3.out; subst eo23))
      go_loopg [26] k1 (fun kq v26 w' => ∃ (x7_2 : List Int) (x26_2 : Int), v26 = .int .i64 x26_2 ∧ Aside0 (spec_maOfOrder.l1 kq t236 (ji18) x6_1 x7_2 t236 (t236.length : Int) x26_2 x244000_1 = some r) ∧ Aside0 (kq ≤ k1) ∧ Aside0 (Kd.R k76 76 w' w.heap.size (fun _ => True) (.slice Ao23 t236.length co23) t236) ∧ Aside0 (Kd.R (Kd.int .i64) 3 w' w.heap.size (fun _ => True) v245 x7_2) ∧ Aside0 (Kd.R k76 76 w' w.heap.size (fun _ => True) (.slice Ao23 t236.length co23) t236) ∧ Aside0 (Kd.S (Kd.slice 3 (Kd.int .i64)) 22 w' w.heap.size (fun k_ => some k_ ≠ (v245 : Value).ownBlock) u244000 x244000_1) ∧ Aside0 (w'.heap[gb234]? = some (.cells #[.int .i64 a0_0, (.slice A0_1 l0_1.length c0_1)] 31 (0, 0))) ∧ Aside0 (w'.heap[gb235]? = some (.cells #[(.slice none 0 0)] 28 (0, 0))) ∧ Aside0 (w'.heap[gb243]? = some (.cells #[u244000] 28 (0, 0))) ∧ Aside0 (Below w.heap.size w w'))
      case atStart => exact ⟨(y244), (0), (by first | rfl | (simp; done) | (simp [*]; done)), H', ⟨Nat.le_refl _⟩, ⟨by (with_reducible repeat first|apply rA|apply rN|apply rD); exact HO_3.out⟩, ⟨by (with_reducible repeat first|apply rA|apply rN|apply rD); exact HO246.out⟩, ⟨by (with_reducible repeat first|apply rA|apply rN|apply rD); exact HO_3.out⟩, ⟨by (with_reducible repeat first|apply sA|apply sN|apply sD); exact Kd.S_mono HO_244000.out (fun _ hk => hk.2)⟩, ⟨by (with_reducible repeat first|apply qN|apply qD|apply qA); exact BK234.out⟩, ⟨by (with_reducible repeat first|apply qN|apply qD|apply qA); exact BK235.out⟩, ⟨by (with_reducible repeat first|apply qN|apply qD|apply qA); exact BK243.out⟩, ⟨by exact bq⟩⟩
      case round =>
       clear H'
       try clear c1
       try clear c2
       try clear p2
       try clear c3
       try clear c6
       try clear p6
       try clear c7
       try clear c14
       try clear c15
       try clear c17
       try clear c17b0
       try clear c19
       try clear c19b0
       try clear c19b1
       try clear c20
       try clear c20b0
       try clear c20b1
       try clear hcz10_0
       try clear hcz10_1
       try clear hcz16_0
       try clear hcz8_0
       try clear hcz8_1
       try clear hfz10_0
       try clear hfz10_1
       try clear hfz16_0
       try clear hfz8_0
       try clear hfz8_1
       try clear p2
       try clear p6
       obtain ⟨x7_2, x26_2, rfl, HA, HK2, HO_3, HO_7, HO_24, HO_244000, BK234, BK235, BK243, HB⟩ := hrel
       cases gk with
       | zero => exact absurd HA.out (by simp [spec_maOfOrder.l1])
       | succ k2 =>
        have H := HA.out
        clear HA
        simp only [spec_maOfOrder.l1] at H
        by_cases c24 : x26_2 < (t236.length : Int)
        ·rw [if_pos c24] at H
         have c24b0 : decide (x26_2 < (t236.length : Int)) = true := decide_eq_true c24
         clear c24
         by_cases c25 : 0 ≤ x26_2
         ·rw [if_pos c25] at H
          have c25b0 : decide (0 ≤ x26_2) = true := decide_eq_true c25
          clear c25
          by_cases c26 : x26_2 < (t236.length : Int)
          ·rw [if_pos c26] at H
           have c26b0 : decide (x26_2 < (t236.length : Int)) = true := decide_eq_true c26
           clear c26
           by_cases c27 : ((rd_T76 t236 x26_2).f0) = x6_1
           ·rw [if_pos c27] at H
            have c27b0 : (((rd_T76 t236 x26_2).f0) == x6_1) = true := beq_iff_eq.mpr c27
            have c27b1 : (((rd_T76 t236 x26_2).f0) != x6_1) = false := bne_eq_false_iff_eq.mpr c27
            clear c27
            by_cases c28 : 0 ≤ ((rd_T76 t236 x26_2).f1)
            ·rw [if_pos c28] at H
             have c28b0 : decide (0 ≤ ((rd_T76 t236 x26_2).f1)) = true := decide_eq_true c28
             clear c28
             by_cases c29 : ((rd_T76 t236 x26_2).f1) < (x7_2.length : Int)
             ·rw [if_pos c29] at H
              have c29b0 : decide (((rd_T76 t236 x26_2).f1) < (x7_2.length : Int)) = true := decide_eq_true c29
              clear c29
              obtain ⟨y250, hy250⟩ : ∃ y_ : List Int, y_ = (x7_2.set (((rd_T76 t236 x26_2).f1) : Int).toNat (wrap64 ((rd x7_2 ((rd_T76 t236 x26_2).f1)) + 1))) := ⟨_, rfl⟩
              replace H : (spec_maOfOrder.l1 k2 t236 (ji18) x6_1 y250 t236 (t236.length : Int) (wrap64 (x26_2 + 1)) x244000_1) = some r := by first | (rw [hy250]; with_reducible exact H) | (have H2_ := (Option.bind_some _ _).symm.trans H; rw [hy250]; with_reducible exact H2_) | (have H2_ := (Option.bind_some _ _).symm.trans H; with_reducible exact H2_) | with_reducible exact H | (rw [hy250]; exact H) | exact H
              have Ny250 := aM hy250
              clear hy250
              have H' := aM H
              clear H
              have p247 : 0 ≤ (x26_2 : Int) := odt
              have q247 : x26_2 < (t236.length : Int) := odt
              obtain ⟨ad247, e247, hx247_0, hx247_1⟩ := at_T76 (Kd.R_reads' HO_24.out).2.2 x26_2 p247 q247
              cases e247
              replace p247 := eq_true p247
              replace q247 := eq_true q247
              go_wp2_with (first | ((with_reducible refine gate_dst (N := 9) rfl ?_); refine bE 9 76 #[.int .i64 0, .int .i64 0] ?_; intro gb248 hg w31 hbox hb; have _ := aM (Kd.R_below (Kd.R_elderB (rQ HO_3) gb248 (Nat.le_of_eq hg.symm)) hb); have _ := aM (Kd.R_below (rQ HO_7) hb); have _ := aM (Kd.R_below (Kd.R_elderB (rQ HO_24) gb248 (Nat.le_of_eq hg.symm)) hb); have _ := aM (Kd.S_below (sQ HO_244000) hb); have _ := aM (blk_below (g := gb234) (o := .cells #[.int .i64 a0_0, .slice A0_1 l0_1.length c0_1] 31 (0, 0)) (qQ BK234) hb); have _ := aM (blk_below (g := gb235) (o := .cells #[.slice none 0 0] 28 (0, 0)) (qQ BK235) hb); have _ := aM (blk_below (g := gb243) (o := .cells #[u244000] 28 (0, 0)) (qQ BK243) hb); have _ := aM (below_step bq hb); have _ := aM (hbox); have _ := aM ((gS hg)); have _ := aM ((gS hg)); have _ := aM ((by rw [hg]; exact Nat.ne_of_lt (blk_lt (g := gb234) (o := .cells #[.int .i64 a0_0, .slice A0_1 l0_1.length c0_1] 31 (0, 0)) (qQ BK234)) : gb234 ≠ gb248)); have _ := aM ((by rw [hg]; exact Nat.ne_of_gt (blk_lt (g := gb234) (o := .cells #[.int .i64 a0_0, .slice A0_1 l0_1.length c0_1] 31 (0, 0)) (qQ BK234)) : gb248 ≠ gb234)); have _ := aM ((by rw [hg]; exact Nat.ne_of_lt (blk_lt (g := gb235) (o := .cells #[.slice none 0 0] 28 (0, 0)) (qQ BK235)) : gb235 ≠ gb248)); have _ := aM ((by rw [hg]; exact Nat.ne_of_gt (blk_lt (g := gb235) (o := .cells #[.slice none 0 0] 28 (0, 0)) (qQ BK235)) : gb248 ≠ gb235)); have _ := aM ((by rw [hg]; exact Nat.ne_of_lt (blk_lt (g := gb243) (o := .cells #[u244000] 28 (0, 0)) (qQ BK243)) : gb243 ≠ gb248)); have _ := aM ((by rw [hg]; exact Nat.ne_of_gt (blk_lt (g := gb243) (o := .cells #[u244000] 28 (0, 0)) (qQ BK243)) : gb248 ≠ gb243)); clear HO_3 HO_7 HO_24 HO_244000 BK234 BK235 BK243 HB; rename_i HO_3 HO_7 HO_24 HO_244000 BK234 BK235 BK243 HB BK248 GW248 GE248 NB234_248 NB248_234 NB235_248 NB248_235 NB243_248 NB248_243; clear hb hbox hg; have hnb32 := NB248_234.out; have hnc32 := NB234_248.out; have hnb33 := NB248_235.out; have hnc33 := NB235_248.out; have hnb34 := NB248_243.out; have hnc34 := NB243_248.out; have hcz35_0 : w31.cell? ⟨gb248, 0, none⟩ = some (.int .i64 0) := (blk_cell BK248.out 0).trans rfl; have hcz35_1 : w31.cell? ⟨gb248, 1, none⟩ = some (.int .i64 0) := (blk_cell BK248.out 1).trans rfl; have hfz35_0 := blk_frozen BK248.out 0; have hfz35_1 := blk_frozen BK248.out 1) | ((with_reducible refine gate_store (t := 76) (p := 9) rfl ?_); refine sE ((w31.setCell ⟨gb248, 0, none⟩ (.int .i64 ((rd_T76 t236 x26_2).f0))).setCell ⟨gb248, 1, none⟩ (.int .i64 ((rd_T76 t236 x26_2).f1))) 76 9 ?_; intro w36 hw; have _ : Aside0 (Kd.R k76 76 w36 w.heap.size (fun k_ => k_ ≠ gb248) (.slice (some ad247) t236.length co23) t236) := ⟨(by rw [hw]; exact (by (with_reducible repeat first|apply rA|apply rN|apply rD); exact Kd.R_mono (Kd.R_far (p := ⟨gb248, 1, none⟩) (Kd.R_far (p := ⟨gb248, 0, none⟩) (Kd.R_mono HO_3.out (fun k_ hk => (⟨hk, hk.2⟩ : _ ∧ k_ ≠ gb248))) (fun _ hk => hk.2) (.int .i64 ((rd_T76 t236 x26_2).f0))) (fun _ hk => hk.2) (.int .i64 ((rd_T76 t236 x26_2).f1))) (fun _ hk => hk.1.2)))⟩; have _ : Aside0 (Kd.R (Kd.int .i64) 3 w36 w.heap.size (fun _ => True) v245 x7_2) := ⟨(by rw [hw]; exact (by (with_reducible repeat first|apply rA|apply rN|apply rD); exact Kd.R_mono (Kd.R_far (p := ⟨gb248, 1, none⟩) (Kd.R_far (p := ⟨gb248, 0, none⟩) (Kd.R_types HO_7.out BK248.out (by decide)) (fun _ hk => hk.2) (.int .i64 ((rd_T76 t236 x26_2).f0))) (fun _ hk => hk.2) (.int .i64 ((rd_T76 t236 x26_2).f1))) (fun _ hk => trivial)))⟩; have _ : Aside0 (Kd.R k76 76 w36 w.heap.size (fun k_ => k_ ≠ gb248) (.slice (some ad247) t236.length co23) t236) := ⟨(by rw [hw]; exact (by (with_reducible repeat first|apply rA|apply rN|apply rD); exact Kd.R_mono (Kd.R_far (p := ⟨gb248, 1, none⟩) (Kd.R_far (p := ⟨gb248, 0, none⟩) (Kd.R_mono HO_24.out (fun k_ hk => (⟨hk, hk.2⟩ : _ ∧ k_ ≠ gb248))) (fun _ hk => hk.2) (.int .i64 ((rd_T76 t236 x26_2).f0))) (fun _ hk => hk.2) (.int .i64 ((rd_T76 t236 x26_2).f1))) (fun _ hk => hk.1.2)))⟩; have _ : Aside0 (Kd.S (Kd.slice 3 (Kd.int .i64)) 22 w36 w.heap.size (fun k_ => some k_ ≠ (v245 : Value).ownBlock) u244000 x244000_1) := ⟨(by rw [hw]; exact (by (with_reducible repeat first|apply sA|apply sN|apply sD); exact Kd.S_mono (Kd.S_far (p := ⟨gb248, 1, none⟩) (Kd.S_far (p := ⟨gb248, 0, none⟩) (Kd.S_types HO_244000.out BK248.out (by decide)) (fun _ hk => hk.2) (.int .i64 ((rd_T76 t236 x26_2).f0))) (fun _ hk => hk.2) (.int .i64 ((rd_T76 t236 x26_2).f1))) (fun _ hk => hk.1)))⟩; have _ : Aside0 (w36.heap[gb234]? = some (.cells #[.int .i64 a0_0, .slice A0_1 l0_1.length c0_1] 31 (0, 0))) := ⟨(by rw [hw]; exact (by (with_reducible repeat first|apply qN|apply qD|apply qA); refine blk_far ?_ NB234_248.out _; (with_reducible repeat first|apply qN|apply qD|apply qA); refine blk_far ?_ NB234_248.out _; (with_reducible repeat first|apply qN|apply qD|apply qA); exact BK234.out))⟩; have _ : Aside0 (w36.heap[gb235]? = some (.cells #[.slice none 0 0] 28 (0, 0))) := ⟨(by rw [hw]; exact (by (with_reducible repeat first|apply qN|apply qD|apply qA); refine blk_far ?_ NB235_248.out _; (with_reducible repeat first|apply qN|apply qD|apply qA); refine blk_far ?_ NB235_248.out _; (with_reducible repeat first|apply qN|apply qD|apply qA); exact BK235.out))⟩; have _ : Aside0 (w36.heap[gb243]? = some (.cells #[u244000] 28 (0, 0))) := ⟨(by rw [hw]; exact (by (with_reducible repeat first|apply qN|apply qD|apply qA); refine blk_far ?_ NB243_248.out _; (with_reducible repeat first|apply qN|apply qD|apply qA); refine blk_far ?_ NB243_248.out _; (with_reducible repeat first|apply qN|apply qD|apply qA); exact BK243.out))⟩; have _ : Aside0 (w36.heap[gb248]? = some (.cells #[.int .i64 ((rd_T76 t236 x26_2).f0), .int .i64 ((rd_T76 t236 x26_2).f1)] 76 (0, 0))) := ⟨(by rw [hw]; exact (by (with_reducible repeat first|apply qN|apply qD|apply qA); refine blk_put (cs := #[.int .i64 ((rd_T76 t236 x26_2).f0), .int .i64 0]) ?_ 1 _ rfl; (with_reducible repeat first|apply qN|apply qD|apply qA); refine blk_put (cs := #[.int .i64 0, .int .i64 0]) ?_ 0 _ rfl; (with_reducible repeat first|apply qN|apply qD|apply qA); exact BK248.out))⟩; have _ : Aside0 (Below w.heap.size w w36) := ⟨(by rw [hw]; exact bq)⟩; clear hw HO_3 HO_7 HO_24 HO_244000 BK234 BK235 BK243 BK248 HB; rename_i HO_3 HO_7 HO_24 HO_244000 BK234 BK235 BK243 BK248 HB; have hcz37_0 : w36.cell? ⟨gb248, 0, none⟩ = some (.int .i64 ((rd_T76 t236 x26_2).f0)) := (blk_cell BK248.out 0).trans rfl; have hcz37_1 : w36.cell? ⟨gb248, 1, none⟩ = some (.int .i64 ((rd_T76 t236 x26_2).f1)) := (blk_cell BK248.out 1).trans rfl; have hfz37_0 := blk_frozen BK248.out 0; have hfz37_1 := blk_frozen BK248.out 1; obtain ⟨Ao38, co38, eo38⟩ := Kd.R_slice HO_7.out; subst eo38; have p249 : 0 ≤ (((rd_T76 t236 x26_2).f1) : Int) := odt; have q249 : ((rd_T76 t236 x26_2).f1) < (x7_2.length : Int) := odt; obtain ⟨ad249, e249, hx249_0⟩ := Kd.at_int (Kd.R_reads' HO_7.out).2.2 ((rd_T76 t236 x26_2).f1) p249 q249; cases e249; replace p249 := eq_true p249; replace q249 := eq_true q249; have p30 : 0 ≤ (((rd_T76 t236 x26_2).f1) : Int) := odt; have q30 : (((rd_T76 t236 x26_2).f1) : Int) < ((x7_2.length : Int) : Int) := odt; obtain ⟨go30, co30, eo30, gb30, gl30, cl30, HG30⟩ := Kd.R_form HO_7.out (by omega); (first | cases eo30 | (injection eo30 with ea_ en_ ec_; (first | subst ea_ | (injection ea_ with ea_; subst ea_)); subst ec_; clear en_)); have GB30 := aM gb30; have GG30 := aM HG30; clear gb30 gl30 HG30; (first | simp only [add_plain] at hx249_0 | skip); obtain ⟨hx30_0, hf30_0⟩ := Kd.R_celln 0 HO_7.out (((rd_T76 t236 x26_2).f1) : Int) p30 q30; replace p30 := eq_true p30; replace q30 := eq_true q30; obtain ⟨hy39_, hz39_⟩ := Kd.R_celln 0 HO_7.out (((rd_T76 t236 x26_2).f1) : Int) (odt) (odt); have HP39 := Kd.R_putg HO_7.out (((rd_T76 t236 x26_2).f1) : Int) (wrap64 ((rd x7_2 ((rd_T76 t236 x26_2).f1)) + 1))) | ((with_reducible refine gate_store (t := 3) (p := 40) rfl ?_); refine sE (w36.setCell ⟨go30, (((rd_T76 t236 x26_2).f1) : Int).toNat, none⟩ (.int .i64 (wrap64 ((rd x7_2 ((rd_T76 t236 x26_2).f1)) + 1)))) 3 40 ?_; intro w40 hw; have hg : w36.grownBy w40 (some go30) := (by rw [hw]; exact HP39.2); have hp_ : Kd.R (Kd.int .i64) 3 w40 w.heap.size (fun _ => True) (.slice (some ⟨go30, 0, none⟩) x7_2.length co38) y250 := (by rw [hw, Ny250.out]; exact HP39.1); clear HP39; have _ := aM (Kd.R_over' (v := (.slice (some ⟨go30, 0, none⟩) x7_2.length co38)) (rQ HO_3) (Kd.R_typed HO_7.out) (by decide) hg); have _ := aM (hp_); have _ := aM (Kd.R_over' (v := (.slice (some ⟨go30, 0, none⟩) x7_2.length co38)) (rQ HO_24) (Kd.R_typed HO_7.out) (by decide) hg); have _ := aM (Kd.S_after (v := (.slice (some ⟨go30, 0, none⟩) x7_2.length co38)) (v1 := (.slice (some ⟨go30, 0, none⟩) x7_2.length co38)) (ok := (fun _ => True)) (by (with_reducible repeat first|apply sA|apply sN|apply sD); exact Kd.S_mono HO_244000.out (fun _ hk => ⟨trivial, hk⟩)) hg (.inl rfl)); have _ := aM (blk_grown (g := gb234) (o := .cells #[.int .i64 a0_0, .slice A0_1 l0_1.length c0_1] 31 (0, 0)) (qQ BK234) hg (Kd.R_ne HO_7.out BK234.out (by decide))); have _ := aM (blk_grown (g := gb235) (o := .cells #[.slice none 0 0] 28 (0, 0)) (qQ BK235) hg (Kd.R_ne HO_7.out BK235.out (by decide))); have _ := aM (blk_grown (g := gb243) (o := .cells #[u244000] 28 (0, 0)) (qQ BK243) hg (Kd.R_ne HO_7.out BK243.out (by decide))); have _ := aM (blk_grown (g := gb248) (o := .cells #[.int .i64 ((rd_T76 t236 x26_2).f0), .int .i64 ((rd_T76 t236 x26_2).f1)] 76 (0, 0)) (qQ BK248) hg (Kd.R_ne HO_7.out BK248.out (by decide))); have _ := aM ((by rw [hw]; exact below_set (HB.out) GB30.out : Below w.heap.size w w40)); clear HO_3 HO_7 HO_24 HO_244000 BK234 BK235 BK243 BK248 HB; rename_i HO_3 HO_7 HO_24 HO_244000 BK234 BK235 BK243 BK248 HB; clear hg hw hp_))
              go_roundg k2
              case measure => have := HK1.out; have := HK2.out; omega
              case rel => exact ⟨(y250), (wrap64 (x26_2 + 1)), (by first | rfl | (simp; done) | (simp [*]; done)), H', ⟨by have := HK1.out; have := HK2.out; omega⟩, ⟨by (with_reducible repeat first|apply rA|apply rN|apply rD); exact Kd.R_mono HO_3.out (fun _ hk => trivial)⟩, ⟨by (with_reducible repeat first|apply rA|apply rN|apply rD); exact HO_7.out⟩, ⟨by (with_reducible repeat first|apply rA|apply rN|apply rD); exact Kd.R_mono HO_24.out (fun _ hk => trivial)⟩, ⟨by (with_reducible repeat first|apply sA|apply sN|apply sD); exact Kd.S_mono HO_244000.out (fun _ hk => hk.2)⟩, ⟨by (with_reducible repeat first|apply qN|apply qD|apply qA); exact BK234.out⟩, ⟨by (with_reducible repeat first|apply qN|apply qD|apply qA); exact BK235.out⟩, ⟨by (with_reducible repeat first|apply qN|apply qD|apply qA); exact BK243.out⟩, ⟨by exact bq⟩⟩
             ·rw [if_neg c29] at H
              exact absurd H (by simp)
            ·rw [if_neg c28] at H
             exact absurd H (by simp)
           ·rw [if_neg c27] at H
            have c27b0 : (((rd_T76 t236 x26_2).f0) == x6_1) = false := beq_eq_false_iff_ne.mpr c27
            have c27b1 : (((rd_T76 t236 x26_2).f0) != x6_1) = true := bne_iff_ne.mpr c27
            have H' := aM H
            clear H
            have p247 : 0 ≤ (x26_2 : Int) := odt
            have q247 : x26_2 < (t236.length : Int) := odt
            obtain ⟨ad247, e247, hx247_0, hx247_1⟩ := at_T76 (Kd.R_reads' HO_24.out).2.2 x26_2 p247 q247
            cases e247
            replace p247 := eq_true p247
            replace q247 := eq_true q247
            go_wp2_with (first | ((with_reducible refine gate_dst (N := 9) rfl ?_); refine bE 9 76 #[.int .i64 0, .int .i64 0] ?_; intro gb248 hg w41 hbox hb; have _ := aM (Kd.R_below (Kd.R_elderB (rQ HO_3) gb248 (Nat.le_of_eq hg.symm)) hb); have _ := aM (Kd.R_below (rQ HO_7) hb); have _ := aM (Kd.R_below (Kd.R_elderB (rQ HO_24) gb248 (Nat.le_of_eq hg.symm)) hb); have _ := aM (Kd.S_below (sQ HO_244000) hb); have _ := aM (blk_below (g := gb234) (o := .cells #[.int .i64 a0_0, .slice A0_1 l0_1.length c0_1] 31 (0, 0)) (qQ BK234) hb); have _ := aM (blk_below (g := gb235) (o := .cells #[.slice none 0 0] 28 (0, 0)) (qQ BK235) hb); have _ := aM (blk_below (g := gb243) (o := .cells #[u244000] 28 (0, 0)) (qQ BK243) hb); have _ := aM (below_step bq hb); have _ := aM (hbox); have _ := aM ((gS hg)); have _ := aM ((gS hg)); have _ := aM ((by rw [hg]; exact Nat.ne_of_lt (blk_lt (g := gb234) (o := .cells #[.int .i64 a0_0, .slice A0_1 l0_1.length c0_1] 31 (0, 0)) (qQ BK234)) : gb234 ≠ gb248)); have _ := aM ((by rw [hg]; exact Nat.ne_of_gt (blk_lt (g := gb234) (o := .cells #[.int .i64 a0_0, .slice A0_1 l0_1.length c0_1] 31 (0, 0)) (qQ BK234)) : gb248 ≠ gb234)); have _ := aM ((by rw [hg]; exact Nat.ne_of_lt (blk_lt (g := gb235) (o := .cells #[.slice none 0 0] 28 (0, 0)) (qQ BK235)) : gb235 ≠ gb248)); have _ := aM ((by rw [hg]; exact Nat.ne_of_gt (blk_lt (g := gb235) (o := .cells #[.slice none 0 0] 28 (0, 0)) (qQ BK235)) : gb248 ≠ gb235)); have _ := aM ((by rw [hg]; exact Nat.ne_of_lt (blk_lt (g := gb243) (o := .cells #[u244000] 28 (0, 0)) (qQ BK243)) : gb243 ≠ gb248)); have _ := aM ((by rw [hg]; exact Nat.ne_of_gt (blk_lt (g := gb243) (o := .cells #[u244000] 28 (0, 0)) (qQ BK243)) : gb248 ≠ gb243)); clear HO_3 HO_7 HO_24 HO_244000 BK234 BK235 BK243 HB; rename_i HO_3 HO_7 HO_24 HO_244000 BK234 BK235 BK243 HB BK248 GW248 GE248 NB234_248 NB248_234 NB235_248 NB248_235 NB243_248 NB248_243; clear hb hbox hg; have hnb42 := NB248_234.out; have hnc42 := NB234_248.out; have hnb43 := NB248_235.out; have hnc43 := NB235_248.out; have hnb44 := NB248_243.out; have hnc44 := NB243_248.out; have hcz45_0 : w41.cell? ⟨gb248, 0, none⟩ = some (.int .i64 0) := (blk_cell BK248.out 0).trans rfl; have hcz45_1 : w41.cell? ⟨gb248, 1, none⟩ = some (.int .i64 0) := (blk_cell BK248.out 1).trans rfl; have hfz45_0 := blk_frozen BK248.out 0; have hfz45_1 := blk_frozen BK248.out 1))
            go_roundg k2
            case measure => have := HK1.out; have := HK2.out; omega
            case rel => exact ⟨(x7_2), (wrap64 (x26_2 + 1)), (by first | rfl | (simp; done) | (simp [*]; done)), H', ⟨by have := HK1.out; have := HK2.out; omega⟩, ⟨by (with_reducible repeat first|apply rA|apply rN|apply rD); exact Kd.R_mono (Kd.R_far (p := ⟨gb248, 1, none⟩) (Kd.R_far (p := ⟨gb248, 0, none⟩) (Kd.R_mono HO_3.out (fun k_ hk => (⟨hk, hk.2⟩ : _ ∧ k_ ≠ gb248))) (fun _ hk => hk.2) (.int .i64 ((rd_T76 t236 x26_2).f0))) (fun _ hk => hk.2) (.int .i64 ((rd_T76 t236 x26_2).f1))) (fun _ hk => trivial)⟩, ⟨by (with_reducible repeat first|apply rA|apply rN|apply rD); exact Kd.R_mono (Kd.R_far (p := ⟨gb248, 1, none⟩) (Kd.R_far (p := ⟨gb248, 0, none⟩) (Kd.R_types HO_7.out BK248.out (by decide)) (fun _ hk => hk.2) (.int .i64 ((rd_T76 t236 x26_2).f0))) (fun _ hk => hk.2) (.int .i64 ((rd_T76 t236 x26_2).f1))) (fun _ hk => trivial)⟩, ⟨by (with_reducible repeat first|apply rA|apply rN|apply rD); exact Kd.R_mono (Kd.R_far (p := ⟨gb248, 1, none⟩) (Kd.R_far (p := ⟨gb248, 0, none⟩) (Kd.R_mono HO_24.out (fun k_ hk => (⟨hk, hk.2⟩ : _ ∧ k_ ≠ gb248))) (fun _ hk => hk.2) (.int .i64 ((rd_T76 t236 x26_2).f0))) (fun _ hk => hk.2) (.int .i64 ((rd_T76 t236 x26_2).f1))) (fun _ hk => trivial)⟩, ⟨by (with_reducible repeat first|apply sA|apply sN|apply sD); exact Kd.S_mono (Kd.S_far (p := ⟨gb248, 1, none⟩) (Kd.S_far (p := ⟨gb248, 0, none⟩) (Kd.S_types HO_244000.out BK248.out (by decide)) (fun _ hk => hk.2) (.int .i64 ((rd_T76 t236 x26_2).f0))) (fun _ hk => hk.2) (.int .i64 ((rd_T76 t236 x26_2).f1))) (fun _ hk => hk.1)⟩, ⟨by (with_reducible repeat first|apply qN|apply qD|apply qA); refine blk_far ?_ NB234_248.out _; (with_reducible repeat first|apply qN|apply qD|apply qA); refine blk_far ?_ NB234_248.out _; (with_reducible repeat first|apply qN|apply qD|apply qA); exact BK234.out⟩, ⟨by (with_reducible repeat first|apply qN|apply qD|apply qA); refine blk_far ?_ NB235_248.out _; (with_reducible repeat first|apply qN|apply qD|apply qA); refine blk_far ?_ NB235_248.out _; (with_reducible repeat first|apply qN|apply qD|apply qA); exact BK235.out⟩, ⟨by (with_reducible repeat first|apply qN|apply qD|apply qA); refine blk_far ?_ NB243_248.out _; (with_reducible repeat first|apply qN|apply qD|apply qA); refine blk_far ?_ NB243_248.out _; (with_reducible repeat first|apply qN|apply qD|apply qA); exact BK243.out⟩, ⟨by exact bq⟩⟩
          ·rw [if_neg c26] at H
           exact absurd H (by simp)
         ·rw [if_neg c25] at H
          exact absurd H (by simp)
        ·rw [if_neg c24] at H
         have c24b0 : decide (x26_2 < (t236.length : Int)) = false := decide_eq_false c24
         clear c24
         by_cases c46 : x244000_1.length < 5864062014805
         ·rw [if_pos c46] at H
          have LMc46 := aM c46
          clear c46
          obtain ⟨y251, hy251⟩ : ∃ y_ : List (List Int), y_ = (x244000_1 ++ [x7_2]) := ⟨_, rfl⟩
          replace H : (spec_maOfOrder.l0 k2 t236 (ji18) (wrap64 (x6_1 + 1)) y251) = some r := by first | (rw [hy251]; with_reducible exact H) | (have H2_ := (Option.bind_some _ _).symm.trans H; rw [hy251]; with_reducible exact H2_) | (have H2_ := (Option.bind_some _ _).symm.trans H; with_reducible exact H2_) | with_reducible exact H | (rw [hy251]; exact H) | exact H
          have Ny251 := aM hy251
          clear hy251
          have H' := aM H
          clear H
          have hnb47 := NB243_234.out
          have hnc47 := NB234_243.out
          have hnb48 := NB243_235.out
          have hnc48 := NB235_243.out
          have hcz49_0 : wr.cell? ⟨gb243, 0, none⟩ = some (u244000) := (blk_cell BK243.out 0).trans rfl
          have hfz49_0 := blk_frozen BK243.out 0
          obtain ⟨Ao51, co51, eo51⟩ := Kd.R_slice HO_7.out
          subst eo51
          go_wp2_with (first | ((with_reducible refine gate_builtin (b := .append) (xs := #[.tmp 43, .tmp 45]) rfl ?_); at_builtin; refine Kd.S_append (Kd.slice 3 (Kd.int .i64)) (w0 := w) w.heap.size rfl (.tmp 43) (.tmp 45) 26 22 (.slice none 0 0) 24 rfl Tryd.underlying26 info22 rfl (by decide) (by omega) u244000 x244000_1 x7_2 [.slice Ao51 x7_2.length co51] (fun _ => True) (fun k_ => some k_ = (.slice Ao51 x7_2.length co51 : Value).ownBlock) rfl rfl ?aP (fun k_ hk_ => ((Kd.R_mono (ok' := fun k_ => ((fun _ => True)) k_ ∧ some k_ ≠ (u244000 : Value).ownBlock) (Kd.R_apart' (HO_7.out) (Kd.S_typed HO_244000.out) (by decide)) (fun k_ hk => ⟨trivial, hk.2⟩))).1 k_ hk_.symm) ?aF ?aO ?aB ?aS ?aL ?_; (case aP => exact Kd.M_row (Kd.R_mono (Kd.R_tight rfl (Kd.R_mono (ok' := fun k_ => ((fun _ => True)) k_ ∧ some k_ ≠ (u244000 : Value).ownBlock) (Kd.R_apart' (HO_7.out) (Kd.S_typed HO_244000.out) (by decide)) (fun k_ hk => ⟨trivial, hk.2⟩))) (fun _ h_ => h_))); (case aB => exact bq); (case aF => exact (fun _ _ => trivial)); (case aO => exact (by (with_reducible repeat first|apply sA|apply sN|apply sD); exact Kd.S_mono HO_244000.out (fun k_ hk => ⟨trivial, fun e_ => hk e_⟩))); (case aS => exact (below_size bq)); (case aL => have := LMc46.out; omega); intro v252 w50 ho hb hg hat; rw [← Ny251.out] at ho; have _ := aM (Kd.R_over' (rQ HO_3) (Kd.S_typed (sQ HO_244000)) (by decide) hg); have _ := aM (Kd.R_over' (rQ HO_24) (Kd.S_typed (sQ HO_244000)) (by decide) hg); have _ := aM (blk_grown (g := gb234) (o := .cells #[.int .i64 a0_0, .slice A0_1 l0_1.length c0_1] 31 (0, 0)) (qQ BK234) hg (Kd.S_ne HO_244000.out BK234.out (by decide))); have _ := aM (blk_grown (g := gb235) (o := .cells #[.slice none 0 0] 28 (0, 0)) (qQ BK235) hg (Kd.S_ne HO_244000.out BK235.out (by decide))); have _ := aM (blk_grown (g := gb243) (o := .cells #[u244000] 28 (0, 0)) (qQ BK243) hg (Kd.S_ne HO_244000.out BK243.out (by decide))); have _ := aM (hb); have _ := aM (ho); clear HO_3 HO_24 BK234 BK235 BK243 HB HO_244000 HO_7; rename_i HO_3 HO_24 BK234 BK235 BK243 HB HO253; clear ho hb hg hat; obtain ⟨Ao52, co52, eo52⟩ := Kd.S_slice HO253.out; subst eo52; have hcz53_0 : w50.cell? ⟨gb243, 0, none⟩ = some (u244000) := (blk_cell BK243.out 0).trans rfl; have hfz53_0 := blk_frozen BK243.out 0))
          subst hji18
          go_roundg k2
          case measure => have := HK1.out; have := HK2.out; omega
          case rel => exact ⟨(wrap64 (x6_1 + 1)), (y251), (.slice Ao52 y251.length co52), (by first | rfl | (simp; done) | (simp [*]; done)), H', ⟨by have := HK1.out; have := HK2.out; omega⟩, ⟨by (with_reducible repeat first|apply rA|apply rN|apply rD); exact Kd.R_mono (Kd.R_far (p := ⟨gb243, 0, none⟩) (Kd.R_types HO_3.out BK243.out (by decide)) (fun _ hk => hk.2) (.slice Ao52 y251.length co52)) (fun _ hk => trivial)⟩, ⟨by (with_reducible repeat first|apply sA|apply sN|apply sD); exact Kd.S_mono (Kd.S_far (p := ⟨gb243, 0, none⟩) (Kd.S_types HO253.out BK243.out (by decide)) (fun _ hk => hk.2) (.slice Ao52 y251.length co52)) (fun _ hk => trivial)⟩, ⟨by (with_reducible repeat first|apply qN|apply qD|apply qA); refine blk_far ?_ NB234_243.out _; (with_reducible repeat first|apply qN|apply qD|apply qA); exact BK234.out⟩, ⟨by (with_reducible repeat first|apply qN|apply qD|apply qA); refine blk_far ?_ NB235_243.out _; (with_reducible repeat first|apply qN|apply qD|apply qA); exact BK235.out⟩, ⟨by (with_reducible repeat first|apply qN|apply qD|apply qA); refine blk_put (cs := #[u244000]) ?_ 0 _ rfl; (with_reducible repeat first|apply qN|apply qD|apply qA); exact BK243.out⟩, ⟨by exact bq⟩⟩
         ·rw [if_neg c46] at H
          exact absurd H (by simp)
     ·rw [if_neg c20] at H
      exact absurd H (by simp)
    ·rw [if_neg c19] at H
     exact absurd H (by simp)
   ·rw [if_neg c17] at H
    have c17b0 : decide (x6_1 < (wrap64 (t242 + 1))) = false := decide_eq_false c17
    clear c17
    obtain rfl := Option.some.inj H
    have hnb54 := NB243_234.out
    have hnc54 := NB234_243.out
    have hnb55 := NB243_235.out
    have hnc55 := NB235_243.out
    have hcz56_0 : wr.cell? ⟨gb243, 0, none⟩ = some (u244000) := (blk_cell BK243.out 0).trans rfl
    have hfz56_0 := blk_frozen BK243.out 0
    obtain ⟨Ao57, co57, eo57⟩ := Kd.S_slice HO_244000.out
    subst eo57
    have hnb58 := NB235_234.out
    have hnc58 := NB234_235.out
    have hcz59_0 : wr.cell? ⟨gb235, 0, none⟩ = some (.slice none 0 0) := (blk_cell BK235.out 0).trans rfl
    have hfz59_0 := blk_frozen BK235.out 0
    go_wp2
    refine bodyPost_ret (results_cell_row rfl _ _ gb235 28 #[.slice Ao57 x244000_1.length co57] (0, 0) _ rfl (by (with_reducible repeat first|apply qN|apply qD|apply qA); refine blk_put (cs := #[.slice none 0 0]) ?_ 0 _ rfl; (with_reducible repeat first|apply qN|apply qD|apply qA); exact BK235.out) Tryd.underlying28 rfl (by kernel_rfl)) rfl ?_
    exact ⟨_, by first | rfl | (simp [errW_none, errW_some] <;> rfl) | (simp [*, errW_none, errW_some] <;> rfl), by (with_reducible repeat first|apply sA|apply sN|apply sD); exact Kd.S_mono (Kd.S_far (p := ⟨gb235, 0, none⟩) (Kd.S_types HO_244000.out BK235.out (by decide)) (fun _ hk => hk.2) (.slice Ao57 x244000_1.length co57)) (fun _ hk => trivial), by exact bq⟩

def spec_maTop.l0 : Nat → List (List Int) → Int → Int → Option (Int)
 | 0, _, _, _ => none
 | k + 1, x6, x7, x8 => if x8 < x7 then (if 0 ≤ x8 then (if x8 < (x6.length : Int) then (if 0 ≤ (wrap64 (((rd_L2 x6 x8).length : Int) - 1)) then (if (wrap64 (((rd_L2 x6 x8).length : Int) - 1)) < ((rd_L2 x6 x8).length : Int) then (if (rd (rd_L2 x6 x8) (wrap64 (((rd_L2 x6 x8).length : Int) - 1))) > 0 then (some x8) else (spec_maTop.l0 k x6 x7 (wrap64 (x8 + 1)))) else (none)) else (none)) else (none)) else (none)) else (some (-1))
def spec_maTop.f (k : Nat) (l0_0 : List (List Int)) : Option (Int) := spec_maTop.l0 k l0_0 (l0_0.length : Int) 0
theorem spec_maTop.mono_l : ∀ k, (∀ y0 y1 y2, LeO (spec_maTop.l0 k y0 y1 y2) (spec_maTop.l0 (k + 1) y0 y1 y2))
 | 0 => fun _ _ _ r h => by simp [spec_maTop.l0] at h
 | k + 1 => by
  have ih0 := spec_maTop.mono_l k
  ·intro y0 y1 y2
   unfold spec_maTop.l0
   repeat' first | with_reducible first | exact ih0 _ _ _ | exact LeO.refl _ | exact LeO.none _ | refine LeO.ite ?_ ?_ | refine LeO.bind ?_ (fun _ => ?_)
theorem spec_maTop.mono : ∀ a0 k, LeO (spec_maTop.f k a0) (spec_maTop.f (k + 1) a0) := by
 intro a0 k
 have ih0 := spec_maTop.mono_l k
 unfold spec_maTop.f
 repeat' first | with_reducible first | exact ih0 _ _ _ | exact LeO.refl _ | exact LeO.none _ | refine LeO.ite ?_ ?_ | refine LeO.bind ?_ (fun _ => ?_)
set_option maxHeartbeats 8000000 in
set_option maxRecDepth 100000 in
theorem spec_maTop.calls (k : Nat) (A0_0 : Option Addr) (c0_0 : Nat) (l0_0 : List (List Int)) (r : Int) (w : World) (hr0_0 : Kd.C (Kd.slice 3 (Kd.int .i64)) w A0_0 l0_0.length l0_0) (hc0_0 : l0_0.length ≤ c0_0) (h : spec_maTop.f k l0_0 = some r) :
  Calls Tryd.prog 100 #[.agg #[.slice A0_0 l0_0.length c0_0]] w fun e w' => e = .returned (.int .i64 r) ∧ Below w.heap.size w w' := by
 have hu28 := Tryd.underlying28
 have HR0_0 := aM hr0_0
 have HC0_0 := aM hc0_0
 clear hr0_0 hc0_0
 have HB := aM (Below.refl w.heap.size w)
 have H : (spec_maTop.l0 k l0_0 (l0_0.length : Int) 0) = some r := h
 clear h
 have H' := aM H
 clear H
 go_enter Tryd.func100, Tryd.ntmps100
 go_wp2_with (first | ((with_reducible refine gate_dst (N := 1) rfl ?_); refine bE 1 28 #[.slice A0_0 l0_0.length c0_0] ?_; intro gb254 hg w2 hbox hb; have _ := aM (below_step bq hb); have _ := aM (hbox); have _ := aM ((gS hg)); have _ := aM ((gS hg)); clear HB; rename_i HB BK254 GW254 GE254; clear hb hbox hg; have hcz3_0 : w2.cell? ⟨gb254, 0, none⟩ = some (.slice A0_0 l0_0.length c0_0) := (blk_cell BK254.out 0).trans rfl; have hfz3_0 := blk_frozen BK254.out 0))
 go_loopg [8] k (fun kq v8 w' => ∃ (x8_1 : Int), v8 = .int .i64 x8_1 ∧ Aside0 (spec_maTop.l0 kq l0_0 (l0_0.length : Int) x8_1 = some r) ∧ Aside0 (kq ≤ k) ∧ Aside0 (w'.heap[gb254]? = some (.cells #[(.slice A0_0 l0_0.length c0_0)] 28 (0, 0))) ∧ Aside0 (Below w.heap.size w w'))
 case atStart => exact ⟨(0), (by first | rfl | (simp; done) | (simp [*]; done)), H', ⟨Nat.le_refl _⟩, ⟨by (with_reducible repeat first|apply qN|apply qD|apply qA); exact BK254.out⟩, ⟨by exact bq⟩⟩
 case round =>
  clear H'
  try clear c1
  try clear p2
  try clear hcz3_0
  try clear hfz3_0
  obtain ⟨x8_1, rfl, HA, HK1, BK254, HB⟩ := hrel
  cases gk with
  | zero => exact absurd HA.out (by simp [spec_maTop.l0])
  | succ k1 =>
   have H := HA.out
   clear HA
   simp only [spec_maTop.l0] at H
   by_cases c4 : x8_1 < (l0_0.length : Int)
   ·rw [if_pos c4] at H
    have c4b0 : decide (x8_1 < (l0_0.length : Int)) = true := decide_eq_true c4
    clear c4
    by_cases c5 : 0 ≤ x8_1
    ·rw [if_pos c5] at H
     have c5b0 : decide (0 ≤ x8_1) = true := decide_eq_true c5
     clear c5
     by_cases c6 : x8_1 < (l0_0.length : Int)
     ·rw [if_pos c6] at H
      have c6b0 : decide (x8_1 < (l0_0.length : Int)) = true := decide_eq_true c6
      clear c6
      obtain ⟨ji7, hji7⟩ : ∃ j_ : Int, (wrap64 (((rd_L2 l0_0 x8_1).length : Int) - 1)) = j_ := ⟨_, rfl⟩
      replace H : (if 0 ≤ (ji7) then (if (ji7) < ((rd_L2 l0_0 x8_1).length : Int) then (if (rd (rd_L2 l0_0 x8_1) (ji7)) > 0 then (some x8_1) else (spec_maTop.l0 k1 l0_0 (l0_0.length : Int) (wrap64 (x8_1 + 1)))) else (none)) else (none)) = some r := by first | (rw [hji7] at H; exact H) | (simp only [hji7] at H ⊢; exact H)
      have hji7w : (IntKind.i64.wrap (((rd_L2 l0_0 x8_1).length : Int) - 1)) = ji7 := (i64_w _).trans hji7
      by_cases c8 : 0 ≤ (ji7)
      ·rw [if_pos c8] at H
       have c8b0 : decide (0 ≤ (ji7)) = true := decide_eq_true c8
       clear c8
       by_cases c9 : (ji7) < ((rd_L2 l0_0 x8_1).length : Int)
       ·rw [if_pos c9] at H
        have c9b0 : decide ((ji7) < ((rd_L2 l0_0 x8_1).length : Int)) = true := decide_eq_true c9
        clear c9
        by_cases c10 : (rd (rd_L2 l0_0 x8_1) (ji7)) > 0
        ·rw [if_pos c10] at H
         have c10b0 : decide (0 < (rd (rd_L2 l0_0 x8_1) (ji7))) = true := decide_eq_true c10
         clear c10
         obtain rfl := Option.some.inj H
         have p255 : 0 ≤ (x8_1 : Int) := odt
         have q255 : x8_1 < (l0_0.length : Int) := odt
         obtain ⟨ad255, A255_0, c255_0, e255, hx255_0, hl255_0, hi255_0⟩ := at_L2 HR0_0.out x8_1 p255 q255
         cases e255
         replace hx255_0 := (HB.out.cell (World.block_lt_of_cell? w _ hx255_0)).trans hx255_0
         have HR255_0 := aM hi255_0
         have HC255_0 := aM hl255_0
         clear hi255_0 hl255_0
         replace p255 := eq_true p255
         replace q255 := eq_true q255
         have p256 : 0 ≤ ((ji7) : Int) := odt
         have q256 : (ji7) < ((rd_L2 l0_0 x8_1).length : Int) := odt
         obtain ⟨ad256, e256, hx256_0⟩ := Kd.at_int HR255_0.out (ji7) p256 q256
         cases e256
         replace hx256_0 := (HB.out.cell (World.block_lt_of_cell? w _ hx256_0)).trans hx256_0
         replace p256 := eq_true p256
         replace q256 := eq_true q256
         go_wp2
         go_ret
         exact ⟨by first | rfl | (simp [errW_none, errW_some] <;> rfl) | (simp only [← hji7]; first | rfl | (simp [errW_none, errW_some] <;> rfl)) | (simp [*, errW_none, errW_some] <;> rfl), by exact bq⟩
        ·rw [if_neg c10] at H
         have c10b0 : decide (0 < (rd (rd_L2 l0_0 x8_1) (ji7))) = false := decide_eq_false c10
         clear c10
         have H' := aM H
         clear H
         have p255 : 0 ≤ (x8_1 : Int) := odt
         have q255 : x8_1 < (l0_0.length : Int) := odt
         obtain ⟨ad255, A255_0, c255_0, e255, hx255_0, hl255_0, hi255_0⟩ := at_L2 HR0_0.out x8_1 p255 q255
         cases e255
         replace hx255_0 := (HB.out.cell (World.block_lt_of_cell? w _ hx255_0)).trans hx255_0
         have HR255_0 := aM hi255_0
         have HC255_0 := aM hl255_0
         clear hi255_0 hl255_0
         replace p255 := eq_true p255
         replace q255 := eq_true q255
         have p256 : 0 ≤ ((ji7) : Int) := odt
         have q256 : (ji7) < ((rd_L2 l0_0 x8_1).length : Int) := odt
         obtain ⟨ad256, e256, hx256_0⟩ := Kd.at_int HR255_0.out (ji7) p256 q256
         cases e256
         replace hx256_0 := (HB.out.cell (World.block_lt_of_cell? w _ hx256_0)).trans hx256_0
         replace p256 := eq_true p256
         replace q256 := eq_true q256
         go_wp2
         go_roundg k1
         case measure => have := HK1.out; omega
         case rel => exact ⟨(wrap64 (x8_1 + 1)), (by first | rfl | (simp; done) | (simp [*]; done)), H', ⟨by have := HK1.out; omega⟩, ⟨by (with_reducible repeat first|apply qN|apply qD|apply qA); exact BK254.out⟩, ⟨by exact bq⟩⟩
       ·rw [if_neg c9] at H
        exact absurd H (by simp)
      ·rw [if_neg c8] at H
       exact absurd H (by simp)
     ·rw [if_neg c6] at H
      exact absurd H (by simp)
    ·rw [if_neg c5] at H
     exact absurd H (by simp)
   ·rw [if_neg c4] at H
    have c4b0 : decide (x8_1 < (l0_0.length : Int)) = false := decide_eq_false c4
    clear c4
    obtain rfl := Option.some.inj H
    go_wp2
    go_ret
    exact ⟨by first | rfl | (simp [errW_none, errW_some] <;> rfl) | (simp [*, errW_none, errW_some] <;> rfl), by exact bq⟩

def spec_maTotal.l0 : Nat → Int → List Int → Int → Int → Option (Int)
 | 0, _, _, _, _ => none
 | k + 1, x3, x6, x7, x8 => if x8 < x7 then (if 0 ≤ x8 then (if x8 < (x6.length : Int) then (spec_maTotal.l0 k (wrap64 (x3 + (rd x6 x8))) x6 x7 (wrap64 (x8 + 1))) else (none)) else (none)) else (some x3)
def spec_maTotal.f (k : Nat) (l0 : List Int) : Option (Int) := spec_maTotal.l0 k 0 l0 (l0.length : Int) 0
theorem spec_maTotal.mono_l : ∀ k, (∀ y0 y1 y2 y3, LeO (spec_maTotal.l0 k y0 y1 y2 y3) (spec_maTotal.l0 (k + 1) y0 y1 y2 y3))
 | 0 => fun _ _ _ _ r h => by simp [spec_maTotal.l0] at h
 | k + 1 => by
  have ih0 := spec_maTotal.mono_l k
  ·intro y0 y1 y2 y3
   unfold spec_maTotal.l0
   repeat' first | with_reducible first | exact ih0 _ _ _ _ | exact LeO.refl _ | exact LeO.none _ | refine LeO.ite ?_ ?_ | refine LeO.bind ?_ (fun _ => ?_)
theorem spec_maTotal.mono : ∀ a0 k, LeO (spec_maTotal.f k a0) (spec_maTotal.f (k + 1) a0) := by
 intro a0 k
 have ih0 := spec_maTotal.mono_l k
 unfold spec_maTotal.f
 repeat' first | with_reducible first | exact ih0 _ _ _ _ | exact LeO.refl _ | exact LeO.none _ | refine LeO.ite ?_ ?_ | refine LeO.bind ?_ (fun _ => ?_)
set_option maxHeartbeats 8000000 in
set_option maxRecDepth 100000 in
theorem spec_maTotal.calls (k : Nat) (A0 : Option Addr) (c0 : Nat) (l0 : List Int) (r : Int) (w : World) (hr0 : Kd.C (Kd.int .i64) w A0 l0.length l0) (hc0 : l0.length ≤ c0) (h : spec_maTotal.f k l0 = some r) :
  Calls Tryd.prog 101 #[.slice A0 l0.length c0] w fun e w' => e = .returned (.int .i64 r) ∧ Drawn0 w w' := by
 have HR0 := aM hr0
 have HC0 := aM hc0
 clear hr0 hc0
 have H : (spec_maTotal.l0 k 0 l0 (l0.length : Int) 0) = some r := h
 clear h
 have H' := aM H
 clear H
 go_enter Tryd.func101, Tryd.ntmps101
 go_wp2
 go_loopg [3, 8] k (fun kq v3 v8 w' => ∃ (x3_1 : Int) (x8_1 : Int), v3 = .int .i64 x3_1 ∧ v8 = .int .i64 x8_1 ∧ Aside0 (spec_maTotal.l0 kq x3_1 l0 (l0.length : Int) x8_1 = some r) ∧ Aside0 (kq ≤ k) ∧ Drawn0 w w')
 case atStart => exact ⟨(0), (0), (by first | rfl | (simp; done) | (simp [*]; done)), (by first | rfl | (simp; done) | (simp [*]; done)), H', ⟨Nat.le_refl _⟩, by repeat (first | exact Drawn0.refl _ | apply Drawn0.step)⟩
 case round =>
  clear H'
  try clear c1
  obtain ⟨x3_1, x8_1, rfl, rfl, HA, HK1, ⟨m1, rfl⟩⟩ := hrel
  cases gk with
  | zero => exact absurd HA.out (by simp [spec_maTotal.l0])
  | succ k1 =>
   have H := HA.out
   clear HA
   simp only [spec_maTotal.l0] at H
   by_cases c2 : x8_1 < (l0.length : Int)
   ·rw [if_pos c2] at H
    have c2b0 : decide (x8_1 < (l0.length : Int)) = true := decide_eq_true c2
    clear c2
    by_cases c3 : 0 ≤ x8_1
    ·rw [if_pos c3] at H
     have c3b0 : decide (0 ≤ x8_1) = true := decide_eq_true c3
     clear c3
     by_cases c4 : x8_1 < (l0.length : Int)
     ·rw [if_pos c4] at H
      have c4b0 : decide (x8_1 < (l0.length : Int)) = true := decide_eq_true c4
      clear c4
      have H' := aM H
      clear H
      have p257 : 0 ≤ (x8_1 : Int) := odt
      have q257 : x8_1 < (l0.length : Int) := odt
      obtain ⟨ad257, e257, hx257_0⟩ := Kd.at_int HR0.out x8_1 p257 q257
      cases e257
      replace p257 := eq_true p257
      replace q257 := eq_true q257
      go_wp2
      go_roundg k1
      case measure => have := HK1.out; omega
      case rel => exact ⟨(wrap64 (x3_1 + (rd l0 x8_1))), (wrap64 (x8_1 + 1)), (by first | rfl | (simp; done) | (simp [*]; done)), (by first | rfl | (simp; done) | (simp [*]; done)), H', ⟨by have := HK1.out; omega⟩, by repeat (first | exact Drawn0.refl _ | apply Drawn0.step)⟩
     ·rw [if_neg c4] at H
      exact absurd H (by simp)
    ·rw [if_neg c3] at H
     exact absurd H (by simp)
   ·rw [if_neg c2] at H
    have c2b0 : decide (x8_1 < (l0.length : Int)) = false := decide_eq_false c2
    clear c2
    obtain rfl := Option.some.inj H
    go_wp2
    go_ret
    exact ⟨by first | rfl | (simp; done) | (simp [*]; done), by repeat (first | exact Drawn0.refl _ | apply Drawn0.step)⟩

end Go.Proofs.YtcodionjhcmfhaaDoor.Ao
