-- Written by hook.py, a program of this session (wip/), which runs the kit's print.py with its own parts; Lean checks it.
import Derived.Test.YtcodionjhcmfhaaDoorAl0
import Derived.Test.YtcodionjhcmfhaaDoorAl6
import Derived.Test.YtcodionjhcmfhaaDoorAl7
import Derived.Test.YtcodionjhcmfhaaDoorAlXSq
namespace Go.Proofs.YtcodionjhcmfhaaDoor.Al
open Go.RowKit Go.Proofs.YtcodionjhcmfhaaDoorW.PrintWords Go.Proofs.YtcodionjhcmfhaaDoorW.PrintLast Go.Proofs.YtcodionjhcmfhaaDoorW.PrintMore Go.Proofs.YtcodionjhcmfhaaDoor.Sq
attribute [local go_sem] max2_int min2_int max_two min_two max_three min_three max_four min_four   -- for this text's walks alone
set_option linter.unusedVariables false
set_option linter.unusedSimpArgs false

mutual
def spec_maOfOrder.l0 : Nat → List (S76) → Int → Int → List (List Int) → Option ((List (List Int)))
 | 0, _, _, _, _ => none
 | k + 1, x3, x4, x6, x240000 => if x6 < x4 then (if 0 ≤ x4 then (if (x4 : Int).toNat ≤ 35184372088832 then (spec_maOfOrder.l1 k x3 x4 x6 (List.replicate (x4 : Int).toNat 0) x3 (x3.length : Int) 0 x240000) else (none)) else (none)) else (some x240000)
def spec_maOfOrder.l1 : Nat → List (S76) → Int → Int → List Int → List (S76) → Int → Int → List (List Int) → Option ((List (List Int)))
 | 0, _, _, _, _, _, _, _, _ => none
 | k + 1, x3, x4, x6, x7, x24, x25, x26, x240000 => if x26 < x25 then (if 0 ≤ x26 then (if x26 < (x24.length : Int) then (if ((rd_T76 x24 x26).f0) = x6 then (if 0 ≤ ((rd_T76 x24 x26).f1) then (if ((rd_T76 x24 x26).f1) < (x7.length : Int) then (spec_maOfOrder.l1 k x3 x4 x6 (x7.set (((rd_T76 x24 x26).f1) : Int).toNat (wrap64 ((rd x7 ((rd_T76 x24 x26).f1)) + 1))) x24 x25 (wrap64 (x26 + 1)) x240000) else (none)) else (none)) else (spec_maOfOrder.l1 k x3 x4 x6 x7 x24 x25 (wrap64 (x26 + 1)) x240000)) else (none)) else (none)) else (if x240000.length < 5864062014805 then (spec_maOfOrder.l0 k x3 x4 (wrap64 (x6 + 1)) (x240000 ++ [x7])) else (none))
end
def spec_maOfOrder.f (k : Nat) (a0_0 : Int) (l0_1 : List Int) : Option ((List (List Int))) := (spec_ivEnds.f k a0_0 l0_1).bind fun t232 => ((spec_ivLevels.f k a0_0 l0_1).bind fun t235 => ((spec_ivMost.f k t235).bind fun t238 => (spec_maOfOrder.l0 k t232 (wrap64 (t238 + 1)) 0 ([] : List (List Int)))))
theorem spec_maOfOrder.mono_l : ∀ k, (∀ y0 y1 y2 y3, LeO (spec_maOfOrder.l0 k y0 y1 y2 y3) (spec_maOfOrder.l0 (k + 1) y0 y1 y2 y3)) ∧ (∀ y0 y1 y2 y3 y4 y5 y6 y7, LeO (spec_maOfOrder.l1 k y0 y1 y2 y3 y4 y5 y6 y7) (spec_maOfOrder.l1 (k + 1) y0 y1 y2 y3 y4 y5 y6 y7))
 | 0 => ⟨fun _ _ _ _ r h => by simp [spec_maOfOrder.l0] at h, fun _ _ _ _ _ _ _ _ r h => by simp [spec_maOfOrder.l1] at h⟩
 | k + 1 => by
  obtain ⟨ih0, ih1⟩ := spec_maOfOrder.mono_l k
  refine ⟨?_, ?_⟩
  ·intro y0 y1 y2 y3
   unfold spec_maOfOrder.l0
   repeat' first | with_reducible first | exact ih0 _ _ _ _ | exact ih1 _ _ _ _ _ _ _ _ | exact spec_ivEnds.mono _ _ _ | exact spec_ivLevels.mono _ _ _ | exact spec_ivMost.mono _ _ | exact LeO.refl _ | exact LeO.none _ | refine LeO.ite ?_ ?_ | refine LeO.bind ?_ (fun _ => ?_)
  ·intro y0 y1 y2 y3 y4 y5 y6 y7
   unfold spec_maOfOrder.l1
   repeat' first | with_reducible first | exact ih0 _ _ _ _ | exact ih1 _ _ _ _ _ _ _ _ | exact spec_ivEnds.mono _ _ _ | exact spec_ivLevels.mono _ _ _ | exact spec_ivMost.mono _ _ | exact LeO.refl _ | exact LeO.none _ | refine LeO.ite ?_ ?_ | refine LeO.bind ?_ (fun _ => ?_)
theorem spec_maOfOrder.mono : ∀ a0 a1 k, LeO (spec_maOfOrder.f k a0 a1) (spec_maOfOrder.f (k + 1) a0 a1) := by
 intro a0 a1 k
 obtain ⟨ih0, ih1⟩ := spec_maOfOrder.mono_l k
 unfold spec_maOfOrder.f
 repeat' first | with_reducible first | exact ih0 _ _ _ _ | exact ih1 _ _ _ _ _ _ _ _ | exact spec_ivEnds.mono _ _ _ | exact spec_ivLevels.mono _ _ _ | exact spec_ivMost.mono _ _ | exact LeO.refl _ | exact LeO.none _ | refine LeO.ite ?_ ?_ | refine LeO.bind ?_ (fun _ => ?_)
set_option maxHeartbeats 8000000 in
set_option maxRecDepth 100000 in
theorem spec_maOfOrder.calls (k : Nat) (a0_0 : Int) (A0_1 : Option Addr) (c0_1 : Nat) (l0_1 : List Int) (r : List (List Int)) (w : World) (hr0_1 : Kd.C (Kd.int .i64) w A0_1 l0_1.length l0_1) (hc0_1 : l0_1.length ≤ c0_1) (h : spec_maOfOrder.f k a0_0 l0_1 = some r) :
  Calls Tryd.prog 38 #[.agg #[.int .i64 a0_0, .slice A0_1 l0_1.length c0_1]] w fun e w' => ∃ v0_ : Value, e = .returned (.agg #[v0_]) ∧ Kd.S (Kd.slice 3 (Kd.int .i64)) 22 w' w.heap.size (fun _ => True) v0_ r ∧ Below w.heap.size w w' := by
 have hu31 := Tryd.underlying31
 have hu28 := Tryd.underlying28
 have hu76 := Tryd.underlying76
 have HR0_1 := aM hr0_1
 have HC0_1 := aM hc0_1
 clear hr0_1 hc0_1
 have HB := aM (Below.refl w.heap.size w)
 have H : ((spec_ivEnds.f k a0_0 l0_1).bind fun t232 => ((spec_ivLevels.f k a0_0 l0_1).bind fun t235 => ((spec_ivMost.f k t235).bind fun t238 => (spec_maOfOrder.l0 k t232 (wrap64 (t238 + 1)) 0 ([] : List (List Int)))))) = some r := h
 clear h
 replace H := Option.bind_eq_some_iff.mp H
 obtain ⟨t232, A20, H⟩ := H
 replace H : ((spec_ivLevels.f k a0_0 l0_1).bind fun t235 => ((spec_ivMost.f k t235).bind fun t238 => (spec_maOfOrder.l0 k t232 (wrap64 (t238 + 1)) 0 ([] : List (List Int))))) = some r := H
 have A2 := aM A20
 clear A20
 replace H := Option.bind_eq_some_iff.mp H
 obtain ⟨t235, A30, H⟩ := H
 replace H : ((spec_ivMost.f k t235).bind fun t238 => (spec_maOfOrder.l0 k t232 (wrap64 (t238 + 1)) 0 ([] : List (List Int)))) = some r := H
 have A3 := aM A30
 clear A30
 replace H := Option.bind_eq_some_iff.mp H
 obtain ⟨t238, A40, H⟩ := H
 replace H : (spec_maOfOrder.l0 k t232 (wrap64 (t238 + 1)) 0 ([] : List (List Int))) = some r := H
 have A4 := aM A40
 clear A40
 have H' := aM H
 clear H
 go_enter Tryd.func38, Tryd.ntmps38
 go_wp2_with (first | ((with_reducible refine gate_dst (N := 1) rfl ?_); refine bE 1 31 #[.int .i64 a0_0, .slice A0_1 l0_1.length c0_1] ?_; intro gb230 hg w5 hbox hb; have _ := aM (below_step bq hb); have _ := aM (hbox); have _ := aM ((gS hg)); have _ := aM ((gS hg)); clear HB; rename_i HB BK230 GW230 GE230; clear hb hbox hg) | ((with_reducible refine gate_dst (N := 2) rfl ?_); refine bE 2 28 #[.slice none 0 0] ?_; intro gb231 hg w6 hbox hb; have _ := aM (blk_below (g := gb230) (o := .cells #[.int .i64 a0_0, .slice A0_1 l0_1.length c0_1] 31 (0, 0)) (qQ BK230) hb); have _ := aM (below_step bq hb); have _ := aM (hbox); have _ := aM ((gS hg)); have _ := aM ((gS hg)); have _ := aM ((by rw [hg]; exact Nat.ne_of_lt (blk_lt (g := gb230) (o := .cells #[.int .i64 a0_0, .slice A0_1 l0_1.length c0_1] 31 (0, 0)) (qQ BK230)) : gb230 ≠ gb231)); have _ := aM ((by rw [hg]; exact Nat.ne_of_gt (blk_lt (g := gb230) (o := .cells #[.int .i64 a0_0, .slice A0_1 l0_1.length c0_1] 31 (0, 0)) (qQ BK230)) : gb231 ≠ gb230)); clear BK230 HB; rename_i BK230 HB BK231 GW231 GE231 NB230_231 NB231_230; clear hb hbox hg; have hnb7 := NB230_231.out; have hnc7 := NB231_230.out; have hcz8_0 : w6.cell? ⟨gb230, 0, none⟩ = some (.int .i64 a0_0) := (blk_cell BK230.out 0).trans rfl; have hcz8_1 : w6.cell? ⟨gb230, 1, none⟩ = some (.slice A0_1 l0_1.length c0_1) := (blk_cell BK230.out 1).trans rfl; have hfz8_0 := blk_frozen BK230.out 0; have hfz8_1 := blk_frozen BK230.out 1) | ((with_reducible refine gate_callee (f := 65) rfl ?_); refine gL (some 11) Tryd.func65 #[.agg #[.int .i64 a0_0, .slice A0_1 l0_1.length c0_1]] ?_; (with_reducible refine (spec_ivEnds.calls k a0_0 _ _ l0_1 t232 _ (cQ (Kd.C_below HR0_1.out HB.out)) HC0_1.out A2.out).mono ?_); rintro e w9 ⟨v233, rfl, ho0, hb⟩; refine ⟨_, rfl, ?_⟩; have _ := aM (Kd.R_lower ho0 (below_size bq)); have _ := aM (blk_below (g := gb230) (o := .cells #[.int .i64 a0_0, .slice A0_1 l0_1.length c0_1] 31 (0, 0)) (qQ BK230) hb); have _ := aM (blk_below (g := gb231) (o := .cells #[.slice none 0 0] 28 (0, 0)) (qQ BK231) hb); have _ := aM (below_step bq hb); clear BK230 BK231 HB; rename_i HO234 BK230 BK231 HB; (try clear hb); (try clear hb2); (try clear hk); (try clear hi); (try clear ho0); have hcz10_0 : w9.cell? ⟨gb230, 0, none⟩ = some (.int .i64 a0_0) := (blk_cell BK230.out 0).trans rfl; have hcz10_1 : w9.cell? ⟨gb230, 1, none⟩ = some (.slice A0_1 l0_1.length c0_1) := (blk_cell BK230.out 1).trans rfl; have hfz10_0 := blk_frozen BK230.out 0; have hfz10_1 := blk_frozen BK230.out 1) | ((with_reducible refine gate_callee (f := 67) rfl ?_); refine gL (some 13) Tryd.func67 #[.agg #[.int .i64 a0_0, .slice A0_1 l0_1.length c0_1]] ?_; (with_reducible refine (spec_ivLevels.calls k a0_0 _ _ l0_1 t235 _ (cQ (Kd.C_below HR0_1.out HB.out)) HC0_1.out A3.out).mono ?_); rintro e w11 ⟨v236, rfl, ho0, hb⟩; refine ⟨_, rfl, ?_⟩; have _ := aM (Kd.R_below (rQ HO234) hb); have _ := aM (Kd.R_lower ho0 (below_size bq)); have _ := aM (blk_below (g := gb230) (o := .cells #[.int .i64 a0_0, .slice A0_1 l0_1.length c0_1] 31 (0, 0)) (qQ BK230) hb); have _ := aM (blk_below (g := gb231) (o := .cells #[.slice none 0 0] 28 (0, 0)) (qQ BK231) hb); have _ := aM (below_step bq hb); clear HO234 BK230 BK231 HB; rename_i HO234 HO237 BK230 BK231 HB; (try clear hb); (try clear hb2); (try clear hk); (try clear hi); (try clear ho0); obtain ⟨Ao12, co12, eo12⟩ := Kd.R_slice HO237.out; subst eo12) | ((with_reducible refine gate_callee (f := 66) rfl ?_); refine gL (some 14) Tryd.func66 #[.slice Ao12 t235.length co12] ?_; (with_reducible refine (spec_ivMost.calls k _ _ t235 t238 _ (cQ ((Kd.R_reads' HO237.out).2.2)) ((Kd.R_reads' HO237.out).2.1) A4.out).mono ?_); rintro e w' ⟨rfl, ⟨nd, rfl⟩⟩; refine ⟨_, rfl, ?_⟩; (try (rw [drewN_self w11]; generalize hq_ : World.drewN w11 _ = w11; have _ : Aside0 (Kd.R k76 76 w11 w.heap.size (fun _ => True) v233 t232) := ⟨by rw [← hq_]; exact (rQ HO234)⟩; have _ : Aside0 (Kd.R (Kd.int .i64) 3 w11 w.heap.size (fun _ => True) (.slice Ao12 t235.length co12) t235) := ⟨by rw [← hq_]; exact (rQ HO237)⟩; have _ : Aside0 (w11.heap[gb230]? = some (.cells #[.int .i64 a0_0, .slice A0_1 l0_1.length c0_1] 31 (0, 0))) := ⟨by rw [← hq_]; exact (qQ BK230)⟩; have _ : Aside0 (w11.heap[gb231]? = some (.cells #[.slice none 0 0] 28 (0, 0))) := ⟨by rw [← hq_]; exact (qQ BK231)⟩; have _ : Aside0 (Below w.heap.size w w11) := ⟨by rw [← hq_]; exact bq⟩; clear HO234 HO237 BK230 BK231 HB hq_; rename_i HO234 HO237 BK230 BK231 HB))) | ((with_reducible refine gate_dst (N := 5) rfl ?_); refine bE 5 28 #[.slice none 0 0] ?_; intro gb239 hg w13 hbox hb; have _ := aM (Kd.R_below (rQ HO234) hb); have _ := aM (Kd.R_below (rQ HO237) hb); have _ := aM (blk_below (g := gb230) (o := .cells #[.int .i64 a0_0, .slice A0_1 l0_1.length c0_1] 31 (0, 0)) (qQ BK230) hb); have _ := aM (blk_below (g := gb231) (o := .cells #[.slice none 0 0] 28 (0, 0)) (qQ BK231) hb); have _ := aM (below_step bq hb); have _ := aM (hbox); have _ := aM ((gS hg)); have _ := aM ((gS hg)); have _ := aM ((by rw [hg]; exact Nat.ne_of_lt (blk_lt (g := gb230) (o := .cells #[.int .i64 a0_0, .slice A0_1 l0_1.length c0_1] 31 (0, 0)) (qQ BK230)) : gb230 ≠ gb239)); have _ := aM ((by rw [hg]; exact Nat.ne_of_gt (blk_lt (g := gb230) (o := .cells #[.int .i64 a0_0, .slice A0_1 l0_1.length c0_1] 31 (0, 0)) (qQ BK230)) : gb239 ≠ gb230)); have _ := aM ((by rw [hg]; exact Nat.ne_of_lt (blk_lt (g := gb231) (o := .cells #[.slice none 0 0] 28 (0, 0)) (qQ BK231)) : gb231 ≠ gb239)); have _ := aM ((by rw [hg]; exact Nat.ne_of_gt (blk_lt (g := gb231) (o := .cells #[.slice none 0 0] 28 (0, 0)) (qQ BK231)) : gb239 ≠ gb231)); clear HO234 HO237 BK230 BK231 HB; rename_i HO234 HO237 BK230 BK231 HB BK239 GW239 GE239 NB230_239 NB239_230 NB231_239 NB239_231; clear hb hbox hg; have hnb14 := NB239_230.out; have hnc14 := NB230_239.out; have hnb15 := NB239_231.out; have hnc15 := NB231_239.out; have hcz16_0 : w13.cell? ⟨gb239, 0, none⟩ = some (.slice none 0 0) := (blk_cell BK239.out 0).trans rfl; have hfz16_0 := blk_frozen BK239.out 0))
 go_loopg [6] k (fun kq v6 w' => ∃ (x6_1 : Int) (x240000_1 : List (List Int)) (u240000 : Value), v6 = .int .i64 x6_1 ∧ Aside0 (spec_maOfOrder.l0 kq t232 (wrap64 (t238 + 1)) x6_1 x240000_1 = some r) ∧ Aside0 (kq ≤ k) ∧ Aside0 (Kd.R k76 76 w' w.heap.size (fun _ => True) v233 t232) ∧ Aside0 (Kd.S (Kd.slice 3 (Kd.int .i64)) 22 w' w.heap.size (fun _ => True) u240000 x240000_1) ∧ Aside0 (w'.heap[gb230]? = some (.cells #[.int .i64 a0_0, (.slice A0_1 l0_1.length c0_1)] 31 (0, 0))) ∧ Aside0 (w'.heap[gb231]? = some (.cells #[(.slice none 0 0)] 28 (0, 0))) ∧ Aside0 (w'.heap[gb239]? = some (.cells #[u240000] 28 (0, 0))) ∧ Aside0 (Below w.heap.size w w'))
 case atStart => exact ⟨(0), (([] : List (List Int))), (.slice none 0 0), (by first | rfl | (simp; done) | (simp [*]; done)), H', ⟨Nat.le_refl _⟩, ⟨by (with_reducible repeat first|apply rA|apply rN|apply rD); exact Kd.R_mono (Kd.R_far (p := ⟨gb239, 0, none⟩) (Kd.R_types HO234.out BK239.out (by decide)) (fun _ hk => hk.2) (.slice none 0 0)) (fun _ hk => trivial)⟩, ⟨by first | exact Kd.S_nil _ _ _ _ _ | exact Kd.N_nil _ _ _ _ _ | exact Kd.V_nil _ _ _ _ _ | exact Kd.Q_nil _ _ _ _ _ | exact Kd.R_nil _ _ _ _ _⟩, ⟨by (with_reducible repeat first|apply qN|apply qD|apply qA); refine blk_far ?_ NB230_239.out _; (with_reducible repeat first|apply qN|apply qD|apply qA); exact BK230.out⟩, ⟨by (with_reducible repeat first|apply qN|apply qD|apply qA); refine blk_far ?_ NB231_239.out _; (with_reducible repeat first|apply qN|apply qD|apply qA); exact BK231.out⟩, ⟨by (with_reducible repeat first|apply qN|apply qD|apply qA); refine blk_put (cs := #[.slice none 0 0]) ?_ 0 _ rfl; (with_reducible repeat first|apply qN|apply qD|apply qA); exact BK239.out⟩, ⟨by exact bq⟩⟩
 case round =>
  clear H'
  try clear c1
  try clear p2
  try clear c3
  try clear c6
  try clear p6
  try clear c7
  try clear c14
  try clear c15
  try clear hcz10_0
  try clear hcz10_1
  try clear hcz16_0
  try clear hcz8_0
  try clear hcz8_1
  try clear hfz10_0
  try clear hfz10_1
  try clear hfz16_0
  try clear hfz8_0
  try clear hfz8_1
  obtain ⟨x6_1, x240000_1, u240000, rfl, HA, HK1, HO_3, HO_240000, BK230, BK231, BK239, HB⟩ := hrel
  cases gk with
  | zero => exact absurd HA.out (by simp [spec_maOfOrder.l0])
  | succ k1 =>
   have H := HA.out
   clear HA
   simp only [spec_maOfOrder.l0] at H
   by_cases c17 : x6_1 < (wrap64 (t238 + 1))
   ·rw [if_pos c17] at H
    have c17b0 : decide (x6_1 < (wrap64 (t238 + 1))) = true := decide_eq_true c17
    clear c17
    obtain ⟨ji18, hji18⟩ : ∃ j_ : Int, (wrap64 (t238 + 1)) = j_ := ⟨_, rfl⟩
    replace H : (if 0 ≤ (ji18) then (if ((ji18) : Int).toNat ≤ 35184372088832 then (spec_maOfOrder.l1 k1 t232 (ji18) x6_1 (List.replicate ((ji18) : Int).toNat 0) t232 (t232.length : Int) 0 x240000_1) else (none)) else (none)) = some r := by first | (rw [hji18] at H; exact H) | (simp only [hji18] at H ⊢; exact H)
    (try rw [hji18] at c17b0)
    have hji18w : (IntKind.i64.wrap (t238 + 1)) = ji18 := (i64_w _).trans hji18
    by_cases c19 : 0 ≤ (ji18)
    ·rw [if_pos c19] at H
     have c19b0 := eq_true c19
     have c19b1 : decide (0 ≤ (ji18)) = true := decide_eq_true c19
     clear c19
     by_cases c20 : ((ji18) : Int).toNat ≤ 35184372088832
     ·rw [if_pos c20] at H
      have c20b0 := eq_true c20
      have c20b1 : decide (((ji18) : Int).toNat ≤ 35184372088832) = true := decide_eq_true c20
      clear c20
      obtain ⟨y240, hy240⟩ : ∃ y_ : List Int, y_ = (List.replicate ((ji18) : Int).toNat 0) := ⟨_, rfl⟩
      replace H : (spec_maOfOrder.l1 k1 t232 (ji18) x6_1 y240 t232 (t232.length : Int) 0 x240000_1) = some r := by first | (rw [hy240]; with_reducible exact H) | (have H2_ := (Option.bind_some _ _).symm.trans H; rw [hy240]; with_reducible exact H2_) | (have H2_ := (Option.bind_some _ _).symm.trans H; with_reducible exact H2_) | with_reducible exact H | (rw [hy240]; exact H) | exact H
      have Ny240 := aM hy240
      clear hy240
      have H' := aM H
      clear H
      go_wp2_with (first | ((with_reducible refine gate_dst (N := 23) rfl ?_); (try rw [hji18]); refine Kd.R_make (Kd.int .i64) _ 3 rfl (N := 23) rfl 22 _ _ rfl (ji18) rfl rfl Tryd.underlying22 (.int .i64 0) 8 info3 rfl (by decide) (by omega) 0 (ok := fun _ => True) (okp := fun _ => True) rfl (fun _ hk => hk) trivial (odt) (Nat.le_trans (Nat.mul_le_mul_right _ (odt : (ji18).toNat ≤ 35184372088832)) (by omega)) (Below.refl _ _) (Nat.le_refl _) ?_; intro v241 w21 ho22 hb hg_ hnew_; clear hg_ hnew_; (first | rw [← Ny240.out] at ho22 | (simp only [Int.reduceToNat] at ho22; rw [← Ny240.out] at ho22)); have _ := aM (Kd.R_below (rQ HO_3) hb); have _ := aM (Kd.S_elder' (sQ HO_240000) (Kd.R_base ho22) hb); have _ := aM (Kd.R_lower ho22 (below_size bq)); have _ := aM (blk_below (g := gb230) (o := .cells #[.int .i64 a0_0, .slice A0_1 l0_1.length c0_1] 31 (0, 0)) (qQ BK230) hb); have _ := aM (blk_below (g := gb231) (o := .cells #[.slice none 0 0] 28 (0, 0)) (qQ BK231) hb); have _ := aM (blk_below (g := gb239) (o := .cells #[u240000] 28 (0, 0)) (qQ BK239) hb); have _ := aM (below_step bq hb); clear HO_3 HO_240000 BK230 BK231 BK239 HB; rename_i HO_3 HO_240000 HO242 BK230 BK231 BK239 HB; clear hb ho22; obtain ⟨Ao23, co23, eo23⟩ := Kd.R_slice HO_3.out; subst eo23))
      go_loopg [26] k1 (fun kq v26 w' => ∃ (x7_2 : List Int) (x26_2 : Int), v26 = .int .i64 x26_2 ∧ Aside0 (spec_maOfOrder.l1 kq t232 (ji18) x6_1 x7_2 t232 (t232.length : Int) x26_2 x240000_1 = some r) ∧ Aside0 (kq ≤ k1) ∧ Aside0 (Kd.R k76 76 w' w.heap.size (fun _ => True) (.slice Ao23 t232.length co23) t232) ∧ Aside0 (Kd.R (Kd.int .i64) 3 w' w.heap.size (fun _ => True) v241 x7_2) ∧ Aside0 (Kd.R k76 76 w' w.heap.size (fun _ => True) (.slice Ao23 t232.length co23) t232) ∧ Aside0 (Kd.S (Kd.slice 3 (Kd.int .i64)) 22 w' w.heap.size (fun k_ => some k_ ≠ (v241 : Value).ownBlock) u240000 x240000_1) ∧ Aside0 (w'.heap[gb230]? = some (.cells #[.int .i64 a0_0, (.slice A0_1 l0_1.length c0_1)] 31 (0, 0))) ∧ Aside0 (w'.heap[gb231]? = some (.cells #[(.slice none 0 0)] 28 (0, 0))) ∧ Aside0 (w'.heap[gb239]? = some (.cells #[u240000] 28 (0, 0))) ∧ Aside0 (Below w.heap.size w w'))
      case atStart => exact ⟨(y240), (0), (by first | rfl | (simp; done) | (simp [*]; done)), H', ⟨Nat.le_refl _⟩, ⟨by (with_reducible repeat first|apply rA|apply rN|apply rD); exact HO_3.out⟩, ⟨by (with_reducible repeat first|apply rA|apply rN|apply rD); exact HO242.out⟩, ⟨by (with_reducible repeat first|apply rA|apply rN|apply rD); exact HO_3.out⟩, ⟨by (with_reducible repeat first|apply sA|apply sN|apply sD); exact Kd.S_mono HO_240000.out (fun _ hk => hk.2)⟩, ⟨by (with_reducible repeat first|apply qN|apply qD|apply qA); exact BK230.out⟩, ⟨by (with_reducible repeat first|apply qN|apply qD|apply qA); exact BK231.out⟩, ⟨by (with_reducible repeat first|apply qN|apply qD|apply qA); exact BK239.out⟩, ⟨by exact bq⟩⟩
      case round =>
       clear H'
       try clear c1
       try clear c2
       try clear p2
       try clear c3
       try clear c6
       try clear p6
       try clear c7
       try clear c14
       try clear c15
       try clear c17
       try clear c17b0
       try clear c19
       try clear c19b0
       try clear c19b1
       try clear c20
       try clear c20b0
       try clear c20b1
       try clear hcz10_0
       try clear hcz10_1
       try clear hcz16_0
       try clear hcz8_0
       try clear hcz8_1
       try clear hfz10_0
       try clear hfz10_1
       try clear hfz16_0
       try clear hfz8_0
       try clear hfz8_1
       try clear p2
       try clear p6
       obtain ⟨x7_2, x26_2, rfl, HA, HK2, HO_3, HO_7, HO_24, HO_240000, BK230, BK231, BK239, HB⟩ := hrel
       cases gk with
       | zero => exact absurd HA.out (by simp [spec_maOfOrder.l1])
       | succ k2 =>
        have H := HA.out
        clear HA
        simp only [spec_maOfOrder.l1] at H
        by_cases c24 : x26_2 < (t232.length : Int)
        ·rw [if_pos c24] at H
         have c24b0 : decide (x26_2 < (t232.length : Int)) = true := decide_eq_true c24
         clear c24
         by_cases c25 : 0 ≤ x26_2
         ·rw [if_pos c25] at H
          have c25b0 : decide (0 ≤ x26_2) = true := decide_eq_true c25
          clear c25
          by_cases c26 : x26_2 < (t232.length : Int)
          ·rw [if_pos c26] at H
           have c26b0 : decide (x26_2 < (t232.length : Int)) = true := decide_eq_true c26
           clear c26
           by_cases c27 : ((rd_T76 t232 x26_2).f0) = x6_1
           ·rw [if_pos c27] at H
            have c27b0 : (((rd_T76 t232 x26_2).f0) == x6_1) = true := beq_iff_eq.mpr c27
            have c27b1 : (((rd_T76 t232 x26_2).f0) != x6_1) = false := bne_eq_false_iff_eq.mpr c27
            clear c27
            by_cases c28 : 0 ≤ ((rd_T76 t232 x26_2).f1)
            ·rw [if_pos c28] at H
             have c28b0 : decide (0 ≤ ((rd_T76 t232 x26_2).f1)) = true := decide_eq_true c28
             clear c28
             by_cases c29 : ((rd_T76 t232 x26_2).f1) < (x7_2.length : Int)
             ·rw [if_pos c29] at H
              have c29b0 : decide (((rd_T76 t232 x26_2).f1) < (x7_2.length : Int)) = true := decide_eq_true c29
              clear c29
              obtain ⟨y246, hy246⟩ : ∃ y_ : List Int, y_ = (x7_2.set (((rd_T76 t232 x26_2).f1) : Int).toNat (wrap64 ((rd x7_2 ((rd_T76 t232 x26_2).f1)) + 1))) := ⟨_, rfl⟩
              replace H : (spec_maOfOrder.l1 k2 t232 (ji18) x6_1 y246 t232 (t232.length : Int) (wrap64 (x26_2 + 1)) x240000_1) = some r := by first | (rw [hy246]; with_reducible exact H) | (have H2_ := (Option.bind_some _ _).symm.trans H; rw [hy246]; with_reducible exact H2_) | (have H2_ := (Option.bind_some _ _).symm.trans H; with_reducible exact H2_) | with_reducible exact H | (rw [hy246]; exact H) | exact H
              have Ny246 := aM hy246
              clear hy246
              have H' := aM H
              clear H
              have p243 : 0 ≤ (x26_2 : Int) := odt
              have q243 : x26_2 < (t232.length : Int) := odt
              obtain ⟨ad243, e243, hx243_0, hx243_1⟩ := at_T76 (Kd.R_reads' HO_24.out).2.2 x26_2 p243 q243
              cases e243
              replace p243 := eq_true p243
              replace q243 := eq_true q243
              go_wp2_with (first | ((with_reducible refine gate_dst (N := 9) rfl ?_); refine bE 9 76 #[.int .i64 0, .int .i64 0] ?_; intro gb244 hg w31 hbox hb; have _ := aM (Kd.R_below (Kd.R_elderB (rQ HO_3) gb244 (Nat.le_of_eq hg.symm)) hb); have _ := aM (Kd.R_below (rQ HO_7) hb); have _ := aM (Kd.R_below (Kd.R_elderB (rQ HO_24) gb244 (Nat.le_of_eq hg.symm)) hb); have _ := aM (Kd.S_below (sQ HO_240000) hb); have _ := aM (blk_below (g := gb230) (o := .cells #[.int .i64 a0_0, .slice A0_1 l0_1.length c0_1] 31 (0, 0)) (qQ BK230) hb); have _ := aM (blk_below (g := gb231) (o := .cells #[.slice none 0 0] 28 (0, 0)) (qQ BK231) hb); have _ := aM (blk_below (g := gb239) (o := .cells #[u240000] 28 (0, 0)) (qQ BK239) hb); have _ := aM (below_step bq hb); have _ := aM (hbox); have _ := aM ((gS hg)); have _ := aM ((gS hg)); have _ := aM ((by rw [hg]; exact Nat.ne_of_lt (blk_lt (g := gb230) (o := .cells #[.int .i64 a0_0, .slice A0_1 l0_1.length c0_1] 31 (0, 0)) (qQ BK230)) : gb230 ≠ gb244)); have _ := aM ((by rw [hg]; exact Nat.ne_of_gt (blk_lt (g := gb230) (o := .cells #[.int .i64 a0_0, .slice A0_1 l0_1.length c0_1] 31 (0, 0)) (qQ BK230)) : gb244 ≠ gb230)); have _ := aM ((by rw [hg]; exact Nat.ne_of_lt (blk_lt (g := gb231) (o := .cells #[.slice none 0 0] 28 (0, 0)) (qQ BK231)) : gb231 ≠ gb244)); have _ := aM ((by rw [hg]; exact Nat.ne_of_gt (blk_lt (g := gb231) (o := .cells #[.slice none 0 0] 28 (0, 0)) (qQ BK231)) : gb244 ≠ gb231)); have _ := aM ((by rw [hg]; exact Nat.ne_of_lt (blk_lt (g := gb239) (o := .cells #[u240000] 28 (0, 0)) (qQ BK239)) : gb239 ≠ gb244)); have _ := aM ((by rw [hg]; exact Nat.ne_of_gt (blk_lt (g := gb239) (o := .cells #[u240000] 28 (0, 0)) (qQ BK239)) : gb244 ≠ gb239)); clear HO_3 HO_7 HO_24 HO_240000 BK230 BK231 BK239 HB; rename_i HO_3 HO_7 HO_24 HO_240000 BK230 BK231 BK239 HB BK244 GW244 GE244 NB230_244 NB244_230 NB231_244 NB244_231 NB239_244 NB244_239; clear hb hbox hg; have hnb32 := NB244_230.out; have hnc32 := NB230_244.out; have hnb33 := NB244_231.out; have hnc33 := NB231_244.out; have hnb34 := NB244_239.out; have hnc34 := NB239_244.out; have hcz35_0 : w31.cell? ⟨gb244, 0, none⟩ = some (.int .i64 0) := (blk_cell BK244.out 0).trans rfl; have hcz35_1 : w31.cell? ⟨gb244, 1, none⟩ = some (.int .i64 0) := (blk_cell BK244.out 1).trans rfl; have hfz35_0 := blk_frozen BK244.out 0; have hfz35_1 := blk_frozen BK244.out 1) | ((with_reducible refine gate_store (t := 76) (p := 9) rfl ?_); refine sE ((w31.setCell ⟨gb244, 0, none⟩ (.int .i64 ((rd_T76 t232 x26_2).f0))).setCell ⟨gb244, 1, none⟩ (.int .i64 ((rd_T76 t232 x26_2).f1))) 76 9 ?_; intro w36 hw; have _ : Aside0 (Kd.R k76 76 w36 w.heap.size (fun k_ => k_ ≠ gb244) (.slice (some ad243) t232.length co23) t232) := ⟨(by rw [hw]; exact (by (with_reducible repeat first|apply rA|apply rN|apply rD); exact Kd.R_mono (Kd.R_far (p := ⟨gb244, 1, none⟩) (Kd.R_far (p := ⟨gb244, 0, none⟩) (Kd.R_mono HO_3.out (fun k_ hk => (⟨hk, hk.2⟩ : _ ∧ k_ ≠ gb244))) (fun _ hk => hk.2) (.int .i64 ((rd_T76 t232 x26_2).f0))) (fun _ hk => hk.2) (.int .i64 ((rd_T76 t232 x26_2).f1))) (fun _ hk => hk.1.2)))⟩; have _ : Aside0 (Kd.R (Kd.int .i64) 3 w36 w.heap.size (fun _ => True) v241 x7_2) := ⟨(by rw [hw]; exact (by (with_reducible repeat first|apply rA|apply rN|apply rD); exact Kd.R_mono (Kd.R_far (p := ⟨gb244, 1, none⟩) (Kd.R_far (p := ⟨gb244, 0, none⟩) (Kd.R_types HO_7.out BK244.out (by decide)) (fun _ hk => hk.2) (.int .i64 ((rd_T76 t232 x26_2).f0))) (fun _ hk => hk.2) (.int .i64 ((rd_T76 t232 x26_2).f1))) (fun _ hk => trivial)))⟩; have _ : Aside0 (Kd.R k76 76 w36 w.heap.size (fun k_ => k_ ≠ gb244) (.slice (some ad243) t232.length co23) t232) := ⟨(by rw [hw]; exact (by (with_reducible repeat first|apply rA|apply rN|apply rD); exact Kd.R_mono (Kd.R_far (p := ⟨gb244, 1, none⟩) (Kd.R_far (p := ⟨gb244, 0, none⟩) (Kd.R_mono HO_24.out (fun k_ hk => (⟨hk, hk.2⟩ : _ ∧ k_ ≠ gb244))) (fun _ hk => hk.2) (.int .i64 ((rd_T76 t232 x26_2).f0))) (fun _ hk => hk.2) (.int .i64 ((rd_T76 t232 x26_2).f1))) (fun _ hk => hk.1.2)))⟩; have _ : Aside0 (Kd.S (Kd.slice 3 (Kd.int .i64)) 22 w36 w.heap.size (fun k_ => some k_ ≠ (v241 : Value).ownBlock) u240000 x240000_1) := ⟨(by rw [hw]; exact (by (with_reducible repeat first|apply sA|apply sN|apply sD); exact Kd.S_mono (Kd.S_far (p := ⟨gb244, 1, none⟩) (Kd.S_far (p := ⟨gb244, 0, none⟩) (Kd.S_types HO_240000.out BK244.out (by decide)) (fun _ hk => hk.2) (.int .i64 ((rd_T76 t232 x26_2).f0))) (fun _ hk => hk.2) (.int .i64 ((rd_T76 t232 x26_2).f1))) (fun _ hk => hk.1)))⟩; have _ : Aside0 (w36.heap[gb230]? = some (.cells #[.int .i64 a0_0, .slice A0_1 l0_1.length c0_1] 31 (0, 0))) := ⟨(by rw [hw]; exact (by (with_reducible repeat first|apply qN|apply qD|apply qA); refine blk_far ?_ NB230_244.out _; (with_reducible repeat first|apply qN|apply qD|apply qA); refine blk_far ?_ NB230_244.out _; (with_reducible repeat first|apply qN|apply qD|apply qA); exact BK230.out))⟩; have _ : Aside0 (w36.heap[gb231]? = some (.cells #[.slice none 0 0] 28 (0, 0))) := ⟨(by rw [hw]; exact (by (with_reducible repeat first|apply qN|apply qD|apply qA); refine blk_far ?_ NB231_244.out _; (with_reducible repeat first|apply qN|apply qD|apply qA); refine blk_far ?_ NB231_244.out _; (with_reducible repeat first|apply qN|apply qD|apply qA); exact BK231.out))⟩; have _ : Aside0 (w36.heap[gb239]? = some (.cells #[u240000] 28 (0, 0))) := ⟨(by rw [hw]; exact (by (with_reducible repeat first|apply qN|apply qD|apply qA); refine blk_far ?_ NB239_244.out _; (with_reducible repeat first|apply qN|apply qD|apply qA); refine blk_far ?_ NB239_244.out _; (with_reducible repeat first|apply qN|apply qD|apply qA); exact BK239.out))⟩; have _ : Aside0 (w36.heap[gb244]? = some (.cells #[.int .i64 ((rd_T76 t232 x26_2).f0), .int .i64 ((rd_T76 t232 x26_2).f1)] 76 (0, 0))) := ⟨(by rw [hw]; exact (by (with_reducible repeat first|apply qN|apply qD|apply qA); refine blk_put (cs := #[.int .i64 ((rd_T76 t232 x26_2).f0), .int .i64 0]) ?_ 1 _ rfl; (with_reducible repeat first|apply qN|apply qD|apply qA); refine blk_put (cs := #[.int .i64 0, .int .i64 0]) ?_ 0 _ rfl; (with_reducible repeat first|apply qN|apply qD|apply qA); exact BK244.out))⟩; have _ : Aside0 (Below w.heap.size w w36) := ⟨(by rw [hw]; exact bq)⟩; clear hw HO_3 HO_7 HO_24 HO_240000 BK230 BK231 BK239 BK244 HB; rename_i HO_3 HO_7 HO_24 HO_240000 BK230 BK231 BK239 BK244 HB; have hcz37_0 : w36.cell? ⟨gb244, 0, none⟩ = some (.int .i64 ((rd_T76 t232 x26_2).f0)) := (blk_cell BK244.out 0).trans rfl; have hcz37_1 : w36.cell? ⟨gb244, 1, none⟩ = some (.int .i64 ((rd_T76 t232 x26_2).f1)) := (blk_cell BK244.out 1).trans rfl; have hfz37_0 := blk_frozen BK244.out 0; have hfz37_1 := blk_frozen BK244.out 1; obtain ⟨Ao38, co38, eo38⟩ := Kd.R_slice HO_7.out; subst eo38; have p245 : 0 ≤ (((rd_T76 t232 x26_2).f1) : Int) := odt; have q245 : ((rd_T76 t232 x26_2).f1) < (x7_2.length : Int) := odt; obtain ⟨ad245, e245, hx245_0⟩ := Kd.at_int (Kd.R_reads' HO_7.out).2.2 ((rd_T76 t232 x26_2).f1) p245 q245; cases e245; replace p245 := eq_true p245; replace q245 := eq_true q245; have p30 : 0 ≤ (((rd_T76 t232 x26_2).f1) : Int) := odt; have q30 : (((rd_T76 t232 x26_2).f1) : Int) < ((x7_2.length : Int) : Int) := odt; obtain ⟨go30, co30, eo30, gb30, gl30, cl30, HG30⟩ := Kd.R_form HO_7.out (by omega); (first | cases eo30 | (injection eo30 with ea_ en_ ec_; (first | subst ea_ | (injection ea_ with ea_; subst ea_)); subst ec_; clear en_)); have GB30 := aM gb30; have GG30 := aM HG30; clear gb30 gl30 HG30; (first | simp only [add_plain] at hx245_0 | skip); obtain ⟨hx30_0, hf30_0⟩ := Kd.R_celln 0 HO_7.out (((rd_T76 t232 x26_2).f1) : Int) p30 q30; replace p30 := eq_true p30; replace q30 := eq_true q30; obtain ⟨hy39_, hz39_⟩ := Kd.R_celln 0 HO_7.out (((rd_T76 t232 x26_2).f1) : Int) (odt) (odt); have HP39 := Kd.R_putg HO_7.out (((rd_T76 t232 x26_2).f1) : Int) (wrap64 ((rd x7_2 ((rd_T76 t232 x26_2).f1)) + 1))) | ((with_reducible refine gate_store (t := 3) (p := 40) rfl ?_); refine sE (w36.setCell ⟨go30, (((rd_T76 t232 x26_2).f1) : Int).toNat, none⟩ (.int .i64 (wrap64 ((rd x7_2 ((rd_T76 t232 x26_2).f1)) + 1)))) 3 40 ?_; intro w40 hw; have hg : w36.grownBy w40 (some go30) := (by rw [hw]; exact HP39.2); have hp_ : Kd.R (Kd.int .i64) 3 w40 w.heap.size (fun _ => True) (.slice (some ⟨go30, 0, none⟩) x7_2.length co38) y246 := (by rw [hw, Ny246.out]; exact HP39.1); clear HP39; have _ := aM (Kd.R_over' (v := (.slice (some ⟨go30, 0, none⟩) x7_2.length co38)) (rQ HO_3) (Kd.R_typed HO_7.out) (by decide) hg); have _ := aM (hp_); have _ := aM (Kd.R_over' (v := (.slice (some ⟨go30, 0, none⟩) x7_2.length co38)) (rQ HO_24) (Kd.R_typed HO_7.out) (by decide) hg); have _ := aM (Kd.S_after (v := (.slice (some ⟨go30, 0, none⟩) x7_2.length co38)) (v1 := (.slice (some ⟨go30, 0, none⟩) x7_2.length co38)) (ok := (fun _ => True)) (by (with_reducible repeat first|apply sA|apply sN|apply sD); exact Kd.S_mono HO_240000.out (fun _ hk => ⟨trivial, hk⟩)) hg (.inl rfl)); have _ := aM (blk_grown (g := gb230) (o := .cells #[.int .i64 a0_0, .slice A0_1 l0_1.length c0_1] 31 (0, 0)) (qQ BK230) hg (Kd.R_ne HO_7.out BK230.out (by decide))); have _ := aM (blk_grown (g := gb231) (o := .cells #[.slice none 0 0] 28 (0, 0)) (qQ BK231) hg (Kd.R_ne HO_7.out BK231.out (by decide))); have _ := aM (blk_grown (g := gb239) (o := .cells #[u240000] 28 (0, 0)) (qQ BK239) hg (Kd.R_ne HO_7.out BK239.out (by decide))); have _ := aM (blk_grown (g := gb244) (o := .cells #[.int .i64 ((rd_T76 t232 x26_2).f0), .int .i64 ((rd_T76 t232 x26_2).f1)] 76 (0, 0)) (qQ BK244) hg (Kd.R_ne HO_7.out BK244.out (by decide))); have _ := aM ((by rw [hw]; exact below_set (HB.out) GB30.out : Below w.heap.size w w40)); clear HO_3 HO_7 HO_24 HO_240000 BK230 BK231 BK239 BK244 HB; rename_i HO_3 HO_7 HO_24 HO_240000 BK230 BK231 BK239 BK244 HB; clear hg hw hp_))
              go_roundg k2
              case measure => have := HK1.out; have := HK2.out; omega
              case rel => exact ⟨(y246), (wrap64 (x26_2 + 1)), (by first | rfl | (simp; done) | (simp [*]; done)), H', ⟨by have := HK1.out; have := HK2.out; omega⟩, ⟨by (with_reducible repeat first|apply rA|apply rN|apply rD); exact Kd.R_mono HO_3.out (fun _ hk => trivial)⟩, ⟨by (with_reducible repeat first|apply rA|apply rN|apply rD); exact HO_7.out⟩, ⟨by (with_reducible repeat first|apply rA|apply rN|apply rD); exact Kd.R_mono HO_24.out (fun _ hk => trivial)⟩, ⟨by (with_reducible repeat first|apply sA|apply sN|apply sD); exact Kd.S_mono HO_240000.out (fun _ hk => hk.2)⟩, ⟨by (with_reducible repeat first|apply qN|apply qD|apply qA); exact BK230.out⟩, ⟨by (with_reducible repeat first|apply qN|apply qD|apply qA); exact BK231.out⟩, ⟨by (with_reducible repeat first|apply qN|apply qD|apply qA); exact BK239.out⟩, ⟨by exact bq⟩⟩
             ·rw [if_neg c29] at H
              exact absurd H (by simp)
            ·rw [if_neg c28] at H
             exact absurd H (by simp)
           ·rw [if_neg c27] at H
            have c27b0 : (((rd_T76 t232 x26_2).f0) == x6_1) = false := beq_eq_false_iff_ne.mpr c27
            have c27b1 : (((rd_T76 t232 x26_2).f0) != x6_1) = true := bne_iff_ne.mpr c27
            have H' := aM H
            clear H
            have p243 : 0 ≤ (x26_2 : Int) := odt
            have q243 : x26_2 < (t232.length : Int) := odt
            obtain ⟨ad243, e243, hx243_0, hx243_1⟩ := at_T76 (Kd.R_reads' HO_24.out).2.2 x26_2 p243 q243
            cases e243
            replace p243 := eq_true p243
            replace q243 := eq_true q243
            go_wp2_with (first | ((with_reducible refine gate_dst (N := 9) rfl ?_); refine bE 9 76 #[.int .i64 0, .int .i64 0] ?_; intro gb244 hg w41 hbox hb; have _ := aM (Kd.R_below (Kd.R_elderB (rQ HO_3) gb244 (Nat.le_of_eq hg.symm)) hb); have _ := aM (Kd.R_below (rQ HO_7) hb); have _ := aM (Kd.R_below (Kd.R_elderB (rQ HO_24) gb244 (Nat.le_of_eq hg.symm)) hb); have _ := aM (Kd.S_below (sQ HO_240000) hb); have _ := aM (blk_below (g := gb230) (o := .cells #[.int .i64 a0_0, .slice A0_1 l0_1.length c0_1] 31 (0, 0)) (qQ BK230) hb); have _ := aM (blk_below (g := gb231) (o := .cells #[.slice none 0 0] 28 (0, 0)) (qQ BK231) hb); have _ := aM (blk_below (g := gb239) (o := .cells #[u240000] 28 (0, 0)) (qQ BK239) hb); have _ := aM (below_step bq hb); have _ := aM (hbox); have _ := aM ((gS hg)); have _ := aM ((gS hg)); have _ := aM ((by rw [hg]; exact Nat.ne_of_lt (blk_lt (g := gb230) (o := .cells #[.int .i64 a0_0, .slice A0_1 l0_1.length c0_1] 31 (0, 0)) (qQ BK230)) : gb230 ≠ gb244)); have _ := aM ((by rw [hg]; exact Nat.ne_of_gt (blk_lt (g := gb230) (o := .cells #[.int .i64 a0_0, .slice A0_1 l0_1.length c0_1] 31 (0, 0)) (qQ BK230)) : gb244 ≠ gb230)); have _ := aM ((by rw [hg]; exact Nat.ne_of_lt (blk_lt (g := gb231) (o := .cells #[.slice none 0 0] 28 (0, 0)) (qQ BK231)) : gb231 ≠ gb244)); have _ := aM ((by rw [hg]; exact Nat.ne_of_gt (blk_lt (g := gb231) (o := .cells #[.slice none 0 0] 28 (0, 0)) (qQ BK231)) : gb244 ≠ gb231)); have _ := aM ((by rw [hg]; exact Nat.ne_of_lt (blk_lt (g := gb239) (o := .cells #[u240000] 28 (0, 0)) (qQ BK239)) : gb239 ≠ gb244)); have _ := aM ((by rw [hg]; exact Nat.ne_of_gt (blk_lt (g := gb239) (o := .cells #[u240000] 28 (0, 0)) (qQ BK239)) : gb244 ≠ gb239)); clear HO_3 HO_7 HO_24 HO_240000 BK230 BK231 BK239 HB; rename_i HO_3 HO_7 HO_24 HO_240000 BK230 BK231 BK239 HB BK244 GW244 GE244 NB230_244 NB244_230 NB231_244 NB244_231 NB239_244 NB244_239; clear hb hbox hg; have hnb42 := NB244_230.out; have hnc42 := NB230_244.out; have hnb43 := NB244_231.out; have hnc43 := NB231_244.out; have hnb44 := NB244_239.out; have hnc44 := NB239_244.out; have hcz45_0 : w41.cell? ⟨gb244, 0, none⟩ = some (.int .i64 0) := (blk_cell BK244.out 0).trans rfl; have hcz45_1 : w41.cell? ⟨gb244, 1, none⟩ = some (.int .i64 0) := (blk_cell BK244.out 1).trans rfl; have hfz45_0 := blk_frozen BK244.out 0; have hfz45_1 := blk_frozen BK244.out 1))
            go_roundg k2
            case measure => have := HK1.out; have := HK2.out; omega
            case rel => exact ⟨(x7_2), (wrap64 (x26_2 + 1)), (by first | rfl | (simp; done) | (simp [*]; done)), H', ⟨by have := HK1.out; have := HK2.out; omega⟩, ⟨by (with_reducible repeat first|apply rA|apply rN|apply rD); exact Kd.R_mono (Kd.R_far (p := ⟨gb244, 1, none⟩) (Kd.R_far (p := ⟨gb244, 0, none⟩) (Kd.R_mono HO_3.out (fun k_ hk => (⟨hk, hk.2⟩ : _ ∧ k_ ≠ gb244))) (fun _ hk => hk.2) (.int .i64 ((rd_T76 t232 x26_2).f0))) (fun _ hk => hk.2) (.int .i64 ((rd_T76 t232 x26_2).f1))) (fun _ hk => trivial)⟩, ⟨by (with_reducible repeat first|apply rA|apply rN|apply rD); exact Kd.R_mono (Kd.R_far (p := ⟨gb244, 1, none⟩) (Kd.R_far (p := ⟨gb244, 0, none⟩) (Kd.R_types HO_7.out BK244.out (by decide)) (fun _ hk => hk.2) (.int .i64 ((rd_T76 t232 x26_2).f0))) (fun _ hk => hk.2) (.int .i64 ((rd_T76 t232 x26_2).f1))) (fun _ hk => trivial)⟩, ⟨by (with_reducible repeat first|apply rA|apply rN|apply rD); exact Kd.R_mono (Kd.R_far (p := ⟨gb244, 1, none⟩) (Kd.R_far (p := ⟨gb244, 0, none⟩) (Kd.R_mono HO_24.out (fun k_ hk => (⟨hk, hk.2⟩ : _ ∧ k_ ≠ gb244))) (fun _ hk => hk.2) (.int .i64 ((rd_T76 t232 x26_2).f0))) (fun _ hk => hk.2) (.int .i64 ((rd_T76 t232 x26_2).f1))) (fun _ hk => trivial)⟩, ⟨by (with_reducible repeat first|apply sA|apply sN|apply sD); exact Kd.S_mono (Kd.S_far (p := ⟨gb244, 1, none⟩) (Kd.S_far (p := ⟨gb244, 0, none⟩) (Kd.S_types HO_240000.out BK244.out (by decide)) (fun _ hk => hk.2) (.int .i64 ((rd_T76 t232 x26_2).f0))) (fun _ hk => hk.2) (.int .i64 ((rd_T76 t232 x26_2).f1))) (fun _ hk => hk.1)⟩, ⟨by (with_reducible repeat first|apply qN|apply qD|apply qA); refine blk_far ?_ NB230_244.out _; (with_reducible repeat first|apply qN|apply qD|apply qA); refine blk_far ?_ NB230_244.out _; (with_reducible repeat first|apply qN|apply qD|apply qA); exact BK230.out⟩, ⟨by (with_reducible repeat first|apply qN|apply qD|apply qA); refine blk_far ?_ NB231_244.out _; (with_reducible repeat first|apply qN|apply qD|apply qA); refine blk_far ?_ NB231_244.out _; (with_reducible repeat first|apply qN|apply qD|apply qA); exact BK231.out⟩, ⟨by (with_reducible repeat first|apply qN|apply qD|apply qA); refine blk_far ?_ NB239_244.out _; (with_reducible repeat first|apply qN|apply qD|apply qA); refine blk_far ?_ NB239_244.out _; (with_reducible repeat first|apply qN|apply qD|apply qA); exact BK239.out⟩, ⟨by exact bq⟩⟩
          ·rw [if_neg c26] at H
           exact absurd H (by simp)
         ·rw [if_neg c25] at H
          exact absurd H (by simp)
        ·rw [if_neg c24] at H
         have c24b0 : decide (x26_2 < (t232.length : Int)) = false := decide_eq_false c24
         clear c24
         by_cases c46 : x240000_1.length < 5864062014805
         ·rw [if_pos c46] at H
          have LMc46 := aM c46
          clear c46
          obtain ⟨y247, hy247⟩ : ∃ y_ : List (List Int), y_ = (x240000_1 ++ [x7_2]) := ⟨_, rfl⟩
          replace H : (spec_maOfOrder.l0 k2 t232 (ji18) (wrap64 (x6_1 + 1)) y247) = some r := by first | (rw [hy247]; with_reducible exact H) | (have H2_ := (Option.bind_some _ _).symm.trans H; rw [hy247]; with_reducible exact H2_) | (have H2_ := (Option.bind_some _ _).symm.trans H; with_reducible exact H2_) | with_reducible exact H | (rw [hy247]; exact H) | exact H
          have Ny247 := aM hy247
          clear hy247
          have H' := aM H
          clear H
          have hnb47 := NB239_230.out
          have hnc47 := NB230_239.out
          have hnb48 := NB239_231.out
          have hnc48 := NB231_239.out
          have hcz49_0 : wr.cell? ⟨gb239, 0, none⟩ = some (u240000) := (blk_cell BK239.out 0).trans rfl
          have hfz49_0 := blk_frozen BK239.out 0
          obtain ⟨Ao51, co51, eo51⟩ := Kd.R_slice HO_7.out
          subst eo51
          go_wp2_with (first | ((with_reducible refine gate_builtin (b := .append) (xs := #[.tmp 43, .tmp 45]) rfl ?_); at_builtin; refine Kd.S_append (Kd.slice 3 (Kd.int .i64)) (w0 := w) w.heap.size rfl (.tmp 43) (.tmp 45) 26 22 (.slice none 0 0) 24 rfl Tryd.underlying26 info22 rfl (by decide) (by omega) u240000 x240000_1 x7_2 [.slice Ao51 x7_2.length co51] (fun _ => True) (fun k_ => some k_ = (.slice Ao51 x7_2.length co51 : Value).ownBlock) rfl rfl ?aP (fun k_ hk_ => ((Kd.R_mono (ok' := fun k_ => ((fun _ => True)) k_ ∧ some k_ ≠ (u240000 : Value).ownBlock) (Kd.R_apart' (HO_7.out) (Kd.S_typed HO_240000.out) (by decide)) (fun k_ hk => ⟨trivial, hk.2⟩))).1 k_ hk_.symm) ?aF ?aO ?aB ?aS ?aL ?_; (case aP => exact Kd.M_row (Kd.R_mono (Kd.R_tight rfl (Kd.R_mono (ok' := fun k_ => ((fun _ => True)) k_ ∧ some k_ ≠ (u240000 : Value).ownBlock) (Kd.R_apart' (HO_7.out) (Kd.S_typed HO_240000.out) (by decide)) (fun k_ hk => ⟨trivial, hk.2⟩))) (fun _ h_ => h_))); (case aB => exact bq); (case aF => exact (fun _ _ => trivial)); (case aO => exact (by (with_reducible repeat first|apply sA|apply sN|apply sD); exact Kd.S_mono HO_240000.out (fun k_ hk => ⟨trivial, fun e_ => hk e_⟩))); (case aS => exact (below_size bq)); (case aL => have := LMc46.out; omega); intro v248 w50 ho hb hg hat; rw [← Ny247.out] at ho; have _ := aM (Kd.R_over' (rQ HO_3) (Kd.S_typed (sQ HO_240000)) (by decide) hg); have _ := aM (Kd.R_over' (rQ HO_24) (Kd.S_typed (sQ HO_240000)) (by decide) hg); have _ := aM (blk_grown (g := gb230) (o := .cells #[.int .i64 a0_0, .slice A0_1 l0_1.length c0_1] 31 (0, 0)) (qQ BK230) hg (Kd.S_ne HO_240000.out BK230.out (by decide))); have _ := aM (blk_grown (g := gb231) (o := .cells #[.slice none 0 0] 28 (0, 0)) (qQ BK231) hg (Kd.S_ne HO_240000.out BK231.out (by decide))); have _ := aM (blk_grown (g := gb239) (o := .cells #[u240000] 28 (0, 0)) (qQ BK239) hg (Kd.S_ne HO_240000.out BK239.out (by decide))); have _ := aM (hb); have _ := aM (ho); clear HO_3 HO_24 BK230 BK231 BK239 HB HO_240000 HO_7; rename_i HO_3 HO_24 BK230 BK231 BK239 HB HO249; clear ho hb hg hat; obtain ⟨Ao52, co52, eo52⟩ := Kd.S_slice HO249.out; subst eo52; have hcz53_0 : w50.cell? ⟨gb239, 0, none⟩ = some (u240000) := (blk_cell BK239.out 0).trans rfl; have hfz53_0 := blk_frozen BK239.out 0))
          subst hji18
          go_roundg k2
          case measure => have := HK1.out; have := HK2.out; omega
          case rel => exact ⟨(wrap64 (x6_1 + 1)), (y247), (.slice Ao52 y247.length co52), (by first | rfl | (simp; done) | (simp [*]; done)), H', ⟨by have := HK1.out; have := HK2.out; omega⟩, ⟨by (with_reducible repeat first|apply rA|apply rN|apply rD); exact Kd.R_mono (Kd.R_far (p := ⟨gb239, 0, none⟩) (Kd.R_types HO_3.out BK239.out (by decide)) (fun _ hk => hk.2) (.slice Ao52 y247.length co52)) (fun _ hk => trivial)⟩, ⟨by (with_reducible repeat first|apply sA|apply sN|apply sD); exact Kd.S_mono (Kd.S_far (p := ⟨gb239, 0, none⟩) (Kd.S_types HO249.out BK239.out (by decide)) (fun _ hk => hk.2) (.slice Ao52 y247.length co52)) (fun _ hk => trivial)⟩, ⟨by (with_reducible repeat first|apply qN|apply qD|apply qA); refine blk_far ?_ NB230_239.out _; (with_reducible repeat first|apply qN|apply qD|apply qA); exact BK230.out⟩, ⟨by (with_reducible repeat first|apply qN|apply qD|apply qA); refine blk_far ?_ NB231_239.out _; (with_reducible repeat first|apply qN|apply qD|apply qA); exact BK231.out⟩, ⟨by (with_reducible repeat first|apply qN|apply qD|apply qA); refine blk_put (cs := #[u240000]) ?_ 0 _ rfl; (with_reducible repeat first|apply qN|apply qD|apply qA); exact BK239.out⟩, ⟨by exact bq⟩⟩
         ·rw [if_neg c46] at H
          exact absurd H (by simp)
     ·rw [if_neg c20] at H
      exact absurd H (by simp)
    ·rw [if_neg c19] at H
     exact absurd H (by simp)
   ·rw [if_neg c17] at H
    have c17b0 : decide (x6_1 < (wrap64 (t238 + 1))) = false := decide_eq_false c17
    clear c17
    obtain rfl := Option.some.inj H
    have hnb54 := NB239_230.out
    have hnc54 := NB230_239.out
    have hnb55 := NB239_231.out
    have hnc55 := NB231_239.out
    have hcz56_0 : wr.cell? ⟨gb239, 0, none⟩ = some (u240000) := (blk_cell BK239.out 0).trans rfl
    have hfz56_0 := blk_frozen BK239.out 0
    obtain ⟨Ao57, co57, eo57⟩ := Kd.S_slice HO_240000.out
    subst eo57
    have hnb58 := NB231_230.out
    have hnc58 := NB230_231.out
    have hcz59_0 : wr.cell? ⟨gb231, 0, none⟩ = some (.slice none 0 0) := (blk_cell BK231.out 0).trans rfl
    have hfz59_0 := blk_frozen BK231.out 0
    go_wp2
    refine bodyPost_ret (results_cell_row rfl _ _ gb231 28 #[.slice Ao57 x240000_1.length co57] (0, 0) _ rfl (by (with_reducible repeat first|apply qN|apply qD|apply qA); refine blk_put (cs := #[.slice none 0 0]) ?_ 0 _ rfl; (with_reducible repeat first|apply qN|apply qD|apply qA); exact BK231.out) Tryd.underlying28 rfl (by kernel_rfl)) rfl ?_
    exact ⟨_, by first | rfl | (simp [errW_none, errW_some] <;> rfl) | (simp [*, errW_none, errW_some] <;> rfl), by (with_reducible repeat first|apply sA|apply sN|apply sD); exact Kd.S_mono (Kd.S_far (p := ⟨gb231, 0, none⟩) (Kd.S_types HO_240000.out BK231.out (by decide)) (fun _ hk => hk.2) (.slice Ao57 x240000_1.length co57)) (fun _ hk => trivial), by exact bq⟩

def spec_l1Same.l0 : Nat → List Int → List Int → Int → Int → Option (Bool)
 | 0, _, _, _, _ => none
 | k + 1, x0, x1, x12, x13 => if x13 < x12 then (if 0 ≤ x13 then (if x13 < (x0.length : Int) then (if x13 < (x1.length : Int) then (if (rd x0 x13) = (rd x1 x13) then (spec_l1Same.l0 k x0 x1 x12 (wrap64 (x13 + 1))) else (some false)) else (none)) else (none)) else (none)) else (some true)
def spec_l1Same.f (k : Nat) (l0 : List Int) (l1 : List Int) : Option (Bool) := if (l0.length : Int) = (l1.length : Int) then (spec_l1Same.l0 k l0 l1 (l0.length : Int) 0) else (some false)
theorem spec_l1Same.mono_l : ∀ k, (∀ y0 y1 y2 y3, LeO (spec_l1Same.l0 k y0 y1 y2 y3) (spec_l1Same.l0 (k + 1) y0 y1 y2 y3))
 | 0 => fun _ _ _ _ r h => by simp [spec_l1Same.l0] at h
 | k + 1 => by
  have ih0 := spec_l1Same.mono_l k
  ·intro y0 y1 y2 y3
   unfold spec_l1Same.l0
   repeat' first | with_reducible first | exact ih0 _ _ _ _ | exact LeO.refl _ | exact LeO.none _ | refine LeO.ite ?_ ?_ | refine LeO.bind ?_ (fun _ => ?_)
theorem spec_l1Same.mono : ∀ a0 a1 k, LeO (spec_l1Same.f k a0 a1) (spec_l1Same.f (k + 1) a0 a1) := by
 intro a0 a1 k
 have ih0 := spec_l1Same.mono_l k
 unfold spec_l1Same.f
 repeat' first | with_reducible first | exact ih0 _ _ _ _ | exact LeO.refl _ | exact LeO.none _ | refine LeO.ite ?_ ?_ | refine LeO.bind ?_ (fun _ => ?_)
set_option maxHeartbeats 8000000 in
set_option maxRecDepth 100000 in
theorem spec_l1Same.calls (k : Nat) (A0 : Option Addr) (c0 : Nat) (l0 : List Int) (A1 : Option Addr) (c1 : Nat) (l1 : List Int) (r : Bool) (w : World) (hr0 : Kd.C (Kd.int .i64) w A0 l0.length l0) (hc0 : l0.length ≤ c0) (hr1 : Kd.C (Kd.int .i64) w A1 l1.length l1) (hc1 : l1.length ≤ c1) (h : spec_l1Same.f k l0 l1 = some r) :
  Calls Tryd.prog 75 #[.slice A0 l0.length c0, .slice A1 l1.length c1] w fun e w' => e = .returned (.bool r) ∧ Drawn0 w w' := by
 have HR0 := aM hr0
 have HC0 := aM hc0
 clear hr0 hc0
 have HR1 := aM hr1
 have HC1 := aM hc1
 clear hr1 hc1
 have H : (if (l0.length : Int) = (l1.length : Int) then (spec_l1Same.l0 k l0 l1 (l0.length : Int) 0) else (some false)) = some r := h
 clear h
 by_cases c3 : (l0.length : Int) = (l1.length : Int)
 ·rw [if_pos c3] at H
  have c3b0 : ((l0.length : Int) == (l1.length : Int)) = true := beq_iff_eq.mpr c3
  have c3b1 : ((l0.length : Int) != (l1.length : Int)) = false := bne_eq_false_iff_eq.mpr c3
  have c3b2 : (l0.length == l1.length) = true := by first | simpa using c3 | (simp at c3 ⊢; omega)
  clear c3
  have H' := aM H
  clear H
  go_enter Tryd.func75, Tryd.ntmps75
  go_wp2
  repeat (go_quiet (fail); try go_wp2)
  go_loopg [13] k (fun kq v13 w' => ∃ (x13_1 : Int), v13 = .int .i64 x13_1 ∧ Aside0 (spec_l1Same.l0 kq l0 l1 (l0.length : Int) x13_1 = some r) ∧ Aside0 (kq ≤ k) ∧ Drawn0 w w')
  case atStart => exact ⟨(0), (by first | rfl | (simp; done) | (simp [*]; done)), H', ⟨Nat.le_refl _⟩, by repeat (first | exact Drawn0.refl _ | apply Drawn0.step)⟩
  case round =>
   clear H'
   try clear c1
   try clear p2
   try clear c3
   try clear c3b0
   try clear c3b1
   try clear c3b2
   obtain ⟨x13_1, rfl, HA, HK1, ⟨m1, rfl⟩⟩ := hrel
   cases gk with
   | zero => exact absurd HA.out (by simp [spec_l1Same.l0])
   | succ k1 =>
    have H := HA.out
    clear HA
    simp only [spec_l1Same.l0] at H
    by_cases c4 : x13_1 < (l0.length : Int)
    ·rw [if_pos c4] at H
     have c4b0 : decide (x13_1 < (l0.length : Int)) = true := decide_eq_true c4
     clear c4
     by_cases c5 : 0 ≤ x13_1
     ·rw [if_pos c5] at H
      have c5b0 : decide (0 ≤ x13_1) = true := decide_eq_true c5
      clear c5
      by_cases c6 : x13_1 < (l0.length : Int)
      ·rw [if_pos c6] at H
       have c6b0 : decide (x13_1 < (l0.length : Int)) = true := decide_eq_true c6
       clear c6
       by_cases c7 : x13_1 < (l1.length : Int)
       ·rw [if_pos c7] at H
        have c7b0 : decide (x13_1 < (l1.length : Int)) = true := decide_eq_true c7
        clear c7
        by_cases c8 : (rd l0 x13_1) = (rd l1 x13_1)
        ·rw [if_pos c8] at H
         have c8b0 : ((rd l0 x13_1) == (rd l1 x13_1)) = true := beq_iff_eq.mpr c8
         have c8b1 : ((rd l0 x13_1) != (rd l1 x13_1)) = false := bne_eq_false_iff_eq.mpr c8
         clear c8
         have H' := aM H
         clear H
         have p250 : 0 ≤ (x13_1 : Int) := odt
         have q250 : x13_1 < (l0.length : Int) := odt
         obtain ⟨ad250, e250, hx250_0⟩ := Kd.at_int HR0.out x13_1 p250 q250
         cases e250
         replace p250 := eq_true p250
         replace q250 := eq_true q250
         have p251 : 0 ≤ (x13_1 : Int) := odt
         have q251 : x13_1 < (l1.length : Int) := odt
         obtain ⟨ad251, e251, hx251_0⟩ := Kd.at_int HR1.out x13_1 p251 q251
         cases e251
         replace p251 := eq_true p251
         replace q251 := eq_true q251
         go_wp2
         repeat (go_quiet (fail); try go_wp2)
         go_roundg k1
         case measure => have := HK1.out; omega
         case rel => exact ⟨(wrap64 (x13_1 + 1)), (by first | rfl | (simp; done) | (simp [*]; done)), H', ⟨by have := HK1.out; omega⟩, by repeat (first | exact Drawn0.refl _ | apply Drawn0.step)⟩
        ·rw [if_neg c8] at H
         have c8b0 : ((rd l0 x13_1) == (rd l1 x13_1)) = false := beq_eq_false_iff_ne.mpr c8
         have c8b1 : ((rd l0 x13_1) != (rd l1 x13_1)) = true := bne_iff_ne.mpr c8
         obtain rfl := Option.some.inj H
         have p250 : 0 ≤ (x13_1 : Int) := odt
         have q250 : x13_1 < (l0.length : Int) := odt
         obtain ⟨ad250, e250, hx250_0⟩ := Kd.at_int HR0.out x13_1 p250 q250
         cases e250
         replace p250 := eq_true p250
         replace q250 := eq_true q250
         have p251 : 0 ≤ (x13_1 : Int) := odt
         have q251 : x13_1 < (l1.length : Int) := odt
         obtain ⟨ad251, e251, hx251_0⟩ := Kd.at_int HR1.out x13_1 p251 q251
         cases e251
         replace p251 := eq_true p251
         replace q251 := eq_true q251
         go_wp2
         repeat (go_quiet (fail); try go_wp2)
         go_ret
         exact ⟨by first | rfl | (simp; done) | (simp [*]; done), by repeat (first | exact Drawn0.refl _ | apply Drawn0.step)⟩
       ·rw [if_neg c7] at H
        exact absurd H (by simp)
      ·rw [if_neg c6] at H
       exact absurd H (by simp)
     ·rw [if_neg c5] at H
      exact absurd H (by simp)
    ·rw [if_neg c4] at H
     have c4b0 : decide (x13_1 < (l0.length : Int)) = false := decide_eq_false c4
     clear c4
     obtain rfl := Option.some.inj H
     go_wp2
     repeat (go_quiet (fail); try go_wp2)
     go_ret
     exact ⟨by first | rfl | (simp; done) | (simp [*]; done), by repeat (first | exact Drawn0.refl _ | apply Drawn0.step)⟩
 ·rw [if_neg c3] at H
  have c3b0 : ((l0.length : Int) == (l1.length : Int)) = false := beq_eq_false_iff_ne.mpr c3
  have c3b1 : ((l0.length : Int) != (l1.length : Int)) = true := bne_iff_ne.mpr c3
  have c3b2 : (l0.length == l1.length) = false := by first | simpa using c3 | (simp at c3 ⊢; omega)
  obtain rfl := Option.some.inj H
  go_enter Tryd.func75, Tryd.ntmps75
  go_wp2
  repeat (go_quiet (fail); try go_wp2)
  go_ret
  exact ⟨by first | rfl | (simp; done) | (simp [*]; done), by repeat (first | exact Drawn0.refl _ | apply Drawn0.step)⟩

end Go.Proofs.YtcodionjhcmfhaaDoor.Al
