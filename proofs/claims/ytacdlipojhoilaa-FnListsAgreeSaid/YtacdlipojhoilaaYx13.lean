-- Written by hook.py, a program of this session (wip/), which runs the kit's print.py with its own parts; Lean checks it.
import Derived.Test.YtacdlipojhoilaaYx0
import Derived.Test.YtacdlipojhoilaaYx12
import Derived.Test.YtacdlipojhoilaaYxXSq
namespace Go.Proofs.Ytacdlipojhoilaa.Yx
open Go.RowKit Go.Proofs.YtacdlipojhoilaaW.PrintWords Go.Proofs.YtacdlipojhoilaaW.PrintLast Go.Proofs.YtacdlipojhoilaaW.PrintMore Go.Proofs.Ytacdlipojhoilaa.Sq
attribute [local go_sem] max2_int min2_int max_two min_two max_three min_three max_four min_four   -- for this text's walks alone
set_option linter.unusedVariables false
set_option linter.unusedSimpArgs false

def spec_stPlaces.l0 : Nat → List Int → List Int → Int → List (List Int) → Int → Int → List (List Int) → Option (List Int × List Int)
 | 0, _, _, _, _, _, _, _ => none
 | k + 1, x4, x5, x6, x10, x11, x12, x256000 => if x12 < x11 then (if 0 ≤ x12 then (if x12 < (x10.length : Int) then (if x4.length < 17592186044416 then ((spec_maTotal.f k (rd_L2 x10 x12)).bind fun t260 => (if x5.length < 17592186044416 then ((spec_maColumn.f k x256000 x12).bind fun t264 => ((spec_maTotal.f k t264).bind fun t267 => (spec_stPlaces.l0 k (x4 ++ [x6]) (x5 ++ [wrap64 (x6 + t260)]) (wrap64 ((wrap64 (x6 + t260)) + t267)) x10 x11 (wrap64 (x12 + 1)) x256000))) else (none))) else (none)) else (none)) else (none)) else (some (x4, x5))
def spec_stPlaces.f (k : Nat) (l0_0 : List (List Int)) : Option (List Int × List Int) := spec_stPlaces.l0 k ([] : List Int) ([] : List Int) 0 l0_0 (l0_0.length : Int) 0 l0_0
theorem spec_stPlaces.mono_l : ∀ k, (∀ y0 y1 y2 y3 y4 y5 y6, LeO (spec_stPlaces.l0 k y0 y1 y2 y3 y4 y5 y6) (spec_stPlaces.l0 (k + 1) y0 y1 y2 y3 y4 y5 y6))
 | 0 => fun _ _ _ _ _ _ _ r h => by simp [spec_stPlaces.l0] at h
 | k + 1 => by
  have ih0 := spec_stPlaces.mono_l k
  ·intro y0 y1 y2 y3 y4 y5 y6
   unfold spec_stPlaces.l0
   repeat' first | with_reducible first | exact ih0 _ _ _ _ _ _ _ | exact spec_maColumn.mono _ _ _ | exact spec_maTotal.mono _ _ | exact LeO.refl _ | exact LeO.none _ | refine LeO.ite ?_ ?_ | refine LeO.bind ?_ (fun _ => ?_)
theorem spec_stPlaces.mono : ∀ a0 k, LeO (spec_stPlaces.f k a0) (spec_stPlaces.f (k + 1) a0) := by
 intro a0 k
 have ih0 := spec_stPlaces.mono_l k
 unfold spec_stPlaces.f
 repeat' first | with_reducible first | exact ih0 _ _ _ _ _ _ _ | exact spec_maColumn.mono _ _ _ | exact spec_maTotal.mono _ _ | exact LeO.refl _ | exact LeO.none _ | refine LeO.ite ?_ ?_ | refine LeO.bind ?_ (fun _ => ?_)
set_option maxHeartbeats 8000000 in
set_option maxRecDepth 100000 in
theorem spec_stPlaces.calls (k : Nat) (A0_0 : Option Addr) (c0_0 : Nat) (l0_0 : List (List Int)) (r1 : List Int) (r2 : List Int) (w : World) (hr0_0 : Kd.C (Kd.slice 3 (Kd.int .i64)) w A0_0 l0_0.length l0_0) (hc0_0 : l0_0.length ≤ c0_0) (h : spec_stPlaces.f k l0_0 = some (r1, r2)) :
  Calls Try.prog 131 #[.agg #[.slice A0_0 l0_0.length c0_0]] w fun e w' => ∃ v0_ v1_ : Value, e = .returned (.tuple #[v0_, v1_]) ∧ Kd.R (Kd.int .i64) 3 w' w.heap.size (fun k_ => some k_ ≠ (v1_ : Value).ownBlock) v0_ r1 ∧ Kd.R (Kd.int .i64) 3 w' w.heap.size (fun k_ => some k_ ≠ (v0_ : Value).ownBlock) v1_ r2 ∧ Below w.heap.size w w' := by
 have hu36 := Try.underlying36
 have HR0_0 := aM hr0_0
 have HC0_0 := aM hc0_0
 clear hr0_0 hc0_0
 have HB := aM (Below.refl w.heap.size w)
 have H : (spec_stPlaces.l0 k ([] : List Int) ([] : List Int) 0 l0_0 (l0_0.length : Int) 0 l0_0) = some (r1, r2) := h
 clear h
 have H' := aM H
 clear H
 go_enter Try.func131, Try.ntmps131
 go_wp2_with (first | ((with_reducible refine gate_dst (N := 1) rfl ?_); refine bE 1 36 #[.slice A0_0 l0_0.length c0_0] ?_; intro gb255 hg w2 hbox hb; have _ := aM (below_step bq hb); have _ := aM (hbox); have _ := aM ((gS hg)); have _ := aM ((gS hg)); clear HB; rename_i HB BK255 GW255 GE255; clear hb hbox hg; have hcz3_0 : w2.cell? ⟨gb255, 0, none⟩ = some (.slice A0_0 l0_0.length c0_0) := (blk_cell BK255.out 0).trans rfl; have hfz3_0 := blk_frozen BK255.out 0))
 go_loopg [4, 5, 6, 12] k (fun kq v4 v5 v6 v12 w' => ∃ (x4_1 : List Int) (x5_1 : List Int) (x6_1 : Int) (x12_1 : Int), v6 = .int .i64 x6_1 ∧ v12 = .int .i64 x12_1 ∧ Aside0 (spec_stPlaces.l0 kq x4_1 x5_1 x6_1 l0_0 (l0_0.length : Int) x12_1 l0_0 = some (r1, r2)) ∧ Aside0 (kq ≤ k) ∧ Aside0 (Kd.R (Kd.int .i64) 3 w' w.heap.size (fun k_ => some k_ ≠ (v5 : Value).ownBlock) v4 x4_1) ∧ Aside0 (Kd.R (Kd.int .i64) 3 w' w.heap.size (fun k_ => some k_ ≠ (v4 : Value).ownBlock) v5 x5_1) ∧ Aside0 (w'.heap[gb255]? = some (.cells #[(.slice A0_0 l0_0.length c0_0)] 36 (0, 0))) ∧ Aside0 (Below w.heap.size w w'))
 case atStart => exact ⟨(([] : List Int)), (([] : List Int)), (0), (0), (by first | rfl | (simp; done) | (simp [*]; done)), (by first | rfl | (simp; done) | (simp [*]; done)), H', ⟨Nat.le_refl _⟩, ⟨by first | exact Kd.R_nil _ _ _ _ _ | exact Kd.N_nil _ _ _ _ _ | exact Kd.V_nil _ _ _ _ _ | exact Kd.Q_nil _ _ _ _ _ | exact Kd.S_nil _ _ _ _ _⟩, ⟨by first | exact Kd.R_nil _ _ _ _ _ | exact Kd.N_nil _ _ _ _ _ | exact Kd.V_nil _ _ _ _ _ | exact Kd.Q_nil _ _ _ _ _ | exact Kd.S_nil _ _ _ _ _⟩, ⟨by (with_reducible repeat first|apply qN|apply qD|apply qA); exact BK255.out⟩, ⟨by exact bq⟩⟩
 case round =>
  clear H'
  try clear c1
  try clear p2
  try clear hcz3_0
  try clear hfz3_0
  obtain ⟨x4_1, x5_1, x6_1, x12_1, rfl, rfl, HA, HK1, HO_4, HO_5, BK255, HB⟩ := hrel
  cases gk with
  | zero => exact absurd HA.out (by simp [spec_stPlaces.l0])
  | succ k1 =>
   have H := HA.out
   clear HA
   simp only [spec_stPlaces.l0] at H
   by_cases c4 : x12_1 < (l0_0.length : Int)
   ·rw [if_pos c4] at H
    have c4b0 : decide (x12_1 < (l0_0.length : Int)) = true := decide_eq_true c4
    clear c4
    by_cases c5 : 0 ≤ x12_1
    ·rw [if_pos c5] at H
     have c5b0 : decide (0 ≤ x12_1) = true := decide_eq_true c5
     clear c5
     by_cases c6 : x12_1 < (l0_0.length : Int)
     ·rw [if_pos c6] at H
      have c6b0 : decide (x12_1 < (l0_0.length : Int)) = true := decide_eq_true c6
      clear c6
      by_cases c7 : x4_1.length < 17592186044416
      ·rw [if_pos c7] at H
       have LMc7 := aM c7
       clear c7
       obtain ⟨y257, hy257⟩ : ∃ y_ : List Int, y_ = (x4_1 ++ [x6_1]) := ⟨_, rfl⟩
       replace H : ((spec_maTotal.f k1 (rd_L2 l0_0 x12_1)).bind fun t260 => (if x5_1.length < 17592186044416 then ((spec_maColumn.f k1 l0_0 x12_1).bind fun t264 => ((spec_maTotal.f k1 t264).bind fun t267 => (spec_stPlaces.l0 k1 y257 (x5_1 ++ [wrap64 (x6_1 + t260)]) (wrap64 ((wrap64 (x6_1 + t260)) + t267)) l0_0 (l0_0.length : Int) (wrap64 (x12_1 + 1)) l0_0))) else (none))) = some (r1, r2) := by first | (rw [hy257]; with_reducible exact H) | (have H2_ := (Option.bind_some _ _).symm.trans H; rw [hy257]; with_reducible exact H2_) | (have H2_ := (Option.bind_some _ _).symm.trans H; with_reducible exact H2_) | with_reducible exact H | (rw [hy257]; exact H) | exact H
       have Ny257 := aM hy257
       clear hy257
       replace H := Option.bind_eq_some_iff.mp H
       obtain ⟨t260, A80, H⟩ := H
       replace H : (if x5_1.length < 17592186044416 then ((spec_maColumn.f k1 l0_0 x12_1).bind fun t264 => ((spec_maTotal.f k1 t264).bind fun t267 => (spec_stPlaces.l0 k1 y257 (x5_1 ++ [wrap64 (x6_1 + t260)]) (wrap64 ((wrap64 (x6_1 + t260)) + t267)) l0_0 (l0_0.length : Int) (wrap64 (x12_1 + 1)) l0_0))) else (none)) = some (r1, r2) := H
       have A8 := aM A80
       clear A80
       by_cases c9 : x5_1.length < 17592186044416
       ·rw [if_pos c9] at H
        have LMc9 := aM c9
        clear c9
        obtain ⟨y261, hy261⟩ : ∃ y_ : List Int, y_ = (x5_1 ++ [wrap64 (x6_1 + t260)]) := ⟨_, rfl⟩
        replace H : ((spec_maColumn.f k1 l0_0 x12_1).bind fun t264 => ((spec_maTotal.f k1 t264).bind fun t267 => (spec_stPlaces.l0 k1 y257 y261 (wrap64 ((wrap64 (x6_1 + t260)) + t267)) l0_0 (l0_0.length : Int) (wrap64 (x12_1 + 1)) l0_0))) = some (r1, r2) := by first | (rw [hy261]; with_reducible exact H) | (have H2_ := (Option.bind_some _ _).symm.trans H; rw [hy261]; with_reducible exact H2_) | (have H2_ := (Option.bind_some _ _).symm.trans H; with_reducible exact H2_) | with_reducible exact H | (rw [hy261]; exact H) | exact H
        have Ny261 := aM hy261
        clear hy261
        replace H := Option.bind_eq_some_iff.mp H
        obtain ⟨t264, A100, H⟩ := H
        replace H : ((spec_maTotal.f k1 t264).bind fun t267 => (spec_stPlaces.l0 k1 y257 y261 (wrap64 ((wrap64 (x6_1 + t260)) + t267)) l0_0 (l0_0.length : Int) (wrap64 (x12_1 + 1)) l0_0)) = some (r1, r2) := H
        have A10 := aM A100
        clear A100
        replace H := Option.bind_eq_some_iff.mp H
        obtain ⟨t267, A110, H⟩ := H
        replace H : (spec_stPlaces.l0 k1 y257 y261 (wrap64 ((wrap64 (x6_1 + t260)) + t267)) l0_0 (l0_0.length : Int) (wrap64 (x12_1 + 1)) l0_0) = some (r1, r2) := H
        have A11 := aM A110
        clear A110
        have H' := aM H
        clear H
        have p256 : 0 ≤ (x12_1 : Int) := odt
        have q256 : x12_1 < (l0_0.length : Int) := odt
        obtain ⟨ad256, A256_0, c256_0, e256, hx256_0, hl256_0, hi256_0⟩ := at_L2 HR0_0.out x12_1 p256 q256
        cases e256
        replace hx256_0 := (HB.out.cell (World.block_lt_of_cell? w _ hx256_0)).trans hx256_0
        have HR256_0 := aM hi256_0
        have HC256_0 := aM hl256_0
        clear hi256_0 hl256_0
        replace p256 := eq_true p256
        replace q256 := eq_true q256
        go_wp2_with (first | ((with_reducible refine gate_builtin (b := .append) (xs := #[.tmp 17, .tmp 19]) rfl ?_); at_builtin; refine Kd.R_append (Kd.int .i64) (w0 := w) w.heap.size rfl (.tmp 17) (.tmp 19) 24 3 (.int .i64 0) 8 rfl Try.underlying24 info3 rfl (by decide) (by omega) u4 x4_1 x6_1 [.int .i64 x6_1] (fun k_ => some k_ ≠ (u5 : Value).ownBlock) (fun _ => False) rfl rfl ?aP (fun _ hk => hk.elim) ?aF ?aO ?aB ?aS ?aL ?_; (case aP => exact rfl); (case aB => exact bq); (case aF => exact (fun k_ hk => Kd.fresh' (Kd.R_lt (rQ HO_5)) k_ hk)); (case aO => exact (rQ HO_4)); (case aS => exact (below_size bq)); (case aL => have := LMc7.out; omega); intro v258 w12 ho hb hg hat; rw [← Ny257.out] at ho; have _ := aM (Kd.R_after (ok := (fun _ => True)) (by (with_reducible repeat first|apply rA|apply rN|apply rD); exact Kd.R_mono HO_5.out (fun _ hk => ⟨trivial, hk⟩)) hg hat); have _ := aM (blk_grown (g := gb255) (o := .cells #[.slice (some ad256) l0_0.length c0_0] 36 (0, 0)) (qQ BK255) hg (Kd.R_ne HO_4.out BK255.out (by decide))); have _ := aM (hb); have _ := aM (ho); clear HO_5 BK255 HB HO_4; rename_i HO_5 BK255 HB HO259; clear ho hb hg hat) | ((with_reducible refine gate_callee (f := 146) rfl ?_); refine gL (some 23) Try.func146 #[.slice A256_0 (rd_L2 l0_0 x12_1).length c256_0] ?_; (with_reducible refine (spec_maTotal.calls k1 _ _ (rd_L2 l0_0 x12_1) t260 _ (cQ (Kd.C_below HR256_0.out HB.out)) HC256_0.out A8.out).mono ?_); rintro e w' ⟨rfl, ⟨nd, rfl⟩⟩; refine ⟨_, rfl, ?_⟩) | ((with_reducible refine gate_builtin (b := .append) (xs := #[.tmp 25, .tmp 27]) rfl ?_); at_builtin; refine Kd.R_append (Kd.int .i64) (w0 := w) w.heap.size rfl (.tmp 25) (.tmp 27) 24 3 (.int .i64 0) 8 rfl Try.underlying24 info3 rfl (by decide) (by omega) u5 x5_1 (wrap64 (x6_1 + t260)) [.int .i64 (wrap64 (x6_1 + t260))] (fun k_ => some k_ ≠ (v258 : Value).ownBlock) (fun _ => False) rfl rfl ?aP (fun _ hk => hk.elim) ?aF ?aO ?aB ?aS ?aL ?_; (case aP => exact rfl); (case aB => exact bq); (case aF => exact (fun k_ hk => Kd.fresh' (Kd.R_lt (rQ HO259)) k_ hk)); (case aO => exact (by (with_reducible repeat first|apply rA|apply rN|apply rD); exact Kd.R_mono HO_5.out (fun _ hk => hk.2))); (case aS => exact (below_size bq)); (case aL => have := LMc9.out; omega); intro v262 w13 ho hb hg hat; rw [← Ny261.out] at ho; have _ := aM (blk_grown (g := gb255) (o := .cells #[.slice (some ad256) l0_0.length c0_0] 36 (0, 0)) (qQ BK255) hg (Kd.R_ne HO_5.out BK255.out (by decide))); have _ := aM (Kd.R_after (ok := (fun _ => True)) (by (with_reducible repeat first|apply rA|apply rN|apply rD); exact Kd.R_mono HO259.out (fun _ hk => ⟨trivial, hk⟩)) hg hat); have _ := aM (hb); have _ := aM (ho); clear BK255 HO259 HB HO_5; rename_i BK255 HO259 HB HO263; clear ho hb hg hat; have hcz14_0 : w13.cell? ⟨gb255, 0, none⟩ = some (.slice (some ad256) l0_0.length c0_0) := (blk_cell BK255.out 0).trans rfl; have hfz14_0 := blk_frozen BK255.out 0) | ((with_reducible refine gate_callee (f := 142) rfl ?_); refine gL (some 32) Try.func142 #[.agg #[.slice (some ad256) l0_0.length c0_0], .int .i64 x12_1] ?_; (with_reducible refine (spec_maColumn.calls k1 _ _ l0_0 x12_1 t264 _ (cQ (Kd.C_below HR0_0.out HB.out)) HC0_0.out A10.out).mono ?_); rintro e w15 ⟨v265, rfl, ho0, hb⟩; refine ⟨_, rfl, ?_⟩; have _ := aM (Kd.R_elder' (rQ HO259) (Kd.R_base ho0) hb); have _ := aM (Kd.R_elder' (rQ HO263) (Kd.R_base ho0) hb); have _ := aM (Kd.R_lower (Kd.R_new' (Kd.R_new' ho0 (Kd.R_lt (rQ HO259))) (Kd.R_lt (rQ HO263))) (below_size bq)); have _ := aM (blk_below (g := gb255) (o := .cells #[.slice (some ad256) l0_0.length c0_0] 36 (0, 0)) (qQ BK255) hb); have _ := aM (below_step bq hb); clear HO259 HO263 BK255 HB; rename_i HO259 HO263 HO266 BK255 HB; (try clear hb); (try clear hb2); (try clear hk); (try clear hi); (try clear ho0); obtain ⟨Ao16, co16, eo16⟩ := Kd.R_slice HO266.out; subst eo16) | ((with_reducible refine gate_callee (f := 146) rfl ?_); refine gL (some 33) Try.func146 #[.slice Ao16 t264.length co16] ?_; (with_reducible refine (spec_maTotal.calls k1 _ _ t264 t267 _ (cQ ((Kd.R_reads' HO266.out).2.2)) ((Kd.R_reads' HO266.out).2.1) A11.out).mono ?_); rintro e w' ⟨rfl, ⟨nd, rfl⟩⟩; refine ⟨_, rfl, ?_⟩))
        go_roundg k1
        case measure => have := HK1.out; omega
        case rel => exact ⟨(y257), (y261), (wrap64 ((wrap64 (x6_1 + t260)) + t267)), (wrap64 (x12_1 + 1)), (by first | rfl | (simp; done) | (simp [*]; done)), (by first | rfl | (simp; done) | (simp [*]; done)), H', ⟨by have := HK1.out; omega⟩, ⟨by (with_reducible repeat first|apply rA|apply rN|apply rD); exact Kd.R_mono HO259.out (fun _ hk => hk.1.2)⟩, ⟨by (with_reducible repeat first|apply rA|apply rN|apply rD); exact Kd.R_mono HO263.out (fun _ hk => hk.1)⟩, ⟨by (with_reducible repeat first|apply qN|apply qD|apply qA); exact BK255.out⟩, ⟨by exact bq⟩⟩
       ·rw [if_neg c9] at H
        exact absurd H (by simp)
      ·rw [if_neg c7] at H
       exact absurd H (by simp)
     ·rw [if_neg c6] at H
      exact absurd H (by simp)
    ·rw [if_neg c5] at H
     exact absurd H (by simp)
   ·rw [if_neg c4] at H
    have c4b0 : decide (x12_1 < (l0_0.length : Int)) = false := decide_eq_false c4
    clear c4
    simp only [Option.some.injEq, Prod.mk.injEq] at H
    obtain ⟨rfl, rfl⟩ := H
    go_wp2
    go_ret2
    exact ⟨_, _, by first | rfl | (simp [errW_none, errW_some] <;> rfl) | (simp [*, errW_none, errW_some] <;> rfl), by (with_reducible repeat first|apply rA|apply rN|apply rD); exact HO_4.out, by (with_reducible repeat first|apply rA|apply rN|apply rD); exact HO_5.out, by exact bq⟩

end Go.Proofs.Ytacdlipojhoilaa.Yx
