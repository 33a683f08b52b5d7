-- Written by hook.py, a program of this session (wip/), which runs the kit's print.py with its own parts; Lean checks it.
import Derived.Test.YtcodionjhcmfhaaDoorMo0
import Derived.Test.YtcodionjhcmfhaaDoorMo3
import Derived.Test.YtcodionjhcmfhaaDoorMo5
import Derived.Test.YtcodionjhcmfhaaDoorMo6
import Derived.Test.YtcodionjhcmfhaaDoorMoXSq
namespace Go.Proofs.YtcodionjhcmfhaaDoor.Mo
open Go.RowKit Go.Proofs.YtcodionjhcmfhaaDoorW.PrintWords Go.Proofs.YtcodionjhcmfhaaDoorW.PrintLast Go.Proofs.YtcodionjhcmfhaaDoorW.PrintMore Go.Proofs.YtcodionjhcmfhaaDoor.Sq
attribute [local go_sem] max2_int min2_int max_two min_two max_three min_three max_four min_four   -- for this text's walks alone
set_option linter.unusedVariables false
set_option linter.unusedSimpArgs false

mutual
def spec_maOfOrder.l0 : Nat → List (S76) → Int → Int → List (List Int) → Option ((List (List Int)))
 | 0, _, _, _, _ => none
 | k + 1, x3, x4, x6, x224000 => if x6 < x4 then (if 0 ≤ x4 then (if (x4 : Int).toNat ≤ 35184372088832 then (spec_maOfOrder.l1 k x3 x4 x6 (List.replicate (x4 : Int).toNat 0) x3 (x3.length : Int) 0 x224000) else (none)) else (none)) else (some x224000)
def spec_maOfOrder.l1 : Nat → List (S76) → Int → Int → List Int → List (S76) → Int → Int → List (List Int) → Option ((List (List Int)))
 | 0, _, _, _, _, _, _, _, _ => none
 | k + 1, x3, x4, x6, x7, x24, x25, x26, x224000 => if x26 < x25 then (if 0 ≤ x26 then (if x26 < (x24.length : Int) then (if ((rd_T76 x24 x26).f0) = x6 then (if 0 ≤ ((rd_T76 x24 x26).f1) then (if ((rd_T76 x24 x26).f1) < (x7.length : Int) then (spec_maOfOrder.l1 k x3 x4 x6 (x7.set (((rd_T76 x24 x26).f1) : Int).toNat (wrap64 ((rd x7 ((rd_T76 x24 x26).f1)) + 1))) x24 x25 (wrap64 (x26 + 1)) x224000) else (none)) else (none)) else (spec_maOfOrder.l1 k x3 x4 x6 x7 x24 x25 (wrap64 (x26 + 1)) x224000)) else (none)) else (none)) else (if x224000.length < 5864062014805 then (spec_maOfOrder.l0 k x3 x4 (wrap64 (x6 + 1)) (x224000 ++ [x7])) else (none))
end
def spec_maOfOrder.f (k : Nat) (a0_0 : Int) (l0_1 : List Int) : Option ((List (List Int))) := (spec_ivEnds.f k a0_0 l0_1).bind fun t216 => ((spec_ivLevels.f k a0_0 l0_1).bind fun t219 => ((spec_ivMost.f k t219).bind fun t222 => (spec_maOfOrder.l0 k t216 (wrap64 (t222 + 1)) 0 ([] : List (List Int)))))
set_option maxHeartbeats 8000000 in
set_option maxRecDepth 100000 in
theorem spec_maOfOrder.calls (k : Nat) (a0_0 : Int) (A0_1 : Option Addr) (c0_1 : Nat) (l0_1 : List Int) (r : List (List Int)) (w : World) (hr0_1 : Kd.C (Kd.int .i64) w A0_1 l0_1.length l0_1) (hc0_1 : l0_1.length ≤ c0_1) (h : spec_maOfOrder.f k a0_0 l0_1 = some r) :
  Calls Tryd.prog 38 #[.agg #[.int .i64 a0_0, .slice A0_1 l0_1.length c0_1]] w fun e w' => ∃ v0_ : Value, e = .returned (.agg #[v0_]) ∧ Kd.S (Kd.slice 3 (Kd.int .i64)) 22 w' w.heap.size (fun _ => True) v0_ r ∧ Below w.heap.size w w' := by
 have hu31 := Tryd.underlying31
 have hu28 := Tryd.underlying28
 have hu76 := Tryd.underlying76
 have HR0_1 := aM hr0_1
 have HC0_1 := aM hc0_1
 clear hr0_1 hc0_1
 have HB := aM (Below.refl w.heap.size w)
 have H : ((spec_ivEnds.f k a0_0 l0_1).bind fun t216 => ((spec_ivLevels.f k a0_0 l0_1).bind fun t219 => ((spec_ivMost.f k t219).bind fun t222 => (spec_maOfOrder.l0 k t216 (wrap64 (t222 + 1)) 0 ([] : List (List Int)))))) = some r := h
 clear h
 replace H := bS H
 obtain ⟨t216, A2, H⟩ := H
 try dsimp only at H
 replace H := bS H
 obtain ⟨t219, A3, H⟩ := H
 try dsimp only at H
 replace H := bS H
 obtain ⟨t222, A4, H⟩ := H
 try dsimp only at H
 have H' := aM H
 clear H
 go_enter Tryd.func38, Tryd.ntmps38
 go_wp2_with (first | ((with_reducible refine gate_dst (N := 1) rfl ?_); refine bE 1 31 #[.int .i64 a0_0, .slice A0_1 l0_1.length c0_1] ?_; intro gb214 hg w5 hbox hb; have _ := aM (below_step bq hb); have _ := aM (hbox); have _ := aM ((gS hg)); have _ := aM ((gS hg)); clear HB; rename_i HB BK214 GW214 GE214; clear hb hbox hg) | ((with_reducible refine gate_dst (N := 2) rfl ?_); refine bE 2 28 #[.slice none 0 0] ?_; intro gb215 hg w6 hbox hb; have _ := aM (blk_below (qQ BK214) hb); have _ := aM (below_step bq hb); have _ := aM (hbox); have _ := aM ((gS hg)); have _ := aM ((gS hg)); have _ := aM ((by rw [hg]; exact Nat.ne_of_lt (blk_lt (g := gb214) (o := .cells #[.int .i64 a0_0, .slice A0_1 l0_1.length c0_1] 31 (0, 0)) (qQ BK214)) : gb214 ≠ gb215)); have _ := aM ((by rw [hg]; exact Nat.ne_of_gt (blk_lt (g := gb214) (o := .cells #[.int .i64 a0_0, .slice A0_1 l0_1.length c0_1] 31 (0, 0)) (qQ BK214)) : gb215 ≠ gb214)); clear BK214 HB; rename_i BK214 HB BK215 GW215 GE215 NB214_215 NB215_214; clear hb hbox hg; have hnb7 := NB214_215.out; have hnc7 := NB215_214.out; have hcz8_0 := zc20 BK214; have hcz8_1 := zc21 BK214; have hfz8_0 := blk_frozen BK214.out 0; have hfz8_1 := blk_frozen BK214.out 1) | ((with_reducible refine gate_callee (f := 65) rfl ?_); refine gL (some 11) Tryd.func65 #[.agg #[.int .i64 a0_0, .slice A0_1 l0_1.length c0_1]] ?_; (with_reducible refine (spec_ivEnds.calls k a0_0 _ _ l0_1 t216 _ (cQ (Kd.C_below HR0_1.out HB.out)) HC0_1.out A2.out).mono ?_); rintro e w9 ⟨v217, rfl, ho0, hb⟩; refine ⟨_, rfl, ?_⟩; have _ := aM (Kd.R_lower ho0 (below_size bq)); have _ := aM (blk_below (qQ BK214) hb); have _ := aM (blk_below (qQ BK215) hb); have _ := aM (below_step bq hb); clear BK214 BK215 HB; rename_i HO218 BK214 BK215 HB; (try clear hb); (try clear hb2); (try clear hk); (try clear hi); (try clear ho0); have hcz10_0 := zc20 BK214; have hcz10_1 := zc21 BK214; have hfz10_0 := blk_frozen BK214.out 0; have hfz10_1 := blk_frozen BK214.out 1) | ((with_reducible refine gate_callee (f := 67) rfl ?_); refine gL (some 13) Tryd.func67 #[.agg #[.int .i64 a0_0, .slice A0_1 l0_1.length c0_1]] ?_; (with_reducible refine (spec_ivLevels.calls k a0_0 _ _ l0_1 t219 _ (cQ (Kd.C_below HR0_1.out HB.out)) HC0_1.out A3.out).mono ?_); rintro e w11 ⟨v220, rfl, ho0, hb⟩; refine ⟨_, rfl, ?_⟩; have _ := aM (Kd.R_below (rQ HO218) hb); have _ := aM (Kd.R_lower ho0 (below_size bq)); have _ := aM (blk_below (qQ BK214) hb); have _ := aM (blk_below (qQ BK215) hb); have _ := aM (below_step bq hb); clear HO218 BK214 BK215 HB; rename_i HO218 HO221 BK214 BK215 HB; (try clear hb); (try clear hb2); (try clear hk); (try clear hi); (try clear ho0); obtain ⟨Ao12, co12, eo12⟩ := Kd.R_slice HO221.out; subst eo12) | ((with_reducible refine gate_callee (f := 66) rfl ?_); refine gL (some 14) Tryd.func66 #[.slice Ao12 t219.length co12] ?_; (with_reducible refine (spec_ivMost.calls k _ _ t219 t222 _ (cQ ((Kd.R_reads' HO221.out).2.2)) ((Kd.R_reads' HO221.out).2.1) A4.out).mono ?_); rintro e w' ⟨rfl, ⟨nd, rfl⟩⟩; refine ⟨_, rfl, ?_⟩; (try (rw [drewN_self w11]; generalize hq_ : World.drewN w11 _ = w11; have _ : Aside0 (Kd.R k76 76 w11 w.heap.size (fun _ => True) v217 t216) := ⟨by rw [← hq_]; exact (rQ HO218)⟩; have _ : Aside0 (Kd.R (Kd.int .i64) 3 w11 w.heap.size (fun _ => True) (.slice Ao12 t219.length co12) t219) := ⟨by rw [← hq_]; exact (rQ HO221)⟩; have _ : Aside0 (w11.heap[gb214]? = some (.cells #[.int .i64 a0_0, .slice A0_1 l0_1.length c0_1] 31 (0, 0))) := ⟨by rw [← hq_]; exact (qQ BK214)⟩; have _ : Aside0 (w11.heap[gb215]? = some (.cells #[.slice none 0 0] 28 (0, 0))) := ⟨by rw [← hq_]; exact (qQ BK215)⟩; have _ : Aside0 (Below w.heap.size w w11) := ⟨by rw [← hq_]; exact bq⟩; clear HO218 HO221 BK214 BK215 HB hq_; rename_i HO218 HO221 BK214 BK215 HB))) | ((with_reducible refine gate_dst (N := 5) rfl ?_); refine bE 5 28 #[.slice none 0 0] ?_; intro gb223 hg w13 hbox hb; have _ := aM (Kd.R_below (rQ HO218) hb); have _ := aM (Kd.R_below (rQ HO221) hb); have _ := aM (blk_below (qQ BK214) hb); have _ := aM (blk_below (qQ BK215) hb); have _ := aM (below_step bq hb); have _ := aM (hbox); have _ := aM ((gS hg)); have _ := aM ((gS hg)); have _ := aM ((by rw [hg]; exact Nat.ne_of_lt (blk_lt (g := gb214) (o := .cells #[.int .i64 a0_0, .slice A0_1 l0_1.length c0_1] 31 (0, 0)) (qQ BK214)) : gb214 ≠ gb223)); have _ := aM ((by rw [hg]; exact Nat.ne_of_gt (blk_lt (g := gb214) (o := .cells #[.int .i64 a0_0, .slice A0_1 l0_1.length c0_1] 31 (0, 0)) (qQ BK214)) : gb223 ≠ gb214)); have _ := aM ((by rw [hg]; exact Nat.ne_of_lt (blk_lt (g := gb215) (o := .cells #[.slice none 0 0] 28 (0, 0)) (qQ BK215)) : gb215 ≠ gb223)); have _ := aM ((by rw [hg]; exact Nat.ne_of_gt (blk_lt (g := gb215) (o := .cells #[.slice none 0 0] 28 (0, 0)) (qQ BK215)) : gb223 ≠ gb215)); clear HO218 HO221 BK214 BK215 HB; rename_i HO218 HO221 BK214 BK215 HB BK223 GW223 GE223 NB214_223 NB223_214 NB215_223 NB223_215; clear hb hbox hg; have hnb14 := NB223_214.out; have hnc14 := NB214_223.out; have hnb15 := NB223_215.out; have hnc15 := NB215_223.out; have hcz16_0 := zc10 BK223; have hfz16_0 := blk_frozen BK223.out 0))
 go_loopg [6] k (fun kq v6 w' => ∃ (x6_1 : Int) (x224000_1 : List (List Int)) (u224000 : Value), v6 = .int .i64 x6_1 ∧ Aside0 (spec_maOfOrder.l0 kq t216 (wrap64 (t222 + 1)) x6_1 x224000_1 = some r) ∧ Aside0 (kq ≤ k) ∧ Aside0 (Kd.R k76 76 w' w.heap.size (fun _ => True) v217 t216) ∧ Aside0 (Kd.S (Kd.slice 3 (Kd.int .i64)) 22 w' w.heap.size (fun _ => True) u224000 x224000_1) ∧ Aside0 (w'.heap[gb214]? = some (.cells #[.int .i64 a0_0, (.slice A0_1 l0_1.length c0_1)] 31 (0, 0))) ∧ Aside0 (w'.heap[gb215]? = some (.cells #[(.slice none 0 0)] 28 (0, 0))) ∧ Aside0 (w'.heap[gb223]? = some (.cells #[u224000] 28 (0, 0))) ∧ Aside0 (Below w.heap.size w w'))
 case atStart => exact ⟨(0), (([] : List (List Int))), (.slice none 0 0), eR, H', ⟨Nat.le_refl _⟩, ⟨by (with_reducible repeat first|apply rA|apply rN|apply rD); exact Kd.R_mono (Kd.R_far (p := ⟨gb223, 0, none⟩) (Kd.R_types HO218.out BK223.out (by decide)) (fun _ hk => hk.2) (.slice none 0 0)) (fun _ hk => trivial)⟩, ⟨by first | exact Kd.S_nil _ _ _ _ _ | exact Kd.N_nil _ _ _ _ _ | exact Kd.V_nil _ _ _ _ _ | exact Kd.Q_nil _ _ _ _ _ | exact Kd.R_nil _ _ _ _ _⟩, ⟨by (with_reducible repeat first|apply qN|apply qD|apply qA); refine blk_far ?_ NB214_223.out _; (with_reducible repeat first|apply qN|apply qD|apply qA); exact BK214.out⟩, ⟨by (with_reducible repeat first|apply qN|apply qD|apply qA); refine blk_far ?_ NB215_223.out _; (with_reducible repeat first|apply qN|apply qD|apply qA); exact BK215.out⟩, ⟨by (with_reducible repeat first|apply qN|apply qD|apply qA); refine blk_put (cs := #[.slice none 0 0]) ?_ 0 _ rfl; (with_reducible repeat first|apply qN|apply qD|apply qA); exact BK223.out⟩, ⟨bq⟩⟩
 case round =>
  clear H'
  try clear c1
  try clear p2
  try clear c3
  try clear c6
  try clear p6
  try clear c7
  try clear c14
  try clear c15
  try clear hcz10_0
  try clear hcz10_1
  try clear hcz16_0
  try clear hcz8_0
  try clear hcz8_1
  try clear hfz10_0
  try clear hfz10_1
  try clear hfz16_0
  try clear hfz8_0
  try clear hfz8_1
  obtain ⟨x6_1, x224000_1, u224000, rfl, HA, HK1, HO_3, HO_224000, BK214, BK215, BK223, HB⟩ := hrel
  cases gk with
  | zero => exact absurd HA.out (by simp [spec_maOfOrder.l0])
  | succ k1 =>
   have H := HA.out
   clear HA
   simp only [spec_maOfOrder.l0] at H
   by_cases c17 : x6_1 < (wrap64 (t222 + 1))
   ·rw [if_pos c17] at H
    have c17b0 := decide_eq_true c17
    clear c17
    obtain ⟨ji18, hji18⟩ : ∃ j_ : Int, (wrap64 (t222 + 1)) = j_ := ⟨_, rfl⟩
    replace H : (if 0 ≤ (ji18) then (if ((ji18) : Int).toNat ≤ 35184372088832 then (spec_maOfOrder.l1 k1 t216 (ji18) x6_1 (List.replicate ((ji18) : Int).toNat 0) t216 (t216.length : Int) 0 x224000_1) else (none)) else (none)) = some r := by first | (rw [hji18] at H; exact H) | (simp only [hji18] at H ⊢; exact H)
    (try rw [hji18] at c17b0)
    have hji18w : (IntKind.i64.wrap (t222 + 1)) = ji18 := (i64_w _).trans hji18
    replace H := iS H
    obtain ⟨c19, H⟩ := H
    have c19b0 := eq_true c19
    have c19b1 := decide_eq_true c19
    clear c19
    replace H := iS H
    obtain ⟨c20, H⟩ := H
    have c20b0 := eq_true c20
    have c20b1 := decide_eq_true c20
    clear c20
    obtain ⟨y224, hy224⟩ : ∃ y_ : List Int, y_ = (List.replicate ((ji18) : Int).toNat 0) := ⟨_, rfl⟩
    replace H : (spec_maOfOrder.l1 k1 t216 (ji18) x6_1 y224 t216 (t216.length : Int) 0 x224000_1) = some r := by first | (rw [hy224]; with_reducible exact H) | (have H2_ := (Option.bind_some _ _).symm.trans H; rw [hy224]; with_reducible exact H2_) | (have H2_ := (Option.bind_some _ _).symm.trans H; with_reducible exact H2_) | with_reducible exact H | (rw [hy224]; exact H) | exact H
    have Ny224 := aM hy224
    clear hy224
    have H' := aM H
    clear H
    go_wp2_with (first | ((with_reducible refine gate_dst (N := 23) rfl ?_); (try rw [hji18]); refine Kd.R_make (Kd.int .i64) _ 3 rfl (N := 23) rfl 22 _ _ rfl (ji18) rfl rfl Tryd.underlying22 (.int .i64 0) 8 info3 rfl (by decide) (by omega) 0 (ok := fun _ => True) (okp := fun _ => True) rfl (fun _ hk => hk) trivial (odt) (Nat.le_trans (Nat.mul_le_mul_right _ (odt : (ji18).toNat ≤ 35184372088832)) (by omega)) (Below.refl _ _) (Nat.le_refl _) ?_; intro v225 w21 ho22 hb hg_ hnew_; clear hg_ hnew_; (first | rw [← Ny224.out] at ho22 | (simp only [Int.reduceToNat] at ho22; rw [← Ny224.out] at ho22)); have _ := aM (Kd.R_below (rQ HO_3) hb); have _ := aM (Kd.S_elder' (sQ HO_224000) (Kd.R_base ho22) hb); have _ := aM (Kd.R_lower ho22 (below_size bq)); have _ := aM (blk_below (qQ BK214) hb); have _ := aM (blk_below (qQ BK215) hb); have _ := aM (blk_below (qQ BK223) hb); have _ := aM (below_step bq hb); clear HO_3 HO_224000 BK214 BK215 BK223 HB; rename_i HO_3 HO_224000 HO226 BK214 BK215 BK223 HB; clear hb ho22; obtain ⟨Ao23, co23, eo23⟩ := Kd.R_slice HO_3.out; subst eo23))
    go_loopg [26] k1 (fun kq v26 w' => ∃ (x7_2 : List Int) (x26_2 : Int), v26 = .int .i64 x26_2 ∧ Aside0 (spec_maOfOrder.l1 kq t216 (ji18) x6_1 x7_2 t216 (t216.length : Int) x26_2 x224000_1 = some r) ∧ Aside0 (kq ≤ k1) ∧ Aside0 (Kd.R k76 76 w' w.heap.size (fun _ => True) (.slice Ao23 t216.length co23) t216) ∧ Aside0 (Kd.R (Kd.int .i64) 3 w' w.heap.size (fun _ => True) v225 x7_2) ∧ Aside0 (Kd.R k76 76 w' w.heap.size (fun _ => True) (.slice Ao23 t216.length co23) t216) ∧ Aside0 (Kd.S (Kd.slice 3 (Kd.int .i64)) 22 w' w.heap.size (fun k_ => some k_ ≠ (v225 : Value).ownBlock) u224000 x224000_1) ∧ Aside0 (w'.heap[gb214]? = some (.cells #[.int .i64 a0_0, (.slice A0_1 l0_1.length c0_1)] 31 (0, 0))) ∧ Aside0 (w'.heap[gb215]? = some (.cells #[(.slice none 0 0)] 28 (0, 0))) ∧ Aside0 (w'.heap[gb223]? = some (.cells #[u224000] 28 (0, 0))) ∧ Aside0 (Below w.heap.size w w'))
    case atStart => exact ⟨(y224), (0), eR, H', ⟨Nat.le_refl _⟩, ⟨rQ HO_3⟩, ⟨rQ HO226⟩, ⟨rQ HO_3⟩, ⟨by (with_reducible repeat first|apply sA|apply sN|apply sD); exact Kd.S_mono HO_224000.out (fun _ hk => hk.2)⟩, ⟨qQ BK214⟩, ⟨qQ BK215⟩, ⟨qQ BK223⟩, ⟨bq⟩⟩
    case round =>
     clear H'
     try clear c1
     try clear c2
     try clear p2
     try clear c3
     try clear c6
     try clear p6
     try clear c7
     try clear c14
     try clear c15
     try clear c17
     try clear c17b0
     try clear c19
     try clear c19b0
     try clear c19b1
     try clear c20
     try clear c20b0
     try clear c20b1
     try clear hcz10_0
     try clear hcz10_1
     try clear hcz16_0
     try clear hcz8_0
     try clear hcz8_1
     try clear hfz10_0
     try clear hfz10_1
     try clear hfz16_0
     try clear hfz8_0
     try clear hfz8_1
     try clear p2
     try clear p6
     obtain ⟨x7_2, x26_2, rfl, HA, HK2, HO_3, HO_7, HO_24, HO_224000, BK214, BK215, BK223, HB⟩ := hrel
     cases gk with
     | zero => exact absurd HA.out (by simp [spec_maOfOrder.l1])
     | succ k2 =>
      have H := HA.out
      clear HA
      simp only [spec_maOfOrder.l1] at H
      by_cases c24 : x26_2 < (t216.length : Int)
      ·rw [if_pos c24] at H
       have c24b0 := decide_eq_true c24
       clear c24
       replace H := iD2 H
       obtain ⟨c25b0, c26b0, H⟩ := H
       by_cases c27 : ((rd_T76 t216 x26_2).f0) = x6_1
       ·rw [if_pos c27] at H
        have c27b0 : (((rd_T76 t216 x26_2).f0) == x6_1) = true := beq_iff_eq.mpr c27
        have c27b1 : (((rd_T76 t216 x26_2).f0) != x6_1) = false := bne_eq_false_iff_eq.mpr c27
        clear c27
        replace H := iD2 H
        obtain ⟨c28b0, c29b0, H⟩ := H
        obtain ⟨y230, hy230⟩ : ∃ y_ : List Int, y_ = (x7_2.set (((rd_T76 t216 x26_2).f1) : Int).toNat (wrap64 ((rd x7_2 ((rd_T76 t216 x26_2).f1)) + 1))) := ⟨_, rfl⟩
        replace H : (spec_maOfOrder.l1 k2 t216 (ji18) x6_1 y230 t216 (t216.length : Int) (wrap64 (x26_2 + 1)) x224000_1) = some r := by first | (rw [hy230]; with_reducible exact H) | (have H2_ := (Option.bind_some _ _).symm.trans H; rw [hy230]; with_reducible exact H2_) | (have H2_ := (Option.bind_some _ _).symm.trans H; with_reducible exact H2_) | with_reducible exact H | (rw [hy230]; exact H) | exact H
        have Ny230 := aM hy230
        clear hy230
        have H' := aM H
        clear H
        have p227 : 0 ≤ (x26_2 : Int) := odt
        have q227 : x26_2 < (t216.length : Int) := odt
        obtain ⟨ad227, e227, hx227_0, hx227_1⟩ := at_T76 (Kd.R_reads' HO_24.out).2.2 x26_2 p227 q227
        cases e227
        replace p227 := eq_true p227
        replace q227 := eq_true q227
        go_wp2_with (first | ((with_reducible refine gate_dst (N := 9) rfl ?_); refine bE 9 76 #[.int .i64 0, .int .i64 0] ?_; intro gb228 hg w31 hbox hb; have _ := aM (Kd.R_below (Kd.R_elderB (rQ HO_3) gb228 (Nat.le_of_eq hg.symm)) hb); have _ := aM (Kd.R_below (rQ HO_7) hb); have _ := aM (Kd.R_below (Kd.R_elderB (rQ HO_24) gb228 (Nat.le_of_eq hg.symm)) hb); have _ := aM (Kd.S_below (sQ HO_224000) hb); have _ := aM (blk_below (qQ BK214) hb); have _ := aM (blk_below (qQ BK215) hb); have _ := aM (blk_below (qQ BK223) hb); have _ := aM (below_step bq hb); have _ := aM (hbox); have _ := aM ((gS hg)); have _ := aM ((gS hg)); have _ := aM ((by rw [hg]; exact Nat.ne_of_lt (blk_lt (g := gb214) (o := .cells #[.int .i64 a0_0, .slice A0_1 l0_1.length c0_1] 31 (0, 0)) (qQ BK214)) : gb214 ≠ gb228)); have _ := aM ((by rw [hg]; exact Nat.ne_of_gt (blk_lt (g := gb214) (o := .cells #[.int .i64 a0_0, .slice A0_1 l0_1.length c0_1] 31 (0, 0)) (qQ BK214)) : gb228 ≠ gb214)); have _ := aM ((by rw [hg]; exact Nat.ne_of_lt (blk_lt (g := gb215) (o := .cells #[.slice none 0 0] 28 (0, 0)) (qQ BK215)) : gb215 ≠ gb228)); have _ := aM ((by rw [hg]; exact Nat.ne_of_gt (blk_lt (g := gb215) (o := .cells #[.slice none 0 0] 28 (0, 0)) (qQ BK215)) : gb228 ≠ gb215)); have _ := aM ((by rw [hg]; exact Nat.ne_of_lt (blk_lt (g := gb223) (o := .cells #[u224000] 28 (0, 0)) (qQ BK223)) : gb223 ≠ gb228)); have _ := aM ((by rw [hg]; exact Nat.ne_of_gt (blk_lt (g := gb223) (o := .cells #[u224000] 28 (0, 0)) (qQ BK223)) : gb228 ≠ gb223)); clear HO_3 HO_7 HO_24 HO_224000 BK214 BK215 BK223 HB; rename_i HO_3 HO_7 HO_24 HO_224000 BK214 BK215 BK223 HB BK228 GW228 GE228 NB214_228 NB228_214 NB215_228 NB228_215 NB223_228 NB228_223; clear hb hbox hg; have hnb32 := NB228_214.out; have hnc32 := NB214_228.out; have hnb33 := NB228_215.out; have hnc33 := NB215_228.out; have hnb34 := NB228_223.out; have hnc34 := NB223_228.out; have hcz35_0 := zc20 BK228; have hcz35_1 := zc21 BK228; have hfz35_0 := blk_frozen BK228.out 0; have hfz35_1 := blk_frozen BK228.out 1) | ((with_reducible refine gate_store (t := 76) (p := 9) rfl ?_); refine sE ((w31.setCell ⟨gb228, 0, none⟩ (.int .i64 ((rd_T76 t216 x26_2).f0))).setCell ⟨gb228, 1, none⟩ (.int .i64 ((rd_T76 t216 x26_2).f1))) 76 9 ?_; intro w36 hw; have _ : Aside0 (Kd.R k76 76 w36 w.heap.size (fun k_ => k_ ≠ gb228) (.slice (some ad227) t216.length co23) t216) := ⟨(by rw [hw]; exact (by (with_reducible repeat first|apply rA|apply rN|apply rD); exact Kd.R_mono (Kd.R_far (p := ⟨gb228, 1, none⟩) (Kd.R_far (p := ⟨gb228, 0, none⟩) (Kd.R_mono HO_3.out (fun k_ hk => (⟨hk, hk.2⟩ : _ ∧ k_ ≠ gb228))) (fun _ hk => hk.2) (.int .i64 ((rd_T76 t216 x26_2).f0))) (fun _ hk => hk.2) (.int .i64 ((rd_T76 t216 x26_2).f1))) (fun _ hk => hk.1.2)))⟩; have _ : Aside0 (Kd.R (Kd.int .i64) 3 w36 w.heap.size (fun _ => True) v225 x7_2) := ⟨(by rw [hw]; exact (by (with_reducible repeat first|apply rA|apply rN|apply rD); exact Kd.R_mono (Kd.R_far (p := ⟨gb228, 1, none⟩) (Kd.R_far (p := ⟨gb228, 0, none⟩) (Kd.R_types HO_7.out BK228.out (by decide)) (fun _ hk => hk.2) (.int .i64 ((rd_T76 t216 x26_2).f0))) (fun _ hk => hk.2) (.int .i64 ((rd_T76 t216 x26_2).f1))) (fun _ hk => trivial)))⟩; have _ : Aside0 (Kd.R k76 76 w36 w.heap.size (fun k_ => k_ ≠ gb228) (.slice (some ad227) t216.length co23) t216) := ⟨(by rw [hw]; exact (by (with_reducible repeat first|apply rA|apply rN|apply rD); exact Kd.R_mono (Kd.R_far (p := ⟨gb228, 1, none⟩) (Kd.R_far (p := ⟨gb228, 0, none⟩) (Kd.R_mono HO_24.out (fun k_ hk => (⟨hk, hk.2⟩ : _ ∧ k_ ≠ gb228))) (fun _ hk => hk.2) (.int .i64 ((rd_T76 t216 x26_2).f0))) (fun _ hk => hk.2) (.int .i64 ((rd_T76 t216 x26_2).f1))) (fun _ hk => hk.1.2)))⟩; have _ : Aside0 (Kd.S (Kd.slice 3 (Kd.int .i64)) 22 w36 w.heap.size (fun k_ => some k_ ≠ (v225 : Value).ownBlock) u224000 x224000_1) := ⟨(by rw [hw]; exact (by (with_reducible repeat first|apply sA|apply sN|apply sD); exact Kd.S_mono (Kd.S_far (p := ⟨gb228, 1, none⟩) (Kd.S_far (p := ⟨gb228, 0, none⟩) (Kd.S_types HO_224000.out BK228.out (by decide)) (fun _ hk => hk.2) (.int .i64 ((rd_T76 t216 x26_2).f0))) (fun _ hk => hk.2) (.int .i64 ((rd_T76 t216 x26_2).f1))) (fun _ hk => hk.1)))⟩; have _ : Aside0 (w36.heap[gb214]? = some (.cells #[.int .i64 a0_0, .slice A0_1 l0_1.length c0_1] 31 (0, 0))) := ⟨(by rw [hw]; exact (by (with_reducible repeat first|apply qN|apply qD|apply qA); refine blk_far ?_ NB214_228.out _; (with_reducible repeat first|apply qN|apply qD|apply qA); refine blk_far ?_ NB214_228.out _; (with_reducible repeat first|apply qN|apply qD|apply qA); exact BK214.out))⟩; have _ : Aside0 (w36.heap[gb215]? = some (.cells #[.slice none 0 0] 28 (0, 0))) := ⟨(by rw [hw]; exact (by (with_reducible repeat first|apply qN|apply qD|apply qA); refine blk_far ?_ NB215_228.out _; (with_reducible repeat first|apply qN|apply qD|apply qA); refine blk_far ?_ NB215_228.out _; (with_reducible repeat first|apply qN|apply qD|apply qA); exact BK215.out))⟩; have _ : Aside0 (w36.heap[gb223]? = some (.cells #[u224000] 28 (0, 0))) := ⟨(by rw [hw]; exact (by (with_reducible repeat first|apply qN|apply qD|apply qA); refine blk_far ?_ NB223_228.out _; (with_reducible repeat first|apply qN|apply qD|apply qA); refine blk_far ?_ NB223_228.out _; (with_reducible repeat first|apply qN|apply qD|apply qA); exact BK223.out))⟩; have _ : Aside0 (w36.heap[gb228]? = some (.cells #[.int .i64 ((rd_T76 t216 x26_2).f0), .int .i64 ((rd_T76 t216 x26_2).f1)] 76 (0, 0))) := ⟨(by rw [hw]; exact (by (with_reducible repeat first|apply qN|apply qD|apply qA); refine blk_put (cs := #[.int .i64 ((rd_T76 t216 x26_2).f0), .int .i64 0]) ?_ 1 _ rfl; (with_reducible repeat first|apply qN|apply qD|apply qA); refine blk_put (cs := #[.int .i64 0, .int .i64 0]) ?_ 0 _ rfl; (with_reducible repeat first|apply qN|apply qD|apply qA); exact BK228.out))⟩; have _ : Aside0 (Below w.heap.size w w36) := ⟨(by rw [hw]; exact bq)⟩; clear hw HO_3 HO_7 HO_24 HO_224000 BK214 BK215 BK223 BK228 HB; rename_i HO_3 HO_7 HO_24 HO_224000 BK214 BK215 BK223 BK228 HB; have hcz37_0 := zc20 BK228; have hcz37_1 := zc21 BK228; have hfz37_0 := blk_frozen BK228.out 0; have hfz37_1 := blk_frozen BK228.out 1; obtain ⟨Ao38, co38, eo38⟩ := Kd.R_slice HO_7.out; subst eo38; have p229 : 0 ≤ (((rd_T76 t216 x26_2).f1) : Int) := odt; have q229 : ((rd_T76 t216 x26_2).f1) < (x7_2.length : Int) := odt; obtain ⟨ad229, e229, hx229_0⟩ := Kd.at_int (Kd.R_reads' HO_7.out).2.2 ((rd_T76 t216 x26_2).f1) p229 q229; cases e229; replace p229 := eq_true p229; replace q229 := eq_true q229; have p30 : 0 ≤ (((rd_T76 t216 x26_2).f1) : Int) := odt; have q30 : (((rd_T76 t216 x26_2).f1) : Int) < ((x7_2.length : Int) : Int) := odt; obtain ⟨go30, co30, eo30, gb30, gl30, cl30, HG30⟩ := Kd.R_form HO_7.out (by omega); (first | cases eo30 | (injection eo30 with ea_ en_ ec_; (first | subst ea_ | (injection ea_ with ea_; subst ea_)); subst ec_; clear en_)); have GB30 := aM gb30; have GG30 := aM HG30; clear gb30 gl30 HG30; (first | simp only [add_plain] at hx229_0 | skip); obtain ⟨hx30_0, hf30_0⟩ := Kd.R_celln 0 HO_7.out (((rd_T76 t216 x26_2).f1) : Int) p30 q30; replace p30 := eq_true p30; replace q30 := eq_true q30; obtain ⟨hy39_, hz39_⟩ := Kd.R_celln 0 HO_7.out (((rd_T76 t216 x26_2).f1) : Int) (odt) (odt); have HP39 := Kd.R_putg HO_7.out (((rd_T76 t216 x26_2).f1) : Int) (wrap64 ((rd x7_2 ((rd_T76 t216 x26_2).f1)) + 1))) | ((with_reducible refine gate_store (t := 3) (p := 40) rfl ?_); refine sE (w36.setCell ⟨go30, (((rd_T76 t216 x26_2).f1) : Int).toNat, none⟩ (.int .i64 (wrap64 ((rd x7_2 ((rd_T76 t216 x26_2).f1)) + 1)))) 3 40 ?_; intro w40 hw; have hg : w36.grownBy w40 (some go30) := (by rw [hw]; exact HP39.2); have hp_ : Kd.R (Kd.int .i64) 3 w40 w.heap.size (fun _ => True) (.slice (some ⟨go30, 0, none⟩) x7_2.length co38) y230 := (by rw [hw, Ny230.out]; exact HP39.1); clear HP39; have _ := aM (Kd.R_over' (v := (.slice (some ⟨go30, 0, none⟩) x7_2.length co38)) (rQ HO_3) (Kd.R_typed HO_7.out) (by decide) hg); have _ := aM (hp_); have _ := aM (Kd.R_over' (v := (.slice (some ⟨go30, 0, none⟩) x7_2.length co38)) (rQ HO_24) (Kd.R_typed HO_7.out) (by decide) hg); have _ := aM (Kd.S_after (v := (.slice (some ⟨go30, 0, none⟩) x7_2.length co38)) (v1 := (.slice (some ⟨go30, 0, none⟩) x7_2.length co38)) (ok := (fun _ => True)) (by (with_reducible repeat first|apply sA|apply sN|apply sD); exact Kd.S_mono HO_224000.out (fun _ hk => ⟨trivial, hk⟩)) hg (.inl rfl)); have _ := aM (blk_grown (g := gb214) (o := .cells #[.int .i64 a0_0, .slice A0_1 l0_1.length c0_1] 31 (0, 0)) (qQ BK214) hg (Kd.R_ne HO_7.out BK214.out (by decide))); have _ := aM (blk_grown (g := gb215) (o := .cells #[.slice none 0 0] 28 (0, 0)) (qQ BK215) hg (Kd.R_ne HO_7.out BK215.out (by decide))); have _ := aM (blk_grown (g := gb223) (o := .cells #[u224000] 28 (0, 0)) (qQ BK223) hg (Kd.R_ne HO_7.out BK223.out (by decide))); have _ := aM (blk_grown (g := gb228) (o := .cells #[.int .i64 ((rd_T76 t216 x26_2).f0), .int .i64 ((rd_T76 t216 x26_2).f1)] 76 (0, 0)) (qQ BK228) hg (Kd.R_ne HO_7.out BK228.out (by decide))); have _ := aM ((by rw [hw]; exact below_set (HB.out) GB30.out : Below w.heap.size w w40)); clear HO_3 HO_7 HO_24 HO_224000 BK214 BK215 BK223 BK228 HB; rename_i HO_3 HO_7 HO_24 HO_224000 BK214 BK215 BK223 BK228 HB; clear hg hw hp_))
        go_roundg k2
        case measure => have := HK1.out; have := HK2.out; omega
        case rel => exact ⟨(y230), (wrap64 (x26_2 + 1)), eR, H', ⟨by have := HK1.out; have := HK2.out; omega⟩, ⟨by (with_reducible repeat first|apply rA|apply rN|apply rD); exact Kd.R_mono HO_3.out (fun _ hk => trivial)⟩, ⟨rQ HO_7⟩, ⟨by (with_reducible repeat first|apply rA|apply rN|apply rD); exact Kd.R_mono HO_24.out (fun _ hk => trivial)⟩, ⟨by (with_reducible repeat first|apply sA|apply sN|apply sD); exact Kd.S_mono HO_224000.out (fun _ hk => hk.2)⟩, ⟨qQ BK214⟩, ⟨qQ BK215⟩, ⟨qQ BK223⟩, ⟨bq⟩⟩
       ·rw [if_neg c27] at H
        have c27b0 : (((rd_T76 t216 x26_2).f0) == x6_1) = false := beq_eq_false_iff_ne.mpr c27
        have c27b1 : (((rd_T76 t216 x26_2).f0) != x6_1) = true := bne_iff_ne.mpr c27
        have H' := aM H
        clear H
        have p227 : 0 ≤ (x26_2 : Int) := odt
        have q227 : x26_2 < (t216.length : Int) := odt
        obtain ⟨ad227, e227, hx227_0, hx227_1⟩ := at_T76 (Kd.R_reads' HO_24.out).2.2 x26_2 p227 q227
        cases e227
        replace p227 := eq_true p227
        replace q227 := eq_true q227
        go_wp2_with (first | ((with_reducible refine gate_dst (N := 9) rfl ?_); refine bE 9 76 #[.int .i64 0, .int .i64 0] ?_; intro gb228 hg w41 hbox hb; have _ := aM (Kd.R_below (Kd.R_elderB (rQ HO_3) gb228 (Nat.le_of_eq hg.symm)) hb); have _ := aM (Kd.R_below (rQ HO_7) hb); have _ := aM (Kd.R_below (Kd.R_elderB (rQ HO_24) gb228 (Nat.le_of_eq hg.symm)) hb); have _ := aM (Kd.S_below (sQ HO_224000) hb); have _ := aM (blk_below (qQ BK214) hb); have _ := aM (blk_below (qQ BK215) hb); have _ := aM (blk_below (qQ BK223) hb); have _ := aM (below_step bq hb); have _ := aM (hbox); have _ := aM ((gS hg)); have _ := aM ((gS hg)); have _ := aM ((by rw [hg]; exact Nat.ne_of_lt (blk_lt (g := gb214) (o := .cells #[.int .i64 a0_0, .slice A0_1 l0_1.length c0_1] 31 (0, 0)) (qQ BK214)) : gb214 ≠ gb228)); have _ := aM ((by rw [hg]; exact Nat.ne_of_gt (blk_lt (g := gb214) (o := .cells #[.int .i64 a0_0, .slice A0_1 l0_1.length c0_1] 31 (0, 0)) (qQ BK214)) : gb228 ≠ gb214)); have _ := aM ((by rw [hg]; exact Nat.ne_of_lt (blk_lt (g := gb215) (o := .cells #[.slice none 0 0] 28 (0, 0)) (qQ BK215)) : gb215 ≠ gb228)); have _ := aM ((by rw [hg]; exact Nat.ne_of_gt (blk_lt (g := gb215) (o := .cells #[.slice none 0 0] 28 (0, 0)) (qQ BK215)) : gb228 ≠ gb215)); have _ := aM ((by rw [hg]; exact Nat.ne_of_lt (blk_lt (g := gb223) (o := .cells #[u224000] 28 (0, 0)) (qQ BK223)) : gb223 ≠ gb228)); have _ := aM ((by rw [hg]; exact Nat.ne_of_gt (blk_lt (g := gb223) (o := .cells #[u224000] 28 (0, 0)) (qQ BK223)) : gb228 ≠ gb223)); clear HO_3 HO_7 HO_24 HO_224000 BK214 BK215 BK223 HB; rename_i HO_3 HO_7 HO_24 HO_224000 BK214 BK215 BK223 HB BK228 GW228 GE228 NB214_228 NB228_214 NB215_228 NB228_215 NB223_228 NB228_223; clear hb hbox hg; have hnb42 := NB228_214.out; have hnc42 := NB214_228.out; have hnb43 := NB228_215.out; have hnc43 := NB215_228.out; have hnb44 := NB228_223.out; have hnc44 := NB223_228.out; have hcz45_0 := zc20 BK228; have hcz45_1 := zc21 BK228; have hfz45_0 := blk_frozen BK228.out 0; have hfz45_1 := blk_frozen BK228.out 1))
        go_roundg k2
        case measure => have := HK1.out; have := HK2.out; omega
        case rel => exact ⟨(x7_2), (wrap64 (x26_2 + 1)), eR, H', ⟨by have := HK1.out; have := HK2.out; omega⟩, ⟨by (with_reducible repeat first|apply rA|apply rN|apply rD); exact Kd.R_mono (Kd.R_far (p := ⟨gb228, 1, none⟩) (Kd.R_far (p := ⟨gb228, 0, none⟩) (Kd.R_mono HO_3.out (fun k_ hk => (⟨hk, hk.2⟩ : _ ∧ k_ ≠ gb228))) (fun _ hk => hk.2) (.int .i64 ((rd_T76 t216 x26_2).f0))) (fun _ hk => hk.2) (.int .i64 ((rd_T76 t216 x26_2).f1))) (fun _ hk => trivial)⟩, ⟨by (with_reducible repeat first|apply rA|apply rN|apply rD); exact Kd.R_mono (Kd.R_far (p := ⟨gb228, 1, none⟩) (Kd.R_far (p := ⟨gb228, 0, none⟩) (Kd.R_types HO_7.out BK228.out (by decide)) (fun _ hk => hk.2) (.int .i64 ((rd_T76 t216 x26_2).f0))) (fun _ hk => hk.2) (.int .i64 ((rd_T76 t216 x26_2).f1))) (fun _ hk => trivial)⟩, ⟨by (with_reducible repeat first|apply rA|apply rN|apply rD); exact Kd.R_mono (Kd.R_far (p := ⟨gb228, 1, none⟩) (Kd.R_far (p := ⟨gb228, 0, none⟩) (Kd.R_mono HO_24.out (fun k_ hk => (⟨hk, hk.2⟩ : _ ∧ k_ ≠ gb228))) (fun _ hk => hk.2) (.int .i64 ((rd_T76 t216 x26_2).f0))) (fun _ hk => hk.2) (.int .i64 ((rd_T76 t216 x26_2).f1))) (fun _ hk => trivial)⟩, ⟨by (with_reducible repeat first|apply sA|apply sN|apply sD); exact Kd.S_mono (Kd.S_far (p := ⟨gb228, 1, none⟩) (Kd.S_far (p := ⟨gb228, 0, none⟩) (Kd.S_types HO_224000.out BK228.out (by decide)) (fun _ hk => hk.2) (.int .i64 ((rd_T76 t216 x26_2).f0))) (fun _ hk => hk.2) (.int .i64 ((rd_T76 t216 x26_2).f1))) (fun _ hk => hk.1)⟩, ⟨by (with_reducible repeat first|apply qN|apply qD|apply qA); refine blk_far ?_ NB214_228.out _; (with_reducible repeat first|apply qN|apply qD|apply qA); refine blk_far ?_ NB214_228.out _; (with_reducible repeat first|apply qN|apply qD|apply qA); exact BK214.out⟩, ⟨by (with_reducible repeat first|apply qN|apply qD|apply qA); refine blk_far ?_ NB215_228.out _; (with_reducible repeat first|apply qN|apply qD|apply qA); refine blk_far ?_ NB215_228.out _; (with_reducible repeat first|apply qN|apply qD|apply qA); exact BK215.out⟩, ⟨by (with_reducible repeat first|apply qN|apply qD|apply qA); refine blk_far ?_ NB223_228.out _; (with_reducible repeat first|apply qN|apply qD|apply qA); refine blk_far ?_ NB223_228.out _; (with_reducible repeat first|apply qN|apply qD|apply qA); exact BK223.out⟩, ⟨bq⟩⟩
      ·rw [if_neg c24] at H
       have c24b0 := decide_eq_false c24
       clear c24
       replace H := iS H
       obtain ⟨c46, H⟩ := H
       have LMc46 := aM c46
       clear c46
       obtain ⟨y231, hy231⟩ : ∃ y_ : List (List Int), y_ = (x224000_1 ++ [x7_2]) := ⟨_, rfl⟩
       replace H : (spec_maOfOrder.l0 k2 t216 (ji18) (wrap64 (x6_1 + 1)) y231) = some r := by first | (rw [hy231]; with_reducible exact H) | (have H2_ := (Option.bind_some _ _).symm.trans H; rw [hy231]; with_reducible exact H2_) | (have H2_ := (Option.bind_some _ _).symm.trans H; with_reducible exact H2_) | with_reducible exact H | (rw [hy231]; exact H) | exact H
       have Ny231 := aM hy231
       clear hy231
       have H' := aM H
       clear H
       have hnb47 := NB223_214.out
       have hnc47 := NB214_223.out
       have hnb48 := NB223_215.out
       have hnc48 := NB215_223.out
       have hcz49_0 := zc10 BK223
       have hfz49_0 := blk_frozen BK223.out 0
       obtain ⟨Ao51, co51, eo51⟩ := Kd.R_slice HO_7.out
       subst eo51
       go_wp2_with (first | ((with_reducible refine gate_builtin (b := .append) (xs := #[.tmp 43, .tmp 45]) rfl ?_); at_builtin; refine Kd.S_append (Kd.slice 3 (Kd.int .i64)) (w0 := w) w.heap.size rfl (.tmp 43) (.tmp 45) 26 22 (.slice none 0 0) 24 rfl Tryd.underlying26 info22 rfl (by decide) (by omega) u224000 x224000_1 x7_2 [.slice Ao51 x7_2.length co51] (fun _ => True) (fun k_ => some k_ = (.slice Ao51 x7_2.length co51 : Value).ownBlock) rfl rfl ?aP (fun k_ hk_ => ((Kd.R_mono (ok' := fun k_ => ((fun _ => True)) k_ ∧ some k_ ≠ (u224000 : Value).ownBlock) (Kd.R_apart' (HO_7.out) (Kd.S_typed HO_224000.out) (by decide)) (fun k_ hk => ⟨trivial, hk.2⟩))).1 k_ hk_.symm) ?aF ?aO ?aB ?aS ?aL ?_; (case aP => exact Kd.M_row (Kd.R_mono (Kd.R_tight rfl (Kd.R_mono (ok' := fun k_ => ((fun _ => True)) k_ ∧ some k_ ≠ (u224000 : Value).ownBlock) (Kd.R_apart' (HO_7.out) (Kd.S_typed HO_224000.out) (by decide)) (fun k_ hk => ⟨trivial, hk.2⟩))) (fun _ h_ => h_))); (case aB => exact bq); (case aF => exact (fun _ _ => trivial)); (case aO => exact (by (with_reducible repeat first|apply sA|apply sN|apply sD); exact Kd.S_mono HO_224000.out (fun k_ hk => ⟨trivial, fun e_ => hk e_⟩))); (case aS => exact (below_size bq)); (case aL => have := LMc46.out; omega); intro v232 w50 ho hb hg hat; rw [← Ny231.out] at ho; have _ := aM (Kd.R_over' (rQ HO_3) (Kd.S_typed (sQ HO_224000)) (by decide) hg); have _ := aM (Kd.R_over' (rQ HO_24) (Kd.S_typed (sQ HO_224000)) (by decide) hg); have _ := aM (blk_grown (g := gb214) (o := .cells #[.int .i64 a0_0, .slice A0_1 l0_1.length c0_1] 31 (0, 0)) (qQ BK214) hg (Kd.S_ne HO_224000.out BK214.out (by decide))); have _ := aM (blk_grown (g := gb215) (o := .cells #[.slice none 0 0] 28 (0, 0)) (qQ BK215) hg (Kd.S_ne HO_224000.out BK215.out (by decide))); have _ := aM (blk_grown (g := gb223) (o := .cells #[u224000] 28 (0, 0)) (qQ BK223) hg (Kd.S_ne HO_224000.out BK223.out (by decide))); have _ := aM (hb); have _ := aM (ho); clear HO_3 HO_24 BK214 BK215 BK223 HB HO_224000 HO_7; rename_i HO_3 HO_24 BK214 BK215 BK223 HB HO233; clear ho hb hg hat; obtain ⟨Ao52, co52, eo52⟩ := Kd.S_slice HO233.out; subst eo52; have hcz53_0 := zc10 BK223; have hfz53_0 := blk_frozen BK223.out 0))
       subst hji18
       go_roundg k2
       case measure => have := HK1.out; have := HK2.out; omega
       case rel => exact ⟨(wrap64 (x6_1 + 1)), (y231), (.slice Ao52 y231.length co52), eR, H', ⟨by have := HK1.out; have := HK2.out; omega⟩, ⟨by (with_reducible repeat first|apply rA|apply rN|apply rD); exact Kd.R_mono (Kd.R_far (p := ⟨gb223, 0, none⟩) (Kd.R_types HO_3.out BK223.out (by decide)) (fun _ hk => hk.2) (.slice Ao52 y231.length co52)) (fun _ hk => trivial)⟩, ⟨by (with_reducible repeat first|apply sA|apply sN|apply sD); exact Kd.S_mono (Kd.S_far (p := ⟨gb223, 0, none⟩) (Kd.S_types HO233.out BK223.out (by decide)) (fun _ hk => hk.2) (.slice Ao52 y231.length co52)) (fun _ hk => trivial)⟩, ⟨by (with_reducible repeat first|apply qN|apply qD|apply qA); refine blk_far ?_ NB214_223.out _; (with_reducible repeat first|apply qN|apply qD|apply qA); exact BK214.out⟩, ⟨by (with_reducible repeat first|apply qN|apply qD|apply qA); refine blk_far ?_ NB215_223.out _; (with_reducible repeat first|apply qN|apply qD|apply qA); exact BK215.out⟩, ⟨by (with_reducible repeat first|apply qN|apply qD|apply qA); refine blk_put (cs := #[u224000]) ?_ 0 _ rfl; (with_reducible repeat first|apply qN|apply qD|apply qA); exact BK223.out⟩, ⟨bq⟩⟩
   ·rw [if_neg c17] at H
    have c17b0 := decide_eq_false c17
    clear c17
    obtain rfl := Option.some.inj H
    have hnb54 := NB223_214.out
    have hnc54 := NB214_223.out
    have hnb55 := NB223_215.out
    have hnc55 := NB215_223.out
    have hcz56_0 := zc10 BK223
    have hfz56_0 := blk_frozen BK223.out 0
    obtain ⟨Ao57, co57, eo57⟩ := Kd.S_slice HO_224000.out
    subst eo57
    have hnb58 := NB215_214.out
    have hnc58 := NB214_215.out
    have hcz59_0 := zc10 BK215
    have hfz59_0 := blk_frozen BK215.out 0
    go_wp2
    refine bodyPost_ret (results_cell_row rfl _ _ gb215 28 #[.slice Ao57 x224000_1.length co57] (0, 0) _ rfl (by (with_reducible repeat first|apply qN|apply qD|apply qA); refine blk_put (cs := #[.slice none 0 0]) ?_ 0 _ rfl; (with_reducible repeat first|apply qN|apply qD|apply qA); exact BK215.out) Tryd.underlying28 rfl (by kernel_rfl)) rfl ?_
    exact ⟨_, eE, by (with_reducible repeat first|apply sA|apply sN|apply sD); exact Kd.S_mono (Kd.S_far (p := ⟨gb215, 0, none⟩) (Kd.S_types HO_224000.out BK215.out (by decide)) (fun _ hk => hk.2) (.slice Ao57 x224000_1.length co57)) (fun _ hk => trivial), bq⟩

def spec_MatrixOfOrder.f (k : Nat) (a0_0 : Int) (l0_1 : List Int) : Option ((List (List Int)) × Bool) := (spec_ivGoodOrder.f k a0_0 l0_1).bind fun t236 => (if t236 = true then ((spec_maOfOrder.f k a0_0 l0_1).bind fun t237 => (some (t237, true))) else (some (([] : List (List Int)), false)))
set_option maxHeartbeats 8000000 in
set_option maxRecDepth 100000 in
theorem spec_MatrixOfOrder.calls (k : Nat) (a0_0 : Int) (A0_1 : Option Addr) (c0_1 : Nat) (l0_1 : List Int) (r1 : List (List Int)) (r2 : Bool) (w : World) (hr0_1 : Kd.C (Kd.int .i64) w A0_1 l0_1.length l0_1) (hc0_1 : l0_1.length ≤ c0_1) (h : spec_MatrixOfOrder.f k a0_0 l0_1 = some (r1, r2)) :
  Calls Tryd.prog 8 #[.agg #[.int .i64 a0_0, .slice A0_1 l0_1.length c0_1]] w fun e w' => ∃ v0_ : Value, e = .returned (.tuple #[.agg #[v0_], .bool r2]) ∧ Kd.S (Kd.slice 3 (Kd.int .i64)) 22 w' w.heap.size (fun _ => True) v0_ r1 ∧ Below w.heap.size w w' := by
 have hu31 := Tryd.underlying31
 have hu28 := Tryd.underlying28
 have HR0_1 := aM hr0_1
 have HC0_1 := aM hc0_1
 clear hr0_1 hc0_1
 have HB := aM (Below.refl w.heap.size w)
 have H : ((spec_ivGoodOrder.f k a0_0 l0_1).bind fun t236 => (if t236 = true then ((spec_maOfOrder.f k a0_0 l0_1).bind fun t237 => (some (t237, true))) else (some (([] : List (List Int)), false)))) = some (r1, r2) := h
 clear h
 replace H := bS H
 obtain ⟨t236, A2, H⟩ := H
 try dsimp only at H
 by_cases c3 : t236 = true
 ·subst c3
  have H1 : ((spec_maOfOrder.f k a0_0 l0_1).bind fun t237 => (some (t237, true))) = some (r1, r2) := by rw [if_pos rfl] at H; exact H
  clear H
  have H := H1
  clear H1
  replace H := bS H
  obtain ⟨t237, A4, H⟩ := H
  try dsimp only at H
  simp only [Option.some.injEq, Prod.mk.injEq] at H
  obtain ⟨rfl, rfl⟩ := H
  go_enter Tryd.func8, Tryd.ntmps8
  go_wp2_with (first | ((with_reducible refine gate_dst (N := 1) rfl ?_); refine bE 1 31 #[.int .i64 a0_0, .slice A0_1 l0_1.length c0_1] ?_; intro gb234 hg w5 hbox hb; have _ := aM (below_step bq hb); have _ := aM (hbox); have _ := aM ((gS hg)); have _ := aM ((gS hg)); clear HB; rename_i HB BK234 GW234 GE234; clear hb hbox hg) | ((with_reducible refine gate_dst (N := 2) rfl ?_); refine bE 2 28 #[.slice none 0 0] ?_; intro gb235 hg w6 hbox hb; have _ := aM (blk_below (qQ BK234) hb); have _ := aM (below_step bq hb); have _ := aM (hbox); have _ := aM ((gS hg)); have _ := aM ((gS hg)); have _ := aM ((by rw [hg]; exact Nat.ne_of_lt (blk_lt (g := gb234) (o := .cells #[.int .i64 a0_0, .slice A0_1 l0_1.length c0_1] 31 (0, 0)) (qQ BK234)) : gb234 ≠ gb235)); have _ := aM ((by rw [hg]; exact Nat.ne_of_gt (blk_lt (g := gb234) (o := .cells #[.int .i64 a0_0, .slice A0_1 l0_1.length c0_1] 31 (0, 0)) (qQ BK234)) : gb235 ≠ gb234)); clear BK234 HB; rename_i BK234 HB BK235 GW235 GE235 NB234_235 NB235_234; clear hb hbox hg; have hnb7 := NB234_235.out; have hnc7 := NB235_234.out; have hcz8_0 := zc20 BK234; have hcz8_1 := zc21 BK234; have hfz8_0 := blk_frozen BK234.out 0; have hfz8_1 := blk_frozen BK234.out 1) | ((with_reducible refine gate_callee (f := 37) rfl ?_); refine gL (some 5) Tryd.func37 #[.agg #[.int .i64 a0_0, .slice A0_1 l0_1.length c0_1]] ?_; (with_reducible refine (spec_ivGoodOrder.calls k a0_0 _ _ l0_1 true _ (cQ (Kd.C_below HR0_1.out HB.out)) HC0_1.out A2.out).mono ?_); rintro e w9 ⟨rfl, hb⟩; refine ⟨_, rfl, ?_⟩; have _ := aM (blk_below (qQ BK234) hb); have _ := aM (blk_below (qQ BK235) hb); have _ := aM (below_step bq hb); clear BK234 BK235 HB; rename_i BK234 BK235 HB; (try clear hb); (try clear hb2); (try clear hk); (try clear hi); have hcz10_0 := zc20 BK234; have hcz10_1 := zc21 BK234; have hfz10_0 := blk_frozen BK234.out 0; have hfz10_1 := blk_frozen BK234.out 1) | ((with_reducible refine gate_callee (f := 38) rfl ?_); refine gL (some 9) Tryd.func38 #[.agg #[.int .i64 a0_0, .slice A0_1 l0_1.length c0_1]] ?_; (with_reducible refine (spec_maOfOrder.calls k a0_0 _ _ l0_1 t237 _ (cQ (Kd.C_below HR0_1.out HB.out)) HC0_1.out A4.out).mono ?_); rintro e w11 ⟨v238, rfl, ho0, hb⟩; refine ⟨_, rfl, ?_⟩; have _ := aM (Kd.S_lower ho0 (below_size bq)); have _ := aM (blk_below (qQ BK234) hb); have _ := aM (blk_below (qQ BK235) hb); have _ := aM (below_step bq hb); clear BK234 BK235 HB; rename_i HO239 BK234 BK235 HB; (try clear hb); (try clear hb2); (try clear hk); (try clear hi); (try clear ho0); obtain ⟨Ao12, co12, eo12⟩ := Kd.S_slice HO239.out; subst eo12; have hcz13_0 := zc10 BK235; have hfz13_0 := blk_frozen BK235.out 0))
  refine bodyPost_ret (results_ct rfl _ _ gb235 28 #[.slice Ao12 t237.length co12] (0, 0) _ rfl (by (with_reducible repeat first|apply qN|apply qD|apply qA); refine blk_put (cs := #[.slice none 0 0]) ?_ 0 _ rfl; (with_reducible repeat first|apply qN|apply qD|apply qA); exact BK235.out) Tryd.underlying28 rfl (by kernel_rfl)) rfl ?_
  exact ⟨_, eE, by (with_reducible repeat first|apply sA|apply sN|apply sD); exact Kd.S_mono (Kd.S_far (p := ⟨gb235, 0, none⟩) (Kd.S_types HO239.out BK235.out (by decide)) (fun _ hk => hk.2) (.slice Ao12 t237.length co12)) (fun _ hk => trivial), bq⟩
 ·replace c3 := Bool.eq_false_iff.mpr c3
  subst c3
  have H1 : (some (([] : List (List Int)), false)) = some (r1, r2) := by rw [if_neg (show ¬ (false = true) by decide)] at H; exact H
  clear H
  have H := H1
  clear H1
  simp only [Option.some.injEq, Prod.mk.injEq] at H
  obtain ⟨rfl, rfl⟩ := H
  go_enter Tryd.func8, Tryd.ntmps8
  go_wp2_with (first | ((with_reducible refine gate_dst (N := 1) rfl ?_); refine bE 1 31 #[.int .i64 a0_0, .slice A0_1 l0_1.length c0_1] ?_; intro gb234 hg w14 hbox hb; have _ := aM (below_step bq hb); have _ := aM (hbox); have _ := aM ((gS hg)); have _ := aM ((gS hg)); clear HB; rename_i HB BK234 GW234 GE234; clear hb hbox hg) | ((with_reducible refine gate_dst (N := 2) rfl ?_); refine bE 2 28 #[.slice none 0 0] ?_; intro gb235 hg w15 hbox hb; have _ := aM (blk_below (qQ BK234) hb); have _ := aM (below_step bq hb); have _ := aM (hbox); have _ := aM ((gS hg)); have _ := aM ((gS hg)); have _ := aM ((by rw [hg]; exact Nat.ne_of_lt (blk_lt (g := gb234) (o := .cells #[.int .i64 a0_0, .slice A0_1 l0_1.length c0_1] 31 (0, 0)) (qQ BK234)) : gb234 ≠ gb235)); have _ := aM ((by rw [hg]; exact Nat.ne_of_gt (blk_lt (g := gb234) (o := .cells #[.int .i64 a0_0, .slice A0_1 l0_1.length c0_1] 31 (0, 0)) (qQ BK234)) : gb235 ≠ gb234)); clear BK234 HB; rename_i BK234 HB BK235 GW235 GE235 NB234_235 NB235_234; clear hb hbox hg; have hnb16 := NB234_235.out; have hnc16 := NB235_234.out; have hcz17_0 := zc20 BK234; have hcz17_1 := zc21 BK234; have hfz17_0 := blk_frozen BK234.out 0; have hfz17_1 := blk_frozen BK234.out 1) | ((with_reducible refine gate_callee (f := 37) rfl ?_); refine gL (some 5) Tryd.func37 #[.agg #[.int .i64 a0_0, .slice A0_1 l0_1.length c0_1]] ?_; (with_reducible refine (spec_ivGoodOrder.calls k a0_0 _ _ l0_1 false _ (cQ (Kd.C_below HR0_1.out HB.out)) HC0_1.out A2.out).mono ?_); rintro e w18 ⟨rfl, hb⟩; refine ⟨_, rfl, ?_⟩; have _ := aM (blk_below (qQ BK234) hb); have _ := aM (blk_below (qQ BK235) hb); have _ := aM (below_step bq hb); clear BK234 BK235 HB; rename_i BK234 BK235 HB; (try clear hb); (try clear hb2); (try clear hk); (try clear hi); have hcz19_0 := zc10 BK235; have hfz19_0 := blk_frozen BK235.out 0))
  refine bodyPost_ret (results_ct rfl _ _ gb235 28 #[.slice none 0 0] (0, 0) _ rfl (by (with_reducible repeat first|apply qN|apply qD|apply qA); refine blk_put (cs := #[.slice none 0 0]) ?_ 0 _ rfl; (with_reducible repeat first|apply qN|apply qD|apply qA); exact BK235.out) Tryd.underlying28 rfl (by kernel_rfl)) rfl ?_
  exact ⟨_, eE, by first | exact Kd.S_nil _ _ _ _ _ | exact Kd.N_nil _ _ _ _ _ | exact Kd.V_nil _ _ _ _ _ | exact Kd.Q_nil _ _ _ _ _ | exact Kd.R_nil _ _ _ _ _, bq⟩

def laws_toIntS.l0 : Nat → List Int → List Int → Int → Option (List Int)
 | 0, _, _, _ => none
 | k + 1, x0, x3, x4 => if x4 < (x0.length : Int) then (if 0 ≤ x4 then (if x4 < (x3.length : Int) then (laws_toIntS.l0 k x0 (x3.set (x4 : Int).toNat (rd x0 x4)) (wrap64 (x4 + 1))) else (none)) else (none)) else (some x3)
def laws_toIntS.f (k : Nat) (l0 : List Int) : Option (List Int) := if 0 ≤ (l0.length : Int) then (if ((l0.length : Int) : Int).toNat ≤ 35184372088832 then (laws_toIntS.l0 k l0 (List.replicate ((l0.length : Int) : Int).toNat 0) 0) else (none)) else (none)
set_option maxHeartbeats 8000000 in
set_option maxRecDepth 100000 in
theorem laws_toIntS.calls (k : Nat) (A0 : Option Addr) (c0 : Nat) (l0 : List Int) (r : List Int) (w : World) (hr0 : Kd.C (Kd.int .i64) w A0 l0.length l0) (hc0 : l0.length ≤ c0) (h : laws_toIntS.f k l0 = some r) :
  Calls Tryd.prog 39 #[.slice A0 l0.length c0] w fun e w' => ∃ v0_ : Value, e = .returned (v0_) ∧ Kd.R (Kd.int .i64) 3 w' w.heap.size (fun _ => True) v0_ r ∧ Below w.heap.size w w' := by
 have HR0 := aM hr0
 have HC0 := aM hc0
 clear hr0 hc0
 have HB := aM (Below.refl w.heap.size w)
 have H : (if 0 ≤ (l0.length : Int) then (if ((l0.length : Int) : Int).toNat ≤ 35184372088832 then (laws_toIntS.l0 k l0 (List.replicate ((l0.length : Int) : Int).toNat 0) 0) else (none)) else (none)) = some r := h
 clear h
 replace H := iS H
 obtain ⟨c2, H⟩ := H
 have c2b0 := eq_true c2
 have c2b1 := decide_eq_true c2
 clear c2
 replace H := iS H
 obtain ⟨c3, H⟩ := H
 have c3b0 := eq_true c3
 have c3b1 := decide_eq_true c3
 clear c3
 obtain ⟨y240, hy240⟩ : ∃ y_ : List Int, y_ = (List.replicate ((l0.length : Int) : Int).toNat 0) := ⟨_, rfl⟩
 replace H : (laws_toIntS.l0 k l0 y240 0) = some r := by first | (rw [hy240]; with_reducible exact H) | (have H2_ := (Option.bind_some _ _).symm.trans H; rw [hy240]; with_reducible exact H2_) | (have H2_ := (Option.bind_some _ _).symm.trans H; with_reducible exact H2_) | with_reducible exact H | (rw [hy240]; exact H) | exact H
 have Ny240 := aM hy240
 clear hy240
 have H' := aM H
 clear H
 go_enter Tryd.func39, Tryd.ntmps39
 go_wp2_with (first | ((with_reducible refine gate_dst (N := 7) rfl ?_); refine Kd.R_make (Kd.int .i64) _ 3 rfl (N := 7) rfl 22 _ _ rfl (l0.length : Int) rfl rfl Tryd.underlying22 (.int .i64 0) 8 info3 rfl (by decide) (by omega) 0 (ok := fun _ => True) (okp := fun _ => True) rfl (fun _ hk => hk) trivial (odt) (Nat.le_trans (Nat.mul_le_mul_right _ (odt : (l0.length : Int).toNat ≤ 35184372088832)) (by omega)) (Below.refl _ _) (Nat.le_refl _) ?_; intro v241 w4 ho5 hb hg_ hnew_; clear hg_ hnew_; (first | rw [← Ny240.out] at ho5 | (simp only [Int.reduceToNat] at ho5; rw [← Ny240.out] at ho5)); have _ := aM (Kd.R_lower ho5 (below_size bq)); have _ := aM (below_step bq hb); clear HB; rename_i HO242 HB; clear hb ho5))
 go_loopg [4] k (fun kq v4 w' => ∃ (x3_1 : List Int) (x4_1 : Int), v4 = .int .i64 x4_1 ∧ Aside0 (laws_toIntS.l0 kq l0 x3_1 x4_1 = some r) ∧ Aside0 (kq ≤ k) ∧ Aside0 (Kd.R (Kd.int .i64) 3 w' w.heap.size (fun _ => True) v241 x3_1) ∧ Aside0 (Below w.heap.size w w'))
 case atStart => exact ⟨(y240), (0), eR, H', ⟨Nat.le_refl _⟩, ⟨rQ HO242⟩, ⟨bq⟩⟩
 case round =>
  clear H'
  try clear c2
  try clear c2b0
  try clear c2b1
  try clear p2
  try clear c3
  try clear c3b0
  try clear c3b1
  obtain ⟨x3_1, x4_1, rfl, HA, HK1, HO_3, HB⟩ := hrel
  cases gk with
  | zero => exact absurd HA.out (by simp [laws_toIntS.l0])
  | succ k1 =>
   have H := HA.out
   clear HA
   simp only [laws_toIntS.l0] at H
   by_cases c6 : x4_1 < (l0.length : Int)
   ·rw [if_pos c6] at H
    have c6b0 := decide_eq_true c6
    clear c6
    replace H := iD2 H
    obtain ⟨c7b0, c8b0, H⟩ := H
    obtain ⟨y244, hy244⟩ : ∃ y_ : List Int, y_ = (x3_1.set (x4_1 : Int).toNat (rd l0 x4_1)) := ⟨_, rfl⟩
    replace H : (laws_toIntS.l0 k1 l0 y244 (wrap64 (x4_1 + 1))) = some r := by first | (rw [hy244]; with_reducible exact H) | (have H2_ := (Option.bind_some _ _).symm.trans H; rw [hy244]; with_reducible exact H2_) | (have H2_ := (Option.bind_some _ _).symm.trans H; with_reducible exact H2_) | with_reducible exact H | (rw [hy244]; exact H) | exact H
    have Ny244 := aM hy244
    clear hy244
    have H' := aM H
    clear H
    have p243 : 0 ≤ (x4_1 : Int) := odt
    have q243 : x4_1 < (l0.length : Int) := odt
    obtain ⟨ad243, e243, hx243_0⟩ := Kd.at_int HR0.out x4_1 p243 q243
    cases e243
    replace hx243_0 := (HB.out.cell (World.block_lt_of_cell? w _ hx243_0)).trans hx243_0
    replace p243 := eq_true p243
    replace q243 := eq_true q243
    have p9 : 0 ≤ (x4_1 : Int) := odt
    have q9 : (x4_1 : Int) < ((x3_1.length : Int) : Int) := odt
    obtain ⟨go9, co9, eo9, gb9, gl9, cl9, HG9⟩ := Kd.R_form HO_3.out (by omega)
    (first | cases eo9 | (injection eo9 with ea_ en_ ec_; (first | subst ea_ | (injection ea_ with ea_; subst ea_)); subst ec_; clear en_))
    have GB9 := aM gb9
    have GG9 := aM HG9
    clear gb9 gl9 HG9
    obtain ⟨hx9_0, hf9_0⟩ := Kd.R_celln 0 HO_3.out (x4_1 : Int) p9 q9
    replace p9 := eq_true p9
    replace q9 := eq_true q9
    have HP10 := Kd.R_putg HO_3.out (x4_1 : Int) (rd l0 x4_1)
    go_wp2_with (first | ((with_reducible refine gate_store (t := 3) (p := 20) rfl ?_); refine sE (wr.setCell ⟨go9, (x4_1 : Int).toNat, none⟩ (.int .i64 (rd l0 x4_1))) 3 20 ?_; intro w11 hw; have hg : wr.grownBy w11 (some go9) := (by rw [hw]; exact HP10.2); have hp_ : Kd.R (Kd.int .i64) 3 w11 w.heap.size (fun _ => True) (.slice (some ⟨go9, 0, none⟩) x3_1.length co9) y244 := (by rw [hw, Ny244.out]; exact HP10.1); clear HP10; have _ := aM (hp_); have _ := aM ((by rw [hw]; exact below_set (HB.out) GB9.out : Below w.heap.size w w11)); clear HO_3 HB; rename_i HO_3 HB; clear hg hw hp_))
    go_roundg k1
    case measure => have := HK1.out; omega
    case rel => exact ⟨(y244), (wrap64 (x4_1 + 1)), eR, H', ⟨by have := HK1.out; omega⟩, ⟨rQ HO_3⟩, ⟨bq⟩⟩
   ·rw [if_neg c6] at H
    have c6b0 := decide_eq_false c6
    clear c6
    obtain rfl := Option.some.inj H
    go_wp2
    go_ret
    exact ⟨_, eE, rQ HO_3, bq⟩

def laws_toOrder.f (k : Nat) (a0_0 : Int) (l0_1 : List Int) : Option (Int × List Int) := (laws_toIntS.f k l0_1).bind fun t248 => (some (a0_0, t248))
set_option maxHeartbeats 8000000 in
set_option maxRecDepth 100000 in
theorem laws_toOrder.calls (k : Nat) (a0_0 : Int) (A0_1 : Option Addr) (c0_1 : Nat) (l0_1 : List Int) (r1 : Int) (r2 : List Int) (w : World) (hr0_1 : Kd.C (Kd.int .i64) w A0_1 l0_1.length l0_1) (hc0_1 : l0_1.length ≤ c0_1) (h : laws_toOrder.f k a0_0 l0_1 = some (r1, r2)) :
  Calls Tryd.prog 9 #[.agg #[.int .i64 a0_0, .slice A0_1 l0_1.length c0_1]] w fun e w' => ∃ v1_ : Value, e = .returned (.agg #[.int .i64 r1, v1_]) ∧ Kd.R (Kd.int .i64) 3 w' w.heap.size (fun _ => True) v1_ r2 ∧ Below w.heap.size w w' := by
 have hu24 := Tryd.underlying24
 have hu31 := Tryd.underlying31
 have HR0_1 := aM hr0_1
 have HC0_1 := aM hc0_1
 clear hr0_1 hc0_1
 have HB := aM (Below.refl w.heap.size w)
 have H : ((laws_toIntS.f k l0_1).bind fun t248 => (some (a0_0, t248))) = some (r1, r2) := h
 clear h
 replace H := bS H
 obtain ⟨t248, A2, H⟩ := H
 try dsimp only at H
 simp only [Option.some.injEq, Prod.mk.injEq] at H
 obtain ⟨rfl, rfl⟩ := H
 go_enter Tryd.func9, Tryd.ntmps9
 go_wp2_with (first | ((with_reducible refine gate_dst (N := 1) rfl ?_); refine bE 1 24 #[.int .i64 a0_0, .slice A0_1 l0_1.length c0_1] ?_; intro gb245 hg w3 hbox hb; have _ := aM (below_step bq hb); have _ := aM (hbox); have _ := aM ((gS hg)); have _ := aM ((gS hg)); clear HB; rename_i HB BK245 GW245 GE245; clear hb hbox hg) | ((with_reducible refine gate_dst (N := 2) rfl ?_); refine bE 2 31 #[.int .i64 0, .slice none 0 0] ?_; intro gb246 hg w4 hbox hb; have _ := aM (blk_below (qQ BK245) hb); have _ := aM (below_step bq hb); have _ := aM (hbox); have _ := aM ((gS hg)); have _ := aM ((gS hg)); have _ := aM ((by rw [hg]; exact Nat.ne_of_lt (blk_lt (g := gb245) (o := .cells #[.int .i64 a0_0, .slice A0_1 l0_1.length c0_1] 24 (0, 0)) (qQ BK245)) : gb245 ≠ gb246)); have _ := aM ((by rw [hg]; exact Nat.ne_of_gt (blk_lt (g := gb245) (o := .cells #[.int .i64 a0_0, .slice A0_1 l0_1.length c0_1] 24 (0, 0)) (qQ BK245)) : gb246 ≠ gb245)); clear BK245 HB; rename_i BK245 HB BK246 GW246 GE246 NB245_246 NB246_245; clear hb hbox hg) | ((with_reducible refine gate_dst (N := 3) rfl ?_); refine bE 3 31 #[.int .i64 0, .slice none 0 0] ?_; intro gb247 hg w5 hbox hb; have _ := aM (blk_below (qQ BK245) hb); have _ := aM (blk_below (qQ BK246) hb); have _ := aM (below_step bq hb); have _ := aM (hbox); have _ := aM ((gS hg)); have _ := aM ((gS hg)); have _ := aM ((by rw [hg]; exact Nat.ne_of_lt (blk_lt (g := gb245) (o := .cells #[.int .i64 a0_0, .slice A0_1 l0_1.length c0_1] 24 (0, 0)) (qQ BK245)) : gb245 ≠ gb247)); have _ := aM ((by rw [hg]; exact Nat.ne_of_gt (blk_lt (g := gb245) (o := .cells #[.int .i64 a0_0, .slice A0_1 l0_1.length c0_1] 24 (0, 0)) (qQ BK245)) : gb247 ≠ gb245)); have _ := aM ((by rw [hg]; exact Nat.ne_of_lt (blk_lt (g := gb246) (o := .cells #[.int .i64 0, .slice none 0 0] 31 (0, 0)) (qQ BK246)) : gb246 ≠ gb247)); have _ := aM ((by rw [hg]; exact Nat.ne_of_gt (blk_lt (g := gb246) (o := .cells #[.int .i64 0, .slice none 0 0] 31 (0, 0)) (qQ BK246)) : gb247 ≠ gb246)); clear BK245 BK246 HB; rename_i BK245 BK246 HB BK247 GW247 GE247 NB245_247 NB247_245 NB246_247 NB247_246; clear hb hbox hg; have hnb6 := NB245_246.out; have hnc6 := NB246_245.out; have hnb7 := NB245_247.out; have hnc7 := NB247_245.out; have hcz8_0 := zc20 BK245; have hcz8_1 := zc21 BK245; have hfz8_0 := blk_frozen BK245.out 0; have hfz8_1 := blk_frozen BK245.out 1; have hnb9 := NB247_246.out; have hnc9 := NB246_247.out; have hcz10_0 := zc20 BK247; have hcz10_1 := zc21 BK247; have hfz10_0 := blk_frozen BK247.out 0; have hfz10_1 := blk_frozen BK247.out 1) | ((with_reducible refine gate_callee (f := 39) rfl ?_); refine gL (some 9) Tryd.func39 #[.slice A0_1 l0_1.length c0_1] ?_; (with_reducible refine (laws_toIntS.calls k _ _ l0_1 t248 _ ?side1 ?side2 A2.out).mono ?_); (case side1 => exact Kd.C_below HR0_1.out bq); (case side2 => exact HC0_1.out); rintro e w11 ⟨v249, rfl, ho0, hb⟩; refine ⟨_, rfl, ?_⟩; have _ := aM (Kd.R_lower ho0 (below_size bq)); have _ := aM (blk_below (g := gb245) (o := .cells #[.int .i64 a0_0, .slice A0_1 l0_1.length c0_1] 24 (0, 0)) (by (with_reducible repeat first|apply qN|apply qD|apply qA); refine blk_far ?_ NB245_247.out _; (with_reducible repeat first|apply qN|apply qD|apply qA); exact BK245.out) hb); have _ := aM (blk_below (g := gb246) (o := .cells #[.int .i64 0, .slice none 0 0] 31 (0, 0)) (by (with_reducible repeat first|apply qN|apply qD|apply qA); refine blk_far ?_ NB246_247.out _; (with_reducible repeat first|apply qN|apply qD|apply qA); exact BK246.out) hb); have _ := aM (blk_below (g := gb247) (o := .cells #[.int .i64 a0_0, .slice none 0 0] 31 (0, 0)) (by (with_reducible repeat first|apply qN|apply qD|apply qA); refine blk_put (cs := #[.int .i64 0, .slice none 0 0]) ?_ 0 _ rfl; (with_reducible repeat first|apply qN|apply qD|apply qA); exact BK247.out) hb); have _ := aM (below_step bq hb); clear BK245 BK246 BK247 HB; rename_i HO250 BK245 BK246 BK247 HB; (try clear hb); (try clear hb2); (try clear hk); (try clear hi); (try clear ho0); obtain ⟨Ao12, co12, eo12⟩ := Kd.R_slice HO250.out; subst eo12; have hcz13_0 := zc20 BK247; have hcz13_1 := zc21 BK247; have hfz13_0 := blk_frozen BK247.out 0; have hfz13_1 := blk_frozen BK247.out 1; have hcz14_0 := zc20 BK246; have hcz14_1 := zc21 BK246; have hfz14_0 := blk_frozen BK246.out 0; have hfz14_1 := blk_frozen BK246.out 1))
 refine bodyPost_ret (results_cell_row rfl _ _ gb246 31 #[.int .i64 a0_0, .slice Ao12 t248.length co12] (0, 0) _ rfl (by (with_reducible repeat first|apply qN|apply qD|apply qA); refine blk_put (cs := #[.int .i64 a0_0, .slice none 0 0]) ?_ 1 _ rfl; (with_reducible repeat first|apply qN|apply qD|apply qA); refine blk_put (cs := #[.int .i64 0, .slice none 0 0]) ?_ 0 _ rfl; (with_reducible repeat first|apply qN|apply qD|apply qA); refine blk_far ?_ NB246_247.out _; (with_reducible repeat first|apply qN|apply qD|apply qA); exact BK246.out) Tryd.underlying31 rfl (by kernel_rfl)) rfl ?_
 exact ⟨_, eE, by (with_reducible repeat first|apply rA|apply rN|apply rD); exact Kd.R_mono (Kd.R_far (p := ⟨gb246, 1, none⟩) (Kd.R_far (p := ⟨gb246, 0, none⟩) (Kd.R_far (p := ⟨gb247, 1, none⟩) (Kd.R_types (Kd.R_types HO250.out BK247.out (by decide)) BK246.out (by decide)) (fun _ hk => hk.1.2) (.slice Ao12 t248.length co12)) (fun _ hk => hk.2) (.int .i64 a0_0)) (fun _ hk => hk.2) (.slice Ao12 t248.length co12)) (fun _ hk => trivial), bq⟩

def impl_within.f (a0 : Int) (a1 : Int) (a2 : Int) : Option (Bool) := if a0 ≥ a1 then (some (decide (a0 ≤ a2))) else (some false)
set_option maxHeartbeats 8000000 in
set_option maxRecDepth 100000 in
theorem impl_within.calls (a0 : Int) (a1 : Int) (a2 : Int) (r : Bool) (w : World) (h : impl_within.f a0 a1 a2 = some r) :
  Calls Tryd.prog 89 #[.int .i64 a0, .int .i64 a1, .int .i64 a2] w fun e w' => e = .returned (.bool r) ∧ Drawn0 w w' := by
 have H : (if a0 ≥ a1 then (some (decide (a0 ≤ a2))) else (some false)) = some r := h
 clear h
 by_cases c4 : a0 ≥ a1
 ·rw [if_pos c4] at H
  have c4b0 := decide_eq_true c4
  clear c4
  obtain rfl := Option.some.inj H
  go_enter Tryd.func89, Tryd.ntmps89
  go_wp2
  go_ret
  exact ⟨by first | rfl | (simp; done) | (simp [*]; done), by repeat (first | exact Drawn0.refl _ | apply Drawn0.step)⟩
 ·rw [if_neg c4] at H
  have c4b0 := decide_eq_false c4
  clear c4
  obtain rfl := Option.some.inj H
  go_enter Tryd.func89, Tryd.ntmps89
  go_wp2
  go_ret
  exact ⟨by first | rfl | (simp; done) | (simp [*]; done), by repeat (first | exact Drawn0.refl _ | apply Drawn0.step)⟩

end Go.Proofs.YtcodionjhcmfhaaDoor.Mo
