-- Written by hook.py, a program of this session (wip/), which runs the kit's print.py with its own parts; Lean checks it.
import Derived.Test.YtcodionjhcmfhaaDoorBe0
import Derived.Test.YtcodionjhcmfhaaDoorBe16
import Derived.Test.YtcodionjhcmfhaaDoorBe18
import Derived.Test.YtcodionjhcmfhaaDoorBe20
import Derived.Test.YtcodionjhcmfhaaDoorBeXSq
namespace Go.Proofs.YtcodionjhcmfhaaDoor.Be
open Go.RowKit Go.Proofs.YtcodionjhcmfhaaDoorW.PrintWords Go.Proofs.YtcodionjhcmfhaaDoorW.PrintLast Go.Proofs.YtcodionjhcmfhaaDoorW.PrintMore Go.Proofs.YtcodionjhcmfhaaDoor.Sq
attribute [local go_sem] max2_int min2_int max_two min_two max_three min_three max_four min_four   -- for this text's walks alone
set_option linter.unusedVariables false
set_option linter.unusedSimpArgs false

def impl_OrderOfAscent.f (k : Nat) (l0 : List Int) : Option (Int × List Int × Bool) := (impl_isSmallAscent.f k l0).bind fun t401 => (if t401 = true then ((impl_intervalsOf.f k l0).bind fun t402 => ((impl_orderOf.f t402).bind fun bt405 => (some (bt405.1, bt405.2, true)))) else (some (0, ([] : List Int), false)))
set_option maxHeartbeats 8000000 in
set_option maxRecDepth 100000 in
theorem impl_OrderOfAscent.calls (k : Nat) (A0 : Option Addr) (c0 : Nat) (l0 : List Int) (r1 : Int) (r2 : List Int) (r3 : Bool) (w : World) (hr0 : Kd.C (Kd.int .i64) w A0 l0.length l0) (hc0 : l0.length ≤ c0) (h : impl_OrderOfAscent.f k l0 = some (r1, r2, r3)) :
  Calls Tryd.prog 28 #[.slice A0 l0.length c0] w fun e w' => ∃ v1_ : Value, e = .returned (.tuple #[.agg #[.int .i64 r1, v1_], .bool r3]) ∧ Kd.R (Kd.int .i64) 3 w' w.heap.size (fun _ => True) v1_ r2 ∧ Below w.heap.size w w' := by
 have hu31 := Tryd.underlying31
 have HR0 := aM hr0
 have HC0 := aM hc0
 clear hr0 hc0
 have HB := aM (Below.refl w.heap.size w)
 have H : ((impl_isSmallAscent.f k l0).bind fun t401 => (if t401 = true then ((impl_intervalsOf.f k l0).bind fun t402 => ((impl_orderOf.f t402).bind fun bt405 => (some (bt405.1, bt405.2, true)))) else (some (0, ([] : List Int), false)))) = some (r1, r2, r3) := h
 clear h
 replace H := bS H
 obtain ⟨t401, A2, H⟩ := H
 try dsimp only at H
 by_cases c3 : t401 = true
 ·subst c3
  have H1 : ((impl_intervalsOf.f k l0).bind fun t402 => ((impl_orderOf.f t402).bind fun bt405 => (some (bt405.1, bt405.2, true)))) = some (r1, r2, r3) := by rw [if_pos rfl] at H; exact H
  clear H
  have H := H1
  clear H1
  replace H := bS H
  obtain ⟨t402, A4, H⟩ := H
  try dsimp only at H
  replace H := bS H
  obtain ⟨⟨t405, t406⟩, A5, H⟩ := H
  try dsimp only at H
  simp only [Option.some.injEq, Prod.mk.injEq] at H
  obtain ⟨rfl, rfl, rfl⟩ := H
  go_enter Tryd.func28, Tryd.ntmps28
  go_wp2_with (first | ((with_reducible refine gate_dst (N := 2) rfl ?_); refine bE 2 31 #[.int .i64 0, .slice none 0 0] ?_; intro gb400 hg w6 hbox hb; have _ := aM (below_step bq hb); have _ := aM (hbox); have _ := aM ((gS hg)); have _ := aM ((gS hg)); clear HB; rename_i HB BK400 GW400 GE400; clear hb hbox hg) | ((with_reducible refine gate_callee (f := 50) rfl ?_); refine gL (some 5) Tryd.func50 #[.slice A0 l0.length c0] ?_; (with_reducible refine (impl_isSmallAscent.calls k _ _ l0 true _ (cQ (Kd.C_below HR0.out HB.out)) HC0.out A2.out).mono ?_); rintro e w' ⟨rfl, ⟨nd, rfl⟩⟩; refine ⟨_, rfl, ?_⟩; (try (rw [drewN_self w6]; generalize hq_ : World.drewN w6 _ = w6; have _ : Aside0 (w6.heap[gb400]? = some (.cells #[.int .i64 0, .slice none 0 0] 31 (0, 0))) := ⟨by rw [← hq_]; exact (qQ BK400)⟩; have _ : Aside0 (Below w.heap.size w w6) := ⟨by rw [← hq_]; exact bq⟩; clear BK400 HB hq_; rename_i BK400 HB))) | ((with_reducible refine gate_callee (f := 51) rfl ?_); refine gL (some 9) Tryd.func51 #[.slice A0 l0.length c0] ?_; (with_reducible refine (impl_intervalsOf.calls k _ _ l0 t402 _ (cQ (Kd.C_below HR0.out HB.out)) HC0.out A4.out).mono ?_); rintro e w7 ⟨v403, rfl, ho0, hb⟩; refine ⟨_, rfl, ?_⟩; have _ := aM (Kd.R_lower ho0 (below_size bq)); have _ := aM (blk_below (qQ BK400) hb); have _ := aM (below_step bq hb); clear BK400 HB; rename_i HO404 BK400 HB; (try clear hb); (try clear hb2); (try clear hk); (try clear hi); (try clear ho0); obtain ⟨Ao8, co8, eo8⟩ := Kd.R_slice HO404.out; subst eo8) | ((with_reducible refine gate_callee (f := 54) rfl ?_); refine gL (some 10) Tryd.func54 #[.slice Ao8 t402.length co8] ?_; (with_reducible refine (impl_orderOf.calls _ _ t402 t405 t406 _ (cQ ((Kd.R_reads' HO404.out).2.2)) ((Kd.R_reads' HO404.out).2.1) A5.out).mono ?_); rintro e w9 ⟨v407, rfl, ho0, hb⟩; refine ⟨_, rfl, ?_⟩; have _ := aM (Kd.R_below (rQ HO404) hb); have _ := aM (Kd.R_lower ho0 (below_size bq)); have _ := aM (blk_below (qQ BK400) hb); have _ := aM (below_step bq hb); clear HO404 BK400 HB; rename_i HO404 HO408 BK400 HB; (try clear hb); (try clear hb2); (try clear hk); (try clear hi); (try clear ho0); have hcz10_0 := zc20 BK400; have hcz10_1 := zc21 BK400; have hfz10_0 := blk_frozen BK400.out 0; have hfz10_1 := blk_frozen BK400.out 1; obtain ⟨Ao11, co11, eo11⟩ := Kd.R_slice HO408.out; subst eo11))
  refine bodyPost_ret (results_ct rfl _ _ gb400 31 #[.int .i64 t405, .slice Ao11 t406.length co11] (0, 0) _ rfl (by (with_reducible repeat first|apply qN|apply qD|apply qA); refine blk_put (cs := #[.int .i64 t405, .slice none 0 0]) ?_ 1 _ rfl; (with_reducible repeat first|apply qN|apply qD|apply qA); refine blk_put (cs := #[.int .i64 0, .slice none 0 0]) ?_ 0 _ rfl; (with_reducible repeat first|apply qN|apply qD|apply qA); exact BK400.out) Tryd.underlying31 rfl (by kernel_rfl)) rfl ?_
  exact ⟨_, eE, by (with_reducible repeat first|apply rA|apply rN|apply rD); exact Kd.R_mono (Kd.R_far (p := ⟨gb400, 1, none⟩) (Kd.R_far (p := ⟨gb400, 0, none⟩) (Kd.R_types HO408.out BK400.out (by decide)) (fun _ hk => hk.2) (.int .i64 t405)) (fun _ hk => hk.2) (.slice Ao11 t406.length co11)) (fun _ hk => trivial), bq⟩
 ·replace c3 := Bool.eq_false_iff.mpr c3
  subst c3
  have H1 : (some (0, ([] : List Int), false)) = some (r1, r2, r3) := by rw [if_neg (show ¬ (false = true) by decide)] at H; exact H
  clear H
  have H := H1
  clear H1
  simp only [Option.some.injEq, Prod.mk.injEq] at H
  obtain ⟨rfl, rfl, rfl⟩ := H
  go_enter Tryd.func28, Tryd.ntmps28
  go_wp2_with (first | ((with_reducible refine gate_dst (N := 2) rfl ?_); refine bE 2 31 #[.int .i64 0, .slice none 0 0] ?_; intro gb400 hg w12 hbox hb; have _ := aM (below_step bq hb); have _ := aM (hbox); have _ := aM ((gS hg)); have _ := aM ((gS hg)); clear HB; rename_i HB BK400 GW400 GE400; clear hb hbox hg) | ((with_reducible refine gate_callee (f := 50) rfl ?_); refine gL (some 5) Tryd.func50 #[.slice A0 l0.length c0] ?_; (with_reducible refine (impl_isSmallAscent.calls k _ _ l0 false _ (cQ (Kd.C_below HR0.out HB.out)) HC0.out A2.out).mono ?_); rintro e w' ⟨rfl, ⟨nd, rfl⟩⟩; refine ⟨_, rfl, ?_⟩; (try (rw [drewN_self w12]; generalize hq_ : World.drewN w12 _ = w12; have _ : Aside0 (w12.heap[gb400]? = some (.cells #[.int .i64 0, .slice none 0 0] 31 (0, 0))) := ⟨by rw [← hq_]; exact (qQ BK400)⟩; have _ : Aside0 (Below w.heap.size w w12) := ⟨by rw [← hq_]; exact bq⟩; clear BK400 HB hq_; rename_i BK400 HB)); have hcz13_0 := zc20 BK400; have hcz13_1 := zc21 BK400; have hfz13_0 := blk_frozen BK400.out 0; have hfz13_1 := blk_frozen BK400.out 1))
  refine bodyPost_ret (results_ct rfl _ _ gb400 31 #[.int .i64 0, .slice none 0 0] (0, 0) _ rfl (by (with_reducible repeat first|apply qN|apply qD|apply qA); refine blk_put (cs := #[.int .i64 0, .slice none 0 0]) ?_ 1 _ rfl; (with_reducible repeat first|apply qN|apply qD|apply qA); refine blk_put (cs := #[.int .i64 0, .slice none 0 0]) ?_ 0 _ rfl; (with_reducible repeat first|apply qN|apply qD|apply qA); exact BK400.out) Tryd.underlying31 rfl (by kernel_rfl)) rfl ?_
  exact ⟨_, eE, by first | exact Kd.R_nil _ _ _ _ _ | exact Kd.N_nil _ _ _ _ _ | exact Kd.V_nil _ _ _ _ _ | exact Kd.Q_nil _ _ _ _ _ | exact Kd.S_nil _ _ _ _ _, bq⟩

mutual
def spec_ivOrder.l0 : Nat → List (S76) → List (S76) → Int → Int → Int → List Int → Option (Int × List Int)
 | 0, _, _, _, _, _, _ => none
 | k + 1, x0, x12, x13, x14, x411000, x411001 => if x14 < x13 then (if 0 ≤ x14 then (if x14 < (x12.length : Int) then (spec_ivOrder.l1 k x0 0 x12 x13 x14 x0 (x0.length : Int) 0 x411000 x411001 ((rd_T76 x12 x14).f0) ((rd_T76 x12 x14).f1)) else (none)) else (none)) else (some (x411000, x411001))
def spec_ivOrder.l1 : Nat → List (S76) → Int → List (S76) → Int → Int → List (S76) → Int → Int → Int → List Int → Int → Int → Option (Int × List Int)
 | 0, _, _, _, _, _, _, _, _, _, _, _, _ => none
 | k + 1, x0, x6, x12, x13, x14, x18, x19, x20, x411000, x411001, x413000, x413001 => if x20 < x19 then (if 0 ≤ x20 then (if x20 < (x18.length : Int) then (if x413001 < ((rd_T76 x18 x20).f0) then (spec_ivOrder.l1 k x0 (Go.bits .or .i64 x6 (shl .i64 1 x20)) x12 x13 x14 x18 x19 (wrap64 (x20 + 1)) x411000 x411001 x413000 x413001) else (spec_ivOrder.l1 k x0 x6 x12 x13 x14 x18 x19 (wrap64 (x20 + 1)) x411000 x411001 x413000 x413001)) else (none)) else (none)) else (if x411001.length < 17592186044416 then (spec_ivOrder.l0 k x0 x12 x13 (wrap64 (x14 + 1)) x411000 (x411001 ++ [x6])) else (none))
end
def spec_ivOrder.f (k : Nat) (l0 : List (S76)) : Option (Int × List Int) := spec_ivOrder.l0 k l0 l0 (l0.length : Int) 0 (l0.length : Int) ([] : List Int)
set_option maxHeartbeats 8000000 in
set_option maxRecDepth 100000 in
theorem spec_ivOrder.calls (k : Nat) (A0 : Option Addr) (c0 : Nat) (l0 : List (S76)) (r1 : Int) (r2 : List Int) (w : World) (hr0 : Kd.C k76 w A0 l0.length l0) (hc0 : l0.length ≤ c0) (h : spec_ivOrder.f k l0 = some (r1, r2)) :
  Calls Tryd.prog 55 #[.slice A0 l0.length c0] w fun e w' => ∃ v1_ : Value, e = .returned (.agg #[.int .i64 r1, v1_]) ∧ Kd.R (Kd.int .i64) 3 w' w.heap.size (fun _ => True) v1_ r2 ∧ Below w.heap.size w w' := by
 have hu31 := Tryd.underlying31
 have hu76 := Tryd.underlying76
 have HR0 := aM hr0
 have HC0 := aM hc0
 clear hr0 hc0
 have HB := aM (Below.refl w.heap.size w)
 have H : (spec_ivOrder.l0 k l0 l0 (l0.length : Int) 0 (l0.length : Int) ([] : List Int)) = some (r1, r2) := h
 clear h
 have H' := aM H
 clear H
 go_enter Tryd.func55, Tryd.ntmps55
 go_wp2_with (first | ((with_reducible refine gate_dst (N := 2) rfl ?_); refine bE 2 31 #[.int .i64 0, .slice none 0 0] ?_; intro gb409 hg w2 hbox hb; have _ := aM (below_step bq hb); have _ := aM (hbox); have _ := aM ((gS hg)); have _ := aM ((gS hg)); clear HB; rename_i HB BK409 GW409 GE409; clear hb hbox hg) | ((with_reducible refine gate_dst (N := 3) rfl ?_); refine bE 3 31 #[.int .i64 0, .slice none 0 0] ?_; intro gb410 hg w3 hbox hb; have _ := aM (blk_below (qQ BK409) hb); have _ := aM (below_step bq hb); have _ := aM (hbox); have _ := aM ((gS hg)); have _ := aM ((gS hg)); have _ := aM ((by rw [hg]; exact Nat.ne_of_lt (blk_lt (g := gb409) (o := .cells #[.int .i64 0, .slice none 0 0] 31 (0, 0)) (qQ BK409)) : gb409 ≠ gb410)); have _ := aM ((by rw [hg]; exact Nat.ne_of_gt (blk_lt (g := gb409) (o := .cells #[.int .i64 0, .slice none 0 0] 31 (0, 0)) (qQ BK409)) : gb410 ≠ gb409)); clear BK409 HB; rename_i BK409 HB BK410 GW410 GE410 NB409_410 NB410_409; clear hb hbox hg; have hnb4 := NB410_409.out; have hnc4 := NB409_410.out; have hcz5_0 := zc20 BK410; have hcz5_1 := zc21 BK410; have hfz5_0 := blk_frozen BK410.out 0; have hfz5_1 := blk_frozen BK410.out 1))
 go_loopg [14] k (fun kq v14 w' => ∃ (x14_1 : Int) (x411001_1 : List Int) (u411001 : Value), v14 = .int .i64 x14_1 ∧ Aside0 (spec_ivOrder.l0 kq l0 l0 (l0.length : Int) x14_1 (l0.length : Int) x411001_1 = some (r1, r2)) ∧ Aside0 (kq ≤ k) ∧ Aside0 (Kd.R (Kd.int .i64) 3 w' w.heap.size (fun _ => True) u411001 x411001_1) ∧ Aside0 (w'.heap[gb409]? = some (.cells #[.int .i64 0, (.slice none 0 0)] 31 (0, 0))) ∧ Aside0 (w'.heap[gb410]? = some (.cells #[.int .i64 (l0.length : Int), u411001] 31 (0, 0))) ∧ Aside0 (Below w.heap.size w w'))
 case atStart => exact ⟨(0), (([] : List Int)), (.slice none 0 0), eR, H', ⟨Nat.le_refl _⟩, ⟨by first | exact Kd.R_nil _ _ _ _ _ | exact Kd.N_nil _ _ _ _ _ | exact Kd.V_nil _ _ _ _ _ | exact Kd.Q_nil _ _ _ _ _ | exact Kd.S_nil _ _ _ _ _⟩, ⟨by (with_reducible repeat first|apply qN|apply qD|apply qA); refine blk_far ?_ NB409_410.out _; (with_reducible repeat first|apply qN|apply qD|apply qA); refine blk_far ?_ NB409_410.out _; (with_reducible repeat first|apply qN|apply qD|apply qA); exact BK409.out⟩, ⟨by (with_reducible repeat first|apply qN|apply qD|apply qA); refine blk_put (cs := #[.int .i64 (l0.length : Int), .slice none 0 0]) ?_ 1 _ rfl; (with_reducible repeat first|apply qN|apply qD|apply qA); refine blk_put (cs := #[.int .i64 0, .slice none 0 0]) ?_ 0 _ rfl; (with_reducible repeat first|apply qN|apply qD|apply qA); exact BK410.out⟩, ⟨bq⟩⟩
 case round =>
  clear H'
  try clear p2
  try clear c4
  try clear c5
  try clear hcz5_0
  try clear hcz5_1
  try clear hfz5_0
  try clear hfz5_1
  obtain ⟨x14_1, x411001_1, u411001, rfl, HA, HK1, HO_411001, BK409, BK410, HB⟩ := hrel
  cases gk with
  | zero => exact absurd HA.out (by simp [spec_ivOrder.l0])
  | succ k1 =>
   have H := HA.out
   clear HA
   simp only [spec_ivOrder.l0] at H
   by_cases c6 : x14_1 < (l0.length : Int)
   ·rw [if_pos c6] at H
    have c6b0 := decide_eq_true c6
    clear c6
    replace H := iD2 H
    obtain ⟨c7b0, c8b0, H⟩ := H
    have H' := aM H
    clear H
    have p411 : 0 ≤ (x14_1 : Int) := odt
    have q411 : x14_1 < (l0.length : Int) := odt
    obtain ⟨ad411, e411, hx411_0, hx411_1⟩ := at_T76 HR0.out x14_1 p411 q411
    cases e411
    replace hx411_0 := (HB.out.cell (World.block_lt_of_cell? w _ hx411_0)).trans hx411_0
    replace hx411_1 := (HB.out.cell (World.block_lt_of_cell? w _ hx411_1)).trans hx411_1
    replace p411 := eq_true p411
    replace q411 := eq_true q411
    go_wp2_with (first | ((with_reducible refine gate_dst (N := 5) rfl ?_); refine bE 5 76 #[.int .i64 0, .int .i64 0] ?_; intro gb412 hg w9 hbox hb; have _ := aM (Kd.R_below (rQ HO_411001) hb); have _ := aM (blk_below (qQ BK409) hb); have _ := aM (blk_below (qQ BK410) hb); have _ := aM (below_step bq hb); have _ := aM (hbox); have _ := aM ((gS hg)); have _ := aM ((gS hg)); have _ := aM ((by rw [hg]; exact Nat.ne_of_lt (blk_lt (g := gb409) (o := .cells #[.int .i64 0, .slice none 0 0] 31 (0, 0)) (qQ BK409)) : gb409 ≠ gb412)); have _ := aM ((by rw [hg]; exact Nat.ne_of_gt (blk_lt (g := gb409) (o := .cells #[.int .i64 0, .slice none 0 0] 31 (0, 0)) (qQ BK409)) : gb412 ≠ gb409)); have _ := aM ((by rw [hg]; exact Nat.ne_of_lt (blk_lt (g := gb410) (o := .cells #[.int .i64 (l0.length : Int), u411001] 31 (0, 0)) (qQ BK410)) : gb410 ≠ gb412)); have _ := aM ((by rw [hg]; exact Nat.ne_of_gt (blk_lt (g := gb410) (o := .cells #[.int .i64 (l0.length : Int), u411001] 31 (0, 0)) (qQ BK410)) : gb412 ≠ gb410)); clear HO_411001 BK409 BK410 HB; rename_i HO_411001 BK409 BK410 HB BK412 GW412 GE412 NB409_412 NB412_409 NB410_412 NB412_410; clear hb hbox hg; have hnb10 := NB412_409.out; have hnc10 := NB409_412.out; have hnb11 := NB412_410.out; have hnc11 := NB410_412.out; have hcz12_0 := zc20 BK412; have hcz12_1 := zc21 BK412; have hfz12_0 := blk_frozen BK412.out 0; have hfz12_1 := blk_frozen BK412.out 1))
    go_loopg [6, 20] k1 (fun kq v6 v20 w' => ∃ (x6_2 : Int) (x20_2 : Int), v6 = .int .i64 x6_2 ∧ v20 = .int .i64 x20_2 ∧ Aside0 (spec_ivOrder.l1 kq l0 x6_2 l0 (l0.length : Int) x14_1 l0 (l0.length : Int) x20_2 (l0.length : Int) x411001_1 ((rd_T76 l0 x14_1).f0) ((rd_T76 l0 x14_1).f1) = some (r1, r2)) ∧ Aside0 (kq ≤ k1) ∧ Aside0 (Kd.R (Kd.int .i64) 3 w' w.heap.size (fun _ => True) u411001 x411001_1) ∧ Aside0 (w'.heap[gb409]? = some (.cells #[.int .i64 0, (.slice none 0 0)] 31 (0, 0))) ∧ Aside0 (w'.heap[gb410]? = some (.cells #[.int .i64 (l0.length : Int), u411001] 31 (0, 0))) ∧ Aside0 (w'.heap[gb412]? = some (.cells #[.int .i64 ((rd_T76 l0 x14_1).f0), .int .i64 ((rd_T76 l0 x14_1).f1)] 76 (0, 0))) ∧ Aside0 (Below w.heap.size w w'))
    case atStart => exact ⟨(0), (0), eR, eR, H', ⟨Nat.le_refl _⟩, ⟨by (with_reducible repeat first|apply rA|apply rN|apply rD); exact Kd.R_mono (Kd.R_far (p := ⟨gb412, 1, none⟩) (Kd.R_far (p := ⟨gb412, 0, none⟩) (Kd.R_types HO_411001.out BK412.out (by decide)) (fun _ hk => hk.2) (.int .i64 ((rd_T76 l0 x14_1).f0))) (fun _ hk => hk.2) (.int .i64 ((rd_T76 l0 x14_1).f1))) (fun _ hk => trivial)⟩, ⟨by (with_reducible repeat first|apply qN|apply qD|apply qA); refine blk_far ?_ NB409_412.out _; (with_reducible repeat first|apply qN|apply qD|apply qA); refine blk_far ?_ NB409_412.out _; (with_reducible repeat first|apply qN|apply qD|apply qA); exact BK409.out⟩, ⟨by (with_reducible repeat first|apply qN|apply qD|apply qA); refine blk_far ?_ NB410_412.out _; (with_reducible repeat first|apply qN|apply qD|apply qA); refine blk_far ?_ NB410_412.out _; (with_reducible repeat first|apply qN|apply qD|apply qA); exact BK410.out⟩, ⟨by (with_reducible repeat first|apply qN|apply qD|apply qA); refine blk_put (cs := #[.int .i64 ((rd_T76 l0 x14_1).f0), .int .i64 0]) ?_ 1 _ rfl; (with_reducible repeat first|apply qN|apply qD|apply qA); refine blk_put (cs := #[.int .i64 0, .int .i64 0]) ?_ 0 _ rfl; (with_reducible repeat first|apply qN|apply qD|apply qA); exact BK412.out⟩, ⟨bq⟩⟩
    case round =>
     clear H'
     try clear c1
     try clear p2
     try clear c4
     try clear p4
     try clear q4
     try clear hx4
     try clear c5
     try clear c6
     try clear c6b0
     try clear c7
     try clear c7b0
     try clear c8
     try clear c8b0
     try clear c10
     try clear c11
     try clear hcz12_0
     try clear hcz12_1
     try clear hcz5_0
     try clear hcz5_1
     try clear hfz12_0
     try clear hfz12_1
     try clear hfz5_0
     try clear hfz5_1
     try clear hx411_0
     try clear hx411_1
     try clear p2
     try clear p411
     try clear q411
     obtain ⟨x6_2, x20_2, rfl, rfl, HA, HK2, HO_411001, BK409, BK410, BK412, HB⟩ := hrel
     cases gk with
     | zero => exact absurd HA.out (by simp [spec_ivOrder.l1])
     | succ k2 =>
      have H := HA.out
      clear HA
      simp only [spec_ivOrder.l1] at H
      by_cases c13 : x20_2 < (l0.length : Int)
      ·rw [if_pos c13] at H
       have c13b0 := decide_eq_true c13
       clear c13
       replace H := iD2 H
       obtain ⟨c14b0, c15b0, H⟩ := H
       by_cases c16 : ((rd_T76 l0 x14_1).f1) < ((rd_T76 l0 x20_2).f0)
       ·rw [if_pos c16] at H
        have c16b0 := decide_eq_true c16
        clear c16
        have c17b0 := eq_true (odt : 0 ≤ x20_2)
        obtain ⟨ji18, hji18⟩ : ∃ j_ : Int, (shl .i64 1 x20_2) = j_ := ⟨_, rfl⟩
        replace H : (spec_ivOrder.l1 k2 l0 (Go.bits .or .i64 x6_2 (ji18)) l0 (l0.length : Int) x14_1 l0 (l0.length : Int) (wrap64 (x20_2 + 1)) (l0.length : Int) x411001_1 ((rd_T76 l0 x14_1).f0) ((rd_T76 l0 x14_1).f1)) = some (r1, r2) := by first | (rw [hji18] at H; exact H) | (simp only [hji18] at H ⊢; exact H)
        have hji18_ : (IntKind.i64.wrap (1 * 2 ^ min x20_2.toNat 64)) = ji18 := hji18
        have hji18z : x20_2 ≤ 64 → (IntKind.i64.wrap (1 * 2 ^ x20_2.toNat)) = ji18 := shl_small hji18
        have hji18u : (IntKind.i64.wrap (2 ^ min x20_2.toNat 64)) = ji18 := by have h_ := hji18_; rw [Int.one_mul] at h_; exact h_
        have hji18v : x20_2 ≤ 64 → (IntKind.i64.wrap (2 ^ x20_2.toNat)) = ji18 := fun hle_ => by have h_ := hji18z hle_; rw [Int.one_mul] at h_; exact h_
        have hji18y : (wrap64 (1 * 2 ^ min x20_2.toNat 64)) = ji18 := (i64_w _).symm.trans hji18_
        have hji18x : x20_2 ≤ 64 → (wrap64 (1 * 2 ^ x20_2.toNat)) = ji18 := fun h_ => (i64_w _).symm.trans (hji18z h_)
        have H' := aM H
        clear H
        have p413 : 0 ≤ (x20_2 : Int) := odt
        have q413 : x20_2 < (l0.length : Int) := odt
        obtain ⟨ad413, e413, hx413_0, hx413_1⟩ := at_T76 HR0.out x20_2 p413 q413
        obtain rfl : ad411 = ad413 := (by injection e413)
        replace hx413_0 := (HB.out.cell (World.block_lt_of_cell? w _ hx413_0)).trans hx413_0
        replace hx413_1 := (HB.out.cell (World.block_lt_of_cell? w _ hx413_1)).trans hx413_1
        replace p413 := eq_true p413
        replace q413 := eq_true q413
        go_wp2_with (first | ((with_reducible refine gate_dst (N := 8) rfl ?_); refine bE 8 76 #[.int .i64 0, .int .i64 0] ?_; intro gb414 hg w19 hbox hb; have _ := aM (Kd.R_below (rQ HO_411001) hb); have _ := aM (blk_below (qQ BK409) hb); have _ := aM (blk_below (qQ BK410) hb); have _ := aM (blk_below (qQ BK412) hb); have _ := aM (below_step bq hb); have _ := aM (hbox); have _ := aM ((gS hg)); have _ := aM ((gS hg)); have _ := aM ((by rw [hg]; exact Nat.ne_of_lt (blk_lt (g := gb409) (o := .cells #[.int .i64 0, .slice none 0 0] 31 (0, 0)) (qQ BK409)) : gb409 ≠ gb414)); have _ := aM ((by rw [hg]; exact Nat.ne_of_gt (blk_lt (g := gb409) (o := .cells #[.int .i64 0, .slice none 0 0] 31 (0, 0)) (qQ BK409)) : gb414 ≠ gb409)); have _ := aM ((by rw [hg]; exact Nat.ne_of_lt (blk_lt (g := gb410) (o := .cells #[.int .i64 (l0.length : Int), u411001] 31 (0, 0)) (qQ BK410)) : gb410 ≠ gb414)); have _ := aM ((by rw [hg]; exact Nat.ne_of_gt (blk_lt (g := gb410) (o := .cells #[.int .i64 (l0.length : Int), u411001] 31 (0, 0)) (qQ BK410)) : gb414 ≠ gb410)); have _ := aM ((by rw [hg]; exact Nat.ne_of_lt (blk_lt (g := gb412) (o := .cells #[.int .i64 ((rd_T76 l0 x14_1).f0), .int .i64 ((rd_T76 l0 x14_1).f1)] 76 (0, 0)) (qQ BK412)) : gb412 ≠ gb414)); have _ := aM ((by rw [hg]; exact Nat.ne_of_gt (blk_lt (g := gb412) (o := .cells #[.int .i64 ((rd_T76 l0 x14_1).f0), .int .i64 ((rd_T76 l0 x14_1).f1)] 76 (0, 0)) (qQ BK412)) : gb414 ≠ gb412)); clear HO_411001 BK409 BK410 BK412 HB; rename_i HO_411001 BK409 BK410 BK412 HB BK414 GW414 GE414 NB409_414 NB414_409 NB410_414 NB414_410 NB412_414 NB414_412; clear hb hbox hg; have hnb20 := NB414_409.out; have hnc20 := NB409_414.out; have hnb21 := NB414_410.out; have hnc21 := NB410_414.out; have hnb22 := NB414_412.out; have hnc22 := NB412_414.out; have hcz23_0 := zc20 BK414; have hcz23_1 := zc21 BK414; have hfz23_0 := blk_frozen BK414.out 0; have hfz23_1 := blk_frozen BK414.out 1; have hnb24 := NB412_409.out; have hnc24 := NB409_412.out; have hnb25 := NB412_410.out; have hnc25 := NB410_412.out; have hcz26_0 := zc20 BK412; have hcz26_1 := zc21 BK412; have hfz26_0 := blk_frozen BK412.out 0; have hfz26_1 := blk_frozen BK412.out 1))
        go_roundg k2
        case measure => have := HK1.out; have := HK2.out; omega
        case rel => exact ⟨(Go.bits .or .i64 x6_2 (ji18)), (wrap64 (x20_2 + 1)), (by first | rfl | (simp; done) | (simp only [← hji18] <;> (first | rfl | simp)) | (simp [*]; done)), eR, H', ⟨by have := HK1.out; have := HK2.out; omega⟩, ⟨by (with_reducible repeat first|apply rA|apply rN|apply rD); exact Kd.R_mono (Kd.R_far (p := ⟨gb414, 1, none⟩) (Kd.R_far (p := ⟨gb414, 0, none⟩) (Kd.R_types HO_411001.out BK414.out (by decide)) (fun _ hk => hk.2) (.int .i64 ((rd_T76 l0 x20_2).f0))) (fun _ hk => hk.2) (.int .i64 ((rd_T76 l0 x20_2).f1))) (fun _ hk => trivial)⟩, ⟨by (with_reducible repeat first|apply qN|apply qD|apply qA); refine blk_far ?_ NB409_414.out _; (with_reducible repeat first|apply qN|apply qD|apply qA); refine blk_far ?_ NB409_414.out _; (with_reducible repeat first|apply qN|apply qD|apply qA); exact BK409.out⟩, ⟨by (with_reducible repeat first|apply qN|apply qD|apply qA); refine blk_far ?_ NB410_414.out _; (with_reducible repeat first|apply qN|apply qD|apply qA); refine blk_far ?_ NB410_414.out _; (with_reducible repeat first|apply qN|apply qD|apply qA); exact BK410.out⟩, ⟨by (with_reducible repeat first|apply qN|apply qD|apply qA); refine blk_far ?_ NB412_414.out _; (with_reducible repeat first|apply qN|apply qD|apply qA); refine blk_far ?_ NB412_414.out _; (with_reducible repeat first|apply qN|apply qD|apply qA); exact BK412.out⟩, ⟨bq⟩⟩
       ·rw [if_neg c16] at H
        have c16b0 := decide_eq_false c16
        clear c16
        have H' := aM H
        clear H
        have p413 : 0 ≤ (x20_2 : Int) := odt
        have q413 : x20_2 < (l0.length : Int) := odt
        obtain ⟨ad413, e413, hx413_0, hx413_1⟩ := at_T76 HR0.out x20_2 p413 q413
        obtain rfl : ad411 = ad413 := (by injection e413)
        replace hx413_0 := (HB.out.cell (World.block_lt_of_cell? w _ hx413_0)).trans hx413_0
        replace hx413_1 := (HB.out.cell (World.block_lt_of_cell? w _ hx413_1)).trans hx413_1
        replace p413 := eq_true p413
        replace q413 := eq_true q413
        go_wp2_with (first | ((with_reducible refine gate_dst (N := 8) rfl ?_); refine bE 8 76 #[.int .i64 0, .int .i64 0] ?_; intro gb414 hg w27 hbox hb; have _ := aM (Kd.R_below (rQ HO_411001) hb); have _ := aM (blk_below (qQ BK409) hb); have _ := aM (blk_below (qQ BK410) hb); have _ := aM (blk_below (qQ BK412) hb); have _ := aM (below_step bq hb); have _ := aM (hbox); have _ := aM ((gS hg)); have _ := aM ((gS hg)); have _ := aM ((by rw [hg]; exact Nat.ne_of_lt (blk_lt (g := gb409) (o := .cells #[.int .i64 0, .slice none 0 0] 31 (0, 0)) (qQ BK409)) : gb409 ≠ gb414)); have _ := aM ((by rw [hg]; exact Nat.ne_of_gt (blk_lt (g := gb409) (o := .cells #[.int .i64 0, .slice none 0 0] 31 (0, 0)) (qQ BK409)) : gb414 ≠ gb409)); have _ := aM ((by rw [hg]; exact Nat.ne_of_lt (blk_lt (g := gb410) (o := .cells #[.int .i64 (l0.length : Int), u411001] 31 (0, 0)) (qQ BK410)) : gb410 ≠ gb414)); have _ := aM ((by rw [hg]; exact Nat.ne_of_gt (blk_lt (g := gb410) (o := .cells #[.int .i64 (l0.length : Int), u411001] 31 (0, 0)) (qQ BK410)) : gb414 ≠ gb410)); have _ := aM ((by rw [hg]; exact Nat.ne_of_lt (blk_lt (g := gb412) (o := .cells #[.int .i64 ((rd_T76 l0 x14_1).f0), .int .i64 ((rd_T76 l0 x14_1).f1)] 76 (0, 0)) (qQ BK412)) : gb412 ≠ gb414)); have _ := aM ((by rw [hg]; exact Nat.ne_of_gt (blk_lt (g := gb412) (o := .cells #[.int .i64 ((rd_T76 l0 x14_1).f0), .int .i64 ((rd_T76 l0 x14_1).f1)] 76 (0, 0)) (qQ BK412)) : gb414 ≠ gb412)); clear HO_411001 BK409 BK410 BK412 HB; rename_i HO_411001 BK409 BK410 BK412 HB BK414 GW414 GE414 NB409_414 NB414_409 NB410_414 NB414_410 NB412_414 NB414_412; clear hb hbox hg; have hnb28 := NB414_409.out; have hnc28 := NB409_414.out; have hnb29 := NB414_410.out; have hnc29 := NB410_414.out; have hnb30 := NB414_412.out; have hnc30 := NB412_414.out; have hcz31_0 := zc20 BK414; have hcz31_1 := zc21 BK414; have hfz31_0 := blk_frozen BK414.out 0; have hfz31_1 := blk_frozen BK414.out 1; have hnb32 := NB412_409.out; have hnc32 := NB409_412.out; have hnb33 := NB412_410.out; have hnc33 := NB410_412.out; have hcz34_0 := zc20 BK412; have hcz34_1 := zc21 BK412; have hfz34_0 := blk_frozen BK412.out 0; have hfz34_1 := blk_frozen BK412.out 1))
        go_roundg k2
        case measure => have := HK1.out; have := HK2.out; omega
        case rel => exact ⟨(x6_2), (wrap64 (x20_2 + 1)), eR, eR, H', ⟨by have := HK1.out; have := HK2.out; omega⟩, ⟨by (with_reducible repeat first|apply rA|apply rN|apply rD); exact Kd.R_mono (Kd.R_far (p := ⟨gb414, 1, none⟩) (Kd.R_far (p := ⟨gb414, 0, none⟩) (Kd.R_types HO_411001.out BK414.out (by decide)) (fun _ hk => hk.2) (.int .i64 ((rd_T76 l0 x20_2).f0))) (fun _ hk => hk.2) (.int .i64 ((rd_T76 l0 x20_2).f1))) (fun _ hk => trivial)⟩, ⟨by (with_reducible repeat first|apply qN|apply qD|apply qA); refine blk_far ?_ NB409_414.out _; (with_reducible repeat first|apply qN|apply qD|apply qA); refine blk_far ?_ NB409_414.out _; (with_reducible repeat first|apply qN|apply qD|apply qA); exact BK409.out⟩, ⟨by (with_reducible repeat first|apply qN|apply qD|apply qA); refine blk_far ?_ NB410_414.out _; (with_reducible repeat first|apply qN|apply qD|apply qA); refine blk_far ?_ NB410_414.out _; (with_reducible repeat first|apply qN|apply qD|apply qA); exact BK410.out⟩, ⟨by (with_reducible repeat first|apply qN|apply qD|apply qA); refine blk_far ?_ NB412_414.out _; (with_reducible repeat first|apply qN|apply qD|apply qA); refine blk_far ?_ NB412_414.out _; (with_reducible repeat first|apply qN|apply qD|apply qA); exact BK412.out⟩, ⟨bq⟩⟩
      ·rw [if_neg c13] at H
       have c13b0 := decide_eq_false c13
       clear c13
       replace H := iS H
       obtain ⟨c35, H⟩ := H
       have LMc35 := aM c35
       clear c35
       obtain ⟨y415, hy415⟩ : ∃ y_ : List Int, y_ = (x411001_1 ++ [x6_2]) := ⟨_, rfl⟩
       replace H : (spec_ivOrder.l0 k2 l0 l0 (l0.length : Int) (wrap64 (x14_1 + 1)) (l0.length : Int) y415) = some (r1, r2) := by first | (rw [hy415]; with_reducible exact H) | (have H2_ := (Option.bind_some _ _).symm.trans H; rw [hy415]; with_reducible exact H2_) | (have H2_ := (Option.bind_some _ _).symm.trans H; with_reducible exact H2_) | with_reducible exact H | (rw [hy415]; exact H) | exact H
       have Ny415 := aM hy415
       clear hy415
       have H' := aM H
       clear H
       have hnb36 := NB410_409.out
       have hnc36 := NB409_410.out
       have hnb37 := NB410_412.out
       have hnc37 := NB412_410.out
       have hcz38_0 := zc20 BK410
       have hcz38_1 := zc21 BK410
       have hfz38_0 := blk_frozen BK410.out 0
       have hfz38_1 := blk_frozen BK410.out 1
       go_wp2_with (first | ((with_reducible refine gate_builtin (b := .append) (xs := #[.tmp 36, .tmp 38]) rfl ?_); at_builtin; refine Kd.R_append (Kd.int .i64) (w0 := w) w.heap.size rfl (.tmp 36) (.tmp 38) 22 3 (.int .i64 0) 8 rfl Tryd.underlying22 info3 rfl (by decide) (by omega) u411001 x411001_1 x6_2 [.int .i64 x6_2] (fun _ => True) (fun _ => False) rfl rfl ?aP (fun _ hk => hk.elim) ?aF ?aO ?aB ?aS ?aL ?_; (case aP => exact rfl); (case aB => exact bq); (case aF => exact (fun _ _ => trivial)); (case aO => exact (rQ HO_411001)); (case aS => exact (below_size bq)); (case aL => have := LMc35.out; omega); intro v416 w39 ho hb hg hat; rw [← Ny415.out] at ho; have _ := aM (blk_grown (g := gb409) (o := .cells #[.int .i64 0, .slice none 0 0] 31 (0, 0)) (qQ BK409) hg (Kd.R_ne HO_411001.out BK409.out (by decide))); have _ := aM (blk_grown (g := gb410) (o := .cells #[.int .i64 (l0.length : Int), u411001] 31 (0, 0)) (qQ BK410) hg (Kd.R_ne HO_411001.out BK410.out (by decide))); have _ := aM (blk_grown (g := gb412) (o := .cells #[.int .i64 ((rd_T76 l0 x14_1).f0), .int .i64 ((rd_T76 l0 x14_1).f1)] 76 (0, 0)) (qQ BK412) hg (Kd.R_ne HO_411001.out BK412.out (by decide))); have _ := aM (hb); have _ := aM (ho); clear BK409 BK410 BK412 HB HO_411001; rename_i BK409 BK410 BK412 HB HO417; clear ho hb hg hat; obtain ⟨Ao40, co40, eo40⟩ := Kd.R_slice HO417.out; subst eo40; have hcz41_0 := zc20 BK410; have hcz41_1 := zc21 BK410; have hfz41_0 := blk_frozen BK410.out 0; have hfz41_1 := blk_frozen BK410.out 1))
       go_roundg k2
       case measure => have := HK1.out; have := HK2.out; omega
       case rel => exact ⟨(wrap64 (x14_1 + 1)), (y415), (.slice Ao40 y415.length co40), eR, H', ⟨by have := HK1.out; have := HK2.out; omega⟩, ⟨by (with_reducible repeat first|apply rA|apply rN|apply rD); exact Kd.R_mono (Kd.R_far (p := ⟨gb410, 1, none⟩) (Kd.R_types HO417.out BK410.out (by decide)) (fun _ hk => hk.2) (.slice Ao40 y415.length co40)) (fun _ hk => trivial)⟩, ⟨by (with_reducible repeat first|apply qN|apply qD|apply qA); refine blk_far ?_ NB409_410.out _; (with_reducible repeat first|apply qN|apply qD|apply qA); exact BK409.out⟩, ⟨by (with_reducible repeat first|apply qN|apply qD|apply qA); refine blk_put (cs := #[.int .i64 (l0.length : Int), u411001]) ?_ 1 _ rfl; (with_reducible repeat first|apply qN|apply qD|apply qA); exact BK410.out⟩, ⟨bq⟩⟩
   ·rw [if_neg c6] at H
    have c6b0 := decide_eq_false c6
    clear c6
    simp only [Option.some.injEq, Prod.mk.injEq] at H
    obtain ⟨rfl, rfl⟩ := H
    have hnb42 := NB410_409.out
    have hnc42 := NB409_410.out
    have hcz43_0 := zc20 BK410
    have hcz43_1 := zc21 BK410
    have hfz43_0 := blk_frozen BK410.out 0
    have hfz43_1 := blk_frozen BK410.out 1
    have hcz44_0 := zc20 BK409
    have hcz44_1 := zc21 BK409
    have hfz44_0 := blk_frozen BK409.out 0
    have hfz44_1 := blk_frozen BK409.out 1
    obtain ⟨Ao45, co45, eo45⟩ := Kd.R_slice HO_411001.out
    subst eo45
    go_wp2
    refine bodyPost_ret (results_cell_row rfl _ _ gb409 31 #[.int .i64 (l0.length : Int), .slice Ao45 x411001_1.length co45] (0, 0) _ rfl (by (with_reducible repeat first|apply qN|apply qD|apply qA); refine blk_put (cs := #[.int .i64 (l0.length : Int), .slice none 0 0]) ?_ 1 _ rfl; (with_reducible repeat first|apply qN|apply qD|apply qA); refine blk_put (cs := #[.int .i64 0, .slice none 0 0]) ?_ 0 _ rfl; (with_reducible repeat first|apply qN|apply qD|apply qA); exact BK409.out) Tryd.underlying31 rfl (by kernel_rfl)) rfl ?_
    exact ⟨_, eE, by (with_reducible repeat first|apply rA|apply rN|apply rD); exact Kd.R_mono (Kd.R_far (p := ⟨gb409, 1, none⟩) (Kd.R_far (p := ⟨gb409, 0, none⟩) (Kd.R_types HO_411001.out BK409.out (by decide)) (fun _ hk => hk.2) (.int .i64 (l0.length : Int))) (fun _ hk => hk.2) (.slice Ao45 x411001_1.length co45)) (fun _ hk => trivial), bq⟩

def spec_OrderOfAscent.j0 : Nat → List Int → Bool → Option (Int × List Int × Bool)
 | 0, _, _ => none
 | k + 1, x0, x11 => if x11 = true then (some (0, ([] : List Int), false)) else ((spec_asIntervals.f k x0).bind fun t420 => ((spec_ivOrder.f k t420).bind fun bt423 => (some (bt423.1, bt423.2, true))))
def spec_OrderOfAscent.f (k : Nat) (l0 : List Int) : Option (Int × List Int × Bool) := (spec_asGood.f k l0).bind fun t419 => (if t419 = true then (spec_OrderOfAscent.j0 k l0 (decide ((l0.length : Int) > 10))) else (spec_OrderOfAscent.j0 k l0 true))
set_option maxHeartbeats 8000000 in
set_option maxRecDepth 100000 in
theorem spec_OrderOfAscent.calls (k : Nat) (A0 : Option Addr) (c0 : Nat) (l0 : List Int) (r1 : Int) (r2 : List Int) (r3 : Bool) (w : World) (hr0 : Kd.C (Kd.int .i64) w A0 l0.length l0) (hc0 : l0.length ≤ c0) (h : spec_OrderOfAscent.f k l0 = some (r1, r2, r3)) :
  Calls Tryd.prog 29 #[.slice A0 l0.length c0] w fun e w' => ∃ v1_ : Value, e = .returned (.tuple #[.agg #[.int .i64 r1, v1_], .bool r3]) ∧ Kd.R (Kd.int .i64) 3 w' w.heap.size (fun _ => True) v1_ r2 ∧ Below w.heap.size w w' := by
 have hu31 := Tryd.underlying31
 have HR0 := aM hr0
 have HC0 := aM hc0
 clear hr0 hc0
 have HB := aM (Below.refl w.heap.size w)
 have H : ((spec_asGood.f k l0).bind fun t419 => (if t419 = true then (spec_OrderOfAscent.j0 k l0 (decide ((l0.length : Int) > 10))) else (spec_OrderOfAscent.j0 k l0 true))) = some (r1, r2, r3) := h
 clear h
 have HC2 := aM H
 clear H
 go_enter Tryd.func29, Tryd.ntmps29
 go_upto_region 1 with (first | ((with_reducible refine gate_dst (N := 2) rfl ?_); (try (refine gate_guard (by rfl) ?_; dsimp only)); refine bE 2 31 #[.int .i64 0, .slice none 0 0] ?_; intro gb418 hg w3 hbox hb; have _ := aM (below_step bq hb); have _ := aM (hbox); have _ := aM ((gS hg)); have _ := aM ((gS hg)); clear HB; rename_i HB BK418 GW418 GE418; clear hb hbox hg))
 (try simp only [Act.put, List.setIfInBounds_toArray, List.set_cons_zero, List.set_cons_succ])
 go_cut [11] (fun v11 wc => ∃ (kq : Nat) (x11_1 : Bool), v11 = .bool x11_1 ∧ Aside0 (spec_OrderOfAscent.j0 kq l0 x11_1 = some (r1, r2, r3)) ∧ Aside0 (kq ≤ k) ∧ Aside0 (wc.heap[gb418]? = some (.cells #[.int .i64 0, (.slice none 0 0)] 31 (0, 0))) ∧ Aside0 (Below w.heap.size w wc))
 case first =>
  have H := HC2.out
  clear HC2
  replace H := bS H
  obtain ⟨t419, A4, H⟩ := H
  try dsimp only at H
  by_cases c5 : t419 = true
  ·subst c5
   have H1 : (spec_OrderOfAscent.j0 k l0 (decide ((l0.length : Int) > 10))) = some (r1, r2, r3) := by rw [if_pos rfl] at H; exact H
   clear H
   have H := H1
   clear H1
   have H' := aM H
   clear H
   go_wp2_with (first | ((with_reducible refine gate_callee (f := 52) rfl ?_); refine gL (some 5) Tryd.func52 #[.slice A0 l0.length c0] ?_; (with_reducible refine (spec_asGood.calls k _ _ l0 true _ (cQ (Kd.C_below HR0.out HB.out)) HC0.out A4.out).mono ?_); rintro e w' ⟨rfl, ⟨nd, rfl⟩⟩; refine ⟨_, rfl, ?_⟩))
   go_meet
   case rel => exact ⟨_, (decide ((l0.length : Int) > 10)), eR, H', ⟨by first | omega | exact Nat.le_refl _⟩, ⟨qQ BK418⟩, ⟨bq⟩⟩
  ·replace c5 := Bool.eq_false_iff.mpr c5
   subst c5
   have H1 : (spec_OrderOfAscent.j0 k l0 true) = some (r1, r2, r3) := by rw [if_neg (show ¬ (false = true) by decide)] at H; exact H
   clear H
   have H := H1
   clear H1
   have H' := aM H
   clear H
   go_wp2_with (first | ((with_reducible refine gate_callee (f := 52) rfl ?_); refine gL (some 5) Tryd.func52 #[.slice A0 l0.length c0] ?_; (with_reducible refine (spec_asGood.calls k _ _ l0 false _ (cQ (Kd.C_below HR0.out HB.out)) HC0.out A4.out).mono ?_); rintro e w' ⟨rfl, ⟨nd, rfl⟩⟩; refine ⟨_, rfl, ?_⟩))
   go_meet
   case rel => exact ⟨_, (true), eR, H', ⟨by first | omega | exact Nat.le_refl _⟩, ⟨qQ BK418⟩, ⟨bq⟩⟩
 case rest =>
  clear HC2
  try clear c2
  try clear p2
  try clear c5
  obtain ⟨kq, x11_1, rfl, HA, HJ1, BK418, HB⟩ := hcut
  cases kq with
  | zero => exact absurd HA.out (by simp [spec_OrderOfAscent.j0])
  | succ kj1 =>
   have H := HA.out
   clear HA
   simp only [spec_OrderOfAscent.j0] at H
   by_cases c6 : x11_1 = true
   ·subst c6
    have H1 : (some (0, ([] : List Int), false)) = some (r1, r2, r3) := by rw [if_pos rfl] at H; exact H
    clear H
    have H := H1
    clear H1
    simp only [Option.some.injEq, Prod.mk.injEq] at H
    obtain ⟨rfl, rfl, rfl⟩ := H
    have hcz7_0 := zc20 BK418
    have hcz7_1 := zc21 BK418
    have hfz7_0 := blk_frozen BK418.out 0
    have hfz7_1 := blk_frozen BK418.out 1
    go_wp2
    refine bodyPost_ret (results_ct rfl _ _ gb418 31 #[.int .i64 0, .slice none 0 0] (0, 0) _ rfl (by (with_reducible repeat first|apply qN|apply qD|apply qA); refine blk_put (cs := #[.int .i64 0, .slice none 0 0]) ?_ 1 _ rfl; (with_reducible repeat first|apply qN|apply qD|apply qA); refine blk_put (cs := #[.int .i64 0, .slice none 0 0]) ?_ 0 _ rfl; (with_reducible repeat first|apply qN|apply qD|apply qA); exact BK418.out) Tryd.underlying31 rfl (by kernel_rfl)) rfl ?_
    exact ⟨_, eE, by first | exact Kd.R_nil _ _ _ _ _ | exact Kd.N_nil _ _ _ _ _ | exact Kd.V_nil _ _ _ _ _ | exact Kd.Q_nil _ _ _ _ _ | exact Kd.S_nil _ _ _ _ _, bq⟩
   ·replace c6 := Bool.eq_false_iff.mpr c6
    subst c6
    have H1 : ((spec_asIntervals.f kj1 l0).bind fun t420 => ((spec_ivOrder.f kj1 t420).bind fun bt423 => (some (bt423.1, bt423.2, true)))) = some (r1, r2, r3) := by rw [if_neg (show ¬ (false = true) by decide)] at H; exact H
    clear H
    have H := H1
    clear H1
    replace H := bS H
    obtain ⟨t420, A8, H⟩ := H
    try dsimp only at H
    replace H := bS H
    obtain ⟨⟨t423, t424⟩, A9, H⟩ := H
    try dsimp only at H
    simp only [Option.some.injEq, Prod.mk.injEq] at H
    obtain ⟨rfl, rfl, rfl⟩ := H
    go_wp2_with (first | ((with_reducible refine gate_callee (f := 53) rfl ?_); refine gL (some 14) Tryd.func53 #[.slice A0 l0.length c0] ?_; (with_reducible refine (spec_asIntervals.calls kj1 _ _ l0 t420 _ (cQ (Kd.C_below HR0.out HB.out)) HC0.out A8.out).mono ?_); rintro e w10 ⟨v421, rfl, ho0, hb⟩; refine ⟨_, rfl, ?_⟩; have _ := aM (Kd.R_lower ho0 (below_size bq)); have _ := aM (blk_below (qQ BK418) hb); have _ := aM (below_step bq hb); clear BK418 HB; rename_i HO422 BK418 HB; (try clear hb); (try clear hb2); (try clear hk); (try clear hi); (try clear ho0); obtain ⟨Ao11, co11, eo11⟩ := Kd.R_slice HO422.out; subst eo11) | ((with_reducible refine gate_callee (f := 55) rfl ?_); refine gL (some 15) Tryd.func55 #[.slice Ao11 t420.length co11] ?_; (with_reducible refine (spec_ivOrder.calls kj1 _ _ t420 t423 t424 _ (cQ ((Kd.R_reads' HO422.out).2.2)) ((Kd.R_reads' HO422.out).2.1) A9.out).mono ?_); rintro e w12 ⟨v425, rfl, ho0, hb⟩; refine ⟨_, rfl, ?_⟩; have _ := aM (Kd.R_below (rQ HO422) hb); have _ := aM (Kd.R_lower ho0 (below_size bq)); have _ := aM (blk_below (qQ BK418) hb); have _ := aM (below_step bq hb); clear HO422 BK418 HB; rename_i HO422 HO426 BK418 HB; (try clear hb); (try clear hb2); (try clear hk); (try clear hi); (try clear ho0); have hcz13_0 := zc20 BK418; have hcz13_1 := zc21 BK418; have hfz13_0 := blk_frozen BK418.out 0; have hfz13_1 := blk_frozen BK418.out 1; obtain ⟨Ao14, co14, eo14⟩ := Kd.R_slice HO426.out; subst eo14))
    refine bodyPost_ret (results_ct rfl _ _ gb418 31 #[.int .i64 t423, .slice Ao14 t424.length co14] (0, 0) _ rfl (by (with_reducible repeat first|apply qN|apply qD|apply qA); refine blk_put (cs := #[.int .i64 t423, .slice none 0 0]) ?_ 1 _ rfl; (with_reducible repeat first|apply qN|apply qD|apply qA); refine blk_put (cs := #[.int .i64 0, .slice none 0 0]) ?_ 0 _ rfl; (with_reducible repeat first|apply qN|apply qD|apply qA); exact BK418.out) Tryd.underlying31 rfl (by kernel_rfl)) rfl ?_
    exact ⟨_, eE, by (with_reducible repeat first|apply rA|apply rN|apply rD); exact Kd.R_mono (Kd.R_far (p := ⟨gb418, 1, none⟩) (Kd.R_far (p := ⟨gb418, 0, none⟩) (Kd.R_types HO426.out BK418.out (by decide)) (fun _ hk => hk.2) (.int .i64 t423)) (fun _ hk => hk.2) (.slice Ao14 t424.length co14)) (fun _ hk => trivial), bq⟩

end Go.Proofs.YtcodionjhcmfhaaDoor.Be
