-- Written by hook.py, a program of this session (wip/), which runs the kit's print.py with its own parts; Lean checks it.
import Derived.Test.YtcodionjhcmfhaaDoorBe0
import Derived.Test.YtcodionjhcmfhaaDoorBe2
import Derived.Test.YtcodionjhcmfhaaDoorBe13
import Derived.Test.YtcodionjhcmfhaaDoorBe15
import Derived.Test.YtcodionjhcmfhaaDoorBe18
import Derived.Test.YtcodionjhcmfhaaDoorBe20
import Derived.Test.YtcodionjhcmfhaaDoorBe21
import Derived.Test.YtcodionjhcmfhaaDoorBe22
import Derived.Test.YtcodionjhcmfhaaDoorBeXSq
namespace Go.Proofs.YtcodionjhcmfhaaDoor.Be
open Go.RowKit Go.Proofs.YtcodionjhcmfhaaDoorW.PrintWords Go.Proofs.YtcodionjhcmfhaaDoorW.PrintLast Go.Proofs.YtcodionjhcmfhaaDoorW.PrintMore Go.Proofs.YtcodionjhcmfhaaDoor.Sq
attribute [local go_sem] max2_int min2_int max_two min_two max_three min_three max_four min_four   -- for this text's walks alone
set_option linter.unusedVariables false
set_option linter.unusedSimpArgs false

mutual
def lw.j0 : Nat → List Int → List (S76) → Bool → Bool → Bool → Option (Bool)
 | 0, _, _, _, _, _ => none
 | k + 1, x5, x6, x7, x9, x51 => if x51 = true then (some false) else ((impl_OrderOfAscent.f k x5).bind fun bt468 => ((spec_OrderOfAscent.f k x5).bind fun bt474 => (if (bt468.2.2 != bt474.2.2) = true then (lw.j1 k x5 x6 x9 true bt468.1 bt468.2.1) else ((laws_pSameOrder.f k bt468.1 bt468.2.1 bt474.1 bt474.2.1).bind fun t480 => (if t480 = true then (lw.j1 k x5 x6 x9 (bt468.2.2 != x7) bt468.1 bt468.2.1) else (lw.j1 k x5 x6 x9 true bt468.1 bt468.2.1))))))
def lw.j1 : Nat → List Int → List (S76) → Bool → Bool → Int → List Int → Option (Bool)
 | 0, _, _, _, _, _, _ => none
 | k + 1, x5, x6, x9, x75, x474000, x474001 => if x75 = true then (some false) else (if x9 = true then ((impl_EndsOf.f k x474000 x474001).bind fun bt481 => ((impl_MagnitudeOf.f k x474000 x474001).bind fun bt485 => ((impl_AscentsOf.f k x5).bind fun bt487 => (if bt481.2 = true then (if bt485.2 = true then (if bt487.2 = true then ((laws_pSameIntervals.f k bt481.1 x6).bind fun t489 => (if t489 = true then (if (x5.length : Int) > 0 then (lw.j2 k x5 (bt485.1 != (wrap64 (bt487.1 + 1))) x474000 x474001) else (lw.j2 k x5 false x474000 x474001)) else (lw.j2 k x5 true x474000 x474001))) else (lw.j2 k x5 true x474000 x474001)) else (lw.j2 k x5 true x474000 x474001)) else (lw.j2 k x5 true x474000 x474001))))) else (some true))
def lw.j2 : Nat → List Int → Bool → Int → List Int → Option (Bool)
 | 0, _, _, _, _ => none
 | k + 1, x5, x119, x474000, x474001 => if x119 = true then (some false) else (lw.l0 k x5 0 0 x5 (x5.length : Int) 0 x474000 x474001)
def lw.l0 : Nat → List Int → Int → Int → List Int → Int → Int → Int → List Int → Option (Bool)
 | 0, _, _, _, _, _, _, _, _ => none
 | k + 1, x5, x20, x21, x120, x121, x122, x474000, x474001 => if x122 < x121 then (if 0 ≤ x122 then (if x122 < (x120.length : Int) then ((impl_BelowOf.f k x474000 x474001 x122).bind fun bt491 => (if bt491.2 = true then (if (rd x120 x122) = 0 then (if bt491.1 = 0 then (lw.l0 k x5 (wrap64 (x20 + 1)) (wrap64 (x21 + 1)) x120 x121 (wrap64 (x122 + 1)) x474000 x474001) else (lw.l0 k x5 (wrap64 (x20 + 1)) x21 x120 x121 (wrap64 (x122 + 1)) x474000 x474001)) else (if bt491.1 = 0 then (lw.l0 k x5 x20 (wrap64 (x21 + 1)) x120 x121 (wrap64 (x122 + 1)) x474000 x474001) else (lw.l0 k x5 x20 x21 x120 x121 (wrap64 (x122 + 1)) x474000 x474001))) else (some false))) else (none)) else (none)) else (if x20 = x21 then (if (x5.length : Int) = 0 then (some true) else ((impl_AscentOfOrder.f k x474000 x474001).bind fun bt493 => (if bt493.2 = true then ((laws_pSame.f k bt493.1 x5).bind fun t497 => (some t497)) else (some false)))) else (some false))
end
def laws_FnAscentsBuildEnds.f (k : Nat) (l0 : List Int) (l1 : List Int) : Option (Bool) := (laws_big.f l0 l1).bind fun t455 => (if t455 = true then (some true) else ((spec_DrawIntervalsOfAscent.f k l0).bind fun t456 => ((impl_IntervalsOfAscent.f k t456).bind fun bt459 => ((spec_IntervalsOfAscent.f k t456).bind fun bt463 => (if (bt459.2 != bt463.2) = true then (lw.j0 k t456 bt459.1 bt459.2 bt463.2 true) else ((laws_pSameIntervals.f k bt459.1 bt463.1).bind fun t467 => (lw.j0 k t456 bt459.1 bt459.2 bt463.2 (!t467))))))))
set_option maxHeartbeats 8000000 in
set_option maxRecDepth 100000 in
theorem laws_FnAscentsBuildEnds.calls (k : Nat) (A0 : Option Addr) (c0 : Nat) (l0 : List Int) (A1 : Option Addr) (c1 : Nat) (l1 : List Int) (r : Bool) (w : World) (hV : TabZ w) (hr0 : Kd.C (Kd.int .u8) w A0 l0.length l0) (hc0 : l0.length ≤ c0) (hr1 : Kd.C (Kd.int .u8) w A1 l1.length l1) (hc1 : l1.length ≤ c1) (h : laws_FnAscentsBuildEnds.f k l0 l1 = some r) :
  Calls Tryd.prog 6 #[.slice A0 l0.length c0, .slice A1 l1.length c1] w fun e w' => e = .returned (.bool r) ∧ Below w.heap.size w w' := by
 have hu31 := Tryd.underlying31
 have HR0 := aM hr0
 have HC0 := aM hc0
 clear hr0 hc0
 have HR1 := aM hr1
 have HC1 := aM hc1
 clear hr1 hc1
 have HB := aM (Below.refl w.heap.size w)
 have HVV := aM hV
 clear hV
 have H : ((laws_big.f l0 l1).bind fun t455 => (if t455 = true then (some true) else ((spec_DrawIntervalsOfAscent.f k l0).bind fun t456 => ((impl_IntervalsOfAscent.f k t456).bind fun bt459 => ((spec_IntervalsOfAscent.f k t456).bind fun bt463 => (if (bt459.2 != bt463.2) = true then (lw.j0 k t456 bt459.1 bt459.2 bt463.2 true) else ((laws_pSameIntervals.f k bt459.1 bt463.1).bind fun t467 => (lw.j0 k t456 bt459.1 bt459.2 bt463.2 (!t467))))))))) = some r := h
 clear h
 replace H := bS H
 obtain ⟨t455, A3, H⟩ := H
 try dsimp only at H
 by_cases c4 : t455 = true
 ·subst c4
  have H1 : (some true) = some r := by rw [if_pos rfl] at H; exact H
  clear H
  have H := H1
  clear H1
  obtain rfl := Option.some.inj H
  go_enter Tryd.func6, Tryd.ntmps6
  go_wp2_with (first | ((with_reducible refine gate_callee (f := 23) rfl ?_); refine gL (some 30) Tryd.func23 #[.slice A0 l0.length c0, .slice A1 l1.length c1] ?_; (with_reducible refine (laws_big.calls _ _ l0 _ _ l1 true _ (cQ HR0.out) HC0.out ?side3 ?side4 A3.out).mono ?_); (case side3 => repeat (first | exact HR1.out | (with_reducible refine Kd.C_alloc ?_ _) | (with_reducible refine Kd.C_drewN ?_ _) | (with_reducible refine Kd.C_drew ?_))); (case side4 => exact HC1.out); rintro e w' ⟨rfl, ⟨nd, rfl⟩⟩; refine ⟨_, rfl, ?_⟩))
  go_ret
  exact ⟨eE, bq⟩
 ·replace c4 := Bool.eq_false_iff.mpr c4
  subst c4
  have H1 : ((spec_DrawIntervalsOfAscent.f k l0).bind fun t456 => ((impl_IntervalsOfAscent.f k t456).bind fun bt459 => ((spec_IntervalsOfAscent.f k t456).bind fun bt463 => (if (bt459.2 != bt463.2) = true then (lw.j0 k t456 bt459.1 bt459.2 bt463.2 true) else ((laws_pSameIntervals.f k bt459.1 bt463.1).bind fun t467 => (lw.j0 k t456 bt459.1 bt459.2 bt463.2 (!t467))))))) = some r := by rw [if_neg (show ¬ (false = true) by decide)] at H; exact H
  clear H
  have H := H1
  clear H1
  replace H := bS H
  obtain ⟨t456, A5, H⟩ := H
  try dsimp only at H
  replace H := bS H
  obtain ⟨⟨t459, t460⟩, A6, H⟩ := H
  try dsimp only at H
  replace H := bS H
  obtain ⟨⟨t463, t464⟩, A7, H⟩ := H
  try dsimp only at H
  have HC8 := aM H
  clear H
  go_enter Tryd.func6, Tryd.ntmps6
  go_upto_region 6 with (first | ((with_reducible refine gate_callee (f := 23) rfl ?_); refine gL (some 30) Tryd.func23 #[.slice A0 l0.length c0, .slice A1 l1.length c1] ?_; (with_reducible refine (laws_big.calls _ _ l0 _ _ l1 false _ (cQ HR0.out) HC0.out ?side3 ?side4 A3.out).mono ?_); (case side3 => repeat (first | exact HR1.out | (with_reducible refine Kd.C_alloc ?_ _) | (with_reducible refine Kd.C_drewN ?_ _) | (with_reducible refine Kd.C_drew ?_))); (case side4 => exact HC1.out); rintro e w' ⟨rfl, ⟨nd, rfl⟩⟩; refine ⟨_, rfl, ?_⟩) | ((with_reducible refine gate_callee (f := 24) rfl ?_); refine gL (some 32) Tryd.func24 #[.slice A0 l0.length c0] ?_; (with_reducible refine (spec_DrawIntervalsOfAscent.calls k _ _ l0 t456 _ (cQ HR0.out) HC0.out A5.out).mono ?_); rintro e w9 ⟨v457, rfl, ho0, hb⟩; refine ⟨_, rfl, ?_⟩; have _ := aM (Kd.R_lower ho0 (below_size bq)); have _ := aM (below_step bq hb); clear HB; rename_i HO458 HB; (try clear hb); (try clear hb2); (try clear hk); (try clear hi); (try clear ho0); obtain ⟨Ao10, co10, eo10⟩ := Kd.R_slice HO458.out; subst eo10) | ((with_reducible refine gate_callee (f := 25) rfl ?_); refine gL (some 35) Tryd.func25 #[.slice Ao10 t456.length co10] ?_; (with_reducible refine (impl_IntervalsOfAscent.calls k _ _ t456 t459 t460 _ (cQ ((Kd.R_reads' HO458.out).2.2)) ((Kd.R_reads' HO458.out).2.1) A6.out).mono ?_); rintro e w11 ⟨v461, rfl, ho0, hb⟩; refine ⟨_, rfl, ?_⟩; have _ := aM (Kd.R_below (rQ HO458) hb); have _ := aM (Kd.R_lower ho0 (below_size bq)); have _ := aM (below_step bq hb); clear HO458 HB; rename_i HO458 HO462 HB; (try clear hb); (try clear hb2); (try clear hk); (try clear hi); (try clear ho0)) | ((with_reducible refine gate_callee (f := 26) rfl ?_); refine gL (some 40) Tryd.func26 #[.slice Ao10 t456.length co10] ?_; (with_reducible refine (spec_IntervalsOfAscent.calls k _ _ t456 t463 t464 _ (cQ ((Kd.R_reads' HO458.out).2.2)) ((Kd.R_reads' HO458.out).2.1) A7.out).mono ?_); rintro e w12 ⟨v465, rfl, ho0, hb⟩; refine ⟨_, rfl, ?_⟩; have _ := aM (Kd.R_below (rQ HO458) hb); have _ := aM (Kd.R_elder' (rQ HO462) (Kd.R_base ho0) hb); have _ := aM (Kd.R_lower (Kd.R_new' ho0 (Kd.R_lt (rQ HO462))) (below_size bq)); have _ := aM (below_step bq hb); clear HO458 HO462 HB; rename_i HO458 HO462 HO466 HB; (try clear hb); (try clear hb2); (try clear hk); (try clear hi); (try clear ho0)))
  (try simp only [Act.put, List.setIfInBounds_toArray, List.set_cons_zero, List.set_cons_succ])
  go_cut [51] (fun v51 wc => ∃ (kq : Nat) (x51_7 : Bool), v51 = .bool x51_7 ∧ Aside0 (lw.j0 kq t456 t459 t460 t464 x51_7 = some r) ∧ Aside0 (kq ≤ k) ∧ Aside0 (Kd.R (Kd.int .i64) 3 wc w.heap.size (fun _ => True) (.slice Ao10 t456.length co10) t456) ∧ Aside0 (Kd.R k76 76 wc w.heap.size (fun _ => True) v461 t459) ∧ Aside0 (Below w.heap.size w wc))
  case first =>
   have H := HC8.out
   clear HC8
   by_cases c13 : (t460 != t464) = true
   ·rw [if_pos c13] at H
    have c13b0 : (t460 != t464) = true := c13
    (try (have c13b1 : decide (t460 = t464) = false := by simpa using c13))
    (try (have c13b2 : (t460 == t464) = false := by simpa using c13))
    (try (have c13b3 : ¬ (t460 = t464) := by simpa using c13))
    clear c13
    (first | rw [c13b0] | (simp only [i64_w, i32_w]; rw [c13b0]) | skip)
    have H' := aM H
    clear H
    go_wp2
    go_meet
    case rel => exact ⟨_, (true), eR, H', ⟨by first | omega | exact Nat.le_refl _⟩, ⟨rQ HO458⟩, ⟨by (with_reducible repeat first|apply rA|apply rN|apply rD); exact Kd.R_mono HO462.out (fun _ hk => trivial)⟩, ⟨bq⟩⟩
   ·rw [if_neg c13] at H
    have c13b0 : (t460 != t464) = false := by simpa using c13
    (try (have c13b1 : decide (t460 = t464) = true := by simpa using c13))
    (try (have c13b2 : (t460 == t464) = true := by simpa using c13))
    clear c13
    (first | rw [c13b0] | (simp only [i64_w, i32_w]; rw [c13b0]) | skip)
    replace H := bS H
    obtain ⟨t467, A14, H⟩ := H
    try dsimp only at H
    have H' := aM H
    clear H
    obtain ⟨Ao15, co15, eo15⟩ := Kd.R_slice HO462.out
    subst eo15
    obtain ⟨Ao16, co16, eo16⟩ := Kd.R_slice HO466.out
    subst eo16
    go_wp2_with (first | (go_at_call 27; (with_reducible refine (laws_pSameIntervals.calls k _ _ t459 _ _ t463 t467 _ (cQ ((Kd.R_reads' HO462.out).2.2)) ((Kd.R_reads' HO462.out).2.1) ?side3 ?side4 A14.out).mono ?_); (case side3 => repeat (first | exact (Kd.R_reads' HO466.out).2.2 | (with_reducible refine Kd.C_alloc ?_ _) | (with_reducible refine Kd.C_drewN ?_ _) | (with_reducible refine Kd.C_drew ?_))); (case side4 => exact (Kd.R_reads' HO466.out).2.1); rintro e w' ⟨rfl, ⟨nd, rfl⟩⟩))
    go_meet
    case rel => exact ⟨_, (!t467), eR, H', ⟨by first | omega | exact Nat.le_refl _⟩, ⟨rQ HO458⟩, ⟨by (with_reducible repeat first|apply rA|apply rN|apply rD); exact Kd.R_mono HO462.out (fun _ hk => trivial)⟩, ⟨bq⟩⟩
  case rest =>
   clear HC8
   try clear c1
   try clear c2
   try clear p2
   try clear c4
   try clear c6
   try clear c13
   try clear c13b0
   try clear c13b1
   try clear c13b2
   obtain ⟨kq, x51_7, rfl, HA, HJ7, HO_5, HO_6, HB⟩ := hcut
   cases kq with
   | zero => exact absurd HA.out (by simp [lw.j0])
   | succ kj7 =>
    have H := HA.out
    clear HA
    simp only [lw.j0] at H
    by_cases c17 : x51_7 = true
    ·subst c17
     have H1 : (some false) = some r := by rw [if_pos rfl] at H; exact H
     clear H
     have H := H1
     clear H1
     obtain rfl := Option.some.inj H
     go_wp2
     go_ret
     exact ⟨eE, bq⟩
    ·replace c17 := Bool.eq_false_iff.mpr c17
     subst c17
     have H1 : ((impl_OrderOfAscent.f kj7 t456).bind fun bt468 => ((spec_OrderOfAscent.f kj7 t456).bind fun bt474 => (if (bt468.2.2 != bt474.2.2) = true then (lw.j1 kj7 t456 t459 t464 true bt468.1 bt468.2.1) else ((laws_pSameOrder.f kj7 bt468.1 bt468.2.1 bt474.1 bt474.2.1).bind fun t480 => (if t480 = true then (lw.j1 kj7 t456 t459 t464 (bt468.2.2 != t460) bt468.1 bt468.2.1) else (lw.j1 kj7 t456 t459 t464 true bt468.1 bt468.2.1)))))) = some r := by rw [if_neg (show ¬ (false = true) by decide)] at H; exact H
     clear H
     have H := H1
     clear H1
     replace H := bS H
     obtain ⟨⟨t468, t469, t472⟩, A18, H⟩ := H
     try dsimp only at H
     replace H := bS H
     obtain ⟨⟨t474, t475, t478⟩, A19, H⟩ := H
     try dsimp only at H
     have HC20 := aM H
     clear H
     go_upto_region 10 with (first | ((with_reducible refine gate_callee (f := 28) rfl ?_); refine gL (some 54) Tryd.func28 #[.slice Ao10 t456.length co10] ?_; (with_reducible refine (impl_OrderOfAscent.calls kj7 _ _ t456 t468 t469 t472 _ (cQ ((Kd.R_reads' HO_5.out).2.2)) ((Kd.R_reads' HO_5.out).2.1) A18.out).mono ?_); rintro e w21 ⟨v470, rfl, ho0, hb⟩; refine ⟨_, rfl, ?_⟩; have _ := aM (Kd.R_elder' (rQ HO_5) (Kd.R_base ho0) hb); have _ := aM (Kd.R_below (rQ HO_6) hb); have _ := aM (Kd.R_lower (Kd.R_new' ho0 (Kd.R_lt (rQ HO_5))) (below_size bq)); have _ := aM (below_step bq hb); clear HO_5 HO_6 HB; rename_i HO_5 HO_6 HO471 HB; (try clear hb); (try clear hb2); (try clear hk); (try clear hi); (try clear ho0)) | ((with_reducible refine gate_dst (N := 10) rfl ?_); (try (refine gate_guard (by rfl) ?_; dsimp only)); refine bE 10 31 #[.int .i64 0, .slice none 0 0] ?_; intro gb473 hg w22 hbox hb; have _ := aM (Kd.R_below (rQ HO_5) hb); have _ := aM (Kd.R_below (rQ HO_6) hb); have _ := aM (Kd.R_below (rQ HO471) hb); have _ := aM (below_step bq hb); have _ := aM (hbox); have _ := aM ((gS hg)); have _ := aM ((gS hg)); clear HO_5 HO_6 HO471 HB; rename_i HO_5 HO_6 HO471 HB BK473 GW473 GE473; clear hb hbox hg; have hcz23_0 := zc20 BK473; have hcz23_1 := zc21 BK473; have hfz23_0 := blk_frozen BK473.out 0; have hfz23_1 := blk_frozen BK473.out 1; obtain ⟨Ao24, co24, eo24⟩ := Kd.R_slice HO471.out; subst eo24) | ((with_reducible refine gate_callee (f := 29) rfl ?_); refine gL (some 59) Tryd.func29 #[.slice Ao10 t456.length co10] ?_; (with_reducible refine (spec_OrderOfAscent.calls kj7 _ _ t456 t474 t475 t478 _ ?side1 ?side2 A19.out).mono ?_); (case side1 => refine (Kd.R_reads' (e := 3) (base := w.heap.size) (ok := fun k_ => (True ∧ some k_ ≠ (.slice Ao24 t469.length co24 : Value).ownBlock)) (n := t456.length) (c := co10) ?_).2.2; exact (by (with_reducible repeat first|apply rA|apply rN|apply rD); exact (Kd.R_mono (Kd.R_far (p := ⟨gb473, 1, none⟩) (Kd.R_far (p := ⟨gb473, 0, none⟩) (Kd.R_types HO_5.out BK473.out (by decide)) (fun _ hk => hk.2) (.int .i64 t468)) (fun _ hk => hk.2) (.slice Ao24 t469.length co24)) (fun _ h_ => h_.1)))); (case side2 => exact (Kd.R_reads' HO_5.out).2.1); rintro e w25 ⟨v476, rfl, ho0, hb⟩; refine ⟨_, rfl, ?_⟩; have _ := aM (Kd.R_elder' (by (with_reducible repeat first|apply rA|apply rN|apply rD); exact (Kd.R_mono (Kd.R_far (p := ⟨gb473, 1, none⟩) (Kd.R_far (p := ⟨gb473, 0, none⟩) (Kd.R_types HO_5.out BK473.out (by decide)) (fun _ hk => hk.2) (.int .i64 t468)) (fun _ hk => hk.2) (.slice Ao24 t469.length co24)) (fun _ h_ => h_.1))) (Kd.R_base ho0) hb); have _ := aM (Kd.R_below (by (with_reducible repeat first|apply rA|apply rN|apply rD); exact (Kd.R_mono (Kd.R_far (p := ⟨gb473, 1, none⟩) (Kd.R_far (p := ⟨gb473, 0, none⟩) (Kd.R_types HO_6.out BK473.out (by decide)) (fun _ hk => hk.2) (.int .i64 t468)) (fun _ hk => hk.2) (.slice Ao24 t469.length co24)) (fun _ h_ => h_.1))) hb); have _ := aM (Kd.R_elder' (by (with_reducible repeat first|apply rA|apply rN|apply rD); exact (Kd.R_mono (Kd.R_far (p := ⟨gb473, 1, none⟩) (Kd.R_far (p := ⟨gb473, 0, none⟩) (Kd.R_types HO471.out BK473.out (by decide)) (fun _ hk => hk.2) (.int .i64 t468)) (fun _ hk => hk.2) (.slice Ao24 t469.length co24)) (fun _ h_ => h_.1))) (Kd.R_base ho0) hb); have _ := aM (Kd.R_lower (Kd.R_new' (Kd.R_new' ho0 (Kd.R_lt (by (with_reducible repeat first|apply rA|apply rN|apply rD); exact (Kd.R_mono (Kd.R_far (p := ⟨gb473, 1, none⟩) (Kd.R_far (p := ⟨gb473, 0, none⟩) (Kd.R_types HO_5.out BK473.out (by decide)) (fun _ hk => hk.2) (.int .i64 t468)) (fun _ hk => hk.2) (.slice Ao24 t469.length co24)) (fun _ h_ => h_.1))))) (Kd.R_lt (by (with_reducible repeat first|apply rA|apply rN|apply rD); exact (Kd.R_mono (Kd.R_far (p := ⟨gb473, 1, none⟩) (Kd.R_far (p := ⟨gb473, 0, none⟩) (Kd.R_types HO471.out BK473.out (by decide)) (fun _ hk => hk.2) (.int .i64 t468)) (fun _ hk => hk.2) (.slice Ao24 t469.length co24)) (fun _ h_ => h_.1))))) (below_size bq)); have _ := aM (blk_below (g := gb473) (o := .cells #[.int .i64 t468, .slice Ao24 t469.length co24] 31 (0, 0)) (by (with_reducible repeat first|apply qN|apply qD|apply qA); refine blk_put (cs := #[.int .i64 t468, .slice none 0 0]) ?_ 1 _ rfl; (with_reducible repeat first|apply qN|apply qD|apply qA); refine blk_put (cs := #[.int .i64 0, .slice none 0 0]) ?_ 0 _ rfl; (with_reducible repeat first|apply qN|apply qD|apply qA); exact BK473.out) hb); have _ := aM (below_step bq hb); clear HO_5 HO_6 HO471 BK473 HB; rename_i HO_5 HO_6 HO471 HO477 BK473 HB; (try clear hb); (try clear hb2); (try clear hk); (try clear hi); (try clear ho0)) | ((with_reducible refine gate_dst (N := 12) rfl ?_); (try (refine gate_guard (by rfl) ?_; dsimp only)); refine bE 12 31 #[.int .i64 0, .slice none 0 0] ?_; intro gb479 hg w26 hbox hb; have _ := aM (Kd.R_below (rQ HO_5) hb); have _ := aM (Kd.R_below (rQ HO_6) hb); have _ := aM (Kd.R_below (rQ HO471) hb); have _ := aM (Kd.R_below (rQ HO477) hb); have _ := aM (blk_below (qQ BK473) hb); have _ := aM (below_step bq hb); have _ := aM (hbox); have _ := aM ((gS hg)); have _ := aM ((gS hg)); have _ := aM ((by rw [hg]; exact Nat.ne_of_lt (blk_lt (g := gb473) (o := .cells #[.int .i64 t468, .slice Ao24 t469.length co24] 31 (0, 0)) (qQ BK473)) : gb473 ≠ gb479)); have _ := aM ((by rw [hg]; exact Nat.ne_of_gt (blk_lt (g := gb473) (o := .cells #[.int .i64 t468, .slice Ao24 t469.length co24] 31 (0, 0)) (qQ BK473)) : gb479 ≠ gb473)); clear HO_5 HO_6 HO471 HO477 BK473 HB; rename_i HO_5 HO_6 HO471 HO477 BK473 HB BK479 GW479 GE479 NB473_479 NB479_473; clear hb hbox hg; have hnb27 := NB479_473.out; have hnc27 := NB473_479.out; have hcz28_0 := zc20 BK479; have hcz28_1 := zc21 BK479; have hfz28_0 := blk_frozen BK479.out 0; have hfz28_1 := blk_frozen BK479.out 1; obtain ⟨Ao29, co29, eo29⟩ := Kd.R_slice HO477.out; subst eo29))
     (try simp only [Act.put, List.setIfInBounds_toArray, List.set_cons_zero, List.set_cons_succ])
     go_cut [75] (fun v75 wc => ∃ (kq : Nat) (x75_19 : Bool), v75 = .bool x75_19 ∧ Aside0 (lw.j1 kq t456 t459 t464 x75_19 t468 t469 = some r) ∧ Aside0 (kq ≤ kj7) ∧ Aside0 (Kd.R (Kd.int .i64) 3 wc w.heap.size (fun k_ => some k_ ≠ ((.slice Ao24 t469.length co24) : Value).ownBlock ∧ some k_ ≠ ((.slice Ao29 t475.length co29) : Value).ownBlock) (.slice Ao10 t456.length co10) t456) ∧ Aside0 (Kd.R k76 76 wc w.heap.size (fun _ => True) v461 t459) ∧ Aside0 (Kd.R (Kd.int .i64) 3 wc w.heap.size (fun k_ => some k_ ≠ ((.slice Ao10 t456.length co10) : Value).ownBlock ∧ some k_ ≠ ((.slice Ao29 t475.length co29) : Value).ownBlock) (.slice Ao24 t469.length co24) t469) ∧ Aside0 (Kd.R (Kd.int .i64) 3 wc w.heap.size (fun k_ => some k_ ≠ ((.slice Ao10 t456.length co10) : Value).ownBlock ∧ some k_ ≠ ((.slice Ao24 t469.length co24) : Value).ownBlock) (.slice Ao29 t475.length co29) t475) ∧ Aside0 (wc.heap[gb473]? = some (.cells #[.int .i64 t468, (.slice Ao24 t469.length co24)] 31 (0, 0))) ∧ Aside0 (wc.heap[gb479]? = some (.cells #[.int .i64 t474, (.slice Ao29 t475.length co29)] 31 (0, 0))) ∧ Aside0 (Below w.heap.size w wc))
     case first =>
      have H := HC20.out
      clear HC20
      by_cases c30 : (t472 != t478) = true
      ·rw [if_pos c30] at H
       have c30b0 : (t472 != t478) = true := c30
       (try (have c30b1 : decide (t472 = t478) = false := by simpa using c30))
       (try (have c30b2 : (t472 == t478) = false := by simpa using c30))
       (try (have c30b3 : ¬ (t472 = t478) := by simpa using c30))
       clear c30
       (first | rw [c30b0] | (simp only [i64_w, i32_w]; rw [c30b0]) | skip)
       have H' := aM H
       clear H
       go_wp2
       go_meet
       case rel => exact ⟨_, (true), eR, H', ⟨by have := HJ7.out; first | omega | exact Nat.le_refl _⟩, ⟨by (with_reducible repeat first|apply rA|apply rN|apply rD); exact Kd.R_mono (Kd.R_far (p := ⟨gb479, 1, none⟩) (Kd.R_far (p := ⟨gb479, 0, none⟩) (Kd.R_types HO_5.out BK479.out (by decide)) (fun _ hk => hk.2) (.int .i64 t474)) (fun _ hk => hk.2) (.slice Ao29 t475.length co29)) (fun _ hk => ⟨hk.1.1.2, hk.1.2⟩)⟩, ⟨by (with_reducible repeat first|apply rA|apply rN|apply rD); exact Kd.R_mono (Kd.R_far (p := ⟨gb479, 1, none⟩) (Kd.R_far (p := ⟨gb479, 0, none⟩) (Kd.R_types HO_6.out BK479.out (by decide)) (fun _ hk => hk.2) (.int .i64 t474)) (fun _ hk => hk.2) (.slice Ao29 t475.length co29)) (fun _ hk => trivial)⟩, ⟨by (with_reducible repeat first|apply rA|apply rN|apply rD); exact Kd.R_mono (Kd.R_far (p := ⟨gb479, 1, none⟩) (Kd.R_far (p := ⟨gb479, 0, none⟩) (Kd.R_types HO471.out BK479.out (by decide)) (fun _ hk => hk.2) (.int .i64 t474)) (fun _ hk => hk.2) (.slice Ao29 t475.length co29)) (fun _ hk => ⟨hk.1.1.2, hk.1.2⟩)⟩, ⟨by (with_reducible repeat first|apply rA|apply rN|apply rD); exact Kd.R_mono (Kd.R_far (p := ⟨gb479, 1, none⟩) (Kd.R_far (p := ⟨gb479, 0, none⟩) (Kd.R_types HO477.out BK479.out (by decide)) (fun _ hk => hk.2) (.int .i64 t474)) (fun _ hk => hk.2) (.slice Ao29 t475.length co29)) (fun _ hk => ⟨hk.1.1.2, hk.1.2⟩)⟩, ⟨by (with_reducible repeat first|apply qN|apply qD|apply qA); refine blk_far ?_ NB473_479.out _; (with_reducible repeat first|apply qN|apply qD|apply qA); refine blk_far ?_ NB473_479.out _; (with_reducible repeat first|apply qN|apply qD|apply qA); exact BK473.out⟩, ⟨by (with_reducible repeat first|apply qN|apply qD|apply qA); refine blk_put (cs := #[.int .i64 t474, .slice none 0 0]) ?_ 1 _ rfl; (with_reducible repeat first|apply qN|apply qD|apply qA); refine blk_put (cs := #[.int .i64 0, .slice none 0 0]) ?_ 0 _ rfl; (with_reducible repeat first|apply qN|apply qD|apply qA); exact BK479.out⟩, ⟨bq⟩⟩
      ·rw [if_neg c30] at H
       have c30b0 : (t472 != t478) = false := by simpa using c30
       (try (have c30b1 : decide (t472 = t478) = true := by simpa using c30))
       (try (have c30b2 : (t472 == t478) = true := by simpa using c30))
       clear c30
       (first | rw [c30b0] | (simp only [i64_w, i32_w]; rw [c30b0]) | skip)
       replace H := bS H
       obtain ⟨t480, A31, H⟩ := H
       try dsimp only at H
       by_cases c32 : t480 = true
       ·subst c32
        have H1 : (lw.j1 kj7 t456 t459 t464 (t472 != t460) t468 t469) = some r := by rw [if_pos rfl] at H; exact H
        clear H
        have H := H1
        clear H1
        have H' := aM H
        clear H
        have hnb33 := NB473_479.out
        have hnc33 := NB479_473.out
        have hcz34_0 := zc20 BK473
        have hcz34_1 := zc21 BK473
        have hfz34_0 := blk_frozen BK473.out 0
        have hfz34_1 := blk_frozen BK473.out 1
        have hcz35_0 := zc20 BK479
        have hcz35_1 := zc21 BK479
        have hfz35_0 := blk_frozen BK479.out 0
        have hfz35_1 := blk_frozen BK479.out 1
        go_wp2_with (first | (go_at_call 30; (with_reducible refine (laws_pSameOrder.calls kj7 t468 _ _ t469 t474 _ _ t475 true _ ?side1 ?side2 ?side3 ?side4 A31.out).mono ?_); (case side1 => refine (Kd.R_reads' (e := 3) (base := w.heap.size) (ok := fun k_ => ((True ∧ some k_ ≠ (.slice Ao10 t456.length co10 : Value).ownBlock) ∧ some k_ ≠ (.slice Ao29 t475.length co29 : Value).ownBlock)) (n := t469.length) (c := co24) ?_).2.2; exact (by (with_reducible repeat first|apply rA|apply rN|apply rD); exact (Kd.R_mono (Kd.R_far (p := ⟨gb479, 1, none⟩) (Kd.R_far (p := ⟨gb479, 0, none⟩) (Kd.R_types HO471.out BK479.out (by decide)) (fun _ hk => hk.2) (.int .i64 t474)) (fun _ hk => hk.2) (.slice Ao29 t475.length co29)) (fun _ h_ => h_.1)))); (case side2 => exact (Kd.R_reads' HO471.out).2.1); (case side3 => refine (Kd.R_reads' (e := 3) (base := w.heap.size) (ok := fun k_ => ((True ∧ some k_ ≠ (.slice Ao10 t456.length co10 : Value).ownBlock) ∧ some k_ ≠ (.slice Ao24 t469.length co24 : Value).ownBlock)) (n := t475.length) (c := co29) ?_).2.2; exact (by (with_reducible repeat first|apply rA|apply rN|apply rD); exact (Kd.R_mono (Kd.R_far (p := ⟨gb479, 1, none⟩) (Kd.R_far (p := ⟨gb479, 0, none⟩) (Kd.R_types HO477.out BK479.out (by decide)) (fun _ hk => hk.2) (.int .i64 t474)) (fun _ hk => hk.2) (.slice Ao29 t475.length co29)) (fun _ h_ => h_.1)))); (case side4 => exact (Kd.R_reads' HO477.out).2.1); rintro e w36 ⟨rfl, hb⟩; have _ := aM (Kd.R_below (by (with_reducible repeat first|apply rA|apply rN|apply rD); exact (Kd.R_mono (Kd.R_far (p := ⟨gb479, 1, none⟩) (Kd.R_far (p := ⟨gb479, 0, none⟩) (Kd.R_types HO_5.out BK479.out (by decide)) (fun _ hk => hk.2) (.int .i64 t474)) (fun _ hk => hk.2) (.slice Ao29 t475.length co29)) (fun _ h_ => h_.1))) hb); have _ := aM (Kd.R_below (by (with_reducible repeat first|apply rA|apply rN|apply rD); exact (Kd.R_mono (Kd.R_far (p := ⟨gb479, 1, none⟩) (Kd.R_far (p := ⟨gb479, 0, none⟩) (Kd.R_types HO_6.out BK479.out (by decide)) (fun _ hk => hk.2) (.int .i64 t474)) (fun _ hk => hk.2) (.slice Ao29 t475.length co29)) (fun _ h_ => h_.1))) hb); have _ := aM (Kd.R_below (by (with_reducible repeat first|apply rA|apply rN|apply rD); exact (Kd.R_mono (Kd.R_far (p := ⟨gb479, 1, none⟩) (Kd.R_far (p := ⟨gb479, 0, none⟩) (Kd.R_types HO471.out BK479.out (by decide)) (fun _ hk => hk.2) (.int .i64 t474)) (fun _ hk => hk.2) (.slice Ao29 t475.length co29)) (fun _ h_ => h_.1))) hb); have _ := aM (Kd.R_below (by (with_reducible repeat first|apply rA|apply rN|apply rD); exact (Kd.R_mono (Kd.R_far (p := ⟨gb479, 1, none⟩) (Kd.R_far (p := ⟨gb479, 0, none⟩) (Kd.R_types HO477.out BK479.out (by decide)) (fun _ hk => hk.2) (.int .i64 t474)) (fun _ hk => hk.2) (.slice Ao29 t475.length co29)) (fun _ h_ => h_.1))) hb); have _ := aM (blk_below (g := gb473) (o := .cells #[.int .i64 t468, .slice Ao24 t469.length co24] 31 (0, 0)) (by (with_reducible repeat first|apply qN|apply qD|apply qA); refine blk_far ?_ NB473_479.out _; (with_reducible repeat first|apply qN|apply qD|apply qA); refine blk_far ?_ NB473_479.out _; (with_reducible repeat first|apply qN|apply qD|apply qA); exact BK473.out) hb); have _ := aM (blk_below (g := gb479) (o := .cells #[.int .i64 t474, .slice Ao29 t475.length co29] 31 (0, 0)) (by (with_reducible repeat first|apply qN|apply qD|apply qA); refine blk_put (cs := #[.int .i64 t474, .slice none 0 0]) ?_ 1 _ rfl; (with_reducible repeat first|apply qN|apply qD|apply qA); refine blk_put (cs := #[.int .i64 0, .slice none 0 0]) ?_ 0 _ rfl; (with_reducible repeat first|apply qN|apply qD|apply qA); exact BK479.out) hb); have _ := aM (below_step bq hb); clear HO_5 HO_6 HO471 HO477 BK473 BK479 HB; rename_i HO_5 HO_6 HO471 HO477 BK473 BK479 HB; (try clear hb); (try clear hb2); (try clear hk); (try clear hi)))
        go_meet
        case rel => exact ⟨_, ((t472 != t460)), eR, H', ⟨by have := HJ7.out; first | omega | exact Nat.le_refl _⟩, ⟨by (with_reducible repeat first|apply rA|apply rN|apply rD); exact Kd.R_mono HO_5.out (fun _ hk => ⟨hk.1.2, hk.2⟩)⟩, ⟨rQ HO_6⟩, ⟨by (with_reducible repeat first|apply rA|apply rN|apply rD); exact Kd.R_mono HO471.out (fun _ hk => ⟨hk.1.2, hk.2⟩)⟩, ⟨by (with_reducible repeat first|apply rA|apply rN|apply rD); exact Kd.R_mono HO477.out (fun _ hk => ⟨hk.1.2, hk.2⟩)⟩, ⟨qQ BK473⟩, ⟨qQ BK479⟩, ⟨bq⟩⟩
       ·replace c32 := Bool.eq_false_iff.mpr c32
        subst c32
        have H1 : (lw.j1 kj7 t456 t459 t464 true t468 t469) = some r := by rw [if_neg (show ¬ (false = true) by decide)] at H; exact H
        clear H
        have H := H1
        clear H1
        have H' := aM H
        clear H
        have hnb37 := NB473_479.out
        have hnc37 := NB479_473.out
        have hcz38_0 := zc20 BK473
        have hcz38_1 := zc21 BK473
        have hfz38_0 := blk_frozen BK473.out 0
        have hfz38_1 := blk_frozen BK473.out 1
        have hcz39_0 := zc20 BK479
        have hcz39_1 := zc21 BK479
        have hfz39_0 := blk_frozen BK479.out 0
        have hfz39_1 := blk_frozen BK479.out 1
        go_wp2_with (first | (go_at_call 30; (with_reducible refine (laws_pSameOrder.calls kj7 t468 _ _ t469 t474 _ _ t475 false _ ?side1 ?side2 ?side3 ?side4 A31.out).mono ?_); (case side1 => refine (Kd.R_reads' (e := 3) (base := w.heap.size) (ok := fun k_ => ((True ∧ some k_ ≠ (.slice Ao10 t456.length co10 : Value).ownBlock) ∧ some k_ ≠ (.slice Ao29 t475.length co29 : Value).ownBlock)) (n := t469.length) (c := co24) ?_).2.2; exact (by (with_reducible repeat first|apply rA|apply rN|apply rD); exact (Kd.R_mono (Kd.R_far (p := ⟨gb479, 1, none⟩) (Kd.R_far (p := ⟨gb479, 0, none⟩) (Kd.R_types HO471.out BK479.out (by decide)) (fun _ hk => hk.2) (.int .i64 t474)) (fun _ hk => hk.2) (.slice Ao29 t475.length co29)) (fun _ h_ => h_.1)))); (case side2 => exact (Kd.R_reads' HO471.out).2.1); (case side3 => refine (Kd.R_reads' (e := 3) (base := w.heap.size) (ok := fun k_ => ((True ∧ some k_ ≠ (.slice Ao10 t456.length co10 : Value).ownBlock) ∧ some k_ ≠ (.slice Ao24 t469.length co24 : Value).ownBlock)) (n := t475.length) (c := co29) ?_).2.2; exact (by (with_reducible repeat first|apply rA|apply rN|apply rD); exact (Kd.R_mono (Kd.R_far (p := ⟨gb479, 1, none⟩) (Kd.R_far (p := ⟨gb479, 0, none⟩) (Kd.R_types HO477.out BK479.out (by decide)) (fun _ hk => hk.2) (.int .i64 t474)) (fun _ hk => hk.2) (.slice Ao29 t475.length co29)) (fun _ h_ => h_.1)))); (case side4 => exact (Kd.R_reads' HO477.out).2.1); rintro e w40 ⟨rfl, hb⟩; have _ := aM (Kd.R_below (by (with_reducible repeat first|apply rA|apply rN|apply rD); exact (Kd.R_mono (Kd.R_far (p := ⟨gb479, 1, none⟩) (Kd.R_far (p := ⟨gb479, 0, none⟩) (Kd.R_types HO_5.out BK479.out (by decide)) (fun _ hk => hk.2) (.int .i64 t474)) (fun _ hk => hk.2) (.slice Ao29 t475.length co29)) (fun _ h_ => h_.1))) hb); have _ := aM (Kd.R_below (by (with_reducible repeat first|apply rA|apply rN|apply rD); exact (Kd.R_mono (Kd.R_far (p := ⟨gb479, 1, none⟩) (Kd.R_far (p := ⟨gb479, 0, none⟩) (Kd.R_types HO_6.out BK479.out (by decide)) (fun _ hk => hk.2) (.int .i64 t474)) (fun _ hk => hk.2) (.slice Ao29 t475.length co29)) (fun _ h_ => h_.1))) hb); have _ := aM (Kd.R_below (by (with_reducible repeat first|apply rA|apply rN|apply rD); exact (Kd.R_mono (Kd.R_far (p := ⟨gb479, 1, none⟩) (Kd.R_far (p := ⟨gb479, 0, none⟩) (Kd.R_types HO471.out BK479.out (by decide)) (fun _ hk => hk.2) (.int .i64 t474)) (fun _ hk => hk.2) (.slice Ao29 t475.length co29)) (fun _ h_ => h_.1))) hb); have _ := aM (Kd.R_below (by (with_reducible repeat first|apply rA|apply rN|apply rD); exact (Kd.R_mono (Kd.R_far (p := ⟨gb479, 1, none⟩) (Kd.R_far (p := ⟨gb479, 0, none⟩) (Kd.R_types HO477.out BK479.out (by decide)) (fun _ hk => hk.2) (.int .i64 t474)) (fun _ hk => hk.2) (.slice Ao29 t475.length co29)) (fun _ h_ => h_.1))) hb); have _ := aM (blk_below (g := gb473) (o := .cells #[.int .i64 t468, .slice Ao24 t469.length co24] 31 (0, 0)) (by (with_reducible repeat first|apply qN|apply qD|apply qA); refine blk_far ?_ NB473_479.out _; (with_reducible repeat first|apply qN|apply qD|apply qA); refine blk_far ?_ NB473_479.out _; (with_reducible repeat first|apply qN|apply qD|apply qA); exact BK473.out) hb); have _ := aM (blk_below (g := gb479) (o := .cells #[.int .i64 t474, .slice Ao29 t475.length co29] 31 (0, 0)) (by (with_reducible repeat first|apply qN|apply qD|apply qA); refine blk_put (cs := #[.int .i64 t474, .slice none 0 0]) ?_ 1 _ rfl; (with_reducible repeat first|apply qN|apply qD|apply qA); refine blk_put (cs := #[.int .i64 0, .slice none 0 0]) ?_ 0 _ rfl; (with_reducible repeat first|apply qN|apply qD|apply qA); exact BK479.out) hb); have _ := aM (below_step bq hb); clear HO_5 HO_6 HO471 HO477 BK473 BK479 HB; rename_i HO_5 HO_6 HO471 HO477 BK473 BK479 HB; (try clear hb); (try clear hb2); (try clear hk); (try clear hi)))
        go_meet
        case rel => exact ⟨_, (true), eR, H', ⟨by have := HJ7.out; first | omega | exact Nat.le_refl _⟩, ⟨by (with_reducible repeat first|apply rA|apply rN|apply rD); exact Kd.R_mono HO_5.out (fun _ hk => ⟨hk.1.2, hk.2⟩)⟩, ⟨rQ HO_6⟩, ⟨by (with_reducible repeat first|apply rA|apply rN|apply rD); exact Kd.R_mono HO471.out (fun _ hk => ⟨hk.1.2, hk.2⟩)⟩, ⟨by (with_reducible repeat first|apply rA|apply rN|apply rD); exact Kd.R_mono HO477.out (fun _ hk => ⟨hk.1.2, hk.2⟩)⟩, ⟨qQ BK473⟩, ⟨qQ BK479⟩, ⟨bq⟩⟩
     case rest =>
      clear HC20
      try clear c1
      try clear c2
      try clear p2
      try clear c3
      try clear c4
      try clear c6
      try clear c13
      try clear c13b0
      try clear c13b1
      try clear c13b2
      try clear c17
      try clear c23
      try clear c24
      try clear c25
      try clear c26
      try clear c27
      try clear c28
      try clear c29
      try clear c30
      try clear c30b0
      try clear c30b1
      try clear c30b2
      try clear c32
      try clear c33
      try clear c37
      try clear hcz23_0
      try clear hcz23_1
      try clear hcz28_0
      try clear hcz28_1
      try clear hcz34_0
      try clear hcz34_1
      try clear hcz35_0
      try clear hcz35_1
      try clear hcz38_0
      try clear hcz38_1
      try clear hcz39_0
      try clear hcz39_1
      try clear hfz23_0
      try clear hfz23_1
      try clear hfz28_0
      try clear hfz28_1
      try clear hfz34_0
      try clear hfz34_1
      try clear hfz35_0
      try clear hfz35_1
      try clear hfz38_0
      try clear hfz38_1
      try clear hfz39_0
      try clear hfz39_1
      try clear p2
      obtain ⟨kq, x75_19, rfl, HA, HJ19, HO_5, HO_6, HO_474001, HO_480001, BK473, BK479, HB⟩ := hcut
      cases kq with
      | zero => exact absurd HA.out (by simp [lw.j1])
      | succ kj19 =>
       have H := HA.out
       clear HA
       simp only [lw.j1] at H
       by_cases c41 : x75_19 = true
       ·subst c41
        have H1 : (some false) = some r := by rw [if_pos rfl] at H; exact H
        clear H
        have H := H1
        clear H1
        obtain rfl := Option.some.inj H
        go_wp2
        go_ret
        exact ⟨eE, bq⟩
       ·replace c41 := Bool.eq_false_iff.mpr c41
        subst c41
        have H1 : (if t464 = true then ((impl_EndsOf.f kj19 t468 t469).bind fun bt481 => ((impl_MagnitudeOf.f kj19 t468 t469).bind fun bt485 => ((impl_AscentsOf.f kj19 t456).bind fun bt487 => (if bt481.2 = true then (if bt485.2 = true then (if bt487.2 = true then ((laws_pSameIntervals.f kj19 bt481.1 t459).bind fun t489 => (if t489 = true then (if (t456.length : Int) > 0 then (lw.j2 kj19 t456 (bt485.1 != (wrap64 (bt487.1 + 1))) t468 t469) else (lw.j2 kj19 t456 false t468 t469)) else (lw.j2 kj19 t456 true t468 t469))) else (lw.j2 kj19 t456 true t468 t469)) else (lw.j2 kj19 t456 true t468 t469)) else (lw.j2 kj19 t456 true t468 t469))))) else (some true)) = some r := by rw [if_neg (show ¬ (false = true) by decide)] at H; exact H
        clear H
        have H := H1
        clear H1
        by_cases c42 : t464 = true
        ·subst c42
         have H1 : ((impl_EndsOf.f kj19 t468 t469).bind fun bt481 => ((impl_MagnitudeOf.f kj19 t468 t469).bind fun bt485 => ((impl_AscentsOf.f kj19 t456).bind fun bt487 => (if bt481.2 = true then (if bt485.2 = true then (if bt487.2 = true then ((laws_pSameIntervals.f kj19 bt481.1 t459).bind fun t489 => (if t489 = true then (if (t456.length : Int) > 0 then (lw.j2 kj19 t456 (bt485.1 != (wrap64 (bt487.1 + 1))) t468 t469) else (lw.j2 kj19 t456 false t468 t469)) else (lw.j2 kj19 t456 true t468 t469))) else (lw.j2 kj19 t456 true t468 t469)) else (lw.j2 kj19 t456 true t468 t469)) else (lw.j2 kj19 t456 true t468 t469))))) = some r := by rw [if_pos rfl] at H; exact H
         clear H
         have H := H1
         clear H1
         replace H := bS H
         obtain ⟨⟨t481, t484⟩, A43, H⟩ := H
         try dsimp only at H
         replace H := bS H
         obtain ⟨⟨t485, t486⟩, A44, H⟩ := H
         try dsimp only at H
         replace H := bS H
         obtain ⟨⟨t487, t488⟩, A45, H⟩ := H
         try dsimp only at H
         have HC46 := aM H
         clear H
         have hnb47 := NB473_479.out
         have hnc47 := NB479_473.out
         have hcz48_0 := zc20 BK473
         have hcz48_1 := zc21 BK473
         have hfz48_0 := blk_frozen BK473.out 0
         have hfz48_1 := blk_frozen BK473.out 1
         go_upto_region 17 with (first | ((with_reducible refine gate_callee (f := 31) rfl ?_); refine gL (some 80) Tryd.func31 #[.agg #[.int .i64 t468, .slice Ao24 t469.length co24]] ?_; (with_reducible refine (impl_EndsOf.calls kj19 t468 _ _ t469 t481 t484 _ (HVV.out.below (by repeat (first | (with_reducible first | exact HB.out | apply bA | apply bN | apply bD) | exact HB.out | (refine Below.setCell ?_ ?_ _; rotate_left; first | exact GW473.out | exact GW479.out)))) (cQ ((Kd.R_reads' HO_474001.out).2.2)) ((Kd.R_reads' HO_474001.out).2.1) A43.out).mono ?_); rintro e w49 ⟨v482, rfl, ho0, hb⟩; refine ⟨_, rfl, ?_⟩; have _ := aM (Kd.R_below (rQ HO_5) hb); have _ := aM (Kd.R_elder' (rQ HO_6) (Kd.R_base ho0) hb); have _ := aM (Kd.R_below (rQ HO_474001) hb); have _ := aM (Kd.R_below (rQ HO_480001) hb); have _ := aM (Kd.R_lower (Kd.R_new' ho0 (Kd.R_lt (rQ HO_6))) (below_size bq)); have _ := aM (blk_below (qQ BK473) hb); have _ := aM (blk_below (qQ BK479) hb); have _ := aM (below_step bq hb); clear HO_5 HO_6 HO_474001 HO_480001 BK473 BK479 HB; rename_i HO_5 HO_6 HO_474001 HO_480001 HO483 BK473 BK479 HB; (try clear hb); (try clear hb2); (try clear hk); (try clear hi); (try clear ho0); have hcz50_0 := zc20 BK473; have hcz50_1 := zc21 BK473; have hfz50_0 := blk_frozen BK473.out 0; have hfz50_1 := blk_frozen BK473.out 1) | ((with_reducible refine gate_callee (f := 32) rfl ?_); refine gL (some 85) Tryd.func32 #[.agg #[.int .i64 t468, .slice Ao24 t469.length co24]] ?_; (with_reducible refine (impl_MagnitudeOf.calls kj19 t468 _ _ t469 t485 t486 _ (HVV.out.below (by repeat (first | (with_reducible first | exact HB.out | apply bA | apply bN | apply bD) | exact HB.out | (refine Below.setCell ?_ ?_ _; rotate_left; first | exact GW473.out | exact GW479.out)))) (cQ ((Kd.R_reads' HO_474001.out).2.2)) ((Kd.R_reads' HO_474001.out).2.1) A44.out).mono ?_); rintro e w51 ⟨rfl, hb⟩; refine ⟨_, rfl, ?_⟩; have _ := aM (Kd.R_below (rQ HO_5) hb); have _ := aM (Kd.R_below (rQ HO_6) hb); have _ := aM (Kd.R_below (rQ HO_474001) hb); have _ := aM (Kd.R_below (rQ HO_480001) hb); have _ := aM (Kd.R_below (rQ HO483) hb); have _ := aM (blk_below (qQ BK473) hb); have _ := aM (blk_below (qQ BK479) hb); have _ := aM (below_step bq hb); clear HO_5 HO_6 HO_474001 HO_480001 HO483 BK473 BK479 HB; rename_i HO_5 HO_6 HO_474001 HO_480001 HO483 BK473 BK479 HB; (try clear hb); (try clear hb2); (try clear hk); (try clear hi)) | ((with_reducible refine gate_callee (f := 33) rfl ?_); refine gL (some 90) Tryd.func33 #[.slice Ao10 t456.length co10] ?_; (with_reducible refine (impl_AscentsOf.calls kj19 _ _ t456 t487 t488 _ (cQ ((Kd.R_reads' HO_5.out).2.2)) ((Kd.R_reads' HO_5.out).2.1) A45.out).mono ?_); rintro e w' ⟨rfl, ⟨nd, rfl⟩⟩; refine ⟨_, rfl, ?_⟩))
         (try simp only [Act.put, List.setIfInBounds_toArray, List.set_cons_zero, List.set_cons_succ])
         go_cut [119] (fun v119 wc => ∃ (kq : Nat) (x119_45 : Bool), v119 = .bool x119_45 ∧ Aside0 (lw.j2 kq t456 x119_45 t468 t469 = some r) ∧ Aside0 (kq ≤ kj19) ∧ Aside0 (Kd.R (Kd.int .i64) 3 wc w.heap.size (fun k_ => some k_ ≠ ((.slice Ao24 t469.length co24) : Value).ownBlock ∧ some k_ ≠ ((.slice Ao29 t475.length co29) : Value).ownBlock) (.slice Ao10 t456.length co10) t456) ∧ Aside0 (Kd.R (Kd.int .i64) 3 wc w.heap.size (fun k_ => some k_ ≠ ((.slice Ao10 t456.length co10) : Value).ownBlock ∧ some k_ ≠ ((.slice Ao29 t475.length co29) : Value).ownBlock) (.slice Ao24 t469.length co24) t469) ∧ Aside0 (Kd.R (Kd.int .i64) 3 wc w.heap.size (fun k_ => some k_ ≠ ((.slice Ao10 t456.length co10) : Value).ownBlock ∧ some k_ ≠ ((.slice Ao24 t469.length co24) : Value).ownBlock) (.slice Ao29 t475.length co29) t475) ∧ Aside0 (wc.heap[gb473]? = some (.cells #[.int .i64 t468, (.slice Ao24 t469.length co24)] 31 (0, 0))) ∧ Aside0 (wc.heap[gb479]? = some (.cells #[.int .i64 t474, (.slice Ao29 t475.length co29)] 31 (0, 0))) ∧ Aside0 (Below w.heap.size w wc))
         case first =>
          have H := HC46.out
          clear HC46
          by_cases c52 : t484 = true
          ·subst c52
           have H1 : (if t486 = true then (if t488 = true then ((laws_pSameIntervals.f kj19 t481 t459).bind fun t489 => (if t489 = true then (if (t456.length : Int) > 0 then (lw.j2 kj19 t456 (t485 != (wrap64 (t487 + 1))) t468 t469) else (lw.j2 kj19 t456 false t468 t469)) else (lw.j2 kj19 t456 true t468 t469))) else (lw.j2 kj19 t456 true t468 t469)) else (lw.j2 kj19 t456 true t468 t469)) = some r := by rw [if_pos rfl] at H; exact H
           clear H
           have H := H1
           clear H1
           by_cases c53 : t486 = true
           ·subst c53
            have H1 : (if t488 = true then ((laws_pSameIntervals.f kj19 t481 t459).bind fun t489 => (if t489 = true then (if (t456.length : Int) > 0 then (lw.j2 kj19 t456 (t485 != (wrap64 (t487 + 1))) t468 t469) else (lw.j2 kj19 t456 false t468 t469)) else (lw.j2 kj19 t456 true t468 t469))) else (lw.j2 kj19 t456 true t468 t469)) = some r := by rw [if_pos rfl] at H; exact H
            clear H
            have H := H1
            clear H1
            by_cases c54 : t488 = true
            ·subst c54
             have H1 : ((laws_pSameIntervals.f kj19 t481 t459).bind fun t489 => (if t489 = true then (if (t456.length : Int) > 0 then (lw.j2 kj19 t456 (t485 != (wrap64 (t487 + 1))) t468 t469) else (lw.j2 kj19 t456 false t468 t469)) else (lw.j2 kj19 t456 true t468 t469))) = some r := by rw [if_pos rfl] at H; exact H
             clear H
             have H := H1
             clear H1
             replace H := bS H
             obtain ⟨t489, A55, H⟩ := H
             try dsimp only at H
             by_cases c56 : t489 = true
             ·subst c56
              have H1 : (if (t456.length : Int) > 0 then (lw.j2 kj19 t456 (t485 != (wrap64 (t487 + 1))) t468 t469) else (lw.j2 kj19 t456 false t468 t469)) = some r := by rw [if_pos rfl] at H; exact H
              clear H
              have H := H1
              clear H1
              by_cases c57 : (t456.length : Int) > 0
              ·rw [if_pos c57] at H
               have c57b0 := decide_eq_true c57
               have c57b1 : decide (0 < t456.length) = true := decide_eq_true (by omega)
               clear c57
               (first | rw [c57b0] | (simp only [i64_w, i32_w]; rw [c57b0]) | skip)
               have H' := aM H
               clear H
               obtain ⟨Ao58, co58, eo58⟩ := Kd.R_slice HO483.out
               subst eo58
               obtain ⟨Ao59, co59, eo59⟩ := Kd.R_slice HO_6.out
               subst eo59
               go_wp2_with (first | (go_at_call 27; (with_reducible refine (laws_pSameIntervals.calls kj19 _ _ t481 _ _ t459 true _ (cQ ((Kd.R_reads' HO483.out).2.2)) ((Kd.R_reads' HO483.out).2.1) ?side3 ?side4 A55.out).mono ?_); (case side3 => repeat (first | exact (Kd.R_reads' HO_6.out).2.2 | (with_reducible refine Kd.C_alloc ?_ _) | (with_reducible refine Kd.C_drewN ?_ _) | (with_reducible refine Kd.C_drew ?_))); (case side4 => exact (Kd.R_reads' HO_6.out).2.1); rintro e w' ⟨rfl, ⟨nd, rfl⟩⟩))
               go_meet
               case rel => exact ⟨_, ((t485 != (wrap64 (t487 + 1)))), eR, H', ⟨by have := HJ7.out; have := HJ19.out; first | omega | exact Nat.le_refl _⟩, ⟨rQ HO_5⟩, ⟨rQ HO_474001⟩, ⟨rQ HO_480001⟩, ⟨qQ BK473⟩, ⟨qQ BK479⟩, ⟨bq⟩⟩
              ·rw [if_neg c57] at H
               have c57b0 := decide_eq_false c57
               have c57b1 : decide (0 < t456.length) = false := decide_eq_false (by omega)
               clear c57
               (first | rw [c57b0] | (simp only [i64_w, i32_w]; rw [c57b0]) | skip)
               have H' := aM H
               clear H
               obtain ⟨Ao60, co60, eo60⟩ := Kd.R_slice HO483.out
               subst eo60
               obtain ⟨Ao61, co61, eo61⟩ := Kd.R_slice HO_6.out
               subst eo61
               go_wp2_with (first | (go_at_call 27; (with_reducible refine (laws_pSameIntervals.calls kj19 _ _ t481 _ _ t459 true _ (cQ ((Kd.R_reads' HO483.out).2.2)) ((Kd.R_reads' HO483.out).2.1) ?side3 ?side4 A55.out).mono ?_); (case side3 => repeat (first | exact (Kd.R_reads' HO_6.out).2.2 | (with_reducible refine Kd.C_alloc ?_ _) | (with_reducible refine Kd.C_drewN ?_ _) | (with_reducible refine Kd.C_drew ?_))); (case side4 => exact (Kd.R_reads' HO_6.out).2.1); rintro e w' ⟨rfl, ⟨nd, rfl⟩⟩))
               go_meet
               case rel => exact ⟨_, (false), eR, H', ⟨by have := HJ7.out; have := HJ19.out; first | omega | exact Nat.le_refl _⟩, ⟨rQ HO_5⟩, ⟨rQ HO_474001⟩, ⟨rQ HO_480001⟩, ⟨qQ BK473⟩, ⟨qQ BK479⟩, ⟨bq⟩⟩
             ·replace c56 := Bool.eq_false_iff.mpr c56
              subst c56
              have H1 : (lw.j2 kj19 t456 true t468 t469) = some r := by rw [if_neg (show ¬ (false = true) by decide)] at H; exact H
              clear H
              have H := H1
              clear H1
              have H' := aM H
              clear H
              obtain ⟨Ao62, co62, eo62⟩ := Kd.R_slice HO483.out
              subst eo62
              obtain ⟨Ao63, co63, eo63⟩ := Kd.R_slice HO_6.out
              subst eo63
              go_wp2_with (first | (go_at_call 27; (with_reducible refine (laws_pSameIntervals.calls kj19 _ _ t481 _ _ t459 false _ (cQ ((Kd.R_reads' HO483.out).2.2)) ((Kd.R_reads' HO483.out).2.1) ?side3 ?side4 A55.out).mono ?_); (case side3 => repeat (first | exact (Kd.R_reads' HO_6.out).2.2 | (with_reducible refine Kd.C_alloc ?_ _) | (with_reducible refine Kd.C_drewN ?_ _) | (with_reducible refine Kd.C_drew ?_))); (case side4 => exact (Kd.R_reads' HO_6.out).2.1); rintro e w' ⟨rfl, ⟨nd, rfl⟩⟩))
              go_meet
              case rel => exact ⟨_, (true), eR, H', ⟨by have := HJ7.out; have := HJ19.out; first | omega | exact Nat.le_refl _⟩, ⟨rQ HO_5⟩, ⟨rQ HO_474001⟩, ⟨rQ HO_480001⟩, ⟨qQ BK473⟩, ⟨qQ BK479⟩, ⟨bq⟩⟩
            ·replace c54 := Bool.eq_false_iff.mpr c54
             subst c54
             have H1 : (lw.j2 kj19 t456 true t468 t469) = some r := by rw [if_neg (show ¬ (false = true) by decide)] at H; exact H
             clear H
             have H := H1
             clear H1
             have H' := aM H
             clear H
             go_wp2
             go_meet
             case rel => exact ⟨_, (true), eR, H', ⟨by have := HJ7.out; have := HJ19.out; first | omega | exact Nat.le_refl _⟩, ⟨rQ HO_5⟩, ⟨rQ HO_474001⟩, ⟨rQ HO_480001⟩, ⟨qQ BK473⟩, ⟨qQ BK479⟩, ⟨bq⟩⟩
           ·replace c53 := Bool.eq_false_iff.mpr c53
            subst c53
            have H1 : (lw.j2 kj19 t456 true t468 t469) = some r := by rw [if_neg (show ¬ (false = true) by decide)] at H; exact H
            clear H
            have H := H1
            clear H1
            have H' := aM H
            clear H
            go_wp2
            go_meet
            case rel => exact ⟨_, (true), eR, H', ⟨by have := HJ7.out; have := HJ19.out; first | omega | exact Nat.le_refl _⟩, ⟨rQ HO_5⟩, ⟨rQ HO_474001⟩, ⟨rQ HO_480001⟩, ⟨qQ BK473⟩, ⟨qQ BK479⟩, ⟨bq⟩⟩
          ·replace c52 := Bool.eq_false_iff.mpr c52
           subst c52
           have H1 : (lw.j2 kj19 t456 true t468 t469) = some r := by rw [if_neg (show ¬ (false = true) by decide)] at H; exact H
           clear H
           have H := H1
           clear H1
           have H' := aM H
           clear H
           go_wp2
           go_meet
           case rel => exact ⟨_, (true), eR, H', ⟨by have := HJ7.out; have := HJ19.out; first | omega | exact Nat.le_refl _⟩, ⟨rQ HO_5⟩, ⟨rQ HO_474001⟩, ⟨rQ HO_480001⟩, ⟨qQ BK473⟩, ⟨qQ BK479⟩, ⟨bq⟩⟩
         case rest =>
          clear HC46
          try clear c1
          try clear c2
          try clear p2
          try clear c3
          try clear c4
          try clear c5
          try clear c6
          try clear p6
          try clear c13
          try clear c13b0
          try clear c13b1
          try clear c13b2
          try clear c17
          try clear c23
          try clear c24
          try clear c25
          try clear c26
          try clear c27
          try clear c28
          try clear c29
          try clear c30
          try clear c30b0
          try clear c30b1
          try clear c30b2
          try clear c31
          try clear c32
          try clear c33
          try clear c37
          try clear c41
          try clear c42
          try clear c47
          try clear c52
          try clear c53
          try clear c54
          try clear c56
          try clear c57
          try clear c57b0
          try clear c57b1
          try clear hcz23_0
          try clear hcz23_1
          try clear hcz28_0
          try clear hcz28_1
          try clear hcz34_0
          try clear hcz34_1
          try clear hcz35_0
          try clear hcz35_1
          try clear hcz38_0
          try clear hcz38_1
          try clear hcz39_0
          try clear hcz39_1
          try clear hcz48_0
          try clear hcz48_1
          try clear hcz50_0
          try clear hcz50_1
          try clear hfz23_0
          try clear hfz23_1
          try clear hfz28_0
          try clear hfz28_1
          try clear hfz34_0
          try clear hfz34_1
          try clear hfz35_0
          try clear hfz35_1
          try clear hfz38_0
          try clear hfz38_1
          try clear hfz39_0
          try clear hfz39_1
          try clear hfz48_0
          try clear hfz48_1
          try clear hfz50_0
          try clear hfz50_1
          try clear p2
          obtain ⟨kq, x119_45, rfl, HA, HJ45, HO_5, HO_474001, HO_480001, BK473, BK479, HB⟩ := hcut
          cases kq with
          | zero => exact absurd HA.out (by simp [lw.j2])
          | succ kj45 =>
           have H := HA.out
           clear HA
           simp only [lw.j2] at H
           by_cases c64 : x119_45 = true
           ·subst c64
            have H1 : (some false) = some r := by rw [if_pos rfl] at H; exact H
            clear H
            have H := H1
            clear H1
            obtain rfl := Option.some.inj H
            go_wp2
            go_ret
            exact ⟨eE, bq⟩
           ·replace c64 := Bool.eq_false_iff.mpr c64
            subst c64
            have H1 : (lw.l0 kj45 t456 0 0 t456 (t456.length : Int) 0 t468 t469) = some r := by rw [if_neg (show ¬ (false = true) by decide)] at H; exact H
            clear H
            have H := H1
            clear H1
            have H' := aM H
            clear H
            go_wp2
            go_loopg [20, 21, 122] kj45 (fun kq v20 v21 v122 w' => ∃ (x20_4 : Int) (x21_4 : Int) (x122_4 : Int), v20 = .int .i64 x20_4 ∧ v21 = .int .i64 x21_4 ∧ v122 = .int .i64 x122_4 ∧ Aside0 (lw.l0 kq t456 x20_4 x21_4 t456 (t456.length : Int) x122_4 t468 t469 = some r) ∧ Aside0 (kq ≤ kj45) ∧ Aside0 (Kd.R (Kd.int .i64) 3 w' w.heap.size (fun k_ => some k_ ≠ ((.slice Ao24 t469.length co24) : Value).ownBlock ∧ some k_ ≠ ((.slice Ao29 t475.length co29) : Value).ownBlock) (.slice Ao10 t456.length co10) t456) ∧ Aside0 (Kd.R (Kd.int .i64) 3 w' w.heap.size (fun k_ => some k_ ≠ ((.slice Ao24 t469.length co24) : Value).ownBlock ∧ some k_ ≠ ((.slice Ao29 t475.length co29) : Value).ownBlock) (.slice Ao10 t456.length co10) t456) ∧ Aside0 (Kd.R (Kd.int .i64) 3 w' w.heap.size (fun k_ => some k_ ≠ ((.slice Ao10 t456.length co10) : Value).ownBlock ∧ some k_ ≠ ((.slice Ao10 t456.length co10) : Value).ownBlock ∧ some k_ ≠ ((.slice Ao29 t475.length co29) : Value).ownBlock) (.slice Ao24 t469.length co24) t469) ∧ Aside0 (Kd.R (Kd.int .i64) 3 w' w.heap.size (fun k_ => some k_ ≠ ((.slice Ao10 t456.length co10) : Value).ownBlock ∧ some k_ ≠ ((.slice Ao10 t456.length co10) : Value).ownBlock ∧ some k_ ≠ ((.slice Ao24 t469.length co24) : Value).ownBlock) (.slice Ao29 t475.length co29) t475) ∧ Aside0 (w'.heap[gb473]? = some (.cells #[.int .i64 t468, (.slice Ao24 t469.length co24)] 31 (0, 0))) ∧ Aside0 (w'.heap[gb479]? = some (.cells #[.int .i64 t474, (.slice Ao29 t475.length co29)] 31 (0, 0))) ∧ Aside0 (Below w.heap.size w w'))
            case atStart => exact ⟨(0), (0), (0), eR, eR, eR, H', ⟨Nat.le_refl _⟩, ⟨rQ HO_5⟩, ⟨rQ HO_5⟩, ⟨by (with_reducible repeat first|apply rA|apply rN|apply rD); exact Kd.R_mono HO_474001.out (fun _ hk => ⟨hk.1, ⟨hk.1, hk.2⟩⟩)⟩, ⟨by (with_reducible repeat first|apply rA|apply rN|apply rD); exact Kd.R_mono HO_480001.out (fun _ hk => ⟨hk.1, ⟨hk.1, hk.2⟩⟩)⟩, ⟨qQ BK473⟩, ⟨qQ BK479⟩, ⟨bq⟩⟩
            case round =>
             clear H'
             try clear c1
             try clear c2
             try clear p2
             try clear c3
             try clear c4
             try clear c5
             try clear c6
             try clear p6
             try clear c13
             try clear c13b0
             try clear c13b1
             try clear c13b2
             try clear c17
             try clear c23
             try clear c24
             try clear c25
             try clear c26
             try clear c27
             try clear c28
             try clear c29
             try clear c30
             try clear c30b0
             try clear c30b1
             try clear c30b2
             try clear c31
             try clear c32
             try clear c33
             try clear c37
             try clear c41
             try clear c42
             try clear c47
             try clear c52
             try clear c53
             try clear c54
             try clear c56
             try clear c57
             try clear c57b0
             try clear c57b1
             try clear c64
             try clear p64
             try clear hcz23_0
             try clear hcz23_1
             try clear hcz28_0
             try clear hcz28_1
             try clear hcz34_0
             try clear hcz34_1
             try clear hcz35_0
             try clear hcz35_1
             try clear hcz38_0
             try clear hcz38_1
             try clear hcz39_0
             try clear hcz39_1
             try clear hcz48_0
             try clear hcz48_1
             try clear hcz50_0
             try clear hcz50_1
             try clear hfz23_0
             try clear hfz23_1
             try clear hfz28_0
             try clear hfz28_1
             try clear hfz34_0
             try clear hfz34_1
             try clear hfz35_0
             try clear hfz35_1
             try clear hfz38_0
             try clear hfz38_1
             try clear hfz39_0
             try clear hfz39_1
             try clear hfz48_0
             try clear hfz48_1
             try clear hfz50_0
             try clear hfz50_1
             try clear p2
             try clear p6
             obtain ⟨x20_4, x21_4, x122_4, rfl, rfl, rfl, HA, HK4, HO_5, HO_120, HO_474001, HO_480001, BK473, BK479, HB⟩ := hrel
             cases gk with
             | zero => exact absurd HA.out (by simp [lw.l0])
             | succ k4 =>
              have H := HA.out
              clear HA
              simp only [lw.l0] at H
              by_cases c65 : x122_4 < (t456.length : Int)
              ·rw [if_pos c65] at H
               have c65b0 := decide_eq_true c65
               clear c65
               replace H := iD2 H
               obtain ⟨c66b0, c67b0, H⟩ := H
               replace H := bS H
               obtain ⟨⟨t491, t492⟩, A68, H⟩ := H
               try dsimp only at H
               by_cases c69 : t492 = true
               ·subst c69
                have H1 : (if (rd t456 x122_4) = 0 then (if t491 = 0 then (lw.l0 k4 t456 (wrap64 (x20_4 + 1)) (wrap64 (x21_4 + 1)) t456 (t456.length : Int) (wrap64 (x122_4 + 1)) t468 t469) else (lw.l0 k4 t456 (wrap64 (x20_4 + 1)) x21_4 t456 (t456.length : Int) (wrap64 (x122_4 + 1)) t468 t469)) else (if t491 = 0 then (lw.l0 k4 t456 x20_4 (wrap64 (x21_4 + 1)) t456 (t456.length : Int) (wrap64 (x122_4 + 1)) t468 t469) else (lw.l0 k4 t456 x20_4 x21_4 t456 (t456.length : Int) (wrap64 (x122_4 + 1)) t468 t469))) = some r := by rw [if_pos rfl] at H; exact H
                clear H
                have H := H1
                clear H1
                by_cases c70 : (rd t456 x122_4) = 0
                ·rw [if_pos c70] at H
                 have c70b0 : ((rd t456 x122_4) == 0) = true := beq_iff_eq.mpr c70
                 have c70b1 : ((rd t456 x122_4) != 0) = false := bne_eq_false_iff_eq.mpr c70
                 clear c70
                 by_cases c71 : t491 = 0
                 ·rw [if_pos c71] at H
                  have c71b0 : (t491 == 0) = true := beq_iff_eq.mpr c71
                  have c71b1 : (t491 != 0) = false := bne_eq_false_iff_eq.mpr c71
                  clear c71
                  have H' := aM H
                  clear H
                  have p490 : 0 ≤ (x122_4 : Int) := odt
                  have q490 : x122_4 < (t456.length : Int) := odt
                  obtain ⟨ad490, e490, hx490_0⟩ := Kd.at_int (Kd.R_reads' HO_120.out).2.2 x122_4 p490 q490
                  cases e490
                  replace p490 := eq_true p490
                  replace q490 := eq_true q490
                  have hnb72 := NB473_479.out
                  have hnc72 := NB479_473.out
                  have hcz73_0 := zc20 BK473
                  have hcz73_1 := zc21 BK473
                  have hfz73_0 := blk_frozen BK473.out 0
                  have hfz73_1 := blk_frozen BK473.out 1
                  go_wp2_with (first | ((with_reducible refine gate_callee (f := 34) rfl ?_); refine gL (some 130) Tryd.func34 #[.agg #[.int .i64 t468, .slice Ao24 t469.length co24], .int .i64 x122_4] ?_; (with_reducible refine (impl_BelowOf.calls k4 t468 _ _ t469 x122_4 t491 true _ (cQ ((Kd.R_reads' HO_474001.out).2.2)) ((Kd.R_reads' HO_474001.out).2.1) A68.out).mono ?_); rintro e w74 ⟨rfl, hb⟩; refine ⟨_, rfl, ?_⟩; have _ := aM (Kd.R_below (rQ HO_5) hb); have _ := aM (Kd.R_below (rQ HO_120) hb); have _ := aM (Kd.R_below (rQ HO_474001) hb); have _ := aM (Kd.R_below (rQ HO_480001) hb); have _ := aM (blk_below (qQ BK473) hb); have _ := aM (blk_below (qQ BK479) hb); have _ := aM (below_step bq hb); clear HO_5 HO_120 HO_474001 HO_480001 BK473 BK479 HB; rename_i HO_5 HO_120 HO_474001 HO_480001 BK473 BK479 HB; (try clear hb); (try clear hb2); (try clear hk); (try clear hi)))
                  go_roundg k4
                  case measure => have := HJ7.out; have := HJ19.out; have := HJ45.out; have := HK4.out; omega
                  case rel => exact ⟨(wrap64 (x20_4 + 1)), (wrap64 (x21_4 + 1)), (wrap64 (x122_4 + 1)), eR, eR, eR, H', ⟨by have := HJ7.out; have := HJ19.out; have := HJ45.out; have := HK4.out; omega⟩, ⟨rQ HO_5⟩, ⟨rQ HO_120⟩, ⟨rQ HO_474001⟩, ⟨rQ HO_480001⟩, ⟨qQ BK473⟩, ⟨qQ BK479⟩, ⟨bq⟩⟩
                 ·rw [if_neg c71] at H
                  have c71b0 : (t491 == 0) = false := beq_eq_false_iff_ne.mpr c71
                  have c71b1 : (t491 != 0) = true := bne_iff_ne.mpr c71
                  have H' := aM H
                  clear H
                  have p490 : 0 ≤ (x122_4 : Int) := odt
                  have q490 : x122_4 < (t456.length : Int) := odt
                  obtain ⟨ad490, e490, hx490_0⟩ := Kd.at_int (Kd.R_reads' HO_120.out).2.2 x122_4 p490 q490
                  cases e490
                  replace p490 := eq_true p490
                  replace q490 := eq_true q490
                  have hnb75 := NB473_479.out
                  have hnc75 := NB479_473.out
                  have hcz76_0 := zc20 BK473
                  have hcz76_1 := zc21 BK473
                  have hfz76_0 := blk_frozen BK473.out 0
                  have hfz76_1 := blk_frozen BK473.out 1
                  go_wp2_with (first | ((with_reducible refine gate_callee (f := 34) rfl ?_); refine gL (some 130) Tryd.func34 #[.agg #[.int .i64 t468, .slice Ao24 t469.length co24], .int .i64 x122_4] ?_; (with_reducible refine (impl_BelowOf.calls k4 t468 _ _ t469 x122_4 t491 true _ (cQ ((Kd.R_reads' HO_474001.out).2.2)) ((Kd.R_reads' HO_474001.out).2.1) A68.out).mono ?_); rintro e w77 ⟨rfl, hb⟩; refine ⟨_, rfl, ?_⟩; have _ := aM (Kd.R_below (rQ HO_5) hb); have _ := aM (Kd.R_below (rQ HO_120) hb); have _ := aM (Kd.R_below (rQ HO_474001) hb); have _ := aM (Kd.R_below (rQ HO_480001) hb); have _ := aM (blk_below (qQ BK473) hb); have _ := aM (blk_below (qQ BK479) hb); have _ := aM (below_step bq hb); clear HO_5 HO_120 HO_474001 HO_480001 BK473 BK479 HB; rename_i HO_5 HO_120 HO_474001 HO_480001 BK473 BK479 HB; (try clear hb); (try clear hb2); (try clear hk); (try clear hi)))
                  go_roundg k4
                  case measure => have := HJ7.out; have := HJ19.out; have := HJ45.out; have := HK4.out; omega
                  case rel => exact ⟨(wrap64 (x20_4 + 1)), (x21_4), (wrap64 (x122_4 + 1)), eR, eR, eR, H', ⟨by have := HJ7.out; have := HJ19.out; have := HJ45.out; have := HK4.out; omega⟩, ⟨rQ HO_5⟩, ⟨rQ HO_120⟩, ⟨rQ HO_474001⟩, ⟨rQ HO_480001⟩, ⟨qQ BK473⟩, ⟨qQ BK479⟩, ⟨bq⟩⟩
                ·rw [if_neg c70] at H
                 have c70b0 : ((rd t456 x122_4) == 0) = false := beq_eq_false_iff_ne.mpr c70
                 have c70b1 : ((rd t456 x122_4) != 0) = true := bne_iff_ne.mpr c70
                 by_cases c78 : t491 = 0
                 ·rw [if_pos c78] at H
                  have c78b0 : (t491 == 0) = true := beq_iff_eq.mpr c78
                  have c78b1 : (t491 != 0) = false := bne_eq_false_iff_eq.mpr c78
                  clear c78
                  have H' := aM H
                  clear H
                  have p490 : 0 ≤ (x122_4 : Int) := odt
                  have q490 : x122_4 < (t456.length : Int) := odt
                  obtain ⟨ad490, e490, hx490_0⟩ := Kd.at_int (Kd.R_reads' HO_120.out).2.2 x122_4 p490 q490
                  cases e490
                  replace p490 := eq_true p490
                  replace q490 := eq_true q490
                  have hnb79 := NB473_479.out
                  have hnc79 := NB479_473.out
                  have hcz80_0 := zc20 BK473
                  have hcz80_1 := zc21 BK473
                  have hfz80_0 := blk_frozen BK473.out 0
                  have hfz80_1 := blk_frozen BK473.out 1
                  go_wp2_with (first | ((with_reducible refine gate_callee (f := 34) rfl ?_); refine gL (some 130) Tryd.func34 #[.agg #[.int .i64 t468, .slice Ao24 t469.length co24], .int .i64 x122_4] ?_; (with_reducible refine (impl_BelowOf.calls k4 t468 _ _ t469 x122_4 t491 true _ (cQ ((Kd.R_reads' HO_474001.out).2.2)) ((Kd.R_reads' HO_474001.out).2.1) A68.out).mono ?_); rintro e w81 ⟨rfl, hb⟩; refine ⟨_, rfl, ?_⟩; have _ := aM (Kd.R_below (rQ HO_5) hb); have _ := aM (Kd.R_below (rQ HO_120) hb); have _ := aM (Kd.R_below (rQ HO_474001) hb); have _ := aM (Kd.R_below (rQ HO_480001) hb); have _ := aM (blk_below (qQ BK473) hb); have _ := aM (blk_below (qQ BK479) hb); have _ := aM (below_step bq hb); clear HO_5 HO_120 HO_474001 HO_480001 BK473 BK479 HB; rename_i HO_5 HO_120 HO_474001 HO_480001 BK473 BK479 HB; (try clear hb); (try clear hb2); (try clear hk); (try clear hi)))
                  go_roundg k4
                  case measure => have := HJ7.out; have := HJ19.out; have := HJ45.out; have := HK4.out; omega
                  case rel => exact ⟨(x20_4), (wrap64 (x21_4 + 1)), (wrap64 (x122_4 + 1)), eR, eR, eR, H', ⟨by have := HJ7.out; have := HJ19.out; have := HJ45.out; have := HK4.out; omega⟩, ⟨rQ HO_5⟩, ⟨rQ HO_120⟩, ⟨rQ HO_474001⟩, ⟨rQ HO_480001⟩, ⟨qQ BK473⟩, ⟨qQ BK479⟩, ⟨bq⟩⟩
                 ·rw [if_neg c78] at H
                  have c78b0 : (t491 == 0) = false := beq_eq_false_iff_ne.mpr c78
                  have c78b1 : (t491 != 0) = true := bne_iff_ne.mpr c78
                  have H' := aM H
                  clear H
                  have p490 : 0 ≤ (x122_4 : Int) := odt
                  have q490 : x122_4 < (t456.length : Int) := odt
                  obtain ⟨ad490, e490, hx490_0⟩ := Kd.at_int (Kd.R_reads' HO_120.out).2.2 x122_4 p490 q490
                  cases e490
                  replace p490 := eq_true p490
                  replace q490 := eq_true q490
                  have hnb82 := NB473_479.out
                  have hnc82 := NB479_473.out
                  have hcz83_0 := zc20 BK473
                  have hcz83_1 := zc21 BK473
                  have hfz83_0 := blk_frozen BK473.out 0
                  have hfz83_1 := blk_frozen BK473.out 1
                  go_wp2_with (first | ((with_reducible refine gate_callee (f := 34) rfl ?_); refine gL (some 130) Tryd.func34 #[.agg #[.int .i64 t468, .slice Ao24 t469.length co24], .int .i64 x122_4] ?_; (with_reducible refine (impl_BelowOf.calls k4 t468 _ _ t469 x122_4 t491 true _ (cQ ((Kd.R_reads' HO_474001.out).2.2)) ((Kd.R_reads' HO_474001.out).2.1) A68.out).mono ?_); rintro e w84 ⟨rfl, hb⟩; refine ⟨_, rfl, ?_⟩; have _ := aM (Kd.R_below (rQ HO_5) hb); have _ := aM (Kd.R_below (rQ HO_120) hb); have _ := aM (Kd.R_below (rQ HO_474001) hb); have _ := aM (Kd.R_below (rQ HO_480001) hb); have _ := aM (blk_below (qQ BK473) hb); have _ := aM (blk_below (qQ BK479) hb); have _ := aM (below_step bq hb); clear HO_5 HO_120 HO_474001 HO_480001 BK473 BK479 HB; rename_i HO_5 HO_120 HO_474001 HO_480001 BK473 BK479 HB; (try clear hb); (try clear hb2); (try clear hk); (try clear hi)))
                  go_roundg k4
                  case measure => have := HJ7.out; have := HJ19.out; have := HJ45.out; have := HK4.out; omega
                  case rel => exact ⟨(x20_4), (x21_4), (wrap64 (x122_4 + 1)), eR, eR, eR, H', ⟨by have := HJ7.out; have := HJ19.out; have := HJ45.out; have := HK4.out; omega⟩, ⟨rQ HO_5⟩, ⟨rQ HO_120⟩, ⟨rQ HO_474001⟩, ⟨rQ HO_480001⟩, ⟨qQ BK473⟩, ⟨qQ BK479⟩, ⟨bq⟩⟩
               ·replace c69 := Bool.eq_false_iff.mpr c69
                subst c69
                have H1 : (some false) = some r := by rw [if_neg (show ¬ (false = true) by decide)] at H; exact H
                clear H
                have H := H1
                clear H1
                obtain rfl := Option.some.inj H
                have p490 : 0 ≤ (x122_4 : Int) := odt
                have q490 : x122_4 < (t456.length : Int) := odt
                obtain ⟨ad490, e490, hx490_0⟩ := Kd.at_int (Kd.R_reads' HO_120.out).2.2 x122_4 p490 q490
                cases e490
                replace p490 := eq_true p490
                replace q490 := eq_true q490
                have hnb85 := NB473_479.out
                have hnc85 := NB479_473.out
                have hcz86_0 := zc20 BK473
                have hcz86_1 := zc21 BK473
                have hfz86_0 := blk_frozen BK473.out 0
                have hfz86_1 := blk_frozen BK473.out 1
                go_wp2_with (first | ((with_reducible refine gate_callee (f := 34) rfl ?_); refine gL (some 130) Tryd.func34 #[.agg #[.int .i64 t468, .slice Ao24 t469.length co24], .int .i64 x122_4] ?_; (with_reducible refine (impl_BelowOf.calls k4 t468 _ _ t469 x122_4 t491 false _ (cQ ((Kd.R_reads' HO_474001.out).2.2)) ((Kd.R_reads' HO_474001.out).2.1) A68.out).mono ?_); rintro e w87 ⟨rfl, hb⟩; refine ⟨_, rfl, ?_⟩; have _ := aM (Kd.R_below (rQ HO_5) hb); have _ := aM (Kd.R_below (rQ HO_120) hb); have _ := aM (Kd.R_below (rQ HO_474001) hb); have _ := aM (Kd.R_below (rQ HO_480001) hb); have _ := aM (blk_below (qQ BK473) hb); have _ := aM (blk_below (qQ BK479) hb); have _ := aM (below_step bq hb); clear HO_5 HO_120 HO_474001 HO_480001 BK473 BK479 HB; rename_i HO_5 HO_120 HO_474001 HO_480001 BK473 BK479 HB; (try clear hb); (try clear hb2); (try clear hk); (try clear hi)))
                go_ret
                exact ⟨eE, bq⟩
              ·rw [if_neg c65] at H
               have c65b0 := decide_eq_false c65
               clear c65
               by_cases c88 : x20_4 = x21_4
               ·rw [if_pos c88] at H
                have c88b0 : (x20_4 == x21_4) = true := beq_iff_eq.mpr c88
                have c88b1 : (x20_4 != x21_4) = false := bne_eq_false_iff_eq.mpr c88
                clear c88
                by_cases c89 : (t456.length : Int) = 0
                ·rw [if_pos c89] at H
                 have c89b0 : ((t456.length : Int) == 0) = true := beq_iff_eq.mpr c89
                 have c89b1 : ((t456.length : Int) != 0) = false := bne_eq_false_iff_eq.mpr c89
                 clear c89
                 obtain rfl := Option.some.inj H
                 go_wp2
                 go_ret
                 exact ⟨eE, bq⟩
                ·rw [if_neg c89] at H
                 have c89b0 : ((t456.length : Int) == 0) = false := beq_eq_false_iff_ne.mpr c89
                 have c89b1 : ((t456.length : Int) != 0) = true := bne_iff_ne.mpr c89
                 have c89b2 : ¬ (t456 = []) := fun h_ => c89 (by rw [h_]; rfl)
                 replace H := bS H
                 obtain ⟨⟨t493, t496⟩, A90, H⟩ := H
                 try dsimp only at H
                 by_cases c91 : t496 = true
                 ·subst c91
                  have H1 : ((laws_pSame.f k4 t493 t456).bind fun t497 => (some t497)) = some r := by rw [if_pos rfl] at H; exact H
                  clear H
                  have H := H1
                  clear H1
                  replace H := bS H
                  obtain ⟨t497, A92, H⟩ := H
                  try dsimp only at H
                  obtain rfl := Option.some.inj H
                  have hnb93 := NB473_479.out
                  have hnc93 := NB479_473.out
                  have hcz94_0 := zc20 BK473
                  have hcz94_1 := zc21 BK473
                  have hfz94_0 := blk_frozen BK473.out 0
                  have hfz94_1 := blk_frozen BK473.out 1
                  go_wp2_with (first | ((with_reducible refine gate_callee (f := 17) rfl ?_); refine gL (some 152) Tryd.func17 #[.agg #[.int .i64 t468, .slice Ao24 t469.length co24]] ?_; (with_reducible refine (impl_AscentOfOrder.calls k4 t468 _ _ t469 t493 true _ (HVV.out.below bq) (cQ ((Kd.R_reads' HO_474001.out).2.2)) ((Kd.R_reads' HO_474001.out).2.1) A90.out).mono ?_); rintro e w95 ⟨v494, rfl, ho0, hb⟩; refine ⟨_, rfl, ?_⟩; have _ := aM (Kd.R_elder' (rQ HO_5) (Kd.R_base ho0) hb); have _ := aM (Kd.R_elder' (rQ HO_120) (Kd.R_base ho0) hb); have _ := aM (Kd.R_elder' (rQ HO_474001) (Kd.R_base ho0) hb); have _ := aM (Kd.R_elder' (rQ HO_480001) (Kd.R_base ho0) hb); have _ := aM (Kd.R_lower (Kd.R_new' (Kd.R_new' (Kd.R_new' (Kd.R_new' ho0 (Kd.R_lt (rQ HO_5))) (Kd.R_lt (rQ HO_120))) (Kd.R_lt (rQ HO_474001))) (Kd.R_lt (rQ HO_480001))) (below_size bq)); have _ := aM (blk_below (qQ BK473) hb); have _ := aM (blk_below (qQ BK479) hb); have _ := aM (below_step bq hb); clear HO_5 HO_120 HO_474001 HO_480001 BK473 BK479 HB; rename_i HO_5 HO_120 HO_474001 HO_480001 HO495 BK473 BK479 HB; (try clear hb); (try clear hb2); (try clear hk); (try clear hi); (try clear ho0); obtain ⟨Ao96, co96, eo96⟩ := Kd.R_slice HO495.out; subst eo96) | (go_at_call 35; (with_reducible refine (laws_pSame.calls k4 _ _ t493 _ _ t456 t497 _ (cQ ((Kd.R_reads' HO495.out).2.2)) ((Kd.R_reads' HO495.out).2.1) ?side3 ?side4 A92.out).mono ?_); (case side3 => repeat (first | exact (Kd.R_reads' HO_5.out).2.2 | (with_reducible refine Kd.C_alloc ?_ _) | (with_reducible refine Kd.C_drewN ?_ _) | (with_reducible refine Kd.C_drew ?_))); (case side4 => exact (Kd.R_reads' HO_5.out).2.1); rintro e w' ⟨rfl, ⟨nd, rfl⟩⟩))
                  go_ret
                  exact ⟨eE, bq⟩
                 ·replace c91 := Bool.eq_false_iff.mpr c91
                  subst c91
                  have H1 : (some false) = some r := by rw [if_neg (show ¬ (false = true) by decide)] at H; exact H
                  clear H
                  have H := H1
                  clear H1
                  obtain rfl := Option.some.inj H
                  have hnb97 := NB473_479.out
                  have hnc97 := NB479_473.out
                  have hcz98_0 := zc20 BK473
                  have hcz98_1 := zc21 BK473
                  have hfz98_0 := blk_frozen BK473.out 0
                  have hfz98_1 := blk_frozen BK473.out 1
                  go_wp2_with (first | ((with_reducible refine gate_callee (f := 17) rfl ?_); refine gL (some 152) Tryd.func17 #[.agg #[.int .i64 t468, .slice Ao24 t469.length co24]] ?_; (with_reducible refine (impl_AscentOfOrder.calls k4 t468 _ _ t469 t493 false _ (HVV.out.below bq) (cQ ((Kd.R_reads' HO_474001.out).2.2)) ((Kd.R_reads' HO_474001.out).2.1) A90.out).mono ?_); rintro e w99 ⟨v494, rfl, ho0, hb⟩; refine ⟨_, rfl, ?_⟩; have _ := aM (Kd.R_elder' (rQ HO_5) (Kd.R_base ho0) hb); have _ := aM (Kd.R_elder' (rQ HO_120) (Kd.R_base ho0) hb); have _ := aM (Kd.R_elder' (rQ HO_474001) (Kd.R_base ho0) hb); have _ := aM (Kd.R_elder' (rQ HO_480001) (Kd.R_base ho0) hb); have _ := aM (Kd.R_lower (Kd.R_new' (Kd.R_new' (Kd.R_new' (Kd.R_new' ho0 (Kd.R_lt (rQ HO_5))) (Kd.R_lt (rQ HO_120))) (Kd.R_lt (rQ HO_474001))) (Kd.R_lt (rQ HO_480001))) (below_size bq)); have _ := aM (blk_below (qQ BK473) hb); have _ := aM (blk_below (qQ BK479) hb); have _ := aM (below_step bq hb); clear HO_5 HO_120 HO_474001 HO_480001 BK473 BK479 HB; rename_i HO_5 HO_120 HO_474001 HO_480001 HO495 BK473 BK479 HB; (try clear hb); (try clear hb2); (try clear hk); (try clear hi); (try clear ho0)))
                  go_ret
                  exact ⟨eE, bq⟩
               ·rw [if_neg c88] at H
                have c88b0 : (x20_4 == x21_4) = false := beq_eq_false_iff_ne.mpr c88
                have c88b1 : (x20_4 != x21_4) = true := bne_iff_ne.mpr c88
                obtain rfl := Option.some.inj H
                go_wp2
                go_ret
                exact ⟨eE, bq⟩
        ·replace c42 := Bool.eq_false_iff.mpr c42
         subst c42
         have H1 : (some true) = some r := by rw [if_neg (show ¬ (false = true) by decide)] at H; exact H
         clear H
         have H := H1
         clear H1
         obtain rfl := Option.some.inj H
         go_wp2
         go_ret
         exact ⟨eE, bq⟩

def laws_FnAscentsBuildEnds.Pure : Prop := ∀ (l0 : List Int) (l1 : List Int), l0.length ≤ maxLen → l0.length * 1 ≤ 140737488351232 → (∀ x ∈ l0, (Lit.int .u8 x).wf = true) → l1.length ≤ maxLen → l1.length * 1 ≤ 140737488351232 → (∀ x ∈ l1, (Lit.int .u8 x).wf = true) → ∃ k, laws_FnAscentsBuildEnds.f k l0 l1 = some true
theorem laws_FnAscentsBuildEnds.walk (P : laws_FnAscentsBuildEnds.Pure) (a0 : Option Addr) (len0 cap0 : Nat) (z0 : List Int) (a1 : Option Addr) (len1 cap1 : Nat) (z1 : List Int) (w : World) (hV : TabZ w) (w0 : (a0 = none ∧ len0 = 0 ∧ cap0 = 0 ∧ z0 = []) ∨ ∃ x, a0 = some x ∧ len0 ≤ cap0 ∧ cap0 ≤ maxLen ∧ z0.length = cap0 ∧ (∀ i, i < z0.length → w.cell? (x.add i) = some (.int .u8 (z0.getD i 0))) ∧ ∀ n ∈ z0, (Lit.int .u8 n).wf = true) (y0 : len0 * 1 ≤ 140737488351232) (w1 : (a1 = none ∧ len1 = 0 ∧ cap1 = 0 ∧ z1 = []) ∨ ∃ x, a1 = some x ∧ len1 ≤ cap1 ∧ cap1 ≤ maxLen ∧ z1.length = cap1 ∧ (∀ i, i < z1.length → w.cell? (x.add i) = some (.int .u8 (z1.getD i 0))) ∧ ∀ n ∈ z1, (Lit.int .u8 n).wf = true) (y1 : len1 * 1 ≤ 140737488351232) :
  Calls Tryd.prog 6 #[.slice a0 len0 cap0, .slice a1 len1 cap1] w fun e w' => e = .returned (.bool true) ∧ Below w.heap.size w w' := by
 obtain ⟨l0, rfl, hr0, hm0, hw0, hc0⟩ := ReadsInt.ofRowC w0
 obtain ⟨l1, rfl, hr1, hm1, hw1, hc1⟩ := ReadsInt.ofRowC w1
 obtain ⟨k, h⟩ := P l0 l1 hm0 y0 hw0 hm1 y1 hw1
 refine (laws_FnAscentsBuildEnds.calls k _ _ l0 _ _ l1 true w hV (Kd.C_of_reads (d := (0 : Int)) (h1 := fun _ => rfl) hr0) hc0 (Kd.C_of_reads (d := (0 : Int)) (h1 := fun _ => rfl) hr1) hc1 h).mono ?_
 rintro e w' ⟨rfl, hd⟩
 exact ⟨rfl, hd⟩

end Go.Proofs.YtcodionjhcmfhaaDoor.Be
