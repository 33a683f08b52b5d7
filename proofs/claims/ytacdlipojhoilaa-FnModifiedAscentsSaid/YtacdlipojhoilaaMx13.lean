-- Written by hook.py, a program of this session (wip/), which runs the kit's print.py with its own parts; Lean checks it.
import Derived.Test.YtacdlipojhoilaaMx0
import Derived.Test.YtacdlipojhoilaaMx1
import Derived.Test.YtacdlipojhoilaaMx2
import Derived.Test.YtacdlipojhoilaaMx4
import Derived.Test.YtacdlipojhoilaaMx5
import Derived.Test.YtacdlipojhoilaaMx7
import Derived.Test.YtacdlipojhoilaaMx8
import Derived.Test.YtacdlipojhoilaaMx10
import Derived.Test.YtacdlipojhoilaaMx12
import Derived.Test.YtacdlipojhoilaaXSq
namespace Go.Proofs.Ytacdlipojhoilaa.Mx
open Go.RowKit Go.Proofs.YtacdlipojhoilaaW.PrintWords Go.Proofs.YtacdlipojhoilaaW.PrintLast Go.Proofs.YtacdlipojhoilaaW.PrintMore Go.Proofs.Ytacdlipojhoilaa.Sq
attribute [local go_sem] max2_int min2_int max_two min_two max_three min_three max_four min_four   -- for this text's walks alone
set_option linter.unusedVariables false
set_option linter.unusedSimpArgs false

/-! ### impl_intervalsOf: function 117 -/
def impl_intervalsOf.l0 : Nat → List (S62) → List Int → Int → Int → Option ((List (S62)))
 | 0, _, _, _, _ => none
 | k + 1, x3, x7, x8, x9 => if x9 < x8 then (if 0 ≤ x9 then (if x9 < (x7.length : Int) then ((impl_build.f k x3 (rd x7 x9)).bind fun t289 => (impl_intervalsOf.l0 k t289 x7 x8 (wrap64 (x9 + 1)))) else (none)) else (none)) else (some x3)
def impl_intervalsOf.f (k : Nat) (l0 : List Int) : Option ((List (S62))) := impl_intervalsOf.l0 k (([] : List (S62))) l0 (l0.length : Int) 0
theorem impl_intervalsOf.mono_l : ∀ k, (∀ y0 y1 y2 y3, LeO (impl_intervalsOf.l0 k y0 y1 y2 y3) (impl_intervalsOf.l0 (k + 1) y0 y1 y2 y3))
 | 0 => fun _ _ _ _ r h => by simp [impl_intervalsOf.l0] at h
 | k + 1 => by
  have ih0 := impl_intervalsOf.mono_l k
  ·intro y0 y1 y2 y3
   unfold impl_intervalsOf.l0
   repeat' first | with_reducible first | exact ih0 _ _ _ _ | exact impl_build.mono _ _ _ | exact LeO.refl _ | exact LeO.none _ | refine LeO.ite ?_ ?_ | refine LeO.bind ?_ (fun _ => ?_)
theorem impl_intervalsOf.mono : ∀ a0 k, LeO (impl_intervalsOf.f k a0) (impl_intervalsOf.f (k + 1) a0) := by
 intro a0 k
 have ih0 := impl_intervalsOf.mono_l k
 unfold impl_intervalsOf.f
 repeat' first | with_reducible first | exact ih0 _ _ _ _ | exact impl_build.mono _ _ _ | exact LeO.refl _ | exact LeO.none _ | refine LeO.ite ?_ ?_ | refine LeO.bind ?_ (fun _ => ?_)
set_option maxHeartbeats 8000000 in
set_option maxRecDepth 100000 in
theorem impl_intervalsOf.calls (k : Nat) (A0 : Option Addr) (c0 : Nat) (l0 : List Int) (r : List (S62)) (w : World) (hr0 : Kd.C (Kd.int .i64) w A0 l0.length l0) (hc0 : l0.length ≤ c0) (h : impl_intervalsOf.f k l0 = some r) :
  Calls Try.prog 117 #[.slice A0 l0.length c0] w fun e w' => ∃ v0_ : Value, e = .returned (v0_) ∧ Kd.R k62 62 w' w.heap.size (fun _ => True) v0_ r ∧ Below w.heap.size w w' := by
 have HR0 := aM hr0
 have HC0 := aM hc0
 clear hr0 hc0
 have HB := aM (Below.refl w.heap.size w)
 have H : (impl_intervalsOf.l0 k (([] : List (S62))) l0 (l0.length : Int) 0) = some r := h
 clear h
 obtain ⟨y285, hy285⟩ : ∃ y_ : List (S62), y_ = (([] : List (S62))) := ⟨_, rfl⟩
 replace H : (impl_intervalsOf.l0 k y285 l0 (l0.length : Int) 0) = some r := by first | (rw [hy285]; with_reducible exact H) | (have H2_ := (Option.bind_some _ _).symm.trans H; rw [hy285]; with_reducible exact H2_) | (have H2_ := (Option.bind_some _ _).symm.trans H; with_reducible exact H2_) | with_reducible exact H | (rw [hy285]; exact H) | exact H
 have Ny285 := aM hy285
 clear hy285
 have H' := aM H
 clear H
 go_enter Try.func117, Try.ntmps117
 go_wp2_with (first | ((with_reducible refine gate_dst (N := 6) rfl ?_); refine Kd.R_lit k62 _ 62 ?hg (N := 6) ?hd (xs := ([] : List (S62))) (inner := []) (ok := fun _ => True) (okp := fun _ => True) ?hr ?hp (fun _ hk => hk) trivial (Below.refl _ _) (Nat.le_refl _) (by simp) ?_; (case hd => rfl); (case hg => rfl); (case hr => first | (go_simp; done) | (go_simp; rfl)); (case hp => exact (Reps.none _ _)); intro v286 w2 ho3 hb hg_ hnew_; clear hg_ hnew_; (first | rw [← Ny285.out] at ho3 | (simp only [Int.reduceToNat] at ho3; rw [← Ny285.out] at ho3)); have _ := aM (Kd.R_lower ho3 (below_size bq)); have _ := aM (below_step bq hb); clear HB; rename_i HO287 HB; clear hb ho3))
 go_loopg [3, 9] k (fun kq v3 v9 w' => ∃ (x3_1 : List (S62)) (x9_1 : Int), v9 = .int .i64 x9_1 ∧ Aside0 (impl_intervalsOf.l0 kq x3_1 l0 (l0.length : Int) x9_1 = some r) ∧ Aside0 (kq ≤ k) ∧ Aside0 (Kd.R k62 62 w' w.heap.size (fun _ => True) v3 x3_1) ∧ Aside0 (Below w.heap.size w w'))
 case atStart => exact ⟨(y285), (0), (by first | rfl | (simp; done) | (simp [*]; done)), H', ⟨Nat.le_refl _⟩, ⟨by (with_reducible repeat first|apply rA|apply rN|apply rD); exact HO287.out⟩, ⟨by exact bq⟩⟩
 case round =>
  clear H'
  try clear c1
  try clear p2
  obtain ⟨x3_1, x9_1, rfl, HA, HK1, HO_3, HB⟩ := hrel
  cases gk with
  | zero => exact absurd HA.out (by simp [impl_intervalsOf.l0])
  | succ k1 =>
   have H := HA.out
   clear HA
   simp only [impl_intervalsOf.l0] at H
   by_cases c4 : x9_1 < (l0.length : Int)
   ·rw [if_pos c4] at H
    have c4b0 : decide (x9_1 < (l0.length : Int)) = true := decide_eq_true c4
    clear c4
    by_cases c5 : 0 ≤ x9_1
    ·rw [if_pos c5] at H
     have c5b0 : decide (0 ≤ x9_1) = true := decide_eq_true c5
     clear c5
     by_cases c6 : x9_1 < (l0.length : Int)
     ·rw [if_pos c6] at H
      have c6b0 : decide (x9_1 < (l0.length : Int)) = true := decide_eq_true c6
      clear c6
      replace H := Option.bind_eq_some_iff.mp H
      obtain ⟨t289, A70, H⟩ := H
      replace H : (impl_intervalsOf.l0 k1 t289 l0 (l0.length : Int) (wrap64 (x9_1 + 1))) = some r := H
      have A7 := aM A70
      clear A70
      have H' := aM H
      clear H
      have p288 : 0 ≤ (x9_1 : Int) := odt
      have q288 : x9_1 < (l0.length : Int) := odt
      obtain ⟨ad288, e288, hx288_0⟩ := Kd.at_int HR0.out x9_1 p288 q288
      cases e288
      replace hx288_0 := (HB.out.cell (World.block_lt_of_cell? w _ hx288_0)).trans hx288_0
      replace p288 := eq_true p288
      replace q288 := eq_true q288
      obtain ⟨Ao8, co8, eo8⟩ := Kd.R_slice HO_3.out
      subst eo8
      go_wp2_with (first | ((with_reducible refine gate_callee (f := 154) rfl ?_); refine gL (some 15) Try.func154 #[.slice Ao8 x3_1.length co8, .int .i64 (rd l0 x9_1)] ?_; (with_reducible refine (impl_build.calls k1 _ _ x3_1 (rd l0 x9_1) t289 _ (cQ ((Kd.R_reads' HO_3.out).2.2)) ((Kd.R_reads' HO_3.out).2.1) A7.out).mono ?_); rintro e w9 ⟨v290, rfl, ho0, hb⟩; refine ⟨_, rfl, ?_⟩; have _ := aM (Kd.R_elder' (rQ HO_3) (Kd.R_base ho0) hb); have _ := aM (Kd.R_lower (Kd.R_new' ho0 (Kd.R_lt (rQ HO_3))) (below_size bq)); have _ := aM (below_step bq hb); clear HO_3 HB; rename_i HO_3 HO291 HB; (try clear hb); (try clear hb2); (try clear hk); (try clear hi); (try clear ho0)))
      go_roundg k1
      case measure => have := HK1.out; omega
      case rel => exact ⟨(t289), (wrap64 (x9_1 + 1)), (by first | rfl | (simp; done) | (simp [*]; done)), H', ⟨by have := HK1.out; omega⟩, ⟨by (with_reducible repeat first|apply rA|apply rN|apply rD); exact Kd.R_mono HO291.out (fun _ hk => trivial)⟩, ⟨by exact bq⟩⟩
     ·rw [if_neg c6] at H
      exact absurd H (by simp)
    ·rw [if_neg c5] at H
     exact absurd H (by simp)
   ·rw [if_neg c4] at H
    have c4b0 : decide (x9_1 < (l0.length : Int)) = false := decide_eq_false c4
    clear c4
    obtain rfl := Option.some.inj H
    go_wp2
    go_ret
    exact ⟨_, by first | rfl | (simp [errW_none, errW_some] <;> rfl) | (simp [*, errW_none, errW_some] <;> rfl), by (with_reducible repeat first|apply rA|apply rN|apply rD); exact HO_3.out, by exact bq⟩

/-! ### impl_IntervalsOfAscent: function 59 -/
def impl_IntervalsOfAscent.f (k : Nat) (l0 : List Int) : Option ((List (S62)) × Bool) := (impl_isSmallAscent.f k l0).bind fun t292 => (if t292 = true then ((impl_intervalsOf.f k l0).bind fun t293 => (some (t293, true))) else (some (([] : List (S62)), false)))
theorem impl_IntervalsOfAscent.mono : ∀ a0 k, LeO (impl_IntervalsOfAscent.f k a0) (impl_IntervalsOfAscent.f (k + 1) a0) := by
 intro a0 k
 unfold impl_IntervalsOfAscent.f
 repeat' first | with_reducible first | exact impl_intervalsOf.mono _ _ | exact impl_isSmallAscent.mono _ _ | exact LeO.refl _ | exact LeO.none _ | refine LeO.ite ?_ ?_ | refine LeO.bind ?_ (fun _ => ?_)
set_option maxHeartbeats 8000000 in
set_option maxRecDepth 100000 in
theorem impl_IntervalsOfAscent.calls (k : Nat) (A0 : Option Addr) (c0 : Nat) (l0 : List Int) (r1 : List (S62)) (r2 : Bool) (w : World) (hr0 : Kd.C (Kd.int .i64) w A0 l0.length l0) (hc0 : l0.length ≤ c0) (h : impl_IntervalsOfAscent.f k l0 = some (r1, r2)) :
  Calls Try.prog 59 #[.slice A0 l0.length c0] w fun e w' => ∃ v0_ : Value, e = .returned (.tuple #[v0_, .bool r2]) ∧ Kd.R k62 62 w' w.heap.size (fun _ => True) v0_ r1 ∧ Below w.heap.size w w' := by
 have HR0 := aM hr0
 have HC0 := aM hc0
 clear hr0 hc0
 have HB := aM (Below.refl w.heap.size w)
 have H : ((impl_isSmallAscent.f k l0).bind fun t292 => (if t292 = true then ((impl_intervalsOf.f k l0).bind fun t293 => (some (t293, true))) else (some (([] : List (S62)), false)))) = some (r1, r2) := h
 clear h
 replace H := Option.bind_eq_some_iff.mp H
 obtain ⟨t292, A20, H⟩ := H
 replace H : (if t292 = true then ((impl_intervalsOf.f k l0).bind fun t293 => (some (t293, true))) else (some (([] : List (S62)), false))) = some (r1, r2) := H
 have A2 := aM A20
 clear A20
 by_cases c3 : t292 = true
 ·subst c3
  have H1 : ((impl_intervalsOf.f k l0).bind fun t293 => (some (t293, true))) = some (r1, r2) := by rw [if_pos rfl] at H; exact H
  clear H
  have H := H1
  clear H1
  replace H := Option.bind_eq_some_iff.mp H
  obtain ⟨t293, A40, H⟩ := H
  replace H : (some (t293, true)) = some (r1, r2) := H
  have A4 := aM A40
  clear A40
  simp only [Option.some.injEq, Prod.mk.injEq] at H
  obtain ⟨rfl, rfl⟩ := H
  go_enter Try.func59, Try.ntmps59
  go_wp2_with (first | ((with_reducible refine gate_callee (f := 116) rfl ?_); refine gL (some 5) Try.func116 #[.slice A0 l0.length c0] ?_; (with_reducible refine (impl_isSmallAscent.calls k _ _ l0 true _ (cQ HR0.out) HC0.out A2.out).mono ?_); rintro e w' ⟨rfl, ⟨nd, rfl⟩⟩; refine ⟨_, rfl, ?_⟩) | ((with_reducible refine gate_callee (f := 117) rfl ?_); refine gL (some 8) Try.func117 #[.slice A0 l0.length c0] ?_; (with_reducible refine (impl_intervalsOf.calls k _ _ l0 t293 _ (cQ HR0.out) HC0.out A4.out).mono ?_); rintro e w5 ⟨v294, rfl, ho0, hb⟩; refine ⟨_, rfl, ?_⟩; have _ := aM (Kd.R_lower ho0 (below_size bq)); have _ := aM (below_step bq hb); clear HB; rename_i HO295 HB; (try clear hb); (try clear hb2); (try clear hk); (try clear hi); (try clear ho0)))
  go_ret2
  exact ⟨_, by first | rfl | (simp [errW_none, errW_some] <;> rfl) | (simp [*, errW_none, errW_some] <;> rfl), by (with_reducible repeat first|apply rA|apply rN|apply rD); exact HO295.out, by exact bq⟩
 ·replace c3 := Bool.eq_false_iff.mpr c3
  subst c3
  have H1 : (some (([] : List (S62)), false)) = some (r1, r2) := by rw [if_neg (show ¬ (false = true) by decide)] at H; exact H
  clear H
  have H := H1
  clear H1
  simp only [Option.some.injEq, Prod.mk.injEq] at H
  obtain ⟨rfl, rfl⟩ := H
  go_enter Try.func59, Try.ntmps59
  go_wp2_with (first | ((with_reducible refine gate_callee (f := 116) rfl ?_); refine gL (some 5) Try.func116 #[.slice A0 l0.length c0] ?_; (with_reducible refine (impl_isSmallAscent.calls k _ _ l0 false _ (cQ HR0.out) HC0.out A2.out).mono ?_); rintro e w' ⟨rfl, ⟨nd, rfl⟩⟩; refine ⟨_, rfl, ?_⟩))
  go_ret2
  exact ⟨_, by first | rfl | (simp [errW_none, errW_some] <;> rfl) | (simp [*, errW_none, errW_some] <;> rfl), by first | exact Kd.R_nil _ _ _ _ _ | exact Kd.N_nil _ _ _ _ _ | exact Kd.V_nil _ _ _ _ _ | exact Kd.Q_nil _ _ _ _ _ | exact Kd.S_nil _ _ _ _ _, by exact bq⟩

/-! ### laws_FnModifiedAscents: function 9 -/
/-- All that the law asks, and that is so. -/
def laws_FnModifiedAscents.Good (k : Nat) (l0 l1 : List Int) : Prop :=
  laws_big.f l0 l1 = some true ∨ (laws_big.f l0 l1 = some false ∧ ∃ (l o o2 : List Int) (ok : Bool) (s b b2 : List Int) (told : Bool),
    spec_DrawModifyAscent.f k l0 = some l ∧ impl_ModifyAscent.f k l = some (o, ok) ∧ spec_ModifyAscent.f k l = some (o2, ok) ∧ laws_pSame.f k o o2 = some true ∧
    spec_DrawUnmodifyAscent.f k l1 = some s ∧ impl_UnmodifyAscent.f k s = some (b, told) ∧ spec_UnmodifyAscent.f k s = some (b2, told) ∧ laws_pSame.f k b b2 = some true ∧
    (told = true → ∃ ag, impl_ModifyAscent.f k b = some (ag, true) ∧ laws_pSame.f k ag s = some true) ∧
    (ok = true → ∃ (bk : List Int) (st : Bool) (n : Int) (iv : List S62) (six : Bool), impl_UnmodifyAscent.f k o = some (bk, true) ∧ impl_IsSteady.f k l = some (st, true) ∧ impl_AscentsOf.f k l = some (n, true) ∧ impl_AscentsOf.f k bk = some (n, true) ∧
      laws_pSame.f k bk l = some true ∧ laws_pSame.f k o l = some st ∧ impl_IntervalsOfAscent.f k l = some (iv, six) ∧ l.length ≤ 1000 ∧ (if six = true then iv.length = l.length ∧ o.length = l.length ∧ ∀ i, i < l.length → (rd_T62 iv (i : Int)).f0 = o.getD i 0 else 10 < l.length)))
open Go.Proofs.Ytacdlipojhoilaa.Live in
set_option maxHeartbeats 8000000 in
set_option maxRecDepth 100000 in
theorem laws_FnModifiedAscents.calls (k : Nat) (A0 : Option Addr) (c0 : Nat) (l0 : List Int) (A1 : Option Addr) (c1 : Nat) (l1 : List Int) (w : World) (hr0 : Kd.C (Kd.int .u8) w A0 l0.length l0) (hc0 : l0.length ≤ c0) (hr1 : Kd.C (Kd.int .u8) w A1 l1.length l1) (hc1 : l1.length ≤ c1) (h : laws_FnModifiedAscents.Good k l0 l1) :
    Calls Try.prog 9 #[.slice A0 l0.length c0, .slice A1 l1.length c1] w fun e w' => e = .returned (.bool true) ∧ Below w.heap.size w w' := by
 have HC0 := aM hr0
 have HC1 := aM hr1
 have HL0 := aM hc0
 have HL1 := aM hc1
 clear hr0 hr1 hc0 hc1
 rcases h with hb | ⟨hb, l, o, o2, ok, s, b, b2, told, e1, e2, e3, e4, e5, e6, e7, e8, e9, e10⟩
 · {
 have HB := aM hb
 clear hb
 go_enter Try.func9, Try.ntmps9
 go_wp2_with (fail)
 refine (laws_big.calls A0 c0 l0 A1 c1 l1 true _ HC0.out HL0.out HC1.out HL1.out HB.out).mono ?_
 rintro e w1 ⟨rfl, ⟨q, rfl⟩⟩
 go_wp2_with (fail)
 go_ret
 exact ⟨rfl, pw_below_drewN (Below.refl _ _) _⟩}
 have HB := aM hb
 have E1 := aM e1
 have E2 := aM e2
 have E3 := aM e3
 have E4 := aM e4
 have E5 := aM e5
 have E6 := aM e6
 have E7 := aM e7
 have E8 := aM e8
 have E9 := aM e9
 have E10 := aM e10
 clear hb e1 e2 e3 e4 e5 e6 e7 e8 e9 e10
 go_enter Try.func9, Try.ntmps9
 go_wp2_with (fail)
 refine (laws_big.calls A0 c0 l0 A1 c1 l1 false _ (HC0.out) (HL0.out) (HC1.out) (HL1.out) HB.out).mono ?_
 rintro e w1 ⟨rfl, hd_⟩
 have H1 := aM ((Live.start w).drawn hd_)
 clear hd_
 go_wp2_with (fail)
 refine (spec_DrawModifyAscent.calls k A0 c0 l0 l _ (Kd.C_below HC0.out H1.out.below) (HL0.out) E1.out).mono ?_
 rintro e w2 ⟨u0, rfl, hs0, hb⟩
 have H2 := aM (Live.add (o := row (Kd.int .i64) 3 u0 l) H1.out hb hs0)
 clear hs0 hb
 obtain ⟨A_l, c_l, rfl, _, _⟩ := H2.out.form 0 rfl
 clear H1
 go_wp2_with (fail)
 refine (impl_ModifyAscent.calls k A_l c_l l o ok _ ((H2.out.now 0 rfl).2.2) ((H2.out.now 0 rfl).2.1) E2.out).mono ?_
 rintro e w3 ⟨u0, rfl, hs0, hb⟩
 have H3 := aM (Live.add (o := row (Kd.int .i64) 3 u0 o) H2.out hb hs0)
 clear hs0 hb
 obtain ⟨A_o, c_o, rfl, _, _⟩ := H3.out.form 1 rfl
 clear H2
 go_wp2_with (fail)
 have bb : (ok != ok) = false := by simp
 refine (spec_ModifyAscent.calls k A_l c_l l o2 ok _ ((H3.out.now 0 rfl).2.2) ((H3.out.now 0 rfl).2.1) E3.out).mono ?_
 rintro e w4 ⟨u0, rfl, hs0, hb⟩
 have H4 := aM (Live.add (o := row (Kd.int .i64) 3 u0 o2) H3.out hb hs0)
 clear hs0 hb
 obtain ⟨A_o2, c_o2, rfl, _, _⟩ := H4.out.form 2 rfl
 clear H3
 go_wp2_with (fail)
 refine (laws_pSame.calls k A_o c_o o A_o2 c_o2 o2 true _ ((H4.out.now 1 rfl).2.2) ((H4.out.now 1 rfl).2.1) ((H4.out.now 2 rfl).2.2) ((H4.out.now 2 rfl).2.1) E4.out).mono ?_
 rintro e w5 ⟨rfl, hd_⟩
 have H5 := aM (H4.out.drawn hd_)
 clear hd_
 clear H4
 go_wp2_with (fail)
 clear bb
 refine (spec_DrawUnmodifyAscent.calls k A1 c1 l1 s _ (Kd.C_below HC1.out H5.out.below) (HL1.out) E5.out).mono ?_
 rintro e w6 ⟨u0, rfl, hs0, hb⟩
 have H6 := aM (Live.add (o := row (Kd.int .i64) 3 u0 s) H5.out hb hs0)
 clear hs0 hb
 obtain ⟨A_s, c_s, rfl, _, _⟩ := H6.out.form 3 rfl
 clear H5
 go_wp2_with (fail)
 refine (impl_UnmodifyAscent.calls k A_s c_s s b told _ ((H6.out.now 3 rfl).2.2) ((H6.out.now 3 rfl).2.1) E6.out).mono ?_
 rintro e w7 ⟨u0, rfl, hs0, hb⟩
 have H7 := aM (Live.add (o := row (Kd.int .i64) 3 u0 b) H6.out hb hs0)
 clear hs0 hb
 obtain ⟨A_b, c_b, rfl, _, _⟩ := H7.out.form 4 rfl
 clear H6
 go_wp2_with (fail)
 have bt : (told != told) = false := by simp
 refine (spec_UnmodifyAscent.calls k A_s c_s s b2 told _ ((H7.out.now 3 rfl).2.2) ((H7.out.now 3 rfl).2.1) E7.out).mono ?_
 rintro e w8 ⟨u0, rfl, hs0, hb⟩
 have H8 := aM (Live.add (o := row (Kd.int .i64) 3 u0 b2) H7.out hb hs0)
 clear hs0 hb
 obtain ⟨A_b2, c_b2, rfl, _, _⟩ := H8.out.form 5 rfl
 clear H7
 go_wp2_with (fail)
 refine (laws_pSame.calls k A_b c_b b A_b2 c_b2 b2 true _ ((H8.out.now 4 rfl).2.2) ((H8.out.now 4 rfl).2.1) ((H8.out.now 5 rfl).2.2) ((H8.out.now 5 rfl).2.1) E8.out).mono ?_
 rintro e w9 ⟨rfl, hd_⟩
 have H9 := aM (H8.out.drawn hd_)
 clear hd_
 clear H8
 clear bt
 go_upto_if 74 with (fail)
 go_cut [] (fun wx => Aside0 (Live w wx [row (Kd.int .i64) 3 (.slice A_l l.length c_l) l, row (Kd.int .i64) 3 (.slice A_o o.length c_o) o, row (Kd.int .i64) 3 (.slice A_o2 o2.length c_o2) o2, row (Kd.int .i64) 3 (.slice A_s s.length c_s) s, row (Kd.int .i64) 3 (.slice A_b b.length c_b) b, row (Kd.int .i64) 3 (.slice A_b2 b2.length c_b2) b2]))
 case first => (
 cases told with
 | true => {
 obtain ⟨ag, g1, g2⟩ := E9.out rfl
 have G1 := aM g1
 have G2 := aM g2
 clear g1 g2
 go_wp2_with (fail)
 refine (impl_ModifyAscent.calls k A_b c_b b ag true _ ((H9.out.now 4 rfl).2.2) ((H9.out.now 4 rfl).2.1) G1.out).mono ?_
 rintro e w10 ⟨u0, rfl, hs0, hb⟩
 have H10 := aM (Live.add (o := row (Kd.int .i64) 3 u0 ag) H9.out hb hs0)
 clear hs0 hb
 obtain ⟨A_ag, c_ag, rfl, _, _⟩ := H10.out.form 6 rfl
 go_wp2_with (fail)
 refine (laws_pSame.calls k A_ag c_ag ag A_s c_s s true _ ((H10.out.now 6 rfl).2.2) ((H10.out.now 6 rfl).2.1) ((H10.out.now 3 rfl).2.2) ((H10.out.now 3 rfl).2.1) G2.out).mono ?_
 rintro e w11 ⟨rfl, hd_⟩
 have H11 := aM (H10.out.drawn hd_)
 clear hd_
 clear H10
 go_wp2_with (fail)
 go_meet
 exact ⟨H11.out.keep 6⟩}
 | false => {
 go_wp2_with (fail)
 go_meet
 exact ⟨H9.out⟩})
 case rest => (
 skip
 have H32 := hcut
 clear H9
 cases ok with
 | false => {
 go_wp2_with (fail)
 go_ret
 exact ⟨rfl, H32.out.below⟩}
 | true => {
 obtain ⟨bk, st, n, iv, six, g1, g2, g3, g4, g5, g6, g7, g8, g9⟩ := E10.out rfl
 have G1 := aM g1
 have G2 := aM g2
 have G3 := aM g3
 have G4 := aM g4
 have G5 := aM g5
 have G6 := aM g6
 have G7 := aM g7
 have G8 := aM g8
 have G9 := aM g9
 clear g1 g2 g3 g4 g5 g6 g7 g8 g9
 go_wp2_with (fail)
 refine (impl_UnmodifyAscent.calls k A_o c_o o bk true _ ((H32.out.now 1 rfl).2.2) ((H32.out.now 1 rfl).2.1) G1.out).mono ?_
 rintro e w13 ⟨u0, rfl, hs0, hb⟩
 have H33 := aM (Live.add (o := row (Kd.int .i64) 3 u0 bk) H32.out hb hs0)
 clear hs0 hb
 obtain ⟨A_bk, c_bk, rfl, _, _⟩ := H33.out.form 6 rfl
 clear H32
 go_wp2_with (fail)
 refine (impl_IsSteady.calls k A_l c_l l st true _ ((H33.out.now 0 rfl).2.2) ((H33.out.now 0 rfl).2.1) G2.out).mono ?_
 rintro e w14 ⟨rfl, hb⟩
 have H34 := aM (H33.out.step hb)
 clear hb
 clear H33
 go_wp2_with (fail)
 refine (impl_AscentsOf.calls k A_l c_l l n true _ ((H34.out.now 0 rfl).2.2) ((H34.out.now 0 rfl).2.1) G3.out).mono ?_
 rintro e w15 ⟨rfl, hd_⟩
 have H35 := aM (H34.out.drawn hd_)
 clear hd_
 clear H34
 go_wp2_with (fail)
 refine (impl_AscentsOf.calls k A_bk c_bk bk n true _ ((H35.out.now 6 rfl).2.2) ((H35.out.now 6 rfl).2.1) G4.out).mono ?_
 rintro e w16 ⟨rfl, hd_⟩
 have H36 := aM (H35.out.drawn hd_)
 clear hd_
 clear H35
 go_wp2_with (fail)
 refine (laws_pSame.calls k A_bk c_bk bk A_l c_l l true _ ((H36.out.now 6 rfl).2.2) ((H36.out.now 6 rfl).2.1) ((H36.out.now 0 rfl).2.2) ((H36.out.now 0 rfl).2.1) G5.out).mono ?_
 rintro e w17 ⟨rfl, hd_⟩
 have H37 := aM (H36.out.drawn hd_)
 clear hd_
 clear H36
 go_wp2_with (fail)
 have bs : (st != st) = false := by simp
 have bn : (n != n) = false := by simp
 refine (laws_pSame.calls k A_o c_o o A_l c_l l st _ ((H37.out.now 1 rfl).2.2) ((H37.out.now 1 rfl).2.1) ((H37.out.now 0 rfl).2.2) ((H37.out.now 0 rfl).2.1) G6.out).mono ?_
 rintro e w18 ⟨rfl, hd_⟩
 have H38 := aM (H37.out.drawn hd_)
 clear hd_
 clear H37
 go_wp2_with (fail)
 clear bs bn
 refine (impl_IntervalsOfAscent.calls k A_l c_l l iv six _ ((H38.out.now 0 rfl).2.2) ((H38.out.now 0 rfl).2.1) G7.out).mono ?_
 rintro e w19 ⟨u0, rfl, hs0, hb⟩
 have H39 := aM (Live.add (o := row k62 62 u0 iv) H38.out hb hs0)
 clear hs0 hb
 obtain ⟨A_iv, c_iv, rfl, _, _⟩ := H39.out.form 7 rfl
 clear H38
 have hl := G8.out
 have h9 := G9.out
 clear G9
 cases six with
 | false => {
 rw [if_neg (by simp)] at h9
 have d1 : decide ((l.length : Int) > 10) = true := decide_eq_true (by omega)
 have d2 : decide (10 < (l.length : Int)) = true := decide_eq_true (by omega)
 clear h9 hl
 go_wp2_with (fail)
 go_ret
 exact ⟨rfl, H39.out.below⟩}
 | true => {
 rw [if_pos rfl] at h9
 obtain ⟨f1, f2, f3⟩ := h9
 have F1 := aM f1
 have F2 := aM f2
 have F3 := aM f3
 clear f1 f2 f3
 clear hl
 go_wp2_with (fail)
 go_loopg [154] (l.length + 1) (fun kq v154 w' => ∃ i : Nat, v154 = .int .i64 (i : Int) ∧ Aside0 (i ≤ l.length ∧ kq = l.length - i + 1) ∧ Aside0 (Live w w' [row (Kd.int .i64) 3 (.slice A_l l.length c_l) l, row (Kd.int .i64) 3 (.slice A_o o.length c_o) o, row (Kd.int .i64) 3 (.slice A_o2 o2.length c_o2) o2, row (Kd.int .i64) 3 (.slice A_s s.length c_s) s, row (Kd.int .i64) 3 (.slice A_b b.length c_b) b, row (Kd.int .i64) 3 (.slice A_b2 b2.length c_b2) b2, row (Kd.int .i64) 3 (.slice A_bk bk.length c_bk) bk, row k62 62 (.slice A_iv iv.length c_iv) iv]))
 case atStart => exact ⟨0, rfl, ⟨Nat.zero_le _, rfl⟩, H39⟩
 case round => (
 clear H39
 obtain ⟨i, rfl, HI, H0⟩ := hrel
 by_cases ci : i < l.length
 · {
 have hn := G8.out
 have cv : i < iv.length := by rw [F1.out]; exact ci
 have co : i < o.length := by rw [F2.out]; exact ci
 obtain ⟨ad, e_a, x_0, x_1⟩ := at_T62 ((H0.out.now 7 rfl).2.2) (i : Int) (by omega) (by omega)
 obtain ⟨ao, e_o, x_o⟩ := C_num ((H0.out.now 1 rfl).2.2) i co
 rw [Int.toNat_natCast] at x_0 x_1
 rw [F3.out i ci] at x_0
 obtain ⟨va, hva⟩ : ∃ va, va = o.getD i 0 := ⟨_, rfl⟩
 obtain ⟨vb, hvb⟩ : ∃ vb, vb = (rd_T62 iv (i : Int)).f1 := ⟨_, rfl⟩
 rw [← hva] at x_0 x_o
 rw [← hvb] at x_1
 clear hva hvb
 subst e_a e_o
 have z0 : (0 : Int) ≤ (i : Int) := by omega
 have t0 : (i : Int) < (iv.length : Int) := by omega
 have z1 : (0 : Int) ≤ (i : Int) := by omega
 have t1 : (i : Int) < (o.length : Int) := by omega
 have u0 : (va != va) = false := by simp
 have d0 : decide ((i : Int) < (iv.length : Int)) = true := decide_eq_true t0
 go_wp2_with (fail)
 have H2 := aM (H0.out.new #[.int .i64 va, .int .i64 vb] 62)
 have x_p := pw_cell_below (below_alloc (Below.refl _ _) (.cells #[.int .i64 va, .int .i64 vb] 62)) x_o
 have k_x := cellV H2.out 8 rfl 0 rfl
 clear x_0 x_1 x_o H0
 generalize World.alloc wr (Obj.cells #[.int .i64 va, .int .i64 vb] 62) = w9 at H2 x_p k_x ⊢
 go_cut [165] (fun s_ wx => s_ = .bool false ∧ Aside0 (Live w wx [row (Kd.int .i64) 3 (.slice A_l l.length c_l) l, row (Kd.int .i64) 3 (.slice (some ao) o.length c_o) o, row (Kd.int .i64) 3 (.slice A_o2 o2.length c_o2) o2, row (Kd.int .i64) 3 (.slice A_s s.length c_s) s, row (Kd.int .i64) 3 (.slice A_b b.length c_b) b, row (Kd.int .i64) 3 (.slice A_b2 b2.length c_b2) b2, row (Kd.int .i64) 3 (.slice A_bk bk.length c_bk) bk, row k62 62 (.slice (some ad) iv.length c_iv) iv, var wr.heap.size #[.int .i64 va, .int .i64 vb] 62]))
 case first => (
 go_region_held3 (fun w' => w'.cell? (⟨wr.heap.size, 0, none⟩) = some (.int .i64 va) ∧ w'.cell? (ao.add i) = some (.int .i64 va) ∧ Below w9.heap.size w9 w') ((refine ⟨pw_cell_below ?hb k_x, pw_cell_below ?hb x_p, ?hb⟩; (case hb => ((repeat (first | assumption | exact Below.refl _ _ | apply below_alloc | apply pw_below_drewN | apply below_drew1)); done)))) (first | fail)
 all_goals (go_wp2_with fail; go_meet)
 all_goals exact ⟨rfl, ⟨H2.out.step (by ((repeat (first | assumption | exact Below.refl _ _ | apply below_alloc | apply pw_below_drewN | apply below_drew1)); done))⟩⟩)
 case rest => (
 rename_i aK
 obtain ⟨rfl, H40⟩ := hcut
 refine aK _ _ ?_
 clear H2
 go_wp2_with (fail)
 go_roundg (l.length - i)
 case measure => have := HI.out; omega
 case rel => exact ⟨i + 1, by first | rfl | exact up1 (by have := G8.out; omega), ⟨by omega, by omega⟩, ⟨H40.out.keep 8⟩⟩)}
 · {
 obtain rfl : i = l.length := by have := HI.out.1; omega
 have d1 : decide ((l.length : Int) < (iv.length : Int)) = false := decide_eq_false (by rw [F1.out]; omega)
 have d2 : ((iv.length : Int) == (l.length : Int)) = true := by rw [F1.out]; simp
 have d3 : decide ((iv.length : Int) = (l.length : Int)) = true := decide_eq_true (by rw [F1.out])
 have d6 : decide (l.length < iv.length) = false := decide_eq_false (by rw [F1.out]; omega)
 have d4 : (iv.length == l.length) = true := by rw [F1.out]; simp
 have d5 : decide (iv.length = l.length) = true := decide_eq_true F1.out
 go_wp2_with (fail)
 go_ret
 refine ⟨?_, H0.out.below⟩
 first | rfl | (rw [d2]; rfl) | (rw [d3]; rfl) | (rw [d4]; rfl) | (rw [d5]; rfl) | (simp [F1.out]; done)})}})
/-- What the plain side shows. -/
def laws_FnModifiedAscents.Pure : Prop := ∀ (l0 : List Int) (l1 : List Int), l0.length ≤ maxLen → l0.length * 1 ≤ 140737488351232 → (∀ x ∈ l0, (Lit.int .u8 x).wf = true) → l1.length ≤ maxLen → l1.length * 1 ≤ 140737488351232 → (∀ x ∈ l1, (Lit.int .u8 x).wf = true) → ∃ k, laws_FnModifiedAscents.Good k l0 l1
theorem laws_FnModifiedAscents.walk (P : laws_FnModifiedAscents.Pure) (a0 : Option Addr) (len0 cap0 : Nat) (z0 : List Int) (a1 : Option Addr) (len1 cap1 : Nat) (z1 : List Int) (w : World) (w0 : (a0 = none ∧ len0 = 0 ∧ cap0 = 0 ∧ z0 = []) ∨ ∃ x, a0 = some x ∧ len0 ≤ cap0 ∧ cap0 ≤ maxLen ∧ z0.length = cap0 ∧ (∀ i, i < z0.length → w.cell? (x.add i) = some (.int .u8 (z0.getD i 0))) ∧ ∀ n ∈ z0, (Lit.int .u8 n).wf = true) (y0 : len0 * 1 ≤ 140737488351232) (w1 : (a1 = none ∧ len1 = 0 ∧ cap1 = 0 ∧ z1 = []) ∨ ∃ x, a1 = some x ∧ len1 ≤ cap1 ∧ cap1 ≤ maxLen ∧ z1.length = cap1 ∧ (∀ i, i < z1.length → w.cell? (x.add i) = some (.int .u8 (z1.getD i 0))) ∧ ∀ n ∈ z1, (Lit.int .u8 n).wf = true) (y1 : len1 * 1 ≤ 140737488351232) :
  Calls Try.prog 9 #[.slice a0 len0 cap0, .slice a1 len1 cap1] w fun e w' => e = .returned (.bool true) ∧ Below w.heap.size w w' := by
 obtain ⟨l0, rfl, hr0, hm0, hw0, hc0⟩ := ReadsInt.ofRowC w0
 obtain ⟨l1, rfl, hr1, hm1, hw1, hc1⟩ := ReadsInt.ofRowC w1
 obtain ⟨k, h⟩ := P l0 l1 hm0 y0 hw0 hm1 y1 hw1
 refine (laws_FnModifiedAscents.calls k _ _ l0 _ _ l1 w (Kd.C_of_reads (d := (0 : Int)) (h1 := fun _ => rfl) hr0) hc0 (Kd.C_of_reads (d := (0 : Int)) (h1 := fun _ => rfl) hr1) hc1 h).mono ?_
 rintro e w' ⟨rfl, hd⟩
 exact ⟨rfl, hd⟩

end Go.Proofs.Ytacdlipojhoilaa.Mx
