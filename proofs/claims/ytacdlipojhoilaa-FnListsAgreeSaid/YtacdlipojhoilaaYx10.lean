-- Written by hook.py, a program of this session (wip/), which runs the kit's print.py with its own parts; Lean checks it.
import Derived.Test.YtacdlipojhoilaaYx0
import Derived.Test.YtacdlipojhoilaaYx8
import Derived.Test.YtacdlipojhoilaaYx9
import Derived.Test.YtacdlipojhoilaaYxXSq
namespace Go.Proofs.Ytacdlipojhoilaa.Yx
open Go.RowKit Go.Proofs.YtacdlipojhoilaaW.PrintWords Go.Proofs.YtacdlipojhoilaaW.PrintLast Go.Proofs.YtacdlipojhoilaaW.PrintMore Go.Proofs.Ytacdlipojhoilaa.Sq
attribute [local go_sem] max2_int min2_int max_two min_two max_three min_three max_four min_four   -- for this text's walks alone
set_option linter.unusedVariables false
set_option linter.unusedSimpArgs false

def impl_ListMatrices.l0 : Nat → List (S36) → List (List Int) → Int → Int → Option ((List (S36)) × Bool)
 | 0, _, _, _, _ => none
 | k + 1, x6, x17, x18, x19 => if x19 < x18 then (if 0 ≤ x19 then (if x19 < (x17.length : Int) then ((impl_matrixOf.f k (rd_L2 x17 x19)).bind fun t224 => (if x6.length < 5864062014805 then (impl_ListMatrices.l0 k (x6 ++ [(⟨t224⟩ : S36)]) x17 x18 (wrap64 (x19 + 1))) else (none))) else (none)) else (none)) else (some (x6, true))
def impl_ListMatrices.f (k : Nat) (a0 : Int) : Option ((List (S36)) × Bool) := (impl_ListAscents.f a0).bind fun bt216 => (if bt216.2 = true then (impl_ListMatrices.l0 k (([] : List (S36))) bt216.1 (bt216.1.length : Int) 0) else (some (([] : List (S36)), false)))
theorem impl_ListMatrices.mono_l : ∀ k, (∀ y0 y1 y2 y3, LeO (impl_ListMatrices.l0 k y0 y1 y2 y3) (impl_ListMatrices.l0 (k + 1) y0 y1 y2 y3))
 | 0 => fun _ _ _ _ r h => by simp [impl_ListMatrices.l0] at h
 | k + 1 => by
  have ih0 := impl_ListMatrices.mono_l k
  ·intro y0 y1 y2 y3
   unfold impl_ListMatrices.l0
   repeat' first | with_reducible first | exact ih0 _ _ _ _ | exact impl_matrixOf.mono _ _ | exact LeO.refl _ | exact LeO.none _ | refine LeO.ite ?_ ?_ | refine LeO.bind ?_ (fun _ => ?_)
theorem impl_ListMatrices.mono : ∀ a0 k, LeO (impl_ListMatrices.f k a0) (impl_ListMatrices.f (k + 1) a0) := by
 intro a0 k
 have ih0 := impl_ListMatrices.mono_l k
 unfold impl_ListMatrices.f
 repeat' first | with_reducible first | exact ih0 _ _ _ _ | exact impl_matrixOf.mono _ _ | exact LeO.refl _ | exact LeO.none _ | refine LeO.ite ?_ ?_ | refine LeO.bind ?_ (fun _ => ?_)
set_option maxHeartbeats 8000000 in
set_option maxRecDepth 100000 in
theorem impl_ListMatrices.calls (k : Nat) (a0 : Int) (r1 : List (S36)) (r2 : Bool) (w : World) (h : impl_ListMatrices.f k a0 = some (r1, r2)) :
  Calls Try.prog 63 #[.int .i64 a0] w fun e w' => ∃ v0_ : Value, e = .returned (.tuple #[v0_, .bool r2]) ∧ Kd.R k36 36 w' w.heap.size (fun _ => True) v0_ r1 ∧ Below w.heap.size w w' := by
 have HB := aM (Below.refl w.heap.size w)
 have H : ((impl_ListAscents.f a0).bind fun bt216 => (if bt216.2 = true then (impl_ListMatrices.l0 k (([] : List (S36))) bt216.1 (bt216.1.length : Int) 0) else (some (([] : List (S36)), false)))) = some (r1, r2) := h
 clear h
 replace H := Option.bind_eq_some_iff.mp H
 obtain ⟨⟨t216, t217⟩, A20, H⟩ := H
 replace H : (if t217 = true then (impl_ListMatrices.l0 k (([] : List (S36))) t216 (t216.length : Int) 0) else (some (([] : List (S36)), false))) = some (r1, r2) := H
 have A2 := aM A20
 clear A20
 by_cases c3 : t217 = true
 ·subst c3
  have H1 : (impl_ListMatrices.l0 k (([] : List (S36))) t216 (t216.length : Int) 0) = some (r1, r2) := by rw [if_pos rfl] at H; exact H
  clear H
  have H := H1
  clear H1
  obtain ⟨y220, hy220⟩ : ∃ y_ : List (S36), y_ = (([] : List (S36))) := ⟨_, rfl⟩
  replace H : (impl_ListMatrices.l0 k y220 t216 (t216.length : Int) 0) = some (r1, r2) := by first | (rw [hy220]; with_reducible exact H) | (have H2_ := (Option.bind_some _ _).symm.trans H; rw [hy220]; with_reducible exact H2_) | (have H2_ := (Option.bind_some _ _).symm.trans H; with_reducible exact H2_) | with_reducible exact H | (rw [hy220]; exact H) | exact H
  have Ny220 := aM hy220
  clear hy220
  have H' := aM H
  clear H
  go_enter Try.func63, Try.ntmps63
  go_wp2_with (first | ((with_reducible refine gate_callee (f := 64) rfl ?_); refine gL (some 11) Try.func64 #[.int .i64 a0] ?_; (with_reducible refine (impl_ListAscents.calls a0 t216 true _ A2.out).mono ?_); rintro e w4 ⟨v218, rfl, ho0, hb⟩; refine ⟨_, rfl, ?_⟩; have _ := aM (Kd.S_lower ho0 (below_size bq)); have _ := aM (below_step bq hb); clear HB; rename_i HO219 HB; (try clear hb); (try clear hb2); (try clear hk); (try clear hi); (try clear ho0)) | ((with_reducible refine gate_dst (N := 16) rfl ?_); refine Kd.R_lit k36 _ 36 ?hg (N := 16) ?hd (xs := ([] : List (S36))) (inner := []) (ok := fun _ => True) (okp := fun _ => True) ?hr ?hp (fun _ hk => hk) trivial (Below.refl _ _) (Nat.le_refl _) (by simp) ?_; (case hd => rfl); (case hg => rfl); (case hr => first | (go_simp; done) | (go_simp; rfl)); (case hp => exact (Reps.none _ _)); intro v221 w5 ho6 hb hg_ hnew_; clear hg_ hnew_; (first | rw [← Ny220.out] at ho6 | (simp only [Int.reduceToNat] at ho6; rw [← Ny220.out] at ho6)); have _ := aM (Kd.S_below (sQ HO219) hb); have _ := aM (Kd.R_lower (Kd.R_new' ho6 (Kd.S_lt (sQ HO219))) (below_size bq)); have _ := aM (below_step bq hb); clear HO219 HB; rename_i HO219 HO222 HB; clear hb ho6; obtain ⟨Ao7, co7, eo7⟩ := Kd.S_slice HO219.out; subst eo7))
  go_loopg [6, 19] k (fun kq v6 v19 w' => ∃ (x6_1 : List (S36)) (x19_1 : Int), v19 = .int .i64 x19_1 ∧ Aside0 (impl_ListMatrices.l0 kq x6_1 t216 (t216.length : Int) x19_1 = some (r1, r2)) ∧ Aside0 (kq ≤ k) ∧ Aside0 (Kd.R k36 36 w' w.heap.size (fun k_ => some k_ ≠ ((.slice Ao7 t216.length co7) : Value).ownBlock) v6 x6_1) ∧ Aside0 (Kd.S (Kd.slice 3 (Kd.int .i64)) 24 w' w.heap.size (fun _ => True) (.slice Ao7 t216.length co7) t216) ∧ Aside0 (Below w.heap.size w w'))
  case atStart => exact ⟨(y220), (0), (by first | rfl | (simp; done) | (simp [*]; done)), H', ⟨Nat.le_refl _⟩, ⟨by (with_reducible repeat first|apply rA|apply rN|apply rD); exact Kd.R_mono HO222.out (fun _ hk => hk.2)⟩, ⟨by (with_reducible repeat first|apply sA|apply sN|apply sD); exact HO219.out⟩, ⟨by exact bq⟩⟩
  case round =>
   clear H'
   try clear p2
   try clear c3
   try clear c6
   obtain ⟨x6_1, x19_1, rfl, HA, HK1, HO_6, HO_17, HB⟩ := hrel
   cases gk with
   | zero => exact absurd HA.out (by simp [impl_ListMatrices.l0])
   | succ k1 =>
    have H := HA.out
    clear HA
    simp only [impl_ListMatrices.l0] at H
    by_cases c8 : x19_1 < (t216.length : Int)
    ·rw [if_pos c8] at H
     have c8b0 : decide (x19_1 < (t216.length : Int)) = true := decide_eq_true c8
     clear c8
     by_cases c9 : 0 ≤ x19_1
     ·rw [if_pos c9] at H
      have c9b0 : decide (0 ≤ x19_1) = true := decide_eq_true c9
      clear c9
      by_cases c10 : x19_1 < (t216.length : Int)
      ·rw [if_pos c10] at H
       have c10b0 : decide (x19_1 < (t216.length : Int)) = true := decide_eq_true c10
       clear c10
       replace H := Option.bind_eq_some_iff.mp H
       obtain ⟨t224, A110, H⟩ := H
       replace H : (if x6_1.length < 5864062014805 then (impl_ListMatrices.l0 k1 (x6_1 ++ [(⟨t224⟩ : S36)]) t216 (t216.length : Int) (wrap64 (x19_1 + 1))) else (none)) = some (r1, r2) := H
       have A11 := aM A110
       clear A110
       by_cases c12 : x6_1.length < 5864062014805
       ·rw [if_pos c12] at H
        have LMc12 := aM c12
        clear c12
        obtain ⟨y227, hy227⟩ : ∃ y_ : List (S36), y_ = (x6_1 ++ [(⟨t224⟩ : S36)]) := ⟨_, rfl⟩
        replace H : (impl_ListMatrices.l0 k1 y227 t216 (t216.length : Int) (wrap64 (x19_1 + 1))) = some (r1, r2) := by first | (rw [hy227]; with_reducible exact H) | (have H2_ := (Option.bind_some _ _).symm.trans H; rw [hy227]; with_reducible exact H2_) | (have H2_ := (Option.bind_some _ _).symm.trans H; with_reducible exact H2_) | with_reducible exact H | (rw [hy227]; exact H) | exact H
        have Ny227 := aM hy227
        clear hy227
        have H' := aM H
        clear H
        have p223 : 0 ≤ (x19_1 : Int) := odt
        have q223 : x19_1 < (t216.length : Int) := odt
        obtain ⟨ad223, A223_0, c223_0, e223, hx223_0, hl223_0, hi223_0⟩ := at_L2 (Kd.S_reads' HO_17.out).2.2 x19_1 p223 q223
        cases e223
        obtain ⟨ce223, hce223, hMe223, hcc223⟩ := Kd.S_get HO_17.out [] x19_1 p223 (by first | exact q223 | exact odt | (have e_ := (Kd.S_reads' HO_17.out).1; omega))
        obtain ⟨ve223_0, rfl, ge223_0⟩ := hMe223
        have hv223_0 := hcc223 0 _ rfl
        rw [Nat.add_zero, show ((Kd.slice 3 (Kd.int .i64))).sz = 1 from rfl, Nat.mul_one] at hv223_0
        replace hv223_0 := Option.some.inj (hv223_0.symm.trans hx223_0)
        rw [hv223_0] at ge223_0
        have HL223_0 := aM (show Kd.R (Kd.int .i64) 3 _ _ _ _ (rd_L2 t216 x19_1) from ge223_0)
        clear hv223_0 ge223_0
        clear hcc223 hce223
        have HR223_0 := aM hi223_0
        have HC223_0 := aM hl223_0
        clear hi223_0 hl223_0
        replace p223 := eq_true p223
        replace q223 := eq_true q223
        go_wp2_with (first | ((with_reducible refine gate_callee (f := 88) rfl ?_); refine gL (some 25) Try.func88 #[.slice A223_0 (rd_L2 t216 x19_1).length c223_0] ?_; (with_reducible refine (impl_matrixOf.calls k1 _ _ (rd_L2 t216 x19_1) t224 _ (cQ HR223_0.out) HC223_0.out A11.out).mono ?_); rintro e w13 ⟨v225, rfl, ho0, hb⟩; refine ⟨_, rfl, ?_⟩; have _ := aM (Kd.R_elder' (rQ HO_6) (Kd.S_base ho0) hb); have _ := aM (Kd.S_elder' (sQ HO_17) (Kd.S_base ho0) hb); have _ := aM (Kd.R_below (rQ HL223_0) hb); have _ := aM (Kd.S_lower (Kd.S_new' (Kd.S_new' ho0 (Kd.S_lt (sQ HO_17))) (Kd.R_lt (rQ HL223_0))) (below_size bq)); have _ := aM (Kd.C_below (cQ HR223_0.out) hb); have _ := aM (below_step bq hb); clear HO_6 HO_17 HL223_0 HR223_0 HB; rename_i HO_6 HO_17 HL223_0 HO226 HR223_0 HB; (try clear hb); (try clear hb2); (try clear hk); (try clear hi); (try clear ho0); obtain ⟨Ao15, co15, eo15⟩ := Kd.S_slice HO226.out; subst eo15) | ((with_reducible refine gate_builtin (b := .append) (xs := #[.tmp 23, .tmp 26]) rfl ?_); at_builtin; refine Kd.R_append k36 (w0 := w) w.heap.size rfl (.tmp 23) (.tmp 26) 66 36 (.agg #[(.slice none 0 0)]) 24 rfl Try.underlying66 info36 rfl (by decide) (by omega) u6 x6_1 (⟨t224⟩ : S36) [.slice Ao15 t224.length co15] (fun k_ => some k_ ≠ (.slice (some ad223) t216.length co7 : Value).ownBlock) (fun k_ => ((fun k_ => some k_ ≠ (.slice (some ad223) t216.length co7 : Value).ownBlock)) k_ ∧ some k_ ≠ (u6 : Value).ownBlock) rfl rfl ?aP (fun _ hk => hk) ?aF ?aO ?aB ?aS ?aL ?_; (case aP => exact k36_mkM _ _ _ (⟨t224⟩ : S36) (Kd.R_mono (Kd.R_apart' ((Kd.S_R HO226.out)) (Kd.R_typed HO_6.out) (by decide)) (fun k_ hk => ⟨hk.1.1.2, hk.2⟩))); (case aB => exact bq); (case aF => exact (fun k_ hk => Kd.fresh' (Kd.S_lt (sQ HO_17)) k_ hk)); (case aO => exact (by (with_reducible repeat first|apply rA|apply rN|apply rD); exact Kd.R_mono HO_6.out (fun _ hk => hk.1))); (case aS => exact (below_size bq)); (case aL => have := LMc12.out; omega); intro v228 w14 ho hb hg hat; rw [← Ny227.out] at ho; have _ := aM (Kd.S_over' (sQ HO_17) (Kd.R_typed (rQ HO_6)) (by decide) hg); have _ := aM (Kd.R_over' (rQ HL223_0) (Kd.R_typed (rQ HO_6)) (by decide) hg); have _ := aM (hb); have _ := aM (ho); clear HO_17 HL223_0 HB HO_6 HO226; rename_i HO_17 HL223_0 HB HO229; clear ho hb hg hat))
        go_roundg k1
        case measure => have := HK1.out; omega
        case rel => exact ⟨(y227), (wrap64 (x19_1 + 1)), (by first | rfl | (simp; done) | (simp [*]; done)), H', ⟨by have := HK1.out; omega⟩, ⟨by (with_reducible repeat first|apply rA|apply rN|apply rD); exact HO229.out⟩, ⟨by (with_reducible repeat first|apply sA|apply sN|apply sD); exact Kd.S_mono HO_17.out (fun _ hk => trivial)⟩, ⟨by exact bq⟩⟩
       ·rw [if_neg c12] at H
        exact absurd H (by simp)
      ·rw [if_neg c10] at H
       exact absurd H (by simp)
     ·rw [if_neg c9] at H
      exact absurd H (by simp)
    ·rw [if_neg c8] at H
     have c8b0 : decide (x19_1 < (t216.length : Int)) = false := decide_eq_false c8
     clear c8
     simp only [Option.some.injEq, Prod.mk.injEq] at H
     obtain ⟨rfl, rfl⟩ := H
     go_wp2
     go_ret2
     exact ⟨_, by first | rfl | (simp [errW_none, errW_some] <;> rfl) | (simp [*, errW_none, errW_some] <;> rfl), by (with_reducible repeat first|apply rA|apply rN|apply rD); exact Kd.R_mono HO_6.out (fun _ hk => trivial), by exact bq⟩
 ·replace c3 := Bool.eq_false_iff.mpr c3
  subst c3
  have H1 : (some (([] : List (S36)), false)) = some (r1, r2) := by rw [if_neg (show ¬ (false = true) by decide)] at H; exact H
  clear H
  have H := H1
  clear H1
  simp only [Option.some.injEq, Prod.mk.injEq] at H
  obtain ⟨rfl, rfl⟩ := H
  go_enter Try.func63, Try.ntmps63
  go_wp2_with (first | ((with_reducible refine gate_callee (f := 64) rfl ?_); refine gL (some 11) Try.func64 #[.int .i64 a0] ?_; (with_reducible refine (impl_ListAscents.calls a0 t216 false _ A2.out).mono ?_); rintro e w16 ⟨v218, rfl, ho0, hb⟩; refine ⟨_, rfl, ?_⟩; have _ := aM (Kd.S_lower ho0 (below_size bq)); have _ := aM (below_step bq hb); clear HB; rename_i HO219 HB; (try clear hb); (try clear hb2); (try clear hk); (try clear hi); (try clear ho0)))
  go_ret2
  exact ⟨_, by first | rfl | (simp [errW_none, errW_some] <;> rfl) | (simp [*, errW_none, errW_some] <;> rfl), by first | exact Kd.R_nil _ _ _ _ _ | exact Kd.N_nil _ _ _ _ _ | exact Kd.V_nil _ _ _ _ _ | exact Kd.Q_nil _ _ _ _ _ | exact Kd.S_nil _ _ _ _ _, by exact bq⟩

def impl_ofLists.f (a0 : Int) : Option (List (List (List Int))) := if 0 ≤ a0 ∧ a0 ≤ 1000 then some (List.replicate a0.toNat (List.replicate a0.toNat [])) else none
set_option maxHeartbeats 8000000 in
set_option maxRecDepth 100000 in
open Go.Proofs.Ytacdlipojhoilaa.Live in
theorem impl_ofLists.calls (a0 : Int) (r : List (List (List Int))) (w : World) (h : impl_ofLists.f a0 = some r) :
    Calls Try.prog 130 #[.int .i64 a0] w fun e w' => ∃ v0_ : Value, e = .returned (v0_) ∧ Kd.S (sl 24 (Kd.slice 3 (Kd.int .i64))) 34 w' w.heap.size (fun _ => True) v0_ r ∧ Below w.heap.size w w' := by
 unfold impl_ofLists.f at h
 by_cases hk : 0 ≤ a0 ∧ a0 ≤ 1000
 case neg => rw [if_neg hk] at h; exact absurd h (by simp)
 rw [if_pos hk] at h
 obtain rfl := Option.some.inj h
 clear h
 obtain ⟨d, rfl⟩ : ∃ d : Nat, a0 = (d : Int) := ⟨a0.toNat, by omega⟩
 have hd : d ≤ 1000 := by omega
 clear hk
 rw [Int.toNat_natCast]
 have HB := aM (Below.refl w.heap.size w)
 go_enter Try.func130, Try.ntmps130
 go_wp2_with (first | ((with_reducible refine gate_dst (N := 4) rfl ?_); refine Kd.R_lit (Kd.tag (fun _ => 0) (sl 24 (Kd.slice 3 (Kd.int .i64)))) _ 34 ?hg (N := 4) ?hd (xs := ([] : List (List (List Int) × Nat))) (inner := []) (ok := fun _ => True) (okp := fun _ => True) ?hr ?hp (fun _ hk => hk) trivial (Below.refl _ _) (Nat.le_refl _) (by simp) ?_; (case hd => rfl); (case hg => rfl); (case hr => first | (go_simp; done) | (go_simp; rfl)); (case hp => exact (Reps.none _ _)); intro v194 w2 ho3 hb hg_ hnew_; clear hg_ hnew_; have HO195 := aM (Live.add (o := rows (sl 24 (Kd.slice 3 (Kd.int .i64))) 34 v194 []) (Live.start w) hb (show (rows (sl 24 (Kd.slice 3 (Kd.int .i64))) 34 v194 []).P _ _ (fun _ => True) from ⟨fun _ => 0, ho3⟩)); clear HB hb ho3))
 go_loopg [3, 6] (d + 1) (fun kq v3 v6 w' => ∃ i : Nat, v6 = .int .i64 (i : Int) ∧ Aside0 (i ≤ d ∧ kq = d - i + 1) ∧ Aside0 (Live w w' [rows (sl 24 (Kd.slice 3 (Kd.int .i64))) 34 v3 (List.replicate i (List.replicate d []))]))
 case atStart => exact ⟨0, rfl, ⟨Nat.zero_le _, rfl⟩, HO195⟩
 case round => (
 clear HO195
 obtain ⟨i, rfl, HI, H⟩ := hrel
 by_cases ci : i < d
 · {
 have c1 : decide ((i : Int) < (d : Int)) = true := decide_eq_true (by omega)
 have c2 : decide (i < d) = true := decide_eq_true ci
 have c3 : decide (0 ≤ (d : Int)) = true := decide_eq_true (by omega)
 have c4 : decide (d ≤ 11728124029610) = true := decide_eq_true (by omega)
 go_wp2_with (first | ((with_reducible refine gate_dst (N := 10) rfl ?_); refine Kd.S_make (Kd.slice 3 (Kd.int .i64)) _ 24 rfl (N := 10) rfl 34 _ _ rfl (d : Int) rfl rfl Try.underlying34 (.slice none 0 0) 24 (by kernel_rfl) rfl (by decide) (by omega) [] (ok := fun _ => True) (okp := fun _ => True) ⟨_, rfl, Kd.R_nil _ _ _ _ _⟩ (fun _ hk => hk) trivial (by omega) (by omega) (Below.refl _ _) (Nat.le_refl _) ?_; intro v197 w8 ho9 hb hg_ hnew_; clear hg_ hnew_; rw [Int.toNat_natCast] at ho9; have H2 := aM (Live.add (o := rows (Kd.slice 3 (Kd.int .i64)) 24 v197 (List.replicate d [])) H.out hb ho9); clear ho9 hb; obtain ⟨A4, c4_, rfl, _, _⟩ := H2.out.forms 1 rfl; rw [List.length_replicate] at H2 ⊢) | ((with_reducible refine gate_builtin (b := .append) (xs := #[.tmp 8, .tmp 11]) rfl ?_); at_builtin; obtain ⟨ok_, okl_, ho_, hp_, hd_, hbd_, hback_⟩ := H2.out.lend2 0 1 rfl rfl (by decide); refine Kd.S_append (sl 24 (Kd.slice 3 (Kd.int .i64))) (w0 := w) w.heap.size rfl (.tmp 8) (.tmp 11) 110 34 (.slice none 0 0) 24 rfl Try.underlying110 (by kernel_rfl) rfl (by decide) (by omega) u3 (List.replicate i (List.replicate d [])) (List.replicate d []) [.slice A4 d c4_] (fun k_ => ok_ k_ ∨ okl_ k_ ∨ w8.heap.size ≤ k_) okl_ rfl rfl ⟨_, rfl, hp_⟩ (fun k_ hk_ => ⟨.inr (.inl hk_), fun he_ => hd_ k_ hk_ ((Kd.S_R ho_).1 k_ he_.symm)⟩) (fun k_ hk_ => .inr (.inr hk_)) (Kd.S_mono ho_ (fun k_ hk_ => ⟨.inl hk_, fun h2_ => hd_ k_ h2_ hk_⟩)) H2.out.below H2.out.below.size (by rw [List.length_replicate]; omega) ?_; intro v200 w10 hs_ hb_ hg_ hat_; have H3 := aM (hback_ w10 (rows (sl 24 (Kd.slice 3 (Kd.int .i64))) 34 v200 (List.replicate i (List.replicate d []) ++ [List.replicate d []])) hb_ (Kept.of_grown hg_ (Kept.refl w8 _) (fun k_ hk_ => .inl (.inl ((Kd.S_R ho_).1 k_ hk_)))) hs_); clear hs_ hb_ hg_ hat_ hback_ hbd_ hd_ hp_ ho_))
 go_roundg (d - i)
 case measure => have := HI.out; omega
 case rel => (
 have H4 := aM (H3.out.keep 1)
 exact ⟨i + 1, by first | rfl | simp, ⟨by omega, by omega⟩, ⟨by rw [List.replicate_succ']; exact H4.out⟩⟩)}
 · {
 have c1 : decide ((i : Int) < (d : Int)) = false := decide_eq_false (by omega)
 have c2 : decide (i < d) = false := decide_eq_false ci
 obtain rfl : i = d := by have := HI.out; omega
 go_wp2
 go_ret
 exact ⟨_, rfl, H.out.get 0 rfl, H.out.below⟩})
end Go.Proofs.Ytacdlipojhoilaa.Yx
