-- Written by hook.py, a program of this session (wip/), which runs the kit's print.py with its own parts; Lean checks it.
import Derived.Test.YtacdlipojhoilaaMx0
import Derived.Test.YtacdlipojhoilaaMx3
import Derived.Test.YtacdlipojhoilaaMx5
import Derived.Test.YtacdlipojhoilaaXSq
namespace Go.Proofs.Ytacdlipojhoilaa.Mx
open Go.RowKit Go.Proofs.YtacdlipojhoilaaW.PrintWords Go.Proofs.YtacdlipojhoilaaW.PrintLast Go.Proofs.YtacdlipojhoilaaW.PrintMore Go.Proofs.Ytacdlipojhoilaa.Sq
attribute [local go_sem] max2_int min2_int max_two min_two max_three min_three max_four min_four   -- for this text's walks alone
set_option linter.unusedVariables false
set_option linter.unusedSimpArgs false

/-! ### spec_asGood: function 86 -/
def spec_asGood.l0 : Nat → List Int → List Int → Int → Int → Option (Bool)
 | 0, _, _, _, _ => none
 | k + 1, x0, x8, x9, x10 => if x10 < x9 then (if 0 ≤ x10 then (if x10 < (x8.length : Int) then (if x10 ≤ (x0.length : Int) then ((spec_asBound.f k (x0.take (x10 : Int).toNat)).bind fun t181 => ((spec_l1In.f (rd x8 x10) 0 t181).bind fun t182 => (if t182 = true then (spec_asGood.l0 k x0 x8 x9 (wrap64 (x10 + 1))) else (some false)))) else (none)) else (none)) else (none)) else (some true)
def spec_asGood.f (k : Nat) (l0 : List Int) : Option (Bool) := if (l0.length : Int) > 12 then (some false) else (spec_asGood.l0 k l0 l0 (l0.length : Int) 0)
theorem spec_asGood.mono_l : ∀ k, (∀ y0 y1 y2 y3, LeO (spec_asGood.l0 k y0 y1 y2 y3) (spec_asGood.l0 (k + 1) y0 y1 y2 y3))
 | 0 => fun _ _ _ _ r h => by simp [spec_asGood.l0] at h
 | k + 1 => by
  have ih0 := spec_asGood.mono_l k
  ·intro y0 y1 y2 y3
   unfold spec_asGood.l0
   repeat' first | with_reducible first | exact ih0 _ _ _ _ | exact spec_asBound.mono _ _ | exact LeO.refl _ | exact LeO.none _ | refine LeO.ite ?_ ?_ | refine LeO.bind ?_ (fun _ => ?_)
theorem spec_asGood.mono : ∀ a0 k, LeO (spec_asGood.f k a0) (spec_asGood.f (k + 1) a0) := by
 intro a0 k
 have ih0 := spec_asGood.mono_l k
 unfold spec_asGood.f
 repeat' first | with_reducible first | exact ih0 _ _ _ _ | exact spec_asBound.mono _ _ | exact LeO.refl _ | exact LeO.none _ | refine LeO.ite ?_ ?_ | refine LeO.bind ?_ (fun _ => ?_)
set_option maxHeartbeats 8000000 in
set_option maxRecDepth 100000 in
theorem spec_asGood.calls (k : Nat) (A0 : Option Addr) (c0 : Nat) (l0 : List Int) (r : Bool) (w : World) (hr0 : Kd.C (Kd.int .i64) w A0 l0.length l0) (hc0 : l0.length ≤ c0) (h : spec_asGood.f k l0 = some r) :
  Calls Try.prog 86 #[.slice A0 l0.length c0] w fun e w' => e = .returned (.bool r) ∧ Drawn0 w w' := by
 have HR0 := aM hr0
 have HC0 := aM hc0
 clear hr0 hc0
 have H : (if (l0.length : Int) > 12 then (some false) else (spec_asGood.l0 k l0 l0 (l0.length : Int) 0)) = some r := h
 clear h
 by_cases c2 : (l0.length : Int) > 12
 ·rw [if_pos c2] at H
  have c2b0 : decide (12 < (l0.length : Int)) = true := decide_eq_true c2
  have c2b1 : decide (12 < l0.length) = true := decide_eq_true (by omega)
  clear c2
  obtain rfl := Option.some.inj H
  go_enter Try.func86, Try.ntmps86
  go_wp2
  go_ret
  exact ⟨by first | rfl | (simp; done) | (simp [*]; done), by repeat (first | exact Drawn0.refl _ | apply Drawn0.step)⟩
 ·rw [if_neg c2] at H
  have c2b0 : decide (12 < (l0.length : Int)) = false := decide_eq_false c2
  have c2b1 : decide (12 < l0.length) = false := decide_eq_false (by omega)
  clear c2
  have H' := aM H
  clear H
  go_enter Try.func86, Try.ntmps86
  go_wp2
  go_loopg [10] k (fun kq v10 w' => ∃ (x10_1 : Int), v10 = .int .i64 x10_1 ∧ Aside0 (spec_asGood.l0 kq l0 l0 (l0.length : Int) x10_1 = some r) ∧ Aside0 (kq ≤ k) ∧ Drawn0 w w')
  case atStart => exact ⟨(0), (by first | rfl | (simp; done) | (simp [*]; done)), H', ⟨Nat.le_refl _⟩, by repeat (first | exact Drawn0.refl _ | apply Drawn0.step)⟩
  case round =>
   clear H'
   try clear c2
   try clear c2b0
   try clear c2b1
   try clear p2
   obtain ⟨x10_1, rfl, HA, HK1, ⟨m1, rfl⟩⟩ := hrel
   cases gk with
   | zero => exact absurd HA.out (by simp [spec_asGood.l0])
   | succ k1 =>
    have H := HA.out
    clear HA
    simp only [spec_asGood.l0] at H
    by_cases c3 : x10_1 < (l0.length : Int)
    ·rw [if_pos c3] at H
     have c3b0 : decide (x10_1 < (l0.length : Int)) = true := decide_eq_true c3
     clear c3
     by_cases c4 : 0 ≤ x10_1
     ·rw [if_pos c4] at H
      have c4b0 : decide (0 ≤ x10_1) = true := decide_eq_true c4
      clear c4
      by_cases c5 : x10_1 < (l0.length : Int)
      ·rw [if_pos c5] at H
       have c5b0 : decide (x10_1 < (l0.length : Int)) = true := decide_eq_true c5
       clear c5
       have c6b0 := eq_true (odt : 0 ≤ x10_1)
       by_cases c7 : x10_1 ≤ (l0.length : Int)
       ·rw [if_pos c7] at H
        have c7b0 := eq_true c7
        have c7b1 : decide (x10_1 ≤ (l0.length : Int)) = true := decide_eq_true c7
        clear c7
        replace H := Option.bind_eq_some_iff.mp H
        obtain ⟨t181, A80, H⟩ := H
        replace H : ((spec_l1In.f (rd l0 x10_1) 0 t181).bind fun t182 => (if t182 = true then (spec_asGood.l0 k1 l0 l0 (l0.length : Int) (wrap64 (x10_1 + 1))) else (some false))) = some r := H
        have A8 := aM A80
        clear A80
        replace H := Option.bind_eq_some_iff.mp H
        obtain ⟨t182, A90, H⟩ := H
        replace H : (if t182 = true then (spec_asGood.l0 k1 l0 l0 (l0.length : Int) (wrap64 (x10_1 + 1))) else (some false)) = some r := H
        have A9 := aM A90
        clear A90
        by_cases c10 : t182 = true
        ·subst c10
         have H1 : (spec_asGood.l0 k1 l0 l0 (l0.length : Int) (wrap64 (x10_1 + 1))) = some r := by rw [if_pos rfl] at H; exact H
         clear H
         have H := H1
         clear H1
         have H' := aM H
         clear H
         have p179 : 0 ≤ (x10_1 : Int) := odt
         have q179 : x10_1 < (l0.length : Int) := odt
         obtain ⟨ad179, e179, hx179_0⟩ := Kd.at_int HR0.out x10_1 p179 q179
         cases e179
         replace p179 := eq_true p179
         replace q179 := eq_true q179
         obtain ⟨i011, hi011, _, hsz11, _⟩ := info_parts info3
         obtain ⟨hcut11, hA11, hC11⟩ := print_take_of (P := Try.prog) (Value.int .i64) 0 24 3 .i64 Try.underlying24 hi011 hsz11 (some ad179) c0 l0 x10_1 (odt) (odt) HC0.out
         have HR180 := aM (Kd.C_of_reads (h1 := fun _ => rfl) (hA11 _ (Kd.reads_of_C HR0.out)))
         have HC180 := aM hC11
         clear hA11 hC11 hi011 hsz11
         go_wp2_with (first | ((with_reducible refine gate_callee (f := 134) rfl ?_); refine goesL_ (some 19) rfl rfl Try.func134 (by kernel_rfl) rfl #[.slice (some ad179) (l0.take (x10_1 : Int).toNat).length c0] rfl (by (try simp only [List.map_toArray, List.map_cons, List.map_nil]); first | done | (rw [show (l0.take (x10_1 : Int).toNat).length = x10_1.toNat from (by rw [List.length_take]; have h_ : (x10_1 : Int) ≤ (l0.length : Int) := odt; omega)] <;> rfl) | rfl | (simp only [List.length_drop, List.length_take]; rfl)) ?_; (with_reducible refine (spec_asBound.calls k1 _ _ (l0.take (x10_1 : Int).toNat) t181 _ ?side1 ?side2 A8.out).mono ?_); (case side1 => repeat (first | exact HR180.out | (with_reducible refine Kd.C_alloc ?_ _) | (with_reducible refine Kd.C_drewN ?_ _) | (with_reducible refine Kd.C_drew ?_))); (case side2 => exact HC180.out); rintro e w' ⟨rfl, ⟨nd, rfl⟩⟩; refine ⟨_, rfl, ?_⟩) | ((with_reducible refine gate_callee (f := 105) rfl ?_); refine gL (some 20) Try.func105 #[.int .i64 (rd l0 x10_1), .int .i64 0, .int .i64 t181] ?_; (with_reducible refine (spec_l1In.calls (rd l0 x10_1) 0 t181 true _ A9.out).mono ?_); rintro e w' ⟨rfl, ⟨nd, rfl⟩⟩; refine ⟨_, rfl, ?_⟩))
         go_roundg k1
         case measure => have := HK1.out; omega
         case rel => exact ⟨(wrap64 (x10_1 + 1)), (by first | rfl | (simp; done) | (simp [*]; done)), H', ⟨by have := HK1.out; omega⟩, by repeat (first | exact Drawn0.refl _ | apply Drawn0.step)⟩
        ·replace c10 := Bool.eq_false_iff.mpr c10
         subst c10
         have H1 : (some false) = some r := by rw [if_neg (show ¬ (false = true) by decide)] at H; exact H
         clear H
         have H := H1
         clear H1
         obtain rfl := Option.some.inj H
         have p179 : 0 ≤ (x10_1 : Int) := odt
         have q179 : x10_1 < (l0.length : Int) := odt
         obtain ⟨ad179, e179, hx179_0⟩ := Kd.at_int HR0.out x10_1 p179 q179
         cases e179
         replace p179 := eq_true p179
         replace q179 := eq_true q179
         obtain ⟨i012, hi012, _, hsz12, _⟩ := info_parts info3
         obtain ⟨hcut12, hA12, hC12⟩ := print_take_of (P := Try.prog) (Value.int .i64) 0 24 3 .i64 Try.underlying24 hi012 hsz12 (some ad179) c0 l0 x10_1 (odt) (odt) HC0.out
         have HR180 := aM (Kd.C_of_reads (h1 := fun _ => rfl) (hA12 _ (Kd.reads_of_C HR0.out)))
         have HC180 := aM hC12
         clear hA12 hC12 hi012 hsz12
         go_wp2_with (first | ((with_reducible refine gate_callee (f := 134) rfl ?_); refine goesL_ (some 19) rfl rfl Try.func134 (by kernel_rfl) rfl #[.slice (some ad179) (l0.take (x10_1 : Int).toNat).length c0] rfl (by (try simp only [List.map_toArray, List.map_cons, List.map_nil]); first | done | (rw [show (l0.take (x10_1 : Int).toNat).length = x10_1.toNat from (by rw [List.length_take]; have h_ : (x10_1 : Int) ≤ (l0.length : Int) := odt; omega)] <;> rfl) | rfl | (simp only [List.length_drop, List.length_take]; rfl)) ?_; (with_reducible refine (spec_asBound.calls k1 _ _ (l0.take (x10_1 : Int).toNat) t181 _ ?side1 ?side2 A8.out).mono ?_); (case side1 => repeat (first | exact HR180.out | (with_reducible refine Kd.C_alloc ?_ _) | (with_reducible refine Kd.C_drewN ?_ _) | (with_reducible refine Kd.C_drew ?_))); (case side2 => exact HC180.out); rintro e w' ⟨rfl, ⟨nd, rfl⟩⟩; refine ⟨_, rfl, ?_⟩) | ((with_reducible refine gate_callee (f := 105) rfl ?_); refine gL (some 20) Try.func105 #[.int .i64 (rd l0 x10_1), .int .i64 0, .int .i64 t181] ?_; (with_reducible refine (spec_l1In.calls (rd l0 x10_1) 0 t181 false _ A9.out).mono ?_); rintro e w' ⟨rfl, ⟨nd, rfl⟩⟩; refine ⟨_, rfl, ?_⟩))
         go_ret
         exact ⟨by first | rfl | (simp; done) | (simp [*]; done), by repeat (first | exact Drawn0.refl _ | apply Drawn0.step)⟩
       ·rw [if_neg c7] at H
        exact absurd H (by simp)
      ·rw [if_neg c5] at H
       exact absurd H (by simp)
     ·rw [if_neg c4] at H
      exact absurd H (by simp)
    ·rw [if_neg c3] at H
     have c3b0 : decide (x10_1 < (l0.length : Int)) = false := decide_eq_false c3
     clear c3
     obtain rfl := Option.some.inj H
     go_wp2
     go_ret
     exact ⟨by first | rfl | (simp; done) | (simp [*]; done), by repeat (first | exact Drawn0.refl _ | apply Drawn0.step)⟩

/-! ### spec_l1Own: function 126 -/
def spec_l1Own.f (l0 : List Int) : Option (List Int) := (some (([] : List Int) : List Int)).bind fun y183 => (if y183.length + l0.length < 17592186044416 then (some (y183 ++ l0)) else (none))
set_option maxHeartbeats 8000000 in
set_option maxRecDepth 100000 in
theorem spec_l1Own.calls (A0 : Option Addr) (c0 : Nat) (l0 : List Int) (r : List Int) (w : World) (hr0 : Kd.C (Kd.int .i64) w A0 l0.length l0) (hc0 : l0.length ≤ c0) (h : spec_l1Own.f l0 = some r) :
  Calls Try.prog 126 #[.slice A0 l0.length c0] w fun e w' => ∃ v0_ : Value, e = .returned (v0_) ∧ Kd.R (Kd.int .i64) 3 w' w.heap.size (fun _ => True) v0_ r ∧ Below w.heap.size w w' := by
 have HR0 := aM hr0
 have HC0 := aM hc0
 clear hr0 hc0
 have HB := aM (Below.refl w.heap.size w)
 have H : ((some (([] : List Int) : List Int)).bind fun y183 => (if y183.length + l0.length < 17592186044416 then (some (y183 ++ l0)) else (none))) = some r := h
 clear h
 obtain ⟨y183, hy183⟩ : ∃ y_ : List Int, y_ = (([] : List Int)) := ⟨_, rfl⟩
 replace H : (if y183.length + l0.length < 17592186044416 then (some (y183 ++ l0)) else (none)) = some r := by first | (rw [hy183]; with_reducible exact H) | (have H2_ := (Option.bind_some _ _).symm.trans H; rw [hy183]; with_reducible exact H2_) | (have H2_ := (Option.bind_some _ _).symm.trans H; with_reducible exact H2_) | with_reducible exact H | (rw [hy183]; exact H) | exact H
 have Ny183 := aM hy183
 clear hy183
 by_cases c2 : y183.length + l0.length < 17592186044416
 ·rw [if_pos c2] at H
  have LMc2 := aM c2
  clear c2
  obtain ⟨y186, hy186⟩ : ∃ y_ : List Int, y_ = (y183 ++ l0) := ⟨_, rfl⟩
  replace H : (some y186) = some r := by first | (rw [hy186]; with_reducible exact H) | (have H2_ := (Option.bind_some _ _).symm.trans H; rw [hy186]; with_reducible exact H2_) | (have H2_ := (Option.bind_some _ _).symm.trans H; with_reducible exact H2_) | with_reducible exact H | (rw [hy186]; exact H) | exact H
  have Ny186 := aM hy186
  clear hy186
  obtain rfl := Option.some.inj H
  go_enter Try.func126, Try.ntmps126
  go_wp2_with (first | ((with_reducible refine gate_dst (N := 3) rfl ?_); refine Kd.R_lit (Kd.int .i64) _ 3 ?hg (N := 3) ?hd (xs := ([] : List Int)) (inner := []) (ok := fun _ => True) (okp := fun _ => True) ?hr ?hp (fun _ hk => hk) trivial (Below.refl _ _) (Nat.le_refl _) (by simp) ?_; (case hd => rfl); (case hg => rfl); (case hr => first | (go_simp; done) | (go_simp; rfl)); (case hp => exact (Reps.none _ _)); intro v184 w3 ho4 hb hg_ hnew_; clear hg_ hnew_; (first | rw [← Ny183.out] at ho4 | (simp only [Int.reduceToNat] at ho4; rw [← Ny183.out] at ho4)); have _ := aM (Kd.R_lower ho4 (below_size bq)); have _ := aM (below_step bq hb); clear HB; rename_i HO185 HB; clear hb ho4) | ((with_reducible refine gate_builtin (b := .append) (xs := #[.tmp 3, .tmp 4]) rfl ?_); at_builtin; refine Kd.R_append_rows (Kd.int .i64) (w0 := w) w.heap.size rfl (.tmp 3) (.tmp 4) 24 3 (.int .i64 0) 8 rfl Try.underlying24 info3 rfl (by decide) (by omega) v184 y183 l0 _ _ _ (fun _ => True) (fun _ => False) rfl rfl ?aO ?aR (fun _ _ h => h) (fun _ h => h.elim) ?aF ?aB ?aS ?aL ?_; (case aR => repeat (first | exact (Kd.C_below HR0.out HB.out) | (with_reducible refine Kd.C_alloc ?_ _) | (with_reducible refine Kd.C_drewN ?_ _) | (with_reducible refine Kd.C_drew ?_))); (case aB => exact bq); (case aF => exact (fun _ _ => trivial)); (case aO => exact (rQ HO185)); (case aS => exact (below_size bq)); (case aL => have := LMc2.out; omega); intro v187 w5 ho hb hg hat; rw [← Ny186.out] at ho; have _ := aM (hb); have _ := aM (ho); clear HB HO185; rename_i HB HO188; clear ho hb hg hat))
  go_ret
  exact ⟨_, by first | rfl | (simp [errW_none, errW_some] <;> rfl) | (simp [*, errW_none, errW_some] <;> rfl), by (with_reducible repeat first|apply rA|apply rN|apply rD); exact HO188.out, by exact bq⟩
 ·rw [if_neg c2] at H
  exact absurd H (by simp)

/-! ### spec_asModify: function 111 -/
mutual
def spec_asModify.l0 : Nat → List Int → List Int → Int → Option (List Int)
 | 0, _, _, _ => none
 | k + 1, x0, x3, x4 => if x4 < (x0.length : Int) then (if 0 ≤ (wrap64 (x4 - 1)) then (if (wrap64 (x4 - 1)) < (x0.length : Int) then (if 0 ≤ x4 then (if (rd x0 (wrap64 (x4 - 1))) ≥ (rd x0 x4) then (spec_asModify.l0 k x0 x3 (wrap64 (x4 + 1))) else (spec_asModify.l1 k x0 x3 x4 0)) else (none)) else (none)) else (none)) else (some x3)
def spec_asModify.l1 : Nat → List Int → List Int → Int → Int → Option (List Int)
 | 0, _, _, _, _ => none
 | k + 1, x0, x3, x4, x5 => if x5 < x4 then (if 0 ≤ x5 then (if x5 < (x3.length : Int) then (if 0 ≤ x4 then (if x4 < (x0.length : Int) then (if (rd x3 x5) ≥ (rd x0 x4) then (spec_asModify.l1 k x0 (x3.set (x5 : Int).toNat (wrap64 ((rd x3 x5) + 1))) x4 (wrap64 (x5 + 1))) else (spec_asModify.l1 k x0 x3 x4 (wrap64 (x5 + 1)))) else (none)) else (none)) else (none)) else (none)) else (spec_asModify.l0 k x0 x3 (wrap64 (x4 + 1)))
end
def spec_asModify.f (k : Nat) (l0 : List Int) : Option (List Int) := (spec_l1Own.f l0).bind fun t189 => (spec_asModify.l0 k l0 t189 1)
theorem spec_asModify.mono_l : ∀ k, (∀ y0 y1 y2, LeO (spec_asModify.l0 k y0 y1 y2) (spec_asModify.l0 (k + 1) y0 y1 y2)) ∧ (∀ y0 y1 y2 y3, LeO (spec_asModify.l1 k y0 y1 y2 y3) (spec_asModify.l1 (k + 1) y0 y1 y2 y3))
 | 0 => ⟨fun _ _ _ r h => by simp [spec_asModify.l0] at h, fun _ _ _ _ r h => by simp [spec_asModify.l1] at h⟩
 | k + 1 => by
  obtain ⟨ih0, ih1⟩ := spec_asModify.mono_l k
  refine ⟨?_, ?_⟩
  ·intro y0 y1 y2
   unfold spec_asModify.l0
   repeat' first | with_reducible first | exact ih0 _ _ _ | exact ih1 _ _ _ _ | exact LeO.refl _ | exact LeO.none _ | refine LeO.ite ?_ ?_ | refine LeO.bind ?_ (fun _ => ?_)
  ·intro y0 y1 y2 y3
   unfold spec_asModify.l1
   repeat' first | with_reducible first | exact ih0 _ _ _ | exact ih1 _ _ _ _ | exact LeO.refl _ | exact LeO.none _ | refine LeO.ite ?_ ?_ | refine LeO.bind ?_ (fun _ => ?_)
theorem spec_asModify.mono : ∀ a0 k, LeO (spec_asModify.f k a0) (spec_asModify.f (k + 1) a0) := by
 intro a0 k
 obtain ⟨ih0, ih1⟩ := spec_asModify.mono_l k
 unfold spec_asModify.f
 repeat' first | with_reducible first | exact ih0 _ _ _ | exact ih1 _ _ _ _ | exact LeO.refl _ | exact LeO.none _ | refine LeO.ite ?_ ?_ | refine LeO.bind ?_ (fun _ => ?_)
set_option maxHeartbeats 8000000 in
set_option maxRecDepth 100000 in
theorem spec_asModify.calls (k : Nat) (A0 : Option Addr) (c0 : Nat) (l0 : List Int) (r : List Int) (w : World) (hr0 : Kd.C (Kd.int .i64) w A0 l0.length l0) (hc0 : l0.length ≤ c0) (h : spec_asModify.f k l0 = some r) :
  Calls Try.prog 111 #[.slice A0 l0.length c0] w fun e w' => ∃ v0_ : Value, e = .returned (v0_) ∧ Kd.R (Kd.int .i64) 3 w' w.heap.size (fun _ => True) v0_ r ∧ Below w.heap.size w w' := by
 have HR0 := aM hr0
 have HC0 := aM hc0
 clear hr0 hc0
 have HB := aM (Below.refl w.heap.size w)
 have H : ((spec_l1Own.f l0).bind fun t189 => (spec_asModify.l0 k l0 t189 1)) = some r := h
 clear h
 replace H := Option.bind_eq_some_iff.mp H
 obtain ⟨t189, A20, H⟩ := H
 replace H : (spec_asModify.l0 k l0 t189 1) = some r := H
 have A2 := aM A20
 clear A20
 have H' := aM H
 clear H
 go_enter Try.func111, Try.ntmps111
 go_wp2_with (first | (go_at_call 126; (with_reducible refine (spec_l1Own.calls _ _ l0 t189 _ (cQ HR0.out) HC0.out A2.out).mono ?_); rintro e w3 ⟨v190, rfl, ho0, hb⟩; have _ := aM (Kd.R_lower ho0 (below_size bq)); have _ := aM (below_step bq hb); clear HB; rename_i HO191 HB; (try clear hb); (try clear hb2); (try clear hk); (try clear hi); (try clear ho0)))
 repeat (go_quiet (first | (go_at_call 126; (with_reducible refine (spec_l1Own.calls _ _ l0 t189 _ (cQ HR0.out) HC0.out A2.out).mono ?_); rintro e w3 ⟨v190, rfl, ho0, hb⟩; have _ := aM (Kd.R_lower ho0 (below_size bq)); have _ := aM (below_step bq hb); clear HB; rename_i HO191 HB; (try clear hb); (try clear hb2); (try clear hk); (try clear hi); (try clear ho0))); try go_wp2_with (first | (go_at_call 126; (with_reducible refine (spec_l1Own.calls _ _ l0 t189 _ (cQ HR0.out) HC0.out A2.out).mono ?_); rintro e w3 ⟨v190, rfl, ho0, hb⟩; have _ := aM (Kd.R_lower ho0 (below_size bq)); have _ := aM (below_step bq hb); clear HB; rename_i HO191 HB; (try clear hb); (try clear hb2); (try clear hk); (try clear hi); (try clear ho0))))
 go_loopg [4] k (fun kq v4 w' => ∃ (x3_1 : List Int) (x4_1 : Int), v4 = .int .i64 x4_1 ∧ Aside0 (spec_asModify.l0 kq l0 x3_1 x4_1 = some r) ∧ Aside0 (kq ≤ k) ∧ Aside0 (Kd.R (Kd.int .i64) 3 w' w.heap.size (fun _ => True) v190 x3_1) ∧ Aside0 (Below w.heap.size w w'))
 case atStart => exact ⟨(t189), (1), (by first | rfl | (simp; done) | (simp [*]; done)), H', ⟨Nat.le_refl _⟩, ⟨by (with_reducible repeat first|apply rA|apply rN|apply rD); exact HO191.out⟩, ⟨by exact bq⟩⟩
 case round =>
  clear H'
  try clear c1
  try clear p2
  obtain ⟨x3_1, x4_1, rfl, HA, HK1, HO_3, HB⟩ := hrel
  cases gk with
  | zero => exact absurd HA.out (by simp [spec_asModify.l0])
  | succ k1 =>
   have H := HA.out
   clear HA
   simp only [spec_asModify.l0] at H
   by_cases c4 : x4_1 < (l0.length : Int)
   ·rw [if_pos c4] at H
    have c4b0 : decide (x4_1 < (l0.length : Int)) = true := decide_eq_true c4
    clear c4
    obtain ⟨ji5, hji5⟩ : ∃ j_ : Int, (wrap64 (x4_1 - 1)) = j_ := ⟨_, rfl⟩
    replace H : (if 0 ≤ (ji5) then (if (ji5) < (l0.length : Int) then (if 0 ≤ x4_1 then (if (rd l0 (ji5)) ≥ (rd l0 x4_1) then (spec_asModify.l0 k1 l0 x3_1 (wrap64 (x4_1 + 1))) else (spec_asModify.l1 k1 l0 x3_1 x4_1 0)) else (none)) else (none)) else (none)) = some r := by first | (rw [hji5] at H; exact H) | (simp only [hji5] at H ⊢; exact H)
    have hji5w : (IntKind.i64.wrap (x4_1 - 1)) = ji5 := (i64_w _).trans hji5
    by_cases c6 : 0 ≤ (ji5)
    ·rw [if_pos c6] at H
     have c6b0 : decide (0 ≤ (ji5)) = true := decide_eq_true c6
     clear c6
     by_cases c7 : (ji5) < (l0.length : Int)
     ·rw [if_pos c7] at H
      have c7b0 : decide ((ji5) < (l0.length : Int)) = true := decide_eq_true c7
      clear c7
      by_cases c8 : 0 ≤ x4_1
      ·rw [if_pos c8] at H
       have c8b0 : decide (0 ≤ x4_1) = true := decide_eq_true c8
       clear c8
       by_cases c9 : (rd l0 (ji5)) ≥ (rd l0 x4_1)
       ·rw [if_pos c9] at H
        have c9b0 : decide ((rd l0 x4_1) ≤ (rd l0 (ji5))) = true := decide_eq_true c9
        clear c9
        have H' := aM H
        clear H
        have p192 : 0 ≤ ((ji5) : Int) := odt
        have q192 : (ji5) < (l0.length : Int) := odt
        obtain ⟨ad192, e192, hx192_0⟩ := Kd.at_int HR0.out (ji5) p192 q192
        cases e192
        replace hx192_0 := (HB.out.cell (World.block_lt_of_cell? w _ hx192_0)).trans hx192_0
        replace p192 := eq_true p192
        replace q192 := eq_true q192
        have p193 : 0 ≤ (x4_1 : Int) := odt
        have q193 : x4_1 < (l0.length : Int) := odt
        obtain ⟨ad193, e193, hx193_0⟩ := Kd.at_int HR0.out x4_1 p193 q193
        obtain rfl : ad192 = ad193 := (by injection e193)
        replace hx193_0 := (HB.out.cell (World.block_lt_of_cell? w _ hx193_0)).trans hx193_0
        replace p193 := eq_true p193
        replace q193 := eq_true q193
        go_wp2
        repeat (go_quiet (fail); try go_wp2)
        go_roundg k1
        case measure => have := HK1.out; omega
        case rel => exact ⟨(x3_1), (wrap64 (x4_1 + 1)), (by first | rfl | (simp; done) | (simp [*]; done)), H', ⟨by have := HK1.out; omega⟩, ⟨by (with_reducible repeat first|apply rA|apply rN|apply rD); exact HO_3.out⟩, ⟨by exact bq⟩⟩
       ·rw [if_neg c9] at H
        have c9b0 : decide ((rd l0 x4_1) ≤ (rd l0 (ji5))) = false := decide_eq_false c9
        clear c9
        have H' := aM H
        clear H
        have p192 : 0 ≤ ((ji5) : Int) := odt
        have q192 : (ji5) < (l0.length : Int) := odt
        obtain ⟨ad192, e192, hx192_0⟩ := Kd.at_int HR0.out (ji5) p192 q192
        cases e192
        replace hx192_0 := (HB.out.cell (World.block_lt_of_cell? w _ hx192_0)).trans hx192_0
        replace p192 := eq_true p192
        replace q192 := eq_true q192
        have p193 : 0 ≤ (x4_1 : Int) := odt
        have q193 : x4_1 < (l0.length : Int) := odt
        obtain ⟨ad193, e193, hx193_0⟩ := Kd.at_int HR0.out x4_1 p193 q193
        obtain rfl : ad192 = ad193 := (by injection e193)
        replace hx193_0 := (HB.out.cell (World.block_lt_of_cell? w _ hx193_0)).trans hx193_0
        replace p193 := eq_true p193
        replace q193 := eq_true q193
        go_wp2
        repeat (go_quiet (fail); try go_wp2)
        go_loopg [5] k1 (fun kq v5 w' => ∃ (x3_2 : List Int) (x5_2 : Int), v5 = .int .i64 x5_2 ∧ Aside0 (spec_asModify.l1 kq l0 x3_2 x4_1 x5_2 = some r) ∧ Aside0 (kq ≤ k1) ∧ Aside0 (Kd.R (Kd.int .i64) 3 w' w.heap.size (fun _ => True) v190 x3_2) ∧ Aside0 (Below w.heap.size w w'))
        case atStart => exact ⟨(x3_1), (0), (by first | rfl | (simp; done) | (simp [*]; done)), H', ⟨Nat.le_refl _⟩, ⟨by (with_reducible repeat first|apply rA|apply rN|apply rD); exact HO_3.out⟩, ⟨by exact bq⟩⟩
        case round =>
         clear H'
         try clear c1
         try clear p1
         try clear q1
         try clear hx1
         try clear p2
         try clear c4
         try clear c4b0
         try clear c6
         try clear c6b0
         try clear p6
         try clear c7
         try clear c7b0
         try clear c8
         try clear c8b0
         try clear c9
         try clear c9b0
         try clear hx192_0
         try clear hx193_0
         try clear p192
         try clear p193
         try clear p2
         try clear q192
         try clear q193
         obtain ⟨x3_2, x5_2, rfl, HA, HK2, HO_3, HB⟩ := hrel
         cases gk with
         | zero => exact absurd HA.out (by simp [spec_asModify.l1])
         | succ k2 =>
          have H := HA.out
          clear HA
          simp only [spec_asModify.l1] at H
          by_cases c10 : x5_2 < x4_1
          ·rw [if_pos c10] at H
           have c10b0 : decide (x5_2 < x4_1) = true := decide_eq_true c10
           clear c10
           by_cases c11 : 0 ≤ x5_2
           ·rw [if_pos c11] at H
            have c11b0 : decide (0 ≤ x5_2) = true := decide_eq_true c11
            clear c11
            by_cases c12 : x5_2 < (x3_2.length : Int)
            ·rw [if_pos c12] at H
             have c12b0 : decide (x5_2 < (x3_2.length : Int)) = true := decide_eq_true c12
             clear c12
             by_cases c13 : 0 ≤ x4_1
             ·rw [if_pos c13] at H
              have c13b0 : decide (0 ≤ x4_1) = true := decide_eq_true c13
              clear c13
              by_cases c14 : x4_1 < (l0.length : Int)
              ·rw [if_pos c14] at H
               have c14b0 : decide (x4_1 < (l0.length : Int)) = true := decide_eq_true c14
               clear c14
               by_cases c15 : (rd x3_2 x5_2) ≥ (rd l0 x4_1)
               ·rw [if_pos c15] at H
                have c15b0 : decide ((rd l0 x4_1) ≤ (rd x3_2 x5_2)) = true := decide_eq_true c15
                clear c15
                obtain ⟨y197, hy197⟩ : ∃ y_ : List Int, y_ = (x3_2.set (x5_2 : Int).toNat (wrap64 ((rd x3_2 x5_2) + 1))) := ⟨_, rfl⟩
                replace H : (spec_asModify.l1 k2 l0 y197 x4_1 (wrap64 (x5_2 + 1))) = some r := by first | (rw [hy197]; with_reducible exact H) | (have H2_ := (Option.bind_some _ _).symm.trans H; rw [hy197]; with_reducible exact H2_) | (have H2_ := (Option.bind_some _ _).symm.trans H; with_reducible exact H2_) | with_reducible exact H | (rw [hy197]; exact H) | exact H
                have Ny197 := aM hy197
                clear hy197
                have H' := aM H
                clear H
                obtain ⟨Ao17, co17, eo17⟩ := Kd.R_slice HO_3.out
                subst eo17
                have p194 : 0 ≤ (x5_2 : Int) := odt
                have q194 : x5_2 < (x3_2.length : Int) := odt
                obtain ⟨ad194, e194, hx194_0⟩ := Kd.at_int (Kd.R_reads' HO_3.out).2.2 x5_2 p194 q194
                cases e194
                replace p194 := eq_true p194
                replace q194 := eq_true q194
                have p195 : 0 ≤ (x4_1 : Int) := odt
                have q195 : x4_1 < (l0.length : Int) := odt
                obtain ⟨ad195, e195, hx195_0⟩ := Kd.at_int HR0.out x4_1 p195 q195
                obtain rfl : ad192 = ad195 := (by injection e195)
                replace hx195_0 := (HB.out.cell (World.block_lt_of_cell? w _ hx195_0)).trans hx195_0
                replace p195 := eq_true p195
                replace q195 := eq_true q195
                have p196 : 0 ≤ (x5_2 : Int) := odt
                have q196 : x5_2 < (x3_2.length : Int) := odt
                obtain ⟨ad196, e196, hx196_0⟩ := Kd.at_int (Kd.R_reads' HO_3.out).2.2 x5_2 p196 q196
                obtain rfl : ad194 = ad196 := (by injection e196)
                replace p196 := eq_true p196
                replace q196 := eq_true q196
                have p16 : 0 ≤ (x5_2 : Int) := odt
                have q16 : (x5_2 : Int) < ((x3_2.length : Int) : Int) := odt
                obtain ⟨go16, co16, eo16, gb16, gl16, cl16, HG16⟩ := Kd.R_form HO_3.out (by omega)
                (first | cases eo16 | (injection eo16 with ea_ en_ ec_; (first | subst ea_ | (injection ea_ with ea_; subst ea_)); subst ec_; clear en_))
                have GB16 := aM gb16
                have GG16 := aM HG16
                clear gb16 gl16 HG16
                (first | simp only [add_plain] at hx194_0 | skip)
                (first | simp only [add_plain] at hx196_0 | skip)
                obtain ⟨hx16_0, hf16_0⟩ := Kd.R_celln 0 HO_3.out (x5_2 : Int) p16 q16
                replace p16 := eq_true p16
                replace q16 := eq_true q16
                have HP18 := Kd.R_putg HO_3.out (x5_2 : Int) (wrap64 ((rd x3_2 x5_2) + 1))
                go_wp2_with (first | ((with_reducible refine gate_store (t := 3) (p := 43) rfl ?_); (try (rw [drewN_self wr]; generalize hq_ : World.drewN wr _ = wr; have _ := aM (Kd.R_at hq_ HO_3.out); have _ := aM (below_at hq_ HB.out); (try replace hf16_0 := frozen_at_drew hq_ hf16_0); (try replace hx16_0 := cell_at_drew hq_ hx16_0); (try replace hx194_0 := cell_at_drew hq_ hx194_0); (try replace hx195_0 := cell_at_drew hq_ hx195_0); (try replace hx196_0 := cell_at_drew hq_ hx196_0); clear hq_ HO_3 HB; rename_i HO_3 HB; (try (have HP18 := Kd.R_putg HO_3.out (x5_2 : Int) (wrap64 ((rd x3_2 x5_2) + 1)))))); refine sE (wr.setCell ⟨go16, (x5_2 : Int).toNat, none⟩ (.int .i64 (wrap64 ((rd x3_2 x5_2) + 1)))) 3 43 ?_; intro w19 hw; have hg : wr.grownBy w19 (some go16) := (by rw [hw]; exact HP18.2); have hp_ : Kd.R (Kd.int .i64) 3 w19 w.heap.size (fun _ => True) (.slice (some ⟨go16, 0, none⟩) x3_2.length co17) y197 := (by rw [hw, Ny197.out]; exact HP18.1); clear HP18; have _ := aM (hp_); have _ := aM ((by rw [hw]; exact below_set (HB.out) GB16.out : Below w.heap.size w w19)); clear HO_3 HB; rename_i HO_3 HB; clear hg hw hp_))
                repeat (go_quiet (first | ((with_reducible refine gate_store (t := 3) (p := 43) rfl ?_); (try (rw [drewN_self wr]; generalize hq_ : World.drewN wr _ = wr; have _ := aM (Kd.R_at hq_ HO_3.out); have _ := aM (below_at hq_ HB.out); (try replace hf16_0 := frozen_at_drew hq_ hf16_0); (try replace hx16_0 := cell_at_drew hq_ hx16_0); (try replace hx194_0 := cell_at_drew hq_ hx194_0); (try replace hx195_0 := cell_at_drew hq_ hx195_0); (try replace hx196_0 := cell_at_drew hq_ hx196_0); clear hq_ HO_3 HB; rename_i HO_3 HB; (try (have HP18 := Kd.R_putg HO_3.out (x5_2 : Int) (wrap64 ((rd x3_2 x5_2) + 1)))))); refine sE (wr.setCell ⟨go16, (x5_2 : Int).toNat, none⟩ (.int .i64 (wrap64 ((rd x3_2 x5_2) + 1)))) 3 43 ?_; intro w19 hw; have hg : wr.grownBy w19 (some go16) := (by rw [hw]; exact HP18.2); have hp_ : Kd.R (Kd.int .i64) 3 w19 w.heap.size (fun _ => True) (.slice (some ⟨go16, 0, none⟩) x3_2.length co17) y197 := (by rw [hw, Ny197.out]; exact HP18.1); clear HP18; have _ := aM (hp_); have _ := aM ((by rw [hw]; exact below_set (HB.out) GB16.out : Below w.heap.size w w19)); clear HO_3 HB; rename_i HO_3 HB; clear hg hw hp_)); try go_wp2_with (first | ((with_reducible refine gate_store (t := 3) (p := 43) rfl ?_); (try (rw [drewN_self wr]; generalize hq_ : World.drewN wr _ = wr; have _ := aM (Kd.R_at hq_ HO_3.out); have _ := aM (below_at hq_ HB.out); (try replace hf16_0 := frozen_at_drew hq_ hf16_0); (try replace hx16_0 := cell_at_drew hq_ hx16_0); (try replace hx194_0 := cell_at_drew hq_ hx194_0); (try replace hx195_0 := cell_at_drew hq_ hx195_0); (try replace hx196_0 := cell_at_drew hq_ hx196_0); clear hq_ HO_3 HB; rename_i HO_3 HB; (try (have HP18 := Kd.R_putg HO_3.out (x5_2 : Int) (wrap64 ((rd x3_2 x5_2) + 1)))))); refine sE (wr.setCell ⟨go16, (x5_2 : Int).toNat, none⟩ (.int .i64 (wrap64 ((rd x3_2 x5_2) + 1)))) 3 43 ?_; intro w19 hw; have hg : wr.grownBy w19 (some go16) := (by rw [hw]; exact HP18.2); have hp_ : Kd.R (Kd.int .i64) 3 w19 w.heap.size (fun _ => True) (.slice (some ⟨go16, 0, none⟩) x3_2.length co17) y197 := (by rw [hw, Ny197.out]; exact HP18.1); clear HP18; have _ := aM (hp_); have _ := aM ((by rw [hw]; exact below_set (HB.out) GB16.out : Below w.heap.size w w19)); clear HO_3 HB; rename_i HO_3 HB; clear hg hw hp_)))
                go_roundg k2
                case measure => have := HK1.out; have := HK2.out; omega
                case rel => exact ⟨(y197), (wrap64 (x5_2 + 1)), (by first | rfl | (simp; done) | (simp [*]; done)), H', ⟨by have := HK1.out; have := HK2.out; omega⟩, ⟨by (with_reducible repeat first|apply rA|apply rN|apply rD); exact HO_3.out⟩, ⟨by exact bq⟩⟩
               ·rw [if_neg c15] at H
                have c15b0 : decide ((rd l0 x4_1) ≤ (rd x3_2 x5_2)) = false := decide_eq_false c15
                clear c15
                have H' := aM H
                clear H
                obtain ⟨Ao20, co20, eo20⟩ := Kd.R_slice HO_3.out
                subst eo20
                have p194 : 0 ≤ (x5_2 : Int) := odt
                have q194 : x5_2 < (x3_2.length : Int) := odt
                obtain ⟨ad194, e194, hx194_0⟩ := Kd.at_int (Kd.R_reads' HO_3.out).2.2 x5_2 p194 q194
                cases e194
                replace p194 := eq_true p194
                replace q194 := eq_true q194
                have p195 : 0 ≤ (x4_1 : Int) := odt
                have q195 : x4_1 < (l0.length : Int) := odt
                obtain ⟨ad195, e195, hx195_0⟩ := Kd.at_int HR0.out x4_1 p195 q195
                obtain rfl : ad192 = ad195 := (by injection e195)
                replace hx195_0 := (HB.out.cell (World.block_lt_of_cell? w _ hx195_0)).trans hx195_0
                replace p195 := eq_true p195
                replace q195 := eq_true q195
                go_wp2
                repeat (go_quiet (fail); try go_wp2)
                go_roundg k2
                case measure => have := HK1.out; have := HK2.out; omega
                case rel => exact ⟨(x3_2), (wrap64 (x5_2 + 1)), (by first | rfl | (simp; done) | (simp [*]; done)), H', ⟨by have := HK1.out; have := HK2.out; omega⟩, ⟨by (with_reducible repeat first|apply rA|apply rN|apply rD); exact HO_3.out⟩, ⟨by exact bq⟩⟩
              ·rw [if_neg c14] at H
               exact absurd H (by simp)
             ·rw [if_neg c13] at H
              exact absurd H (by simp)
            ·rw [if_neg c12] at H
             exact absurd H (by simp)
           ·rw [if_neg c11] at H
            exact absurd H (by simp)
          ·rw [if_neg c10] at H
           have c10b0 : decide (x5_2 < x4_1) = false := decide_eq_false c10
           clear c10
           have H' := aM H
           clear H
           go_wp2
           repeat (go_quiet (fail); try go_wp2)
           go_roundg k2
           case measure => have := HK1.out; have := HK2.out; omega
           case rel => exact ⟨(x3_2), (wrap64 (x4_1 + 1)), (by first | rfl | (simp; done) | (simp [*]; done)), H', ⟨by have := HK1.out; have := HK2.out; omega⟩, ⟨by (with_reducible repeat first|apply rA|apply rN|apply rD); exact HO_3.out⟩, ⟨by exact bq⟩⟩
      ·rw [if_neg c8] at H
       exact absurd H (by simp)
     ·rw [if_neg c7] at H
      exact absurd H (by simp)
    ·rw [if_neg c6] at H
     exact absurd H (by simp)
   ·rw [if_neg c4] at H
    have c4b0 : decide (x4_1 < (l0.length : Int)) = false := decide_eq_false c4
    clear c4
    obtain rfl := Option.some.inj H
    go_wp2
    repeat (go_quiet (fail); try go_wp2)
    go_ret
    exact ⟨_, by first | rfl | (simp [errW_none, errW_some] <;> rfl) | (simp [*, errW_none, errW_some] <;> rfl), by (with_reducible repeat first|apply rA|apply rN|apply rD); exact HO_3.out, by exact bq⟩

end Go.Proofs.Ytacdlipojhoilaa.Mx
