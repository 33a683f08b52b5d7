-- Written by hook.py, a program of this session (wip/), which runs the kit's print.py with its own parts; Lean checks it.
import Derived.Test.YtjmmleofnjcjoaaDoorRk0
import Derived.Test.YtjmmleofnjcjoaaDoorRk5
namespace Go.Proofs.YtjmmleofnjcjoaaDoor.Rk
open Go.RowKit Go.Proofs.YtjmmleofnjcjoaaDoorW.PrintWords Go.Proofs.YtjmmleofnjcjoaaDoorW.PrintLast Go.Proofs.YtjmmleofnjcjoaaDoorW.PrintMore
attribute [local go_sem] max2_int min2_int max_two min_two max_three min_three max_four min_four   -- for this text's walks alone
set_option linter.unusedVariables false
set_option linter.unusedSimpArgs false

/-! ### strconv_Itoa: function 36 -/
def strconv_Itoa.f (a0 : Int) : Option ByteArray := if 0 ≤ a0 ∧ a0 < 100 then some ⟨(Go.Lib.decDigits a0.toNat).toArray⟩ else none
theorem strconv_Itoa.calls (a0 : Int) (r : ByteArray) (w : World) (h : strconv_Itoa.f a0 = some r) :
    Calls Tryd.prog 36 #[.int .i64 a0] w fun e w' => e = .returned (.string r) ∧ Drawn0 w w' := by
  unfold strconv_Itoa.f at h
  by_cases c : 0 ≤ a0 ∧ a0 < 100
  · rw [if_pos c] at h
    obtain rfl := Option.some.inj h
    obtain ⟨n, rfl⟩ : ∃ n : Nat, a0 = (n : Int) := ⟨a0.toNat, by omega⟩
    refine (Go.Proofs.YtjmmleofnjcjoaaDoor.XShelf.strconv_Itoa_small n (by omega) w).mono ?_
    rintro e w' ⟨rfl, rfl⟩
    exact ⟨by rw [Int.toNat_natCast], Drawn0.refl _⟩
  · rw [if_neg c] at h
    exact absurd h (by simp)

/-! ### strings_Join: function 37 -/
def strings_Join.v (l0 : List ByteArray) (a1 : ByteArray) : List UInt8 := Go.Lib.join (l0.map (·.data.toList)) a1.data.toList
def strings_Join.f (l0 : List ByteArray) (a1 : ByteArray) : Option ByteArray := if l0.length ≤ 140737488355328 ∧ (strings_Join.v l0 a1).length ≤ 140737488355328 then some ⟨(strings_Join.v l0 a1).toArray⟩ else none
theorem strings_Join.calls (A0 : Option Addr) (c0 : Nat) (l0 : List ByteArray) (a1 : ByteArray) (r : ByteArray) (w : World) (hr0 : Kd.string.C w A0 l0.length l0) (hc0 : l0.length ≤ c0) (h : strings_Join.f l0 a1 = some r) :
    Calls Tryd.prog 37 #[.slice A0 l0.length c0, .string a1] w fun e w' => e = .returned (.string r) ∧ Below w.heap.size w w' := by
  unfold strings_Join.f at h
  by_cases c : l0.length ≤ 140737488355328 ∧ (strings_Join.v l0 a1).length ≤ 140737488355328
  · rw [if_pos c] at h
    obtain rfl := Option.some.inj h
    cases l0 with
    | nil =>
      refine (Go.Proofs.YtjmmleofnjcjoaaDoor.XShelf.strings_Join_none A0 c0 a1 w).mono ?_
      rintro e w' ⟨rfl, rfl⟩
      exact ⟨rfl, Below.refl _ _⟩
    | cons x xs =>
      obtain ⟨ad, _, e, _⟩ := Kd.C_get hr0 ByteArray.empty 0 (by omega) (by simp only [List.length_cons]; omega)
      subst e
      have hcell : ∀ i : Nat, i < (x :: xs).length → w.cell? (ad.add i) = some (.string ((x :: xs).getD i ByteArray.empty)) := by
        intro i hi
        obtain ⟨ad2, c2, e2, _, hK, hc2⟩ := Kd.C_get hr0 ByteArray.empty (i : Int) (by omega) (by omega)
        obtain rfl : ad = ad2 := Option.some.inj e2
        rw [Int.toNat_natCast] at hK hc2
        have hk : c2 = [.string ((x :: xs).getD i ByteArray.empty)] := hK
        have hq := hc2 0 _ (by rw [hk]; rfl)
        rwa [show Kd.string.sz = 1 from rfl, Nat.mul_one, Nat.add_zero] at hq
      have h0 := hcell 0 (by simp)
      have hsp : ad.spot = none := by
        have h1 : w.cell? ad = some (.string ((x :: xs).getD 0 ByteArray.empty)) := h0
        unfold World.cell? at h1
        split at h1
        · cases hs : ad.spot with
          | none => rfl
          | some _ => rw [hs] at h1; simp at h1
        · simp at h1
      obtain ⟨bk, o, sp⟩ := ad
      simp only at hsp
      subst hsp
      have hb := World.block_lt_of_cell? w _ h0
      refine (Go.Proofs.YtjmmleofnjcjoaaDoor.XShelf.strings_Join bk o c0 (x :: xs) a1 w ?_ hb c.1 hc0 c.2)
      intro j y hj
      have hjl : j < (x :: xs).length := (List.getElem?_eq_some_iff.1 hj).1
      have h2 := hcell j hjl
      rw [List.getD_eq_getElem?_getD, hj] at h2
      have e3 : (Addr.mk bk o none).add j = ⟨bk, o + j, none⟩ := by
        unfold Addr.add
        by_cases cj : j = 0
        · subst cj; rfl
        · rw [if_neg cj]
      rw [e3] at h2
      exact h2
  · rw [if_neg c] at h
    exact absurd h (by simp)

/-! ### impl_ascentText: function 29 -/
def impl_ascentText.l0 : Nat → List ByteArray → List Int → Int → Int → Option (ByteArray)
 | 0, _, _, _, _ => none
 | k + 1, x3, x7, x8, x9 => if x9 < x8 then (if 0 ≤ x9 then (if x9 < (x7.length : Int) then ((strconv_Itoa.f (rd x7 x9)).bind fun t184 => (if x3.length < 8796093022208 then (impl_ascentText.l0 k (x3 ++ [t184]) x7 x8 (wrap64 (x9 + 1))) else (none))) else (none)) else (none)) else ((strings_Join.f x3 (⟨#[44]⟩ : ByteArray)).bind fun t188 => (some t188))
def impl_ascentText.f (k : Nat) (l0 : List Int) : Option (ByteArray) := impl_ascentText.l0 k (([] : List ByteArray)) l0 (l0.length : Int) 0
theorem impl_ascentText.mono_l : ∀ k, (∀ y0 y1 y2 y3, LeO (impl_ascentText.l0 k y0 y1 y2 y3) (impl_ascentText.l0 (k + 1) y0 y1 y2 y3))
 | 0 => fun _ _ _ _ r h => by simp [impl_ascentText.l0] at h
 | k + 1 => by
  have ih0 := impl_ascentText.mono_l k
  ·intro y0 y1 y2 y3
   unfold impl_ascentText.l0
   repeat' first | with_reducible first | exact ih0 _ _ _ _ | exact LeO.refl _ | exact LeO.none _ | refine LeO.ite ?_ ?_ | refine LeO.bind ?_ (fun _ => ?_)
theorem impl_ascentText.mono : ∀ a0 k, LeO (impl_ascentText.f k a0) (impl_ascentText.f (k + 1) a0) := by
 intro a0 k
 have ih0 := impl_ascentText.mono_l k
 unfold impl_ascentText.f
 repeat' first | with_reducible first | exact ih0 _ _ _ _ | exact LeO.refl _ | exact LeO.none _ | refine LeO.ite ?_ ?_ | refine LeO.bind ?_ (fun _ => ?_)
set_option maxHeartbeats 8000000 in
set_option maxRecDepth 100000 in
theorem impl_ascentText.calls (k : Nat) (A0 : Option Addr) (c0 : Nat) (l0 : List Int) (r : ByteArray) (w : World) (hr0 : Kd.C (Kd.int .i64) w A0 l0.length l0) (hc0 : l0.length ≤ c0) (h : impl_ascentText.f k l0 = some r) :
  Calls Tryd.prog 29 #[.slice A0 l0.length c0] w fun e w' => e = .returned (.string r) ∧ Below w.heap.size w w' := by
 have HR0 := Aside0.mk hr0
 have HC0 := Aside0.mk hc0
 clear hr0 hc0
 have HB := Aside0.mk (Below.refl w.heap.size w)
 have H : (impl_ascentText.l0 k (([] : List ByteArray)) l0 (l0.length : Int) 0) = some r := h
 clear h
 obtain ⟨y180, hy180⟩ : ∃ y_ : List ByteArray, y_ = (([] : List ByteArray)) := ⟨_, rfl⟩
 replace H : (impl_ascentText.l0 k y180 l0 (l0.length : Int) 0) = some r := by first | (rw [hy180]; with_reducible exact H) | (have H2_ := (Option.bind_some _ _).symm.trans H; rw [hy180]; with_reducible exact H2_) | (have H2_ := (Option.bind_some _ _).symm.trans H; with_reducible exact H2_) | with_reducible exact H | (rw [hy180]; exact H) | exact H
 have Ny180 := Aside0.mk hy180
 clear hy180
 have H' := Aside0.mk H
 clear H
 go_enter Tryd.func29, Tryd.ntmps29
 go_wp2_with (first | ((with_reducible refine gate_dst (N := 6) rfl ?_); refine Kd.R_lit Kd.string _ 9 ?hg (N := 6) ?hd (xs := ([] : List ByteArray)) (inner := []) (ok := fun _ => True) (okp := fun _ => True) ?hr ?hp (fun _ hk => hk) trivial (Below.refl _ _) (Nat.le_refl _) (by simp) ?_; (case hd => rfl); (case hg => rfl); (case hr => first | (go_simp; done) | (go_simp; rfl)); (case hp => exact (Reps.none _ _)); intro v181 w2 ho3 hb hg_ hnew_; clear hg_ hnew_; (first | rw [← Ny180.out] at ho3 | (simp only [Int.reduceToNat] at ho3; rw [← Ny180.out] at ho3)); have n0_ := Aside0.mk (Kd.R_lower ho3 (below_size (by repeat (first | (with_reducible first | exact HB.out | apply bA | apply bN | apply bD) | exact HB.out)))); have n1_ := Aside0.mk (below_step (by repeat (first | (with_reducible first | exact HB.out | apply bA | apply bN | apply bD) | exact HB.out)) hb); clear HB; have HO182 := n0_; have HB := n1_; clear n0_ n1_; clear hb ho3))
 go_loopg [3, 9] k (fun kq v3 v9 w' => ∃ (x3_1 : List ByteArray) (x9_1 : Int), v9 = .int .i64 x9_1 ∧ Aside0 (impl_ascentText.l0 kq x3_1 l0 (l0.length : Int) x9_1 = some r) ∧ Aside0 (kq ≤ k) ∧ Aside0 (Kd.R Kd.string 9 w' w.heap.size (fun _ => True) v3 x3_1) ∧ Aside0 (Below w.heap.size w w'))
 case atStart => exact ⟨(y180), (0), (by first | rfl | (simp; done) | (simp [*]; done)), H', ⟨Nat.le_refl _⟩, ⟨by (with_reducible repeat first|apply rA|apply rN|apply rD); exact HO182.out⟩, ⟨by repeat (first | (with_reducible first | exact HB.out | apply bA | apply bN | apply bD) | exact HB.out)⟩⟩
 case round =>
  clear H'
  try clear c2
  try clear p2
  obtain ⟨x3_1, x9_1, rfl, HA, HK1, HO_3, HB⟩ := hrel
  cases gk with
  | zero => exact absurd HA.out (by simp [impl_ascentText.l0])
  | succ k1 =>
   have H := HA.out
   clear HA
   simp only [impl_ascentText.l0] at H
   by_cases c4 : x9_1 < (l0.length : Int)
   ·rw [if_pos c4] at H
    have c4b0 : decide (x9_1 < (l0.length : Int)) = true := decide_eq_true c4
    clear c4
    by_cases c5 : 0 ≤ x9_1
    ·rw [if_pos c5] at H
     have c5b0 : decide (0 ≤ x9_1) = true := decide_eq_true c5
     clear c5
     by_cases c6 : x9_1 < (l0.length : Int)
     ·rw [if_pos c6] at H
      have c6b0 : decide (x9_1 < (l0.length : Int)) = true := decide_eq_true c6
      clear c6
      replace H := Option.bind_eq_some_iff.mp H
      obtain ⟨t184, A70, H⟩ := H
      replace H : (if x3_1.length < 8796093022208 then (impl_ascentText.l0 k1 (x3_1 ++ [t184]) l0 (l0.length : Int) (wrap64 (x9_1 + 1))) else (none)) = some r := H
      have A7 := Aside0.mk A70
      clear A70
      by_cases c8 : x3_1.length < 8796093022208
      ·rw [if_pos c8] at H
       have LMc8 := Aside0.mk c8
       clear c8
       obtain ⟨y185, hy185⟩ : ∃ y_ : List ByteArray, y_ = (x3_1 ++ [t184]) := ⟨_, rfl⟩
       replace H : (impl_ascentText.l0 k1 y185 l0 (l0.length : Int) (wrap64 (x9_1 + 1))) = some r := by first | (rw [hy185]; with_reducible exact H) | (have H2_ := (Option.bind_some _ _).symm.trans H; rw [hy185]; with_reducible exact H2_) | (have H2_ := (Option.bind_some _ _).symm.trans H; with_reducible exact H2_) | with_reducible exact H | (rw [hy185]; exact H) | exact H
       have Ny185 := Aside0.mk hy185
       clear hy185
       have H' := Aside0.mk H
       clear H
       have p183 : 0 ≤ (x9_1 : Int) := of_decide_eq_true (by first | (with_reducible assumption) | assumption)
       have q183 : x9_1 < (l0.length : Int) := of_decide_eq_true (by first | (with_reducible assumption) | assumption)
       obtain ⟨ad183, e183, hx183_0⟩ := Kd.at_int HR0.out x9_1 p183 q183
       cases e183
       replace hx183_0 := (HB.out.cell (World.block_lt_of_cell? w _ hx183_0)).trans hx183_0
       replace p183 := eq_true p183
       replace q183 := eq_true q183
       go_wp2_with (first | ((with_reducible refine gate_callee (f := 36) rfl ?_); refine goesL_ (some 15) rfl rfl Tryd.func36 (by kernel_rfl) rfl #[.int .i64 (rd l0 x9_1)] rfl (by (try simp only [List.map_toArray, List.map_cons, List.map_nil]); first | done | rfl | (simp only [List.length_drop, List.length_take]; rfl)) ?_; (with_reducible refine (strconv_Itoa.calls (rd l0 x9_1) t184 _ A7.out).mono ?_); rintro e w' ⟨rfl, ⟨nd, rfl⟩⟩; refine ⟨_, rfl, ?_⟩) | ((with_reducible refine gate_builtin (b := .append) (xs := #[.tmp 13, .tmp 16]) rfl ?_); at_builtin; refine Kd.R_append Kd.string (w0 := w) w.heap.size rfl (.tmp 13) (.tmp 16) 57 9 (.string ⟨#[]⟩) 16 rfl Tryd.underlying57 info9 rfl (by decide) (by omega) u3 x3_1 t184 [.string t184] (fun _ => True) (fun _ => False) rfl rfl ?aP (fun _ hk => hk.elim) ?aF ?aO ?aB ?aS ?aL ?_; (case aP => exact rfl); (case aB => exact (by repeat (first | (with_reducible first | exact HB.out | apply bA | apply bN | apply bD) | exact HB.out))); (case aF => exact (fun _ _ => trivial)); (case aO => exact (by (with_reducible repeat first|apply rA|apply rN|apply rD); exact HO_3.out)); (case aS => exact (below_size (by repeat (first | (with_reducible first | exact HB.out | apply bA | apply bN | apply bD) | exact HB.out)))); (case aL => have := LMc8.out; omega); intro v186 w9 ho hb hg hat; rw [← Ny185.out] at ho; have n0_ := Aside0.mk (hb); have n1_ := Aside0.mk (ho); clear HB; clear HO_3; have HB := n0_; have HO187 := n1_; clear n0_ n1_; clear ho hb hg hat))
       go_roundg k1
       case measure => have := HK1.out; omega
       case rel => exact ⟨(y185), (wrap64 (x9_1 + 1)), (by first | rfl | (simp; done) | (simp [*]; done)), H', ⟨by have := HK1.out; omega⟩, ⟨by (with_reducible repeat first|apply rA|apply rN|apply rD); exact HO187.out⟩, ⟨by repeat (first | (with_reducible first | exact HB.out | apply bA | apply bN | apply bD) | exact HB.out)⟩⟩
      ·rw [if_neg c8] at H
       exact absurd H (by simp)
     ·rw [if_neg c6] at H
      exact absurd H (by simp)
    ·rw [if_neg c5] at H
     exact absurd H (by simp)
   ·rw [if_neg c4] at H
    have c4b0 : decide (x9_1 < (l0.length : Int)) = false := decide_eq_false c4
    clear c4
    replace H := Option.bind_eq_some_iff.mp H
    obtain ⟨t188, A100, H⟩ := H
    replace H : (some t188) = some r := H
    have A10 := Aside0.mk A100
    clear A100
    obtain rfl := Option.some.inj H
    obtain ⟨Ao11, co11, eo11⟩ := Kd.R_slice HO_3.out
    subst eo11
    go_wp2_with (first | ((with_reducible refine gate_callee (f := 37) rfl ?_); refine goesL_ (some 20) rfl rfl Tryd.func37 (by kernel_rfl) rfl #[.slice Ao11 x3_1.length co11, .string (⟨#[44]⟩ : ByteArray)] rfl (by (try simp only [List.map_toArray, List.map_cons, List.map_nil]); first | done | rfl | (simp only [List.length_drop, List.length_take]; rfl)) ?_; (with_reducible refine (strings_Join.calls _ _ x3_1 (⟨#[44]⟩ : ByteArray) t188 _ ?side1 ?side2 A10.out).mono ?_); (case side1 => repeat (first | exact (Kd.R_reads' HO_3.out).2.2 | (with_reducible refine Kd.C_alloc ?_ _) | (with_reducible refine Kd.C_drewN ?_ _) | (with_reducible refine Kd.C_drew ?_))); (case side2 => exact (Kd.R_reads' HO_3.out).2.1); rintro e w12 ⟨rfl, hb⟩; refine ⟨_, rfl, ?_⟩; have n0_ := Aside0.mk (Kd.R_below (by (with_reducible repeat first|apply rA|apply rN|apply rD); exact HO_3.out) hb); have n1_ := Aside0.mk (below_step (by repeat (first | (with_reducible first | exact HB.out | apply bA | apply bN | apply bD) | exact HB.out)) hb); clear HO_3; clear HB; have HO_3 := n0_; have HB := n1_; clear n0_ n1_; (try clear hb); (try clear hb2); (try clear hk); (try clear hi)))
    go_ret
    exact ⟨by first | rfl | (simp [errW_none, errW_some] <;> rfl) | (simp [*, errW_none, errW_some] <;> rfl), by repeat (first | (with_reducible first | exact HB.out | apply bA | apply bN | apply bD) | exact HB.out)⟩

/-! ### impl_AscentText: function 13 -/
def impl_AscentText.f (k : Nat) (l0 : List Int) : Option (ByteArray × Bool) := (impl_IsAscent.f k l0).bind fun t189 => (if t189 = true then ((impl_ascentText.f k l0).bind fun t190 => (some (t190, true))) else (some ((⟨#[]⟩ : ByteArray), false)))
theorem impl_AscentText.mono : ∀ a0 k, LeO (impl_AscentText.f k a0) (impl_AscentText.f (k + 1) a0) := by
 intro a0 k
 unfold impl_AscentText.f
 repeat' first | with_reducible first | exact impl_IsAscent.mono _ _ | exact impl_ascentText.mono _ _ | exact LeO.refl _ | exact LeO.none _ | refine LeO.ite ?_ ?_ | refine LeO.bind ?_ (fun _ => ?_)
set_option maxHeartbeats 8000000 in
set_option maxRecDepth 100000 in
theorem impl_AscentText.calls (k : Nat) (A0 : Option Addr) (c0 : Nat) (l0 : List Int) (r1 : ByteArray) (r2 : Bool) (w : World) (hr0 : Kd.C (Kd.int .i64) w A0 l0.length l0) (hc0 : l0.length ≤ c0) (h : impl_AscentText.f k l0 = some (r1, r2)) :
  Calls Tryd.prog 13 #[.slice A0 l0.length c0] w fun e w' => e = .returned (.tuple #[.string r1, .bool r2]) ∧ Below w.heap.size w w' := by
 have HR0 := Aside0.mk hr0
 have HC0 := Aside0.mk hc0
 clear hr0 hc0
 have HB := Aside0.mk (Below.refl w.heap.size w)
 have H : ((impl_IsAscent.f k l0).bind fun t189 => (if t189 = true then ((impl_ascentText.f k l0).bind fun t190 => (some (t190, true))) else (some ((⟨#[]⟩ : ByteArray), false)))) = some (r1, r2) := h
 clear h
 replace H := Option.bind_eq_some_iff.mp H
 obtain ⟨t189, A20, H⟩ := H
 replace H : (if t189 = true then ((impl_ascentText.f k l0).bind fun t190 => (some (t190, true))) else (some ((⟨#[]⟩ : ByteArray), false))) = some (r1, r2) := H
 have A2 := Aside0.mk A20
 clear A20
 by_cases c3 : t189 = true
 ·subst c3
  have H1 : ((impl_ascentText.f k l0).bind fun t190 => (some (t190, true))) = some (r1, r2) := by rw [if_pos rfl] at H; exact H
  clear H
  have H := H1
  clear H1
  replace H := Option.bind_eq_some_iff.mp H
  obtain ⟨t190, A40, H⟩ := H
  replace H : (some (t190, true)) = some (r1, r2) := H
  have A4 := Aside0.mk A40
  clear A40
  simp only [Option.some.injEq, Prod.mk.injEq] at H
  obtain ⟨rfl, rfl⟩ := H
  go_enter Tryd.func13, Tryd.ntmps13
  go_wp2_with (first | ((with_reducible refine gate_callee (f := 15) rfl ?_); refine goesL_ (some 5) rfl rfl Tryd.func15 (by kernel_rfl) rfl #[.slice A0 l0.length c0] rfl (by (try simp only [List.map_toArray, List.map_cons, List.map_nil]); first | done | rfl | (simp only [List.length_drop, List.length_take]; rfl)) ?_; (with_reducible refine (impl_IsAscent.calls k _ _ l0 true _ ?side1 ?side2 A2.out).mono ?_); (case side1 => repeat (first | exact HR0.out | (with_reducible refine Kd.C_alloc ?_ _) | (with_reducible refine Kd.C_drewN ?_ _) | (with_reducible refine Kd.C_drew ?_))); (case side2 => exact HC0.out); rintro e w' ⟨rfl, ⟨nd, rfl⟩⟩; refine ⟨_, rfl, ?_⟩) | ((with_reducible refine gate_callee (f := 29) rfl ?_); refine goesL_ (some 8) rfl rfl Tryd.func29 (by kernel_rfl) rfl #[.slice A0 l0.length c0] rfl (by (try simp only [List.map_toArray, List.map_cons, List.map_nil]); first | done | rfl | (simp only [List.length_drop, List.length_take]; rfl)) ?_; (with_reducible refine (impl_ascentText.calls k _ _ l0 t190 _ ?side1 ?side2 A4.out).mono ?_); (case side1 => repeat (first | exact HR0.out | (with_reducible refine Kd.C_alloc ?_ _) | (with_reducible refine Kd.C_drewN ?_ _) | (with_reducible refine Kd.C_drew ?_))); (case side2 => exact HC0.out); rintro e w5 ⟨rfl, hb⟩; refine ⟨_, rfl, ?_⟩; have n0_ := Aside0.mk (below_step (by repeat (first | (with_reducible first | exact HB.out | apply bA | apply bN | apply bD) | exact HB.out)) hb); clear HB; have HB := n0_; clear n0_; (try clear hb); (try clear hb2); (try clear hk); (try clear hi)))
  go_ret2
  exact ⟨by first | rfl | (simp [errW_none, errW_some] <;> rfl) | (simp [*, errW_none, errW_some] <;> rfl), by repeat (first | (with_reducible first | exact HB.out | apply bA | apply bN | apply bD) | exact HB.out)⟩
 ·replace c3 := Bool.eq_false_iff.mpr c3
  subst c3
  have H1 : (some ((⟨#[]⟩ : ByteArray), false)) = some (r1, r2) := by rw [if_neg (show ¬ (false = true) by decide)] at H; exact H
  clear H
  have H := H1
  clear H1
  simp only [Option.some.injEq, Prod.mk.injEq] at H
  obtain ⟨rfl, rfl⟩ := H
  go_enter Tryd.func13, Tryd.ntmps13
  go_wp2_with (first | ((with_reducible refine gate_callee (f := 15) rfl ?_); refine goesL_ (some 5) rfl rfl Tryd.func15 (by kernel_rfl) rfl #[.slice A0 l0.length c0] rfl (by (try simp only [List.map_toArray, List.map_cons, List.map_nil]); first | done | rfl | (simp only [List.length_drop, List.length_take]; rfl)) ?_; (with_reducible refine (impl_IsAscent.calls k _ _ l0 false _ ?side1 ?side2 A2.out).mono ?_); (case side1 => repeat (first | exact HR0.out | (with_reducible refine Kd.C_alloc ?_ _) | (with_reducible refine Kd.C_drewN ?_ _) | (with_reducible refine Kd.C_drew ?_))); (case side2 => exact HC0.out); rintro e w' ⟨rfl, ⟨nd, rfl⟩⟩; refine ⟨_, rfl, ?_⟩))
  go_ret2
  exact ⟨by first | rfl | (simp [errW_none, errW_some] <;> rfl) | (simp [*, errW_none, errW_some] <;> rfl), by repeat (first | (with_reducible first | exact HB.out | apply bA | apply bN | apply bD) | exact HB.out)⟩

/-! ### strings_Split: function 38 -/
/-- What the library's own variables hold. -/
def VarsP (w : World) : Prop := (∃ m, w.cell? ⟨3, 0, none⟩ = some (.int .i64 m)) ∧ (∃ v, w.cell? ⟨0, 0, none⟩ = some v ∧ (v = .nilIface ∨ ∃ te pe, v = .iface te pe)) ∧ (∃ v, w.cell? ⟨1, 0, none⟩ = some v ∧ (v = .nilIface ∨ ∃ te pe, v = .iface te pe))
theorem VarsP.below {w w' : World} (h : VarsP w) (hb : Below w.heap.size w w') : VarsP w' := by
  obtain ⟨⟨m, h0⟩, ⟨v1, h1, k1⟩, ⟨v2, h2, k2⟩⟩ := h
  exact ⟨⟨m, (hb.cell (World.block_lt_of_cell? w _ h0)).trans h0⟩, ⟨v1, (hb.cell (World.block_lt_of_cell? w _ h1)).trans h1, k1⟩, ⟨v2, (hb.cell (World.block_lt_of_cell? w _ h2)).trans h2, k2⟩⟩
def strings_Split.v (a0 a1 : ByteArray) : List ByteArray := Go.Lib.splitB a1 0 (Go.Lib.countB a0 a1) a0
def strings_Split.f (a0 a1 : ByteArray) : Option (List ByteArray) := if a0.size ≤ 1048576 ∧ 1 ≤ a1.size then some (strings_Split.v a0 a1) else none
theorem splitB_small (sep : ByteArray) : ∀ (k : Nat) (s : ByteArray), ∀ x ∈ Go.Lib.splitB sep 0 k s, x.size ≤ s.size
  | 0, s, x, h => by
    rw [Go.Lib.splitB_zero] at h
    obtain rfl := List.mem_singleton.1 h
    exact Nat.le_refl _
  | k + 1, s, x, h => by
    unfold Go.Lib.splitB at h
    split at h
    · obtain rfl := List.mem_singleton.1 h
      exact Nat.le_refl _
    · rcases List.mem_cons.1 h with rfl | h
      · rw [ByteArray.size_extract]; omega
      · have := splitB_small sep k _ x h
        rw [ByteArray.size_extract] at this
        omega
theorem strings_Split.calls (a0 a1 : ByteArray) (r : List ByteArray) (w : World) (hV : VarsP w) (h : strings_Split.f a0 a1 = some r) :
    Calls Tryd.prog 38 #[.string a0, .string a1] w fun e w' => ∃ v0_ : Value, e = .returned v0_ ∧ Kd.string.R 9 w' w.heap.size (fun _ => True) v0_ r ∧ Below w.heap.size w w' := by
  unfold strings_Split.f at h
  by_cases c : a0.size ≤ 1048576 ∧ 1 ≤ a1.size
  · rw [if_pos c] at h
    obtain rfl := Option.some.inj h
    obtain ⟨m, hm⟩ := hV.1
    have hl : (strings_Split.v a0 a1).length = Go.Lib.countB a0 a1 + 1 := Go.Lib.splitB_all a1 c.2 0 _ a0 rfl
    have hle := Go.Lib.countB_le a1 c.2 a0.size a0 (Nat.le_refl _)
    refine (Go.Proofs.YtjmmleofnjcjoaaDoor.XShelfP.strings_Split a0 a1 m w (by omega) hm c.2).mono ?_
    rintro e w' ⟨rfl, rfl⟩
    refine ⟨_, rfl, ?_, below_alloc (Below.refl _ _) _⟩
    have hs : ((strings_Split.v a0 a1).map Value.string).toArray.size = (Go.Lib.countB a0 a1 + 1) * 1 := by rw [List.size_toArray, List.length_map, hl, Nat.mul_one]
    have ho := World.ownsRow_lit (base := w.heap.size) (e := 9) (size := 1) w ((strings_Split.v a0 a1).map Value.string).toArray (Go.Lib.countB a0 a1 + 1) (Nat.le_refl _) (by unfold maxLen; omega) hs
    refine Kd.R_of_own (enc := Value.string) (xs := strings_Split.v a0 a1) ?_ (fun _ _ => trivial)
    rw [hl]
    exact ho
  · rw [if_neg c] at h
    exact absurd h (by simp)

/-! ### impl_numbersOf: function 30 -/
def numV (x : ByteArray) : Option Int := match Go.Lib.atoiAll x.data.toList with
  | .ok v => some v
  | _ => none
def numsW (ws : List ByteArray) : List Int := ws.map fun x => (numV x).getD 0
def numsOk (ws : List ByteArray) : Bool := ws.all fun x => (numV x).isSome
def impl_numbersOf.g (ws : List ByteArray) : List Int × Bool := if 12 < ws.length then ([], false) else if numsOk ws = true then (numsW ws, true) else ([], false)
def impl_numbersOf.f (a0 : ByteArray) : Option (List Int × Bool) := (strings_Split.f a0 ⟨#[44]⟩).bind fun ws => some (impl_numbersOf.g ws)
open Go.Proofs.YtjmmleofnjcjoaaDoor.Live in
theorem cellS {w0 w : World} {L : List Ob} {e g n c : Nat} {m : List ByteArray} (H : Live w0 w L) (i : Nat) (hi : L[i]? = some (row Kd.string e (.slice (some ⟨g, 0, none⟩) n c) m)) (j : Nat) (hj : j < m.length) :
    w.cell? ⟨g, j, none⟩ = some (.string (m.getD j ByteArray.empty)) := by
  have h := H.get i hi
  obtain ⟨rfl, _⟩ := Kd.R_reads' h
  have := Kd.R_celln (enc := Value.string) ByteArray.empty h (j : Int) (by omega) (by omega)
  simp only [Int.toNat_natCast] at this
  rw [this.1]; simp [rdOf]
set_option maxHeartbeats 8000000 in
set_option maxRecDepth 100000 in
open Go.Proofs.YtjmmleofnjcjoaaDoor.Live in
theorem impl_numbersOf.calls (a0 : ByteArray) (r1 : List Int) (r2 : Bool) (w : World) (hV : VarsP w) (h : impl_numbersOf.f a0 = some (r1, r2)) :
    Calls Tryd.prog 30 #[.string a0] w fun e w' => ∃ v0_ : Value, e = .returned (.tuple #[v0_, .bool r2]) ∧ (Kd.int .i64).R 3 w' w.heap.size (fun _ => True) v0_ r1 ∧ Below w.heap.size w w' := by
  unfold impl_numbersOf.f at h
  obtain ⟨ws, hws, h⟩ := Option.bind_eq_some_iff.mp h
  have hg : impl_numbersOf.g ws = (r1, r2) := Option.some.inj h
  have hsm : ∀ x ∈ ws, x.size ≤ 1048576 := by
    have h2 := hws
    unfold strings_Split.f at h2
    split at h2
    · rename_i c
      obtain rfl := Option.some.inj h2
      intro x hx
      exact Nat.le_trans (splitB_small _ _ _ x hx) c.1
    · exact absurd h2 (by simp)
  have HSM := Aside0.mk hsm
  have HV := Aside0.mk hV
  have HWS := Aside0.mk hws
  have HGG := Aside0.mk hg
  clear h hg hsm hV hws
  go_enter Tryd.func30, Tryd.ntmps30
  go_wp2_with (first | ((with_reducible refine gate_dst (N := 10) rfl ?_); refine Kd.R_lit (Kd.int .i64) _ 3 ?hg (N := 10) ?hd (xs := ([] : List Int)) (inner := []) (ok := fun _ => True) (okp := fun _ => True) ?hr ?hp (fun _ hk => hk) trivial (Below.refl _ _) (Nat.le_refl _) (by simp) ?_; (case hd => rfl); (case hg => rfl); (case hr => first | (go_simp; done) | (go_simp; rfl)); (case hp => exact (Reps.none _ _)); intro v10 w2 ho2 hb hg_ hnew_; clear hg_ hnew_; have H2 := Aside0.mk (Live.add (o := row (Kd.int .i64) 3 v10 []) (Live.start w) hb ho2); clear hb ho2) | fail)
  refine (strings_Split.calls a0 ⟨#[44]⟩ ws _ (HV.out.below H2.out.below) HWS.out).mono ?_
  rintro e w3 ⟨v, rfl, hs_, hb_⟩
  have H3 := Aside0.mk (Live.add (o := row Kd.string 9 v ws) H2.out hb_ hs_)
  clear hs_ hb_ H2
  obtain ⟨A, c, rfl, _, _⟩ := H3.out.form 1 rfl
  by_cases hl : 12 < ws.length
  · have hg := HGG.out
    unfold impl_numbersOf.g at hg
    rw [if_pos hl] at hg
    obtain ⟨rfl, rfl⟩ := Prod.mk.inj hg
    have c1 : decide ((12 : Int) < (ws.length : Int)) = true := decide_eq_true (by omega)
    have c2 : decide (12 < ws.length) = true := decide_eq_true hl
    clear hg
    go_wp2_with (fail)
    go_ret2
    exact ⟨_, rfl, Kd.R_nil _ _ _ _ _, H3.out.below⟩
  · have c1 : decide ((12 : Int) < (ws.length : Int)) = false := decide_eq_false (by omega)
    have c2 : decide (12 < ws.length) = false := decide_eq_false hl
    have HL := Aside0.mk hl
    clear hl
    go_wp2_with (fail)
    go_loopg [4, 18] (ws.length + 1) (fun kq v4 v18 w' => ∃ i : Nat, v18 = .int .i64 (i : Int) ∧ Aside0 (i ≤ ws.length ∧ kq = ws.length - i + 1) ∧ Aside0 (numsOk (ws.take i) = true) ∧ Aside0 (Live w w' [row (Kd.int .i64) 3 v4 (numsW (ws.take i)), row Kd.string 9 (.slice A ws.length c) ws]))
    case atStart => exact ⟨0, rfl, ⟨Nat.zero_le _, rfl⟩, ⟨rfl⟩, H3⟩
    case round =>
      clear H3
      obtain ⟨i, rfl, HI, HO, H⟩ := hrel
      rename World => wq
      by_cases ci : i < ws.length
      · have d1 : decide ((i : Int) < (ws.length : Int)) = true := decide_eq_true (by omega)
        have d2 : decide (i < ws.length) = true := decide_eq_true ci
        obtain ⟨g, c', e1, _, _⟩ := H.out.form1 1 rfl (by omega)
        injection e1 with ea en ec
        subst ea
        subst ec
        clear en
        have hcell := cellS H.out 1 rfl i ci
        obtain ⟨x, hx⟩ : ∃ x, x = ws.getD i ByteArray.empty := ⟨_, rfl⟩
        rw [← hx] at hcell
        have hxm : x = ws[i] := by rw [hx, List.getD_eq_getElem?_getD, List.getElem?_eq_getElem ci]; rfl
        have hxs : x.size ≤ 1048576 := HSM.out x (by rw [hxm]; exact List.getElem_mem _)
        have HXM := Aside0.mk hxm
        have HXS := Aside0.mk hxs
        have HVq := Aside0.mk (HV.out.below H.out.below)
        clear hx hxm hxs
        cases ha : Go.Lib.atoiAll x.data.toList with
        | ok v =>
          have HAT := Aside0.mk ha
          clear ha
          go_wp2_with (fail)
          refine (Go.Proofs.YtjmmleofnjcjoaaDoor.XShelfP.strconv_Atoi_ok x (by have := HXS.out; omega) v HAT.out _).mono ?_
          rintro e w4 ⟨rfl, hw⟩
          have hb4 : Below wq.heap.size wq w4 := by
            rcases hw with rfl | ⟨t, rfl⟩
            · exact Below.refl _ _
            · exact bytes_below (Below.refl _ _) (Nat.le_refl _) _ _
          have H4 := Aside0.mk (H.out.step hb4)
          clear hw hb4 H hcell
          have hv : numV x = some v := by unfold numV; rw [HAT.out]
          have hn : numsW (ws.take (i + 1)) = numsW (ws.take i) ++ [v] := by
            unfold numsW
            rw [List.take_succ_eq_append_getElem ci, List.map_append, ← HXM.out, List.map_cons, List.map_nil, hv]
            rfl
          have ho2 : numsOk (ws.take (i + 1)) = true := by
            have h1 := HO.out
            unfold numsOk at h1 ⊢
            rw [List.take_succ_eq_append_getElem ci, List.all_append, h1, ← HXM.out, List.all_cons, hv]
            rfl
          have hlen : (numsW (ws.take i)).length ≤ 12 := by
            unfold numsW
            rw [List.length_map, List.length_take]
            have := HL.out
            omega
          have HN := Aside0.mk hn
          have HO2 := Aside0.mk ho2
          have HLEN := Aside0.mk hlen
          clear hv hn ho2 hlen
          obtain ⟨A4, c4, rfl, _, _⟩ := H4.out.form 0 rfl
          obtain ⟨ok_, ho_, hok_, _, hback_⟩ := H4.out.lend 0 rfl
          go_wp2_with (first | ((with_reducible refine gate_builtin (b := .append) (xs := #[.tmp 29, .tmp 31]) rfl ?_); at_builtin; refine Kd.R_append (Kd.int .i64) (w0 := w) w.heap.size rfl (.tmp 29) (.tmp 31) 26 3 (.int .i64 0) 8 rfl Tryd.underlying26 (by kernel_rfl) rfl (by decide) (by omega) (.slice A4 (numsW (ws.take i)).length c4) (numsW (ws.take i)) v [.int .i64 v] (fun k_ => ok_ k_ ∨ w4.heap.size ≤ k_) (fun _ => False) rfl rfl rfl (fun _ h => h.elim) (fun _ h => .inr h) (Kd.R_mono ho_ (fun _ h => .inl h)) H4.out.below H4.out.below.size (by have := HLEN.out; omega) ?_; intro v8 w8 hs_ hb_ hg_ hat_; have H8 := Aside0.mk (hback_ w8 (row (Kd.int .i64) 3 v8 (numsW (ws.take i) ++ [v])) hb_ (Kept.of_grown hg_ (Kept.refl _ _) (fun k_ hk_ => .inl (ho_.1 k_ hk_))) hs_); clear hs_ hb_ hg_ hat_ hback_ ho_) | fail)
          have H9 := Aside0.mk (show Live w w8 [row (Kd.int .i64) 3 v8 (numsW (ws.take (i + 1))), row Kd.string 9 (.slice (some ⟨g, 0, none⟩) ws.length c) ws] by rw [HN.out]; exact H8.out)
          clear H8 H4
          go_roundg (ws.length - i)
          case measure => have := HI.out; omega
          case rel => exact ⟨i + 1, by first | rfl | exact up1 (by have := HL.out; omega), ⟨by omega, by omega⟩, HO2, H9⟩
        | range =>
          have HAT := Aside0.mk ha
          clear ha
          have hno : numsOk ws = false := by
            have h1 : (numV x).isSome = false := by unfold numV; rw [HAT.out]; rfl
            unfold numsOk
            rw [List.all_eq_false]
            exact ⟨x, by rw [HXM.out]; exact List.getElem_mem _, by rw [h1]; simp⟩
          have hg := HGG.out
          unfold impl_numbersOf.g at hg
          rw [if_neg HL.out, hno, if_neg (by simp)] at hg
          obtain ⟨rfl, rfl⟩ := Prod.mk.inj hg
          clear hg hno
          go_wp2_with (fail)
          obtain ⟨ev, hv, hev⟩ := HVq.out.2.2
          refine (Go.Proofs.YtjmmleofnjcjoaaDoor.XShelfP.strconv_Atoi_range x (by have := HXS.out; omega) HAT.out ev _ hv hev).mono ?_
          rintro e w4 ⟨N, rfl, _, _, hb4⟩
          have H4 := Aside0.mk (H.out.step hb4)
          clear H hcell
          go_wp2_with (fail)
          go_ret2
          exact ⟨_, rfl, Kd.R_nil _ _ _ _ _, H4.out.below⟩
        | _ =>
          have HAT := Aside0.mk ha
          clear ha
          have hno : numsOk ws = false := by
            have h1 : (numV x).isSome = false := by unfold numV; rw [HAT.out]; rfl
            unfold numsOk
            rw [List.all_eq_false]
            exact ⟨x, by rw [HXM.out]; exact List.getElem_mem _, by rw [h1]; simp⟩
          have hg := HGG.out
          unfold impl_numbersOf.g at hg
          rw [if_neg HL.out, hno, if_neg (by simp)] at hg
          obtain ⟨rfl, rfl⟩ := Prod.mk.inj hg
          clear hg hno
          go_wp2_with (fail)
          obtain ⟨ev, hv, hev⟩ := HVq.out.2.1
          refine (Go.Proofs.YtjmmleofnjcjoaaDoor.XShelfP.strconv_Atoi_syntax x (by have := HXS.out; omega) HAT.out ev _ hv hev).mono ?_
          rintro e w4 ⟨N, rfl, _, _, hb4⟩
          have H4 := Aside0.mk (H.out.step hb4)
          clear H hcell
          go_wp2_with (fail)
          go_ret2
          exact ⟨_, rfl, Kd.R_nil _ _ _ _ _, H4.out.below⟩
      · have d1 : decide ((i : Int) < (ws.length : Int)) = false := decide_eq_false (by omega)
        have d2 : decide (i < ws.length) = false := decide_eq_false ci
        obtain rfl : i = ws.length := by have := HI.out; omega
        have hg := HGG.out
        unfold impl_numbersOf.g at hg
        rw [List.take_length] at HO H
        rw [if_neg HL.out, if_pos HO.out] at hg
        obtain ⟨rfl, rfl⟩ := Prod.mk.inj hg
        clear hg
        go_wp2_with (fail)
        go_ret2
        exact ⟨_, rfl, H.out.get 0 rfl, H.out.below⟩

end Go.Proofs.YtjmmleofnjcjoaaDoor.Rk
