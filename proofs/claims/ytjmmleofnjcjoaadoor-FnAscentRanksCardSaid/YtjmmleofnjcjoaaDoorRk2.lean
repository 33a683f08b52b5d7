-- Written by hook.py, a program of this session (wip/), which runs the kit's print.py with its own parts; Lean checks it.
import Derived.Test.YtjmmleofnjcjoaaDoorRk0
namespace Go.Proofs.YtjmmleofnjcjoaaDoor.Rk
open Go.RowKit Go.Proofs.YtjmmleofnjcjoaaDoorW.PrintWords Go.Proofs.YtjmmleofnjcjoaaDoorW.PrintLast Go.Proofs.YtjmmleofnjcjoaaDoorW.PrintMore
attribute [local go_sem] max2_int min2_int max_two min_two max_three min_three max_four min_four   -- for this text's walks alone
set_option linter.unusedVariables false
set_option linter.unusedSimpArgs false

/-! ### spec_asOnes: function 40 -/
/-- The first i elements of A, the others z. -/
def asPart {α : Type} (A : List α) (i : Nat) (z : α) : List α := A.take i ++ List.replicate (A.length - i) z
theorem asPart_len {α : Type} (A : List α) (i : Nat) (z : α) (h : i ≤ A.length) : (asPart A i z).length = A.length := by
  simp only [asPart, List.length_append, List.length_take, List.length_replicate]; omega
theorem asPart_set {α : Type} (A : List α) (i : Nat) (z d : α) (h : i < A.length) : (asPart A i z).set i (A.getD i d) = asPart A (i + 1) z := by
  have hl : (A.take i).length = i := by rw [List.length_take]; omega
  obtain ⟨n, hn⟩ : ∃ n, A.length - i = n + 1 := ⟨A.length - i - 1, by omega⟩
  simp only [asPart]
  rw [List.set_append_right _ _ (by omega), hl, Nat.sub_self, hn, List.replicate_succ, List.set_cons_zero, List.take_succ_eq_append_getElem h, List.append_assoc, show A.length - (i + 1) = n from by omega, List.getD_eq_getElem?_getD, List.getElem?_eq_getElem h]
  rfl
theorem asPart_get {α : Type} (A : List α) (i : Nat) (z d : α) (h : i < A.length) : (asPart A i z).getD i d = z := by
  have hl : (A.take i).length = i := by rw [List.length_take]; omega
  obtain ⟨n, hn⟩ : ∃ n, A.length - i = n + 1 := ⟨A.length - i - 1, by omega⟩
  simp only [asPart]
  rw [List.getD_eq_getElem?_getD, List.getElem?_append_right (by omega), hl, Nat.sub_self, hn, List.replicate_succ]
  rfl
theorem asPart_all {α : Type} (A : List α) (z : α) : asPart A A.length z = A := by simp [asPart]
theorem asPart_zero {α : Type} (A : List α) (z : α) : asPart A 0 z = List.replicate A.length z := by simp [asPart]
open Go.Proofs.YtjmmleofnjcjoaaDoor.Live in
/-- A row put into the row of rows. -/
theorem asPut {w0 w : World} {L : List Ob} {α : Type} {d : Kd α} {e f g n cap : Nat} {m : List (List α)} {x : List α} {u : Value} (H : Live w0 w L) (i l : Nat) (hi : L[i]? = some (rows (Kd.slice f d) e (.slice (some ⟨g, 0, none⟩) n cap) m)) (hl : L[l]? = some (row d f u x)) (hne : i ≠ l) (j : Nat) (hj : j < m.length) (hu : u.oneCell' = true) :
    (∃ v, w.cell? ⟨g, j, none⟩ = some v) ∧ w.frozen? ⟨g, j, none⟩ = false ∧ Live w0 (w.setCell ⟨g, j, none⟩ u) ((L.set i (rows (Kd.slice f d) e (.slice (some ⟨g, 0, none⟩) n cap) (m.set j x))).set l gone) := by
  obtain ⟨v, hc, hfz, HT⟩ := H.take i hi j hj
  have hil : i < L.length := (List.getElem?_eq_some_iff.1 hi).1
  have hll : l < L.length := (List.getElem?_eq_some_iff.1 hl).1
  have HS := HT.setHole i (by rw [List.getElem?_append_left (by rw [List.length_set]; exact hil), List.getElem?_set_self hil]) rfl hj u hu
  have HC := HS.close (x := x) i l (by rw [List.getElem?_set_self (by simp; omega)]) (by rw [List.getElem?_set_ne (by omega), List.getElem?_append_left (by rw [List.length_set]; exact hll), List.getElem?_set_ne (by omega)]; exact hl) hne
  have HK := HC.keep L.length
  refine ⟨⟨v, hc⟩, hfz, ?_⟩
  have e2 : ∀ (a b c z y : Ob), (((((L.set i a ++ [b]).set i c).set i z).set l y).take L.length) = (L.set i z).set l y := by
    intro a b c z y
    apply List.ext_getElem?
    intro t
    rw [List.getElem?_take]
    by_cases ct : t < L.length
    · rw [if_pos ct]
      by_cases c3 : t = l
      · subst c3
        rw [List.getElem?_set_self (by simp; omega), List.getElem?_set_self (by simp; omega)]
      · have hr : ((L.set i z).set l y)[t]? = (L.set i z)[t]? := List.getElem?_set_ne (by omega)
        rw [hr, List.getElem?_set_ne (by omega)]
        by_cases c4 : t = i
        · subst c4
          rw [List.getElem?_set_self (by simp; omega), List.getElem?_set_self hil]
        · rw [List.getElem?_set_ne (by omega), List.getElem?_set_ne (by omega), List.getElem?_append_left (by rw [List.length_set]; exact ct), List.getElem?_set_ne (by omega), List.getElem?_set_ne (by omega)]
    · rw [if_neg ct, List.getElem?_eq_none (by rw [List.length_set, List.length_set]; omega)]
  rw [e2] at HK
  exact HK
def asOnesT : List (List Int) := List.replicate 14 (List.replicate 14 1)
def spec_asOnes.f (a0 : Int) : Option (List (List Int)) := if a0 = 14 then some asOnesT else none
theorem asOnes_row : asOnesT.length = 14 ∧ ∀ a, a < 14 → (asOnesT.getD a []).length = 14 ∧ ∀ l, l < 14 → (asOnesT.getD a []).getD l 0 = 1 := by decide +kernel
set_option maxHeartbeats 8000000 in
set_option maxRecDepth 100000 in
open Go.Proofs.YtjmmleofnjcjoaaDoor.Live in
theorem spec_asOnes.calls (a0 : Int) (r : List (List Int)) (w : World) (h : spec_asOnes.f a0 = some r) :
    Calls Tryd.prog 40 #[.int .i64 a0] w fun e w' => ∃ v0_ : Value, e = .returned (v0_) ∧ Kd.S (Kd.slice 3 (Kd.int .i64)) 26 w' w.heap.size (fun _ => True) v0_ r ∧ Below w.heap.size w w' := by
  unfold spec_asOnes.f at h
  by_cases hk : a0 = 14
  case neg => rw [if_neg hk] at h; exact absurd h (by simp)
  rw [if_pos hk] at h
  subst hk
  obtain rfl := Option.some.inj h
  clear h
  obtain ⟨hN1, hN2⟩ := asOnes_row
  generalize asOnesT = N at *
  have HN1 := Aside0.mk hN1
  have HN2 := Aside0.mk hN2
  clear hN1 hN2
  go_enter Tryd.func40, Tryd.ntmps40
  go_wp2_with (first | ((with_reducible refine gate_dst (N := 7) rfl ?_); refine Kd.S_make (Kd.slice 3 (Kd.int .i64)) _ 26 rfl (N := 7) rfl 55 _ _ rfl (14 : Int) rfl rfl Tryd.underlying55 (.slice none 0 0) 24 (by kernel_rfl) rfl (by decide) (by omega) [] (ok := fun _ => True) (okp := fun _ => True) ⟨_, rfl, Kd.R_nil _ _ _ _ _⟩ (fun _ hk => hk) trivial (by omega) (by omega) (Below.refl _ _) (Nat.le_refl _) ?_; intro v7 w2 ho2 hb hg_ hnew_; clear hg_ hnew_; have ho3 : Kd.S (Kd.slice 3 (Kd.int .i64)) 26 w2 w.heap.size (fun _ => True) v7 (asPart N 0 []) := by { rw [asPart_zero, HN1.out]; exact ho2 }; have H2 := Aside0.mk (Live.add (o := rows (Kd.slice 3 (Kd.int .i64)) 26 v7 (asPart N 0 [])) (Live.start w) hb ho3); clear ho2 ho3 hb; have hl := asPart_len N 0 [] (Nat.zero_le _); rw [HN1.out] at hl; obtain ⟨g, c, e7, _, _⟩ := H2.out.forms1 0 rfl (by rw [hl]; omega); rw [hl] at e7; subst e7; clear hl) | fail)
  go_loopg [10] (15) (fun kq v10 w' => ∃ i : Nat, v10 = .int .i64 (i : Int) ∧ Aside0 (i ≤ 14 ∧ kq = 14 - i + 1) ∧ Aside0 (Live w w' [rows (Kd.slice 3 (Kd.int .i64)) 26 (.slice (some ⟨g, 0, none⟩) 14 c) (asPart N i [])]))
  case atStart => exact ⟨0, rfl, ⟨Nat.zero_le _, rfl⟩, H2⟩
  case round =>
    clear H2
    obtain ⟨i, rfl, HI, H⟩ := hrel
    rename World => wq
    have hlen := asPart_len N i [] (by have := HI.out; have := HN1.out; omega)
    rw [HN1.out] at hlen
    have HLEN := Aside0.mk hlen
    clear hlen
    by_cases ci : i < 14
    · have c1 : decide ((i : Int) < 14) = true := decide_eq_true (by omega)
      have c2 : decide (i < 14) = true := decide_eq_true ci
      have c3 : decide (0 ≤ (i : Int)) = true := decide_eq_true (by omega)
      go_wp2_with (first | ((with_reducible refine gate_dst (N := 16) rfl ?_); refine Kd.R_make (Kd.int .i64) _ 3 rfl (N := 16) rfl 26 _ _ rfl (14 : Int) rfl rfl Tryd.underlying26 (.int .i64 0) 8 (by kernel_rfl) rfl (by decide) (by omega) 0 (ok := fun _ => True) (okp := fun _ => True) rfl (fun _ hk => hk) trivial (by omega) (by omega) (Below.refl _ _) (Nat.le_refl _) ?_; intro v16 w4 ho4 hb hg_ hnew_; clear hg_ hnew_; have ho5 : (Kd.int .i64).R 3 w4 wq.heap.size (fun _ => True) v16 (asPart (N.getD i []) 0 0) := by { rw [asPart_zero, (HN2.out i ci).1]; exact ho4 }; have H4 := Aside0.mk (Live.add (o := row (Kd.int .i64) 3 v16 (asPart (N.getD i []) 0 0)) H.out hb ho5); clear ho4 ho5 hb; have hl := asPart_len (N.getD i []) 0 (0 : Int) (Nat.zero_le _); rw [(HN2.out i ci).1] at hl; obtain ⟨g4, c4, e16, _, _⟩ := H4.out.form1 1 rfl (by rw [hl]; omega); rw [hl] at e16; subst e16; clear hl; obtain ⟨⟨vv, p1⟩, p2, hP⟩ := asPut H4.out 0 1 rfl rfl (by decide) i (by rw [HLEN.out]; exact ci) rfl; have HP := Aside0.mk hP; clear hP) | fail)
      have H5 := Aside0.mk (show Live w _ [rows (Kd.slice 3 (Kd.int .i64)) 26 (.slice (some ⟨g, 0, none⟩) 14 c) ((asPart N i []).set i (asPart (N.getD i []) 0 0))] from HP.out.keep 1)
      clear HP H4 p1 p2
      obtain ⟨R, hR⟩ : ∃ R, R = N.getD i [] := ⟨_, rfl⟩
      have hRl : R.length = 14 := by rw [hR]; exact (HN2.out i ci).1
      have hRe : ∀ q, q < 14 → R.getD q 0 = 1 := by rw [hR]; exact (HN2.out i ci).2
      have HR := Aside0.mk (And.intro hR (And.intro hRl hRe))
      rw [← hR] at H5
      clear hR hRl hRe
      have eg : ∀ (X : List Int), ((asPart N i []).set i X).getD i [] = X := fun X => by
        rw [List.getD_eq_getElem?_getD, List.getElem?_set_self (by rw [HLEN.out]; exact ci)]; rfl
      have EG := Aside0.mk eg
      clear eg
      go_loopg [23] 15 (fun kq v23 w' => ∃ q : Nat, v23 = .int .i64 (q : Int) ∧ Aside0 (q ≤ 14 ∧ kq = 14 - q + 1) ∧ Aside0 (Live w w' [rows (Kd.slice 3 (Kd.int .i64)) 26 (.slice (some ⟨g, 0, none⟩) 14 c) ((asPart N i []).set i (asPart R q 0))]))
      case atStart => exact ⟨0, rfl, ⟨Nat.zero_le _, rfl⟩, H5⟩
      case round =>
        clear H5
        obtain ⟨q, rfl, HQ, H6⟩ := hrel
        have hql : (asPart R q 0).length = 14 := by rw [asPart_len _ _ _ (by rw [HR.out.2.1]; exact HQ.out.1)]; exact HR.out.2.1
        by_cases cq : q < 14
        · have d1 : decide ((q : Int) < 14) = true := decide_eq_true (by omega)
          have d2 : decide (q < 14) = true := decide_eq_true cq
          have d3 : decide (0 ≤ (q : Int)) = true := decide_eq_true (by omega)
          obtain ⟨g', c', a1, a2, a3, a4, HA⟩ := H6.out.at2 0 rfl i q (by rw [List.length_set, HLEN.out]; exact ci) (by rw [EG.out, hql]; exact cq)
          rw [EG.out] at a1 a2 a3
          rw [hql] at a1 a2
          have hS := HA.out 1
          have hs1 := asPart_set R q 0 0 (by rw [HR.out.2.1]; exact cq)
          rw [HR.out.2.2 q cq] at hs1
          rw [EG.out, List.set_set, hs1] at hS
          have HS := Aside0.mk (show Live w _ [rows (Kd.slice 3 (Kd.int .i64)) 26 (.slice (some ⟨g, 0, none⟩) 14 c) ((asPart N i []).set i (asPart R (q + 1) 0))] from hS)
          clear HA hS hs1 H6 hql
          go_wp2_with (fail)
          go_roundg (14 - q)
          case measure => have := HQ.out; omega
          case rel => exact ⟨q + 1, by first | rfl | exact up1 (by omega), ⟨by omega, by omega⟩, HS⟩
        · have d1 : decide ((q : Int) < 14) = false := decide_eq_false (by omega)
          have d2 : decide (q < 14) = false := decide_eq_false cq
          obtain rfl : q = 14 := by have := HQ.out; omega
          have hz : (asPart N i []).set i (asPart R 14 0) = asPart N (i + 1) [] := by
            have h1 := asPart_all R 0
            rw [HR.out.2.1] at h1
            rw [h1, HR.out.1]
            exact asPart_set N i [] [] (by rw [HN1.out]; exact ci)
          rw [hz] at H6
          clear hz hql
          go_wp2_with (fail)
          go_roundg (14 - i)
          case measure => have := HI.out; omega
          case rel => exact ⟨i + 1, by first | rfl | exact up1 (by omega), ⟨by omega, by omega⟩, H6⟩
    · have c1 : decide ((i : Int) < 14) = false := decide_eq_false (by omega)
      have c2 : decide (i < 14) = false := decide_eq_false ci
      obtain rfl : i = 14 := by have := HI.out; omega
      have hz := asPart_all N []
      rw [HN1.out] at hz
      rw [hz] at H
      go_wp2
      go_ret
      exact ⟨_, rfl, H.out.get 0 rfl, H.out.below⟩

/-! ### spec_asWays: function 34 -/
def asEn (T : List (List Int)) (a x : Nat) : Int := (T.getD a []).getD x 0
def asAcc (T : List (List Int)) (a last : Nat) : Nat → Int
  | 0 => 0
  | x + 1 => wrap64 (asAcc T a last x + if last < x then asEn T (a + 1) x else asEn T a x)
def asCell (T : List (List Int)) (a last : Nat) : Int := asAcc T a last (if a < 13 then a + 2 else 0)
def asNextW (T : List (List Int)) : List (List Int) := (List.range 14).map fun a => (List.range 14).map fun l => asCell T a l
def asWaysT (T : List (List Int)) : Nat → List (List Int)
  | 0 => T
  | m + 1 => asNextW (asWaysT T m)
def asSq (T : List (List Int)) : Bool := decide (T.length = 14) && T.all fun r => decide (r.length = 14)
def spec_asWays.f (a0 : Int) : Option (List (List Int)) := if 0 ≤ a0 ∧ a0 ≤ 12 then ((spec_asOnes.f 14).bind fun T => if asSq T = true then some (asWaysT T a0.toNat) else none) else none
theorem asNext_sq (T : List (List Int)) : (asNextW T).length = 14 ∧ ∀ a, a < 14 → ((asNextW T).getD a []).length = 14 ∧ ∀ l, l < 14 → ((asNextW T).getD a []).getD l 0 = asCell T a l := by
  refine ⟨by simp [asNextW], fun a ha => ?_⟩
  have e : (asNextW T).getD a [] = (List.range 14).map fun l => asCell T a l := by
    simp [asNextW, List.getD_eq_getElem?_getD, ha]
  rw [e]
  exact ⟨by simp, fun l hl => by simp [List.getD_eq_getElem?_getD, hl]⟩
theorem asSq_ok {T : List (List Int)} (h : asSq T = true) : T.length = 14 ∧ ∀ a, a < 14 → (T.getD a []).length = 14 := by
  simp only [asSq, Bool.and_eq_true, List.all_eq_true, decide_eq_true_eq] at h
  refine ⟨h.1, fun a ha => h.2 _ ?_⟩
  rw [List.getD_eq_getElem?_getD, List.getElem?_eq_getElem (by omega), Option.getD_some]
  exact List.getElem_mem _
theorem asWaysT_sq {T : List (List Int)} (h : T.length = 14 ∧ ∀ a, a < 14 → (T.getD a []).length = 14) : ∀ m, (asWaysT T m).length = 14 ∧ ∀ a, a < 14 → ((asWaysT T m).getD a []).length = 14
  | 0 => h
  | m + 1 => ⟨(asNext_sq _).1, fun a ha => ((asNext_sq _).2 a ha).1⟩
theorem asAcc_succ (T : List (List Int)) (a l x : Nat) : asAcc T a l (x + 1) = wrap64 (asAcc T a l x + if l < x then asEn T (a + 1) x else asEn T a x) := rfl
set_option maxHeartbeats 8000000 in
set_option maxRecDepth 100000 in
open Go.Proofs.YtjmmleofnjcjoaaDoor.Live in
theorem spec_asWays.calls (a0 : Int) (r : List (List Int)) (w : World) (h : spec_asWays.f a0 = some r) :
    Calls Tryd.prog 34 #[.int .i64 a0] w fun e w' => ∃ v0_ : Value, e = .returned (v0_) ∧ Kd.S (Kd.slice 3 (Kd.int .i64)) 26 w' w.heap.size (fun _ => True) v0_ r ∧ Below w.heap.size w w' := by
  unfold spec_asWays.f at h
  by_cases hk : 0 ≤ a0 ∧ a0 ≤ 12
  case neg => rw [if_neg hk] at h; exact absurd h (by simp)
  rw [if_pos hk] at h
  obtain ⟨T0, hT0, h⟩ := Option.bind_eq_some_iff.mp h
  by_cases hq : asSq T0 = true
  case neg => rw [if_neg hq] at h; exact absurd h (by simp)
  rw [if_pos hq] at h
  obtain rfl := Option.some.inj h
  clear h
  obtain ⟨m, rfl⟩ : ∃ m : Nat, a0 = (m : Int) := ⟨a0.toNat, by omega⟩
  rw [Int.toNat_natCast]
  have HM := Aside0.mk (show m ≤ 12 by omega)
  have HT0 := Aside0.mk hT0
  have HQ0 := Aside0.mk (asWaysT_sq (asSq_ok hq))
  clear hT0 hq hk
  go_enter Tryd.func34, Tryd.ntmps34
  go_wp2_with (fail)
  refine (spec_asOnes.calls 14 T0 _ HT0.out).mono ?_
  rintro e w1 ⟨v, rfl, hs_, hb_⟩
  have H1 := Aside0.mk (Live.add (o := rows (Kd.slice 3 (Kd.int .i64)) 26 v (asWaysT T0 0)) (Live.start w) hb_ hs_)
  clear hs_ hb_
  obtain ⟨g0, c0, e0, _, _⟩ := H1.out.forms1 0 rfl (by rw [(HQ0.out 0).1]; omega)
  rw [(HQ0.out 0).1] at e0
  subst e0
  go_wp2_with (fail)
  go_loopg [0, 4] (m + 1) (fun kq v0 v4 w' => ∃ (j g c : Nat), v0 = .int .i64 ((m : Int) - (j : Int)) ∧ v4 = .slice (some ⟨g, 0, none⟩) 14 c ∧ Aside0 (j ≤ m ∧ kq = m - j + 1) ∧ Aside0 (Live w w' [rows (Kd.slice 3 (Kd.int .i64)) 26 (.slice (some ⟨g, 0, none⟩) 14 c) (asWaysT T0 j)]))
  case atStart => exact ⟨0, g0, c0, by simp, rfl, ⟨Nat.zero_le _, rfl⟩, H1⟩
  case round =>
    clear H1
    obtain ⟨j, g, c, rfl, rfl, HJ, H⟩ := hrel
    rename World => wq
    by_cases cj : j < m
    · have c1 : decide (0 < (m : Int) - (j : Int)) = true := decide_eq_true (by omega)
      have c2 : (0 < (m : Int) - (j : Int)) = True := eq_true (by omega)
      obtain ⟨T, hT⟩ : ∃ T, T = asWaysT T0 j := ⟨_, rfl⟩
      have hTq := HQ0.out j
      rw [← hT] at hTq H
      have HTQ := Aside0.mk hTq
      have HT := Aside0.mk hT
      obtain ⟨N, hN⟩ : ∃ N, N = asNextW T := ⟨_, rfl⟩
      have hNq := asNext_sq T
      rw [← hN] at hNq
      have HN1 := Aside0.mk hNq.1
      have HN2 := Aside0.mk hNq.2
      have HN := Aside0.mk hN
      clear hT hTq hN hNq
      go_wp2_with (first | ((with_reducible refine gate_dst (N := 17) rfl ?_); refine Kd.S_make (Kd.slice 3 (Kd.int .i64)) _ 26 rfl (N := 17) rfl 55 _ _ rfl (14 : Int) rfl rfl Tryd.underlying55 (.slice none 0 0) 24 (by kernel_rfl) rfl (by decide) (by omega) [] (ok := fun _ => True) (okp := fun _ => True) ⟨_, rfl, Kd.R_nil _ _ _ _ _⟩ (fun _ hk => hk) trivial (by omega) (by omega) (Below.refl _ _) (Nat.le_refl _) ?_; intro v7 w2 ho2 hb hg_ hnew_; clear hg_ hnew_; have ho3 : Kd.S (Kd.slice 3 (Kd.int .i64)) 26 w2 wq.heap.size (fun _ => True) v7 (asPart N 0 []) := by { rw [asPart_zero, HN1.out]; exact ho2 }; have H2 := Aside0.mk (Live.add (o := rows (Kd.slice 3 (Kd.int .i64)) 26 v7 (asPart N 0 [])) H.out hb ho3); clear ho2 ho3 hb; have hl := asPart_len N 0 [] (Nat.zero_le _); rw [HN1.out] at hl; obtain ⟨g2, cc2, e7, _, _⟩ := H2.out.forms1 1 rfl (by rw [hl]; omega); rw [hl] at e7; subst e7; clear hl) | fail)
      clear H
      go_loopg [20] (15) (fun kq v20 w' => ∃ i : Nat, v20 = .int .i64 (i : Int) ∧ Aside0 (i ≤ 14 ∧ kq = 14 - i + 1) ∧ Aside0 (Live w w' [rows (Kd.slice 3 (Kd.int .i64)) 26 (.slice (some ⟨g, 0, none⟩) 14 c) T, rows (Kd.slice 3 (Kd.int .i64)) 26 (.slice (some ⟨g2, 0, none⟩) 14 cc2) (asPart N i [])]))
      case atStart => exact ⟨0, rfl, ⟨Nat.zero_le _, rfl⟩, H2⟩
      case round =>
        clear H2
        obtain ⟨i, rfl, HI, H⟩ := hrel
        rename World => wi
        have hlen := asPart_len N i [] (by have := HI.out; have := HN1.out; omega)
        rw [HN1.out] at hlen
        have HLEN := Aside0.mk hlen
        clear hlen
        by_cases ci : i < 14
        · have i1 : decide ((i : Int) < 14) = true := decide_eq_true (by omega)
          have i2 : decide (i < 14) = true := decide_eq_true ci
          have i3 : decide (0 ≤ (i : Int)) = true := decide_eq_true (by omega)
          go_wp2_with (first | ((with_reducible refine gate_dst (N := 26) rfl ?_); refine Kd.R_make (Kd.int .i64) _ 3 rfl (N := 26) rfl 26 _ _ rfl (14 : Int) rfl rfl Tryd.underlying26 (.int .i64 0) 8 (by kernel_rfl) rfl (by decide) (by omega) 0 (ok := fun _ => True) (okp := fun _ => True) rfl (fun _ hk => hk) trivial (by omega) (by omega) (Below.refl _ _) (Nat.le_refl _) ?_; intro v16 w4 ho4 hb hg_ hnew_; clear hg_ hnew_; have ho5 : (Kd.int .i64).R 3 w4 wi.heap.size (fun _ => True) v16 (asPart (N.getD i []) 0 0) := by { rw [asPart_zero, (HN2.out i ci).1]; exact ho4 }; have H4 := Aside0.mk (Live.add (o := row (Kd.int .i64) 3 v16 (asPart (N.getD i []) 0 0)) H.out hb ho5); clear ho4 ho5 hb; have hl := asPart_len (N.getD i []) 0 (0 : Int) (Nat.zero_le _); rw [(HN2.out i ci).1] at hl; obtain ⟨g4, c4, e16, _, _⟩ := H4.out.form1 2 rfl (by rw [hl]; omega); rw [hl] at e16; subst e16; clear hl; obtain ⟨⟨vv, p1⟩, p2, hP⟩ := asPut H4.out 1 2 rfl rfl (by decide) i (by rw [HLEN.out]; exact ci) rfl; have HP := Aside0.mk hP; clear hP) | fail)
          have H5 := Aside0.mk (show Live w _ [rows (Kd.slice 3 (Kd.int .i64)) 26 (.slice (some ⟨g, 0, none⟩) 14 c) T, rows (Kd.slice 3 (Kd.int .i64)) 26 (.slice (some ⟨g2, 0, none⟩) 14 cc2) ((asPart N i []).set i (asPart (N.getD i []) 0 0))] from HP.out.keep 2)
          clear HP H4 H p1 p2
          obtain ⟨R, hR⟩ : ∃ R, R = N.getD i [] := ⟨_, rfl⟩
          have hRl : R.length = 14 := by rw [hR]; exact (HN2.out i ci).1
          have hRe : ∀ q, q < 14 → R.getD q 0 = asCell T i q := by rw [hR]; exact (HN2.out i ci).2
          have HR := Aside0.mk (And.intro hR (And.intro hRl hRe))
          rw [← hR] at H5
          clear hR hRl hRe
          have eg : ∀ (X : List Int), ((asPart N i []).set i X).getD i [] = X := fun X => by
            rw [List.getD_eq_getElem?_getD, List.getElem?_set_self (by rw [HLEN.out]; exact ci)]; rfl
          have EG := Aside0.mk eg
          clear eg
          go_loopg [33] 15 (fun kq v33 w' => ∃ q : Nat, v33 = .int .i64 (q : Int) ∧ Aside0 (q ≤ 14 ∧ kq = 14 - q + 1) ∧ Aside0 (Live w w' [rows (Kd.slice 3 (Kd.int .i64)) 26 (.slice (some ⟨g, 0, none⟩) 14 c) T, rows (Kd.slice 3 (Kd.int .i64)) 26 (.slice (some ⟨g2, 0, none⟩) 14 cc2) ((asPart N i []).set i (asPart R q 0))]))
          case atStart => exact ⟨0, rfl, ⟨Nat.zero_le _, rfl⟩, H5⟩
          case round =>
            clear H5
            obtain ⟨q, rfl, HQ, H6⟩ := hrel
            rename World => wl
            have hql : (asPart R q 0).length = 14 := by rw [asPart_len _ _ _ (by rw [HR.out.2.1]; exact HQ.out.1)]; exact HR.out.2.1
            have HQL := Aside0.mk hql
            clear hql
            by_cases cq : q < 14
            · have d1 : decide ((q : Int) < 14) = true := decide_eq_true (by omega)
              have d2 : decide (q < 14) = true := decide_eq_true cq
              have d3 : decide (0 ≤ (q : Int)) = true := decide_eq_true (by omega)
              obtain ⟨K, hK⟩ : ∃ K, K = if i < 13 then i + 2 else 0 := ⟨_, rfl⟩
              have HK := Aside0.mk hK
              clear hK
              go_wp2_with (fail)
              go_loopg [8, 9] (K + 1) (fun kq v8 v9 w' => ∃ x : Nat, v8 = .int .i64 (asAcc T i q x) ∧ v9 = .int .i64 (x : Int) ∧ Aside0 (x ≤ K ∧ kq = K - x + 1) ∧ Aside0 (Live w w' [rows (Kd.slice 3 (Kd.int .i64)) 26 (.slice (some ⟨g, 0, none⟩) 14 c) T, rows (Kd.slice 3 (Kd.int .i64)) 26 (.slice (some ⟨g2, 0, none⟩) 14 cc2) ((asPart N i []).set i (asPart R q 0))]))
              case atStart => exact ⟨0, rfl, rfl, ⟨Nat.zero_le _, rfl⟩, H6⟩
              case round =>
                clear H6
                obtain ⟨x, rfl, rfl, HX, H7⟩ := hrel
                by_cases cx : x < K
                · have ci13 : i < 13 := by
                    apply Classical.byContradiction; intro hn
                    have := HK.out; rw [if_neg hn] at this; omega
                  have hxi : x ≤ i + 1 := by have := HK.out; rw [if_pos ci13] at this; omega
                  have b1 : decide ((x : Int) ≤ (i : Int) + 1) = true := decide_eq_true (by omega)
                  have b2 : decide ((x : Int) < 14) = true := decide_eq_true (by omega)
                  have b3 : decide ((i : Int) + 1 < 14) = true := decide_eq_true (by omega)
                  have b4 : ((i : Int) + 1).toNat = i + 1 := by omega
                  by_cases cl : q < x
                  · have l1 : decide ((q : Int) < (x : Int)) = true := decide_eq_true (by omega)
                    have l2 : decide (q < x) = true := decide_eq_true cl
                    obtain ⟨g', c', a1, a2, a3, a4, _⟩ := H7.out.at2 0 rfl (i + 1) x (by rw [HTQ.out.1]; omega) (by rw [HTQ.out.2 _ (by omega)]; omega)
                    rw [HTQ.out.2 _ (by omega)] at a1 a2
                    have eS : wrap64 (asAcc T i q x + (T.getD (i + 1) []).getD x 0) = asAcc T i q (x + 1) := by rw [asAcc_succ, if_pos cl]; rfl
                    have ES := Aside0.mk eS
                    clear eS
                    go_wp2_with (fail)
                    go_roundg (K - x)
                    case measure => have := HX.out; omega
                    case rel => exact ⟨x + 1, by first | (rw [← ES.out]; done) | (rw [← ES.out]; simp only [List.getD_eq_getElem?_getD]), by first | rfl | exact up1 (by omega), ⟨by omega, by omega⟩, H7⟩
                  · have l1 : decide ((q : Int) < (x : Int)) = false := decide_eq_false (by omega)
                    have l2 : decide (q < x) = false := decide_eq_false cl
                    obtain ⟨g', c', a1, a2, a3, a4, _⟩ := H7.out.at2 0 rfl i x (by rw [HTQ.out.1]; omega) (by rw [HTQ.out.2 _ (by omega)]; omega)
                    rw [HTQ.out.2 _ (by omega)] at a1 a2
                    have eS : wrap64 (asAcc T i q x + (T.getD i []).getD x 0) = asAcc T i q (x + 1) := by rw [asAcc_succ, if_neg cl]; rfl
                    have ES := Aside0.mk eS
                    clear eS
                    go_wp2_with (fail)
                    go_roundg (K - x)
                    case measure => have := HX.out; omega
                    case rel => exact ⟨x + 1, by first | (rw [← ES.out]; done) | (rw [← ES.out]; simp only [List.getD_eq_getElem?_getD]), by first | rfl | exact up1 (by omega), ⟨by omega, by omega⟩, H7⟩
                · obtain rfl : x = K := by have := HX.out; omega
                  obtain ⟨g', c', a1, a2, a3, a4, HA⟩ := H7.out.at2 1 rfl i q (by rw [List.length_set, HLEN.out]; exact ci) (by rw [EG.out, HQL.out]; exact cq)
                  rw [EG.out] at a1 a2 a3
                  rw [HQL.out] at a1 a2
                  have hS := HA.out (asAcc T i q x)
                  have hs1 := asPart_set R q 0 0 (by rw [HR.out.2.1]; exact cq)
                  rw [HR.out.2.2 q cq, asCell, ← HK.out] at hs1
                  rw [EG.out, List.set_set, hs1] at hS
                  have HS := Aside0.mk (show Live w _ [rows (Kd.slice 3 (Kd.int .i64)) 26 (.slice (some ⟨g, 0, none⟩) 14 c) T, rows (Kd.slice 3 (Kd.int .i64)) 26 (.slice (some ⟨g2, 0, none⟩) 14 cc2) ((asPart N i []).set i (asPart R (q + 1) 0))] from hS)
                  clear HA hS hs1 H7
                  by_cases ci13 : i < 13
                  · have b1 : decide ((x : Int) ≤ (i : Int) + 1) = false := decide_eq_false (by have := HK.out; rw [if_pos ci13] at this; omega)
                    go_wp2_with (fail)
                    go_roundg (14 - q)
                    case measure => have := HQ.out; omega
                    case rel => exact ⟨q + 1, by first | rfl | exact up1 (by omega), ⟨by omega, by omega⟩, HS⟩
                  · have hx0 : x = 0 := by have := HK.out; rw [if_neg ci13] at this; exact this
                    subst hx0
                    have b1 : decide (0 ≤ (i : Int) + 1) = true := decide_eq_true (by omega)
                    have b3 : decide ((i : Int) + 1 < 14) = false := decide_eq_false (by omega)
                    go_wp2_with (fail)
                    go_roundg (14 - q)
                    case measure => have := HQ.out; omega
                    case rel => exact ⟨q + 1, by first | rfl | exact up1 (by omega), ⟨by omega, by omega⟩, HS⟩
            · have d1 : decide ((q : Int) < 14) = false := decide_eq_false (by omega)
              have d2 : decide (q < 14) = false := decide_eq_false cq
              obtain rfl : q = 14 := by have := HQ.out; omega
              have hz : (asPart N i []).set i (asPart R 14 0) = asPart N (i + 1) [] := by
                have h1 := asPart_all R 0
                rw [HR.out.2.1] at h1
                rw [h1, HR.out.1]
                exact asPart_set N i [] [] (by rw [HN1.out]; exact ci)
              rw [hz] at H6
              clear hz
              go_wp2_with (fail)
              go_roundg (14 - i)
              case measure => have := HI.out; omega
              case rel => exact ⟨i + 1, by first | rfl | exact up1 (by omega), ⟨by omega, by omega⟩, H6⟩
        · have c1 : decide ((i : Int) < 14) = false := decide_eq_false (by omega)
          have c2 : decide (i < 14) = false := decide_eq_false ci
          obtain rfl : i = 14 := by have := HI.out; omega
          have hz := asPart_all N []
          rw [HN1.out] at hz
          rw [hz, HN.out, HT.out] at H
          have HD := Aside0.mk (show Live w wi [rows (Kd.slice 3 (Kd.int .i64)) 26 (.slice (some ⟨g2, 0, none⟩) 14 cc2) (asWaysT T0 (j + 1))] from H.out.drop 0)
          have eM : wrap64 ((m : Int) - (j : Int) - 1) = (m : Int) - ((j + 1 : Nat) : Int) := by have := HM.out; unfold wrap64; omega
          have EM := Aside0.mk eM
          clear H hz eM
          go_wp2_with (fail)
          go_roundg (m - j)
          case measure => have := HJ.out; omega
          case rel => exact ⟨j + 1, g2, cc2, by first | rw [← EM.out] | (congr 1; have := HJ.out; omega), rfl, ⟨by omega, by omega⟩, HD⟩
    · have c1 : decide (0 < (m : Int) - (j : Int)) = false := decide_eq_false (by have := HJ.out; omega)
      have c2 : (0 < (m : Int) - (j : Int)) = False := eq_false (by have := HJ.out; omega)
      obtain rfl : j = m := by have := HJ.out; omega
      go_wp2_with (fail)
      go_ret
      exact ⟨_, rfl, H.out.get 0 rfl, H.out.below⟩

/-! ### spec_asAscents: function 35 -/
def spec_asAscents.l0 : Nat → List Int → Int → Int → Option (Int)
 | 0, _, _, _ => none
 | k + 1, x0, x3, x4 => if x4 < (x0.length : Int) then (if 0 ≤ (wrap64 (x4 - 1)) then (if (wrap64 (x4 - 1)) < (x0.length : Int) then (if 0 ≤ x4 then (if (rd x0 (wrap64 (x4 - 1))) < (rd x0 x4) then (spec_asAscents.l0 k x0 (wrap64 (x3 + 1)) (wrap64 (x4 + 1))) else (spec_asAscents.l0 k x0 x3 (wrap64 (x4 + 1)))) else (none)) else (none)) else (none)) else (some x3)
def spec_asAscents.f (k : Nat) (l0 : List Int) : Option (Int) := spec_asAscents.l0 k l0 0 1
theorem spec_asAscents.mono_l : ∀ k, (∀ y0 y1 y2, LeO (spec_asAscents.l0 k y0 y1 y2) (spec_asAscents.l0 (k + 1) y0 y1 y2))
 | 0 => fun _ _ _ r h => by simp [spec_asAscents.l0] at h
 | k + 1 => by
  have ih0 := spec_asAscents.mono_l k
  ·intro y0 y1 y2
   unfold spec_asAscents.l0
   repeat' first | with_reducible first | exact ih0 _ _ _ | exact LeO.refl _ | exact LeO.none _ | refine LeO.ite ?_ ?_ | refine LeO.bind ?_ (fun _ => ?_)
theorem spec_asAscents.mono : ∀ a0 k, LeO (spec_asAscents.f k a0) (spec_asAscents.f (k + 1) a0) := by
 intro a0 k
 have ih0 := spec_asAscents.mono_l k
 unfold spec_asAscents.f
 repeat' first | with_reducible first | exact ih0 _ _ _ | exact LeO.refl _ | exact LeO.none _ | refine LeO.ite ?_ ?_ | refine LeO.bind ?_ (fun _ => ?_)
set_option maxHeartbeats 8000000 in
set_option maxRecDepth 100000 in
theorem spec_asAscents.calls (k : Nat) (A0 : Option Addr) (c0 : Nat) (l0 : List Int) (r : Int) (w : World) (hr0 : Kd.C (Kd.int .i64) w A0 l0.length l0) (hc0 : l0.length ≤ c0) (h : spec_asAscents.f k l0 = some r) :
  Calls Tryd.prog 35 #[.slice A0 l0.length c0] w fun e w' => e = .returned (.int .i64 r) ∧ Drawn0 w w' := by
 have HR0 := Aside0.mk hr0
 have HC0 := Aside0.mk hc0
 clear hr0 hc0
 have H : (spec_asAscents.l0 k l0 0 1) = some r := h
 clear h
 have H' := Aside0.mk H
 clear H
 go_enter Tryd.func35, Tryd.ntmps35
 go_wp2
 repeat (go_quiet (fail); try go_wp2)
 go_loopg [3, 4] k (fun kq v3 v4 w' => ∃ (x3_1 : Int) (x4_1 : Int), v3 = .int .i64 x3_1 ∧ v4 = .int .i64 x4_1 ∧ Aside0 (spec_asAscents.l0 kq l0 x3_1 x4_1 = some r) ∧ Aside0 (kq ≤ k) ∧ Drawn0 w w')
 case atStart => exact ⟨(0), (1), (by first | rfl | (simp; done) | (simp [*]; done)), (by first | rfl | (simp; done) | (simp [*]; done)), H', ⟨Nat.le_refl _⟩, by repeat (first | exact Drawn0.refl _ | apply Drawn0.step)⟩
 case round =>
  clear H'
  obtain ⟨x3_1, x4_1, rfl, rfl, HA, HK1, ⟨m1, rfl⟩⟩ := hrel
  cases gk with
  | zero => exact absurd HA.out (by simp [spec_asAscents.l0])
  | succ k1 =>
   have H := HA.out
   clear HA
   simp only [spec_asAscents.l0] at H
   by_cases c2 : x4_1 < (l0.length : Int)
   ·rw [if_pos c2] at H
    have c2b0 : decide (x4_1 < (l0.length : Int)) = true := decide_eq_true c2
    clear c2
    obtain ⟨ji3, hji3⟩ : ∃ j_ : Int, (wrap64 (x4_1 - 1)) = j_ := ⟨_, rfl⟩
    replace H : (if 0 ≤ (ji3) then (if (ji3) < (l0.length : Int) then (if 0 ≤ x4_1 then (if (rd l0 (ji3)) < (rd l0 x4_1) then (spec_asAscents.l0 k1 l0 (wrap64 (x3_1 + 1)) (wrap64 (x4_1 + 1))) else (spec_asAscents.l0 k1 l0 x3_1 (wrap64 (x4_1 + 1)))) else (none)) else (none)) else (none)) = some r := by first | (rw [hji3] at H; exact H) | (simp only [hji3] at H ⊢; exact H)
    have hji3w : (IntKind.i64.wrap (x4_1 - 1)) = ji3 := (i64_w _).trans hji3
    by_cases c4 : 0 ≤ (ji3)
    ·rw [if_pos c4] at H
     have c4b0 : decide (0 ≤ (ji3)) = true := decide_eq_true c4
     clear c4
     by_cases c5 : (ji3) < (l0.length : Int)
     ·rw [if_pos c5] at H
      have c5b0 : decide ((ji3) < (l0.length : Int)) = true := decide_eq_true c5
      clear c5
      by_cases c6 : 0 ≤ x4_1
      ·rw [if_pos c6] at H
       have c6b0 : decide (0 ≤ x4_1) = true := decide_eq_true c6
       clear c6
       by_cases c7 : (rd l0 (ji3)) < (rd l0 x4_1)
       ·rw [if_pos c7] at H
        have c7b0 : decide ((rd l0 (ji3)) < (rd l0 x4_1)) = true := decide_eq_true c7
        clear c7
        have H' := Aside0.mk H
        clear H
        have p127 : 0 ≤ ((ji3) : Int) := of_decide_eq_true (by first | (with_reducible assumption) | assumption)
        have q127 : (ji3) < (l0.length : Int) := of_decide_eq_true (by first | (with_reducible assumption) | assumption)
        obtain ⟨ad127, e127, hx127_0⟩ := Kd.at_int HR0.out (ji3) p127 q127
        cases e127
        replace p127 := eq_true p127
        replace q127 := eq_true q127
        have p128 : 0 ≤ (x4_1 : Int) := of_decide_eq_true (by first | (with_reducible assumption) | assumption)
        have q128 : x4_1 < (l0.length : Int) := of_decide_eq_true (by first | (with_reducible assumption) | assumption)
        obtain ⟨ad128, e128, hx128_0⟩ := Kd.at_int HR0.out x4_1 p128 q128
        obtain rfl : ad127 = ad128 := (by injection e128)
        replace p128 := eq_true p128
        replace q128 := eq_true q128
        go_wp2
        repeat (go_quiet (fail); try go_wp2)
        go_roundg k1
        case measure => have := HK1.out; omega
        case rel => exact ⟨(wrap64 (x3_1 + 1)), (wrap64 (x4_1 + 1)), (by first | rfl | (simp; done) | (simp [*]; done)), (by first | rfl | (simp; done) | (simp [*]; done)), H', ⟨by have := HK1.out; omega⟩, by repeat (first | exact Drawn0.refl _ | apply Drawn0.step)⟩
       ·rw [if_neg c7] at H
        have c7b0 : decide ((rd l0 (ji3)) < (rd l0 x4_1)) = false := decide_eq_false c7
        clear c7
        have H' := Aside0.mk H
        clear H
        have p127 : 0 ≤ ((ji3) : Int) := of_decide_eq_true (by first | (with_reducible assumption) | assumption)
        have q127 : (ji3) < (l0.length : Int) := of_decide_eq_true (by first | (with_reducible assumption) | assumption)
        obtain ⟨ad127, e127, hx127_0⟩ := Kd.at_int HR0.out (ji3) p127 q127
        cases e127
        replace p127 := eq_true p127
        replace q127 := eq_true q127
        have p128 : 0 ≤ (x4_1 : Int) := of_decide_eq_true (by first | (with_reducible assumption) | assumption)
        have q128 : x4_1 < (l0.length : Int) := of_decide_eq_true (by first | (with_reducible assumption) | assumption)
        obtain ⟨ad128, e128, hx128_0⟩ := Kd.at_int HR0.out x4_1 p128 q128
        obtain rfl : ad127 = ad128 := (by injection e128)
        replace p128 := eq_true p128
        replace q128 := eq_true q128
        go_wp2
        repeat (go_quiet (fail); try go_wp2)
        go_roundg k1
        case measure => have := HK1.out; omega
        case rel => exact ⟨(x3_1), (wrap64 (x4_1 + 1)), (by first | rfl | (simp; done) | (simp [*]; done)), (by first | rfl | (simp; done) | (simp [*]; done)), H', ⟨by have := HK1.out; omega⟩, by repeat (first | exact Drawn0.refl _ | apply Drawn0.step)⟩
      ·rw [if_neg c6] at H
       exact absurd H (by simp)
     ·rw [if_neg c5] at H
      exact absurd H (by simp)
    ·rw [if_neg c4] at H
     exact absurd H (by simp)
   ·rw [if_neg c2] at H
    have c2b0 : decide (x4_1 < (l0.length : Int)) = false := decide_eq_false c2
    clear c2
    obtain rfl := Option.some.inj H
    go_wp2
    repeat (go_quiet (fail); try go_wp2)
    go_ret
    exact ⟨by first | rfl | (simp; done) | (simp [*]; done), by repeat (first | exact Drawn0.refl _ | apply Drawn0.step)⟩

end Go.Proofs.YtjmmleofnjcjoaaDoor.Rk
