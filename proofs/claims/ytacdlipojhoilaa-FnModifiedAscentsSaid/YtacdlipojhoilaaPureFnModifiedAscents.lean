/- Modifying is undone, and the modified numbers are the levels that the elements have in the end. -/
import Derived.Test.YtacdlipojhoilaaMx13
import Derived.Test.YtacdlipojhoilaaWSized
namespace Go.Proofs.Ytacdlipojhoilaa.PrintWords
open Go.RowKit
/-- The words' theorem, under the name by which the printed row calls it. -/
theorem sized_ints {H : Type} {enc : TypeId × Value → H} {P : Program} {W : World} {base : Nat} {spare : Nat → Bool} {held : Bool} {t e : TypeId} {k : IntKind} {a : Option Addr} {len cap : Nat} {d : DataW H} {ps : List MemPlace} {ts : List TypeId} {ds : List (DataW H)} {j : Nat}
    (g0 : (DataW.weightsEach P ts ds).all (· ≤ reachBytes) = true) (g1 : ts[j]? = some t) (g2 : ds[j]? = some d) (g3 : P.underlying t = some (.slice e)) (g4 : P.underlying e = some (.int k)) (g5 : P.cellsOf e = 1) {B : Nat} (g6 : P.bytesOf e = B)
    (g7 : DataW.Trod enc P W base spare held t (.slice a len cap) d ps) : len * B ≤ 140737488351232 := Go.Proofs.YtacdlipojhoilaaW.PrintWords.sized_ints g0 g1 g2 g3 g4 g5 g6 g7
end Go.Proofs.Ytacdlipojhoilaa.PrintWords
set_option linter.unusedVariables false
namespace Go.Proofs.Ytacdlipojhoilaa.Pure
open Go.RowKit Go.Proofs.Ytacdlipojhoilaa.Mx Go.Proofs.YtacdlipojhoilaaW.PrintWords Go.Proofs.YtacdlipojhoilaaW.PrintLast Go.Proofs.YtacdlipojhoilaaW.PrintMore Go.Proofs.Ytacdlipojhoilaa.Sq
section Prelude
theorem Ev_pos {α : Type} {c : Prop} [Decidable c] {f g : Nat → Option α} {r : α} (h : c) (k : Ev f r) : Ev (fun n => if c then f n else g n) r :=
  Ev.congr (fun _ => if_pos h) k
theorem Ev_neg {α : Type} {c : Prop} [Decidable c] {f g : Nat → Option α} {r : α} (h : ¬ c) (k : Ev g r) : Ev (fun n => if c then f n else g n) r :=
  Ev.congr (fun _ => if_neg h) k
theorem Ev_val {α β : Type} {g : Option α} {f : Nat → α → Option β} {a : α} {r : β} (h : g = some a) (k : Ev (fun n => f n a) r) : Ev (fun n => g.bind (f n)) r :=
  Ev.congr (fun _ => by rw [h]; rfl) k
theorem Ev_some {α : Type} {a r : α} (h : a = r) : Ev (fun _ => some a) r := ⟨0, fun _ _ => by rw [h]⟩
theorem Ev_eq {α : Type} {g : Nat → Option α} {a r : α} (h : Ev g a) (e : a = r) : Ev g r := e ▸ h
theorem wrap_small {x : Int} (h0 : -4611686018427387904 ≤ x) (h1 : x ≤ 4611686018427387904) : wrap64 x = x := by unfold wrap64; omega
theorem wrap_succ {i : Nat} (h : i ≤ 4611686018427387900) : wrap64 ((i : Int) + 1) = ((i + 1 : Nat) : Int) := by unfold wrap64; omega
theorem wrap_pred {i : Nat} (h : i ≤ 4611686018427387900) : wrap64 ((i + 1 : Nat) - 1 : Int) = (i : Int) := by unfold wrap64; omega
theorem rd_nat (xs : List Int) (i : Nat) : rd xs (i : Int) = xs.getD i 0 := by simp [rd]
theorem getD_lt {α : Type} (xs : List α) (i : Nat) (z : α) (h : i < xs.length) : xs.getD i z = xs[i] := by simp [List.getD_eq_getElem?_getD, h]
theorem wf_range {x : Int} (h : (Lit.int .i64 x).wf = true) : -9223372036854775808 ≤ x ∧ x ≤ 9223372036854775807 := by
  simp [Lit.wf] at h
  exact h
theorem ext_getD {xs ys : List Int} (hl : xs.length = ys.length) (h : ∀ i, i < xs.length → xs.getD i 0 = ys.getD i 0) : xs = ys := by
  apply List.ext_getElem hl
  intro i h1 h2
  have := h i h1
  rwa [getD_lt _ _ _ h1, getD_lt _ _ _ h2] at this
theorem dec_eq {a b : Prop} [Decidable a] [Decidable b] (h : a ↔ b) : decide a = decide b := by simp [h]
/-- The rounds i, .., n - 1 of a loop. -/
def foldFrom {σ : Type} (n : Nat) (step : σ → Nat → σ) (s : σ) (i : Nat) : σ := (List.range' i (n - i)).foldl step s
theorem foldFrom_lt {σ : Type} {n : Nat} {step : σ → Nat → σ} {s : σ} {i : Nat} (h : i < n) : foldFrom n step s i = foldFrom n step (step s i) (i + 1) := by
  unfold foldFrom
  rw [show n - i = (n - (i + 1)) + 1 from by omega, List.range'_succ, List.foldl_cons]
theorem foldFrom_ge {σ : Type} {n : Nat} {step : σ → Nat → σ} {s : σ} {i : Nat} (h : n ≤ i) : foldFrom n step s i = s := by
  unfold foldFrom
  rw [show n - i = 0 from by omega]; rfl
/-- A loop that counts up to n: what a round does to the state, what holds of it, and what the end makes of it. -/
theorem Ev_for {σ ρ : Type} {l : Nat → σ → Nat → Option ρ} (n : Nat) (step : σ → Nat → σ) (fin : σ → ρ) (Inv : σ → Nat → Prop)
    (hinv : ∀ i s, i < n → Inv s i → Inv (step s i) (i + 1))
    (hstep : ∀ i s, i < n → Inv s i → ∀ r, Ev (fun k => l k (step s i) (i + 1)) r → Ev (fun k => l k s i) r)
    (hend : ∀ s, Inv s n → Ev (fun k => l k s n) (fin s)) :
    ∀ i s, i ≤ n → Inv s i → Ev (fun k => l k s i) (fin (foldFrom n step s i)) ∧ Inv (foldFrom n step s i) n := by
  have main : ∀ d i s, n - i = d → i ≤ n → Inv s i → Ev (fun k => l k s i) (fin (foldFrom n step s i)) ∧ Inv (foldFrom n step s i) n := by
    intro d
    induction d with
    | zero =>
      intro i s hd hi h
      obtain rfl : i = n := by omega
      rw [foldFrom_ge (Nat.le_refl _)]
      exact ⟨hend s h, h⟩
    | succ d ih =>
      intro i s hd hi h
      rw [foldFrom_lt (by omega)]
      obtain ⟨h1, h2⟩ := ih (i + 1) (step s i) (by omega) (by omega) (hinv i s (by omega) h)
      exact ⟨hstep i s (by omega) h _ h1, h2⟩
  exact fun i s hi h => main _ i s rfl hi h
/-- A loop that asks each round, and ends with 'no' at the first round that says no. -/
theorem Ev_all (l : Nat → Nat → Option Bool) (n : Nat) (P : Nat → Bool) (r : Bool)
    (hgo : ∀ i, i < n → (∀ j, j < i → P j = true) → P i = true → ∀ q, Ev (fun k => l k (i + 1)) q → Ev (fun k => l k i) q)
    (hno : ∀ i, i < n → (∀ j, j < i → P j = true) → P i = false → Ev (fun k => l k i) false)
    (hend : (∀ j, j < n → P j = true) → Ev (fun k => l k n) r) : Ev (fun k => l k 0) (decide (∀ j, j < n → P j = true) && r) := by
  have main : ∀ d i, n - i = d → i ≤ n → (∀ j, j < i → P j = true) → Ev (fun k => l k i) (decide (∀ j, j < n → P j = true) && r) := by
    intro d
    induction d with
    | zero =>
      intro i hd hi h
      obtain rfl : i = n := by omega
      rw [decide_eq_true h, Bool.true_and]
      exact hend h
    | succ d ih =>
      intro i hd hi h
      by_cases c : P i = true
      · refine hgo i (by omega) h c _ (ih (i + 1) (by omega) (by omega) (fun j hj => ?_))
        by_cases e : j = i
        · rw [e]; exact c
        · exact h j (by omega)
      · refine Ev_eq (hno i (by omega) h (by simpa using c)) ?_
        rw [decide_eq_false (fun hh => c (hh i (by omega))), Bool.false_and]
  exact main _ 0 rfl (by omega) (fun j hj => by omega)
end Prelude
theorem foldI {σ : Type} {n : Nat} {step : σ → Nat → σ} (Inv : σ → Nat → Prop) (h : ∀ i s, i < n → Inv s i → Inv (step s i) (i + 1)) : ∀ (d i : Nat) (s : σ), n - i = d → i ≤ n → Inv s i → Inv (foldFrom n step s i) n
  | 0, i, s, hd, hi, hs => by
    rw [foldFrom_ge (by omega)]
    have e : i = n := by omega
    exact e ▸ hs
  | d + 1, i, s, hd, hi, hs => by
    rw [foldFrom_lt (by omega)]
    exact foldI Inv h d (i + 1) _ (by omega) (by omega) (h i s (by omega) hs)
/-- The sum of f 0, .., f (n - 1). -/
def sumZ : Nat → (Nat → Int) → Int
  | 0, _ => 0
  | n + 1, f => sumZ n f + f n
theorem sumZ_bound {n : Nat} {f : Nat → Int} {B : Int} (hB : 0 ≤ B) (h : ∀ i, i < n → 0 ≤ f i ∧ f i ≤ B) : 0 ≤ sumZ n f ∧ sumZ n f ≤ n * B := by
  induction n with
  | zero => simp [sumZ]
  | succ n ih =>
    have h1 := ih (fun i hi => h i (by omega))
    have h2 := h n (by omega)
    rw [sumZ, show ((n + 1 : Nat) : Int) * B = n * B + B from by rw [Int.natCast_add, Int.add_mul]; simp]
    omega
/-- The number in row i and column j. -/
def en (m : List (List Int)) (i j : Nat) : Int := (m.getD i []).getD j 0
def Cells (m : List (List Int)) : Prop := ∀ i, i < m.length → (m.getD i []).length = m.length ∧ ∀ j, j < m.length → 0 ≤ en m i j ∧ en m i j ≤ 12 ∧ (j < i → en m i j = 0)
def rowZ (m : List (List Int)) (i : Nat) : Int := sumZ m.length (fun j => en m i j)
def colZ (m : List (List Int)) (j : Nat) : Int := sumZ m.length (fun i => en m i j)
def allZ (m : List (List Int)) : Int := sumZ m.length (fun i => rowZ m i)
def isMat (m : List (List Int)) : Prop := m.length ≤ 12 ∧ Cells m ∧ (∀ i, i < m.length → rowZ m i ≠ 0) ∧ (∀ j, j < m.length → colZ m j ≠ 0) ∧ allZ m ≤ 12
instance (m : List (List Int)) : Decidable (Cells m) := inferInstanceAs (Decidable (∀ i, i < m.length → _))
instance (m : List (List Int)) : Decidable (isMat m) := inferInstanceAs (Decidable (_ ∧ _))
theorem Cells.row {m : List (List Int)} (h : Cells m) {i : Nat} (hi : i < m.length) : 0 ≤ rowZ m i ∧ rowZ m i ≤ m.length * 12 := sumZ_bound (by decide) (fun j hj => ⟨((h i hi).2 j hj).1, ((h i hi).2 j hj).2.1⟩)
theorem Cells.le {m : List (List Int)} (h : Cells m) {i j : Nat} (hi : i < m.length) (hj : j < m.length) : en m i j ≤ 12 := ((h i hi).2 j hj).2.1
def rowOk' (m : List (List Int)) (i : Nat) : Prop := (m.getD i []).length = m.length ∧ (∀ j, j < m.length → 0 ≤ en m i j ∧ en m i j ≤ 12) ∧ ∀ j, j < m.length → j < i → en m i j = 0
instance (m : List (List Int)) (i : Nat) : Decidable (rowOk' m i) := inferInstanceAs (Decidable (_ ∧ _ ∧ ∀ j, j < m.length → _))
theorem l1In_eq (a b c : Int) : spec_l1In.f a b c = some (decide (b ≤ a ∧ a ≤ c)) := by
  unfold spec_l1In.f
  by_cases h : a ≥ b
  · rw [if_pos h]; have : b ≤ a := h; simp [this]
  · rw [if_neg h]; simp; omega
theorem l1All_ev (l : List Int) (lo hi : Int) (hs : l.length ≤ 4611686018427387000) : Ev (fun k => spec_l1All.f k l lo hi) (decide (∀ j, j < l.length → lo ≤ l.getD j 0 ∧ l.getD j 0 ≤ hi)) := by
  unfold spec_l1All.f
  refine Ev_eq (Ev_all (fun k i => spec_l1All.l0 k lo hi l (l.length : Int) (i : Int)) l.length (fun j => decide (lo ≤ l.getD j 0 ∧ l.getD j 0 ≤ hi)) true ?_ ?_ ?_) ?_
  · intro i hi' _ hP q hq
    refine Ev.step (fun _ => rfl) (Ev_pos (by omega) (Ev_pos (by omega) (Ev_pos (by omega) ?_)))
    rw [rd_nat, wrap_succ (by omega), l1In_eq]
    exact Ev_val rfl (Ev_pos hP hq)
  · intro i hi' _ hP
    refine Ev.step (fun _ => rfl) (Ev_pos (by omega) (Ev_pos (by omega) (Ev_pos (by omega) ?_)))
    rw [rd_nat, l1In_eq]
    exact Ev_val rfl (Ev_neg (by rw [hP]; decide) (Ev_some rfl))
  · intro _
    exact Ev.step (fun _ => rfl) (Ev_neg (by omega) (Ev_some rfl))
  · rw [Bool.and_true]; exact dec_eq ⟨fun h j hj => of_decide_eq_true (h j hj), fun h j hj => decide_eq_true (h j hj)⟩
/-- What the reference asks of row i. -/
def rowOk (m : List (List Int)) (i : Nat) : Prop := (m.getD i []).length = m.length ∧ (∀ j, j < m.length → 0 ≤ en m i j ∧ en m i j ≤ 12) ∧ rowZ m i ≠ 0 ∧ ∀ j, j < m.length → j < i → en m i j = 0
instance (m : List (List Int)) (i : Nat) : Decidable (rowOk m i) := inferInstanceAs (Decidable (_ ∧ _ ∧ _ ∧ ∀ j, j < m.length → _))
def gD.last (m q : List (List Int)) (x : Nat) : List (List Int) := q.set x ((q.getD x []).set m.length 1)
def gD.Ok (m : List (List Int)) (x : Int) : Prop := m.length ≤ 100 ∧ (∀ r ∈ m, r.length = m.length) ∧ 0 ≤ x ∧ x ≤ (m.length : Int)
instance gD.instOk (m : List (List Int)) (x : Int) : Decidable (gD.Ok m x) := inferInstanceAs (Decidable (_ ∧ _))
/-- The ascents within the first i numbers. -/
def ascN (l : List Int) : Nat → Nat
  | 0 => 0
  | i + 1 => ascN l i + if 0 < i ∧ l.getD (i - 1) 0 < l.getD i 0 then 1 else 0
theorem ascN_le (l : List Int) : ∀ i, ascN l i ≤ i
  | 0 => Nat.le_refl _
  | i + 1 => by rw [ascN]; have := ascN_le l i; split <;> omega
/-- How far the number at place i may go. -/
def bndA (l : List Int) (i : Nat) : Int := if i = 0 then 0 else (ascN l i : Int) + 1
def AscOk (l : List Int) : Prop := l.length ≤ 12 ∧ ∀ i, i < l.length → 0 ≤ l.getD i 0 ∧ l.getD i 0 ≤ bndA l i
instance (l : List Int) : Decidable (AscOk l) := inferInstanceAs (Decidable (_ ∧ _))
theorem take_getD (l : List Int) (n j : Nat) (h : j < n) : (l.take n).getD j 0 = l.getD j 0 := by
  rw [List.getD_eq_getElem?_getD, List.getElem?_take, if_pos h, ← List.getD_eq_getElem?_getD]
theorem asc_main (f : Nat → List Int → Int → Int → Option Int)
    (hf : ∀ k (x0 : List Int) (x3 x4 : Int), f (k + 1) x0 x3 x4 = if x4 < (x0.length : Int) then (if 0 ≤ (wrap64 (x4 - 1)) then (if (wrap64 (x4 - 1)) < (x0.length : Int) then (if 0 ≤ x4 then (if (rd x0 (wrap64 (x4 - 1))) < (rd x0 x4) then (f k x0 (wrap64 (x3 + 1)) (wrap64 (x4 + 1))) else (f k x0 x3 (wrap64 (x4 + 1)))) else (none)) else (none)) else (none)) else (some x3))
    (l : List Int) (n : Nat) (hn : n ≤ l.length) (hl : n ≤ 1000) : Ev (fun k => f k (l.take n) 0 1) (ascN l n : Int) := by
  have hlen : (l.take n).length = n := by rw [List.length_take]; omega
  have main : ∀ (d i : Nat), n - i = d → 1 ≤ i → i ≤ n → Ev (fun k => f k (l.take n) (ascN l i : Int) (i : Int)) (ascN l n : Int) := by
    intro d
    induction d with
    | zero =>
      intro i hd h1 hi
      obtain rfl : i = n := by omega
      exact Ev.step (fun k => hf k _ _ _) (Ev_neg (by omega) (Ev_some rfl))
    | succ d ih =>
      intro i hd h1 hi
      have ha := ascN_le l i
      have next := ih (i + 1) (by omega) (by omega) (by omega)
      refine Ev.step (fun k => hf k _ _ _) (Ev_pos (by omega) ?_)
      rw [show (i : Int) - 1 = ((i - 1 : Nat) : Int) from by omega, wrap_small (x := ((i - 1 : Nat) : Int)) (by omega) (by omega), wrap_succ (i := i) (by omega), wrap_succ (i := ascN l i) (by omega), rd_nat, rd_nat, take_getD _ _ _ (by omega), take_getD _ _ _ (by omega)]
      refine Ev_pos (by omega) (Ev_pos (by omega) (Ev_pos (by omega) ?_))
      rw [ascN] at next
      by_cases c : l.getD (i - 1) 0 < l.getD i 0
      · rw [if_pos ⟨by omega, c⟩] at next; exact Ev_pos c next
      · rw [if_neg (fun h => c h.2)] at next; exact Ev_neg c next
  by_cases c : 1 ≤ n
  · exact main _ 1 rfl (by omega) c
  · obtain rfl : n = 0 := by omega
    exact Ev.step (fun k => hf k _ _ _) (Ev_neg (by omega) (Ev_some rfl))
theorem specAsc_ev (l : List Int) (n : Nat) (hn : n ≤ l.length) (hl : n ≤ 1000) : Ev (fun k => spec_asAscents.f k (l.take n)) (ascN l n : Int) := asc_main (fun k => spec_asAscents.l0 k) (fun _ _ _ _ => rfl) l n hn hl
theorem implAsc_ev (l : List Int) (n : Nat) (hn : n ≤ l.length) (hl : n ≤ 1000) : Ev (fun k => impl_ascents.f k (l.take n)) (ascN l n : Int) := asc_main (fun k => impl_ascents.l0 k) (fun _ _ _ _ => rfl) l n hn hl
theorem specBound_ev (l : List Int) (n : Nat) (hn : n ≤ l.length) (hl : n ≤ 1000) : Ev (fun k => spec_asBound.f k (l.take n)) (bndA l n) := by
  have hlen : (l.take n).length = n := by rw [List.length_take]; omega
  have ha := ascN_le l n
  unfold spec_asBound.f bndA
  by_cases c : n = 0
  · rw [if_pos c]; exact Ev_pos (by omega) (Ev_some rfl)
  · rw [if_neg c]
    refine Ev_neg (by omega) (Ev.bind (specAsc_ev l n hn hl) (Ev_some (wrap_small (by omega) (by omega))))
theorem in_eq (a b c : Int) : spec_l1In.f a b c = some (decide (b ≤ a ∧ a ≤ c)) := by
  unfold spec_l1In.f
  by_cases h : a ≥ b
  · rw [if_pos h]; congr 1; exact dec_eq ⟨fun h2 => ⟨h, h2⟩, fun h2 => h2.2⟩
  · rw [if_neg h]; congr 1; rw [eq_comm, decide_eq_false_iff_not]; exact fun h2 => h h2.1
theorem win_eq (a b c : Int) : impl_within.f a b c = some (decide (b ≤ a ∧ a ≤ c)) := by
  unfold impl_within.f
  by_cases h : a ≥ b
  · rw [if_pos h]; congr 1; exact dec_eq ⟨fun h2 => ⟨h, h2⟩, fun h2 => h2.2⟩
  · rw [if_neg h]; congr 1; rw [eq_comm, decide_eq_false_iff_not]; exact fun h2 => h h2.1
def OkFrom (l : List Int) (i : Nat) : Prop := ∀ j, i ≤ j → j < l.length → 0 ≤ l.getD j 0 ∧ l.getD j 0 ≤ bndA l j
open Classical in
theorem asGood_ev (l : List Int) (hs : l.length ≤ 1048576) : Ev (fun k => spec_asGood.f k l) (decide (AscOk l)) := by
  unfold spec_asGood.f
  by_cases c : (l.length : Int) > 12
  · refine Ev_pos c (Ev_some ?_)
    rw [eq_comm, decide_eq_false_iff_not]; exact fun h => by have := h.1; omega
  · refine Ev_neg c ?_
    have main : ∀ (d i : Nat), l.length - i = d → i ≤ l.length → Ev (fun k => spec_asGood.l0 k l l (l.length : Int) (i : Int)) (decide (OkFrom l i)) := by
      intro d
      induction d with
      | zero =>
        intro i hd hi
        obtain rfl : i = l.length := by omega
        exact Ev.step (fun _ => rfl) (Ev_neg (by omega) (Ev_some (by rw [eq_comm, decide_eq_true_iff]; exact fun j h1 h2 => by omega)))
      | succ d ih =>
        intro i hd hi
        refine Ev.step (fun _ => rfl) (Ev_pos (by omega) (Ev_pos (by omega) (Ev_pos (by omega) (Ev_pos (by omega) ?_))))
        rw [Int.toNat_natCast, rd_nat, wrap_succ (i := i) (by omega)]
        refine Ev.bind (specBound_ev l i (by omega) (by omega)) (Ev_val (in_eq _ _ _) ?_)
        by_cases g : 0 ≤ l.getD i 0 ∧ l.getD i 0 ≤ bndA l i
        · refine Ev_pos (decide_eq_true g) (Ev_eq (ih (i + 1) (by omega) (by omega)) (dec_eq ⟨fun h j h1 h2 => ?_, fun h j h1 h2 => h j (by omega) h2⟩))
          by_cases e : j = i
          · rw [e]; exact g
          · exact h j (by omega) h2
        · refine Ev_neg (by simpa using g) (Ev_some ?_)
          rw [eq_comm, decide_eq_false_iff_not]; exact fun h => g (h i (Nat.le_refl _) (by omega))
    exact Ev_eq (main _ 0 rfl (by omega)) (dec_eq ⟨fun h => ⟨by omega, fun i hi => h i (by omega) hi⟩, fun h j _ h2 => h.2 j h2⟩)
open Classical in
theorem isAscent_ev (l : List Int) (hs : l.length ≤ 1048576) : Ev (fun k => impl_IsAscent.f k l) (decide (AscOk l)) := by
  unfold impl_IsAscent.f
  by_cases c : (l.length : Int) > 12
  · refine Ev_pos c (Ev_some ?_)
    rw [eq_comm, decide_eq_false_iff_not]; exact fun h => by have := h.1; omega
  · refine Ev_neg c ?_
    have main : ∀ (d i : Nat), l.length - i = d → i ≤ l.length → Ev (fun k => impl_IsAscent.l0 k l l (l.length : Int) (i : Int)) (decide (OkFrom l i)) := by
      intro d
      induction d with
      | zero =>
        intro i hd hi
        obtain rfl : i = l.length := by omega
        exact Ev.step (fun _ => rfl) (Ev_neg (by omega) (Ev_some (by rw [eq_comm, decide_eq_true_iff]; exact fun j h1 h2 => by omega)))
      | succ d ih =>
        intro i hd hi
        have ha := ascN_le l i
        have yes : (0 ≤ l.getD i 0 ∧ l.getD i 0 ≤ bndA l i) → Ev (fun k => impl_IsAscent.l0 k l l (l.length : Int) ((i + 1 : Nat) : Int)) (decide (OkFrom l i)) := fun g => by
          refine Ev_eq (ih (i + 1) (by omega) (by omega)) (dec_eq ⟨fun h j h1 h2 => ?_, fun h j h1 h2 => h j (by omega) h2⟩)
          by_cases e : j = i
          · rw [e]; exact g
          · exact h j (by omega) h2
        have no : ¬ (0 ≤ l.getD i 0 ∧ l.getD i 0 ≤ bndA l i) → false = decide (OkFrom l i) := fun g => by
          rw [eq_comm, decide_eq_false_iff_not]; exact fun h => g (h i (Nat.le_refl _) (by omega))
        refine Ev.step (fun _ => rfl) (Ev_pos (by omega) (Ev_pos (by omega) (Ev_pos (by omega) ?_)))
        rw [Int.toNat_natCast, rd_nat, wrap_succ (i := i) (by omega)]
        by_cases e : i = 0
        · have hb : bndA l i = 0 := by rw [bndA, if_pos e]
          refine Ev_pos (by omega) ?_
          by_cases z : l.getD i 0 = 0
          · exact Ev_pos z (Ev_neg (by omega) (yes (by rw [hb]; omega)))
          · exact Ev_neg z (Ev_some (no (by rw [hb]; omega)))
        · have hb : bndA l i = (ascN l i : Int) + 1 := by rw [bndA, if_neg e]
          refine Ev_neg (by omega) (Ev_pos (by omega) (Ev_pos (by omega) (Ev.bind (implAsc_ev l i (by omega) (by omega)) ?_)))
          rw [wrap_small (x := (ascN l i : Int) + 1) (by omega) (by omega), ← hb]
          refine Ev_val (win_eq _ _ _) ?_
          by_cases g : 0 ≤ l.getD i 0 ∧ l.getD i 0 ≤ bndA l i
          · exact Ev_pos (decide_eq_true g) (yes g)
          · exact Ev_neg (by simpa using g) (Ev_some (no g))
    exact Ev_eq (main _ 0 rfl (by omega)) (dec_eq ⟨fun h => ⟨by omega, fun i hi => h i (by omega) hi⟩, fun h j _ h2 => h.2 j h2⟩)
theorem and255 (x : Int) (h0 : 0 ≤ x) (h1 : x < 9223372036854775808) : 0 ≤ wrap64 (Go.bits .and .u64 x 255) ∧ wrap64 (Go.bits .and .u64 x 255) ≤ 255 := by
  have hm := Go.bits_mask .u64 63 (by decide) (fun n a b => by rw [IntKind.wrap_u64]; omega) 8 (by decide) x h0 (by omega)
  have e : ((2 : Int) ^ 8 - 1) = 255 := by decide
  have e2 : ((2 : Int) ^ 8) = 256 := by decide
  rw [e, e2] at hm
  rw [hm, wrap_small (by omega) (by omega)]; omega
/-- The bytes that the draws read. -/
def BytesOk (c : List Int) : Prop := c.length ≤ 1048576 ∧ ∀ x ∈ c, 0 ≤ x ∧ x ≤ 255
theorem BytesOk.at_ {c : List Int} (h : BytesOk c) (i : Nat) : 0 ≤ c.getD i 0 ∧ c.getD i 0 ≤ 255 := by
  by_cases e : i < c.length
  · rw [getD_lt _ _ _ e]; exact h.2 _ (List.getElem_mem e)
  · rw [List.getD_eq_getElem?_getD, List.getElem?_eq_none (by omega)]; exact ⟨Int.le_refl _, by decide⟩
theorem next_ok (c : List Int) (h : BytesOk c) (a s : Int) (h0 : 0 ≤ a) (h1 : a ≤ 4611686018427387000) : ∃ b s', spec_l1Cur_next.f c a s = some (b, a + 1, s') ∧ 0 ≤ b ∧ b ≤ 255 := by
  have hw : wrap64 (a + 1) = a + 1 := wrap_small (by omega) (by omega)
  have hand : ∀ y : Int, 0 ≤ wrap64 (Go.bits .and .u64 (IntKind.u64.wrap y / 1099511627776) 255) ∧ wrap64 (Go.bits .and .u64 (IntKind.u64.wrap y / 1099511627776) 255) ≤ 255 := fun y => and255 _ (by rw [IntKind.wrap_u64]; omega) (by rw [IntKind.wrap_u64]; omega)
  unfold spec_l1Cur_next.f
  rw [hw]
  by_cases c1 : a < (c.length : Int)
  · obtain ⟨i, rfl⟩ : ∃ i : Nat, a = (i : Int) := ⟨a.toNat, by omega⟩
    have hb := h.at_ i
    rw [if_pos c1, if_pos h0, if_pos (by omega), rd_nat, wrap_small (x := c.getD i 0) (by omega) (by omega)]
    exact ⟨_, _, rfl, hb.1, hb.2⟩
  · rw [if_neg c1]
    by_cases c2 : a + 1 ≤ (c.length : Int)
    · rw [if_pos c2]; exact ⟨_, _, rfl, Int.le_refl _, by decide⟩
    · rw [if_neg c2]
      have := hand ((IntKind.u64.wrap ((IntKind.u64.wrap (s * 6364136223846793005)) + 0)) + 1442695040888963407)
      exact ⟨_, _, rfl, this.1, this.2⟩
theorem pick_ok (c : List Int) (h : BytesOk c) (a s n : Int) (h0 : 0 ≤ a) (h1 : a ≤ 4611686018427380000) (hn : n ≤ 4611686018427387000) : ∃ r a' s', spec_l1Cur_pick.f c a s n = some (r, a', s') ∧ 0 ≤ r ∧ (1 ≤ n → r < n) ∧ 0 ≤ a' ∧ a' ≤ a + 2 := by
  unfold spec_l1Cur_pick.f
  by_cases c1 : n ≤ 1
  · rw [if_pos c1]; exact ⟨_, _, _, rfl, Int.le_refl _, fun _ => by omega, h0, by omega⟩
  · rw [if_neg c1]
    obtain ⟨b, s', e, hb0, hb1⟩ := next_ok c h a s h0 (by omega)
    rw [e, Option.bind_some]
    by_cases c2 : n > 200
    · rw [if_pos c2]
      obtain ⟨b2, s2, e2, hc0, hc1⟩ := next_ok c h (a + 1) s' (by omega) (by omega)
      simp only []
      rw [e2, Option.bind_some, if_neg (by omega)]
      have w1 : wrap64 (b * 256) = b * 256 := wrap_small (by omega) (by omega)
      have w2 : wrap64 (b * 256 + b2) = b * 256 + b2 := wrap_small (by omega) (by omega)
      simp only [w1, w2]
      refine ⟨_, _, _, rfl, Int.tmod_nonneg _ (by omega), fun _ => Int.tmod_lt_of_pos _ (by omega), by omega, by omega⟩
    · rw [if_neg c2, if_neg (by omega)]
      refine ⟨_, _, _, rfl, Int.tmod_nonneg _ hb0, fun _ => Int.tmod_lt_of_pos _ (by omega), by simp only []; omega, by simp only []; omega⟩
theorem one_ok (c : List Int) (h : BytesOk c) (a s n : Int) (h0 : 0 ≤ a) (h1 : a ≤ 4611686018427380000) (hn : n ≤ 4611686018427387000) : ∃ b a' s', spec_l1Cur_one.f c a s n = some (b, a', s') ∧ 0 ≤ a' ∧ a' ≤ a + 2 := by
  obtain ⟨r, a', s', e, _, _, e2, e3⟩ := pick_ok c h a s n h0 h1 hn
  exact ⟨r == 0, a', s', by unfold spec_l1Cur_one.f; rw [e]; rfl, e2, e3⟩
theorem pSame_refl (l : List Int) (hl : l.length ≤ 1048576) : Ev (fun k => laws_pSame.f k l l) true := by
  unfold laws_pSame.f
  refine Ev_pos rfl ?_
  have main : ∀ (d i : Nat), l.length - i = d → i ≤ l.length → Ev (fun k => laws_pSame.l0 k l l (l.length : Int) (i : Int)) true := by
    intro d
    induction d with
    | zero => intro i hd hi; exact Ev.step (fun _ => rfl) (Ev_neg (by omega) (Ev_some rfl))
    | succ d ih =>
      intro i hd hi
      refine Ev.step (fun _ => rfl) (Ev_pos (by omega) (Ev_pos (by omega) (Ev_pos (by omega) (Ev_pos (by omega) (Ev_pos rfl ?_)))))
      rw [wrap_succ (i := i) (by omega)]
      exact ih (i + 1) (by omega) (by omega)
  exact main _ 0 rfl (by omega)
open Classical in
theorem pSame_ev (a b : List Int) (ha : a.length ≤ 1048576) : Ev (fun k => laws_pSame.f k a b) (decide (a = b)) := by
  unfold laws_pSame.f
  by_cases hl : a.length = b.length
  · refine Ev_pos (by rw [hl]) ?_
    have main : ∀ (d i : Nat), a.length - i = d → i ≤ a.length → Ev (fun k => laws_pSame.l0 k a b (a.length : Int) (i : Int)) (decide (∀ j, i ≤ j → j < a.length → a.getD j 0 = b.getD j 0)) := by
      intro d
      induction d with
      | zero =>
        intro i hd hi
        refine Ev.step (fun _ => rfl) (Ev_neg (by omega) (Ev_some ?_))
        rw [eq_comm, decide_eq_true_iff]; exact fun j h1 h2 => by omega
      | succ d ih =>
        intro i hd hi
        refine Ev.step (fun _ => rfl) (Ev_pos (by omega) (Ev_pos (by omega) (Ev_pos (by omega) (Ev_pos (by omega) ?_))))
        rw [rd_nat, rd_nat, wrap_succ (i := i) (by omega)]
        by_cases c : a.getD i 0 = b.getD i 0
        · refine Ev_pos c (Ev_eq (ih (i + 1) (by omega) (by omega)) (dec_eq ⟨fun h j h1 h2 => ?_, fun h j h1 h2 => h j (by omega) h2⟩))
          by_cases e : j = i
          · rw [e]; exact c
          · exact h j (by omega) h2
        · refine Ev_neg c (Ev_some ?_)
          rw [eq_comm, decide_eq_false_iff_not]; exact fun h => c (h i (Nat.le_refl _) (by omega))
    refine Ev_eq (main _ 0 rfl (Nat.zero_le _)) (dec_eq ⟨fun h => ext_getD hl (fun j hj => h j (Nat.zero_le _) hj), fun h j _ _ => by rw [h]⟩)
  · refine Ev_neg (by omega) (Ev_some ?_)
    rw [eq_comm, decide_eq_false_iff_not]; exact fun h => hl (by rw [h])
theorem bound_all (l : List Int) (h : l.length ≤ 1000) : Ev (fun k => spec_asBound.f k l) (bndA l l.length) := by
  have := specBound_ev l l.length (Nat.le_refl _) h
  rw [List.take_length] at this
  exact this
theorem bndA_rng (l : List Int) (i : Nat) : 0 ≤ bndA l i ∧ bndA l i ≤ (i : Int) + 1 := by
  have := ascN_le l i
  unfold bndA; split <;> omega
theorem ascent_l0 (c : List Int) (h : BytesOk c) (n : Nat) (hn : n ≤ 20) : ∀ (d : Nat) (l : List Int) (a s : Int), n - l.length = d → l.length ≤ n → 0 ≤ a → a + 10 * d ≤ 60000 → ∃ R, Ev (fun k => spec_l1Cur_ascent.l0 k (n : Int) l c a s) R ∧ R.1.length ≤ n + 1 ∧ 0 ≤ R.2.1 ∧ R.2.1 ≤ a + 10 * d + 10 := by
  intro d
  induction d with
  | zero =>
    intro l a s hd hl ha hb
    have hln : l.length = n := by omega
    obtain ⟨r, a1, s1, e1, r0, _, f0, f1⟩ := pick_ok c h a s 14 ha (by omega) (by decide)
    have hle : ¬ (l.length : Int) < (n : Int) := by omega
    by_cases z : r = 0
    · by_cases p : (l.length : Int) > 0
      · obtain ⟨i, a2, s2, e2, i0, i1, g0, g1⟩ := pick_ok c h a1 s1 (l.length : Int) f0 (by omega) (by omega)
        obtain ⟨u, a3, s3, e3, _, _, k0, k1⟩ := pick_ok c h a2 s2 7 g0 (by omega) (by decide)
        have i1 := i1 (by omega)
        refine ⟨(l.set i.toNat (wrap64 (u - 1)), a3, s3), ?_, by show (l.set _ _).length ≤ _; rw [List.length_set]; omega, k0, by show a3 ≤ _; omega⟩
        refine Ev.step (fun k => by rw [spec_l1Cur_ascent.l0]) (Ev_neg hle (Ev_val e1 (Ev_pos z (Ev_pos p (Ev_val e2 (Ev_val e3 (Ev_pos i0 (Ev_pos i1 (Ev_some rfl)))))))))
      · refine ⟨(l, a1, s1), ?_, by show l.length ≤ _; omega, f0, by show a1 ≤ _; omega⟩
        exact Ev.step (fun k => by rw [spec_l1Cur_ascent.l0]) (Ev_neg hle (Ev_val e1 (Ev_pos z (Ev_neg p (Ev_some rfl)))))
    · by_cases z1 : r = 1
      · obtain ⟨u, a2, s2, e2, _, _, g0, g1⟩ := pick_ok c h a1 s1 2 f0 (by omega) (by decide)
        have hsm : l.length < 17592186044416 := by omega
        refine ⟨(l ++ [wrap64 (bndA l l.length + u)], a2, s2), ?_, by show (l ++ [_]).length ≤ _; rw [List.length_append, List.length_singleton]; omega, g0, by show a2 ≤ _; omega⟩
        exact Ev.step (fun k => by rw [spec_l1Cur_ascent.l0]) (Ev_neg hle (Ev_val e1 (Ev_neg z (Ev_pos z1 (Ev.bind (bound_all l (by omega)) (Ev_val e2 (Ev_pos hsm (Ev_some rfl))))))))
      · refine ⟨(l, a1, s1), ?_, by show l.length ≤ _; omega, f0, by show a1 ≤ _; omega⟩
        exact Ev.step (fun k => by rw [spec_l1Cur_ascent.l0]) (Ev_neg hle (Ev_val e1 (Ev_neg z (Ev_neg z1 (Ev_some rfl)))))
  | succ d ih =>
    intro l a s hd hl ha hb
    have hlt : (l.length : Int) < (n : Int) := by omega
    have hsm : l.length < 17592186044416 := by omega
    have hbd := bndA_rng l l.length
    obtain ⟨r, a1, s1, e1, _, _, f0, f1⟩ := pick_ok c h a s (bndA l l.length + 1) ha (by omega) (by omega)
    obtain ⟨b, a2, s2, e2, g0, g1⟩ := one_ok c h a1 s1 3 f0 (by omega) (by decide)
    have w : wrap64 (bndA l l.length + 1) = bndA l l.length + 1 := wrap_small (by omega) (by omega)
    rw [← w] at e1
    cases b with
    | true =>
      obtain ⟨R, hR, q1, q2, q3⟩ := ih (l ++ [bndA l l.length]) a2 s2 (by rw [List.length_append, List.length_singleton]; omega) (by rw [List.length_append, List.length_singleton]; omega) g0 (by omega)
      exact ⟨R, Ev.step (fun k => by rw [spec_l1Cur_ascent.l0]) (Ev_pos hlt (Ev.bind (bound_all l (by omega)) (Ev_val e1 (Ev_val e2 (Ev_pos rfl (Ev_pos hsm hR)))))), q1, q2, by omega⟩
    | false =>
      obtain ⟨R, hR, q1, q2, q3⟩ := ih (l ++ [r]) a2 s2 (by rw [List.length_append, List.length_singleton]; omega) (by rw [List.length_append, List.length_singleton]; omega) g0 (by omega)
      exact ⟨R, Ev.step (fun k => by rw [spec_l1Cur_ascent.l0]) (Ev_pos hlt (Ev.bind (bound_all l (by omega)) (Ev_val e1 (Ev_val e2 (Ev_neg Bool.false_ne_true (Ev_pos hsm hR)))))), q1, q2, by omega⟩
theorem ascent_j0 (c : List Int) (h : BytesOk c) (n a s : Int) (h0 : 0 ≤ n) (hn : n ≤ 20) (ha : 0 ≤ a) (hb : a ≤ 50000) : ∃ R, Ev (fun k => spec_l1Cur_ascent.j0 k n c a s) R ∧ R.1.length ≤ 21 ∧ 0 ≤ R.2.1 ∧ R.2.1 ≤ a + 300 := by
  obtain ⟨n, rfl⟩ := Int.eq_ofNat_of_zero_le h0
  obtain ⟨R, hR, q1, q2, q3⟩ := ascent_l0 c h n (by omega) n [] a s (by simp) (by simp) ha (by omega)
  exact ⟨R, Ev.step (fun k => by rw [spec_l1Cur_ascent.j0]) hR, by omega, q2, by omega⟩
theorem ascent_ok (c : List Int) (h : BytesOk c) (m : Int) (hm0 : 0 ≤ m) (hm : m ≤ 15) (a s : Int) (ha : 0 ≤ a) (hb : a ≤ 40000) : ∃ R, Ev (fun k => spec_l1Cur_ascent.f k c a s m) R ∧ R.1.length ≤ 21 ∧ 0 ≤ R.2.1 ∧ R.2.1 ≤ a + 400 := by
  have w : wrap64 (m + 1) = m + 1 := wrap_small (by omega) (by omega)
  obtain ⟨r, a1, s1, e1, r0, r1, f0, f1⟩ := pick_ok c h a s (m + 1) ha (by omega) (by omega)
  have r1 := r1 (by omega)
  obtain ⟨b, a2, s2, e2, g0, g1⟩ := one_ok c h a1 s1 10 f0 (by omega) (by decide)
  cases b with
  | true =>
    obtain ⟨u, a3, s3, e3, u0, u1, k0, k1⟩ := pick_ok c h a2 s2 2 g0 (by omega) (by decide)
    have u1 := u1 (by decide)
    have w2 : wrap64 (12 + u) = 12 + u := wrap_small (by omega) (by omega)
    obtain ⟨R, hR, q1, q2, q3⟩ := ascent_j0 c h (12 + u) a3 s3 (by omega) (by omega) k0 (by omega)
    refine ⟨R, ?_, q1, q2, by omega⟩
    unfold spec_l1Cur_ascent.f
    rw [w]
    refine Ev_val e1 (Ev_val e2 (Ev_pos rfl (Ev_val e3 ?_)))
    simp only [w2]; exact hR
  | false =>
    obtain ⟨R, hR, q1, q2, q3⟩ := ascent_j0 c h r a2 s2 r0 (by omega) g0 (by omega)
    refine ⟨R, ?_, q1, q2, by omega⟩
    unfold spec_l1Cur_ascent.f
    rw [w]
    exact Ev_val e1 (Ev_val e2 (Ev_neg Bool.false_ne_true hR))
theorem wf_byte {x : Int} (h : (Lit.int .u8 x).wf = true) : 0 ≤ x ∧ x ≤ 255 := by
  simp [Lit.wf] at h
  have a : IntKind.u8.min = 0 := by decide
  have b : IntKind.u8.max = 255 := by decide
  rw [a, b] at h; exact h
/-- The number at place k when the numbers before place i have been gone through. -/
def mv (l : List Int) : Nat → Nat → Int
  | 0 => fun k => l.getD k 0
  | i + 1 => fun k => if 0 < i ∧ l.getD (i - 1) 0 < l.getD i 0 ∧ k < i ∧ l.getD i 0 ≤ mv l i k then mv l i k + 1 else mv l i k
def modF (l : List Int) : List Int := (List.range l.length).map (mv l l.length)
theorem mapN_getD (n : Nat) (f : Nat → Int) {k : Nat} (h : k < n) : ((List.range n).map f).getD k 0 = f k := by
  rw [getD_lt _ _ _ (by simpa using h)]; simp
theorem mapN_set (n : Nat) (f g : Nat → Int) {k : Nat} (h : k < n) (x : Int) (hg : ∀ j, j < n → g j = if j = k then x else f j) : ((List.range n).map f).set k x = (List.range n).map g := by
  refine ext_getD (by simp) (fun j hj => ?_)
  rw [List.length_set, List.length_map, List.length_range] at hj
  rw [mapN_getD n g hj, hg j hj, List.getD_eq_getElem?_getD, List.getElem?_set]
  by_cases c : k = j
  · rw [if_pos c, if_pos (by rw [List.length_map, List.length_range]; omega), if_pos c.symm]; rfl
  · rw [if_neg c, if_neg (fun h => c h.symm), ← List.getD_eq_getElem?_getD, mapN_getD n f hj]
theorem mapN_congr {n : Nat} {f g : Nat → Int} (h : ∀ k, k < n → f k = g k) : (List.range n).map f = (List.range n).map g := List.map_congr_left (fun k hk => h k (List.mem_range.1 hk))
theorem mv_top (l : List Int) (k : Nat) : ∀ i, i ≤ k + 1 → mv l i k = l.getD k 0
  | 0, _ => rfl
  | i + 1, h => by
    rw [mv]
    simp only []
    rw [if_neg (fun hh => by omega), mv_top l k i (by omega)]
theorem AscOk.at_ {l : List Int} (g : AscOk l) {i : Nat} (hi : i < l.length) : 0 ≤ l.getD i 0 ∧ l.getD i 0 ≤ 13 := by
  obtain ⟨h0, h1⟩ := g.2 i hi
  have := ascN_le l i
  have := g.1
  refine ⟨h0, ?_⟩
  unfold bndA at h1
  split at h1 <;> omega
theorem mv_bd {l : List Int} (g : AscOk l) {k : Nat} (hk : k < l.length) : ∀ i, 0 ≤ mv l i k ∧ mv l i k ≤ 13 + (i : Int)
  | 0 => by have := g.at_ hk; exact ⟨this.1, by show l.getD k 0 ≤ _; omega⟩
  | i + 1 => by
    obtain ⟨a, b⟩ := mv_bd g hk i
    rw [mv]
    simp only []
    split <;> omega
/-- How the numbers that have come lie to each other stays. -/
theorem mv_ord (l : List Int) {i p q : Nat} (hp : p < i) (hq : q < i) : ∀ j, i ≤ j → (mv l i p < mv l i q ↔ mv l j p < mv l j q)
  | 0, h => by omega
  | j + 1, h => by
    by_cases c : i = j + 1
    · rw [c]
    · rw [mv_ord l hp hq j (by omega), mv]
      simp only []
      by_cases c1 : 0 < j ∧ l.getD (j - 1) 0 < l.getD j 0
      · by_cases c2 : l.getD j 0 ≤ mv l j p
        · by_cases c3 : l.getD j 0 ≤ mv l j q
          · rw [if_pos ⟨c1.1, c1.2, by omega, c2⟩, if_pos ⟨c1.1, c1.2, by omega, c3⟩]; omega
          · rw [if_pos ⟨c1.1, c1.2, by omega, c2⟩, if_neg (fun hh => c3 hh.2.2.2)]; omega
        · by_cases c3 : l.getD j 0 ≤ mv l j q
          · rw [if_neg (fun hh => c2 hh.2.2.2), if_pos ⟨c1.1, c1.2, by omega, c3⟩]; omega
          · rw [if_neg (fun hh => c2 hh.2.2.2), if_neg (fun hh => c3 hh.2.2.2)]
      · rw [if_neg (fun hh => c1 ⟨hh.1, hh.2.1⟩), if_neg (fun hh => c1 ⟨hh.1, hh.2.1⟩)]
theorem mv_prev (l : List Int) (i : Nat) (hi : 0 < i) : mv l (i + 1) (i - 1) = l.getD (i - 1) 0 := by
  have e := mv_top l (i - 1) i (by omega)
  rw [mv]
  simp only []
  rw [e]
  by_cases c : 0 < i ∧ l.getD (i - 1) 0 < l.getD i 0 ∧ i - 1 < i ∧ l.getD i 0 ≤ l.getD (i - 1) 0
  · omega
  · rw [if_neg c]
theorem mv_asc (l : List Int) {i : Nat} (hi : 0 < i) {j : Nat} (hj : i < j) : mv l j (i - 1) < mv l j i ↔ l.getD (i - 1) 0 < l.getD i 0 := by
  rw [← mv_ord l (i := i + 1) (p := i - 1) (q := i) (by omega) (by omega) j (by omega), mv_prev l i hi, mv_top l i (i + 1) (Nat.le_refl _)]
/-- No number is beyond the ascents. -/
theorem mv_le {l : List Int} (g : AscOk l) : ∀ i, i ≤ l.length → ∀ k, k < i → mv l i k ≤ (ascN l i : Int)
  | 0, _, k, hk => by omega
  | i + 1, hi, k, hk => by
    have hb := (g.2 i (by omega)).2
    by_cases c : 0 < i ∧ l.getD (i - 1) 0 < l.getD i 0
    · rw [ascN, if_pos c, mv]
      simp only []
      by_cases e : k = i
      · rw [if_neg (fun hh => by omega), e, mv_top l i i (by omega)]
        unfold bndA at hb; rw [if_neg (by omega)] at hb; omega
      · have := mv_le g i (by omega) k (by omega)
        split <;> omega
    · rw [ascN, if_neg c, mv]
      simp only []
      rw [if_neg (fun hh => c ⟨hh.1, hh.2.1⟩)]
      by_cases e : k = i
      · rw [e, mv_top l i i (by omega)]
        by_cases e2 : i = 0
        · unfold bndA at hb; rw [if_pos e2] at hb; omega
        · have h3 := mv_le g i (by omega) (i - 1) (by omega)
          rw [mv_top l (i - 1) i (by omega)] at h3
          omega
      · have := mv_le g i (by omega) k (by omega); omega
/-- Just the numbers up to the ascents have come. -/
theorem mv_all {l : List Int} (g : AscOk l) : ∀ i, 0 < i → i ≤ l.length → ∀ x : Int, (∃ k, k < i ∧ mv l i k = x) ↔ 0 ≤ x ∧ x ≤ (ascN l i : Int)
  | 0, h, _, _ => absurd h (by omega)
  | i + 1, _, hi, x => by
    have hb := g.2 i (by omega)
    refine ⟨fun ⟨k, hk, e⟩ => ?_, fun ⟨h0, h1⟩ => ?_⟩
    · have := mv_le g (i + 1) hi k hk
      have := (mv_bd g (k := k) (by omega) (i + 1)).1
      omega
    · by_cases e0 : i = 0
      · subst e0
        have : l.getD 0 0 = 0 := by have := hb.2; unfold bndA at this; rw [if_pos rfl] at this; omega
        have h2 : ascN l (0 + 1) = 0 := by rw [ascN, if_neg (fun hh => absurd hh.1 (by omega))]; rfl
        exact ⟨0, by omega, by rw [mv_top l 0 1 (by omega)]; omega⟩
      · have ih := mv_all g i (by omega) (by omega)
        have hb2 := hb.2
        unfold bndA at hb2; rw [if_neg e0] at hb2
        by_cases c : l.getD (i - 1) 0 < l.getD i 0
        · rw [ascN, if_pos ⟨by omega, c⟩] at h1
          by_cases e1 : x = l.getD i 0
          · exact ⟨i, by omega, by rw [mv_top l i (i + 1) (by omega), e1]⟩
          · by_cases e2 : x < l.getD i 0
            · obtain ⟨k, hk, e⟩ := (ih x).2 ⟨h0, by omega⟩
              refine ⟨k, by omega, ?_⟩
              rw [mv]; simp only []
              rw [if_neg (fun hh => by omega), e]
            · obtain ⟨k, hk, e⟩ := (ih (x - 1)).2 ⟨by omega, by omega⟩
              refine ⟨k, by omega, ?_⟩
              rw [mv]; simp only []
              rw [if_pos ⟨by omega, c, hk, by omega⟩, e]; omega
        · rw [ascN, if_neg (fun hh => c hh.2)] at h1
          obtain ⟨k, hk, e⟩ := (ih x).2 ⟨h0, by omega⟩
          refine ⟨k, by omega, ?_⟩
          rw [mv]; simp only []
          rw [if_neg (fun hh => c hh.2.1), e]
/-- The loops of modifying. -/
theorem mod_main (f0 : Nat → List Int → List Int → Int → Option (List Int)) (f1 : Nat → List Int → List Int → Int → Int → Option (List Int))
    (h0 : ∀ k (x0 x3 : List Int) (x4 : Int), f0 (k + 1) x0 x3 x4 = if x4 < (x0.length : Int) then (if 0 ≤ (wrap64 (x4 - 1)) then (if (wrap64 (x4 - 1)) < (x0.length : Int) then (if 0 ≤ x4 then (if (rd x0 (wrap64 (x4 - 1))) ≥ (rd x0 x4) then (f0 k x0 x3 (wrap64 (x4 + 1))) else (f1 k x0 x3 x4 0)) else (none)) else (none)) else (none)) else (some x3))
    (h1 : ∀ k (x0 x3 : List Int) (x4 x5 : Int), f1 (k + 1) x0 x3 x4 x5 = if x5 < x4 then (if 0 ≤ x5 then (if x5 < (x3.length : Int) then (if 0 ≤ x4 then (if x4 < (x0.length : Int) then (if (rd x3 x5) ≥ (rd x0 x4) then (f1 k x0 (x3.set (x5 : Int).toNat (wrap64 ((rd x3 x5) + 1))) x4 (wrap64 (x5 + 1))) else (f1 k x0 x3 x4 (wrap64 (x5 + 1)))) else (none)) else (none)) else (none)) else (none)) else (f0 k x0 x3 (wrap64 (x4 + 1))))
    (l : List Int) (g : AscOk l) : Ev (fun k => f0 k l l 1) (modF l) := by
  have hl := g.1
  have inner : ∀ (i : Nat), 0 < i → i < l.length → l.getD (i - 1) 0 < l.getD i 0 → ∀ R, Ev (fun k => f0 k l ((List.range l.length).map (mv l (i + 1))) ((i + 1 : Nat) : Int)) R →
      ∀ (d q : Nat), i - q = d → q ≤ i → Ev (fun k => f1 k l ((List.range l.length).map (fun j => if j < q then mv l (i + 1) j else mv l i j)) (i : Int) (q : Int)) R := by
    intro i hi0 hi hc R hR d
    induction d with
    | zero =>
      intro q hd hq
      obtain rfl : q = i := by omega
      refine Ev.step (fun k => h1 k _ _ _ _) (Ev_neg (by omega) ?_)
      rw [wrap_succ (by omega), mapN_congr (g := mv l (q + 1)) (fun j hj => by
        by_cases c : j < q
        · rw [if_pos c]
        · rw [if_neg c, mv]; simp only []; rw [if_neg (fun hh => c hh.2.2.1)])]
      exact hR
    | succ d ih =>
      intro q hd hq
      have next := ih (q + 1) (by omega) (by omega)
      refine Ev.step (fun k => h1 k _ _ _ _) (Ev_pos (by omega) (Ev_pos (by omega) (Ev_pos (by rw [List.length_map, List.length_range]; omega) (Ev_pos (by omega) (Ev_pos (by omega) ?_)))))
      rw [rd_nat, rd_nat, mapN_getD _ _ (by omega), if_neg (Nat.lt_irrefl q), wrap_succ (i := q) (by omega), Int.toNat_natCast]
      have hbd := mv_bd g (k := q) (by omega) i
      by_cases c : mv l i q ≥ l.getD i 0
      · refine Ev_pos c ?_
        rw [wrap_small (by omega) (by omega), mapN_set l.length _ (fun j => if j < q + 1 then mv l (i + 1) j else mv l i j) (by omega) _ (fun j hj => by
          by_cases e : j = q
          · rw [if_pos e, e, if_pos (by omega), mv]; simp only []; rw [if_pos ⟨hi0, hc, by omega, c⟩]
          · rw [if_neg e]
            by_cases e2 : j < q
            · rw [if_pos e2, if_pos (by omega)]
            · rw [if_neg e2, if_neg (by omega)])]
        exact next
      · refine Ev_neg c ?_
        rw [mapN_congr (g := fun j => if j < q + 1 then mv l (i + 1) j else mv l i j) (fun j hj => by
          by_cases e : j = q
          · rw [e, if_neg (by omega), if_pos (by omega), mv]; simp only []; rw [if_neg (fun hh => c hh.2.2.2)]
          · by_cases e2 : j < q
            · rw [if_pos e2, if_pos (by omega)]
            · rw [if_neg e2, if_neg (by omega)])]
        exact next
  have main : ∀ (d i : Nat), l.length - i = d → 0 < i → Ev (fun k => f0 k l ((List.range l.length).map (mv l i)) (i : Int)) (if i ≤ l.length then modF l else (List.range l.length).map (mv l i)) := by
    intro d
    induction d with
    | zero =>
      intro i hd hi0
      refine Ev.step (fun k => h0 k _ _ _) (Ev_neg (by omega) (Ev_some ?_))
      by_cases c : i ≤ l.length
      · rw [if_pos c, show i = l.length from by omega]; rfl
      · rw [if_neg c]
    | succ d ih =>
      intro i hd hi0
      have next := ih (i + 1) (by omega) (by omega)
      rw [if_pos (by omega)] at next ⊢
      have hw : wrap64 ((i : Int) - 1) = ((i - 1 : Nat) : Int) := by rw [wrap_small (by omega) (by omega)]; omega
      refine Ev.step (fun k => h0 k _ _ _) ?_
      rw [hw]
      refine Ev_pos (by omega) (Ev_pos (by omega) (Ev_pos (by omega) (Ev_pos (by omega) ?_)))
      rw [rd_nat, rd_nat]
      by_cases c : l.getD (i - 1) 0 ≥ l.getD i 0
      · refine Ev_pos c ?_
        rw [wrap_succ (by omega), mapN_congr (g := mv l (i + 1)) (fun j hj => by rw [mv]; simp only []; rw [if_neg (fun hh => by omega)])]
        exact next
      · refine Ev_neg c ?_
        have := inner i hi0 (by omega) (by omega) _ next i 0 (by omega) (by omega)
        rw [mapN_congr (g := mv l i) (fun j hj => if_neg (Nat.not_lt_zero j))] at this
        exact this
  have h2 : (List.range l.length).map (mv l 1) = l := ext_getD (by simp) (fun j hj => by
    rw [List.length_map, List.length_range] at hj
    rw [mapN_getD _ _ hj, mv_top l j 1 (by omega)])
  have h3 := main (l.length - 1) 1 rfl (by omega)
  rw [h2] at h3
  by_cases c : 1 ≤ l.length
  · rw [if_pos c] at h3; exact h3
  · rw [if_neg c] at h3
    have e : l = [] := List.eq_nil_of_length_eq_zero (by omega)
    have e2 : modF l = l := by rw [e]; rfl
    rw [e2]; exact h3
theorem modF_len (l : List Int) : (modF l).length = l.length := by rw [modF, List.length_map, List.length_range]
theorem modF_get (l : List Int) {k : Nat} (h : k < l.length) : (modF l).getD k 0 = mv l l.length k := by rw [modF, mapN_getD _ _ h]
theorem implMod_ev (l : List Int) (g : AscOk l) : Ev (fun k => impl_modified.f k l) (modF l) := by
  unfold impl_modified.f
  have := g.1
  exact Ev_val (show slices_Clone_int_int.f l = some l from if_pos (by omega)) (mod_main (fun k => impl_modified.l0 k) (fun k a b c d => impl_modified.l1 k a b c c d) (fun _ _ _ _ => rfl) (fun _ _ _ _ _ => rfl) l g)
theorem own_eq (l : List Int) (h : l.length ≤ 1048576) : spec_l1Own.f l = some l := by
  unfold spec_l1Own.f
  rw [Option.bind_some, if_pos (by simp; omega)]; rfl
theorem specMod_ev (l : List Int) (g : AscOk l) : Ev (fun k => spec_asModify.f k l) (modF l) := by
  unfold spec_asModify.f
  have := g.1
  exact Ev_val (own_eq l (by omega)) (mod_main (fun k => spec_asModify.l0 k) (fun k => spec_asModify.l1 k) (fun _ _ _ _ => rfl) (fun _ _ _ _ _ => rfl) l g)
def modR (l : List Int) : List Int × Bool := if AscOk l then (modF l, true) else ([], false)
theorem implModR_ev (l : List Int) (hs : l.length ≤ 1048576) : Ev (fun k => impl_ModifyAscent.f k l) (modR l) := by
  unfold impl_ModifyAscent.f modR
  refine Ev.bind (isAscent_ev l hs) ?_
  by_cases g : AscOk l
  · rw [if_pos g]; exact Ev_pos (decide_eq_true g) (Ev.bind (implMod_ev l g) (Ev_some rfl))
  · rw [if_neg g]; exact Ev_neg (by simpa using g) (Ev_some rfl)
theorem specModR_ev (l : List Int) (hs : l.length ≤ 1048576) : Ev (fun k => spec_ModifyAscent.f k l) (modR l) := by
  unfold spec_ModifyAscent.f modR
  refine Ev.bind (asGood_ev l hs) ?_
  by_cases g : AscOk l
  · rw [if_pos g]; exact Ev_pos (decide_eq_true g) (Ev.bind (specMod_ev l g) (Ev_some rfl))
  · rw [if_neg g]; exact Ev_neg (by simpa using g) (Ev_some rfl)
/-- One place gone through backwards. -/
def stp (i : Nat) (c : Prop) [Decidable c] (v : Nat → Int) : Nat → Int := fun k => if c ∧ k < i ∧ v i < v k then wrap64 (v k - 1) else v k
def uv (n : Nat) (C : Nat → (Nat → Int) → Bool) (u : Nat → Int) : Nat → Nat → Int
  | 0 => u
  | d + 1 => stp (n - 1 - d) (C (n - 1 - d) (uv n C u d) = true) (uv n C u d)
def LU (n : Nat) (u : Nat → Int) : List Int := (List.range n).map u
theorem LU_len (n : Nat) (u : Nat → Int) : (LU n u).length = n := by rw [LU, List.length_map, List.length_range]
theorem LU_get (n : Nat) (u : Nat → Int) {k : Nat} (h : k < n) : (LU n u).getD k 0 = u k := mapN_getD n u h
theorem LU_self (s : List Int) : LU s.length (fun k => s.getD k 0) = s := ext_getD (LU_len _ _) (fun j hj => by rw [LU_len] at hj; rw [LU_get _ _ hj])
theorem undo_main {ρ : Type} (n : Nat) (hn : n ≤ 100) (C : Nat → (Nat → Int) → Bool) (f0 : Nat → List Int → Int → Option ρ) (f1 : Nat → List Int → Int → Int → Option ρ) (fin : Nat → List Int → Option ρ)
    (hA : ∀ k (u : Nat → Int) (i : Nat), 0 < i → i < n → C i u = true → f0 (k + 1) (LU n u) (i : Int) = f1 k (LU n u) (i : Int) 0)
    (hB : ∀ k (u : Nat → Int) (i : Nat), 0 < i → i < n → C i u = false → f0 (k + 1) (LU n u) (i : Int) = f0 k (LU n u) ((i - 1 : Nat) : Int))
    (hC : ∀ k v (x : Int), x ≤ 0 → f0 (k + 1) v x = fin k v)
    (h1 : ∀ k (x4 : List Int) (x5 x31 : Int), f1 (k + 1) x4 x5 x31 = if x31 < x5 then (if 0 ≤ x31 then (if x31 < (x4.length : Int) then (if 0 ≤ x5 then (if x5 < (x4.length : Int) then (if (rd x4 x31) > (rd x4 x5) then (f1 k (x4.set (x31 : Int).toNat (wrap64 ((rd x4 x31) - 1))) x5 (wrap64 (x31 + 1))) else (f1 k x4 x5 (wrap64 (x31 + 1)))) else (none)) else (none)) else (none)) else (none)) else (f0 k x4 (wrap64 (x5 - 1))))
    (u : Nat → Int) (R : ρ) (hR : Ev (fun k => fin k (LU n (uv n C u (n - 1)))) R) : Ev (fun k => f0 k (LU n u) (wrap64 ((n : Int) - 1))) R := by
  have inner : ∀ (i : Nat) (v : Nat → Int), 0 < i → i < n → Ev (fun k => f0 k (LU n (stp i (true = true) v)) ((i - 1 : Nat) : Int)) R → ∀ (d q : Nat), i - q = d → q ≤ i → Ev (fun k => f1 k (LU n (fun j => if j < q then stp i (true = true) v j else v j)) (i : Int) (q : Int)) R := by
    intro i v hi0 hi hF d
    induction d with
    | zero =>
      intro q hd hq
      obtain rfl : q = i := by omega
      refine Ev.step (fun k => h1 k _ _ _) (Ev_neg (by omega) ?_)
      rw [wrap_small (x := (q : Int) - 1) (by omega) (by omega), show (q : Int) - 1 = ((q - 1 : Nat) : Int) from by omega, show LU n (fun j => if j < q then stp q (true = true) v j else v j) = LU n (stp q (true = true) v) from mapN_congr (fun j hj => by
        by_cases c : j < q
        · rw [if_pos c]
        · rw [if_neg c, stp, if_neg (fun hh => c hh.2.1)])]
      exact hF
    | succ d ih =>
      intro q hd hq
      have next := ih (q + 1) (by omega) (by omega)
      refine Ev.step (fun k => h1 k _ _ _) (Ev_pos (by omega) (Ev_pos (by omega) (Ev_pos (by rw [LU_len]; omega) (Ev_pos (by omega) (Ev_pos (by rw [LU_len]; omega) ?_)))))
      rw [rd_nat, rd_nat, LU_get _ _ (by omega), LU_get _ _ (by omega), if_neg (Nat.lt_irrefl q), if_neg (show ¬ i < q by omega), wrap_succ (i := q) (by omega), Int.toNat_natCast]
      by_cases c : v q > v i
      · refine Ev_pos c ?_
        rw [show (LU n (fun j => if j < q then stp i (true = true) v j else v j)).set q (wrap64 (v q - 1)) = LU n (fun j => if j < q + 1 then stp i (true = true) v j else v j) from mapN_set n _ _ (by omega) _ (fun j hj => by
          by_cases e : j = q
          · rw [if_pos e, e, if_pos (by omega), stp, if_pos ⟨rfl, by omega, c⟩]
          · rw [if_neg e]
            by_cases e2 : j < q
            · rw [if_pos e2, if_pos (by omega)]
            · rw [if_neg e2, if_neg (by omega)])]
        exact next
      · refine Ev_neg c ?_
        rw [show LU n (fun j => if j < q then stp i (true = true) v j else v j) = LU n (fun j => if j < q + 1 then stp i (true = true) v j else v j) from mapN_congr (fun j hj => by
          by_cases e : j = q
          · rw [e, if_neg (by omega), if_pos (by omega), stp, if_neg (fun hh => c hh.2.2)]
          · by_cases e2 : j < q
            · rw [if_pos e2, if_pos (by omega)]
            · rw [if_neg e2, if_neg (by omega)])]
        exact next
  have main : ∀ (i : Nat), i < n → Ev (fun k => f0 k (LU n (uv n C u (n - 1 - i))) (i : Int)) R := by
    intro i
    induction i with
    | zero => intro _; exact Ev.step (fun k => hC k _ _ (by omega)) hR
    | succ i ih =>
      intro hi
      have next := ih (by omega)
      rw [show n - 1 - i = (n - 1 - (i + 1)) + 1 from by omega, uv, show n - 1 - (n - 1 - (i + 1)) = i + 1 from by omega] at next
      by_cases c : C (i + 1) (uv n C u (n - 1 - (i + 1))) = true
      · rw [c] at next
        have := inner (i + 1) _ (by omega) hi next (i + 1) 0 (by omega) (by omega)
        rw [show LU n (fun j => if j < 0 then stp (i + 1) (true = true) (uv n C u (n - 1 - (i + 1))) j else uv n C u (n - 1 - (i + 1)) j) = LU n (uv n C u (n - 1 - (i + 1))) from mapN_congr (fun j hj => if_neg (Nat.not_lt_zero j))] at this
        exact Ev.step (fun k => hA k _ _ (by omega) hi c) this
      · rw [show LU n (stp (i + 1) (C (i + 1) (uv n C u (n - 1 - (i + 1))) = true) (uv n C u (n - 1 - (i + 1)))) = LU n (uv n C u (n - 1 - (i + 1))) from mapN_congr (fun j hj => by rw [stp, if_neg (fun hh => c hh.1)])] at next
        exact Ev.step (fun k => hB k _ _ (by omega) hi (by simpa using c)) next
  rw [wrap_small (by omega) (by omega)]
  by_cases c : n = 0
  · subst c
    exact Ev.step (fun k => hC k _ _ (by omega)) hR
  · have := main (n - 1) (by omega)
    rw [show n - 1 - (n - 1) = 0 from by omega] at this
    rw [show (n : Int) - 1 = ((n - 1 : Nat) : Int) from by omega]
    exact this
/-- What modifying has made is undone, whichever of the two conditions is asked. -/
theorem uv_mod {a : List Int} (g : AscOk a) (C : Nat → (Nat → Int) → Bool) (hC : ∀ i u, 0 < i → i < a.length → (∀ k, k < a.length → u k = mv a (i + 1) k) → (C i u = true ↔ a.getD (i - 1) 0 < a.getD i 0)) :
    ∀ d, d + 1 ≤ a.length → ∀ k, k < a.length → uv a.length C (fun k => (modF a).getD k 0) d k = mv a (a.length - d) k
  | 0, _, k, hk => modF_get a hk
  | d + 1, hd, k, hk => by
    have ih := uv_mod g C hC d (by omega)
    have hl := g.1
    rw [uv, stp]
    obtain ⟨i, hi⟩ : ∃ i, a.length - 1 - d = i := ⟨_, rfl⟩
    rw [show a.length - d = i + 1 from by omega] at ih
    rw [show a.length - (d + 1) = i from by omega, hi, ih k hk, ih i (by omega), mv_top a i (i + 1) (by omega)]
    have hc := hC i (uv a.length C (fun k => (modF a).getD k 0) d) (by omega) (by omega) ih
    have hb := mv_bd g hk i
    by_cases c : a.getD (i - 1) 0 < a.getD i 0
    · by_cases c2 : k < i
      · by_cases c3 : a.getD i 0 ≤ mv a i k
        · have hm : mv a (i + 1) k = mv a i k + 1 := by
            rw [mv]; simp only []; rw [if_pos ⟨by omega, c, c2, c3⟩]
          rw [hm, if_pos ⟨hc.2 c, c2, by omega⟩, wrap_small (by omega) (by omega)]; omega
        · have hm : mv a (i + 1) k = mv a i k := by
            rw [mv]; simp only []; rw [if_neg (fun hh => c3 hh.2.2.2)]
          rw [hm, if_neg (fun hh => by omega)]
      · have hm : mv a (i + 1) k = mv a i k := by
          rw [mv]; simp only []; rw [if_neg (fun hh => c2 hh.2.2.1)]
        rw [hm, if_neg (fun hh => c2 hh.2.1)]
    · have hm : mv a (i + 1) k = mv a i k := by
        rw [mv]; simp only []; rw [if_neg (fun hh => c hh.2.1)]
      rw [hm, if_neg (fun hh => c (hc.1 hh.1))]
def CI (s : List Int) (i : Nat) (_ : Nat → Int) : Bool := decide (s.getD (i - 1) 0 < s.getD i 0)
def CS (i : Nat) (u : Nat → Int) : Bool := decide (u (i - 1) < u i)
def unI (s : List Int) : List Int := LU s.length (uv s.length (CI s) (fun k => s.getD k 0) (s.length - 1))
def unS (s : List Int) : List Int := LU s.length (uv s.length CS (fun k => s.getD k 0) (s.length - 1))
theorem LU_mv {a : List Int} (g : AscOk a) (C : Nat → (Nat → Int) → Bool) (hC : ∀ i u, 0 < i → i < a.length → (∀ k, k < a.length → u k = mv a (i + 1) k) → (C i u = true ↔ a.getD (i - 1) 0 < a.getD i 0)) : LU a.length (uv a.length C (fun k => (modF a).getD k 0) (a.length - 1)) = a := by
  refine ext_getD (LU_len _ _) (fun j hj => ?_)
  rw [LU_len] at hj
  rw [LU_get _ _ hj, uv_mod g C hC (a.length - 1) (by omega) j hj, show a.length - (a.length - 1) = 1 from by omega, mv_top a j 1 (by omega)]
theorem unI_mod {a : List Int} (g : AscOk a) : unI (modF a) = a := by
  unfold unI
  rw [modF_len]
  refine LU_mv g _ (fun i u h0 hi hu => ?_)
  unfold CI
  rw [decide_eq_true_iff, modF_get a hi, modF_get a (by omega)]
  exact mv_asc a h0 hi
theorem unS_mod {a : List Int} (g : AscOk a) : unS (modF a) = a := by
  unfold unS
  rw [modF_len]
  refine LU_mv g _ (fun i u h0 hi hu => ?_)
  unfold CS
  rw [decide_eq_true_iff, hu i hi, hu (i - 1) (by omega)]
  exact mv_asc a h0 (by omega)
def unR (s out : List Int) : List Int × Bool := if s.length ≤ 12 ∧ AscOk out ∧ modF out = s then (out, true) else ([], false)
theorem unR_same (s : List Int) : unR s (unI s) = unR s (unS s) := by
  unfold unR
  by_cases c : s.length ≤ 12 ∧ AscOk (unI s) ∧ modF (unI s) = s
  · have e : unS s = unI s := by
      have := unS_mod c.2.1
      rw [c.2.2] at this; exact this
    rw [e]
  · rw [if_neg c]
    by_cases c2 : s.length ≤ 12 ∧ AscOk (unS s) ∧ modF (unS s) = s
    · have e : unI s = unS s := by
        have := unI_mod c2.2.1
        rw [c2.2.2] at this; exact this
      rw [← e] at c2
      exact absurd c2 c
    · rw [if_neg c2]
open Classical in
theorem same_main (f : Nat → List Int → List Int → Int → Int → Option Bool)
    (hf : ∀ k (x0 x1 : List Int) (x12 x13 : Int), f (k + 1) x0 x1 x12 x13 = if x13 < x12 then (if 0 ≤ x13 then (if x13 < (x0.length : Int) then (if x13 < (x1.length : Int) then (if (rd x0 x13) = (rd x1 x13) then (f k x0 x1 x12 (wrap64 (x13 + 1))) else (some false)) else (none)) else (none)) else (none)) else (some true))
    (a b : List Int) (ha : a.length ≤ 1048576) (hl : a.length = b.length) : Ev (fun k => f k a b (a.length : Int) 0) (decide (a = b)) := by
  have main : ∀ (d i : Nat), a.length - i = d → i ≤ a.length → Ev (fun k => f k a b (a.length : Int) (i : Int)) (decide (∀ j, i ≤ j → j < a.length → a.getD j 0 = b.getD j 0)) := by
    intro d
    induction d with
    | zero =>
      intro i hd hi
      refine Ev.step (fun k => hf k _ _ _ _) (Ev_neg (by omega) (Ev_some ?_))
      rw [eq_comm, decide_eq_true_iff]; exact fun j h1 h2 => by omega
    | succ d ih =>
      intro i hd hi
      refine Ev.step (fun k => hf k _ _ _ _) (Ev_pos (by omega) (Ev_pos (by omega) (Ev_pos (by omega) (Ev_pos (by omega) ?_))))
      rw [rd_nat, rd_nat, wrap_succ (i := i) (by omega)]
      by_cases c : a.getD i 0 = b.getD i 0
      · refine Ev_pos c (Ev_eq (ih (i + 1) (by omega) (by omega)) (dec_eq ⟨fun h j h1 h2 => ?_, fun h j h1 h2 => h j (by omega) h2⟩))
        by_cases e : j = i
        · rw [e]; exact c
        · exact h j (by omega) h2
      · refine Ev_neg c (Ev_some ?_)
        rw [eq_comm, decide_eq_false_iff_not]; exact fun h => c (h i (Nat.le_refl _) (by omega))
  exact Ev_eq (main _ 0 rfl (Nat.zero_le _)) (dec_eq ⟨fun h => ext_getD hl (fun j hj => h j (Nat.zero_le _) hj), fun h j _ _ => by rw [h]⟩)
open Classical in
theorem equal_ev (a b : List Int) (ha : a.length ≤ 1048576) : Ev (fun k => slices_Equal_int_int.f k a b) (decide (a = b)) := by
  unfold slices_Equal_int_int.f
  by_cases hl : a.length = b.length
  · exact Ev_pos (by rw [hl]) (same_main (fun k => slices_Equal_int_int.l0 k) (fun _ _ _ _ _ => rfl) a b ha hl)
  · refine Ev_neg (by omega) (Ev_some ?_)
    rw [eq_comm, decide_eq_false_iff_not]; exact fun h => hl (by rw [h])
open Classical in
theorem l1Same_ev (a b : List Int) (ha : a.length ≤ 1048576) : Ev (fun k => spec_l1Same.f k a b) (decide (a = b)) := by
  unfold spec_l1Same.f
  by_cases hl : a.length = b.length
  · exact Ev_pos (by rw [hl]) (same_main (fun k => spec_l1Same.l0 k) (fun _ _ _ _ _ => rfl) a b ha hl)
  · refine Ev_neg (by omega) (Ev_some ?_)
    rw [eq_comm, decide_eq_false_iff_not]; exact fun h => hl (by rw [h])
theorem implUn_ev (s : List Int) (hs : s.length ≤ 1048576) : Ev (fun k => impl_UnmodifyAscent.f k s) (unR s (unI s)) := by
  unfold impl_UnmodifyAscent.f
  by_cases c : (s.length : Int) > 12
  · rw [unR, if_neg (fun h => by omega)]
    exact Ev_pos c (Ev_some rfl)
  refine Ev_neg c ?_
  show Ev (fun k => if ([] : List Int).length + s.length < 17592186044416 then impl_UnmodifyAscent.l0 k s ([] ++ s) (wrap64 ((s.length : Int) - 1)) else none) _
  refine Ev_pos (by simp; omega) ?_
  rw [List.nil_append]
  have key := undo_main s.length (by omega) (CI s) (fun k v x => impl_UnmodifyAscent.l0 k s v x) (fun k v x y => impl_UnmodifyAscent.l1 k s v x x y)
    (fun k x4 => (impl_IsAscent.f k x4).bind fun t216 => (if t216 = true then ((impl_modified.f k x4).bind fun t217 => ((slices_Equal_int_int.f k t217 s).bind fun t220 => (if t220 = true then (some (x4, true)) else (some (([] : List Int), false))))) else (some (([] : List Int), false))))
    (fun k u i h0 hi hc => by
      have hw : wrap64 ((i : Int) - 1) = ((i - 1 : Nat) : Int) := by rw [wrap_small (by omega) (by omega)]; omega
      show impl_UnmodifyAscent.l0 (k + 1) s _ _ = _
      rw [impl_UnmodifyAscent.l0, hw, if_pos (by omega), if_pos (by omega), if_pos (by omega), if_pos (by omega), if_pos (by omega), rd_nat, rd_nat, if_neg (by have := of_decide_eq_true hc; omega)])
    (fun k u i h0 hi hc => by
      have hw : wrap64 ((i : Int) - 1) = ((i - 1 : Nat) : Int) := by rw [wrap_small (by omega) (by omega)]; omega
      show impl_UnmodifyAscent.l0 (k + 1) s _ _ = _
      rw [impl_UnmodifyAscent.l0, hw, if_pos (by omega), if_pos (by omega), if_pos (by omega), if_pos (by omega), if_pos (by omega), rd_nat, rd_nat, if_pos (by have := of_decide_eq_false hc; omega)])
    (fun k v x hx => by
      show impl_UnmodifyAscent.l0 (k + 1) s _ _ = _
      rw [impl_UnmodifyAscent.l0, if_neg (by omega)])
    (fun k x4 x5 x31 => by
      show impl_UnmodifyAscent.l1 (k + 1) s _ _ _ _ = _
      rw [impl_UnmodifyAscent.l1])
    (fun k => s.getD k 0) (unR s (unI s)) (by
      show Ev (fun k => (impl_IsAscent.f k (unI s)).bind fun t216 => (if t216 = true then ((impl_modified.f k (unI s)).bind fun t217 => ((slices_Equal_int_int.f k t217 s).bind fun t220 => (if t220 = true then (some (unI s, true)) else (some (([] : List Int), false))))) else (some (([] : List Int), false)))) _
      have hu : (unI s).length = s.length := LU_len _ _
      refine Ev.bind (isAscent_ev (unI s) (by omega)) ?_
      by_cases g : AscOk (unI s)
      · refine Ev_pos (decide_eq_true g) (Ev.bind (implMod_ev (unI s) g) (Ev.bind (equal_ev _ _ (by rw [modF_len]; omega)) ?_))
        by_cases e : modF (unI s) = s
        · refine Ev_eq (Ev_pos (decide_eq_true e) (Ev_some rfl)) ?_; rw [unR, if_pos ⟨by omega, g, e⟩]
        · refine Ev_eq (Ev_neg (by simpa using e) (Ev_some rfl)) ?_; rw [unR, if_neg (fun h => e h.2.2)]
      · refine Ev_eq (Ev_neg (by simpa using g) (Ev_some rfl)) ?_; rw [unR, if_neg (fun h => g h.2.1)])
  rw [LU_self] at key
  exact key
theorem undoS_ev (s : List Int) (hs : s.length ≤ 100) : Ev (fun k => spec_asUndo.f k s) (unS s) := by
  unfold spec_asUndo.f
  refine Ev_val (own_eq s (by omega)) ?_
  have key := undo_main s.length (by omega) CS (fun k v x => spec_asUndo.l0 k v x) (fun k v x y => spec_asUndo.l1 k v x y) (fun _ v => some v)
    (fun k u i h0 hi hc => by
      have hw : wrap64 ((i : Int) - 1) = ((i - 1 : Nat) : Int) := by rw [wrap_small (by omega) (by omega)]; omega
      show spec_asUndo.l0 (k + 1) _ _ = _
      rw [spec_asUndo.l0, hw, LU_len, if_pos (by omega), if_pos (by omega), if_pos (by omega), if_pos (by omega), if_pos (by omega), rd_nat, rd_nat, LU_get _ _ (by omega), LU_get _ _ hi, if_pos (of_decide_eq_true hc)])
    (fun k u i h0 hi hc => by
      have hw : wrap64 ((i : Int) - 1) = ((i - 1 : Nat) : Int) := by rw [wrap_small (by omega) (by omega)]; omega
      show spec_asUndo.l0 (k + 1) _ _ = _
      rw [spec_asUndo.l0, hw, LU_len, if_pos (by omega), if_pos (by omega), if_pos (by omega), if_pos (by omega), if_pos (by omega), rd_nat, rd_nat, LU_get _ _ (by omega), LU_get _ _ hi, if_neg (of_decide_eq_false hc)])
    (fun k v x hx => by
      show spec_asUndo.l0 (k + 1) _ _ = _
      rw [spec_asUndo.l0, if_neg (by omega)])
    (fun k x4 x5 x31 => by
      show spec_asUndo.l1 (k + 1) _ _ _ = _
      rw [spec_asUndo.l1])
    (fun k => s.getD k 0) (unS s) (Ev_some rfl)
  rw [LU_self] at key
  exact key
theorem modF_all {a : List Int} (g : AscOk a) : ∀ x ∈ modF a, 0 ≤ x ∧ x ≤ 12 := by
  intro x hx
  obtain ⟨k, hk, rfl⟩ := List.mem_map.1 hx
  rw [List.mem_range] at hk
  have h1 := mv_le g a.length (Nat.le_refl _) k hk
  have h2 := (mv_bd g hk a.length).1
  have := ascN_le a a.length
  have := g.1
  exact ⟨h2, by omega⟩
theorem specUn_ev (s : List Int) (hs : s.length ≤ 1048576) : Ev (fun k => spec_UnmodifyAscent.f k s) (unR s (unI s)) := by
  rw [unR_same]
  unfold spec_UnmodifyAscent.f
  by_cases c : (s.length : Int) > 12
  · rw [unR, if_neg (fun h => by omega)]
    exact Ev_pos c (Ev.step (fun k => by rw [spec_UnmodifyAscent.j0]) (Ev_pos rfl (Ev_some rfl)))
  refine Ev_neg c (Ev.bind (l1All_ev s 0 12 (by omega)) ?_)
  by_cases ha : ∀ j, j < s.length → (0 : Int) ≤ s.getD j 0 ∧ s.getD j 0 ≤ 12
  · rw [decide_eq_true ha]
    refine Ev.step (fun k => by rw [spec_UnmodifyAscent.j0]) (Ev_neg (by simp) (Ev.bind (undoS_ev s (by omega)) ?_))
    have hu : (unS s).length = s.length := LU_len _ _
    refine Ev.bind (asGood_ev (unS s) (by omega)) ?_
    by_cases g : AscOk (unS s)
    · refine Ev_pos (decide_eq_true g) (Ev.bind (specMod_ev (unS s) g) (Ev.bind (l1Same_ev _ _ (by rw [modF_len]; omega)) ?_))
      by_cases e : modF (unS s) = s
      · refine Ev_eq (Ev_pos (decide_eq_true e) (Ev_some rfl)) ?_; rw [unR, if_pos ⟨by omega, g, e⟩]
      · refine Ev_eq (Ev_neg (by simpa using e) (Ev_some rfl)) ?_; rw [unR, if_neg (fun h => e h.2.2)]
    · refine Ev_eq (Ev_neg (by simpa using g) (Ev_some rfl)) ?_; rw [unR, if_neg (fun h => g h.2.1)]
  · rw [decide_eq_false ha, unR, if_neg (fun h => ha (fun j hj => by
      rw [getD_lt s j 0 hj]
      exact modF_all h.2.1 _ (by rw [h.2.2]; exact List.getElem_mem hj)))]
    exact Ev.step (fun k => by rw [spec_UnmodifyAscent.j0]) (Ev_pos (show (!false) = true from rfl) (Ev_some rfl))
/-- The different numbers of a list. -/
theorem comp_inv (d : Array Int) (hs : ∀ i j, i ≤ j → j < d.size → d[i]! ≤ d[j]!) : ∀ m, m ≤ d.size → (Lib.compactUpTo d m).Pairwise (· < ·) ∧ (∀ x, x ∈ Lib.compactUpTo d m ↔ ∃ j, j < m ∧ d[j]! = x)
  | 0, _ => ⟨by simp [Lib.compactUpTo], fun x => by simp [Lib.compactUpTo]⟩
  | m + 1, h => by
    obtain ⟨h1, h2⟩ := comp_inv d hs m (by omega)
    rw [Lib.compactUpTo_succ]
    by_cases c : m = 0 ∨ d[m]! ≠ d[m - 1]!
    · have hk : Lib.keeps d m = true := by unfold Lib.keeps; exact decide_eq_true c
      rw [if_pos hk]
      refine ⟨List.pairwise_append.2 ⟨h1, List.pairwise_singleton _ _, fun x hx y hy => ?_⟩, fun x => ?_⟩
      · obtain ⟨j, hj, rfl⟩ := (h2 x).1 hx
        rw [List.mem_singleton.1 hy]
        have h3 := hs j (m - 1) (by omega) (by omega)
        have h4 := hs (m - 1) m (by omega) (by omega)
        have h5 : d[m]! ≠ d[m - 1]! := c.resolve_left (by omega)
        omega
      · rw [List.mem_append, h2, List.mem_singleton]
        refine ⟨fun hh => ?_, fun ⟨j, hj, e⟩ => ?_⟩
        · rcases hh with ⟨j, hj, e⟩ | e
          · exact ⟨j, by omega, e⟩
          · exact ⟨m, by omega, e.symm⟩
        · by_cases e2 : j = m
          · exact .inr (by rw [← e, e2])
          · exact .inl ⟨j, by omega, e⟩
    · have hk : Lib.keeps d m = false := by unfold Lib.keeps; exact decide_eq_false c
      rw [if_neg (by rw [hk]; simp), List.append_nil]
      refine ⟨h1, fun x => ?_⟩
      rw [h2]
      refine ⟨fun ⟨j, hj, e⟩ => ⟨j, by omega, e⟩, fun ⟨j, hj, e⟩ => ?_⟩
      by_cases e2 : j = m
      · have h5 : d[m]! = d[m - 1]! := Classical.byContradiction fun hh => c (.inr hh)
        exact ⟨m - 1, by omega, by rw [← e, e2, h5]⟩
      · exact ⟨j, by omega, e⟩
theorem dif_inv (L : List Int) : (impl_different.dif L).Pairwise (· < ·) ∧ ∀ x, x ∈ impl_different.dif L ↔ x ∈ L := by
  unfold impl_different.dif Lib.compact
  have hp := List.mergeSort_perm L (fun x y => decide (x ≤ y))
  have hsrt := List.pairwise_mergeSort (le := fun x y : Int => decide (x ≤ y)) (fun a b c h1 h2 => by simp at h1 h2 ⊢; omega) (fun a b => by simp; omega) L
  revert hp hsrt
  generalize (L.mergeSort fun x y => decide (x ≤ y)) = M
  intro hp hsrt
  have hs : ∀ i j, i ≤ j → j < M.toArray.size → M.toArray[i]! ≤ M.toArray[j]! := by
    intro i j hij hj
    have hj' : j < M.length := by simpa using hj
    by_cases e : i = j
    · rw [e]; exact Int.le_refl _
    · have := List.pairwise_iff_getElem.1 hsrt i j (by omega) hj' (by omega)
      simp only [decide_eq_true_eq] at this
      have e1 : M.toArray[i]! = M[i] := by simp [getElem!_pos, show i < M.length by omega]
      have e2 : M.toArray[j]! = M[j] := by simp [getElem!_pos, hj']
      rw [e1, e2]; exact this
  obtain ⟨h1, h2⟩ := comp_inv M.toArray hs M.length (by simp)
  refine ⟨h1, fun x => ?_⟩
  rw [h2, ← hp.mem_iff]
  refine ⟨fun ⟨j, hj, e⟩ => ?_, fun hx => ?_⟩
  · have e1 : M.toArray[j]! = M[j] := by simp [getElem!_pos, hj]
    rw [← e, e1]; exact List.getElem_mem hj
  · obtain ⟨j, hj, rfl⟩ := List.getElem_of_mem hx
    exact ⟨j, hj, by simp [getElem!_pos, hj]⟩
theorem dif_len (L : List Int) (K : Nat) (h : ∀ x : Int, x ∈ L ↔ 0 ≤ x ∧ x < (K : Int)) : (impl_different.dif L).length = K := by
  obtain ⟨h1, h2⟩ := dif_inv L
  have hn : (impl_different.dif L).Nodup := h1.imp (fun hlt he => by omega)
  have hr : ((List.range K).map fun (i : Nat) => (i : Int)).Nodup := List.Pairwise.map _ (fun a b hab => by omega) List.nodup_range
  have hperm := (List.perm_ext_iff_of_nodup hn hr).2 (fun x => by
    rw [h2, h, List.mem_map]
    refine ⟨fun ⟨a, b⟩ => ⟨x.toNat, List.mem_range.2 (by omega), by omega⟩, fun ⟨n, hn, e⟩ => ?_⟩
    rw [List.mem_range] at hn
    omega)
  rw [hperm.length_eq, List.length_map, List.length_range]
/-- What the intervals are when the numbers before place i have been gone through. -/
structure IvInv (a : List Int) (i : Nat) (I : List S62) : Prop where
  len : I.length = i
  left : ∀ j, j < i → (rd_T62 I (j : Int)).f0 = mv a i j
  right : ∀ j, j < i → (rd_T62 I (j : Int)).f1 ≤ (ascN a i : Int)
  low : ∀ j, j < i → 0 ≤ (rd_T62 I (j : Int)).f1
  last : 0 < i → (rd_T62 I ((i - 1 : Nat) : Int)).f1 = (ascN a i : Int)
  least : ∀ j, j < i → (rd_T62 I (j : Int)).f1 = (ascN a i : Int) → a.getD (i - 1) 0 ≤ (rd_T62 I (j : Int)).f0
theorem rdT_nat (I : List S62) (j : Nat) : rd_T62 I (j : Int) = I.getD j z62 := by unfold rd_T62; rw [Int.toNat_natCast]
theorem getD_app {α : Type} (l : List α) (x z : α) (j : Nat) : (l ++ [x]).getD j z = if j < l.length then l.getD j z else if j = l.length then x else z := by
  rw [List.getD_eq_getElem?_getD, List.getD_eq_getElem?_getD, List.getElem?_append]
  by_cases c : j < l.length
  · rw [if_pos c, if_pos c]
  · rw [if_neg c, if_neg c]
    by_cases c2 : j = l.length
    · rw [if_pos c2, c2, Nat.sub_self]; rfl
    · rw [if_neg c2]
      rw [List.getElem?_eq_none (by simp; omega)]; rfl
theorem getD_put {α : Type} (l : List α) (x z : α) (q j : Nat) (hq : q < l.length) : (l.set q x).getD j z = if j = q then x else l.getD j z := by
  rw [List.getD_eq_getElem?_getD, List.getElem?_set]
  by_cases c : q = j
  · rw [if_pos c, if_pos hq, if_pos c.symm]; rfl
  · rw [if_neg c, if_neg (fun h => c h.symm), ← List.getD_eq_getElem?_getD]
def lefts (I : List S62) (q : Nat) : List Int := (List.range q).map fun (j : Nat) => (rd_T62 I (j : Int)).f0
theorem lefts_succ (I : List S62) (q : Nat) : lefts I (q + 1) = lefts I q ++ [(rd_T62 I (q : Int)).f0] := by simp [lefts, List.range_succ]
theorem lefts_len (I : List S62) (q : Nat) : (lefts I q).length = q := by simp [lefts]
/-- The right end of an interval when m begins a level of its own among K. -/
def rgt (m K : Int) (x : S62) : Int := if x.f1 < m then x.f1 else if x.f1 = K - 1 ∧ x.f0 < m then m else x.f1 + 1
def bld (m K : Int) (x : S62) : S62 := ⟨if x.f0 ≥ m then x.f0 + 1 else x.f0, rgt m K x⟩
theorem build_l2 (I : List S62) (m K : Int) (hI : I.length ≤ 20) (hK : 0 ≤ K ∧ K ≤ 100) (hm : 0 ≤ m ∧ m ≤ 100) (hb : ∀ j, j < I.length → 0 ≤ (rd_T62 I (j : Int)).f0 ∧ (rd_T62 I (j : Int)).f0 ≤ 100 ∧ 0 ≤ (rd_T62 I (j : Int)).f1 ∧ (rd_T62 I (j : Int)).f1 ≤ 100) :
    ∀ (d q : Nat) (O : List S62), I.length - q = d → q ≤ I.length → O.length = I.length → (∀ j, j < I.length → O.getD j z62 = if j < q then bld m K (I.getD j z62) else I.getD j z62) →
      ∃ O', Ev (fun k => impl_build.l2 k m K O I (I.length : Int) (q : Int)) (O' ++ [(⟨m, K⟩ : S62)]) ∧ O'.length = I.length ∧ ∀ j, j < I.length → O'.getD j z62 = bld m K (I.getD j z62) := by
  intro d
  induction d with
  | zero =>
    intro q O hd hq hO hg
    obtain rfl : q = I.length := by omega
    refine ⟨O, Ev.step (fun k => by rw [impl_build.l2]) (Ev_neg (by omega) (Ev_pos (by omega) (Ev_some rfl))), hO, fun j hj => by rw [hg j hj, if_pos hj]⟩
  | succ d ih =>
    intro q O hd hq hO hg
    have hql : q < I.length := by omega
    have hx := hb q hql
    have hOq : rd_T62 O (q : Int) = rd_T62 I (q : Int) := by rw [rdT_nat, rdT_nat, hg q hql, if_neg (Nat.lt_irrefl q)]
    obtain ⟨x, hxe⟩ : ∃ x, x = rd_T62 I (q : Int) := ⟨_, rfl⟩
    have hxi : I.getD q z62 = x := by rw [hxe, rdT_nat]
    rw [← hxe] at hx hOq
    have hw := wrap_succ (i := q) (by omega)
    have wK : wrap64 (K - 1) = K - 1 := wrap_small (by omega) (by omega)
    have w0 : wrap64 (x.f0 + 1) = x.f0 + 1 := wrap_small (by omega) (by omega)
    have w1 : wrap64 (x.f1 + 1) = x.f1 + 1 := wrap_small (by omega) (by omega)
    have step : ∀ y : S62, y = bld m K x → ∃ O', Ev (fun k => impl_build.l2 k m K (O.set q y) I (I.length : Int) ((q + 1 : Nat) : Int)) (O' ++ [(⟨m, K⟩ : S62)]) ∧ O'.length = I.length ∧ ∀ j, j < I.length → O'.getD j z62 = bld m K (I.getD j z62) := by
      intro y hy
      refine ih (q + 1) (O.set q y) (by omega) (by omega) (by rw [List.length_set]; exact hO) (fun j hj => ?_)
      rw [getD_put O y z62 q j (by omega)]
      by_cases c : j = q
      · rw [if_pos c, c, if_pos (by omega), hxi, hy]
      · rw [if_neg c, hg j hj]
        by_cases c2 : j < q
        · rw [if_pos c2, if_pos (by omega)]
        · rw [if_neg c2, if_neg (by omega)]
    have stay : x = bld m K x → ∃ O', Ev (fun k => impl_build.l2 k m K O I (I.length : Int) ((q + 1 : Nat) : Int)) (O' ++ [(⟨m, K⟩ : S62)]) ∧ O'.length = I.length ∧ ∀ j, j < I.length → O'.getD j z62 = bld m K (I.getD j z62) := by
      intro hy
      refine ih (q + 1) O (by omega) (by omega) hO (fun j hj => ?_)
      rw [hg j hj]
      by_cases c : j = q
      · rw [c, if_neg (Nat.lt_irrefl q), if_pos (by omega), hxi]; exact hy
      · by_cases c2 : j < q
        · rw [if_pos c2, if_pos (by omega)]
        · rw [if_neg c2, if_neg (by omega)]
    have head : ∀ (O' : List S62), (Ev (fun k => if x.f1 < m then (if x.f0 ≥ m then (if (q : Int) < (O.length : Int) then (impl_build.l2 k m K (O.set q (⟨x.f0 + 1, x.f1⟩ : S62)) I (I.length : Int) ((q + 1 : Nat) : Int)) else (none)) else (impl_build.l2 k m K O I (I.length : Int) ((q + 1 : Nat) : Int))) else (if x.f1 = K - 1 then (impl_build.j3 k m K O (q : Int) I (I.length : Int) (q : Int) (decide (x.f0 < m)) x.f0 x.f1) else (impl_build.j3 k m K O (q : Int) I (I.length : Int) (q : Int) false x.f0 x.f1))) (O' ++ [(⟨m, K⟩ : S62)])) →
        Ev (fun k => impl_build.l2 k m K O I (I.length : Int) (q : Int)) (O' ++ [(⟨m, K⟩ : S62)]) := by
      intro O' h
      refine Ev.step (fun k => by rw [impl_build.l2]) (Ev_pos (by omega) (Ev_pos (by omega) (Ev_pos (by omega) ?_)))
      rw [← hxe, hOq, hw, wK, w0, Int.toNat_natCast]
      exact h
    by_cases c1 : x.f1 < m
    · by_cases c2 : x.f0 ≥ m
      · obtain ⟨O', h1, h2, h3⟩ := step ⟨x.f0 + 1, x.f1⟩ (by unfold bld rgt; rw [if_pos c2, if_pos c1])
        exact ⟨O', head O' (Ev_pos c1 (Ev_pos c2 (Ev_pos (by omega) h1))), h2, h3⟩
      · obtain ⟨O', h1, h2, h3⟩ := stay (by unfold bld rgt; rw [if_neg c2, if_pos c1])
        exact ⟨O', head O' (Ev_pos c1 (Ev_neg c2 h1)), h2, h3⟩
    · have put : ∀ (b : Bool), (if b = true then m else x.f1 + 1) = rgt m K x → ∃ O', Ev (fun k => impl_build.j3 k m K O (q : Int) I (I.length : Int) (q : Int) b x.f0 x.f1) (O' ++ [(⟨m, K⟩ : S62)]) ∧ O'.length = I.length ∧ ∀ j, j < I.length → O'.getD j z62 = bld m K (I.getD j z62) := by
        intro b hr
        have put1 : ∃ O', Ev (fun k => (some (O.set q (⟨x.f0, rgt m K x⟩ : S62) : List S62)).bind fun y278 => (if x.f0 ≥ m then (impl_build.l2 k m K (y278.set q (⟨wrap64 ((rd_T62 y278 (q : Int)).f0 + 1), (rd_T62 y278 (q : Int)).f1⟩ : S62)) I (I.length : Int) ((q + 1 : Nat) : Int)) else (impl_build.l2 k m K y278 I (I.length : Int) ((q + 1 : Nat) : Int)))) (O' ++ [(⟨m, K⟩ : S62)]) ∧ O'.length = I.length ∧ ∀ j, j < I.length → O'.getD j z62 = bld m K (I.getD j z62) := by
          have hrd : rd_T62 (O.set q (⟨x.f0, rgt m K x⟩ : S62)) (q : Int) = ⟨x.f0, rgt m K x⟩ := by rw [rdT_nat, getD_put O _ _ q q (by omega), if_pos rfl]
          by_cases c2 : x.f0 ≥ m
          · obtain ⟨O', h1, h2, h3⟩ := step ⟨x.f0 + 1, rgt m K x⟩ (by unfold bld; rw [if_pos c2])
            refine ⟨O', Ev_val rfl (Ev_pos c2 ?_), h2, h3⟩
            rw [hrd]
            simp only []
            rw [w0, List.set_set]
            exact h1
          · obtain ⟨O', h1, h2, h3⟩ := step ⟨x.f0, rgt m K x⟩ (by unfold bld; rw [if_neg c2])
            exact ⟨O', Ev_val rfl (Ev_neg c2 h1), h2, h3⟩
        obtain ⟨O', h, h2, h3⟩ := put1
        refine ⟨O', ?_, h2, h3⟩
        cases b with
        | true =>
          rw [if_pos rfl] at hr
          refine Ev.step (fun k => by rw [impl_build.j3]) (Ev_pos (show true = true from rfl) (Ev_pos (by omega) (Ev_pos (by omega) ?_)))
          rw [hOq, hw, Int.toNat_natCast]; rw [← hr] at h; exact h
        | false =>
          rw [if_neg Bool.false_ne_true] at hr
          refine Ev.step (fun k => by rw [impl_build.j3]) (Ev_neg Bool.false_ne_true (Ev_pos (by omega) (Ev_pos (by omega) ?_)))
          rw [hOq, hw, w1, Int.toNat_natCast]; rw [← hr] at h; exact h
      by_cases c2 : x.f1 = K - 1
      · obtain ⟨O', h1, h2, h3⟩ := put (decide (x.f0 < m)) (by
          unfold rgt
          rw [if_neg c1]
          by_cases c3 : x.f0 < m
          · rw [decide_eq_true c3, if_pos rfl, if_pos ⟨c2, c3⟩]
          · rw [decide_eq_false c3, if_neg Bool.false_ne_true, if_neg (fun h => c3 h.2)])
        exact ⟨O', head O' (Ev_neg c1 (Ev_pos c2 h1)), h2, h3⟩
      · obtain ⟨O', h1, h2, h3⟩ := put false (by unfold rgt; rw [if_neg c1, if_neg Bool.false_ne_true, if_neg (fun h => c2 h.1)])
        exact ⟨O', head O' (Ev_neg c1 (Ev_neg c2 h1)), h2, h3⟩
theorem IvInv.bds {a : List Int} (g : AscOk a) {i : Nat} (hi : i ≤ a.length) {I : List S62} (h : IvInv a i I) : ∀ j, j < I.length → 0 ≤ (rd_T62 I (j : Int)).f0 ∧ (rd_T62 I (j : Int)).f0 ≤ 100 ∧ 0 ≤ (rd_T62 I (j : Int)).f1 ∧ (rd_T62 I (j : Int)).f1 ≤ 100 := by
  intro j hj
  rw [h.len] at hj
  have h1 := mv_bd g (k := j) (by omega) i
  have := g.1
  have := ascN_le a i
  have h2 := h.right j hj
  have h3 := h.low j hj
  rw [h.left j hj]
  omega
theorem build_inv (a : List Int) (g : AscOk a) (i : Nat) (hi : i < a.length) (I : List S62) (h : IvInv a i I) : ∃ I', Ev (fun k => impl_build.f k I (a.getD i 0)) I' ∧ IvInv a (i + 1) I' := by
  have hl := g.1
  have hlen := h.len
  have hbd := h.bds g (by omega)
  obtain ⟨m, hm⟩ : ∃ m, m = a.getD i 0 := ⟨_, rfl⟩
  have hm0 := g.at_ hi
  have hmb := (g.2 i hi).2
  have hasc := ascN_le a i
  rw [← hm] at hm0 hmb ⊢
  -- the levels are counted
  have l0 : ∀ (R : List S62), Ev (fun k => (impl_different.f (lefts I I.length)).bind fun t257 => (if (t257.length : Int) = 0 then (some (([(⟨0, 0⟩ : S62)] : List S62))) else (impl_build.l1 k I m (t257.length : Int) (t257.length : Int) I (I.length : Int) 0))) R →
      ∀ (d q : Nat), I.length - q = d → q ≤ I.length → Ev (fun k => impl_build.l0 k I m (lefts I q) I (I.length : Int) (q : Int)) R := by
    intro R hR d
    induction d with
    | zero =>
      intro q hd hq
      obtain rfl : q = I.length := by omega
      exact Ev.step (fun k => by rw [impl_build.l0]) (Ev_neg (by omega) hR)
    | succ d ih =>
      intro q hd hq
      have next := ih (q + 1) (by omega) (by omega)
      refine Ev.step (fun k => by rw [impl_build.l0]) (Ev_pos (by omega) (Ev_pos (by omega) (Ev_pos (by omega) (Ev_pos (by rw [lefts_len]; omega) ?_))))
      rw [wrap_succ (i := q) (by omega), ← lefts_succ]
      exact next
  have hdf : impl_different.f (lefts I I.length) = some (impl_different.dif (lefts I I.length)) := by
    unfold impl_different.f
    rw [if_pos (by rw [lefts_len]; omega)]
  by_cases e0 : i = 0
  · subst e0
    have hz : I = [] := List.eq_nil_of_length_eq_zero hlen
    have ha0 : m = 0 := by unfold bndA at hmb; rw [if_pos rfl] at hmb; omega
    have hd0 : (impl_different.dif (lefts I I.length)).length = 0 := dif_len _ 0 (fun x => by rw [hz]; simp [lefts])
    have hn : ascN a (0 + 1) = 0 := by rw [ascN, if_neg (fun hh => absurd hh.1 (by omega))]; rfl
    refine ⟨[⟨0, 0⟩], ?_, ⟨rfl, fun j hj => ?_, fun j hj => ?_, fun j hj => ?_, fun _ => ?_, fun j hj _ => ?_⟩⟩
    · unfold impl_build.f
      exact l0 _ (Ev_val hdf (Ev_pos (by omega) (Ev_some rfl))) I.length 0 (by omega) (by omega)
    all_goals (try obtain rfl : j = 0 := by omega)
    · rw [mv_top a 0 1 (by omega), ← hm, ha0]; rfl
    · rw [hn]; exact Int.le_refl _
    · exact Int.le_refl _
    · rw [hn]; rfl
    · show a.getD 0 0 ≤ 0; rw [← hm, ha0]; exact Int.le_refl _
  have hmb2 : m ≤ (ascN a i : Int) + 1 := by unfold bndA at hmb; rw [if_neg e0] at hmb; exact hmb
  obtain ⟨p, hp⟩ : ∃ p, p = a.getD (i - 1) 0 := ⟨_, rfl⟩
  obtain ⟨K, hK⟩ : ∃ K : Int, K = (ascN a i : Int) + 1 := ⟨_, rfl⟩
  have hdl : ((impl_different.dif (lefts I I.length)).length : Int) = K := by
    have hd1 := dif_len (lefts I I.length) (ascN a i + 1) (fun x => by
      have h2 := mv_all g i (by omega) (by omega) x
      rw [lefts, List.mem_map]
      constructor
      · rintro ⟨j, hj, e⟩
        rw [List.mem_range, hlen] at hj
        have := h2.1 ⟨j, hj, by rw [← e]; exact (h.left j hj).symm⟩
        omega
      · intro hx
        obtain ⟨j, hj, e⟩ := h2.2 (by omega)
        exact ⟨j, List.mem_range.2 (by omega), by rw [h.left j hj]; exact e⟩)
    rw [hd1, hK]; rfl
  have hpl : (rd_T62 I ((i - 1 : Nat) : Int)).f0 = p := by rw [h.left (i - 1) (by omega), mv_top a (i - 1) i (by omega), hp]
  have hpr := h.last (by omega)
  have hpK : p ≤ (ascN a i : Int) := by
    have := mv_le g i (by omega) (i - 1) (by omega)
    rw [mv_top a (i - 1) i (by omega), ← hp] at this; exact this
  have hp0 := (g.at_ (show i - 1 < a.length by omega)).1
  rw [← hp] at hp0
  have wK : wrap64 (K - 1) = K - 1 := wrap_small (by omega) (by omega)
  have hlow := h.least
  rw [← hp] at hlow
  have l1 : ∀ (R : List S62), Ev (fun k => (impl_Interval.f I).bind fun t265 => (if m ≤ p then (if t265.length < 8796093022208 then (some (t265 ++ [(⟨m, K - 1⟩ : S62)])) else (none)) else (impl_build.l2 k m K t265 I (I.length : Int) 0))) R →
      ∀ (d q : Nat) (c : Int), I.length - q = d → q ≤ I.length → p ≤ c → (i - 1 < q → c ≤ p) → Ev (fun k => impl_build.l1 k I m c K I (I.length : Int) (q : Int)) R := by
    intro R hR d
    induction d with
    | zero =>
      intro q c hd hq hc1 hc2
      obtain rfl : q = I.length := by omega
      obtain rfl : c = p := by have := hc2 (by omega); omega
      refine Ev.step (fun k => by rw [impl_build.l1]) (Ev_neg (by omega) ?_)
      rw [wK]
      exact hR
    | succ d ih =>
      intro q c hd hq hc1 hc2
      refine Ev.step (fun k => by rw [impl_build.l1]) (Ev_pos (by omega) (Ev_pos (by omega) (Ev_pos (by omega) ?_)))
      rw [wK, wrap_succ (i := q) (by omega)]
      by_cases c3 : (rd_T62 I (q : Int)).f1 = K - 1
      · refine Ev_pos c3 ?_
        have h4 := hlow q (by omega) (by omega)
        refine ih (q + 1) _ (by omega) (by omega) ?_ (fun hh => ?_)
        · unfold mn; split <;> omega
        · by_cases e : q = i - 1
          · rw [e, hpl]; unfold mn; split <;> omega
          · have := hc2 (by omega); unfold mn; split <;> omega
      · refine Ev_neg c3 (ih (q + 1) c (by omega) (by omega) hc1 (fun hh => ?_))
        by_cases e : q = i - 1
        · rw [e] at c3; omega
        · exact hc2 (by omega)
  have hcl : impl_Interval.f I = some I := by unfold impl_Interval.f; rw [if_pos (by omega)]
  have start : ∀ R, Ev (fun k => (impl_Interval.f I).bind fun t265 => (if m ≤ p then (if t265.length < 8796093022208 then (some (t265 ++ [(⟨m, K - 1⟩ : S62)])) else (none)) else (impl_build.l2 k m K t265 I (I.length : Int) 0))) R → Ev (fun k => impl_build.f k I m) R := by
    intro R hR
    unfold impl_build.f
    refine l0 _ (Ev_val hdf (Ev_neg (by omega) ?_)) I.length 0 (by omega) (by omega)
    rw [hdl]
    exact l1 R hR I.length 0 K (by omega) (by omega) (by omega) (fun hh => by omega)
  by_cases c : m ≤ p
  · have hcn : ¬ (0 < i ∧ a.getD (i - 1) 0 < a.getD i 0) := fun hh => by have := hh.2; omega
    have hn : ascN a (i + 1) = ascN a i := by rw [ascN, if_neg hcn]; rfl
    have hmv : ∀ j, j < i → mv a (i + 1) j = mv a i j := fun j hj => by rw [mv]; simp only []; rw [if_neg (fun hh => hcn ⟨hh.1, hh.2.1⟩)]
    have hg : ∀ j, j < i + 1 → rd_T62 (I ++ [⟨m, K - 1⟩]) (j : Int) = if j < i then rd_T62 I (j : Int) else ⟨m, K - 1⟩ := fun j hj => by
      rw [rdT_nat, rdT_nat, getD_app, hlen]
      by_cases e : j < i
      · rw [if_pos e, if_pos e]
      · rw [if_neg e, if_neg e, if_pos (by omega)]
    refine ⟨I ++ [⟨m, K - 1⟩], start _ (Ev_val hcl (Ev_pos c (Ev_pos (by omega) (Ev_some rfl)))), ⟨by rw [List.length_append, hlen]; rfl, fun j hj => ?_, fun j hj => ?_, fun j hj => ?_, fun _ => ?_, fun j hj => ?_⟩⟩
    · rw [hg j hj]
      by_cases e : j < i
      · rw [if_pos e, hmv j e, h.left j e]
      · obtain rfl : j = i := by omega
        rw [if_neg e, mv_top a j (j + 1) (by omega), ← hm]
    · rw [hg j hj, hn]
      by_cases e : j < i
      · rw [if_pos e]; exact h.right j e
      · rw [if_neg e]; show K - 1 ≤ _; omega
    · rw [hg j hj]
      by_cases e : j < i
      · rw [if_pos e]; exact h.low j e
      · rw [if_neg e]; show 0 ≤ K - 1; omega
    · rw [show i + 1 - 1 = i from rfl, hg i (by omega), if_neg (Nat.lt_irrefl i), hn]; show K - 1 = _; omega
    · rw [hg j hj, hn, show i + 1 - 1 = i from rfl, ← hm]
      by_cases e : j < i
      · rw [if_pos e]; intro hh; have := hlow j e hh; omega
      · rw [if_neg e]; intro _; exact Int.le_refl _
  · have hcn : 0 < i ∧ a.getD (i - 1) 0 < a.getD i 0 := ⟨by omega, by omega⟩
    have hn : (ascN a (i + 1) : Int) = K := by rw [ascN, if_pos hcn, hK]; rfl
    obtain ⟨O', h1, h2, h3⟩ := build_l2 I m K (by omega) (by omega) (by omega) hbd I.length 0 I (by omega) (by omega) rfl (fun j hj => by rw [if_neg (Nat.not_lt_zero j)])
    have hg : ∀ j, j < i + 1 → rd_T62 (O' ++ [⟨m, K⟩]) (j : Int) = if j < i then bld m K (rd_T62 I (j : Int)) else ⟨m, K⟩ := fun j hj => by
      rw [rdT_nat, rdT_nat, getD_app, h2, hlen]
      by_cases e : j < i
      · rw [if_pos e, if_pos e, h3 j (by omega)]
      · rw [if_neg e, if_neg e, if_pos (by omega)]
    refine ⟨O' ++ [⟨m, K⟩], start _ (Ev_val hcl (Ev_neg c h1)), ⟨by rw [List.length_append, h2, hlen]; rfl, fun j hj => ?_, fun j hj => ?_, fun j hj => ?_, fun _ => ?_, fun j hj => ?_⟩⟩
    · rw [hg j hj]
      by_cases e : j < i
      · rw [if_pos e, mv]
        simp only []
        show (if (rd_T62 I (j : Int)).f0 ≥ m then (rd_T62 I (j : Int)).f0 + 1 else (rd_T62 I (j : Int)).f0) = _
        rw [h.left j e]
        by_cases c2 : mv a i j ≥ m
        · rw [if_pos c2, if_pos ⟨hcn.1, hcn.2, e, by omega⟩]
        · rw [if_neg c2, if_neg (fun hh => c2 (by have := hh.2.2.2; omega))]
      · obtain rfl : j = i := by omega
        rw [if_neg e, mv_top a j (j + 1) (by omega), ← hm]
    · rw [hg j hj, hn]
      by_cases e : j < i
      · rw [if_pos e]
        have := h.right j e
        show rgt m K _ ≤ K
        unfold rgt
        split
        · omega
        · split <;> omega
      · rw [if_neg e]; exact Int.le_refl _
    · rw [hg j hj]
      by_cases e : j < i
      · rw [if_pos e]
        have := h.low j e
        show 0 ≤ rgt m K _
        unfold rgt
        split
        · omega
        · split <;> omega
      · rw [if_neg e]; show 0 ≤ K; omega
    · rw [show i + 1 - 1 = i from rfl, hg i (by omega), if_neg (Nat.lt_irrefl i), hn]
    · rw [hg j hj, hn, show i + 1 - 1 = i from rfl, ← hm]
      by_cases e : j < i
      · rw [if_pos e]
        have h4 := h.right j e
        intro hh
        have hh2 : rgt m K (rd_T62 I (j : Int)) = K := hh
        show m ≤ (if (rd_T62 I (j : Int)).f0 ≥ m then (rd_T62 I (j : Int)).f0 + 1 else (rd_T62 I (j : Int)).f0)
        unfold rgt at hh2
        by_cases c5 : (rd_T62 I (j : Int)).f1 < m
        · rw [if_pos c5] at hh2; omega
        · rw [if_neg c5] at hh2
          by_cases c6 : (rd_T62 I (j : Int)).f1 = K - 1 ∧ (rd_T62 I (j : Int)).f0 < m
          · rw [if_pos c6] at hh2; omega
          · rw [if_neg c6] at hh2
            rw [if_pos (by omega)]; omega
      · rw [if_neg e]; intro _; exact Int.le_refl _
theorem ivals_ev (a : List Int) (g : AscOk a) : ∃ I, Ev (fun k => impl_intervalsOf.f k a) I ∧ IvInv a a.length I := by
  have hl := g.1
  have main : ∀ (d i : Nat) (I : List S62), a.length - i = d → i ≤ a.length → IvInv a i I → ∃ I', Ev (fun k => impl_intervalsOf.l0 k I a (a.length : Int) (i : Int)) I' ∧ IvInv a a.length I' := by
    intro d
    induction d with
    | zero =>
      intro i I hd hi h
      obtain rfl : i = a.length := by omega
      exact ⟨I, Ev.step (fun k => by rw [impl_intervalsOf.l0]) (Ev_neg (by omega) (Ev_some rfl)), h⟩
    | succ d ih =>
      intro i I hd hi h
      obtain ⟨I', h1, h2⟩ := build_inv a g i (by omega) I h
      obtain ⟨I2, h3, h4⟩ := ih (i + 1) I' (by omega) (by omega) h2
      refine ⟨I2, Ev.step (fun k => by rw [impl_intervalsOf.l0]) (Ev_pos (by omega) (Ev_pos (by omega) (Ev_pos (by omega) ?_))), h4⟩
      rw [rd_nat, wrap_succ (i := i) (by omega)]
      exact Ev.bind h1 h3
  exact main a.length 0 [] (by omega) (by omega) ⟨rfl, fun j hj => by omega, fun j hj => by omega, fun j hj => by omega, fun h => by omega, fun j hj => by omega⟩
theorem drawMod_eq {k : Nat} {c : List Int} {R : List Int × Int × Int} (h1 : spec_l1Cur_ascent.f k c 0 0 9 = some R) : spec_DrawModifyAscent.f k c = some R.1 := by
  unfold spec_DrawModifyAscent.f
  rw [h1, Option.bind_some]
theorem drawUn_ev (c : List Int) (h : BytesOk c) : ∃ s, Ev (fun k => spec_DrawUnmodifyAscent.f k c) s ∧ s.length ≤ 1000 := by
  unfold spec_DrawUnmodifyAscent.f
  obtain ⟨R, hR, hl, b0, b1⟩ := ascent_ok c h 8 (by decide) (by decide) 0 0 (Int.le_refl _) (by decide)
  obtain ⟨l, a, s⟩ := R
  simp only [] at hl b0 b1
  by_cases g : AscOk l
  · obtain ⟨o, a', s', e, _, _⟩ := one_ok c h a s 3 b0 (by omega) (by decide)
    cases o with
    | true => exact ⟨l, Ev.bind hR (Ev.bind (asGood_ev l (by omega)) (Ev_pos (decide_eq_true g) (Ev_val e (Ev_pos rfl (Ev_some rfl))))), by omega⟩
    | false => exact ⟨modF l, Ev.bind hR (Ev.bind (asGood_ev l (by omega)) (Ev_pos (decide_eq_true g) (Ev_val e (Ev_neg Bool.false_ne_true (specMod_ev l g))))), by rw [modF_len]; omega⟩
  · exact ⟨l, Ev.bind hR (Ev.bind (asGood_ev l (by omega)) (Ev_neg (by simpa using g) (Ev_some rfl))), by omega⟩
theorem mod_part (l : List Int) (g : AscOk l) : ∃ k0, ∀ k, k0 ≤ k → ∃ (bk : List Int) (st : Bool) (n : Int) (iv : List S62) (six : Bool), impl_UnmodifyAscent.f k (modF l) = some (bk, true) ∧ impl_IsSteady.f k l = some (st, true) ∧ impl_AscentsOf.f k l = some (n, true) ∧ impl_AscentsOf.f k bk = some (n, true) ∧
      laws_pSame.f k bk l = some true ∧ laws_pSame.f k (modF l) l = some st ∧ impl_IntervalsOfAscent.f k l = some (iv, six) ∧ l.length ≤ 1000 ∧ (if six = true then iv.length = l.length ∧ (modF l).length = l.length ∧ ∀ i, i < l.length → (rd_T62 iv (i : Int)).f0 = (modF l).getD i 0 else 10 < l.length) := by
  have hl := g.1
  have hml := modF_len l
  obtain ⟨k1, h1⟩ := implUn_ev (modF l) (by omega)
  rw [unI_mod g, unR, if_pos ⟨by omega, g, rfl⟩] at h1
  obtain ⟨k2, h2⟩ : Ev (fun k => impl_IsSteady.f k l) (decide (modF l = l), true) := by
    unfold impl_IsSteady.f
    refine Ev.bind (isAscent_ev l (by omega)) (Ev_pos (decide_eq_true g) (Ev.bind (implMod_ev l g) (Ev.bind (equal_ev _ _ (by omega)) (Ev_some ?_))))
    congr
  obtain ⟨k3, h3⟩ : Ev (fun k => impl_AscentsOf.f k l) ((ascN l l.length : Int), true) := by
    unfold impl_AscentsOf.f
    have := implAsc_ev l l.length (Nat.le_refl _) (by omega)
    rw [List.take_length] at this
    exact Ev.bind (isAscent_ev l (by omega)) (Ev_pos (decide_eq_true g) (Ev.bind this (Ev_some rfl)))
  obtain ⟨k4, h4⟩ := pSame_refl l (by omega)
  obtain ⟨k5, h5⟩ : Ev (fun k => laws_pSame.f k (modF l) l) (decide (modF l = l)) := Ev_eq (pSame_ev (modF l) l (by omega)) (by congr)
  by_cases c : l.length ≤ 10
  · obtain ⟨iv, hiv, hI⟩ := ivals_ev l g
    obtain ⟨k6, h6⟩ : Ev (fun k => impl_IntervalsOfAscent.f k l) (iv, true) := by
      unfold impl_IntervalsOfAscent.f impl_isSmallAscent.f
      exact Ev.bind (Ev.bind (isAscent_ev l (by omega)) (Ev_pos (decide_eq_true g) (Ev_some rfl))) (Ev_pos (decide_eq_true (by omega)) (Ev.bind hiv (Ev_some rfl)))
    refine ⟨k1 + k2 + k3 + k4 + k5 + k6, fun k hk => ⟨l, _, _, iv, true, h1 k (by omega), h2 k (by omega), h3 k (by omega), h3 k (by omega), h4 k (by omega), h5 k (by omega), h6 k (by omega), by omega, ?_⟩⟩
    rw [if_pos rfl]
    exact ⟨hI.len, hml, fun i hi => by rw [hI.left i hi, modF_get l hi]⟩
  · obtain ⟨k6, h6⟩ : Ev (fun k => impl_IntervalsOfAscent.f k l) ([], false) := by
      unfold impl_IntervalsOfAscent.f impl_isSmallAscent.f
      exact Ev.bind (Ev.bind (isAscent_ev l (by omega)) (Ev_pos (decide_eq_true g) (Ev_some rfl))) (Ev_neg (by simp; omega) (Ev_some rfl))
    refine ⟨k1 + k2 + k3 + k4 + k5 + k6, fun k hk => ⟨l, _, _, [], false, h1 k (by omega), h2 k (by omega), h3 k (by omega), h3 k (by omega), h4 k (by omega), h5 k (by omega), h6 k (by omega), by omega, ?_⟩⟩
    rw [if_neg Bool.false_ne_true]
    omega
theorem FnModifiedAscents : laws_FnModifiedAscents.Pure := by
  intro c0 c1 _ _ w0 _ _ w1
  by_cases z0 : (c0.length : Int) > 1048576
  · exact ⟨0, .inl (by unfold laws_big.f; rw [if_pos z0])⟩
  have hw : wrap64 (1048576 - (c0.length : Int)) = 1048576 - (c0.length : Int) := wrap_small (by omega) (by omega)
  by_cases z1 : (c1.length : Int) > wrap64 (1048576 - (c0.length : Int))
  · exact ⟨0, .inl (by unfold laws_big.f; rw [if_neg z0, decide_eq_true z1])⟩
  have hbig : laws_big.f c0 c1 = some false := by unfold laws_big.f; rw [if_neg z0, decide_eq_false z1]
  have h0 : BytesOk c0 := ⟨by omega, fun x hx => wf_byte (w0 x hx)⟩
  have h1 : BytesOk c1 := ⟨by omega, fun x hx => wf_byte (w1 x hx)⟩
  obtain ⟨R, ⟨k1, d1⟩, hl, _, _⟩ := ascent_ok c0 h0 9 (by decide) (by decide) 0 0 (Int.le_refl _) (by decide)
  obtain ⟨s, ⟨k2, d2⟩, hs⟩ := drawUn_ev c1 h1
  have f1 : ∀ k, k1 ≤ k → spec_DrawModifyAscent.f k c0 = some R.1 := fun k hk => drawMod_eq (d1 k hk)
  revert hl f1
  generalize R.1 = l
  intro hl f1
  have hml : (modR l).1.length ≤ 1048576 := by
    unfold modR
    by_cases g : AscOk l
    · rw [if_pos g]; show (modF l).length ≤ _; rw [modF_len]; omega
    · rw [if_neg g]; simp
  have hul : (unR s (unI s)).1.length ≤ 1048576 := by
    unfold unR
    split
    · show (unI s).length ≤ _; rw [show (unI s).length = s.length from LU_len _ _]; omega
    · simp
  obtain ⟨k3, e3⟩ := implModR_ev l (by omega)
  obtain ⟨k4, e4⟩ := specModR_ev l (by omega)
  obtain ⟨k5, e5⟩ := pSame_refl _ hml
  obtain ⟨k6, e6⟩ := implUn_ev s (by omega)
  obtain ⟨k7, e7⟩ := specUn_ev s (by omega)
  obtain ⟨k8, e8⟩ := pSame_refl _ hul
  obtain ⟨k9, e9⟩ : ∃ k9, ∀ k, k9 ≤ k → ((unR s (unI s)).2 = true → ∃ ag, impl_ModifyAscent.f k (unR s (unI s)).1 = some (ag, true) ∧ laws_pSame.f k ag s = some true) := by
    by_cases c : s.length ≤ 12 ∧ AscOk (unI s) ∧ modF (unI s) = s
    · have e : unR s (unI s) = (unI s, true) := if_pos c
      have hu : (unI s).length = s.length := LU_len _ _
      obtain ⟨ka, ea⟩ := implModR_ev (unI s) (by omega)
      obtain ⟨kb, eb⟩ := pSame_refl s (by omega)
      rw [modR, if_pos c.2.1, c.2.2] at ea
      rw [e]
      exact ⟨ka + kb, fun k hk _ => ⟨s, ea k (by omega), eb k (by omega)⟩⟩
    · have e : unR s (unI s) = ([], false) := if_neg c
      rw [e]
      exact ⟨0, fun _ _ h => absurd h Bool.false_ne_true⟩
  obtain ⟨k10, e10⟩ : ∃ k10, ∀ k, k10 ≤ k → ((modR l).2 = true → ∃ (bk : List Int) (st : Bool) (n : Int) (iv : List S62) (six : Bool), impl_UnmodifyAscent.f k (modR l).1 = some (bk, true) ∧ impl_IsSteady.f k l = some (st, true) ∧ impl_AscentsOf.f k l = some (n, true) ∧ impl_AscentsOf.f k bk = some (n, true) ∧
      laws_pSame.f k bk l = some true ∧ laws_pSame.f k (modR l).1 l = some st ∧ impl_IntervalsOfAscent.f k l = some (iv, six) ∧ l.length ≤ 1000 ∧ (if six = true then iv.length = l.length ∧ (modR l).1.length = l.length ∧ ∀ i, i < l.length → (rd_T62 iv (i : Int)).f0 = (modR l).1.getD i 0 else 10 < l.length)) := by
    by_cases g : AscOk l
    · have e : modR l = (modF l, true) := if_pos g
      rw [e]
      obtain ⟨ka, ea⟩ := mod_part l g
      exact ⟨ka, fun k hk _ => ea k hk⟩
    · have e : modR l = ([], false) := if_neg g
      rw [e]
      exact ⟨0, fun _ _ h => absurd h Bool.false_ne_true⟩
  generalize hK : k1 + k2 + k3 + k4 + k5 + k6 + k7 + k8 + k9 + k10 = K
  exact ⟨K, .inr ⟨hbig, l, _, _, _, s, _, _, _, f1 K (by omega), e3 K (by omega), e4 K (by omega), e5 K (by omega), d2 K (by omega), e6 K (by omega), e7 K (by omega), e8 K (by omega), e9 K (by omega), e10 K (by omega)⟩⟩
end Go.Proofs.Ytacdlipojhoilaa.Pure
