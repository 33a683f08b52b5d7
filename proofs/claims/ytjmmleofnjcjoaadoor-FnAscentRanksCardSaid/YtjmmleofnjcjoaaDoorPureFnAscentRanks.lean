/- Ranks of ascent sequences and sequences of ranks undo each other, in lexicographic order, as many as are counted. -/
import Derived.Test.YtjmmleofnjcjoaaDoorRk8
import Derived.Test.YtjmmleofnjcjoaaDoorWSized
namespace Go.Proofs.YtjmmleofnjcjoaaDoor.PrintWords
open Go.RowKit
/-- The words' theorem, under the name by which the printed row calls it. -/
theorem sized_ints {H : Type} {enc : TypeId × Value → H} {P : Program} {W : World} {base : Nat} {spare : Nat → Bool} {held : Bool} {t e : TypeId} {k : IntKind} {a : Option Addr} {len cap : Nat} {d : DataW H} {ps : List MemPlace} {ts : List TypeId} {ds : List (DataW H)} {j : Nat}
    (g0 : (DataW.weightsEach P ts ds).all (· ≤ reachBytes) = true) (g1 : ts[j]? = some t) (g2 : ds[j]? = some d) (g3 : P.underlying t = some (.slice e)) (g4 : P.underlying e = some (.int k)) (g5 : P.cellsOf e = 1) {B : Nat} (g6 : P.bytesOf e = B)
    (g7 : DataW.Trod enc P W base spare held t (.slice a len cap) d ps) : len * B ≤ 140737488351232 := Go.Proofs.YtjmmleofnjcjoaaDoorW.PrintWords.sized_ints g0 g1 g2 g3 g4 g5 g6 g7
end Go.Proofs.YtjmmleofnjcjoaaDoor.PrintWords
set_option linter.unusedVariables false
namespace Go.Proofs.YtjmmleofnjcjoaaDoor.Pure
open Go.RowKit Go.Proofs.YtjmmleofnjcjoaaDoor.Rk Go.Proofs.YtjmmleofnjcjoaaDoorW.PrintWords Go.Proofs.YtjmmleofnjcjoaaDoorW.PrintLast Go.Proofs.YtjmmleofnjcjoaaDoorW.PrintMore
section Prelude
theorem Ev_pos {α : Type} {c : Prop} [Decidable c] {f g : Nat → Option α} {r : α} (h : c) (k : Ev f r) : Ev (fun n => if c then f n else g n) r :=
  Ev.congr (fun _ => if_pos h) k
theorem Ev_neg {α : Type} {c : Prop} [Decidable c] {f g : Nat → Option α} {r : α} (h : ¬ c) (k : Ev g r) : Ev (fun n => if c then f n else g n) r :=
  Ev.congr (fun _ => if_neg h) k
theorem Ev_val {α β : Type} {g : Option α} {f : Nat → α → Option β} {a : α} {r : β} (h : g = some a) (k : Ev (fun n => f n a) r) : Ev (fun n => g.bind (f n)) r :=
  Ev.congr (fun _ => by rw [h]; rfl) k
theorem Ev_some {α : Type} {a r : α} (h : a = r) : Ev (fun _ => some a) r := ⟨0, fun _ _ => by rw [h]⟩
theorem Ev_eq {α : Type} {g : Nat → Option α} {a r : α} (h : Ev g a) (e : a = r) : Ev g r := e ▸ h
theorem wrap_small {x : Int} (h0 : -4611686018427387904 ≤ x) (h1 : x ≤ 4611686018427387904) : wrap64 x = x := by unfold wrap64; omega
theorem wrap_succ {i : Nat} (h : i ≤ 4611686018427387900) : wrap64 ((i : Int) + 1) = ((i + 1 : Nat) : Int) := by unfold wrap64; omega
theorem wrap_pred {i : Nat} (h : i ≤ 4611686018427387900) : wrap64 ((i + 1 : Nat) - 1 : Int) = (i : Int) := by unfold wrap64; omega
theorem rd_nat (xs : List Int) (i : Nat) : rd xs (i : Int) = xs.getD i 0 := by simp [rd]
theorem getD_lt {α : Type} (xs : List α) (i : Nat) (z : α) (h : i < xs.length) : xs.getD i z = xs[i] := by simp [List.getD_eq_getElem?_getD, h]
theorem wf_range {x : Int} (h : (Lit.int .i64 x).wf = true) : -9223372036854775808 ≤ x ∧ x ≤ 9223372036854775807 := by
  simp [Lit.wf] at h
  exact h
theorem ext_getD {xs ys : List Int} (hl : xs.length = ys.length) (h : ∀ i, i < xs.length → xs.getD i 0 = ys.getD i 0) : xs = ys := by
  apply List.ext_getElem hl
  intro i h1 h2
  have := h i h1
  rwa [getD_lt _ _ _ h1, getD_lt _ _ _ h2] at this
theorem dec_eq {a b : Prop} [Decidable a] [Decidable b] (h : a ↔ b) : decide a = decide b := by simp [h]
/-- The rounds i, .., n - 1 of a loop. -/
def foldFrom {σ : Type} (n : Nat) (step : σ → Nat → σ) (s : σ) (i : Nat) : σ := (List.range' i (n - i)).foldl step s
theorem foldFrom_lt {σ : Type} {n : Nat} {step : σ → Nat → σ} {s : σ} {i : Nat} (h : i < n) : foldFrom n step s i = foldFrom n step (step s i) (i + 1) := by
  unfold foldFrom
  rw [show n - i = (n - (i + 1)) + 1 from by omega, List.range'_succ, List.foldl_cons]
theorem foldFrom_ge {σ : Type} {n : Nat} {step : σ → Nat → σ} {s : σ} {i : Nat} (h : n ≤ i) : foldFrom n step s i = s := by
  unfold foldFrom
  rw [show n - i = 0 from by omega]; rfl
/-- A loop that counts up to n: what a round does to the state, what holds of it, and what the end makes of it. -/
theorem Ev_for {σ ρ : Type} {l : Nat → σ → Nat → Option ρ} (n : Nat) (step : σ → Nat → σ) (fin : σ → ρ) (Inv : σ → Nat → Prop)
    (hinv : ∀ i s, i < n → Inv s i → Inv (step s i) (i + 1))
    (hstep : ∀ i s, i < n → Inv s i → ∀ r, Ev (fun k => l k (step s i) (i + 1)) r → Ev (fun k => l k s i) r)
    (hend : ∀ s, Inv s n → Ev (fun k => l k s n) (fin s)) :
    ∀ i s, i ≤ n → Inv s i → Ev (fun k => l k s i) (fin (foldFrom n step s i)) ∧ Inv (foldFrom n step s i) n := by
  have main : ∀ d i s, n - i = d → i ≤ n → Inv s i → Ev (fun k => l k s i) (fin (foldFrom n step s i)) ∧ Inv (foldFrom n step s i) n := by
    intro d
    induction d with
    | zero =>
      intro i s hd hi h
      obtain rfl : i = n := by omega
      rw [foldFrom_ge (Nat.le_refl _)]
      exact ⟨hend s h, h⟩
    | succ d ih =>
      intro i s hd hi h
      rw [foldFrom_lt (by omega)]
      obtain ⟨h1, h2⟩ := ih (i + 1) (step s i) (by omega) (by omega) (hinv i s (by omega) h)
      exact ⟨hstep i s (by omega) h _ h1, h2⟩
  exact fun i s hi h => main _ i s rfl hi h
/-- A loop that asks each round, and ends with 'no' at the first round that says no. -/
theorem Ev_all (l : Nat → Nat → Option Bool) (n : Nat) (P : Nat → Bool) (r : Bool)
    (hgo : ∀ i, i < n → (∀ j, j < i → P j = true) → P i = true → ∀ q, Ev (fun k => l k (i + 1)) q → Ev (fun k => l k i) q)
    (hno : ∀ i, i < n → (∀ j, j < i → P j = true) → P i = false → Ev (fun k => l k i) false)
    (hend : (∀ j, j < n → P j = true) → Ev (fun k => l k n) r) : Ev (fun k => l k 0) (decide (∀ j, j < n → P j = true) && r) := by
  have main : ∀ d i, n - i = d → i ≤ n → (∀ j, j < i → P j = true) → Ev (fun k => l k i) (decide (∀ j, j < n → P j = true) && r) := by
    intro d
    induction d with
    | zero =>
      intro i hd hi h
      obtain rfl : i = n := by omega
      rw [decide_eq_true h, Bool.true_and]
      exact hend h
    | succ d ih =>
      intro i hd hi h
      by_cases c : P i = true
      · refine hgo i (by omega) h c _ (ih (i + 1) (by omega) (by omega) (fun j hj => ?_))
        by_cases e : j = i
        · rw [e]; exact c
        · exact h j (by omega)
      · refine Ev_eq (hno i (by omega) h (by simpa using c)) ?_
        rw [decide_eq_false (fun hh => c (hh i (by omega))), Bool.false_and]
  exact main _ 0 rfl (by omega) (fun j hj => by omega)
end Prelude
theorem foldI {σ : Type} {n : Nat} {step : σ → Nat → σ} (Inv : σ → Nat → Prop) (h : ∀ i s, i < n → Inv s i → Inv (step s i) (i + 1)) : ∀ (d i : Nat) (s : σ), n - i = d → i ≤ n → Inv s i → Inv (foldFrom n step s i) n
  | 0, i, s, hd, hi, hs => by
    rw [foldFrom_ge (by omega)]
    have e : i = n := by omega
    exact e ▸ hs
  | d + 1, i, s, hd, hi, hs => by
    rw [foldFrom_lt (by omega)]
    exact foldI Inv h d (i + 1) _ (by omega) (by omega) (h i s (by omega) hs)
theorem rdL_nat (xs : List (List Int)) (i : Nat) : rd_L2 xs (i : Int) = xs.getD i [] := by unfold rd_L2; rw [Int.toNat_natCast]
def Small (l : List (List Int)) : Prop := l.length ≤ 1048576 ∧ ∀ r ∈ l, r.length ≤ 1048576
/-- The sum of f 0, .., f (n - 1). -/
def sumZ : Nat → (Nat → Int) → Int
  | 0, _ => 0
  | n + 1, f => sumZ n f + f n
theorem sumZ_bound {n : Nat} {f : Nat → Int} {B : Int} (hB : 0 ≤ B) (h : ∀ i, i < n → 0 ≤ f i ∧ f i ≤ B) : 0 ≤ sumZ n f ∧ sumZ n f ≤ n * B := by
  induction n with
  | zero => simp [sumZ]
  | succ n ih =>
    have h1 := ih (fun i hi => h i (by omega))
    have h2 := h n (by omega)
    rw [sumZ, show ((n + 1 : Nat) : Int) * B = n * B + B from by rw [Int.natCast_add, Int.add_mul]; simp]
    omega
/-- The number in row i and column j. -/
def en (m : List (List Int)) (i j : Nat) : Int := (m.getD i []).getD j 0
def Cells (m : List (List Int)) : Prop := ∀ i, i < m.length → (m.getD i []).length = m.length ∧ ∀ j, j < m.length → 0 ≤ en m i j ∧ en m i j ≤ 12 ∧ (j < i → en m i j = 0)
def rowZ (m : List (List Int)) (i : Nat) : Int := sumZ m.length (fun j => en m i j)
def colZ (m : List (List Int)) (j : Nat) : Int := sumZ m.length (fun i => en m i j)
def allZ (m : List (List Int)) : Int := sumZ m.length (fun i => rowZ m i)
def isMat (m : List (List Int)) : Prop := m.length ≤ 12 ∧ Cells m ∧ (∀ i, i < m.length → rowZ m i ≠ 0) ∧ (∀ j, j < m.length → colZ m j ≠ 0) ∧ allZ m ≤ 12
instance (m : List (List Int)) : Decidable (Cells m) := inferInstanceAs (Decidable (∀ i, i < m.length → _))
instance (m : List (List Int)) : Decidable (isMat m) := inferInstanceAs (Decidable (_ ∧ _))
theorem Cells.row {m : List (List Int)} (h : Cells m) {i : Nat} (hi : i < m.length) : 0 ≤ rowZ m i ∧ rowZ m i ≤ m.length * 12 := sumZ_bound (by decide) (fun j hj => ⟨((h i hi).2 j hj).1, ((h i hi).2 j hj).2.1⟩)
def rowOk' (m : List (List Int)) (i : Nat) : Prop := (m.getD i []).length = m.length ∧ (∀ j, j < m.length → 0 ≤ en m i j ∧ en m i j ≤ 12) ∧ ∀ j, j < m.length → j < i → en m i j = 0
instance (m : List (List Int)) (i : Nat) : Decidable (rowOk' m i) := inferInstanceAs (Decidable (_ ∧ _ ∧ ∀ j, j < m.length → _))
/-- Rows as long as there are rows, numbers between nought and B. -/
def Bd (B : Int) (m : List (List Int)) : Prop := ∀ r ∈ m, r.length = m.length ∧ ∀ v ∈ r, 0 ≤ v ∧ v ≤ B
/-- The ascents within the first i numbers. -/
def ascN (l : List Int) : Nat → Nat
  | 0 => 0
  | i + 1 => ascN l i + if 0 < i ∧ l.getD (i - 1) 0 < l.getD i 0 then 1 else 0
theorem ascN_le (l : List Int) : ∀ i, ascN l i ≤ i
  | 0 => Nat.le_refl _
  | i + 1 => by rw [ascN]; have := ascN_le l i; split <;> omega
/-- How far the number at place i may go. -/
def bndA (l : List Int) (i : Nat) : Int := if i = 0 then 0 else (ascN l i : Int) + 1
def AscOk (l : List Int) : Prop := l.length ≤ 12 ∧ ∀ i, i < l.length → 0 ≤ l.getD i 0 ∧ l.getD i 0 ≤ bndA l i
instance (l : List Int) : Decidable (AscOk l) := inferInstanceAs (Decidable (_ ∧ _))
theorem take_getD (l : List Int) (n j : Nat) (h : j < n) : (l.take n).getD j 0 = l.getD j 0 := by
  rw [List.getD_eq_getElem?_getD, List.getElem?_take, if_pos h, ← List.getD_eq_getElem?_getD]
theorem asc_main (f : Nat → List Int → Int → Int → Option Int)
    (hf : ∀ k (x0 : List Int) (x3 x4 : Int), f (k + 1) x0 x3 x4 = if x4 < (x0.length : Int) then (if 0 ≤ (wrap64 (x4 - 1)) then (if (wrap64 (x4 - 1)) < (x0.length : Int) then (if 0 ≤ x4 then (if (rd x0 (wrap64 (x4 - 1))) < (rd x0 x4) then (f k x0 (wrap64 (x3 + 1)) (wrap64 (x4 + 1))) else (f k x0 x3 (wrap64 (x4 + 1)))) else (none)) else (none)) else (none)) else (some x3))
    (l : List Int) (n : Nat) (hn : n ≤ l.length) (hl : n ≤ 1000) : Ev (fun k => f k (l.take n) 0 1) (ascN l n : Int) := by
  have hlen : (l.take n).length = n := by rw [List.length_take]; omega
  have main : ∀ (d i : Nat), n - i = d → 1 ≤ i → i ≤ n → Ev (fun k => f k (l.take n) (ascN l i : Int) (i : Int)) (ascN l n : Int) := by
    intro d
    induction d with
    | zero =>
      intro i hd h1 hi
      obtain rfl : i = n := by omega
      exact Ev.step (fun k => hf k _ _ _) (Ev_neg (by omega) (Ev_some rfl))
    | succ d ih =>
      intro i hd h1 hi
      have ha := ascN_le l i
      have next := ih (i + 1) (by omega) (by omega) (by omega)
      refine Ev.step (fun k => hf k _ _ _) (Ev_pos (by omega) ?_)
      rw [show (i : Int) - 1 = ((i - 1 : Nat) : Int) from by omega, wrap_small (x := ((i - 1 : Nat) : Int)) (by omega) (by omega), wrap_succ (i := i) (by omega), wrap_succ (i := ascN l i) (by omega), rd_nat, rd_nat, take_getD _ _ _ (by omega), take_getD _ _ _ (by omega)]
      refine Ev_pos (by omega) (Ev_pos (by omega) (Ev_pos (by omega) ?_))
      rw [ascN] at next
      by_cases c : l.getD (i - 1) 0 < l.getD i 0
      · rw [if_pos ⟨by omega, c⟩] at next; exact Ev_pos c next
      · rw [if_neg (fun h => c h.2)] at next; exact Ev_neg c next
  by_cases c : 1 ≤ n
  · exact main _ 1 rfl (by omega) c
  · obtain rfl : n = 0 := by omega
    exact Ev.step (fun k => hf k _ _ _) (Ev_neg (by omega) (Ev_some rfl))
theorem specAsc_ev (l : List Int) (n : Nat) (hn : n ≤ l.length) (hl : n ≤ 1000) : Ev (fun k => spec_asAscents.f k (l.take n)) (ascN l n : Int) := asc_main (fun k => spec_asAscents.l0 k) (fun _ _ _ _ => rfl) l n hn hl
theorem implAsc_ev (l : List Int) (n : Nat) (hn : n ≤ l.length) (hl : n ≤ 1000) : Ev (fun k => impl_ascents.f k (l.take n)) (ascN l n : Int) := asc_main (fun k => impl_ascents.l0 k) (fun _ _ _ _ => rfl) l n hn hl
theorem in_eq (a b c : Int) : spec_l1In.f a b c = some (decide (b ≤ a ∧ a ≤ c)) := by
  unfold spec_l1In.f
  by_cases h : a ≥ b
  · rw [if_pos h]; congr 1; exact dec_eq ⟨fun h2 => ⟨h, h2⟩, fun h2 => h2.2⟩
  · rw [if_neg h]; congr 1; rw [eq_comm, decide_eq_false_iff_not]; exact fun h2 => h h2.1
theorem win_eq (a b c : Int) : impl_within.f a b c = some (decide (b ≤ a ∧ a ≤ c)) := by
  unfold impl_within.f
  by_cases h : a ≥ b
  · rw [if_pos h]; congr 1; exact dec_eq ⟨fun h2 => ⟨h, h2⟩, fun h2 => h2.2⟩
  · rw [if_neg h]; congr 1; rw [eq_comm, decide_eq_false_iff_not]; exact fun h2 => h h2.1
def OkFrom (l : List Int) (i : Nat) : Prop := ∀ j, i ≤ j → j < l.length → 0 ≤ l.getD j 0 ∧ l.getD j 0 ≤ bndA l j
open Classical in
theorem isAscent_ev (l : List Int) (hs : l.length ≤ 1048576) : Ev (fun k => impl_IsAscent.f k l) (decide (AscOk l)) := by
  unfold impl_IsAscent.f
  by_cases c : (l.length : Int) > 12
  · refine Ev_pos c (Ev_some ?_)
    rw [eq_comm, decide_eq_false_iff_not]; exact fun h => by have := h.1; omega
  · refine Ev_neg c ?_
    have main : ∀ (d i : Nat), l.length - i = d → i ≤ l.length → Ev (fun k => impl_IsAscent.l0 k l l (l.length : Int) (i : Int)) (decide (OkFrom l i)) := by
      intro d
      induction d with
      | zero =>
        intro i hd hi
        obtain rfl : i = l.length := by omega
        exact Ev.step (fun _ => rfl) (Ev_neg (by omega) (Ev_some (by rw [eq_comm, decide_eq_true_iff]; exact fun j h1 h2 => by omega)))
      | succ d ih =>
        intro i hd hi
        have ha := ascN_le l i
        have yes : (0 ≤ l.getD i 0 ∧ l.getD i 0 ≤ bndA l i) → Ev (fun k => impl_IsAscent.l0 k l l (l.length : Int) ((i + 1 : Nat) : Int)) (decide (OkFrom l i)) := fun g => by
          refine Ev_eq (ih (i + 1) (by omega) (by omega)) (dec_eq ⟨fun h j h1 h2 => ?_, fun h j h1 h2 => h j (by omega) h2⟩)
          by_cases e : j = i
          · rw [e]; exact g
          · exact h j (by omega) h2
        have no : ¬ (0 ≤ l.getD i 0 ∧ l.getD i 0 ≤ bndA l i) → false = decide (OkFrom l i) := fun g => by
          rw [eq_comm, decide_eq_false_iff_not]; exact fun h => g (h i (Nat.le_refl _) (by omega))
        refine Ev.step (fun _ => rfl) (Ev_pos (by omega) (Ev_pos (by omega) (Ev_pos (by omega) ?_)))
        rw [Int.toNat_natCast, rd_nat, wrap_succ (i := i) (by omega)]
        by_cases e : i = 0
        · have hb : bndA l i = 0 := by rw [bndA, if_pos e]
          refine Ev_pos (by omega) ?_
          by_cases z : l.getD i 0 = 0
          · exact Ev_pos z (Ev_neg (by omega) (yes (by rw [hb]; omega)))
          · exact Ev_neg z (Ev_some (no (by rw [hb]; omega)))
        · have hb : bndA l i = (ascN l i : Int) + 1 := by rw [bndA, if_neg e]
          refine Ev_neg (by omega) (Ev_pos (by omega) (Ev_pos (by omega) (Ev.bind (implAsc_ev l i (by omega) (by omega)) ?_)))
          rw [wrap_small (x := (ascN l i : Int) + 1) (by omega) (by omega), ← hb]
          refine Ev_val (win_eq _ _ _) ?_
          by_cases g : 0 ≤ l.getD i 0 ∧ l.getD i 0 ≤ bndA l i
          · exact Ev_pos (decide_eq_true g) (yes g)
          · exact Ev_neg (by simpa using g) (Ev_some (no g))
    exact Ev_eq (main _ 0 rfl (by omega)) (dec_eq ⟨fun h => ⟨by omega, fun i hi => h i (by omega) hi⟩, fun h j _ h2 => h.2 j h2⟩)
theorem Bd.small {B : Int} {m : List (List Int)} (h : Bd B m) (hd : m.length ≤ 1000) : Small m := ⟨by omega, fun r hr => by have := (h r hr).1; omega⟩
theorem and255 (x : Int) (h0 : 0 ≤ x) (h1 : x < 9223372036854775808) : 0 ≤ wrap64 (Go.bits .and .u64 x 255) ∧ wrap64 (Go.bits .and .u64 x 255) ≤ 255 := by
  have hm := Go.bits_mask .u64 63 (by decide) (fun n a b => by rw [IntKind.wrap_u64]; omega) 8 (by decide) x h0 (by omega)
  have e : ((2 : Int) ^ 8 - 1) = 255 := by decide
  have e2 : ((2 : Int) ^ 8) = 256 := by decide
  rw [e, e2] at hm
  rw [hm, wrap_small (by omega) (by omega)]; omega
/-- The bytes that the draws read. -/
def BytesOk (c : List Int) : Prop := c.length ≤ 1048576 ∧ ∀ x ∈ c, 0 ≤ x ∧ x ≤ 255
theorem BytesOk.at_ {c : List Int} (h : BytesOk c) (i : Nat) : 0 ≤ c.getD i 0 ∧ c.getD i 0 ≤ 255 := by
  by_cases e : i < c.length
  · rw [getD_lt _ _ _ e]; exact h.2 _ (List.getElem_mem e)
  · rw [List.getD_eq_getElem?_getD, List.getElem?_eq_none (by omega)]; exact ⟨Int.le_refl _, by decide⟩
theorem next_ok (c : List Int) (h : BytesOk c) (a s : Int) (h0 : 0 ≤ a) (h1 : a ≤ 4611686018427387000) : ∃ b s', spec_l1Cur_next.f c a s = some (b, a + 1, s') ∧ 0 ≤ b ∧ b ≤ 255 := by
  have hw : wrap64 (a + 1) = a + 1 := wrap_small (by omega) (by omega)
  have hand : ∀ y : Int, 0 ≤ wrap64 (Go.bits .and .u64 (IntKind.u64.wrap y / 1099511627776) 255) ∧ wrap64 (Go.bits .and .u64 (IntKind.u64.wrap y / 1099511627776) 255) ≤ 255 := fun y => and255 _ (by rw [IntKind.wrap_u64]; omega) (by rw [IntKind.wrap_u64]; omega)
  unfold spec_l1Cur_next.f
  rw [hw]
  by_cases c1 : a < (c.length : Int)
  · obtain ⟨i, rfl⟩ : ∃ i : Nat, a = (i : Int) := ⟨a.toNat, by omega⟩
    have hb := h.at_ i
    rw [if_pos c1, if_pos h0, if_pos (by omega), rd_nat, wrap_small (x := c.getD i 0) (by omega) (by omega)]
    exact ⟨_, _, rfl, hb.1, hb.2⟩
  · rw [if_neg c1]
    by_cases c2 : a + 1 ≤ (c.length : Int)
    · rw [if_pos c2]; exact ⟨_, _, rfl, Int.le_refl _, by decide⟩
    · rw [if_neg c2]
      have := hand ((IntKind.u64.wrap ((IntKind.u64.wrap (s * 6364136223846793005)) + 0)) + 1442695040888963407)
      exact ⟨_, _, rfl, this.1, this.2⟩
theorem pick_ok (c : List Int) (h : BytesOk c) (a s n : Int) (h0 : 0 ≤ a) (h1 : a ≤ 4611686018427380000) (hn : n ≤ 4611686018427387000) : ∃ r a' s', spec_l1Cur_pick.f c a s n = some (r, a', s') ∧ 0 ≤ r ∧ (1 ≤ n → r < n) ∧ 0 ≤ a' ∧ a' ≤ a + 2 := by
  unfold spec_l1Cur_pick.f
  by_cases c1 : n ≤ 1
  · rw [if_pos c1]; exact ⟨_, _, _, rfl, Int.le_refl _, fun _ => by omega, h0, by omega⟩
  · rw [if_neg c1]
    obtain ⟨b, s', e, hb0, hb1⟩ := next_ok c h a s h0 (by omega)
    rw [e, Option.bind_some]
    by_cases c2 : n > 200
    · rw [if_pos c2]
      obtain ⟨b2, s2, e2, hc0, hc1⟩ := next_ok c h (a + 1) s' (by omega) (by omega)
      simp only []
      rw [e2, Option.bind_some, if_neg (by omega)]
      have w1 : wrap64 (b * 256) = b * 256 := wrap_small (by omega) (by omega)
      have w2 : wrap64 (b * 256 + b2) = b * 256 + b2 := wrap_small (by omega) (by omega)
      simp only [w1, w2]
      refine ⟨_, _, _, rfl, Int.tmod_nonneg _ (by omega), fun _ => Int.tmod_lt_of_pos _ (by omega), by omega, by omega⟩
    · rw [if_neg c2, if_neg (by omega)]
      refine ⟨_, _, _, rfl, Int.tmod_nonneg _ hb0, fun _ => Int.tmod_lt_of_pos _ (by omega), by simp only []; omega, by simp only []; omega⟩
theorem one_ok (c : List Int) (h : BytesOk c) (a s n : Int) (h0 : 0 ≤ a) (h1 : a ≤ 4611686018427380000) (hn : n ≤ 4611686018427387000) : ∃ b a' s', spec_l1Cur_one.f c a s n = some (b, a', s') ∧ 0 ≤ a' ∧ a' ≤ a + 2 := by
  obtain ⟨r, a', s', e, _, _, e2, e3⟩ := pick_ok c h a s n h0 h1 hn
  exact ⟨r == 0, a', s', by unfold spec_l1Cur_one.f; rw [e]; rfl, e2, e3⟩
theorem pSame_refl (l : List Int) (hl : l.length ≤ 1048576) : Ev (fun k => laws_pSame.f k l l) true := by
  unfold laws_pSame.f
  refine Ev_pos rfl ?_
  have main : ∀ (d i : Nat), l.length - i = d → i ≤ l.length → Ev (fun k => laws_pSame.l0 k l l (l.length : Int) (i : Int)) true := by
    intro d
    induction d with
    | zero => intro i hd hi; exact Ev.step (fun _ => rfl) (Ev_neg (by omega) (Ev_some rfl))
    | succ d ih =>
      intro i hd hi
      refine Ev.step (fun _ => rfl) (Ev_pos (by omega) (Ev_pos (by omega) (Ev_pos (by omega) (Ev_pos (by omega) (Ev_pos rfl ?_)))))
      rw [wrap_succ (i := i) (by omega)]
      exact ih (i + 1) (by omega) (by omega)
  exact main _ 0 rfl (by omega)
theorem bndA_rng (l : List Int) (i : Nat) : 0 ≤ bndA l i ∧ bndA l i ≤ (i : Int) + 1 := by
  have := ascN_le l i
  unfold bndA; split <;> omega
def Sml (m : List (List Int)) : Prop := m.length ≤ 14 ∧ ∀ r ∈ m, r.length ≤ 13
theorem Sml.small {m : List (List Int)} (h : Sml m) : Small m := ⟨by have := h.1; omega, fun r hr => by have := h.2 r hr; omega⟩
theorem among_ok (c : List Int) (h : BytesOk c) (a s : Int) (L : List Int) (hl : 0 < L.length) (hl2 : L.length ≤ 1000) (h0 : 0 ≤ a) (h1 : a ≤ 4611686018427380000) : ∃ v a' s', spec_l1Cur_among.f c a s L = some (v, a', s') ∧ 0 ≤ a' ∧ a' ≤ a + 2 := by
  obtain ⟨r, a', s', e, r0, r1, q0, q1⟩ := pick_ok c h a s (L.length : Int) h0 h1 (by omega)
  exact ⟨rd L r, a', s', by unfold spec_l1Cur_among.f; rw [e]; show (if 0 ≤ r then (if r < (L.length : Int) then some (rd L r, a', s') else none) else none) = _; rw [if_pos r0, if_pos (r1 (by omega))], q0, q1⟩
theorem wf_byte {x : Int} (h : (Lit.int .u8 x).wf = true) : 0 ≤ x ∧ x ≤ 255 := by
  simp [Lit.wf] at h
  have a : IntKind.u8.min = 0 := by decide
  have b : IntKind.u8.max = 255 := by decide
  rw [a, b] at h; exact h
open Memo in
theorem pick_spec (m : Nat) (l a : Int) (T : Nat) : ∀ (q k : Nat) (r : Int), T - k ≤ q → k ≤ T → 0 ≤ r → r + psum (fun k : Nat => W m (k : Int) (nxt l a (k : Int))) k < psum (fun k : Nat => W m (k : Int) (nxt l a (k : Int))) T →
    ∃ k' r', pick m l a q k r = some (k', r') ∧ k' < T ∧ 0 ≤ r' ∧ r' < W m (k' : Int) (nxt l a (k' : Int)) ∧ r + psum (fun k : Nat => W m (k : Int) (nxt l a (k : Int))) k = r' + psum (fun k : Nat => W m (k : Int) (nxt l a (k : Int))) k'
  | 0, k, r, hq, hk, hr, h => by
    obtain rfl : k = T := by omega
    omega
  | q + 1, k, r, hq, hk, hr, h => by
    by_cases e : k = T
    · subst e; omega
    · unfold pick
      by_cases c : r < W m (k : Int) (nxt l a (k : Int))
      · rw [if_pos c]
        exact ⟨k, r, rfl, by omega, hr, c, rfl⟩
      · rw [if_neg c]
        have e1 : psum (fun k : Nat => W m (k : Int) (nxt l a (k : Int))) (k + 1) = psum (fun k : Nat => W m (k : Int) (nxt l a (k : Int))) k + W m (k : Int) (nxt l a (k : Int)) := rfl
        obtain ⟨k', r', h1, h2, h3, h4, h5⟩ := pick_spec m l a T q (k + 1) (r - W m (k : Int) (nxt l a (k : Int))) (by omega) (by omega) (by omega) (by omega)
        exact ⟨k', r', h1, h2, h3, h4, by omega⟩
/-! Ranks of ascent sequences. -/
open Memo in
def rkT : List Int → Int → Int → Int
  | [], _, _ => 0
  | x :: s, l, a => psum (fun k : Nat => W s.length (k : Int) (nxt l a (k : Int))) x.toNat + rkT s x (nxt l a x)
open Memo in
def okT : List Int → Int → Int → Prop
  | [], _, _ => True
  | x :: s, l, a => 0 ≤ x ∧ x ≤ top l a ∧ okT s x (nxt l a x)
open Memo in
theorem go_T : ∀ (m : Nat) (l a r : Int) (out : List Int), 0 ≤ a → a + m ≤ 24 → 0 ≤ r → r < W m l a → ∃ s, go m l a r out = some (out ++ s) ∧ s.length = m ∧ rkT s l a = r ∧ okT s l a
  | 0, l, a, r, out, _, _, h1, h2 => by
    have h3 : r < 1 := h2
    obtain rfl : r = 0 := by omega
    exact ⟨[], by simp [go], rfl, rfl, trivial⟩
  | m + 1, l, a, r, out, ha, hm, h1, h2 => by
    have ht := top_le l a ha
    obtain ⟨k', r', p1, p2, p3, p4, p5⟩ := pick_spec m l a (top l a + 1).toNat 30 0 r (by omega) (by omega) h1 (by show r + 0 < _; rw [Int.add_zero]; exact h2)
    have hn := nxt_le l a (k' : Int)
    obtain ⟨s, s1, s2, s3, s4⟩ := go_T m (k' : Int) (nxt l a (k' : Int)) r' (out ++ [(k' : Int)]) (by omega) (by omega) p3 p4
    refine ⟨(k' : Int) :: s, ?_, by rw [List.length_cons, s2], ?_, by omega, by omega, s4⟩
    · show (pick m l a 30 0 r).bind _ = _
      rw [p1]
      show go m (k' : Int) (nxt l a (k' : Int)) r' (out ++ [(k' : Int)]) = _
      rw [s1, List.append_assoc]
      rfl
    · show psum (fun k : Nat => W s.length (k : Int) (nxt l a (k : Int))) (k' : Int).toNat + rkT s (k' : Int) (nxt l a (k' : Int)) = r
      rw [s3, s2, Int.toNat_natCast]
      have e0 : psum (fun k : Nat => W m (k : Int) (nxt l a (k : Int))) 0 = 0 := rfl
      omega
open Memo in
theorem psum_up (f : Nat → Int) (hf : ∀ k, 0 ≤ f k) (x : Nat) : ∀ T, x ≤ T → psum f x ≤ psum f T
  | 0, h => by obtain rfl : x = 0 := by omega
               exact Int.le_refl _
  | T + 1, h => by
    by_cases c : x = T + 1
    · rw [c]; exact Int.le_refl _
    · have h1 := psum_up f hf x T (by omega)
      have h2 := hf T
      have e : psum f (T + 1) = psum f T + f T := rfl
      omega
open Memo in
theorem W_nn (m : Nat) (l a : Int) (ha : 0 ≤ a) (hm : a + m ≤ 24) : 0 ≤ W m l a := (W_le m l a ha hm).1
open Memo in
theorem rkT_lt : ∀ (s : List Int) (l a : Int), 0 ≤ a → a + s.length ≤ 24 → okT s l a → 0 ≤ rkT s l a ∧ rkT s l a < W s.length l a
  | [], l, a, _, _, _ => ⟨Int.le_refl _, Int.zero_lt_one⟩
  | x :: s, l, a, ha, hm, h => by
    obtain ⟨h1, h2, h3⟩ := h
    have hn := nxt_le l a x
    rw [List.length_cons] at hm
    have ht := top_le l a ha
    obtain ⟨i1, i2⟩ := rkT_lt s x (nxt l a x) (by omega) (by omega) h3
    obtain ⟨n, rfl⟩ : ∃ n : Nat, x = (n : Int) := ⟨x.toNat, by omega⟩
    have hF : ∀ k : Nat, 0 ≤ W s.length (k : Int) (nxt l a (k : Int)) := fun k => W_nn _ _ _ (by have := nxt_le l a (k : Int); omega) (by have := nxt_le l a (k : Int); omega)
    have u0 := psum_up (fun k : Nat => W s.length (k : Int) (nxt l a (k : Int))) hF 0 n (by omega)
    have u1 := psum_up (fun k : Nat => W s.length (k : Int) (nxt l a (k : Int))) hF (n + 1) (top l a + 1).toNat (by omega)
    have e0 : psum (fun k : Nat => W s.length (k : Int) (nxt l a (k : Int))) 0 = 0 := rfl
    have e1 : psum (fun k : Nat => W s.length (k : Int) (nxt l a (k : Int))) (n + 1) = psum (fun k : Nat => W s.length (k : Int) (nxt l a (k : Int))) n + W s.length (n : Int) (nxt l a (n : Int)) := rfl
    have e2 : rkT ((n : Int) :: s) l a = psum (fun k : Nat => W s.length (k : Int) (nxt l a (k : Int))) n + rkT s (n : Int) (nxt l a (n : Int)) := rfl
    have e3 : W ((n : Int) :: s).length l a = psum (fun k : Nat => W s.length (k : Int) (nxt l a (k : Int))) (top l a + 1).toNat := rfl
    rw [e2, e3]
    omega
/-- One list before another one, from the first number on that differs. -/
def lexL (s t : List Int) : Prop := ∃ j, j < s.length ∧ j < t.length ∧ (∀ i, i < j → s.getD i 0 = t.getD i 0) ∧ s.getD j 0 < t.getD j 0
open Memo in
theorem rkT_lex : ∀ (s t : List Int) (l a : Int), s.length = t.length → 0 ≤ a → a + s.length ≤ 24 → okT s l a → okT t l a → rkT s l a < rkT t l a → lexL s t
  | [], [], _, _, _, _, _, _, _, h => absurd h (Int.lt_irrefl _)
  | [], _ :: _, _, _, h, _, _, _, _, _ => absurd h (by simp)
  | _ :: _, [], _, _, h, _, _, _, _, _ => absurd h (by simp)
  | x :: s, y :: t, l, a, hl, ha, hm, h1, h2, hr => by
    obtain ⟨x0, x1, x2⟩ := h1
    obtain ⟨y0, y1, y2⟩ := h2
    rw [List.length_cons, List.length_cons] at hl
    rw [List.length_cons] at hm
    have hl' : s.length = t.length := by omega
    by_cases c : x = y
    · subst c
      have hn := nxt_le l a x
      have hr' : rkT s x (nxt l a x) < rkT t x (nxt l a x) := by
        have e1 : rkT (x :: s) l a = psum (fun k : Nat => W s.length (k : Int) (nxt l a (k : Int))) x.toNat + rkT s x (nxt l a x) := rfl
        have e2 : rkT (x :: t) l a = psum (fun k : Nat => W t.length (k : Int) (nxt l a (k : Int))) x.toNat + rkT t x (nxt l a x) := rfl
        rw [← hl'] at e2
        omega
      obtain ⟨j, j1, j2, j3, j4⟩ := rkT_lex s t x (nxt l a x) hl' (by omega) (by omega) x2 y2 hr'
      refine ⟨j + 1, by simp; omega, by simp; omega, fun i hi => ?_, ?_⟩
      · cases i with
        | zero => rfl
        | succ i => simpa using j3 i (by omega)
      · simpa using j4
    · by_cases c2 : x < y
      · exact ⟨0, by simp, by simp, fun i hi => by omega, by simpa using c2⟩
      · exfalso
        obtain ⟨n, rfl⟩ : ∃ n : Nat, x = (n : Int) := ⟨x.toNat, by omega⟩
        obtain ⟨q, rfl⟩ : ∃ q : Nat, y = (q : Int) := ⟨y.toNat, by omega⟩
        have hn := nxt_le l a (n : Int)
        have hq := nxt_le l a (q : Int)
        have hF : ∀ k : Nat, 0 ≤ W s.length (k : Int) (nxt l a (k : Int)) := fun k => W_nn _ _ _ (by have := nxt_le l a (k : Int); omega) (by have := nxt_le l a (k : Int); omega)
        have b1 := (rkT_lt s (n : Int) (nxt l a (n : Int)) (by omega) (by omega) x2).1
        have b2 := (rkT_lt t (q : Int) (nxt l a (q : Int)) (by omega) (by omega) y2).2
        rw [← hl'] at b2
        have u1 := psum_up (fun k : Nat => W s.length (k : Int) (nxt l a (k : Int))) hF (q + 1) n (by omega)
        have e1 : psum (fun k : Nat => W s.length (k : Int) (nxt l a (k : Int))) (q + 1) = psum (fun k : Nat => W s.length (k : Int) (nxt l a (k : Int))) q + W s.length (q : Int) (nxt l a (q : Int)) := rfl
        have e2 : rkT ((n : Int) :: s) l a = psum (fun k : Nat => W s.length (k : Int) (nxt l a (k : Int))) n + rkT s (n : Int) (nxt l a (n : Int)) := rfl
        have e3 : rkT ((q : Int) :: t) l a = psum (fun k : Nat => W t.length (k : Int) (nxt l a (k : Int))) q + rkT t (q : Int) (nxt l a (q : Int)) := rfl
        rw [← hl'] at e3
        omega
def lstA (l : List Int) (i : Nat) : Int := if i = 0 then -1 else l.getD (i - 1) 0
open Memo in
theorem top_bnd (l : List Int) (i : Nat) (h : i = 0 ∨ 0 ≤ l.getD (i - 1) 0) : top (lstA l i) (ascN l i : Int) = bndA l i := by
  unfold top lstA bndA
  by_cases c : i = 0
  · rw [if_pos c, if_pos c, if_pos (by decide)]
  · rw [if_neg c, if_neg c, if_neg (by have := h.resolve_left c; omega)]
open Memo in
theorem nxt_asc (l : List Int) (i : Nat) (h : i = 0 ∨ 0 ≤ l.getD (i - 1) 0) : nxt (lstA l i) (ascN l i : Int) (l.getD i 0) = (ascN l (i + 1) : Int) := by
  unfold nxt lstA
  rw [ascN]
  by_cases c : i = 0
  · rw [if_pos c, if_neg (by omega), if_neg (by omega)]; rfl
  · rw [if_neg c]
    have := h.resolve_left c
    by_cases d : l.getD (i - 1) 0 < l.getD i 0
    · rw [if_pos ⟨this, d⟩, if_pos ⟨by omega, d⟩]; omega
    · rw [if_neg (fun hh => d hh.2), if_neg (fun hh => d hh.2)]; rfl
theorem drop_getD (l : List Int) {i : Nat} (h : i < l.length) : l.drop i = l.getD i 0 :: l.drop (i + 1) := by rw [List.drop_eq_getElem_cons h, getD_lt _ _ _ h]
theorem okT_from (l : List Int) : ∀ (d i : Nat), l.length - i = d → i ≤ l.length → (i = 0 ∨ 0 ≤ l.getD (i - 1) 0) → okT (l.drop i) (lstA l i) (ascN l i : Int) → OkFrom l i := by
  intro d
  induction d with
  | zero => intro i hd hi _ _ j h1 h2; omega
  | succ d ih =>
    intro i hd hi h0 h
    rw [drop_getD l (by omega)] at h
    obtain ⟨h1, h2, h3⟩ := h
    rw [top_bnd l i h0] at h2
    rw [nxt_asc l i h0] at h3
    have hn := ih (i + 1) (by omega) (by omega) (.inr h1) (by
      have e : lstA l (i + 1) = l.getD i 0 := rfl
      rw [e]; exact h3)
    intro j hj1 hj2
    by_cases e : j = i
    · rw [e]; exact ⟨h1, h2⟩
    · exact hn j (by omega) hj2
theorem okT_asc (l : List Int) (hl : l.length ≤ 12) (h : okT l (-1) 0) : AscOk l := by
  have := okT_from l _ 0 rfl (by omega) (.inl rfl) (by simpa [lstA, ascN] using h)
  exact ⟨hl, fun i hi => this i (by omega) hi⟩
open Memo in
theorem stR_rk (l : List Int) : ∀ i, i ≤ l.length → rkT l (-1) 0 = (stR l i).1 + rkT (l.drop i) (stR l i).2.1 (stR l i).2.2
  | 0, _ => by show _ = 0 + rkT (l.drop 0) (-1) 0; rw [List.drop_zero, Int.zero_add]
  | i + 1, h => by
    rw [stR_rk l i (by omega), drop_getD l (by omega)]
    have e : rkT (l.getD i 0 :: l.drop (i + 1)) (stR l i).2.1 (stR l i).2.2 = psum (fun k : Nat => W (l.drop (i + 1)).length (k : Int) (nxt (stR l i).2.1 (stR l i).2.2 (k : Int))) (l.getD i 0).toNat + rkT (l.drop (i + 1)) (l.getD i 0) (nxt (stR l i).2.1 (stR l i).2.2 (l.getD i 0)) := rfl
    rw [e, List.length_drop, show l.length - (i + 1) = l.length - i - 1 from by omega]
    show _ = ((stR l i).1 + _) + _
    rw [Int.add_assoc]
    rfl
theorem stR_all (l : List Int) : (Memo.stR l l.length).1 = rkT l (-1) 0 := by
  rw [stR_rk l l.length (Nat.le_refl _), List.drop_length]
  show _ = _ + 0
  rw [Int.add_zero]
/-- Words with a separator between them. -/
def TJ (sep : ByteArray) (ws : List ByteArray) : ByteArray := ⟨(Go.Lib.join (ws.map (·.data.toList)) sep.data.toList).toArray⟩
theorem ba_ext {a b : ByteArray} (h : a.data.toList = b.data.toList) : a = b := by
  cases a with
  | mk x => cases b with
    | mk y =>
      have : x = y := by
        apply Array.ext'
        exact h
      rw [this]
theorem TJ_data (sep : ByteArray) (ws : List ByteArray) : (TJ sep ws).data.toList = Go.Lib.join (ws.map (·.data.toList)) sep.data.toList := rfl
theorem TJ_size (sep : ByteArray) (hs : sep.size = 1) (B : Nat) : ∀ ws : List ByteArray, (∀ w ∈ ws, w.size ≤ B) → (TJ sep ws).size ≤ ws.length * (B + 1)
  | [], _ => Nat.zero_le _
  | x :: r, h => by
    have e : (TJ sep (x :: r)).size = ((TJ sep (x :: r)).data.toList).length := by rw [Array.length_toList]; rfl
    have ex : (x.data.toList).length = x.size := by rw [Array.length_toList]; rfl
    have es : (sep.data.toList).length = 1 := by rw [Array.length_toList]; exact hs
    rw [e, TJ_data, List.map_cons, Go.Lib.join_cons, List.length_append, ex]
    have h1 := h x (by simp)
    have ht : ∀ l : List ByteArray, (∀ w ∈ l, w.size ≤ B) → (Go.Lib.joinTail sep.data.toList (l.map (·.data.toList))).length ≤ l.length * (B + 1) := by
      intro l
      induction l with
      | nil => intro _; simp [Go.Lib.joinTail]
      | cons y l ih =>
        intro hl
        have h2 := ih (fun w hw => hl w (by simp [hw]))
        have h3 := hl y (by simp)
        have ey : (y.data.toList).length = y.size := by rw [Array.length_toList]; rfl
        have e2 : (Go.Lib.joinTail sep.data.toList ((y :: l).map (·.data.toList))).length = 1 + y.size + (Go.Lib.joinTail sep.data.toList (l.map (·.data.toList))).length := by
          unfold Go.Lib.joinTail
          rw [List.map_cons, List.map_cons, List.flatten_cons, List.length_append, List.length_append, es, ey]
        rw [e2, List.length_cons, Nat.succ_mul]
        omega
    have h4 := ht r (fun w hw => h w (by simp [hw]))
    rw [List.length_cons, Nat.succ_mul]
    omega
theorem join_ok (sep : ByteArray) (hsep : sep.size = 1) (ws : List ByteArray) (B : Nat) (hB : B ≤ 1000000) (h : ∀ w ∈ ws, w.size ≤ B) (hn : ws.length ≤ 1000) : strings_Join.f ws sep = some (TJ sep ws) := by
  unfold strings_Join.f strings_Join.v
  have h1 := TJ_size sep hsep B ws h
  have e : (TJ sep ws).size = (Go.Lib.join (ws.map (·.data.toList)) sep.data.toList).length := by rw [← TJ_data, Array.length_toList]; rfl
  have hmul : ws.length * (B + 1) ≤ 1000 * 1000001 := Nat.mul_le_mul (by omega) (by omega)
  rw [if_pos ⟨by omega, by rw [← e]; omega⟩]
  rfl
theorem words_ev {β : Type} (f : Nat → List ByteArray → List β → Int → Int → Option ByteArray) (G : Nat → β → Option ByteArray) (rb : List β → Int → β) (sep : ByteArray) (hsep : sep.size = 1)
    (hf : ∀ k x3 x7 x8 x9, f (k + 1) x3 x7 x8 x9 = if x9 < x8 then (if 0 ≤ x9 then (if x9 < (x7.length : Int) then ((G k (rb x7 x9)).bind fun t => (if x3.length < 8796093022208 then (f k (x3 ++ [t]) x7 x8 (wrap64 (x9 + 1))) else (none))) else (none)) else (none)) else ((strings_Join.f x3 sep).bind fun t => (some t)))
    (L : List β) (hrb : ∀ (i : Nat) (h : i < L.length), rb L (i : Int) = L[i]) (W : β → ByteArray) (B : Nat) (hB : B ≤ 1000000) (hW : ∀ x ∈ L, Ev (fun k => G k x) (W x) ∧ (W x).size ≤ B) (hn : L.length ≤ 1000) :
    Ev (fun k => f k [] L (L.length : Int) 0) (TJ sep (L.map W)) := by
  have hws : ∀ w ∈ L.map W, w.size ≤ B := by
    intro w hw
    obtain ⟨x, hx, rfl⟩ := List.mem_map.1 hw
    exact (hW x hx).2
  have main : ∀ (d i : Nat), L.length - i = d → i ≤ L.length → Ev (fun k => f k ((L.take i).map W) L (L.length : Int) (i : Int)) (TJ sep (L.map W)) := by
    intro d
    induction d with
    | zero =>
      intro i hd hi
      obtain rfl : i = L.length := by omega
      refine Ev.step (fun k => hf k _ _ _ _) (Ev_neg (by omega) ?_)
      rw [List.take_length]
      exact Ev_val (join_ok sep hsep _ B hB hws (by rw [List.length_map]; exact hn)) (Ev_some rfl)
    | succ d ih =>
      intro i hd hi
      have hlt : i < L.length := by omega
      obtain ⟨g1, g2⟩ := hW L[i] (List.getElem_mem hlt)
      refine Ev.step (fun k => hf k _ _ _ _) (Ev_pos (by omega) (Ev_pos (by omega) (Ev_pos (by omega) ?_)))
      rw [hrb i hlt, wrap_succ (by omega)]
      refine Ev.bind g1 (Ev_pos (by rw [List.length_map, List.length_take]; omega) ?_)
      have h1 := ih (i + 1) (by omega) (by omega)
      rw [List.take_succ_eq_append_getElem hlt, List.map_append] at h1
      exact h1
  exact main _ 0 rfl (Nat.zero_le _)
/-- A small number's word. -/
def nm (x : Int) : ByteArray := if x < 10 then ⟨#[UInt8.ofNat (48 + x.toNat)]⟩ else ⟨#[49, UInt8.ofNat (48 + (x - 10).toNat)]⟩
theorem nm_size (x : Int) : (nm x).size ≤ 2 := by
  unfold nm; split
  · exact Nat.le_succ 1
  · exact Nat.le_refl 2
theorem itoa_nm (x : Int) (h0 : 0 ≤ x) (h1 : x < 20) : strconv_Itoa.f x = some (nm x) := by
  unfold strconv_Itoa.f nm
  rw [if_pos ⟨h0, by omega⟩]
  by_cases c : x < 10
  · rw [if_pos c, Go.Lib.decDigits, dif_pos (by omega)]
  · rw [if_neg c, Go.Lib.decDigits, dif_neg (by omega), Go.Lib.decDigits, dif_pos (by omega), show x.toNat / 10 = 1 from by omega, show x.toNat % 10 = (x - 10).toNat from by omega]
    rfl
def comma : ByteArray := ⟨#[44]⟩
def slash : ByteArray := ⟨#[47]⟩
def rowT (r : List Int) : ByteArray := TJ comma (r.map nm)
def matT (m : List (List Int)) : ByteArray := TJ slash (m.map rowT)
def Few (r : List Int) : Prop := r.length ≤ 12 ∧ ∀ x ∈ r, 0 ≤ x ∧ x < 13
theorem rowT_size {r : List Int} (h : Few r) : (rowT r).size ≤ 36 := by
  have h1 := TJ_size comma rfl 2 (r.map nm) (fun w hw => by obtain ⟨x, _, rfl⟩ := List.mem_map.1 hw; exact nm_size x)
  rw [List.length_map] at h1
  have := h.1
  unfold rowT; omega
theorem rd_at (L : List Int) (i : Nat) (h : i < L.length) : rd L (i : Int) = L[i] := by rw [rd_nat, getD_lt _ _ _ h]
theorem ascentText_ev (r : List Int) (h : Few r) : Ev (fun k => impl_ascentText.f k r) (rowT r) := by
  unfold impl_ascentText.f
  exact words_ev (fun k => impl_ascentText.l0 k) (fun _ => strconv_Itoa.f) rd comma rfl (fun _ _ _ _ _ => rfl) r (rd_at r) nm 2 (by omega) (fun x hx => ⟨⟨0, fun _ _ => itoa_nm x (h.2 x hx).1 (by have := (h.2 x hx).2; omega)⟩, nm_size x⟩) (by have := h.1; omega)
theorem isMat_few {m : List (List Int)} (g : isMat m) : ∀ r ∈ m, Few r := by
  intro r hr
  obtain ⟨i, hi, rfl⟩ := List.mem_iff_getElem.1 hr
  have h1 := g.2.1 i hi
  have e : m.getD i [] = m[i] := getD_lt _ _ _ hi
  have hl : m[i].length = m.length := by rw [← e]; exact h1.1
  refine ⟨by have := g.1; omega, fun x hx => ?_⟩
  obtain ⟨j, hj, rfl⟩ := List.mem_iff_getElem.1 hx
  have h2 := h1.2 j (by omega)
  have e2 : en m i j = m[i][j] := by
    show (m.getD i []).getD j 0 = _
    rw [e, getD_lt _ _ _ hj]
  rw [← e2]
  have := h2.1; have := h2.2.1
  omega
/-- A list of bytes cut at each c. -/
def cut (c : UInt8) : List UInt8 → List (List UInt8)
  | [] => [[]]
  | b :: l => if b = c then [] :: cut c l else (match cut c l with | [] => [[b]] | q :: qs => (b :: q) :: qs)
def onto (p : List UInt8) : List (List UInt8) → List (List UInt8)
  | [] => [p]
  | q :: qs => (p ++ q) :: qs
theorem cut_ne (c : UInt8) (l : List UInt8) : cut c l ≠ [] := by
  cases l with
  | nil => simp [cut]
  | cons b l =>
    unfold cut
    split
    · simp
    · split <;> simp
theorem cut_eq {c b : UInt8} (l : List UInt8) (h : b = c) : cut c (b :: l) = [] :: cut c l := by
  rw [cut, if_pos h]
theorem cut_miss {c b : UInt8} (l : List UInt8) (h : b ≠ c) : cut c (b :: l) = onto [b] (cut c l) := by
  rw [cut, if_neg h]
  cases cut c l with
  | nil => rfl
  | cons q qs => rfl
theorem onto_onto (p r : List UInt8) (L : List (List UInt8)) (h : L ≠ []) : onto p (onto r L) = onto (p ++ r) L := by
  cases L with
  | nil => exact absurd rfl h
  | cons q qs => simp [onto]
theorem onto_nil (L : List (List UInt8)) (h : L ≠ []) : onto [] L = L := by
  cases L with
  | nil => exact absurd rfl h
  | cons q qs => rfl
theorem join_onto (c : UInt8) (p : List UInt8) (L : List (List UInt8)) (h : L ≠ []) : Go.Lib.join (onto p L) [c] = p ++ Go.Lib.join L [c] := by
  cases L with
  | nil => exact absurd rfl h
  | cons q qs => rw [onto, Go.Lib.join_cons, Go.Lib.join_cons, List.append_assoc]
theorem join_cut (c : UInt8) : ∀ l : List UInt8, Go.Lib.join (cut c l) [c] = l
  | [] => by rw [cut, Go.Lib.join_one]
  | b :: l => by
    by_cases h : b = c
    · rw [cut_eq l h]
      have ih := join_cut c l
      cases hc : cut c l with
      | nil => exact absurd hc (cut_ne c l)
      | cons q qs =>
        rw [hc, Go.Lib.join_cons] at ih
        rw [Go.Lib.join_cons, List.nil_append]
        have e : Go.Lib.joinTail [c] (q :: qs) = c :: (q ++ Go.Lib.joinTail [c] qs) := by simp [Go.Lib.joinTail]
        rw [e, ih, h]
    · rw [cut_miss l h, join_onto _ _ _ (cut_ne c l), join_cut c l]
      rfl
theorem cut_free (c : UInt8) : ∀ p : List UInt8, (∀ b ∈ p, b ≠ c) → cut c p = [p]
  | [], _ => rfl
  | b :: p, h => by rw [cut_miss p (h b (by simp)), cut_free c p (fun x hx => h x (by simp [hx]))]; rfl
theorem cut_app (c : UInt8) (l : List UInt8) : ∀ p : List UInt8, (∀ b ∈ p, b ≠ c) → cut c (p ++ l) = onto p (cut c l)
  | [], _ => by rw [onto_nil _ (cut_ne c l)]; rfl
  | b :: p, h => by
    rw [List.cons_append, cut_miss _ (h b (by simp)), cut_app c l p (fun x hx => h x (by simp [hx])), onto_onto _ _ _ (cut_ne c l)]
    rfl
theorem cut_join (c : UInt8) : ∀ ws : List (List UInt8), ws ≠ [] → (∀ w ∈ ws, ∀ b ∈ w, b ≠ c) → cut c (Go.Lib.join ws [c]) = ws
  | [], h, _ => absurd rfl h
  | [w], _, h => by rw [Go.Lib.join_one]; exact cut_free c w (h w (by simp))
  | w :: v :: r, _, h => by
    have ih := cut_join c (v :: r) (by simp) (fun x hx => h x (by simp [hx]))
    rw [Go.Lib.join_cons]
    have e : Go.Lib.joinTail [c] (v :: r) = c :: Go.Lib.join (v :: r) [c] := by rw [Go.Lib.join_cons]; simp [Go.Lib.joinTail]
    rw [e, cut_app c _ w (h w (by simp)), cut_eq _ rfl, ih]
    simp [onto]
theorem index_hit (c : UInt8) (l : List UInt8) : Go.Lib.index (c :: l) [c] = 0 := by rw [Go.Lib.index]; simp [List.isPrefixOf]
theorem index_miss {b c : UInt8} (l : List UInt8) (h : b ≠ c) : Go.Lib.index (b :: l) [c] = if Go.Lib.index l [c] == -1 then -1 else Go.Lib.index l [c] + 1 := by
  have hp : ([c] : List UInt8).isPrefixOf (b :: l) = false := by simp [List.isPrefixOf, Ne.symm h]
  rw [Go.Lib.index, hp]; simp
theorem splitK_miss {b c : UInt8} (h : b ≠ c) : ∀ (k : Nat) (l : List UInt8), Go.Lib.splitK [c] 0 k (b :: l) = onto [b] (Go.Lib.splitK [c] 0 k l)
  | 0, l => rfl
  | k + 1, l => by
    have hge := Go.Lib.index_ge l [c]
    by_cases e : Go.Lib.index l [c] = -1
    · have hix : Go.Lib.index (b :: l) [c] = -1 := by rw [index_miss l h, if_pos (by rw [e]; rfl)]
      unfold Go.Lib.splitK
      rw [hix, e]
      rfl
    · have e1 : (Go.Lib.index l [c] == -1) = false := by rw [beq_eq_false_iff_ne]; exact e
      have e2 : (Go.Lib.index l [c] + 1 == -1) = false := by rw [beq_eq_false_iff_ne]; omega
      have hix : Go.Lib.index (b :: l) [c] = Go.Lib.index l [c] + 1 := by rw [index_miss l h, if_neg (by rw [e1]; simp)]
      unfold Go.Lib.splitK
      rw [hix, e1, e2, if_neg Bool.false_ne_true, if_neg Bool.false_ne_true]
      obtain ⟨j, hj⟩ : ∃ j : Nat, Go.Lib.index l [c] = j := ⟨(Go.Lib.index l [c]).toNat, by omega⟩
      rw [hj, show ((j : Int) + 1).toNat = j + 1 from by omega, Int.toNat_natCast]
      simp only [onto, Nat.add_zero, List.length_cons, List.length_nil, Nat.zero_add, List.take_succ_cons, List.drop_succ_cons, List.cons_append, List.nil_append]
theorem splitK_cut (c : UInt8) : ∀ l : List UInt8, Go.Lib.splitK [c] 0 (l.count c) l = cut c l
  | [] => rfl
  | b :: l => by
    by_cases h : b = c
    · subst h
      rw [cut_eq l rfl, List.count_cons_self, Go.Lib.splitK, index_hit, if_neg (by simp), ← splitK_cut b l]
      simp
    · rw [cut_miss l h, List.count_cons_of_ne (by simpa using h), splitK_miss h, splitK_cut c l]
/-- The pieces as strings. -/
def cutB (c : UInt8) (s : ByteArray) : List ByteArray := (cut c s.data.toList).map fun l => ⟨l.toArray⟩
theorem cutB_data (c : UInt8) (s : ByteArray) : (cutB c s).map (·.data.toList) = cut c s.data.toList := by
  unfold cutB; rw [List.map_map]
  have : ((fun x : ByteArray => x.data.toList) ∘ fun l : List UInt8 => (⟨l.toArray⟩ : ByteArray)) = id := by funext l; rfl
  rw [this, List.map_id]
theorem map_inj_data : ∀ {a b : List ByteArray}, a.map (·.data.toList) = b.map (·.data.toList) → a = b
  | [], [], _ => rfl
  | [], y :: b, h => by simp at h
  | x :: a, [], h => by simp at h
  | x :: a, y :: b, h => by
    rw [List.map_cons, List.map_cons] at h
    have h1 := List.cons.inj h
    rw [ba_ext h1.1, map_inj_data h1.2]
theorem count_B (s : ByteArray) (c : UInt8) : Go.Lib.countB s ⟨#[c]⟩ = s.data.toList.count c := by
  have h1 := Go.Lib.count_one c s.data.toList
  exact h1.symm ▸ rfl
theorem split_cut (s : ByteArray) (c : UInt8) : strings_Split.v s ⟨#[c]⟩ = cutB c s := by
  apply map_inj_data
  rw [cutB_data]
  unfold strings_Split.v
  rw [Go.Lib.splitB_data, count_B]
  exact splitK_cut c s.data.toList
theorem data_len (s : ByteArray) : s.data.toList.length = s.size := by rw [Array.length_toList]; rfl
theorem bt_data (s : ByteArray) (i : Nat) (h : i < s.data.toList.length) : bt s (i : Int) = ((s.data.toList[i]).toNat : Int) := by
  have hs : i < s.size := by rw [← data_len]; exact h
  have e := bt_at s (i : Int) (by rw [Int.toNat_natCast]; exact hs)
  rw [← e]
  simp only [Int.toNat_natCast]
  congr 1
/-! Numbers -/
def rdl : List UInt8 → Int → Int
  | [], n => n
  | b :: l, n => if (b.toNat : Int) < 48 then -1 else if (b.toNat : Int) > 57 then -1 else rdl l (10 * n + ((b.toNat : Int) - 48))
def readV (s : ByteArray) : Int := if 1 ≤ s.size ∧ s.size ≤ 6 then (if bt s 0 = 48 ∧ s.size > 1 then -1 else rdl s.data.toList 0) else -1
theorem rdl_ge : ∀ (l : List UInt8) (n : Int), 0 ≤ n → rdl l n = -1 ∨ n ≤ rdl l n
  | [], n, _ => .inr (Int.le_refl _)
  | b :: l, n, h => by
    unfold rdl
    split
    · exact .inl rfl
    · split
      · exact .inl rfl
      · rcases rdl_ge l (10 * n + ((b.toNat : Int) - 48)) (by omega) with e | e
        · exact .inl e
        · exact .inr (by omega)
theorem byte_of {b : UInt8} {n : Nat} (h : b.toNat = n) (hn : n < 256) : b = UInt8.ofNat n := by
  apply UInt8.toNat_inj.1
  rw [h, UInt8.toNat_ofNat', Nat.mod_eq_of_lt (by omega)]
theorem readV_nm (s : ByteArray) (h0 : 0 ≤ readV s) (h1 : readV s < 13) : s = nm (readV s) := by
  have hlen := data_len s
  have hd : ∀ c1 : 1 ≤ s.size ∧ s.size ≤ 6, readV s = (if bt s 0 = 48 ∧ s.size > 1 then -1 else rdl s.data.toList 0) := fun c1 => by unfold readV; rw [if_pos c1]
  by_cases c : 1 ≤ s.size ∧ s.size ≤ 6
  · have hv := hd c
    by_cases c2 : bt s 0 = 48 ∧ s.size > 1
    · rw [if_pos c2] at hv; omega
    · rw [if_neg c2] at hv
      have hb0 := bt_data s 0 (by omega)
      apply ba_ext
      generalize readV s = v at h0 h1 hv ⊢
      cases hl : s.data.toList with
      | nil => rw [hl] at hlen; simp only [List.length_nil] at hlen; omega
      | cons a l =>
        rw [hl] at hv hlen
        have ea : bt s 0 = (a.toNat : Int) := by
          rw [show (0 : Int) = ((0 : Nat) : Int) from rfl, hb0]
          simp [hl]
        unfold rdl at hv
        by_cases a1 : (a.toNat : Int) < 48
        · rw [if_pos a1] at hv; omega
        · by_cases a2 : (a.toNat : Int) > 57
          · rw [if_neg a1, if_pos a2] at hv; omega
          · rw [if_neg a1, if_neg a2] at hv
            cases l with
            | nil =>
              simp only [rdl] at hv
              unfold nm
              rw [if_pos (by omega), byte_of (b := a) (n := 48 + v.toNat) (by omega) (by omega)]
            | cons b l =>
              have hgt : s.size > 1 := by simp only [List.length_cons] at hlen; omega
              have ha48 : (a.toNat : Int) ≠ 48 := fun h => c2 ⟨by rw [ea]; exact h, hgt⟩
              unfold rdl at hv
              by_cases b1 : (b.toNat : Int) < 48
              · rw [if_pos b1] at hv; omega
              · by_cases b2 : (b.toNat : Int) > 57
                · rw [if_neg b1, if_pos b2] at hv; omega
                · rw [if_neg b1, if_neg b2] at hv
                  cases l with
                  | nil =>
                    simp only [rdl] at hv
                    unfold nm
                    rw [if_neg (by omega), byte_of (b := a) (n := 49) (by omega) (by omega), byte_of (b := b) (n := 48 + (v - 10).toNat) (by omega) (by omega)]
                    rfl
                  | cons d l =>
                    unfold rdl at hv
                    by_cases d1 : (d.toNat : Int) < 48
                    · rw [if_pos d1] at hv; omega
                    · by_cases d2 : (d.toNat : Int) > 57
                      · rw [if_neg d1, if_pos d2] at hv; omega
                      · rw [if_neg d1, if_neg d2] at hv
                        rcases rdl_ge l (10 * (10 * (10 * 0 + ((a.toNat : Int) - 48)) + ((b.toNat : Int) - 48)) + ((d.toNat : Int) - 48)) (by omega) with e | e <;> omega
  · have : readV s = -1 := by unfold readV; rw [if_neg c]
    omega
theorem nm_facts : (List.range 13).all (fun n => decide (readV (nm (n : Int)) = (n : Int)) && decide (numV (nm (n : Int)) = some (n : Int)) && (nm (n : Int)).data.toList.all (fun b => decide (b ≠ 44) && decide (b ≠ 47))) = true := by decide +kernel
theorem nm_read (x : Int) (h0 : 0 ≤ x) (h1 : x < 13) : readV (nm x) = x ∧ numV (nm x) = some x ∧ ∀ b ∈ (nm x).data.toList, b ≠ 44 ∧ b ≠ 47 := by
  obtain ⟨n, rfl⟩ : ∃ n : Nat, x = (n : Int) := ⟨x.toNat, by omega⟩
  have h := List.all_eq_true.1 nm_facts n (List.mem_range.2 (by omega))
  simp only [Bool.and_eq_true, List.all_eq_true, decide_eq_true_eq] at h
  exact ⟨h.1.1, h.1.2, fun b hb => h.2 b hb⟩
def rowV (r : ByteArray) : List Int := (cutB 44 r).map readV
def matV (s : ByteArray) : List (List Int) := (cutB 47 s).map rowV
def endS (m : List (List Int)) : List (List Int) × Bool := if isMat m then (m, true) else ([], false)
theorem cutB_ne (c : UInt8) (s : ByteArray) : cutB c s ≠ [] := by
  intro h
  have := congrArg List.length h
  unfold cutB at this
  rw [List.length_map] at this
  exact cut_ne c _ (List.length_eq_zero_iff.1 this)
theorem TJ_cut (c : UInt8) (s : ByteArray) : TJ ⟨#[c]⟩ (cutB c s) = s := by
  apply ba_ext
  rw [TJ_data, cutB_data]
  exact join_cut c _
/-! The program's -/
def rowN (r : ByteArray) : List Int × Bool := impl_numbersOf.g (cutB 44 r)
def endI (s : ByteArray) (m : List (List Int)) : List (List Int) × Bool := if isMat m ∧ (matT m).toList = s.toList then (m, true) else ([], false)
theorem numbersOf_eq (r : ByteArray) (h : r.size ≤ 1048576) : impl_numbersOf.f r = some (rowN r) := by
  unfold impl_numbersOf.f strings_Split.f
  rw [if_pos ⟨h, Nat.le_refl 1⟩]
  show some (impl_numbersOf.g (strings_Split.v r ⟨#[44]⟩)) = _
  rw [split_cut]; rfl
def implRes (s : ByteArray) : List (List Int) × Bool := if (cutB 47 s).length ≤ 12 ∧ (cutB 47 s).all (fun r => (rowN r).2) = true then endI s ((cutB 47 s).map fun r => (rowN r).1) else ([], false)
/-! Both alike -/
theorem few_nums {ws : List ByteArray} (h : ∀ x ∈ ws, 0 ≤ readV x ∧ readV x < 13) : numsOk ws = true ∧ numsW ws = ws.map readV ∧ (ws.map readV).map nm = ws := by
  have h1 : ∀ x ∈ ws, numV x = some (readV x) := fun x hx => by
    have e := readV_nm x (h x hx).1 (h x hx).2
    have := (nm_read (readV x) (h x hx).1 (h x hx).2).2.1
    rw [← e] at this
    exact this
  refine ⟨?_, ?_, ?_⟩
  · unfold numsOk
    rw [List.all_eq_true]
    intro x hx
    rw [h1 x hx]; rfl
  · unfold numsW
    apply List.map_congr_left
    intro x hx
    rw [h1 x hx]; rfl
  · rw [List.map_map]
    conv => rhs; rw [← List.map_id ws]
    apply List.map_congr_left
    intro x hx
    exact (readV_nm x (h x hx).1 (h x hx).2).symm
theorem rowN_few {r : ByteArray} (h : Few (rowV r)) : rowN r = (rowV r, true) ∧ rowT (rowV r) = r := by
  have hw : ∀ x ∈ cutB 44 r, 0 ≤ readV x ∧ readV x < 13 := fun x hx => h.2 _ (List.mem_map.2 ⟨x, hx, rfl⟩)
  obtain ⟨h1, h2, h3⟩ := few_nums hw
  have hl : (cutB 44 r).length ≤ 12 := by have := h.1; unfold rowV at this; rwa [List.length_map] at this
  refine ⟨?_, ?_⟩
  · unfold rowN impl_numbersOf.g
    rw [if_neg (by omega), if_pos h1, h2]; rfl
  · unfold rowT rowV
    rw [h3]
    exact TJ_cut 44 r
theorem join_mem (c : UInt8) : ∀ ws : List (List UInt8), ∀ b ∈ Go.Lib.join ws [c], b = c ∨ ∃ w ∈ ws, b ∈ w
  | [], b, h => by
    have : b ∈ ([] : List UInt8) := h
    simp at this
  | x :: r, b, h => by
    rw [Go.Lib.join_cons] at h
    rcases List.mem_append.1 h with h | h
    · exact .inr ⟨x, by simp, h⟩
    · unfold Go.Lib.joinTail at h
      obtain ⟨l, hl, hb⟩ := List.mem_flatten.1 h
      obtain ⟨w, hw, rfl⟩ := List.mem_map.1 hl
      rcases List.mem_append.1 hb with hb | hb
      · exact .inl (by simpa using hb)
      · exact .inr ⟨w, by simp [hw], hb⟩
theorem cutB_TJ (c : UInt8) (ws : List ByteArray) (hne : ws ≠ []) (h : ∀ w ∈ ws, ∀ b ∈ w.data.toList, b ≠ c) : cutB c (TJ ⟨#[c]⟩ ws) = ws := by
  apply map_inj_data
  rw [cutB_data, TJ_data]
  exact cut_join c _ (by simpa using hne) (fun w hw => by obtain ⟨x, hx, rfl⟩ := List.mem_map.1 hw; exact h x hx)
theorem rowT_back {r : List Int} (h : Few r) (hne : r ≠ []) : rowV (rowT r) = r ∧ ∀ b ∈ (rowT r).data.toList, b ≠ 47 := by
  have h1 : ∀ w ∈ r.map nm, ∀ b ∈ w.data.toList, b ≠ 44 ∧ b ≠ 47 := fun w hw => by
    obtain ⟨x, hx, rfl⟩ := List.mem_map.1 hw
    exact (nm_read x (h.2 x hx).1 (h.2 x hx).2).2.2
  refine ⟨?_, ?_⟩
  · unfold rowV rowT
    rw [show comma = ⟨#[44]⟩ from rfl, cutB_TJ 44 (r.map nm) (by simpa using hne) (fun w hw b hb => (h1 w hw b hb).1), List.map_map]
    conv => rhs; rw [← List.map_id r]
    apply List.map_congr_left
    intro x hx
    exact (nm_read x (h.2 x hx).1 (h.2 x hx).2).1
  · intro b hb
    unfold rowT at hb
    rw [TJ_data] at hb
    rcases join_mem 44 _ b hb with rfl | ⟨w, hw, hbw⟩
    · decide
    · obtain ⟨x, hx, rfl⟩ := List.mem_map.1 hw
      exact (h1 x hx b hbw).2
theorem isMat_row_ne {m : List (List Int)} (g : isMat m) : ∀ r ∈ m, r ≠ [] := by
  intro r hr e
  obtain ⟨i, hi, rfl⟩ := List.mem_iff_getElem.1 hr
  have h1 := (g.2.1 i hi).1
  rw [getD_lt _ _ _ hi, e] at h1
  simp only [List.length_nil] at h1
  omega
theorem toList_inj {a b : ByteArray} (h : a.toList = b.toList) : a = b := by
  rw [ByteArray.toList_eq, ByteArray.toList_eq] at h
  exact ba_ext h
theorem both (s : ByteArray) : endS (matV s) = implRes s := by
  by_cases g : isMat (matV s)
  · have hf := isMat_few g
    have hrow : ∀ r ∈ cutB 47 s, rowN r = (rowV r, true) ∧ rowT (rowV r) = r := fun r hr => rowN_few (hf _ (List.mem_map.2 ⟨r, hr, rfl⟩))
    have hl : (cutB 47 s).length ≤ 12 := by have := g.1; unfold matV at this; rwa [List.length_map] at this
    have hall : (cutB 47 s).all (fun r => (rowN r).2) = true := by
      rw [List.all_eq_true]
      intro r hr
      rw [(hrow r hr).1]
    have hm : ((cutB 47 s).map fun r => (rowN r).1) = matV s := by
      unfold matV
      apply List.map_congr_left
      intro r hr
      rw [(hrow r hr).1]
    have ht : matT (matV s) = s := by
      unfold matT matV
      rw [List.map_map]
      have : (cutB 47 s).map (rowT ∘ rowV) = cutB 47 s := by
        conv => rhs; rw [← List.map_id (cutB 47 s)]
        apply List.map_congr_left
        intro r hr
        exact (hrow r hr).2
      rw [this]
      exact TJ_cut 47 s
    unfold endS implRes endI
    rw [if_pos g, if_pos ⟨hl, hall⟩, hm, if_pos ⟨g, by rw [ht]⟩]
  · unfold endS implRes
    rw [if_neg g]
    by_cases c : (cutB 47 s).length ≤ 12 ∧ (cutB 47 s).all (fun r => (rowN r).2) = true
    · rw [if_pos c]
      unfold endI
      by_cases d : isMat ((cutB 47 s).map fun r => (rowN r).1) ∧ (matT ((cutB 47 s).map fun r => (rowN r).1)).toList = s.toList
      · exfalso
        obtain ⟨g2, e⟩ := d
        have es := toList_inj e
        revert g2 es
        generalize hm : ((cutB 47 s).map fun r => (rowN r).1) = m
        intro g2 es
        have hmne : m ≠ [] := by
          intro h0
          rw [h0] at hm
          exact cutB_ne 47 s (List.map_eq_nil_iff.1 hm)
        have hf := isMat_few g2
        have hr := isMat_row_ne g2
        have hP : cutB 47 s = m.map rowT := by
          rw [← es]
          unfold matT
          exact cutB_TJ 47 (m.map rowT) (by simpa using hmne) (fun w hw => by obtain ⟨r, hr1, rfl⟩ := List.mem_map.1 hw; exact (rowT_back (hf r hr1) (hr r hr1)).2)
        have hV : matV s = m := by
          unfold matV
          rw [hP, List.map_map]
          conv => rhs; rw [← List.map_id m]
          apply List.map_congr_left
          intro r hr1
          exact (rowT_back (hf r hr1) (hr r hr1)).1
        exact g (hV ▸ g2)
      · rw [if_neg d]
    · rw [if_neg c]
theorem nm_bytes : (List.range 13).all (fun a => (nm (a : Int)).data.toList.all (fun b => decide (b ≠ 44) && decide (b ≠ 47)) && !(nm (a : Int)).data.toList.isEmpty) = true := by decide +kernel
theorem nm_freeA {x : Int} (hx : 0 ≤ x ∧ x < 13) : (∀ b ∈ (nm x).data.toList, b ≠ 44 ∧ b ≠ 47) ∧ (nm x).data.toList ≠ [] := by
  obtain ⟨a, rfl⟩ : ∃ a : Nat, x = (a : Int) := ⟨x.toNat, by omega⟩
  have h := List.all_eq_true.1 nm_bytes a (List.mem_range.2 (by omega))
  simp only [Bool.and_eq_true] at h
  refine ⟨fun b hb => ?_, fun e => ?_⟩
  · have := List.all_eq_true.1 h.1 b hb
    simpa using this
  · rw [e] at h; exact absurd h.2 (by decide)
theorem rowT_data (r : List Int) : (rowT r).data.toList = Go.Lib.join ((r.map nm).map (·.data.toList)) [44] := rfl
theorem rowT_cut {r : List Int} (h : Few r) (hne : r ≠ []) : cut 44 (rowT r).data.toList = (r.map nm).map (·.data.toList) := by
  rw [rowT_data]
  refine cut_join 44 _ (by simpa using hne) (fun w hw b hb => ?_)
  rw [List.map_map, List.mem_map] at hw
  obtain ⟨x, hx, rfl⟩ := hw
  exact ((nm_freeA (h.2 x hx)).1 b hb).1
theorem rowT_ne {r : List Int} (h : Few r) (hr : r ≠ []) : (rowT r).data.toList ≠ [] := by
  intro e
  have h3 := rowT_cut h hr
  rw [e] at h3
  cases r with
  | nil => exact hr rfl
  | cons x r =>
    rw [List.map_cons, List.map_cons] at h3
    have : (nm x).data.toList = [] := by
      have h4 := congrArg List.head? h3
      simp [cut] at h4
      simpa using h4
    exact (nm_freeA (h.2 x (List.mem_cons_self ..))).2 this
/-! The reference's table -/
open Memo in
theorem tabW : ∀ (m a l : Nat), a + m ≤ 13 → l < 14 → asEn (asWaysT asOnesT m) a l = W m (l : Int) (a : Int)
  | 0, a, l, ha, hl => (asOnes_row.2 a (by omega)).2 l hl
  | m + 1, a, l, ha, hl => by
    have h1 : asEn (asWaysT asOnesT (m + 1)) a l = asCell (asWaysT asOnesT m) a l := ((asNext_sq (asWaysT asOnesT m)).2 a (by omega)).2 l hl
    rw [h1]
    unfold asCell
    rw [if_pos (by omega)]
    have main : ∀ x, x ≤ a + 2 → asAcc (asWaysT asOnesT m) a l x = psum (fun k : Nat => W m (k : Int) (nxt (l : Int) (a : Int) (k : Int))) x := by
      intro x
      induction x with
      | zero => intro _; rfl
      | succ x ih =>
        intro hx
        rw [asAcc_succ, ih (by omega)]
        have e : (if l < x then asEn (asWaysT asOnesT m) (a + 1) x else asEn (asWaysT asOnesT m) a x) = W m (x : Int) (nxt (l : Int) (a : Int) (x : Int)) := by
          unfold nxt
          by_cases c : l < x
          · rw [if_pos c, if_pos ⟨by omega, by omega⟩, tabW m (a + 1) x (by omega) (by omega)]; rfl
          · rw [if_neg c, if_neg (by omega), tabW m a x (by omega) (by omega)]
        rw [e]
        show wrap64 _ = psum _ x + _
        have b1 := psum_le (fun k : Nat => W m (k : Int) (nxt (l : Int) (a : Int) (k : Int))) (30 ^ m) (x + 1) (fun k _ => W_le m _ _ (by have := nxt_le (l : Int) (a : Int) (k : Int); omega) (by have := nxt_le (l : Int) (a : Int) (k : Int); omega))
        have b2 : psum (fun k : Nat => W m (k : Int) (nxt (l : Int) (a : Int) (k : Int))) (x + 1) = psum (fun k : Nat => W m (k : Int) (nxt (l : Int) (a : Int) (k : Int))) x + W m (x : Int) (nxt (l : Int) (a : Int) (x : Int)) := rfl
        have b3 := pow30 (show m ≤ 12 by omega)
        have b4 : ((x + 1 : Nat) : Int) * 30 ^ m ≤ 15 * 30 ^ m := Int.mul_le_mul_of_nonneg_right (by omega) (Int.pow_nonneg (by omega))
        exact w64 _ (by omega)
    rw [main (a + 2) (Nat.le_refl _)]
    show _ = psum _ (top (l : Int) (a : Int) + 1).toNat
    unfold top
    rw [if_neg (by omega), show ((a : Int) + 1 + 1).toNat = a + 2 from by omega]
theorem ones14 : spec_asOnes.f 14 = some asOnesT := rfl
theorem sq14 : asSq asOnesT = true := by decide
open Memo in
theorem asCount_ev (l : List Int) (n : Nat) (h1 : 1 ≤ l.length) (h2 : l.length ≤ n) (h3 : n ≤ 12) (h4 : 0 ≤ l.getD (l.length - 1) 0) (h5 : l.getD (l.length - 1) 0 ≤ 13) : Ev (fun k => spec_asCount.f k l (n : Int)) (W (n - l.length) (l.getD (l.length - 1) 0) (ascN l l.length : Int)) := by
  have e1 : wrap64 ((n : Int) - (l.length : Int)) = ((n - l.length : Nat) : Int) := by rw [wrap_small (by omega) (by omega)]; omega
  have e2 : wrap64 ((l.length : Int) - 1) = ((l.length - 1 : Nat) : Int) := by rw [wrap_small (by omega) (by omega)]; omega
  have hs := asWaysT_sq (asSq_ok sq14) (n - l.length)
  have ha := ascN_le l l.length
  have haa : ascN l l.length ≤ l.length - 1 ∨ ascN l l.length = 0 := by
    obtain ⟨m, hm⟩ : ∃ m, l.length = m + 1 := ⟨l.length - 1, by omega⟩
    rw [hm, ascN]
    have := ascN_le l m
    by_cases c : m = 0
    · subst c; right; simp [ascN]
    · left
      have : ∀ i, 1 ≤ i → ascN l i ≤ i - 1 := by
        intro i
        induction i with
        | zero => intro h; omega
        | succ i ih =>
          intro _
          rw [ascN]
          by_cases d : i = 0
          · subst d; simp [ascN]
          · have := ih (by omega); split <;> omega
      have h6 := this (m + 1) (by omega)
      rw [ascN] at h6
      omega
  unfold spec_asCount.f
  rw [e1, e2]
  have hw : spec_asWays.f ((n - l.length : Nat) : Int) = some (asWaysT asOnesT (n - l.length)) := by
    unfold spec_asWays.f
    rw [if_pos ⟨by omega, by omega⟩, ones14]
    show (if asSq asOnesT = true then some (asWaysT asOnesT ((n - l.length : Nat) : Int).toNat) else none) = _
    rw [if_pos sq14, Int.toNat_natCast]
  have hA := specAsc_ev l l.length (Nat.le_refl _) (by omega)
  rw [List.take_length] at hA
  obtain ⟨x, hx⟩ : ∃ x : Nat, l.getD (l.length - 1) 0 = (x : Int) := ⟨(l.getD (l.length - 1) 0).toNat, by omega⟩
  have hr := hs.2 (ascN l l.length) (by omega)
  refine Ev_val hw (Ev.bind hA (Ev_pos (by omega) (Ev_pos (by omega) (Ev_pos (by omega) (Ev_pos (by omega) ?_)))))
  rw [rd_nat, hx, rdL_nat, rd_nat]
  refine Ev_pos (by omega) (Ev_pos (by omega) (Ev_some ?_))
  exact tabW (n - l.length) (ascN l l.length) x (by omega) (by omega)
open Memo in
theorem asAll_ev (n : Nat) (h : n ≤ 12) : Ev (fun k => spec_asAll.f k (n : Int)) (W n (-1) 0) := by
  unfold spec_asAll.f
  by_cases c : n = 0
  · subst c; exact Ev_pos rfl (Ev_some rfl)
  · refine Ev_neg (by omega) (Ev.bind (asCount_ev [0] n (by simp) (by simp; omega) h (by decide) (by decide)) (Ev_some ?_))
    obtain ⟨m, rfl⟩ : ∃ m, n = m + 1 := ⟨n - 1, by omega⟩
    show W (m + 1 - 1) 0 0 = psum _ (0 + 1 : Int).toNat
    show W m 0 0 = 0 + W m ((0 : Nat) : Int) (nxt (-1) 0 ((0 : Nat) : Int))
    rw [Int.zero_add]; rfl
theorem ascN_congr (l l' : List Int) : ∀ i, (∀ j, j < i → l.getD j 0 = l'.getD j 0) → ascN l i = ascN l' i
  | 0, _ => rfl
  | i + 1, h => by
    rw [ascN, ascN, ascN_congr l l' i (fun j hj => h j (by omega)), h i (by omega)]
    by_cases c : 0 < i
    · rw [h (i - 1) (by omega)]
    · simp [c]
theorem app_get (out : List Int) (x : Int) : (∀ j, j < out.length → (out ++ [x]).getD j 0 = out.getD j 0) ∧ (out ++ [x]).getD out.length 0 = x := by
  refine ⟨fun j hj => ?_, ?_⟩
  · rw [List.getD_eq_getElem?_getD, List.getElem?_append_left hj, ← List.getD_eq_getElem?_getD]
  · rw [List.getD_eq_getElem?_getD, List.getElem?_append_right (by omega), Nat.sub_self]; rfl
open Memo in
/-- What is known of a list with one number more. -/
theorem app_asc (out : List Int) (x : Int) (h : ∀ i, i < out.length → 0 ≤ out.getD i 0) : (ascN (out ++ [x]) (out.length + 1) : Int) = nxt (lstA out out.length) (ascN out out.length : Int) x := by
  obtain ⟨g1, g2⟩ := app_get out x
  have h1 := nxt_asc (out ++ [x]) out.length (by
    by_cases c : out.length = 0
    · exact .inl c
    · right; rw [g1 _ (by omega)]; exact h _ (by omega))
  rw [g2] at h1
  rw [← h1, ascN_congr (out ++ [x]) out out.length (fun j hj => g1 j hj)]
  congr 1
  unfold lstA
  by_cases c : out.length = 0
  · rw [if_pos c, if_pos c]
  · rw [if_neg c, if_neg c, g1 _ (by omega)]
open Memo in
theorem pick_le (m : Nat) (l a : Int) : ∀ (q k : Nat) (r : Int) (k' : Nat) (r' : Int), pick m l a q k r = some (k', r') → k ≤ k'
  | 0, k, r, k', r', h => by simp [pick] at h
  | q + 1, k, r, k', r', h => by
    unfold pick at h
    split at h
    · obtain ⟨rfl, rfl⟩ := Prod.mk.inj (Option.some.inj h); exact Nat.le_refl _
    · have := pick_le m l a q (k + 1) _ k' r' h; omega
theorem own_eq (l : List Int) (h : l.length < 1000) : spec_l1Own.f l = some l := by
  unfold spec_l1Own.f
  simp
  omega
open Memo in
theorem specW_l1 (n : Nat) (hn : n ≤ 12) (out : List Int) (m : Nat) (hm : out.length + m + 1 = n) (h0 : ∀ i, i < out.length → 0 ≤ out.getD i 0) (k' : Nat) (r' : Int) (hk : k' ≤ 13) (R : List Int × Bool)
    (hR : Ev (fun k => spec_AscentWith.l0 k (n : Int) r' (out ++ [(k' : Int)])) R) : ∀ (q j : Nat) (r : Int), pick m (lstA out out.length) (ascN out out.length : Int) q j r = some (k', r') → 0 ≤ r → r ≤ 531441000000000000 →
    Ev (fun k => spec_AscentWith.l1 k (n : Int) r out (j : Int) (W m (j : Int) (nxt (lstA out out.length) (ascN out out.length : Int) (j : Int)))) R
  | 0, j, r, h, _, _ => by simp [pick] at h
  | q + 1, j, r, h, hr, hr2 => by
    unfold pick at h
    have hw := W_nn m (j : Int) (nxt (lstA out out.length) (ascN out out.length : Int) (j : Int)) (by have := nxt_le (lstA out out.length) (ascN out out.length : Int) (j : Int); omega) (by have := nxt_le (lstA out out.length) (ascN out out.length : Int) (j : Int); have := ascN_le out out.length; omega)
    by_cases c : r < W m (j : Int) (nxt (lstA out out.length) (ascN out out.length : Int) (j : Int))
    · rw [if_pos c] at h
      obtain ⟨rfl, rfl⟩ := Prod.mk.inj (Option.some.inj h)
      exact Ev.step (fun k => by rw [spec_AscentWith.l1]) (Ev_neg (by omega) (Ev_pos (by omega) hR))
    · rw [if_neg c] at h
      have hle := pick_le m _ _ q (j + 1) _ k' r' h
      have hrec := specW_l1 n hn out m hm h0 k' r' hk R hR q (j + 1) _ h (by omega) (by omega)
      refine Ev.step (fun k => by rw [spec_AscentWith.l1]) (Ev_pos (by omega) ?_)
      rw [wrap_succ (i := j) (by omega), wrap_small (x := r - _) (by omega) (by omega)]
      refine Ev_val (own_eq out (by omega)) (Ev_pos (by omega) ?_)
      obtain ⟨g1, g2⟩ := app_get out ((j + 1 : Nat) : Int)
      have hl : (out ++ [((j + 1 : Nat) : Int)]).length = out.length + 1 := by simp
      have hC := asCount_ev (out ++ [((j + 1 : Nat) : Int)]) n (by omega) (by omega) hn (by rw [hl, Nat.add_sub_cancel, g2]; omega) (by rw [hl, Nat.add_sub_cancel, g2]; omega)
      rw [hl, Nat.add_sub_cancel, g2, app_asc out _ h0, show n - (out.length + 1) = m from by omega] at hC
      exact Ev.bind hC hrec
open Memo in
theorem specW_l0 (n : Nat) (hn : n ≤ 12) : ∀ (m : Nat) (out : List Int) (r : Int) (ls : List Int), out.length + m = n → (∀ i, i < out.length → 0 ≤ out.getD i 0) → go m (lstA out out.length) (ascN out out.length : Int) r out = some ls → 0 ≤ r → r < W m (lstA out out.length) (ascN out out.length : Int) → Ev (fun k => spec_AscentWith.l0 k (n : Int) r out) (ls, true)
  | 0, out, r, ls, hl, _, h, _, _ => by
    obtain rfl : out = ls := Option.some.inj h
    exact Ev.step (fun k => by rw [spec_AscentWith.l0]) (Ev_neg (by omega) (Ev_some rfl))
  | m + 1, out, r, ls, hl, h0, h, hr, hr2 => by
    have ha := ascN_le out out.length
    have ht := top_le (lstA out out.length) (ascN out out.length : Int) (by omega)
    obtain ⟨k', r', p1, p2, p3, p4, p5⟩ := pick_spec m (lstA out out.length) (ascN out out.length : Int) (top (lstA out out.length) (ascN out out.length : Int) + 1).toNat 30 0 r (by omega) (by omega) hr (by show r + 0 < _; rw [Int.add_zero]; exact hr2)
    have hg : go m (k' : Int) (nxt (lstA out out.length) (ascN out out.length : Int) (k' : Int)) r' (out ++ [(k' : Int)]) = some ls := by
      have h2 : (pick m (lstA out out.length) (ascN out out.length : Int) 30 0 r).bind _ = some ls := h
      rw [p1] at h2
      exact h2
    obtain ⟨g1, g2⟩ := app_get out (k' : Int)
    have hlen : (out ++ [(k' : Int)]).length = out.length + 1 := by simp
    have el : lstA (out ++ [(k' : Int)]) (out ++ [(k' : Int)]).length = (k' : Int) := by unfold lstA; rw [hlen, if_neg (by omega), Nat.add_sub_cancel, g2]
    have ea : (ascN (out ++ [(k' : Int)]) (out ++ [(k' : Int)]).length : Int) = nxt (lstA out out.length) (ascN out out.length : Int) (k' : Int) := by rw [hlen]; exact app_asc out _ h0
    have hb := W_le (m + 1) (lstA out out.length) (ascN out out.length : Int) (by omega) (by omega)
    have hp := pow30 (show m + 1 ≤ 12 by omega)
    have hrec := specW_l0 n hn m (out ++ [(k' : Int)]) r' ls (by omega) (fun i hi => by
      by_cases c : i < out.length
      · rw [g1 i c]; exact h0 i c
      · obtain rfl : i = out.length := by omega
        rw [g2]; omega) (by rw [el, ea]; exact hg) p3 (by rw [el, ea]; exact p4)
    refine Ev.step (fun k => by rw [spec_AscentWith.l0]) (Ev_pos (by omega) (Ev_val (own_eq out (by omega)) (Ev_pos (show out.length < 17592186044416 by omega) ?_)))
    obtain ⟨f1, f2⟩ := app_get out 0
    have hlz : (out ++ [(0 : Int)]).length = out.length + 1 := by simp
    have hC := asCount_ev (out ++ [(0 : Int)]) n (by omega) (by omega) hn (by rw [hlz, Nat.add_sub_cancel, f2]; omega) (by rw [hlz, Nat.add_sub_cancel, f2]; omega)
    rw [hlz, Nat.add_sub_cancel, f2, app_asc out _ h0, show n - (out.length + 1) = m from by omega] at hC
    refine Ev.bind hC ?_
    have h8 : ¬ ascN out out.length ≥ 12 := by omega
    exact specW_l1 n hn out m (by omega) h0 k' r' (by omega) _ hrec 30 0 r p1 hr (by omega)
/-- What both sides answer. -/
def AwOk (z r : Int) : Prop := (0 ≤ z ∧ z ≤ 12) ∧ 0 ≤ r ∧ r < Memo.W z.toNat (-1) 0
open Memo in
theorem with_no {z r : Int} (h : ¬ AwOk z r) : impl_AscentWith.f z r = some ([], false) ∧ Ev (fun k => spec_AscentWith.f k z r) ([], false) := by
  refine ⟨?_, ?_⟩
  · show awith z r = _
    unfold awith
    by_cases c : 0 ≤ z ∧ z ≤ 12
    · rw [if_pos c, if_neg (fun h2 => h ⟨c, h2⟩)]
    · rw [if_neg c]
  · unfold spec_AscentWith.f
    refine Ev_val (in_eq z 0 12) ?_
    by_cases c : 0 ≤ z ∧ z ≤ 12
    · obtain ⟨n, rfl⟩ : ∃ n : Nat, z = (n : Int) := ⟨z.toNat, by omega⟩
      have hb := W_le n (-1) 0 (by omega) (by omega)
      have hp := pow30 (show n ≤ 12 by omega)
      refine Ev_pos (decide_eq_true c) (Ev.bind (asAll_ev n (by omega)) ?_)
      rw [wrap_small (x := W n (-1) 0 - 1) (by omega) (by omega)]
      refine Ev_val (in_eq r 0 _) ?_
      rw [decide_eq_false (fun h2 => h ⟨c, h2.1, by rw [Int.toNat_natCast]; omega⟩)]
      exact Ev.step (fun k => by rw [spec_AscentWith.j0]) (Ev_pos (show (!false) = true from rfl) (Ev_some rfl))
    · exact Ev_neg (by simpa using c) (Ev.step (fun k => by rw [spec_AscentWith.j0]) (Ev_pos rfl (Ev_some rfl)))
open Memo in
theorem with_yes {z r : Int} (h : AwOk z r) : ∃ s, impl_AscentWith.f z r = some (s, true) ∧ Ev (fun k => spec_AscentWith.f k z r) (s, true) ∧ s.length = z.toNat ∧ rkT s (-1) 0 = r ∧ okT s (-1) 0 := by
  obtain ⟨c, h0, h1⟩ := h
  obtain ⟨n, rfl⟩ : ∃ n : Nat, z = (n : Int) := ⟨z.toNat, by omega⟩
  rw [Int.toNat_natCast] at h1
  obtain ⟨s, s1, s2, s3, s4⟩ := go_T n (-1) 0 r [] (by omega) (by omega) h0 h1
  rw [List.nil_append] at s1
  refine ⟨s, ?_, ?_, by rw [Int.toNat_natCast]; exact s2, s3, s4⟩
  · show awith (n : Int) r = _
    unfold awith
    rw [if_pos c, Int.toNat_natCast, if_pos ⟨h0, h1⟩, s1]
    rfl
  · unfold spec_AscentWith.f
    have hb := W_le n (-1) 0 (by omega) (by omega)
    have hp := pow30 (show n ≤ 12 by omega)
    refine Ev_val (in_eq _ 0 12) (Ev_pos (decide_eq_true c) (Ev.bind (asAll_ev n (by omega)) ?_))
    rw [wrap_small (x := W n (-1) 0 - 1) (by omega) (by omega)]
    refine Ev_val (in_eq r 0 _) ?_
    rw [decide_eq_true ⟨h0, by omega⟩]
    refine Ev.step (fun k => by rw [spec_AscentWith.j0]) (Ev_neg (by decide) ?_)
    exact specW_l0 n (by omega) n [] r s (by simp) (fun i hi => by simp at hi) s1 h0 h1
def cntA (z : Int) : Int × Bool := if 0 ≤ z ∧ z ≤ 12 then (Memo.W z.toNat (-1) 0, true) else (0, false)
theorem count_both (z : Int) : impl_CountAscents.f z = some (cntA z) ∧ Ev (fun k => spec_CountAscents.f k z) (cntA z) := by
  unfold cntA
  refine ⟨?_, ?_⟩
  · show Memo.countA z = _
    unfold Memo.countA
    split <;> rfl
  · unfold spec_CountAscents.f
    refine Ev_val (in_eq z 0 12) ?_
    by_cases c : 0 ≤ z ∧ z ≤ 12
    · obtain ⟨n, rfl⟩ : ∃ n : Nat, z = (n : Int) := ⟨z.toNat, by omega⟩
      rw [if_pos c, Int.toNat_natCast]
      exact Ev_pos (decide_eq_true c) (Ev.bind (asAll_ev n (by omega)) (Ev_some rfl))
    · rw [if_neg c]; exact Ev_neg (by simpa using c) (Ev_some rfl)
theorem asc_few {l : List Int} (h : AscOk l) : Few l := by
  refine ⟨h.1, fun x hx => ?_⟩
  obtain ⟨i, hi, rfl⟩ := List.getElem_of_mem hx
  have h1 := h.2 i hi
  have h2 := bndA_rng l i
  have h3 := h.1
  rw [getD_lt _ _ _ hi] at h1
  omega
theorem rank_ev {l : List Int} (h : AscOk l) : impl_rankAscent.f l = some (rkT l (-1) 0) := by
  show Memo.rankF l = _
  unfold Memo.rankF
  have hf := asc_few h
  rw [if_pos ⟨h.1, fun i hi => by have := hf.2 (l.getD i 0) (by rw [getD_lt _ _ _ hi]; exact List.getElem_mem _); omega⟩, stR_all]
theorem RankAscent_ev {l : List Int} (h : AscOk l) : Ev (fun k => impl_RankAscent.f k l) (rkT l (-1) 0, true) := by
  unfold impl_RankAscent.f
  have := isAscent_ev l (by have := h.1; omega)
  rw [decide_eq_true h] at this
  exact Ev.bind this (Ev_pos rfl (Ev_val (rank_ev h) (Ev_some rfl)))
theorem NextAscent_ev {l : List Int} (h : AscOk l) {R : List Int × Bool} (hr : impl_AscentWith.f (l.length : Int) (wrap64 (rkT l (-1) 0 + 1)) = some R) : Ev (fun k => impl_NextAscent.f k l) R := by
  unfold impl_NextAscent.f
  have := isAscent_ev l (by have := h.1; omega)
  rw [decide_eq_true h] at this
  exact Ev.bind this (Ev_pos rfl (Ev_val (rank_ev h) (Ev_val hr (Ev_some rfl))))
theorem AscentText_ev {l : List Int} (h : AscOk l) : Ev (fun k => impl_AscentText.f k l) (rowT l, true) := by
  unfold impl_AscentText.f
  have := isAscent_ev l (by have := h.1; omega)
  rw [decide_eq_true h] at this
  exact Ev.bind this (Ev_pos rfl (Ev.bind (ascentText_ev l (asc_few h)) (Ev_some rfl)))
theorem ParseAscent_ev {l : List Int} (h : AscOk l) : Ev (fun k => impl_ParseAscent.f k (rowT l)) (l, true) := by
  unfold impl_ParseAscent.f
  have hf := asc_few h
  by_cases c : (rowT l).toList = []
  · refine Ev_pos c (Ev_some ?_)
    by_cases e : l = []
    · rw [e]
    · exact absurd (by rw [ByteArray.toList_eq] at c; exact c) (rowT_ne hf e)
  · have hne : l ≠ [] := by
      intro e
      rw [e] at c
      exact c (by rw [ByteArray.toList_eq]; rfl)
    have hb := (rowT_back hf hne).1
    have hp := (rowN_few (r := rowT l) (by rw [hb]; exact hf)).1
    rw [hb] at hp
    have hi := isAscent_ev l (by have := h.1; omega)
    rw [decide_eq_true h] at hi
    refine Ev_neg c (Ev_val ((numbersOf_eq (rowT l) (by have := rowT_size hf; omega)).trans (by rw [hp])) (Ev_pos rfl ?_))
    exact Ev.bind hi (Ev_pos rfl (Ev.bind (ascentText_ev l hf) (Ev_pos rfl (Ev_some rfl))))
theorem pLess_ev (s t : List Int) (hl : s.length ≤ 1000) (h : lexL s t) : Ev (fun k => laws_pLess.f k s t) true := by
  obtain ⟨j, j1, j2, j3, j4⟩ := h
  unfold laws_pLess.f
  have main : ∀ (d i : Nat), j - i = d → i ≤ j → Ev (fun k => laws_pLess.l0 k s t (i : Int)) true := by
    intro d
    induction d with
    | zero =>
      intro i hd hi
      obtain rfl : i = j := by omega
      refine Ev.step (fun k => by rw [laws_pLess.l0]) (Ev_pos (by omega) (Ev.step (fun k => by rw [laws_pLess.j1]) (Ev_pos (decide_eq_true (by omega)) (Ev_pos (by omega) (Ev_pos (by omega) (Ev_pos (by omega) ?_))))))
      rw [rd_nat, rd_nat]
      exact Ev_neg (by omega) (Ev_some (decide_eq_true j4))
    | succ d ih =>
      intro i hd hi
      refine Ev.step (fun k => by rw [laws_pLess.l0]) (Ev_pos (by omega) (Ev.step (fun k => by rw [laws_pLess.j1]) (Ev_pos (decide_eq_true (by omega)) (Ev_pos (by omega) (Ev_pos (by omega) (Ev_pos (by omega) ?_))))))
      rw [rd_nat, rd_nat, wrap_succ (by omega)]
      exact Ev_pos (j3 i (by omega)) (ih (i + 1) (by omega) (by omega))
  exact main _ 0 rfl (Nat.zero_le _)
theorem draw_with (c : List Int) (h : BytesOk c) : ∃ R : Int × Int, Ev (fun k => spec_DrawAscentWith.f k c) R := by
  have hc : ∃ n a s, spec_l1Cur_counted.f c 0 0 = some (n, a, s) ∧ 0 ≤ a ∧ a ≤ 100 := by
    obtain ⟨b, a1, s1, e1, f0, f1⟩ := one_ok c h 0 0 6 (by decide) (by decide) (by decide)
    unfold spec_l1Cur_counted.f
    rw [e1]
    cases b with
    | true =>
      obtain ⟨v, a2, s2, e2, g0, g1⟩ := among_ok c h a1 s1 [-1, 0, 1, 12, 13] (by decide) (by decide) f0 (by omega)
      refine ⟨v, a2, s2, ?_, g0, by omega⟩
      rw [Option.bind_some, if_pos rfl, e2]; rfl
    | false =>
      obtain ⟨v, a2, s2, e2, _, _, g0, g1⟩ := pick_ok c h a1 s1 9 f0 (by omega) (by decide)
      refine ⟨v, a2, s2, ?_, g0, by omega⟩
      rw [Option.bind_some, if_neg Bool.false_ne_true, e2]; rfl
  obtain ⟨n, a, s, e, a0, a1⟩ := hc
  unfold spec_DrawAscentWith.f
  by_cases g : 0 ≤ n ∧ n ≤ 12
  · obtain ⟨m, rfl⟩ : ∃ m : Nat, n = (m : Int) := ⟨n.toNat, by omega⟩
    obtain ⟨b, a2, s2, e2, f0, f1⟩ := one_ok c h a s 6 a0 (by omega) (by decide)
    have hb := Memo.W_le m (-1) 0 (by omega) (by omega)
    have hp := Memo.pow30 (show m ≤ 12 by omega)
    cases b with
    | true =>
      obtain ⟨v, a3, s3, e3, _, _⟩ := among_ok c h a2 s2 [-1, 0, wrap64 (Memo.W m (-1) 0 - 1), Memo.W m (-1) 0] (by simp) (by simp) f0 (by omega)
      exact ⟨_, Ev_val e (Ev_pos g (Ev_val e2 (Ev.bind (asAll_ev m (by omega)) (Ev_pos rfl (Ev_val e3 (Ev_some rfl))))))⟩
    | false =>
      obtain ⟨v, a3, s3, e3, _⟩ := pick_ok c h a2 s2 (Memo.W m (-1) 0) f0 (by omega) (by omega)
      exact ⟨_, Ev_val e (Ev_pos g (Ev_val e2 (Ev.bind (asAll_ev m (by omega)) (Ev_neg Bool.false_ne_true (Ev_val e3 (Ev_some rfl))))))⟩
  · obtain ⟨v, a3, s3, e3, _⟩ := pick_ok c h a s 3 a0 (by omega) (by decide)
    exact ⟨_, Ev_val e (Ev_neg g (Ev_val e3 (Ev_some rfl)))⟩
theorem ranks_j0 {z r : Int} {L : List Int} {ok : Bool} (hc : ok = ((cntA z).2 && (decide (0 ≤ r) && decide (r < (cntA z).1)))) {R : Bool} (hR : Ev (fun k => lw.j1 k z r L ok (cntA z).1 false) R) : Ev (fun k => lw.j0 k z r L ok false) R := by
  obtain ⟨c1, c2⟩ := count_both z
  refine Ev.step (fun k => by rw [lw.j0]) (Ev_neg Bool.false_ne_true (Ev_val c1 (Ev.bind c2 (Ev_neg (show ¬ ((cntA z).2 != (cntA z).2) = true by simp) (Ev_pos rfl ?_)))))
  by_cases d : (cntA z).2 = true
  · refine Ev_pos d ?_
    rw [d, Bool.true_and] at hc
    by_cases e : r ≥ 0
    · refine Ev_pos e ?_
      rw [decide_eq_true (show 0 ≤ r from e), Bool.true_and] at hc
      have : (ok != decide (r < (cntA z).1)) = false := by rw [hc]; simp
      rw [this]; exact hR
    · refine Ev_neg e ?_
      rw [decide_eq_false (show ¬ 0 ≤ r from e), Bool.false_and] at hc
      have : (ok != false) = false := by rw [hc]; rfl
      rw [this]; exact hR
  · refine Ev_neg d ?_
    have d' : (cntA z).2 = false := by simpa using d
    rw [d', Bool.false_and] at hc
    have : (ok != false) = false := by rw [hc]; rfl
    rw [this]; exact hR
theorem FnAscentRanks : laws_FnAscentRanks.Pure := by
  intro c0 c1 _ _ w0 _ _ w1
  refine Ev.rounds ?_
  unfold laws_FnAscentRanks.f laws_big.f
  by_cases z0 : (c0.length : Int) > 1048576
  · exact Ev_val (if_pos z0) (Ev_pos rfl (Ev_some rfl))
  have hw : wrap64 (1048576 - (c0.length : Int)) = 1048576 - (c0.length : Int) := wrap_small (by omega) (by omega)
  refine Ev_val (if_neg z0) ?_
  by_cases z1 : (c1.length : Int) > wrap64 (1048576 - (c0.length : Int))
  · exact Ev_pos (decide_eq_true z1) (Ev_some rfl)
  have h0 : BytesOk c0 := ⟨by omega, fun x hx => wf_byte (w0 x hx)⟩
  obtain ⟨⟨z, r⟩, hD⟩ := draw_with c0 h0
  refine Ev_neg (by simpa using z1) (Ev.bind hD ?_)
  try simp only []
  by_cases h : AwOk z r
  · obtain ⟨s, i1, i2, i3, i4, i5⟩ := with_yes h
    obtain ⟨hz, hr0, hr1⟩ := h
    have hs12 : s.length ≤ 12 := by omega
    have hA := okT_asc s hs12 i5
    have e1 : cntA z = (Memo.W z.toNat (-1) 0, true) := if_pos hz
    refine Ev_val i1 (Ev.bind i2 (Ev_neg (show ¬ (true != true) = true by decide) (Ev.bind (pSame_refl s (by omega)) (ranks_j0 (by rw [e1, decide_eq_true hr0, decide_eq_true hr1]; rfl) ?_))))
    rw [e1]
    have hb := Memo.W_le z.toNat (-1) 0 (by omega) (by omega)
    have hp := Memo.pow30 (show z.toNat ≤ 12 by omega)
    have ew : wrap64 (r + 1) = r + 1 := wrap_small (by omega) (by omega)
    have hi := isAscent_ev s (by omega)
    rw [decide_eq_true hA] at hi
    have hlen : (s.length : Int) = z := by omega
    by_cases g : AwOk z (r + 1)
    · obtain ⟨t, t1, _, t3, t4, t5⟩ := with_yes g
      have hn := NextAscent_ev hA (R := (t, true)) (by rw [i4, hlen, ew]; exact t1)
      have hlex := rkT_lex s t (-1) 0 (by omega) (by omega) (by omega) i5 t5 (by omega)
      have hlt : decide (wrap64 (r + 1) < Memo.W z.toNat (-1) 0) = true := by rw [ew]; exact decide_eq_true g.2.2
      refine Ev.step (fun k => by rw [lw.j1]) (Ev_neg Bool.false_ne_true (Ev_pos rfl (Ev.bind (RankAscent_ev hA) (Ev.bind hn (Ev_val (show impl_AscentWith.f z (wrap64 (r + 1)) = some (t, true) by rw [ew]; exact t1) (Ev.bind (AscentText_ev hA) (Ev.bind (ParseAscent_ev hA) (Ev_pos rfl (Ev_pos rfl (Ev_pos rfl (Ev_pos i4 (Ev.bind hi (Ev_pos rfl (Ev_pos hlen (Ev_pos (show (true == decide (wrap64 (r + 1) < Memo.W z.toNat (-1) 0)) = true by rw [hlt]; rfl) (Ev_pos rfl (Ev.bind (pSame_refl t (by omega)) (Ev_pos rfl (Ev_pos rfl (Ev.bind (pLess_ev s t (by omega) hlex) (Ev_pos rfl (Ev.bind (pSame_refl s (by omega)) (Ev_some rfl)))))))))))))))))))))))
    · obtain ⟨t1, _⟩ := with_no g
      have hn := NextAscent_ev hA (R := ([], false)) (by rw [i4, hlen, ew]; exact t1)
      have hlt : decide (wrap64 (r + 1) < Memo.W z.toNat (-1) 0) = false := by rw [ew]; exact decide_eq_false (fun h2 => g ⟨hz, by omega, h2⟩)
      refine Ev.step (fun k => by rw [lw.j1]) (Ev_neg Bool.false_ne_true (Ev_pos rfl (Ev.bind (RankAscent_ev hA) (Ev.bind hn (Ev_val (show impl_AscentWith.f z (wrap64 (r + 1)) = some ([], false) by rw [ew]; exact t1) (Ev.bind (AscentText_ev hA) (Ev.bind (ParseAscent_ev hA) (Ev_pos rfl (Ev_pos rfl (Ev_pos rfl (Ev_pos i4 (Ev.bind hi (Ev_pos rfl (Ev_pos hlen (Ev_pos (show (false == decide (wrap64 (r + 1) < Memo.W z.toNat (-1) 0)) = true by rw [hlt]; rfl) (Ev_pos rfl (Ev.bind (pSame_refl [] (by simp)) (Ev_pos rfl (Ev_neg Bool.false_ne_true (Ev.bind (pSame_refl s (by omega)) (Ev_some rfl)))))))))))))))))))))
  · obtain ⟨i1, i2⟩ := with_no h
    refine Ev_val i1 (Ev.bind i2 (Ev_neg (show ¬ (false != false) = true by decide) (Ev.bind (pSame_refl [] (by simp)) (ranks_j0 ?_ ?_))))
    · unfold cntA
      by_cases c : 0 ≤ z ∧ z ≤ 12
      · rw [if_pos c]
        simp only [Bool.true_and]
        by_cases d : 0 ≤ r
        · rw [decide_eq_false (show ¬ r < Memo.W z.toNat (-1) 0 from fun h2 => h ⟨c, d, h2⟩)]; simp
        · rw [decide_eq_false d]; rfl
      · rw [if_neg c]; rfl
    · exact Ev.step (fun k => by rw [lw.j1]) (Ev_neg Bool.false_ne_true (Ev_neg Bool.false_ne_true (Ev_some rfl)))
end Go.Proofs.YtjmmleofnjcjoaaDoor.Pure
