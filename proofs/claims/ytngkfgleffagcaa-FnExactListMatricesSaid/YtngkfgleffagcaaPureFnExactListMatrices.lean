/- ListMatrices of the program and of the reference answer alike, for every number. -/
import Derived.Test.YtngkfgleffagcaaWalkFnExactListMatrices
import Derived.Test.YtngkfgleffagcaaWSized
namespace Go.Proofs.Ytngkfgleffagcaa.PrintWords
open Go.RowKit
/-- The words' theorem, under the name by which the printed row calls it. -/
theorem sized_ints {H : Type} {enc : TypeId × Value → H} {P : Program} {W : World} {base : Nat} {spare : Nat → Bool} {held : Bool} {t e : TypeId} {k : IntKind} {a : Option Addr} {len cap : Nat} {d : DataW H} {ps : List MemPlace} {ts : List TypeId} {ds : List (DataW H)} {j : Nat}
    (g0 : (DataW.weightsEach P ts ds).all (· ≤ reachBytes) = true) (g1 : ts[j]? = some t) (g2 : ds[j]? = some d) (g3 : P.underlying t = some (.slice e)) (g4 : P.underlying e = some (.int k)) (g5 : P.cellsOf e = 1) {B : Nat} (g6 : P.bytesOf e = B)
    (g7 : DataW.Trod enc P W base spare held t (.slice a len cap) d ps) : len * B ≤ 140737488351232 := Go.Proofs.YtngkfgleffagcaaW.PrintWords.sized_ints g0 g1 g2 g3 g4 g5 g6 g7
end Go.Proofs.Ytngkfgleffagcaa.PrintWords
set_option linter.unusedVariables false
namespace Go.Proofs.Ytngkfgleffagcaa.Pure
open Go.RowKit Go.Proofs.Ytngkfgleffagcaa.Kx Go.Proofs.YtngkfgleffagcaaW.PrintWords Go.Proofs.YtngkfgleffagcaaW.PrintLast Go.Proofs.YtngkfgleffagcaaW.PrintMore
section Prelude
theorem Ev_pos {α : Type} {c : Prop} [Decidable c] {f g : Nat → Option α} {r : α} (h : c) (k : Ev f r) : Ev (fun n => if c then f n else g n) r :=
  Ev.congr (fun _ => if_pos h) k
theorem Ev_neg {α : Type} {c : Prop} [Decidable c] {f g : Nat → Option α} {r : α} (h : ¬ c) (k : Ev g r) : Ev (fun n => if c then f n else g n) r :=
  Ev.congr (fun _ => if_neg h) k
theorem Ev_val {α β : Type} {g : Option α} {f : Nat → α → Option β} {a : α} {r : β} (h : g = some a) (k : Ev (fun n => f n a) r) : Ev (fun n => g.bind (f n)) r :=
  Ev.congr (fun _ => by rw [h]; rfl) k
theorem Ev_some {α : Type} {a r : α} (h : a = r) : Ev (fun _ => some a) r := ⟨0, fun _ _ => by rw [h]⟩
theorem Ev_eq {α : Type} {g : Nat → Option α} {a r : α} (h : Ev g a) (e : a = r) : Ev g r := e ▸ h
theorem wrap_small {x : Int} (h0 : -4611686018427387904 ≤ x) (h1 : x ≤ 4611686018427387904) : wrap64 x = x := by unfold wrap64; omega
theorem wrap_succ {i : Nat} (h : i ≤ 4611686018427387900) : wrap64 ((i : Int) + 1) = ((i + 1 : Nat) : Int) := by unfold wrap64; omega
theorem wrap_pred {i : Nat} (h : i ≤ 4611686018427387900) : wrap64 ((i + 1 : Nat) - 1 : Int) = (i : Int) := by unfold wrap64; omega
theorem rd_nat (xs : List Int) (i : Nat) : rd xs (i : Int) = xs.getD i 0 := by simp [rd]
theorem getD_lt {α : Type} (xs : List α) (i : Nat) (z : α) (h : i < xs.length) : xs.getD i z = xs[i] := by simp [List.getD_eq_getElem?_getD, h]
theorem wf_range {x : Int} (h : (Lit.int .i64 x).wf = true) : -9223372036854775808 ≤ x ∧ x ≤ 9223372036854775807 := by
  simp [Lit.wf] at h
  exact h
theorem ext_getD {xs ys : List Int} (hl : xs.length = ys.length) (h : ∀ i, i < xs.length → xs.getD i 0 = ys.getD i 0) : xs = ys := by
  apply List.ext_getElem hl
  intro i h1 h2
  have := h i h1
  rwa [getD_lt _ _ _ h1, getD_lt _ _ _ h2] at this
theorem dec_eq {a b : Prop} [Decidable a] [Decidable b] (h : a ↔ b) : decide a = decide b := by simp [h]
/-- The rounds i, .., n - 1 of a loop. -/
def foldFrom {σ : Type} (n : Nat) (step : σ → Nat → σ) (s : σ) (i : Nat) : σ := (List.range' i (n - i)).foldl step s
theorem foldFrom_lt {σ : Type} {n : Nat} {step : σ → Nat → σ} {s : σ} {i : Nat} (h : i < n) : foldFrom n step s i = foldFrom n step (step s i) (i + 1) := by
  unfold foldFrom
  rw [show n - i = (n - (i + 1)) + 1 from by omega, List.range'_succ, List.foldl_cons]
theorem foldFrom_ge {σ : Type} {n : Nat} {step : σ → Nat → σ} {s : σ} {i : Nat} (h : n ≤ i) : foldFrom n step s i = s := by
  unfold foldFrom
  rw [show n - i = 0 from by omega]; rfl
/-- A loop that counts up to n: what a round does to the state, what holds of it, and what the end makes of it. -/
theorem Ev_for {σ ρ : Type} {l : Nat → σ → Nat → Option ρ} (n : Nat) (step : σ → Nat → σ) (fin : σ → ρ) (Inv : σ → Nat → Prop)
    (hinv : ∀ i s, i < n → Inv s i → Inv (step s i) (i + 1))
    (hstep : ∀ i s, i < n → Inv s i → ∀ r, Ev (fun k => l k (step s i) (i + 1)) r → Ev (fun k => l k s i) r)
    (hend : ∀ s, Inv s n → Ev (fun k => l k s n) (fin s)) :
    ∀ i s, i ≤ n → Inv s i → Ev (fun k => l k s i) (fin (foldFrom n step s i)) ∧ Inv (foldFrom n step s i) n := by
  have main : ∀ d i s, n - i = d → i ≤ n → Inv s i → Ev (fun k => l k s i) (fin (foldFrom n step s i)) ∧ Inv (foldFrom n step s i) n := by
    intro d
    induction d with
    | zero =>
      intro i s hd hi h
      obtain rfl : i = n := by omega
      rw [foldFrom_ge (Nat.le_refl _)]
      exact ⟨hend s h, h⟩
    | succ d ih =>
      intro i s hd hi h
      rw [foldFrom_lt (by omega)]
      obtain ⟨h1, h2⟩ := ih (i + 1) (step s i) (by omega) (by omega) (hinv i s (by omega) h)
      exact ⟨hstep i s (by omega) h _ h1, h2⟩
  exact fun i s hi h => main _ i s rfl hi h
/-- A loop that asks each round, and ends with 'no' at the first round that says no. -/
theorem Ev_all (l : Nat → Nat → Option Bool) (n : Nat) (P : Nat → Bool) (r : Bool)
    (hgo : ∀ i, i < n → (∀ j, j < i → P j = true) → P i = true → ∀ q, Ev (fun k => l k (i + 1)) q → Ev (fun k => l k i) q)
    (hno : ∀ i, i < n → (∀ j, j < i → P j = true) → P i = false → Ev (fun k => l k i) false)
    (hend : (∀ j, j < n → P j = true) → Ev (fun k => l k n) r) : Ev (fun k => l k 0) (decide (∀ j, j < n → P j = true) && r) := by
  have main : ∀ d i, n - i = d → i ≤ n → (∀ j, j < i → P j = true) → Ev (fun k => l k i) (decide (∀ j, j < n → P j = true) && r) := by
    intro d
    induction d with
    | zero =>
      intro i hd hi h
      obtain rfl : i = n := by omega
      rw [decide_eq_true h, Bool.true_and]
      exact hend h
    | succ d ih =>
      intro i hd hi h
      by_cases c : P i = true
      · refine hgo i (by omega) h c _ (ih (i + 1) (by omega) (by omega) (fun j hj => ?_))
        by_cases e : j = i
        · rw [e]; exact c
        · exact h j (by omega)
      · refine Ev_eq (hno i (by omega) h (by simpa using c)) ?_
        rw [decide_eq_false (fun hh => c (hh i (by omega))), Bool.false_and]
  exact main _ 0 rfl (by omega) (fun j hj => by omega)
end Prelude
theorem rdL_nat (xs : List (List Int)) (i : Nat) : rd_L1 xs (i : Int) = xs.getD i [] := by unfold rd_L1; rw [Int.toNat_natCast]
theorem getD_mem {α : Type} {xs : List α} {i : Nat} {z : α} (h : i < xs.length) : xs.getD i z ∈ xs := by rw [getD_lt _ _ _ h]; exact List.getElem_mem h
def Small (l : List (List Int)) : Prop := l.length ≤ 1048576 ∧ ∀ r ∈ l, r.length ≤ 1048576
theorem eqIntS_l0 (a b : List Int) (hl : a.length = b.length) (hs : a.length ≤ 4611686018427387000) : ∀ (d i : Nat), a.length - i = d → i ≤ a.length → Ev (fun k => laws_eqIntS.l0 k a b (i : Int)) (decide (a.drop i = b.drop i)) := by
  intro d
  induction d with
  | zero =>
    intro i hd hi
    refine Ev.step (fun k => by rw [laws_eqIntS.l0]) ?_
    refine Ev_neg (by omega) (Ev_some ?_)
    rw [List.drop_eq_nil_of_le (by omega), List.drop_eq_nil_of_le (by omega)]; rfl
  | succ d ih =>
    intro i hd hi
    refine Ev.step (fun k => by rw [laws_eqIntS.l0]) ?_
    refine Ev_pos (by omega) (Ev_pos (by omega) (Ev_pos (by omega) ?_))
    rw [rd_nat, rd_nat, getD_lt _ _ _ (by omega), getD_lt _ _ _ (by omega), wrap_succ (by omega), List.drop_eq_getElem_cons (show i < a.length by omega), List.drop_eq_getElem_cons (show i < b.length by omega)]
    by_cases e : a[i] = b[i]'(by omega)
    · refine Ev_pos e (Ev_eq (ih (i + 1) (by omega) (by omega)) ?_)
      exact dec_eq (by rw [e, List.cons.injEq]; exact ⟨fun h => ⟨rfl, h⟩, fun h => h.2⟩)
    · refine Ev_neg e (Ev_some ?_)
      symm; rw [decide_eq_false_iff_not, List.cons.injEq]
      exact fun h => e h.1
theorem eqIntS_ev (a b : List Int) (hs : a.length ≤ 4611686018427387000) : Ev (fun k => laws_eqIntS.f k a b) (decide (a = b)) := by
  unfold laws_eqIntS.f
  by_cases hl : a.length = b.length
  · exact Ev_pos (by omega) (eqIntS_l0 a b hl hs _ 0 rfl (by omega))
  · refine Ev_neg (by omega) (Ev_some ?_)
    rw [eq_comm, decide_eq_false_iff_not]; intro e; exact hl (by rw [e])
theorem eqIntS_refl (a : List Int) (hs : a.length ≤ 4611686018427387000) : Ev (fun k => laws_eqIntS.f k a a) true := Ev_eq (eqIntS_ev a a hs) (by simp)
def marks (a : Int) (n : Nat) : List Int := (List.range n).map fun (j : Nat) => a + (j : Int)
theorem marks_length (a : Int) (n : Nat) : (marks a n).length = n := by simp [marks]
theorem marks_getD (a : Int) (n j : Nat) (h : j < n) : (marks a n).getD j 0 = a + (j : Int) := by
  rw [getD_lt _ _ _ (by rw [marks_length]; exact h)]; simp [marks]
theorem markIntS_l0 (a : Int) (n : Nat) (ha : 0 ≤ a) (han : a + n ≤ 4611686018427387000) : ∀ (d i : Nat) (xs : List Int), n - i = d → i ≤ n → xs.length = n → (∀ j, j < i → xs.getD j 0 = a + (j : Int)) →
    Ev (fun k => laws_markIntS.l0 k xs (a + (i : Int)) (i : Int)) (a + (n : Int), marks a n) := by
  intro d
  induction d with
  | zero =>
    intro i xs hd hi hx h
    obtain rfl : i = n := by omega
    refine Ev.step (fun k => by rw [laws_markIntS.l0]) ?_
    refine Ev_neg (by omega) (Ev_some ?_)
    rw [ext_getD (xs := xs) (ys := marks a i) (by rw [marks_length]; exact hx) (fun j hj => by rw [h j (by omega), marks_getD _ _ _ (by omega)])]
  | succ d ih =>
    intro i xs hd hi hx h
    refine Ev.step (fun k => by rw [laws_markIntS.l0]) ?_
    refine Ev_pos (by omega) (Ev_pos (by omega) ?_)
    rw [wrap_succ (by omega), wrap_small (x := a + (i : Int) + 1) (by omega) (by omega), show a + (i : Int) + 1 = a + ((i + 1 : Nat) : Int) from by omega]
    refine ih (i + 1) _ (by omega) (by omega) (by rw [List.length_set]; exact hx) ?_
    intro j hj
    rw [Int.toNat_natCast]
    by_cases e : j = i
    · subst e; rw [getD_lt _ _ _ (by rw [List.length_set]; omega)]; simp
    · rw [← h j (by omega)]; simp only [List.getD_eq_getElem?_getD]; rw [List.getElem?_set_ne (by omega)]
theorem markIntS_ev (xs : List Int) (a : Int) (ha : 0 ≤ a) (han : a + xs.length ≤ 4611686018427387000) : Ev (fun k => laws_markIntS.f k xs a) (a + (xs.length : Int), marks a xs.length) := by
  unfold laws_markIntS.f
  have := markIntS_l0 a xs.length ha han _ 0 xs rfl (by omega) rfl (fun j hj => by omega)
  simpa using this
theorem heldIntS_l0 (a : Int) (n : Nat) (ha : 0 ≤ a) (han : a + n ≤ 4611686018427387000) : ∀ (d i : Nat), n - i = d → i ≤ n → Ev (fun k => laws_heldIntS.l0 k (marks a n) (a + (i : Int)) (i : Int)) (a + (n : Int)) := by
  intro d
  induction d with
  | zero =>
    intro i hd hi
    obtain rfl : i = n := by omega
    refine Ev.step (fun k => by rw [laws_heldIntS.l0]) ?_
    exact Ev_neg (by rw [marks_length]; omega) (Ev_some rfl)
  | succ d ih =>
    intro i hd hi
    refine Ev.step (fun k => by rw [laws_heldIntS.l0]) ?_
    refine Ev_pos (by rw [marks_length]; omega) (Ev_pos (by omega) (Ev_pos (by rw [rd_nat, marks_getD _ _ _ (by omega)]) ?_))
    rw [wrap_succ (by omega), wrap_small (x := a + (i : Int) + 1) (by omega) (by omega), show a + (i : Int) + 1 = a + ((i + 1 : Nat) : Int) from by omega]
    exact ih (i + 1) (by omega) (by omega)
theorem heldIntS_ev (a : Int) (n : Nat) (ha : 0 ≤ a) (han : a + n ≤ 4611686018427387000) : Ev (fun k => laws_heldIntS.f k (marks a n) a) (a + (n : Int)) := by
  unfold laws_heldIntS.f
  have := heldIntS_l0 a n ha han _ 0 rfl (by omega)
  simpa using this
/-- The sum of f 0, .., f (n - 1). -/
def sumZ : Nat → (Nat → Int) → Int
  | 0, _ => 0
  | n + 1, f => sumZ n f + f n
theorem sumZ_congr {n : Nat} {f g : Nat → Int} (h : ∀ i, i < n → f i = g i) : sumZ n f = sumZ n g := by
  induction n with
  | zero => rfl
  | succ n ih => rw [sumZ, sumZ, ih (fun i hi => h i (by omega)), h n (by omega)]
theorem sumZ_bound {n : Nat} {f : Nat → Int} {B : Int} (hB : 0 ≤ B) (h : ∀ i, i < n → 0 ≤ f i ∧ f i ≤ B) : 0 ≤ sumZ n f ∧ sumZ n f ≤ n * B := by
  induction n with
  | zero => simp [sumZ]
  | succ n ih =>
    have h1 := ih (fun i hi => h i (by omega))
    have h2 := h n (by omega)
    rw [sumZ, show ((n + 1 : Nat) : Int) * B = n * B + B from by rw [Int.natCast_add, Int.add_mul]; simp]
    omega
theorem sumZ_nonneg {n : Nat} {f : Nat → Int} (h : ∀ i, i < n → 0 ≤ f i) : 0 ≤ sumZ n f := by
  induction n with
  | zero => simp [sumZ]
  | succ n ih => have := ih (fun i hi => h i (by omega)); have := h n (by omega); rw [sumZ]; omega
theorem sumZ_term {n : Nat} {f : Nat → Int} (h : ∀ i, i < n → 0 ≤ f i) {i : Nat} (hi : i < n) : f i ≤ sumZ n f := by
  induction n with
  | zero => omega
  | succ n ih =>
    have h0 := sumZ_nonneg (n := n) (fun j hj => h j (by omega))
    rw [sumZ]
    by_cases e : i = n
    · rw [e]; omega
    · have := ih (fun j hj => h j (by omega)) (by omega); have := h n (by omega); omega
theorem sumZ_zero {n : Nat} {f : Nat → Int} (h : ∀ i, i < n → 0 ≤ f i) : sumZ n f = 0 ↔ ∀ i, i < n → f i = 0 := by
  refine ⟨fun h0 i hi => ?_, fun h0 => ?_⟩
  · have := sumZ_term h hi; have := h i hi; omega
  · rw [sumZ_congr (g := fun _ => 0) h0]
    clear h h0
    induction n with
    | zero => rfl
    | succ n ih => rw [sumZ, ih]; rfl
theorem sumZ_add (n : Nat) (f g : Nat → Int) : sumZ n (fun i => f i + g i) = sumZ n f + sumZ n g := by
  induction n with
  | zero => rfl
  | succ n ih => simp only [sumZ, ih]; omega
/-- The number in row i and column j. -/
def en (m : List (List Int)) (i j : Nat) : Int := (m.getD i []).getD j 0
def Cells (m : List (List Int)) : Prop := ∀ i, i < m.length → (m.getD i []).length = m.length ∧ ∀ j, j < m.length → 0 ≤ en m i j ∧ en m i j ≤ 12 ∧ (j < i → en m i j = 0)
def rowZ (m : List (List Int)) (i : Nat) : Int := sumZ m.length (fun j => en m i j)
def colZ (m : List (List Int)) (j : Nat) : Int := sumZ m.length (fun i => en m i j)
def allZ (m : List (List Int)) : Int := sumZ m.length (fun i => rowZ m i)
def isMat (m : List (List Int)) : Prop := m.length ≤ 12 ∧ Cells m ∧ (∀ i, i < m.length → rowZ m i ≠ 0) ∧ (∀ j, j < m.length → colZ m j ≠ 0) ∧ allZ m ≤ 12
instance (m : List (List Int)) : Decidable (Cells m) := inferInstanceAs (Decidable (∀ i, i < m.length → _))
instance (m : List (List Int)) : Decidable (isMat m) := inferInstanceAs (Decidable (_ ∧ _))
theorem Cells.row {m : List (List Int)} (h : Cells m) {i : Nat} (hi : i < m.length) : 0 ≤ rowZ m i ∧ rowZ m i ≤ m.length * 12 := sumZ_bound (by decide) (fun j hj => ⟨((h i hi).2 j hj).1, ((h i hi).2 j hj).2.1⟩)
theorem Cells.nn {m : List (List Int)} (h : Cells m) {i j : Nat} (hi : i < m.length) (hj : j < m.length) : 0 ≤ en m i j := ((h i hi).2 j hj).1
def rowOk' (m : List (List Int)) (i : Nat) : Prop := (m.getD i []).length = m.length ∧ (∀ j, j < m.length → 0 ≤ en m i j ∧ en m i j ≤ 12) ∧ ∀ j, j < m.length → j < i → en m i j = 0
instance (m : List (List Int)) (i : Nat) : Decidable (rowOk' m i) := inferInstanceAs (Decidable (_ ∧ _ ∧ ∀ j, j < m.length → _))
/-- What the reference asks of row i. -/
def rowOk (m : List (List Int)) (i : Nat) : Prop := (m.getD i []).length = m.length ∧ (∀ j, j < m.length → 0 ≤ en m i j ∧ en m i j ≤ 12) ∧ rowZ m i ≠ 0 ∧ ∀ j, j < m.length → j < i → en m i j = 0
instance (m : List (List Int)) (i : Nat) : Decidable (rowOk m i) := inferInstanceAs (Decidable (_ ∧ _ ∧ _ ∧ ∀ j, j < m.length → _))
/-- A square of numbers that are not below nought. -/
def Sq (m : List (List Int)) : Prop := ∀ i, i < m.length → (m.getD i []).length = m.length ∧ ∀ j, j < m.length → 0 ≤ en m i j
theorem Sq.nn {m : List (List Int)} (h : Sq m) {i j : Nat} (hi : i < m.length) (hj : j < m.length) : 0 ≤ en m i j := (h i hi).2 j hj
/-- Rows as long as there are rows, numbers between nought and B. -/
def Bd (B : Int) (m : List (List Int)) : Prop := ∀ r ∈ m, r.length = m.length ∧ ∀ v ∈ r, 0 ≤ v ∧ v ≤ B
theorem Bd.sq {B : Int} {m : List (List Int)} (h : Bd B m) : Sq m := fun i hi => by
  have h1 := h _ (getD_mem (z := []) hi)
  exact ⟨h1.1, fun j hj => (h1.2 _ (getD_mem (z := 0) (by rw [h1.1]; exact hj))).1⟩
/-- From row i on, n rows: the first one whose number in the last column is not 0. -/
def seekTop (m : List (List Int)) : Nat → Nat → Int
  | 0, _ => -1
  | n + 1, i => if en m i (m.length - 1) ≠ 0 then (i : Int) else seekTop m n (i + 1)
def topI (m : List (List Int)) : Int := seekTop m m.length 0
theorem maTop_ev (m : List (List Int)) (hd : m.length ≤ 12) (h : Sq m) : Ev (fun k => spec_maTop.f k m) (topI m) := by
  unfold spec_maTop.f topI
  have main : ∀ (n i : Nat), m.length - i = n → i ≤ m.length → Ev (fun k => spec_maTop.l0 k m (m.length : Int) (i : Int)) (seekTop m n i) := by
    intro n
    induction n with
    | zero =>
      intro i hn hi
      exact Ev.step (fun _ => rfl) (Ev_neg (by omega) (Ev_some rfl))
    | succ n ih =>
      intro i hn hi
      have hl := (h i (by omega)).1
      have h0 := h.nn (show i < m.length by omega) (show m.length - 1 < m.length by omega)
      refine Ev.step (fun k => by rw [spec_maTop.l0]) (Ev_pos (by omega) (Ev_pos (by omega) (Ev_pos (by omega) ?_)))
      rw [rdL_nat, hl, show (m.length : Int) - 1 = ((m.length - 1 : Nat) : Int) from by omega, wrap_small (by omega) (by omega), rd_nat, wrap_succ (by omega)]
      refine Ev_pos (by omega) (Ev_pos (by omega) ?_)
      rw [seekTop]
      by_cases c : en m i (m.length - 1) ≠ 0
      · rw [if_pos c]; exact Ev_pos (by simp only [en] at c h0; omega) (Ev_some rfl)
      · rw [if_neg c]; exact Ev_neg (by simp only [en] at c h0; omega) (ih (i + 1) (by omega) (by omega))
  exact main _ 0 rfl (by omega)
theorem top_eq (m : List (List Int)) (hd : m.length ≤ 12) (h : Sq m) : impl_Matrix_top.f m = some (topI m) := by
  unfold impl_Matrix_top.f slices_IndexFunc_int_int.f topI
  have main : ∀ (n i : Nat), m.length - i = n → i ≤ m.length → slices_IndexFunc_int_int.seek (m.drop i) (i : Int) = some (seekTop m n i) := by
    intro n
    induction n with
    | zero =>
      intro i hn hi
      rw [List.drop_eq_nil_of_le (by omega)]; rfl
    | succ n ih =>
      intro i hn hi
      have hl := (h i (by omega)).1
      have e := getD_lt m i [] (by omega)
      rw [List.drop_eq_getElem_cons (by omega), slices_IndexFunc_int_int.seek, ← e]
      unfold impl_Matrix_top_1.f
      rw [hl, show (m.length : Int) - 1 = ((m.length - 1 : Nat) : Int) from by omega, wrap_small (by omega) (by omega), rd_nat, if_pos (by omega), if_pos (by omega), Option.bind_some, seekTop]
      by_cases c : en m i (m.length - 1) ≠ 0
      · rw [if_pos c, if_pos (by simpa [en] using c)]
      · rw [if_neg c, if_neg (by simpa [en] using c)]
        exact ih (i + 1) (by omega) (by omega)
  have := main _ 0 rfl (by omega)
  rw [List.drop_zero] at this
  rw [show ((0 : Nat) : Int) = 0 from rfl] at this
  rw [this]; rfl
theorem own_ev (m : List (List Int)) (hs : Small m) : Ev (fun k => impl_Matrix_own.f k m) m := by
  unfold impl_Matrix_own.f
  have hl := hs.1
  have main : ∀ (d i : Nat), m.length - i = d → i ≤ m.length → Ev (fun k => impl_Matrix_own.l0 k m (m.length : Int) (i : Int) (m.take i)) m := by
    intro d
    induction d with
    | zero =>
      intro i hd hi
      obtain rfl : i = m.length := by omega
      exact Ev.step (fun _ => rfl) (Ev_neg (by omega) (Ev_some (by simp)))
    | succ d ih =>
      intro i hd hi
      have hi' : i < m.length := by omega
      refine Ev.step (fun _ => rfl) (Ev_pos (by omega) (Ev_pos (by omega) (Ev_pos (by omega) ?_)))
      rw [rdL_nat, wrap_succ (by omega)]
      have hr := hs.2 _ (getD_mem (z := []) hi')
      refine Ev_val (show slices_Clone_int_int.f (m.getD i []) = some (m.getD i []) from if_pos (by omega)) (Ev_pos (by rw [List.length_take]; omega) ?_)
      have := ih (i + 1) (by omega) (by omega)
      rw [List.take_succ_eq_append_getElem hi', ← getD_lt m i [] hi'] at this
      exact this
  have := main _ 0 rfl (by omega)
  simpa using this
theorem insertIdx_cut {β : Type} : ∀ (l : List β) (x : Nat) (z : β), x ≤ l.length → l.insertIdx x z = l.take x ++ [z] ++ l.drop x
  | _, 0, _, _ => by simp
  | [], _ + 1, _, h => by simp at h
  | a :: l, x + 1, z, h => by
    rw [List.insertIdx_succ_cons, insertIdx_cut l x z (by simp at h; omega)]; simp
theorem insGet {β : Type} (xs : List β) (i j : Nat) (x : β) (hi : i ≤ xs.length) : (xs.insertIdx i x)[j]? = if j < i then xs[j]? else if j = i then some x else xs[j - 1]? := by
  rw [List.getElem?_insertIdx]
  by_cases c : j < i
  · rw [if_pos c, if_pos c]
  · rw [if_neg c, if_neg c]
    by_cases c2 : j = i
    · rw [if_pos c2, if_pos c2, if_pos (by omega)]
    · rw [if_neg c2, if_neg c2]
theorem get?_lt {α : Type} (xs : List α) (i : Nat) (z : α) (h : i < xs.length) : xs[i]? = some (xs.getD i z) := by rw [getD_lt xs i z h, List.getElem?_eq_getElem h]
/-- Row i of a matrix of d rows, grown at x by a row and a column. -/
def gRow (m : List (List Int)) (x d i : Nat) : List Int := if i = x then (List.replicate (d + 1) (0 : Int)).set d 1 else if x < i then (m.getD (i - 1) []).insertIdx x 0 else if x < d then impl_Matrix_grown.fix x d ((m.getD i []).insertIdx x 0) else (m.getD i []).insertIdx x 0
def growM (m : List (List Int)) (x : Nat) : List (List Int) := if (x : Int) ≤ topI m then impl_Matrix_grown.inc m x else (List.range (m.length + 1)).map (gRow m x m.length)
theorem wide2_get (m : List (List Int)) (x : Nat) (hx : x ≤ m.length) (j : Nat) (hj : j ≤ m.length) : (impl_Matrix_grown.wide2 m x)[j]? = some (if j < x then (m.getD j []).insertIdx x 0 else if j = x then List.replicate (m.length + 1) 0 else (m.getD (j - 1) []).insertIdx x 0) := by
  rw [impl_Matrix_grown.wide2, impl_Matrix_grown.wide1_full, insGet _ _ _ _ (by rw [List.length_map]; exact hx)]
  by_cases c : j < x
  · rw [if_pos c, if_pos c, List.getElem?_map, get?_lt m j [] (by omega)]; rfl
  · rw [if_neg c, if_neg c]
    by_cases c2 : j = x
    · rw [if_pos c2, if_pos c2]
    · rw [if_neg c2, if_neg c2, List.getElem?_map, get?_lt m (j - 1) [] (by omega)]; rfl
theorem wide3_get (m : List (List Int)) (x : Nat) (hx : x ≤ m.length) (j : Nat) (hj : j ≤ m.length) : (impl_Matrix_grown.wide3 m x x)[j]? = some (if j < x then impl_Matrix_grown.fix x m.length ((m.getD j []).insertIdx x 0) else if j = x then List.replicate (m.length + 1) 0 else (m.getD (j - 1) []).insertIdx x 0) := by
  have hl := impl_Matrix_grown.wide2_len m x hx
  have hk := wide2_get m x hx j hj
  rw [impl_Matrix_grown.wide3]
  by_cases c : j < x
  · rw [List.getElem?_append_left (by rw [List.length_map, List.length_take]; omega), List.getElem?_map, List.getElem?_take, if_pos c, hk, if_pos c, if_pos c]; rfl
  · rw [List.getElem?_append_right (by rw [List.length_map, List.length_take]; omega), List.getElem?_drop, List.length_map, List.length_take, hl, show x + (j - min x (m.length + 1)) = j from by omega, hk, if_neg c, if_neg c]
theorem wide3_len (m : List (List Int)) (x : Nat) (hx : x ≤ m.length) : (impl_Matrix_grown.wide3 m x x).length = m.length + 1 := by
  have hl := impl_Matrix_grown.wide2_len m x hx
  rw [impl_Matrix_grown.wide3, List.length_append, List.length_map, List.length_take, List.length_drop]; omega
theorem wide_eq (m : List (List Int)) (x : Nat) (hx : x ≤ m.length) : impl_Matrix_grown.wide m x = (List.range (m.length + 1)).map (gRow m x m.length) := by
  have fin : ∀ (q : List (List Int)), q.length = m.length + 1 → (∀ j, j ≤ m.length → q[j]? = some (if j = x then List.replicate (m.length + 1) 0 else gRow m x m.length j)) → impl_Matrix_grown.last m q x = (List.range (m.length + 1)).map (gRow m x m.length) := by
    intro q hl hq
    apply List.ext_getElem?
    intro j
    rw [impl_Matrix_grown.last, List.getElem?_set, List.getElem?_map]
    by_cases hj : j ≤ m.length
    · rw [List.getElem?_eq_getElem (l := List.range (m.length + 1)) (by simp; omega), List.getElem_range, Option.map_some]
      have hx2 := hq x hx
      rw [if_pos rfl] at hx2
      by_cases c : x = j
      · subst c
        rw [if_pos rfl, if_pos (by omega), List.getD_eq_getElem?_getD, hx2, gRow, if_pos rfl]; rfl
      · rw [if_neg c, hq j hj, if_neg (fun h => c h.symm)]
    · rw [if_neg (by omega), List.getElem?_eq_none (by omega), List.getElem?_eq_none (by simp; omega)]; rfl
  rw [impl_Matrix_grown.wide]
  by_cases c : x < m.length
  · rw [if_pos c]
    refine fin _ (wide3_len m x hx) (fun j hj => ?_)
    rw [wide3_get m x hx j hj, gRow]
    congr 1
    by_cases c1 : j < x
    · rw [if_pos c1, if_neg (by omega), if_neg (by omega), if_neg (by omega), if_pos c]
    · rw [if_neg c1]
      by_cases c2 : j = x
      · rw [if_pos c2, if_pos c2]
      · rw [if_neg c2, if_neg c2, if_neg c2, if_pos (by omega)]
  · rw [if_neg c]
    refine fin _ (impl_Matrix_grown.wide2_len m x hx) (fun j hj => ?_)
    rw [wide2_get m x hx j hj, gRow]
    congr 1
    by_cases c1 : j < x
    · rw [if_pos c1, if_neg (by omega), if_neg (by omega), if_neg (by omega), if_neg c]
    · rw [if_neg c1]
      by_cases c2 : j = x
      · rw [if_pos c2, if_pos c2]
      · omega
theorem seekTop_lt (m : List (List Int)) : ∀ (n i : Nat), seekTop m n i < ((i + n : Nat) : Int) ∧ -1 ≤ seekTop m n i
  | 0, i => by rw [seekTop]; omega
  | n + 1, i => by
    rw [seekTop]
    have := seekTop_lt m n (i + 1)
    by_cases c : en m i (m.length - 1) ≠ 0
    · rw [if_pos c]; omega
    · rw [if_neg c]; omega
theorem topI_lt (m : List (List Int)) : topI m < (m.length : Int) ∧ -1 ≤ topI m := by have := seekTop_lt m m.length 0; rw [topI]; omega
theorem grown_ev (m : List (List Int)) (hd : m.length ≤ 12) (h : Sq m) (hs : Small m) (x : Nat) (hx : x ≤ m.length) : Ev (fun k => impl_Matrix_grown.f k m (x : Int)) (growM m x) := by
  unfold impl_Matrix_grown.f
  refine Ev.bind (own_ev m hs) (Ev_pos ⟨rfl, by omega, fun r hr => ?_, by omega, by omega⟩ ⟨0, fun _ _ => ?_⟩)
  · obtain ⟨i, hi, rfl⟩ := List.getElem_of_mem hr
    rw [← getD_lt m i [] hi]; exact (h i hi).1
  · unfold impl_Matrix_grown.go growM
    rw [top_eq m hd h, Option.bind_some, Int.toNat_natCast]
    have ht := topI_lt m
    by_cases c0 : 0 < m.length
    · rw [if_pos c0]
      by_cases c : (x : Int) ≤ topI m
      · rw [if_pos c, if_pos c, if_pos (by omega)]
      · rw [if_neg c, if_neg c, wide_eq m x hx]
    · rw [if_neg c0, if_neg (by omega), wide_eq m x hx]
theorem maOwn_ev (m : List (List Int)) (hs : Small m) : Ev (fun k => spec_maOwn.f k m) m := by
  unfold spec_maOwn.f
  have hl := hs.1
  have main : ∀ (d i : Nat), m.length - i = d → i ≤ m.length → Ev (fun k => spec_maOwn.l0 k m (m.length : Int) (i : Int) (m.take i)) m := by
    intro d
    induction d with
    | zero =>
      intro i hd hi
      obtain rfl : i = m.length := by omega
      exact Ev.step (fun _ => rfl) (Ev_neg (by omega) (Ev_some (by simp)))
    | succ d ih =>
      intro i hd hi
      have hi' : i < m.length := by omega
      refine Ev.step (fun _ => rfl) (Ev_pos (by omega) (Ev_pos (by omega) (Ev_pos (by omega) ?_)))
      rw [rdL_nat, wrap_succ (by omega)]
      have hr := hs.2 _ (getD_mem (z := []) hi')
      refine Ev_val (show spec_l1Own.f (m.getD i []) = some (m.getD i []) from by unfold spec_l1Own.f; rw [Option.bind_some, List.nil_append]; exact if_pos (by simp only [List.length_nil]; omega)) (Ev_pos (by rw [List.length_take]; omega) ?_)
      have := ih (i + 1) (by omega) (by omega)
      rw [List.take_succ_eq_append_getElem hi', ← getD_lt m i [] hi'] at this
      exact this
  have := main _ 0 rfl (by omega)
  simpa using this
theorem maWide_eq (r : List Int) (x : Nat) (hx : x ≤ r.length) (hl : r.length ≤ 1048576) : spec_maWide.f r (x : Int) = some (r.insertIdx x 0) := by
  unfold spec_maWide.f spec_l1Own.f
  rw [if_pos (by omega), if_pos (by omega), Int.toNat_natCast, Option.bind_some, List.nil_append, if_pos (by simp only [List.length_nil, List.length_take]; omega), Option.bind_some, Option.bind_some,
    if_pos (by simp only [List.length_cons, List.length_nil, List.length_take]; omega), Option.bind_some, if_pos (by simp only [List.length_append, List.length_cons, List.length_nil, List.length_take, List.length_drop]; omega), insertIdx_cut r x 0 hx]
theorem gRow_len (m : List (List Int)) (h : Sq m) (x : Nat) (hx : x ≤ m.length) (i : Nat) (hi : i ≤ m.length) : (gRow m x m.length i).length = m.length + 1 := by
  have hin : ∀ j, j < m.length → ((m.getD j []).insertIdx x 0).length = m.length + 1 := fun j hj => by
    have := (h j hj).1
    rw [List.length_insertIdx, if_pos (by omega), this]
  unfold gRow
  by_cases c : i = x
  · rw [if_pos c]; simp
  · rw [if_neg c]
    by_cases c2 : x < i
    · rw [if_pos c2]; exact hin _ (by omega)
    · rw [if_neg c2]
      by_cases c3 : x < m.length
      · rw [if_pos c3, impl_Matrix_grown.fix, List.length_set, List.length_set]; exact hin _ (by omega)
      · rw [if_neg c3]; exact hin _ (by omega)
theorem maGrow_ev (m : List (List Int)) (hd : m.length ≤ 12) (h : Sq m) (hs : Small m) (x : Nat) (hx : x ≤ m.length) : Ev (fun k => spec_maGrow.f k m (x : Int)) (growM m x) := by
  unfold spec_maGrow.f growM
  have ht := topI_lt m
  refine Ev.bind (maTop_ev m hd h) ?_
  by_cases c : (x : Int) ≤ topI m
  · rw [if_pos c]
    have hl := (h x (by omega)).1
    refine Ev_pos c (Ev.bind (maOwn_ev m hs) (Ev_pos (by omega) (Ev_pos (by omega) ?_)))
    rw [rdL_nat, hl, show (m.length : Int) - 1 = ((m.length - 1 : Nat) : Int) from by omega, wrap_small (by omega) (by omega)]
    refine Ev_pos (by omega) (Ev_pos (by omega) (Ev_some ?_))
    rw [rd_nat, Int.toNat_natCast, Int.toNat_natCast]; rfl
  · rw [if_neg c]
    refine Ev_neg c ?_
    have main : ∀ (d i : Nat), m.length + 1 - i = d → i ≤ m.length + 1 → Ev (fun k => spec_maGrow.l0 k (x : Int) (m.length : Int) (i : Int) m ((List.range i).map (gRow m x m.length))) ((List.range (m.length + 1)).map (gRow m x m.length)) := by
      intro d
      induction d with
      | zero =>
        intro i hd' hi
        obtain rfl : i = m.length + 1 := by omega
        exact Ev.step (fun _ => rfl) (Ev_neg (by omega) (Ev_some rfl))
      | succ d ih =>
        intro i hd' hi
        have next := ih (i + 1) (by omega) (by omega)
        rw [List.range_succ, List.map_append] at next
        refine Ev.step (fun _ => rfl) (Ev_pos (by omega) ?_)
        rw [wrap_succ (i := i) (by omega)]
        by_cases c1 : i = x
        · refine Ev_pos (by omega) ?_
          rw [wrap_succ (i := m.length) (by omega), Int.toNat_natCast, Int.toNat_natCast]
          refine Ev_pos (by omega) (Ev_pos (by omega) (Ev_val rfl (Ev_pos (by omega) (Ev_pos (by simp; omega) (Ev_pos (by simp; omega) ?_)))))
          simp only [List.map_cons, List.map_nil, gRow, if_pos c1] at next
          exact next
        · refine Ev_neg (by omega) ?_
          by_cases c2 : x < i
          · have hl := (h (i - 1) (by omega)).1
            refine Ev_pos (by omega) ?_
            rw [show (i : Int) - 1 = ((i - 1 : Nat) : Int) from by omega, wrap_small (by omega) (by omega), rdL_nat]
            refine Ev_pos (by omega) (Ev_pos (by omega) (Ev_val (maWide_eq _ x (by omega) (by omega)) (Ev_pos (by simp; omega) ?_)))
            simp only [List.map_cons, List.map_nil, gRow, if_neg c1, if_pos c2] at next
            exact next
          · have hl := (h i (by omega)).1
            refine Ev_neg (by omega) (Ev_pos (by omega) (Ev_pos (by omega) ?_))
            rw [rdL_nat]
            refine Ev_val (maWide_eq _ x (by omega) (by omega)) ?_
            by_cases c3 : x < m.length
            · have hil : ((m.getD i []).insertIdx x 0).length = m.length + 1 := by rw [List.length_insertIdx, if_pos (by omega), hl]
              refine Ev_pos (by omega) (Ev_pos (by omega) (Ev_pos (by omega) (Ev_pos (by omega) (Ev_pos (by omega) (Ev_pos (by simp; omega) ?_)))))
              rw [Int.toNat_natCast, Int.toNat_natCast, rd_nat]
              simp only [List.map_cons, List.map_nil, gRow, if_neg c1, if_neg c2, if_pos c3, impl_Matrix_grown.fix] at next
              exact next
            · refine Ev_neg (by omega) (Ev_pos (by simp; omega) ?_)
              simp only [List.map_cons, List.map_nil, gRow, if_neg c1, if_neg c2, if_neg c3] at next
              exact next
    exact main _ 0 rfl (by omega)
theorem seekTop_pre (m : List (List Int)) : ∀ (n i j : Nat), i ≤ j → (j : Int) < seekTop m n i → en m j (m.length - 1) = 0
  | 0, i, j, h1, h2 => by rw [seekTop] at h2; omega
  | n + 1, i, j, h1, h2 => by
    rw [seekTop] at h2
    by_cases c : en m i (m.length - 1) ≠ 0
    · rw [if_pos c] at h2; omega
    · rw [if_neg c] at h2
      by_cases e : j = i
      · rw [e]; simpa using c
      · exact seekTop_pre m n (i + 1) j (by omega) h2
theorem seekTop_is (m : List (List Int)) (x : Nat) (hx : en m x (m.length - 1) ≠ 0) (h0 : ∀ j, j < x → en m j (m.length - 1) = 0) : ∀ (n i : Nat), i ≤ x → x < i + n → seekTop m n i = (x : Int)
  | 0, i, h1, h2 => by omega
  | n + 1, i, h1, h2 => by
    rw [seekTop]
    by_cases e : i = x
    · rw [e, if_pos hx]
    · rw [if_neg (by rw [h0 i (by omega)]; simp)]
      exact seekTop_is m x hx h0 n (i + 1) (by omega) (by omega)
theorem mem_ins {r : List Int} {x : Nat} {v : Int} (h : v ∈ r.insertIdx x 0) : v ∈ r ∨ v = 0 := by
  by_cases c : x ≤ r.length
  · rw [insertIdx_cut r x 0 c] at h
    rcases List.mem_append.1 h with h | h
    · rcases List.mem_append.1 h with h | h
      · exact .inl (List.mem_of_mem_take h)
      · exact .inr (by simpa using h)
    · exact .inl (List.mem_of_mem_drop h)
  · rw [List.insertIdx_of_length_lt (by omega)] at h; exact .inl h
theorem gRow_bd (m : List (List Int)) (B : Int) (hB : 0 ≤ B) (h : Bd B m) (x : Nat) (hx : x ≤ m.length) (i : Nat) (hi : i ≤ m.length) : ∀ v ∈ gRow m x m.length i, 0 ≤ v ∧ v ≤ B + 1 := by
  have hr : ∀ j, j < m.length → ∀ v ∈ (m.getD j []).insertIdx x 0, 0 ≤ v ∧ v ≤ B + 1 := fun j hj v hv => by
    rcases mem_ins hv with h1 | h1
    · have := (h _ (getD_mem (z := []) hj)).2 v h1; omega
    · omega
  have hd : ∀ j, j < m.length → ∀ q, 0 ≤ ((m.getD j []).insertIdx x 0).getD q 0 ∧ ((m.getD j []).insertIdx x 0).getD q 0 ≤ B + 1 := fun j hj q => by
    by_cases c : q < ((m.getD j []).insertIdx x 0).length
    · exact hr j hj _ (getD_mem (z := 0) c)
    · rw [List.getD_eq_getElem?_getD, List.getElem?_eq_none (by omega)]; show (0 : Int) ≤ 0 ∧ (0 : Int) ≤ B + 1; omega
  intro v hv
  unfold gRow at hv
  by_cases c : i = x
  · rw [if_pos c] at hv
    rcases List.mem_or_eq_of_mem_set hv with h1 | h1
    · have := List.eq_of_mem_replicate h1; omega
    · omega
  · rw [if_neg c] at hv
    by_cases c2 : x < i
    · rw [if_pos c2] at hv; exact hr _ (by omega) v hv
    · rw [if_neg c2] at hv
      by_cases c3 : x < m.length
      · rw [if_pos c3, impl_Matrix_grown.fix] at hv
        rcases List.mem_or_eq_of_mem_set hv with h1 | h1
        · rcases List.mem_or_eq_of_mem_set h1 with h1 | h1
          · exact hr _ (by omega) v h1
          · rw [h1]; exact hd _ (by omega) _
        · omega
      · rw [if_neg c3] at hv; exact hr _ (by omega) v hv
theorem getD_map_range (n : Nat) (f : Nat → List Int) {i : Nat} (h : i < n) : ((List.range n).map f).getD i [] = f i := by rw [getD_lt _ _ _ (by simpa using h)]; simp
/-- What growing does to the size, the bound and the top. -/
theorem grow_inv (m : List (List Int)) (B : Int) (hB : 0 ≤ B) (hB2 : B ≤ 1000) (h : Bd B m) (hd : m.length ≤ 100) (x : Nat) (hx : x ≤ m.length) :
    Bd (B + 1) (growM m x) ∧ topI (growM m x) = (x : Int) ∧ (growM m x).length = if (x : Int) ≤ topI m then m.length else m.length + 1 := by
  have ht := topI_lt m
  by_cases c : (x : Int) ≤ topI m
  · have hxl : x < m.length := by omega
    have hrow := h _ (getD_mem (z := []) hxl)
    have hlen : (growM m x).length = m.length := by rw [growM, if_pos c, impl_Matrix_grown.inc, List.length_set]
    have hv := hrow.2 ((m.getD x []).getD (m.length - 1) 0) (getD_mem (z := 0) (by rw [hrow.1]; omega))
    have hw : wrap64 ((m.getD x []).getD (m.length - 1) 0 + 1) = (m.getD x []).getD (m.length - 1) 0 + 1 := wrap_small (by omega) (by omega)
    have hx0 : en (growM m x) x ((growM m x).length - 1) ≠ 0 := by
      rw [hlen, growM, if_pos c, impl_Matrix_grown.inc, hw, en, List.getD_eq_getElem?_getD (l := m.set _ _), List.getElem?_set_self hxl, Option.getD_some, List.getD_eq_getElem?_getD (l := List.set _ _ _), List.getElem?_set_self (by rw [hrow.1]; omega), Option.getD_some]
      omega
    have hj0 : ∀ j, j < x → en (growM m x) j ((growM m x).length - 1) = 0 := fun j hj => by
      have := seekTop_pre m m.length 0 j (by omega) (by rw [topI] at c; omega)
      rw [hlen, growM, if_pos c, impl_Matrix_grown.inc, en, List.getD_eq_getElem?_getD (l := m.set _ _), List.getElem?_set_ne (by omega), ← List.getD_eq_getElem?_getD]
      exact this
    refine ⟨fun r hr => ?_, ?_, by rw [hlen, if_pos c]⟩
    · rw [hlen]
      rw [growM, if_pos c, impl_Matrix_grown.inc] at hr
      rcases List.mem_or_eq_of_mem_set hr with h1 | h1
      · exact ⟨(h r h1).1, fun v hv => by have := (h r h1).2 v hv; omega⟩
      · rw [h1, List.length_set]
        refine ⟨hrow.1, fun v hv2 => ?_⟩
        rcases List.mem_or_eq_of_mem_set hv2 with h2 | h2
        · have := hrow.2 v h2; omega
        · rw [h2, hw]; omega
    · rw [topI]
      exact seekTop_is _ x hx0 hj0 _ 0 (by omega) (by rw [hlen]; omega)
  · have hG : growM m x = (List.range (m.length + 1)).map (gRow m x m.length) := by rw [growM, if_neg c]
    have hlen : (growM m x).length = m.length + 1 := by rw [hG]; simp
    have hrl := gRow_len m h.sq x hx
    have hx0 : en (growM m x) x ((growM m x).length - 1) ≠ 0 := by
      rw [hlen, hG, en, getD_map_range _ _ (by omega), gRow, if_pos rfl, show m.length + 1 - 1 = m.length from rfl, List.getD_eq_getElem?_getD, List.getElem?_set_self (by simp)]
      simp
    have hj0 : ∀ j, j < x → en (growM m x) j ((growM m x).length - 1) = 0 := fun j hj => by
      have hil := (h.sq j (by omega)).1
      rw [hlen, hG, en, getD_map_range _ _ (by omega), gRow, if_neg (by omega), if_neg (by omega), show m.length + 1 - 1 = m.length from rfl]
      by_cases c3 : x < m.length
      · rw [if_pos c3, impl_Matrix_grown.fix, List.getD_eq_getElem?_getD, List.getElem?_set_self (by rw [List.length_set, List.length_insertIdx, if_pos (by omega)]; omega)]; rfl
      · rw [if_neg c3, List.getD_eq_getElem?_getD, insGet _ _ _ _ (by omega), if_neg (by omega), if_pos (by omega)]; rfl
    refine ⟨fun r hr => ?_, ?_, by rw [hlen, if_neg c]⟩
    · rw [hG] at hr
      obtain ⟨i, hi, rfl⟩ := List.mem_map.1 hr
      have hi' := List.mem_range.1 hi
      exact ⟨by rw [hlen]; exact hrl i (by omega), gRow_bd m B hB h x hx i (by omega)⟩
    · rw [topI]
      exact seekTop_is _ x hx0 hj0 _ 0 (by omega) (by rw [hlen]; omega)
/-- The ascents within the first i numbers. -/
def ascN (l : List Int) : Nat → Nat
  | 0 => 0
  | i + 1 => ascN l i + if 0 < i ∧ l.getD (i - 1) 0 < l.getD i 0 then 1 else 0
theorem ascN_le (l : List Int) : ∀ i, ascN l i ≤ i
  | 0 => Nat.le_refl _
  | i + 1 => by rw [ascN]; have := ascN_le l i; split <;> omega
/-- How far the number at place i may go. -/
def bndA (l : List Int) (i : Nat) : Int := if i = 0 then 0 else (ascN l i : Int) + 1
def AscOk (l : List Int) : Prop := l.length ≤ 12 ∧ ∀ i, i < l.length → 0 ≤ l.getD i 0 ∧ l.getD i 0 ≤ bndA l i
instance (l : List Int) : Decidable (AscOk l) := inferInstanceAs (Decidable (_ ∧ _))
/-- The matrix of the first i numbers. -/
def matA (l : List Int) : Nat → List (List Int)
  | 0 => []
  | i + 1 => growM (matA l i) (l.getD i 0).toNat
theorem matA_inv (l : List Int) (g : AscOk l) : ∀ i, i ≤ l.length → Bd (i : Int) (matA l i) ∧ (matA l i).length = (if i = 0 then 0 else ascN l i + 1) ∧ (0 < i → topI (matA l i) = l.getD (i - 1) 0)
  | 0, _ => ⟨fun r hr => by simp [matA] at hr, rfl, fun h => absurd h (by decide)⟩
  | i + 1, hi => by
    obtain ⟨h1, h2, h3⟩ := matA_inv l g i (by omega)
    have hl := g.1
    have hg := g.2 i (by omega)
    have ha := ascN_le l i
    obtain ⟨x, hx⟩ : ∃ x : Nat, l.getD i 0 = (x : Int) := ⟨(l.getD i 0).toNat, by omega⟩
    have hxl : x ≤ (matA l i).length := by
      rw [h2]
      by_cases e : i = 0
      · have := hg.2; rw [bndA, if_pos e] at this; rw [if_pos e]; omega
      · have := hg.2; rw [bndA, if_neg e] at this; rw [if_neg e]; omega
    have hd : (matA l i).length ≤ 100 := by rw [h2]; split <;> omega
    obtain ⟨k1, k2, k3⟩ := grow_inv (matA l i) (i : Int) (by omega) (by omega) h1 hd x hxl
    have ht := topI_lt (matA l i)
    rw [matA, hx, Int.toNat_natCast]
    refine ⟨by rw [Int.natCast_add]; exact k1, ?_, fun _ => by rw [k2, show i + 1 - 1 = i from rfl, hx]⟩
    rw [k3, if_neg (show ¬ (i + 1 = 0) by omega), ascN]
    by_cases e : i = 0
    · subst e
      rw [if_neg (by rw [h2, if_pos rfl] at ht; omega), h2, if_pos rfl, if_neg (fun h => absurd h.1 (by decide))]; rfl
    · rw [if_neg e] at h2
      have h3 := h3 (by omega)
      rw [h3, h2, ← hx]
      by_cases c : l.getD (i - 1) 0 < l.getD i 0
      · rw [if_neg (by omega), if_pos ⟨by omega, c⟩]
      · rw [if_pos (by omega), if_neg (fun h => c h.2)]
theorem Bd.small {B : Int} {m : List (List Int)} (h : Bd B m) (hd : m.length ≤ 1000) : Small m := ⟨by omega, fun r hr => by have := (h r hr).1; omega⟩
theorem matA_step (l : List Int) (g : AscOk l) (i : Nat) (hi : i < l.length) : (matA l i).length ≤ 12 ∧ ∃ x : Nat, l.getD i 0 = (x : Int) ∧ x ≤ (matA l i).length ∧ matA l (i + 1) = growM (matA l i) x := by
  obtain ⟨h1, h2, h3⟩ := matA_inv l g i (by omega)
  have hl := g.1
  have hg := g.2 i hi
  have ha := ascN_le l i
  refine ⟨by rw [h2]; split <;> omega, (l.getD i 0).toNat, by omega, ?_, rfl⟩
  rw [h2]
  by_cases e : i = 0
  · have := hg.2; rw [bndA, if_pos e] at this; rw [if_pos e]; omega
  · have := hg.2; rw [bndA, if_neg e] at this; rw [if_neg e]; omega
theorem matOf_ev (l : List Int) (g : AscOk l) (f : Nat → List Int → Int → Int → List (List Int) → Option (List (List Int))) (G : Nat → List (List Int) → Int → Option (List (List Int)))
    (hf : ∀ k (x7 : List Int) (x8 x9 : Int) (q : List (List Int)), f (k + 1) x7 x8 x9 q = if x9 < x8 then (if 0 ≤ x9 then (if x9 < (x7.length : Int) then ((G k q (rd x7 x9)).bind fun t => (f k x7 x8 (wrap64 (x9 + 1)) t)) else (none)) else (none)) else (some q))
    (hG : ∀ (m : List (List Int)), m.length ≤ 12 → Sq m → Small m → ∀ x : Nat, x ≤ m.length → Ev (fun k => G k m (x : Int)) (growM m x)) : Ev (fun k => f k l (l.length : Int) 0 []) (matA l l.length) := by
  have hl := g.1
  have main : ∀ (d i : Nat), l.length - i = d → i ≤ l.length → Ev (fun k => f k l (l.length : Int) (i : Int) (matA l i)) (matA l l.length) := by
    intro d
    induction d with
    | zero =>
      intro i hd hi
      obtain rfl : i = l.length := by omega
      exact Ev.step (fun k => hf k _ _ _ _) (Ev_neg (by omega) (Ev_some rfl))
    | succ d ih =>
      intro i hd hi
      have next := ih (i + 1) (by omega) (by omega)
      obtain ⟨hd12, x, hx, hxl, hm⟩ := matA_step l g i (by omega)
      have hb := (matA_inv l g i (by omega)).1
      refine Ev.step (fun k => hf k _ _ _ _) (Ev_pos (by omega) (Ev_pos (by omega) (Ev_pos (by omega) ?_)))
      rw [rd_nat, hx, wrap_succ (i := i) (by omega)]
      rw [hm] at next
      exact Ev.bind (hG _ hd12 hb.sq (hb.small (by omega)) x hxl) next
  exact main _ 0 rfl (by omega)
theorem seekTop_none (m : List (List Int)) : ∀ (n i : Nat), seekTop m n i < 0 → ∀ j, i ≤ j → j < i + n → en m j (m.length - 1) = 0
  | 0, i, _, j, h1, h2 => by omega
  | n + 1, i, h, j, h1, h2 => by
    rw [seekTop] at h
    by_cases c : en m i (m.length - 1) ≠ 0
    · rw [if_pos c] at h; omega
    · rw [if_neg c] at h
      by_cases e : j = i
      · rw [e]; simpa using c
      · exact seekTop_none m n (i + 1) h j (by omega) (by omega)
theorem seekTop_hit (m : List (List Int)) : ∀ (n i x : Nat), seekTop m n i = (x : Int) → en m x (m.length - 1) ≠ 0
  | 0, i, x, h => by rw [seekTop] at h; omega
  | n + 1, i, x, h => by
    rw [seekTop] at h
    by_cases c : en m i (m.length - 1) ≠ 0
    · rw [if_pos c] at h; rw [show x = i from by omega]; exact c
    · rw [if_neg c] at h; exact seekTop_hit m n (i + 1) x h
/-- What stays true while a matrix is shrunk. -/
def Shk (m : List (List Int)) : Prop := m.length ≤ 12 ∧ Cells m ∧ (∀ i, i < m.length → ∃ j, j < m.length ∧ en m i j ≠ 0) ∧ (∀ j, j < m.length → ∃ i, i < m.length ∧ en m i j ≠ 0)
theorem some_of_sum {n : Nat} {f : Nat → Int} (h : ∀ i, i < n → 0 ≤ f i) (hs : sumZ n f ≠ 0) : ∃ j, j < n ∧ f j ≠ 0 := by
  by_cases c : ∃ j, j < n ∧ f j ≠ 0
  · exact c
  · refine absurd ((sumZ_zero h).2 (fun i hi => ?_)) hs
    by_cases e : f i = 0
    · exact e
    · exact absurd ⟨i, hi, e⟩ c
theorem isMat.shk {m : List (List Int)} (g : isMat m) : Shk m := ⟨g.1, g.2.1, fun i hi => some_of_sum (fun j hj => g.2.1.nn hi hj) (g.2.2.1 i hi), fun j hj => some_of_sum (fun i hi => g.2.1.nn hi hj) (g.2.2.2.1 j hj)⟩
theorem topI_nn (m : List (List Int)) (g : Shk m) (hp : 0 < m.length) : 0 ≤ topI m := by
  have ht := topI_lt m
  by_cases c : topI m < 0
  · have hz := seekTop_none m m.length 0 c
    obtain ⟨i, hi, hc⟩ := g.2.2.2 (m.length - 1) (by omega)
    exact absurd (hz i (by omega) (by omega)) hc
  · omega
theorem sum_le {n : Nat} {f g : Nat → Int} (h : ∀ i, i < n → f i ≤ g i) : sumZ n f ≤ sumZ n g := by
  induction n with
  | zero => exact Int.le_refl _
  | succ n ih => rw [sumZ, sumZ]; have := ih (fun i hi => h i (by omega)); have := h n (by omega); omega
theorem getD_setG {α : Type} (l : List α) (x i : Nat) (v z : α) (hx : x < l.length) : (l.set x v).getD i z = if i = x then v else l.getD i z := by
  rw [List.getD_eq_getElem?_getD, List.getElem?_set]
  by_cases e : x = i
  · rw [if_pos e, if_pos hx, if_pos e.symm]; rfl
  · rw [if_neg e, if_neg (fun h => e h.symm), List.getD_eq_getElem?_getD]
def dnx (x j : Nat) : Nat := if j < x then j else j - 1
theorem dnx_lt {x j : Nat} (h : j < x) : dnx x j = j := if_pos h
theorem dnx_ge {x j : Nat} (h : x ≤ j) : dnx x j = j - 1 := if_neg (by omega)
theorem sum_ins (n x : Nat) (hx : x ≤ n) (v : Int) (f : Nat → Int) : sumZ (n + 1) (fun i => if i = x then v else f (dnx x i)) = sumZ n f + v := by
  induction n with
  | zero =>
    obtain rfl : x = 0 := by omega
    simp [sumZ]
  | succ n ih =>
    by_cases e : x = n + 1
    · subst e
      rw [sumZ, if_pos rfl]
      congr 1
      exact sumZ_congr (fun i hi => by rw [if_neg (by omega), dnx_lt hi])
    · rw [sumZ, ih (by omega), if_neg (by omega), dnx_ge (by omega), show n + 1 - 1 = n from rfl, sumZ]
      omega
theorem sum_ind (n a : Nat) (ha : a < n) (v : Int) : sumZ n (fun i => if i = a then v else 0) = v := by
  obtain ⟨n, rfl⟩ : ∃ k, n = k + 1 := ⟨n - 1, by omega⟩
  have h := sum_ins n a (by omega) v (fun _ => 0)
  have z : sumZ n (fun _ => (0 : Int)) = 0 := (sumZ_zero (fun _ _ => Int.le_refl _)).2 (fun _ _ => rfl)
  rw [z] at h
  omega
theorem Cells.bd {m : List (List Int)} (h : Cells m) : Bd 12 m := fun r hr => by
  obtain ⟨i, hi, rfl⟩ := List.getElem_of_mem hr
  have h1 := h i hi
  rw [getD_lt m i [] hi] at h1
  refine ⟨h1.1, fun v hv => ?_⟩
  obtain ⟨j, hj, rfl⟩ := List.getElem_of_mem hv
  have h2 := h1.2 j (by omega)
  unfold en at h2
  rw [getD_lt m i [] hi, getD_lt _ j 0 hj] at h2
  exact ⟨h2.1, h2.2.1⟩
theorem isMat.le_all {m : List (List Int)} (g : isMat m) : (m.length : Int) ≤ allZ m := by
  have h := sum_le (n := m.length) (f := fun _ => 1) (g := fun i => rowZ m i) (fun i hi => by
    have := (g.2.1.row hi).1
    have := g.2.2.1 i hi
    omega)
  have : ∀ n : Nat, sumZ n (fun _ => (1 : Int)) = n := fun n => by
    induction n with
    | zero => rfl
    | succ n ih => rw [sumZ, ih]; omega
  rw [this] at h
  exact h
theorem isMat.en_all {m : List (List Int)} (g : isMat m) {i j : Nat} (hi : i < m.length) (hj : j < m.length) : en m i j ≤ allZ m := by
  have h1 := sumZ_term (n := m.length) (f := fun j => en m i j) (fun j hj => g.2.1.nn hi hj) hj
  have h2 := sumZ_term (n := m.length) (f := fun i => rowZ m i) (fun i hi => (g.2.1.row hi).1) hi
  unfold allZ rowZ at *
  omega
theorem sum_ne {n : Nat} {f : Nat → Int} (h : ∀ i, i < n → 0 ≤ f i) {a : Nat} (ha : a < n) (hne : f a ≠ 0) : sumZ n f ≠ 0 := fun e => hne ((sumZ_zero h).1 e a ha)
/-! A number more -/
theorem inc_len (m : List (List Int)) (x : Nat) : (impl_Matrix_grown.inc m x).length = m.length := by rw [impl_Matrix_grown.inc, List.length_set]
theorem inc_row (m : List (List Int)) (x : Nat) (hx : x < m.length) (i : Nat) : ((impl_Matrix_grown.inc m x).getD i []).length = (m.getD i []).length := by
  rw [impl_Matrix_grown.inc, getD_setG _ _ _ _ _ hx]
  by_cases e : i = x
  · rw [if_pos e, List.length_set, e]
  · rw [if_neg e]
theorem inc_en (m : List (List Int)) (h : Cells m) (x : Nat) (hx : x < m.length) (i j : Nat) : en (impl_Matrix_grown.inc m x) i j = en m i j + if i = x ∧ j = m.length - 1 then 1 else 0 := by
  have hl := (h x hx).1
  have hb := (h x hx).2 (m.length - 1) (by omega)
  rw [en, impl_Matrix_grown.inc, getD_setG _ _ _ _ _ hx]
  by_cases e : i = x
  · rw [if_pos e, getD_setG _ _ _ _ _ (by omega)]
    by_cases e2 : j = m.length - 1
    · rw [if_pos e2, if_pos ⟨e, e2⟩, wrap_small (by simp only [en] at hb; omega) (by simp only [en] at hb; omega), e, e2]; rfl
    · rw [if_neg e2, if_neg (fun h => e2 h.2), e, Int.add_zero]; rfl
  · rw [if_neg e, if_neg (fun h => e h.1), Int.add_zero]; rfl
theorem inc_isMat (m : List (List Int)) (g : isMat m) (hz : allZ m ≤ 11) (x : Nat) (hx : x < m.length) :
    isMat (impl_Matrix_grown.inc m x) ∧ allZ (impl_Matrix_grown.inc m x) = allZ m + 1 ∧ ∀ i, i < m.length → rowZ (impl_Matrix_grown.inc m x) i = rowZ m i + if i = x then 1 else 0 := by
  have hlen := inc_len m x
  have hE := inc_en m g.2.1 x hx
  have hrow : ∀ i, i < m.length → rowZ (impl_Matrix_grown.inc m x) i = rowZ m i + if i = x then 1 else 0 := fun i hi => by
    have e1 : rowZ (impl_Matrix_grown.inc m x) i = sumZ m.length (fun j => en m i j + if i = x ∧ j = m.length - 1 then 1 else 0) := by
      unfold rowZ; rw [hlen]; exact sumZ_congr (fun j _ => hE i j)
    rw [e1, sumZ_add]
    congr 1
    by_cases e : i = x
    · rw [if_pos e]
      rw [sumZ_congr (g := fun j => if j = m.length - 1 then 1 else 0) (fun j _ => by by_cases c : j = m.length - 1 <;> simp [e, c])]
      exact sum_ind _ _ (by omega) 1
    · rw [if_neg e]
      exact (sumZ_zero (fun j _ => by rw [if_neg (fun h => e h.1)]; exact Int.le_refl _)).2 (fun j _ => by rw [if_neg (fun h => e h.1)])
  have hall : allZ (impl_Matrix_grown.inc m x) = allZ m + 1 := by
    have e1 : allZ (impl_Matrix_grown.inc m x) = sumZ m.length (fun i => rowZ m i + if i = x then 1 else 0) := by
      unfold allZ; rw [hlen]; exact sumZ_congr (fun i hi => hrow i hi)
    rw [e1, sumZ_add, sum_ind _ _ hx 1]; rfl
  have hnn : ∀ i j, i < m.length → j < m.length → 0 ≤ en (impl_Matrix_grown.inc m x) i j := fun i j hi hj => by
    have := g.2.1.nn hi hj
    rw [hE]; split <;> omega
  refine ⟨⟨by rw [hlen]; exact g.1, fun i hi => ?_, fun i hi => ?_, fun j hj => ?_, by omega⟩, hall, hrow⟩
  · rw [hlen] at hi
    refine ⟨by rw [inc_row m x hx, hlen]; exact (g.2.1 i hi).1, fun j hj => ?_⟩
    rw [hlen] at hj
    have h1 := (g.2.1 i hi).2 j hj
    have h2 := g.en_all hi hj
    refine ⟨hnn i j hi hj, by rw [hE]; split <;> omega, fun hji => ?_⟩
    rw [hE, h1.2.2 hji, if_neg (fun h => by omega)]; rfl
  · rw [hlen] at hi
    have := (g.2.1.row hi).1
    have := g.2.2.1 i hi
    rw [hrow i hi]; split <;> omega
  · rw [hlen] at hj
    obtain ⟨i, hi, hne⟩ := g.shk.2.2.2 j hj
    have h0 := g.2.1.nn hi hj
    unfold colZ
    rw [hlen]
    exact sum_ne (fun i hi => hnn i j hi hj) hi (by rw [hE]; split <;> omega)
/-! A row and a column more -/
theorem ins_getD (r : List Int) (x : Nat) (hx : x ≤ r.length) (j : Nat) : (r.insertIdx x 0).getD j 0 = if j = x then 0 else r.getD (dnx x j) 0 := by
  rw [List.getD_eq_getElem?_getD, insGet _ _ _ _ hx]
  by_cases c : j < x
  · rw [if_pos c, if_neg (by omega), dnx_lt c, List.getD_eq_getElem?_getD]
  · rw [if_neg c]
    by_cases c2 : j = x
    · rw [if_pos c2, if_pos c2]; rfl
    · rw [if_neg c2, if_neg c2, dnx_ge (by omega), List.getD_eq_getElem?_getD]
def wEn (m : List (List Int)) (x i j : Nat) : Int := if i = x then (if j = m.length then 1 else 0) else if i < x ∧ x < m.length then (if j = m.length then 0 else if j = x then en m i (m.length - 1) else en m i (dnx x j)) else if j = x then 0 else en m (dnx x i) (dnx x j)
theorem gRow_en (m : List (List Int)) (h : Cells m) (x : Nat) (hx : x ≤ m.length) (i j : Nat) (hi : i ≤ m.length) (hj : j ≤ m.length) : (gRow m x m.length i).getD j 0 = wEn m x i j := by
  unfold gRow wEn
  by_cases e : i = x
  · rw [if_pos e, if_pos e, getD_setG _ _ _ _ _ (by simp)]
    by_cases c : j = m.length
    · rw [if_pos c, if_pos c]
    · rw [if_neg c, if_neg c, List.getD_eq_getElem?_getD, List.getElem?_replicate, if_pos (by omega)]; rfl
  · rw [if_neg e, if_neg e]
    by_cases c : x < i
    · have hl := (h (i - 1) (by omega)).1
      rw [if_pos c, if_neg (by omega), ins_getD _ _ (by omega), dnx_ge (show x ≤ i by omega)]; rfl
    · have hil : i < m.length := by omega
      have hl := (h i hil).1
      rw [if_neg c]
      by_cases c2 : x < m.length
      · rw [if_pos c2, if_pos ⟨by omega, c2⟩, impl_Matrix_grown.fix]
        have hl2 : ((m.getD i []).insertIdx x 0).length = m.length + 1 := by rw [List.length_insertIdx, if_pos (by omega), hl]
        rw [getD_setG _ _ _ _ _ (by rw [List.length_set]; omega), getD_setG _ _ _ _ _ (by omega), ins_getD _ _ (by omega), ins_getD _ _ (by omega)]
        by_cases c3 : j = m.length
        · rw [if_pos c3, if_pos c3]
        · rw [if_neg c3, if_neg c3]
          by_cases c4 : j = x
          · rw [if_pos c4, if_pos c4, if_neg (by omega), dnx_ge (by omega)]; rfl
          · rw [if_neg c4, if_neg c4, if_neg c4]; rfl
      · rw [if_neg c2, if_neg (fun h => c2 h.2), ins_getD _ _ (by omega), dnx_lt (show i < x by omega)]; rfl
theorem wide_isMat (m : List (List Int)) (g : isMat m) (hz : allZ m ≤ 11) (x : Nat) (hx : x ≤ m.length) (ht : ¬ (x : Int) ≤ topI m) :
    (growM m x).length = m.length + 1 ∧ (∀ i j, i ≤ m.length → j ≤ m.length → en (growM m x) i j = wEn m x i j) ∧ isMat (growM m x) ∧ allZ (growM m x) = allZ m + 1 ∧ ∀ i, i ≤ m.length → rowZ (growM m x) i = if i = x then 1 else rowZ m (dnx x i) := by
  have hG : growM m x = (List.range (m.length + 1)).map (gRow m x m.length) := by rw [growM, if_neg ht]
  have hlen : (growM m x).length = m.length + 1 := by rw [hG]; simp
  have hgr : ∀ i, i ≤ m.length → (growM m x).getD i [] = gRow m x m.length i := fun i hi => by rw [hG, getD_map_range _ _ (by omega)]
  have hE : ∀ i j, i ≤ m.length → j ≤ m.length → en (growM m x) i j = wEn m x i j := fun i j hi hj => by
    rw [en, hgr i hi, gRow_en m g.2.1 x hx i j hi hj]
  have hd11 := g.le_all
  have hrow : ∀ i, i ≤ m.length → rowZ (growM m x) i = if i = x then 1 else rowZ m (dnx x i) := fun i hi => by
    have e1 : rowZ (growM m x) i = sumZ (m.length + 1) (fun j => wEn m x i j) := by
      unfold rowZ; rw [hlen]; exact sumZ_congr (fun j hj => hE i j hi (by omega))
    rw [e1]
    unfold wEn
    by_cases e : i = x
    · simp only [if_pos e]; exact sum_ind _ _ (by omega) 1
    · simp only [if_neg e]
      by_cases c : i < x ∧ x < m.length
      · simp only [if_pos c]
        rw [sumZ, if_pos rfl, Int.add_zero, dnx_lt c.1]
        rw [sumZ_congr (g := fun j => if j = x then en m i (m.length - 1) else en m i (dnx x j)) (fun j hj => by rw [if_neg (by omega)])]
        have h1 := sum_ins (m.length - 1) x (by omega) (en m i (m.length - 1)) (fun j => en m i j)
        have h2 : rowZ m i = sumZ (m.length - 1) (fun j => en m i j) + en m i (m.length - 1) := by
          unfold rowZ
          obtain ⟨d, hd⟩ : ∃ d, m.length = d + 1 := ⟨m.length - 1, by omega⟩
          rw [hd]; rfl
        rw [show m.length - 1 + 1 = m.length from by omega] at h1
        rw [h1, h2]
      · simp only [if_neg c]
        have h1 := sum_ins m.length x hx 0 (fun j => en m (dnx x i) j)
        rw [h1, Int.add_zero]; rfl
  have hall : allZ (growM m x) = allZ m + 1 := by
    have e1 : allZ (growM m x) = sumZ (m.length + 1) (fun i => if i = x then 1 else rowZ m (dnx x i)) := by
      unfold allZ; rw [hlen]; exact sumZ_congr (fun i hi => hrow i (by omega))
    rw [e1, sum_ins m.length x hx 1 (fun i => rowZ m i)]; rfl
  have hdi : ∀ i, i ≤ m.length → i ≠ x → dnx x i < m.length := fun i hi hne => by unfold dnx; split <;> omega
  have hsrc : ∀ i j, i ≤ m.length → j ≤ m.length → (0 ≤ wEn m x i j ∧ wEn m x i j ≤ 12) ∧ (j < i → wEn m x i j = 0) := fun i j hi hj => by
    unfold wEn
    by_cases e : i = x
    · rw [if_pos e]
      refine ⟨by split <;> omega, fun hji => by rw [if_neg (by omega)]⟩
    · rw [if_neg e]
      by_cases c : i < x ∧ x < m.length
      · rw [if_pos c]
        by_cases c2 : j = m.length
        · rw [if_pos c2]; exact ⟨by omega, fun _ => rfl⟩
        · rw [if_neg c2]
          by_cases c3 : j = x
          · rw [if_pos c3]
            have h1 := (g.2.1 i (by omega)).2 (m.length - 1) (by omega)
            exact ⟨⟨h1.1, h1.2.1⟩, fun h => by omega⟩
          · rw [if_neg c3]
            have h1 := (g.2.1 i (by omega)).2 (dnx x j) (hdi j hj c3)
            exact ⟨⟨h1.1, h1.2.1⟩, fun h => h1.2.2 (by rw [dnx_lt (by omega)]; exact h)⟩
      · rw [if_neg c]
        by_cases c3 : j = x
        · rw [if_pos c3]; exact ⟨by omega, fun _ => rfl⟩
        · rw [if_neg c3]
          have h1 := (g.2.1 (dnx x i) (hdi i hi e)).2 (dnx x j) (hdi j hj c3)
          exact ⟨⟨h1.1, h1.2.1⟩, fun h => h1.2.2 (by unfold dnx; split <;> split <;> omega)⟩
  refine ⟨hlen, hE, ⟨by rw [hlen]; omega, fun i hi => ?_, fun i hi => ?_, fun j hj => ?_, by omega⟩, hall, hrow⟩
  · rw [hlen] at hi
    refine ⟨by rw [hgr i (by omega), hlen]; exact gRow_len m g.2.1.bd.sq x hx i (by omega), fun j hj => ?_⟩
    rw [hlen] at hj
    rw [hE i j (by omega) (by omega)]
    have := hsrc i j (by omega) (by omega)
    exact ⟨this.1.1, this.1.2, this.2⟩
  · rw [hlen] at hi
    rw [hrow i (by omega)]
    by_cases e : i = x
    · rw [if_pos e]; decide
    · rw [if_neg e]; exact g.2.2.1 _ (hdi i (by omega) e)
  · rw [hlen] at hj
    unfold colZ
    rw [hlen]
    have hnn : ∀ i, i < m.length + 1 → 0 ≤ en (growM m x) i j := fun i hi => by rw [hE i j (by omega) (by omega)]; exact (hsrc i j (by omega) (by omega)).1.1
    by_cases c : j = m.length
    · refine sum_ne hnn (show x < m.length + 1 by omega) ?_
      rw [hE x j hx (by omega), wEn, if_pos rfl, if_pos c]; decide
    · by_cases c2 : j = x
      · have hp : 0 < m.length := by omega
        have htn := topI_nn m g.shk hp
        obtain ⟨t, ht1⟩ : ∃ t : Nat, topI m = (t : Int) := ⟨(topI m).toNat, by omega⟩
        have hit := seekTop_hit m m.length 0 t ht1
        refine sum_ne hnn (show t < m.length + 1 by omega) ?_
        rw [hE t j (by omega) (by omega), wEn, if_neg (by omega), if_pos ⟨by omega, by omega⟩, if_neg c, if_pos c2]; exact hit
      · obtain ⟨i, hi, hne⟩ := g.shk.2.2.2 (dnx x j) (hdi j (by omega) c2)
        by_cases c3 : i < x
        · refine sum_ne hnn (show i < m.length + 1 by omega) ?_
          rw [hE i j (by omega) (by omega), wEn, if_neg (by omega)]
          by_cases c4 : x < m.length
          · rw [if_pos ⟨c3, c4⟩, if_neg c, if_neg c2]; exact hne
          · rw [if_neg (fun h => c4 h.2), if_neg c2, dnx_lt c3]; exact hne
        · refine sum_ne hnn (show i + 1 < m.length + 1 by omega) ?_
          rw [hE (i + 1) j (by omega) (by omega), wEn, if_neg (by omega), if_neg (by omega), if_neg c2, dnx_ge (by omega)]; exact hne
/-- What growing leaves. -/
theorem grow_isMat (m : List (List Int)) (g : isMat m) (hz : allZ m ≤ 11) (x : Nat) (hx : x ≤ m.length) :
    isMat (growM m x) ∧ allZ (growM m x) = allZ m + 1 ∧ topI (growM m x) = (x : Int) ∧ (growM m x).length = (if (x : Int) ≤ topI m then m.length else m.length + 1) ∧ rowZ (growM m x) 0 = (if m.length = 0 then 0 else rowZ m 0) + if x = 0 then 1 else 0 := by
  have hd := g.1
  obtain ⟨_, i2, i3⟩ := grow_inv m 12 (by decide) (by decide) g.2.1.bd (by omega) x hx
  have ht := topI_lt m
  by_cases c : (x : Int) ≤ topI m
  · obtain ⟨h1, h2, h3⟩ := inc_isMat m g hz x (by omega)
    have e : growM m x = impl_Matrix_grown.inc m x := by rw [growM, if_pos c]
    refine ⟨by rw [e]; exact h1, by rw [e]; exact h2, i2, i3, ?_⟩
    have hne : m.length ≠ 0 := by omega
    rw [e, h3 0 (by omega), if_neg hne]
    congr 1
    by_cases c2 : x = 0
    · rw [if_pos c2.symm, if_pos c2]
    · rw [if_neg (fun h => c2 h.symm), if_neg c2]
  · obtain ⟨_, _, h1, h2, h3⟩ := wide_isMat m g hz x hx c
    refine ⟨h1, h2, i2, i3, ?_⟩
    rw [h3 0 (by omega)]
    by_cases c2 : x = 0
    · rw [if_pos c2.symm, if_pos c2]
      have : m.length = 0 := by
        apply Classical.byContradiction; intro hne
        have := topI_nn m g.shk (by omega)
        omega
      rw [if_pos this]; rfl
    · rw [if_neg (fun h => c2 h.symm), if_neg c2, dnx_lt (by omega), if_neg (by omega), Int.add_zero]
/-- The zeros among the first i numbers. -/
def zeroN (l : List Int) : Nat → Nat
  | 0 => 0
  | i + 1 => zeroN l i + if l.getD i 0 = 0 then 1 else 0
theorem isMat_nil : isMat [] := ⟨by decide, fun i hi => absurd hi (Nat.not_lt_zero _), fun i hi => absurd hi (Nat.not_lt_zero _), fun i hi => absurd hi (Nat.not_lt_zero _), by decide⟩
theorem matA_all (l : List Int) (g : AscOk l) : ∀ i, i ≤ l.length → isMat (matA l i) ∧ allZ (matA l i) = (i : Int) ∧ (if (matA l i).length = 0 then 0 else rowZ (matA l i) 0) = (zeroN l i : Int)
  | 0, _ => ⟨isMat_nil, rfl, rfl⟩
  | i + 1, hi => by
    obtain ⟨h1, h2, h3⟩ := matA_all l g i (by omega)
    obtain ⟨_, x, hx, hxl, hm⟩ := matA_step l g i (by omega)
    have hl := g.1
    obtain ⟨k1, k2, _, k4, k5⟩ := grow_isMat (matA l i) h1 (by omega) x hxl
    rw [← hm] at k1 k2 k4 k5
    refine ⟨k1, by omega, ?_⟩
    have hne : (matA l (i + 1)).length ≠ 0 := by
      have := topI_lt (matA l i)
      rw [k4]; split <;> omega
    rw [if_neg hne, k5, h3, zeroN, hx]
    by_cases c : x = 0
    · rw [if_pos c, if_pos (by omega)]; rfl
    · rw [if_neg c, if_neg (by omega)]; rfl
theorem Shk.small {m : List (List Int)} (g : Shk m) : Small m := ⟨by have := g.1; omega, fun r hr => by
  obtain ⟨i, hi, rfl⟩ := List.getElem_of_mem hr
  rw [← getD_lt m i [] hi, (g.2.1 i hi).1]; have := g.1; omega⟩
theorem eqIntSS_refl (l : List (List Int)) (hl : l.length ≤ 4611686018427387000) (hr : ∀ r ∈ l, r.length ≤ 4611686018427387000) : Ev (fun k => laws_eqIntSS.f k l l) true := by
  unfold laws_eqIntSS.f
  refine Ev_pos rfl ?_
  refine (Ev_for (l := fun k (_ : Unit) i => laws_eqIntSS.l0 k l l (i : Int)) l.length (fun s _ => s) (fun _ => true) (fun _ _ => True) (fun _ _ _ _ => trivial) ?_ ?_ 0 () (by omega) trivial).1
  · intro i s hi _ r hr'
    refine Ev.step (fun k => by rw [laws_eqIntSS.l0]) ?_
    rw [rdL_nat, wrap_succ (by omega)]
    exact Ev_pos (by omega) (Ev_pos (by omega) (Ev_pos (by omega) (Ev.bind (eqIntS_refl _ (hr _ (getD_mem hi))) (Ev_pos rfl hr'))))
  · intro s _
    refine Ev.step (fun k => by rw [laws_eqIntSS.l0]) ?_
    exact Ev_neg (by omega) (Ev_some rfl)
theorem eqMatrix_refl (l : List (List Int)) (hl : l.length ≤ 4611686018427387000) (hr : ∀ r ∈ l, r.length ≤ 4611686018427387000) : Ev (fun k => laws_eqMatrix.f k l l) true := by
  unfold laws_eqMatrix.f
  exact Ev.bind (eqIntSS_refl l hl hr) (Ev_pos rfl (Ev_some rfl))
def tot : List (List Int) → Nat
  | [] => 0
  | r :: rs => r.length + tot rs
def marksSS (a : Int) : List (List Int) → List (List Int)
  | [] => []
  | r :: rs => marks a r.length :: marksSS (a + r.length) rs
theorem rdL_mid (pre : List (List Int)) (r : List Int) (rs : List (List Int)) : rd_L1 (pre ++ r :: rs) (pre.length : Int) = r := by
  rw [rdL_nat, getD_lt _ _ _ (by simp)]; simp
theorem markIntSS_l0 : ∀ (rest pre : List (List Int)) (a : Int), 0 ≤ a → a + tot rest ≤ 4611686018427387000 → (pre.length : Int) + rest.length ≤ 4611686018427387000 → Ev (fun k => laws_markIntSS.l0 k (pre ++ rest) a (pre.length : Int)) (a + tot rest, pre ++ marksSS a rest) := by
  intro rest
  induction rest with
  | nil =>
    intro pre a _ _ _
    refine Ev.step (fun k => by rw [laws_markIntSS.l0]) ?_
    exact Ev_neg (by simp) (Ev_some (by simp [tot, marksSS]))
  | cons r rs ih =>
    intro pre a ha hb hl
    simp only [tot, List.length_cons] at hb hl
    refine Ev.step (fun k => by rw [laws_markIntSS.l0]) ?_
    refine Ev_pos (by simp only [List.length_append, List.length_cons]; omega) (Ev_pos (by omega) ?_)
    rw [rdL_mid, wrap_succ (by omega), Int.toNat_natCast]
    refine Ev.bind (markIntS_ev r a ha (by omega)) ?_
    have := ih (pre ++ [marks a r.length]) (a + r.length) (by omega) (by omega) (by simp only [List.length_append, List.length_cons, List.length_nil]; omega)
    simp only [List.length_append, List.length_cons, List.length_nil, List.append_assoc, List.cons_append, List.nil_append] at this
    simp only [tot, marksSS, List.set_append, Nat.sub_self, List.set_cons_zero, Nat.lt_irrefl, if_false]
    refine Ev_eq this ?_
    rw [show a + (r.length : Int) + (tot rs : Int) = a + ((r.length + tot rs : Nat) : Int) from by omega]
theorem tot_le {m : List (List Int)} {c : Nat} (h : ∀ r ∈ m, r.length ≤ c) : tot m ≤ m.length * c := by
  induction m with
  | nil => simp [tot]
  | cons r rs ih =>
    have h1 := h r (by simp)
    have h2 := ih (fun r hr => h r (by simp [hr]))
    simp only [tot, List.length_cons, Nat.succ_mul]; omega
theorem heldIntSS_l0 : ∀ (rest pre : List (List Int)) (a : Int), 0 ≤ a → a + tot rest ≤ 4611686018427387000 → (pre.length : Int) + rest.length ≤ 4611686018427387000 → Ev (fun k => laws_heldIntSS.l0 k (pre ++ marksSS a rest) a (pre.length : Int)) (a + tot rest) := by
  intro rest
  induction rest with
  | nil =>
    intro pre a _ _ _
    refine Ev.step (fun k => by rw [laws_heldIntSS.l0]) ?_
    exact Ev_neg (by simp [marksSS]) (Ev_some (by simp [tot]))
  | cons r rs ih =>
    intro pre a ha hb hl
    simp only [tot, List.length_cons] at hb hl
    refine Ev.step (fun k => by rw [laws_heldIntSS.l0]) ?_
    simp only [marksSS]
    refine Ev_pos (by simp only [List.length_append, List.length_cons]; omega) (Ev_pos (by omega) ?_)
    rw [rdL_mid, wrap_succ (by omega)]
    refine Ev.bind (heldIntS_ev a r.length ha (by omega)) (Ev_neg (by omega) ?_)
    have := ih (pre ++ [marks a r.length]) (a + r.length) (by omega) (by omega) (by simp only [List.length_append, List.length_cons, List.length_nil]; omega)
    simp only [List.length_append, List.length_cons, List.length_nil, List.append_assoc, List.cons_append, List.nil_append] at this
    refine Ev_eq this ?_
    simp only [tot]; omega
open Memo in
def ascE : Nat → Int → Int → List (List Int)
  | 0 => fun _ _ => [[]]
  | m + 1 => fun l a => (List.range (top l a + 1).toNat).flatMap fun (k : Nat) => (ascE m (k : Int) (nxt l a (k : Int))).map fun s => (k : Int) :: s
open Memo in
theorem pick_spec (m : Nat) (l a : Int) (T : Nat) : ∀ (q k : Nat) (r : Int), T - k ≤ q → k ≤ T → 0 ≤ r → r + psum (fun k : Nat => W m (k : Int) (nxt l a (k : Int))) k < psum (fun k : Nat => W m (k : Int) (nxt l a (k : Int))) T →
    ∃ k' r', pick m l a q k r = some (k', r') ∧ k' < T ∧ 0 ≤ r' ∧ r' < W m (k' : Int) (nxt l a (k' : Int)) ∧ r + psum (fun k : Nat => W m (k : Int) (nxt l a (k : Int))) k = r' + psum (fun k : Nat => W m (k : Int) (nxt l a (k : Int))) k'
  | 0, k, r, hq, hk, hr, h => by
    obtain rfl : k = T := by omega
    omega
  | q + 1, k, r, hq, hk, hr, h => by
    by_cases e : k = T
    · subst e; omega
    · unfold pick
      by_cases c : r < W m (k : Int) (nxt l a (k : Int))
      · rw [if_pos c]
        exact ⟨k, r, rfl, by omega, hr, c, rfl⟩
      · rw [if_neg c]
        have e1 : psum (fun k : Nat => W m (k : Int) (nxt l a (k : Int))) (k + 1) = psum (fun k : Nat => W m (k : Int) (nxt l a (k : Int))) k + W m (k : Int) (nxt l a (k : Int)) := rfl
        obtain ⟨k', r', h1, h2, h3, h4, h5⟩ := pick_spec m l a T q (k + 1) (r - W m (k : Int) (nxt l a (k : Int))) (by omega) (by omega) (by omega) (by omega)
        exact ⟨k', r', h1, h2, h3, h4, by omega⟩
open Memo in
theorem flat_len {β : Type} (g : Nat → List β) (f : Nat → Int) (hf : ∀ k, ((g k).length : Int) = f k) : ∀ T : Nat, (((List.range T).flatMap g).length : Int) = psum f T
  | 0 => rfl
  | T + 1 => by
    rw [List.range_succ, List.flatMap_append, List.length_append]
    have h1 := flat_len g f hf T
    have h2 := hf T
    have e : psum f (T + 1) = psum f T + f T := rfl
    simp only [List.flatMap_cons, List.flatMap_nil, List.append_nil]
    omega
open Memo in
theorem flat_at {β : Type} (g : Nat → List β) (f : Nat → Int) (hf : ∀ k, ((g k).length : Int) = f k) (k' : Nat) (r' : Nat) (hr : (r' : Int) < f k') : ∀ T : Nat, k' < T → ∀ i : Nat, (i : Int) = r' + psum f k' → ((List.range T).flatMap g)[i]? = (g k')[r']?
  | 0, h, _, _ => by omega
  | T + 1, h, i, hi => by
    rw [List.range_succ, List.flatMap_append]
    simp only [List.flatMap_cons, List.flatMap_nil, List.append_nil]
    have h1 := flat_len g f hf T
    have h2 := hf k'
    by_cases c : k' = T
    · subst c
      rw [List.getElem?_append_right (by omega)]
      exact congrArg _ (by omega)
    · have ih := flat_at g f hf k' r' hr T (by omega) i hi
      rw [List.getElem?_append_left ?_]
      · exact ih
      · have hlt : r' < (g k').length := by omega
        rw [List.getElem?_eq_getElem hlt] at ih
        exact (List.getElem?_eq_some_iff.1 ih).1
open Memo in
theorem ascE_len : ∀ (m : Nat) (l a : Int), ((ascE m l a).length : Int) = W m l a
  | 0, l, a => rfl
  | m + 1, l, a => by
    show (((List.range (top l a + 1).toNat).flatMap _).length : Int) = psum _ _
    refine flat_len _ _ (fun k => ?_) _
    rw [List.length_map]
    exact ascE_len m _ _
open Memo in
theorem go_E : ∀ (m : Nat) (l a r : Int) (out : List Int), 0 ≤ a → a + m ≤ 24 → 0 ≤ r → r < W m l a → ∃ s, (ascE m l a)[r.toNat]? = some s ∧ go m l a r out = some (out ++ s)
  | 0, l, a, r, out, _, _, h1, h2 => by
    have h3 : r < 1 := h2
    obtain rfl : r = 0 := by omega
    exact ⟨[], rfl, by simp [go]⟩
  | m + 1, l, a, r, out, ha, hm, h1, h2 => by
    have ht := top_le l a ha
    obtain ⟨k', r', p1, p2, p3, p4, p5⟩ := pick_spec m l a (top l a + 1).toNat 30 0 r (by omega) (by omega) h1 (by show r + 0 < _; rw [Int.add_zero]; exact h2)
    have hn := nxt_le l a (k' : Int)
    obtain ⟨s, s1, s2⟩ := go_E m (k' : Int) (nxt l a (k' : Int)) r' (out ++ [(k' : Int)]) (by omega) (by omega) p3 p4
    refine ⟨(k' : Int) :: s, ?_, ?_⟩
    · have := flat_at (fun k : Nat => (ascE m (k : Int) (nxt l a (k : Int))).map fun s => (k : Int) :: s) (fun k : Nat => W m (k : Int) (nxt l a (k : Int))) (fun k => by rw [List.length_map]; exact ascE_len m _ _) k' r'.toNat (by rw [Int.toNat_of_nonneg p3]; exact p4) (top l a + 1).toNat p2 r.toNat (by
        rw [Int.toNat_of_nonneg p3, Int.toNat_of_nonneg h1, ← p5]; show r = r + 0; rw [Int.add_zero])
      show ((List.range (top l a + 1).toNat).flatMap _)[r.toNat]? = _
      rw [this, List.getElem?_map, s1]
      rfl
    · show (pick m l a 30 0 r).bind _ = _
      rw [p1]
      show go m (k' : Int) (nxt l a (k' : Int)) r' (out ++ [(k' : Int)]) = _
      rw [s2, List.append_assoc]
      rfl
open Memo in
theorem col_E (n : Nat) (hn : n ≤ 7) : ∀ i : Nat, i ≤ (ascE n (-1) 0).length → col n i = some ((ascE n (-1) 0).take i)
  | 0, _ => rfl
  | i + 1, h => by
    have hl := ascE_len n (-1) 0
    obtain ⟨s, s1, s2⟩ := go_E n (-1) 0 (i : Int) [] (by omega) (by omega) (by omega) (by omega)
    rw [Int.toNat_natCast] at s1
    show (col n i).bind _ = _
    rw [col_E n hn i (by omega)]
    show (withRank n (i : Int)).bind _ = _
    have : withRank n (i : Int) = some s := by
      unfold withRank
      rw [if_pos ⟨by omega, by omega⟩, s2]
      rfl
    rw [this]
    show some _ = some _
    rw [List.take_add_one, s1]
    rfl
open Memo in
theorem lists_E (z : Int) : lists z = if 0 ≤ z ∧ z ≤ 7 then some (ascE z.toNat (-1) 0, true) else some ([], false) := by
  unfold lists
  by_cases c : 0 ≤ z ∧ z ≤ 7
  · rw [if_pos c, if_pos c]
    have hl := ascE_len z.toNat (-1) 0
    rw [col_E z.toNat (by omega) _ (by omega), List.take_of_length_le (by omega)]
    rfl
  · rw [if_neg c, if_neg c]
theorem ev_mono {α : Type} {f : Nat → Option α} {r : α} (hm : ∀ k, LeO (f k) (f (k + 1))) {k0 : Nat} (h : f k0 = some r) : Ev f r := by
  refine ⟨k0, fun k hk => ?_⟩
  obtain ⟨d, rfl⟩ : ∃ d, k = k0 + d := ⟨k - k0, by omega⟩
  clear hk
  induction d with
  | zero => exact h
  | succ d ih => exact hm _ r ih
def chkE : List (List Int) → Bool
  | x :: y :: r => (spec_asNext.f 20 x == some (y, true)) && chkE (y :: r)
  | [x] => spec_asNext.f 20 x == some ([], false)
  | [] => false
def goodE (n : Nat) : Bool := chkE (ascE n (-1) 0) && ((ascE n (-1) 0).head? == some (List.replicate n 0)) && (ascE n (-1) 0).all (fun l => decide (AscOk l)) && decide ((ascE n (-1) 0).length ≤ 100000)
set_option maxRecDepth 100000 in
theorem good_all : (List.range 8).all goodE = true := by decide +kernel
theorem specRun_ev : ∀ (L out : List (List Int)) (x : List Int), chkE (x :: L) = true → out.length + L.length < 900000 → Ev (fun k => spec_ListAscents.l0 k out x true) (out ++ x :: L, true)
  | [], out, x, hc, hl => by
    have h1 : spec_asNext.f 20 x = some ([], false) := by simpa [chkE] using hc
    refine Ev.step (fun k => by rw [spec_ListAscents.l0]) ?_
    refine Ev_pos rfl (Ev_pos (by simp only [List.length_nil] at hl; omega) (Ev.bind (ev_mono (fun k => spec_asNext.mono x k) h1) ?_))
    refine Ev.step (fun k => by rw [spec_ListAscents.l0]) ?_
    exact Ev_neg Bool.false_ne_true (Ev_some rfl)
  | y :: L, out, x, hc, hl => by
    have h2 : spec_asNext.f 20 x = some (y, true) ∧ chkE (y :: L) = true := by simpa [chkE] using hc
    refine Ev.step (fun k => by rw [spec_ListAscents.l0]) ?_
    refine Ev_pos rfl (Ev_pos (by simp only [List.length_cons] at hl; omega) (Ev.bind (ev_mono (fun k => spec_asNext.mono x k) h2.1) ?_))
    have ih := specRun_ev L (out ++ [x]) y h2.2 (by simp only [List.length_cons, List.length_append, List.length_nil] at hl ⊢; omega)
    rw [List.append_assoc] at ih
    exact ih
def listR (z : Int) : List (List Int) × Bool := if 0 ≤ z ∧ z ≤ 7 then (ascE z.toNat (-1) 0, true) else ([], false)
theorem listR_good (z : Int) : (∀ l ∈ (listR z).1, AscOk l) ∧ (listR z).1.length ≤ 100000 := by
  unfold listR
  by_cases c : 0 ≤ z ∧ z ≤ 7
  · rw [if_pos c]
    have h := List.all_eq_true.1 good_all z.toNat (List.mem_range.2 (by omega))
    simp only [goodE, Bool.and_eq_true] at h
    exact ⟨fun l hl => of_decide_eq_true (List.all_eq_true.1 h.1.2 l hl), of_decide_eq_true h.2⟩
  · rw [if_neg c]; exact ⟨fun l hl => by simp at hl, by simp⟩
theorem specLA_ev (z : Int) : Ev (fun k => spec_ListAscents.f k z) (listR z) := by
  unfold spec_ListAscents.f listR
  by_cases c : 0 ≤ z ∧ z ≤ 7
  · rw [if_pos c]
    refine Ev_pos c ?_
    have h := List.all_eq_true.1 good_all z.toNat (List.mem_range.2 (by omega))
    simp only [goodE, Bool.and_eq_true] at h
    obtain ⟨⟨⟨h1, h2⟩, _⟩, h4⟩ := h
    have h4 := of_decide_eq_true h4
    have h2 : (ascE z.toNat (-1) 0).head? = some (List.replicate z.toNat 0) := by simpa using h2
    revert h1 h2 h4
    generalize ascE z.toNat (-1) 0 = L
    intro h1 h4 h2
    cases L with
    | nil => simp at h2
    | cons x L =>
      have e : x = List.replicate z.toNat 0 := by simpa using h2
      rw [← e]
      cases L with
      | nil =>
        have h1 : spec_asNext.f 20 x = some ([], false) := by simpa [chkE] using h1
        refine Ev.bind (ev_mono (fun k => spec_asNext.mono x k) h1) ?_
        refine Ev.step (fun k => by rw [spec_ListAscents.l0]) ?_
        exact Ev_neg Bool.false_ne_true (Ev_some rfl)
      | cons y L =>
        have h1 : spec_asNext.f 20 x = some (y, true) ∧ chkE (y :: L) = true := by simpa [chkE] using h1
        refine Ev.bind (ev_mono (fun k => spec_asNext.mono x k) h1.1) ?_
        exact specRun_ev L [x] y h1.2 (by simp only [List.length_cons, List.length_nil] at h4 ⊢; omega)
  · rw [if_neg c]; exact Ev_neg c (Ev_some rfl)
theorem implLA_eq (z : Int) : impl_ListAscents.f z = some (listR z) := by
  show Memo.lists z = _
  rw [lists_E]
  unfold listR
  by_cases c : 0 ≤ z ∧ z ≤ 7
  · rw [if_pos c, if_pos c]
  · rw [if_neg c, if_neg c]
theorem specOf_ev (l : List Int) (g : AscOk l) : Ev (fun k => spec_maOf.f k l) (matA l l.length) := by
  unfold spec_maOf.f
  exact matOf_ev l g (fun k => spec_maOf.l0 k) (fun k => spec_maGrow.f k) (fun _ _ _ _ _ => rfl) (fun m hd h hs x hx => maGrow_ev m hd h hs x hx)
theorem implOf_ev (l : List Int) (g : AscOk l) : Ev (fun k => impl_matrixOf.f k l) (matA l l.length) := by
  unfold impl_matrixOf.f
  exact matOf_ev l g (fun k => impl_matrixOf.l0 k) (fun k => impl_Matrix_grown.f k) (fun _ _ _ _ _ => rfl) (fun m hd h hs x hx => grown_ev m hd h hs x hx)
def mats (L : List (List Int)) : List S34 := L.map fun l => ⟨matA l l.length⟩
theorem listM_ev (f : Nat → List S34 → List (List Int) → Int → Int → Option (List S34 × Bool)) (G : Nat → List Int → Option (List (List Int)))
    (hf : ∀ k x6 x17 x18 x19, f (k + 1) x6 x17 x18 x19 = if x19 < x18 then (if 0 ≤ x19 then (if x19 < (x17.length : Int) then ((G k (rd_L1 x17 x19)).bind fun t => (if x6.length < 5864062014805 then (f k (x6 ++ [(⟨t⟩ : S34)]) x17 x18 (wrap64 (x19 + 1))) else (none))) else (none)) else (none)) else (some (x6, true)))
    (hG : ∀ l, AscOk l → Ev (fun k => G k l) (matA l l.length)) (L : List (List Int)) (hL : ∀ l ∈ L, AscOk l) (hn : L.length ≤ 100000) : Ev (fun k => f k [] L (L.length : Int) 0) (mats L, true) := by
  have main : ∀ (d i : Nat), L.length - i = d → i ≤ L.length → Ev (fun k => f k (mats (L.take i)) L (L.length : Int) (i : Int)) (mats L, true) := by
    intro d
    induction d with
    | zero =>
      intro i hd hi
      obtain rfl : i = L.length := by omega
      refine Ev.step (fun k => hf k _ _ _ _) (Ev_neg (by omega) (Ev_some ?_))
      rw [List.take_length]
    | succ d ih =>
      intro i hd hi
      have hlt : i < L.length := by omega
      have e : rd_L1 L (i : Int) = L[i] := by
        show L.getD (i : Int).toNat [] = _
        rw [Int.toNat_natCast]; exact getD_lt L i [] hlt
      refine Ev.step (fun k => hf k _ _ _ _) (Ev_pos (by omega) (Ev_pos (by omega) (Ev_pos (by omega) (Ev.bind (a := matA L[i] L[i].length) ?_ ?_))))
      · rw [e]; exact hG _ (hL _ (List.getElem_mem hlt))
      · refine Ev_pos (by simp only [mats, List.length_map, List.length_take]; omega) ?_
        rw [wrap_succ (by omega)]
        have h1 := ih (i + 1) (by omega) (by omega)
        rw [show mats (L.take (i + 1)) = mats (L.take i) ++ [(⟨matA L[i] L[i].length⟩ : S34)] from by
          unfold mats; rw [List.take_succ_eq_append_getElem hlt, List.map_append]; rfl] at h1
        exact h1
  exact main _ 0 rfl (Nat.zero_le _)
def matsR (z : Int) : List S34 × Bool := (mats (listR z).1, (listR z).2)
theorem specLM_ev (z : Int) : Ev (fun k => spec_ListMatrices.f k z) (matsR z) := by
  unfold spec_ListMatrices.f
  refine Ev.bind (specLA_ev z) ?_
  obtain ⟨h1, h2⟩ := listR_good z
  unfold matsR
  by_cases c : (listR z).2 = true
  · refine Ev_pos c ?_
    rw [c]
    exact listM_ev (fun k => spec_ListMatrices.l0 k) (fun k => spec_maOf.f k) (fun _ _ _ _ _ => rfl) specOf_ev _ h1 h2
  · refine Ev_neg c (Ev_some ?_)
    have : (listR z).1 = [] := by
      unfold listR at c ⊢
      by_cases d : 0 ≤ z ∧ z ≤ 7
      · rw [if_pos d] at c; exact absurd rfl c
      · rw [if_neg d]
    have c2 : (listR z).2 = false := by simpa using c
    rw [this, c2]; rfl
theorem implLM_ev (z : Int) : Ev (fun k => impl_ListMatrices.f k z) (matsR z) := by
  unfold impl_ListMatrices.f
  refine Ev_val (implLA_eq z) ?_
  obtain ⟨h1, h2⟩ := listR_good z
  unfold matsR
  by_cases c : (listR z).2 = true
  · refine Ev_pos c ?_
    rw [c]
    exact listM_ev (fun k => impl_ListMatrices.l0 k) (fun k => impl_matrixOf.f k) (fun _ _ _ _ _ => rfl) implOf_ev _ h1 h2
  · refine Ev_neg c (Ev_some ?_)
    have : (listR z).1 = [] := by
      unfold listR at c ⊢
      by_cases d : 0 ≤ z ∧ z ≤ 7
      · rw [if_pos d] at c; exact absurd rfl c
      · rw [if_neg d]
    have c2 : (listR z).2 = false := by simpa using c
    rw [this, c2]; rfl
def totM : List S34 → Nat
  | [] => 0
  | x :: xs => tot x.f0 + totM xs
def marksM (a : Int) : List S34 → List S34
  | [] => []
  | x :: xs => ⟨marksSS a x.f0⟩ :: marksM (a + tot x.f0) xs
theorem rdM_mid (pre : List S34) (r : S34) (rs : List S34) : rd_T34 (pre ++ r :: rs) (pre.length : Int) = r := by
  show (pre ++ r :: rs).getD (pre.length : Int).toNat z34 = r
  rw [Int.toNat_natCast, getD_lt _ _ _ (by simp)]; simp
theorem markMS_l0 : ∀ (rest pre : List S34) (a : Int), 0 ≤ a → a + totM rest ≤ 4611686018427387000 → (pre.length : Int) + rest.length ≤ 4611686018427387000 → (∀ x ∈ rest, x.f0.length ≤ 1000) → Ev (fun k => laws_markMatrixS.l0 k (pre ++ rest) a (pre.length : Int)) (a + totM rest, pre ++ marksM a rest) := by
  intro rest
  induction rest with
  | nil =>
    intro pre a _ _ _ _
    refine Ev.step (fun k => by rw [laws_markMatrixS.l0]) ?_
    exact Ev_neg (by simp) (Ev_some (by simp [totM, marksM]))
  | cons r rs ih =>
    intro pre a ha hb hl hs
    simp only [totM, List.length_cons] at hb hl
    have h1 := hs r (by simp)
    refine Ev.step (fun k => by rw [laws_markMatrixS.l0]) ?_
    refine Ev_pos (by simp only [List.length_append, List.length_cons]; omega) (Ev_pos (by omega) ?_)
    rw [rdM_mid, wrap_succ (by omega), Int.toNat_natCast]
    have hm := markIntSS_l0 r.f0 [] a ha (by omega) (by simp only [List.length_nil]; omega)
    refine Ev.bind (a := (a + (tot r.f0 : Int), marksSS a r.f0)) hm ?_
    have := ih (pre ++ [⟨marksSS a r.f0⟩]) (a + tot r.f0) (by omega) (by omega) (by simp only [List.length_append, List.length_cons, List.length_nil]; omega) (fun x hx => hs x (by simp [hx]))
    simp only [List.length_append, List.length_cons, List.length_nil, List.append_assoc, List.cons_append, List.nil_append] at this
    simp only [totM, marksM, List.set_append, Nat.sub_self, List.set_cons_zero, Nat.lt_irrefl, if_false]
    refine Ev_eq this ?_
    rw [show a + (tot r.f0 : Int) + (totM rs : Int) = a + ((tot r.f0 + totM rs : Nat) : Int) from by omega]
theorem heldMS_l0 : ∀ (rest pre : List S34) (a : Int), 0 ≤ a → a + totM rest ≤ 4611686018427387000 → (pre.length : Int) + rest.length ≤ 4611686018427387000 → (∀ x ∈ rest, x.f0.length ≤ 1000) → Ev (fun k => laws_heldMatrixS.l0 k (pre ++ marksM a rest) a (pre.length : Int)) (a + totM rest) := by
  intro rest
  induction rest with
  | nil =>
    intro pre a _ _ _ _
    refine Ev.step (fun k => by rw [laws_heldMatrixS.l0]) ?_
    exact Ev_neg (by simp [marksM]) (Ev_some (by simp [totM]))
  | cons r rs ih =>
    intro pre a ha hb hl hs
    simp only [totM, List.length_cons] at hb hl
    have h1 := hs r (by simp)
    refine Ev.step (fun k => by rw [laws_heldMatrixS.l0]) ?_
    simp only [marksM]
    refine Ev_pos (by simp only [List.length_append, List.length_cons]; omega) (Ev_pos (by omega) ?_)
    rw [rdM_mid, wrap_succ (by omega)]
    refine Ev.bind (heldIntSS_l0 r.f0 [] a ha (by omega) (by simp only [List.length_nil]; omega)) (Ev_neg (by omega) ?_)
    have := ih (pre ++ [⟨marksSS a r.f0⟩]) (a + tot r.f0) (by omega) (by omega) (by simp only [List.length_append, List.length_cons, List.length_nil]; omega) (fun x hx => hs x (by simp [hx]))
    simp only [List.length_append, List.length_cons, List.length_nil, List.append_assoc, List.cons_append, List.nil_append] at this
    refine Ev_eq this ?_
    simp only [totM]; omega
theorem eqMS_refl (l : List S34) (hl : l.length ≤ 4611686018427387000) (hr : ∀ x ∈ l, x.f0.length ≤ 1000 ∧ ∀ r ∈ x.f0, r.length ≤ 1000) : Ev (fun k => laws_eqMatrixS.f k l l) true := by
  unfold laws_eqMatrixS.f
  refine Ev_pos rfl ?_
  refine (Ev_for (l := fun k (_ : Unit) i => laws_eqMatrixS.l0 k l l (i : Int)) l.length (fun s _ => s) (fun _ => true) (fun _ _ => True) (fun _ _ _ _ => trivial) ?_ ?_ 0 () (by omega) trivial).1
  · intro i s hi _ r hr'
    refine Ev.step (fun k => by rw [laws_eqMatrixS.l0]) ?_
    have e : rd_T34 l (i : Int) = l.getD i z34 := by show l.getD (i : Int).toNat z34 = _; rw [Int.toNat_natCast]
    rw [e, wrap_succ (by omega)]
    have hx := hr _ (getD_mem (z := z34) hi)
    exact Ev_pos (by omega) (Ev_pos (by omega) (Ev_pos (by omega) (Ev.bind (eqMatrix_refl _ (by have := hx.1; omega) (fun r h => by have := hx.2 r h; omega)) (Ev_pos rfl hr'))))
  · intro s _
    refine Ev.step (fun k => by rw [laws_eqMatrixS.l0]) ?_
    exact Ev_neg (by omega) (Ev_some rfl)
theorem totM_le {c : Nat} : ∀ {l : List S34}, (∀ x ∈ l, tot x.f0 ≤ c) → totM l ≤ l.length * c
  | [], _ => by simp [totM]
  | r :: rs, h => by
    have h1 := h r (by simp)
    have h2 := totM_le (l := rs) (fun r hr => h r (by simp [hr]))
    simp only [totM, List.length_cons, Nat.succ_mul]; omega
theorem mats_small (z : Int) : (matsR z).1.length ≤ 100000 ∧ ∀ x ∈ (matsR z).1, x.f0.length ≤ 1000 ∧ ∀ r ∈ x.f0, r.length ≤ 1000 := by
  obtain ⟨h1, h2⟩ := listR_good z
  unfold matsR mats
  refine ⟨by rw [List.length_map]; exact h2, fun x hx => ?_⟩
  obtain ⟨l, hl, rfl⟩ := List.mem_map.1 hx
  have g := (matA_all l (h1 l hl) _ (Nat.le_refl _)).1
  refine ⟨by have := g.1; show (matA l l.length).length ≤ 1000; omega, fun r hr => ?_⟩
  obtain ⟨i, hi, rfl⟩ := List.mem_iff_getElem.1 hr
  have := (g.2.1 i hi).1
  rw [getD_lt _ _ _ hi] at this
  have := g.1
  omega
theorem FnExactListMatrices : ∀ (a0 : Int), (Lit.int .i64 a0).wf = true → Kx.laws_FnExactListMatrices.Plain a0 := by
  intro z _
  have hS := specLM_ev z
  have hI := implLM_ev z
  have hB := mats_small z
  revert hS hI hB
  generalize matsR z = R
  obtain ⟨r, b⟩ := R
  intro hS hI hB
  have hB1 : r.length ≤ 100000 := hB.1
  have hB2 : ∀ x ∈ r, x.f0.length ≤ 1000 ∧ ∀ q ∈ x.f0, q.length ≤ 1000 := hB.2
  have ht : totM r ≤ 100000 * 1000000 := Nat.le_trans (totM_le (fun x hx => Nat.le_trans (tot_le (hB2 x hx).2) (Nat.mul_le_mul_right _ (hB2 x hx).1))) (Nat.mul_le_mul_right _ hB1)
  obtain ⟨k1, h1⟩ := hS
  obtain ⟨k2, h2⟩ := hI
  obtain ⟨k3, h3⟩ := eqMS_refl r (by omega) hB2
  obtain ⟨k4, h4⟩ := markMS_l0 r [] 1 (by omega) (by omega) (by simp only [List.length_nil]; omega) (fun x hx => (hB2 x hx).1)
  obtain ⟨k5, h5⟩ := heldMS_l0 r [] 1 (by omega) (by omega) (by simp only [List.length_nil]; omega) (fun x hx => (hB2 x hx).1)
  exact ⟨k1 + k2 + k3 + k4 + k5, r, b, _, _, h1 _ (by omega), h2 _ (by omega), h3 _ (by omega), h4 _ (by omega), by omega, h5 _ (by omega)⟩
end Go.Proofs.Ytngkfgleffagcaa.Pure
