/- ParseMatrix of the program and of the reference answer alike, for every string. -/
import Derived.Test.YtadflnoofnonoaaDoorWalkFnExactParseMatrix
import Derived.Test.YtadflnoofnonoaaDoorWSized
namespace Go.Proofs.YtadflnoofnonoaaDoor.PrintWords
open Go.RowKit
/-- The words' theorem, under the name by which the printed row calls it. -/
theorem sized_ints {H : Type} {enc : TypeId × Value → H} {P : Program} {W : World} {base : Nat} {spare : Nat → Bool} {held : Bool} {t e : TypeId} {k : IntKind} {a : Option Addr} {len cap : Nat} {d : DataW H} {ps : List MemPlace} {ts : List TypeId} {ds : List (DataW H)} {j : Nat}
    (g0 : (DataW.weightsEach P ts ds).all (· ≤ reachBytes) = true) (g1 : ts[j]? = some t) (g2 : ds[j]? = some d) (g3 : P.underlying t = some (.slice e)) (g4 : P.underlying e = some (.int k)) (g5 : P.cellsOf e = 1) {B : Nat} (g6 : P.bytesOf e = B)
    (g7 : DataW.Trod enc P W base spare held t (.slice a len cap) d ps) : len * B ≤ 140737488351232 := Go.Proofs.YtadflnoofnonoaaDoorW.PrintWords.sized_ints g0 g1 g2 g3 g4 g5 g6 g7
end Go.Proofs.YtadflnoofnonoaaDoor.PrintWords
set_option linter.unusedVariables false
namespace Go.Proofs.YtadflnoofnonoaaDoor.Pure
open Go.RowKit Go.Proofs.YtadflnoofnonoaaDoor.Px Go.Proofs.YtadflnoofnonoaaDoorW.PrintWords Go.Proofs.YtadflnoofnonoaaDoorW.PrintLast Go.Proofs.YtadflnoofnonoaaDoorW.PrintMore
section Prelude
theorem Ev_pos {α : Type} {c : Prop} [Decidable c] {f g : Nat → Option α} {r : α} (h : c) (k : Ev f r) : Ev (fun n => if c then f n else g n) r :=
  Ev.congr (fun _ => if_pos h) k
theorem Ev_neg {α : Type} {c : Prop} [Decidable c] {f g : Nat → Option α} {r : α} (h : ¬ c) (k : Ev g r) : Ev (fun n => if c then f n else g n) r :=
  Ev.congr (fun _ => if_neg h) k
theorem Ev_val {α β : Type} {g : Option α} {f : Nat → α → Option β} {a : α} {r : β} (h : g = some a) (k : Ev (fun n => f n a) r) : Ev (fun n => g.bind (f n)) r :=
  Ev.congr (fun _ => by rw [h]; rfl) k
theorem Ev_some {α : Type} {a r : α} (h : a = r) : Ev (fun _ => some a) r := ⟨0, fun _ _ => by rw [h]⟩
theorem Ev_eq {α : Type} {g : Nat → Option α} {a r : α} (h : Ev g a) (e : a = r) : Ev g r := e ▸ h
theorem wrap_small {x : Int} (h0 : -4611686018427387904 ≤ x) (h1 : x ≤ 4611686018427387904) : wrap64 x = x := by unfold wrap64; omega
theorem wrap_succ {i : Nat} (h : i ≤ 4611686018427387900) : wrap64 ((i : Int) + 1) = ((i + 1 : Nat) : Int) := by unfold wrap64; omega
theorem wrap_pred {i : Nat} (h : i ≤ 4611686018427387900) : wrap64 ((i + 1 : Nat) - 1 : Int) = (i : Int) := by unfold wrap64; omega
theorem rd_nat (xs : List Int) (i : Nat) : rd xs (i : Int) = xs.getD i 0 := by simp [rd]
theorem getD_lt {α : Type} (xs : List α) (i : Nat) (z : α) (h : i < xs.length) : xs.getD i z = xs[i] := by simp [List.getD_eq_getElem?_getD, h]
theorem wf_range {x : Int} (h : (Lit.int .i64 x).wf = true) : -9223372036854775808 ≤ x ∧ x ≤ 9223372036854775807 := by
  simp [Lit.wf] at h
  exact h
theorem ext_getD {xs ys : List Int} (hl : xs.length = ys.length) (h : ∀ i, i < xs.length → xs.getD i 0 = ys.getD i 0) : xs = ys := by
  apply List.ext_getElem hl
  intro i h1 h2
  have := h i h1
  rwa [getD_lt _ _ _ h1, getD_lt _ _ _ h2] at this
theorem dec_eq {a b : Prop} [Decidable a] [Decidable b] (h : a ↔ b) : decide a = decide b := by simp [h]
/-- The rounds i, .., n - 1 of a loop. -/
def foldFrom {σ : Type} (n : Nat) (step : σ → Nat → σ) (s : σ) (i : Nat) : σ := (List.range' i (n - i)).foldl step s
theorem foldFrom_lt {σ : Type} {n : Nat} {step : σ → Nat → σ} {s : σ} {i : Nat} (h : i < n) : foldFrom n step s i = foldFrom n step (step s i) (i + 1) := by
  unfold foldFrom
  rw [show n - i = (n - (i + 1)) + 1 from by omega, List.range'_succ, List.foldl_cons]
theorem foldFrom_ge {σ : Type} {n : Nat} {step : σ → Nat → σ} {s : σ} {i : Nat} (h : n ≤ i) : foldFrom n step s i = s := by
  unfold foldFrom
  rw [show n - i = 0 from by omega]; rfl
/-- A loop that counts up to n: what a round does to the state, what holds of it, and what the end makes of it. -/
theorem Ev_for {σ ρ : Type} {l : Nat → σ → Nat → Option ρ} (n : Nat) (step : σ → Nat → σ) (fin : σ → ρ) (Inv : σ → Nat → Prop)
    (hinv : ∀ i s, i < n → Inv s i → Inv (step s i) (i + 1))
    (hstep : ∀ i s, i < n → Inv s i → ∀ r, Ev (fun k => l k (step s i) (i + 1)) r → Ev (fun k => l k s i) r)
    (hend : ∀ s, Inv s n → Ev (fun k => l k s n) (fin s)) :
    ∀ i s, i ≤ n → Inv s i → Ev (fun k => l k s i) (fin (foldFrom n step s i)) ∧ Inv (foldFrom n step s i) n := by
  have main : ∀ d i s, n - i = d → i ≤ n → Inv s i → Ev (fun k => l k s i) (fin (foldFrom n step s i)) ∧ Inv (foldFrom n step s i) n := by
    intro d
    induction d with
    | zero =>
      intro i s hd hi h
      obtain rfl : i = n := by omega
      rw [foldFrom_ge (Nat.le_refl _)]
      exact ⟨hend s h, h⟩
    | succ d ih =>
      intro i s hd hi h
      rw [foldFrom_lt (by omega)]
      obtain ⟨h1, h2⟩ := ih (i + 1) (step s i) (by omega) (by omega) (hinv i s (by omega) h)
      exact ⟨hstep i s (by omega) h _ h1, h2⟩
  exact fun i s hi h => main _ i s rfl hi h
/-- A loop that asks each round, and ends with 'no' at the first round that says no. -/
theorem Ev_all (l : Nat → Nat → Option Bool) (n : Nat) (P : Nat → Bool) (r : Bool)
    (hgo : ∀ i, i < n → (∀ j, j < i → P j = true) → P i = true → ∀ q, Ev (fun k => l k (i + 1)) q → Ev (fun k => l k i) q)
    (hno : ∀ i, i < n → (∀ j, j < i → P j = true) → P i = false → Ev (fun k => l k i) false)
    (hend : (∀ j, j < n → P j = true) → Ev (fun k => l k n) r) : Ev (fun k => l k 0) (decide (∀ j, j < n → P j = true) && r) := by
  have main : ∀ d i, n - i = d → i ≤ n → (∀ j, j < i → P j = true) → Ev (fun k => l k i) (decide (∀ j, j < n → P j = true) && r) := by
    intro d
    induction d with
    | zero =>
      intro i hd hi h
      obtain rfl : i = n := by omega
      rw [decide_eq_true h, Bool.true_and]
      exact hend h
    | succ d ih =>
      intro i hd hi h
      by_cases c : P i = true
      · refine hgo i (by omega) h c _ (ih (i + 1) (by omega) (by omega) (fun j hj => ?_))
        by_cases e : j = i
        · rw [e]; exact c
        · exact h j (by omega)
      · refine Ev_eq (hno i (by omega) h (by simpa using c)) ?_
        rw [decide_eq_false (fun hh => c (hh i (by omega))), Bool.false_and]
  exact main _ 0 rfl (by omega) (fun j hj => by omega)
end Prelude
theorem rdL_nat (xs : List (List Int)) (i : Nat) : rd_L1 xs (i : Int) = xs.getD i [] := by unfold rd_L1; rw [Int.toNat_natCast]
theorem getD_mem {α : Type} {xs : List α} {i : Nat} {z : α} (h : i < xs.length) : xs.getD i z ∈ xs := by rw [getD_lt _ _ _ h]; exact List.getElem_mem h
def Small (l : List (List Int)) : Prop := l.length ≤ 2097152 ∧ ∀ r ∈ l, r.length ≤ 2097152
theorem eqIntS_l0 (a b : List Int) (hl : a.length = b.length) (hs : a.length ≤ 4611686018427387000) : ∀ (d i : Nat), a.length - i = d → i ≤ a.length → Ev (fun k => laws_eqIntS.l0 k a b (i : Int)) (decide (a.drop i = b.drop i)) := by
  intro d
  induction d with
  | zero =>
    intro i hd hi
    refine Ev.step (fun k => by rw [laws_eqIntS.l0]) ?_
    refine Ev_neg (by omega) (Ev_some ?_)
    rw [List.drop_eq_nil_of_le (by omega), List.drop_eq_nil_of_le (by omega)]; rfl
  | succ d ih =>
    intro i hd hi
    refine Ev.step (fun k => by rw [laws_eqIntS.l0]) ?_
    refine Ev_pos (by omega) (Ev_pos (by omega) (Ev_pos (by omega) ?_))
    rw [rd_nat, rd_nat, getD_lt _ _ _ (by omega), getD_lt _ _ _ (by omega), wrap_succ (by omega), List.drop_eq_getElem_cons (show i < a.length by omega), List.drop_eq_getElem_cons (show i < b.length by omega)]
    by_cases e : a[i] = b[i]'(by omega)
    · refine Ev_pos e (Ev_eq (ih (i + 1) (by omega) (by omega)) ?_)
      exact dec_eq (by rw [e, List.cons.injEq]; exact ⟨fun h => ⟨rfl, h⟩, fun h => h.2⟩)
    · refine Ev_neg e (Ev_some ?_)
      symm; rw [decide_eq_false_iff_not, List.cons.injEq]
      exact fun h => e h.1
theorem eqIntS_ev (a b : List Int) (hs : a.length ≤ 4611686018427387000) : Ev (fun k => laws_eqIntS.f k a b) (decide (a = b)) := by
  unfold laws_eqIntS.f
  by_cases hl : a.length = b.length
  · exact Ev_pos (by omega) (eqIntS_l0 a b hl hs _ 0 rfl (by omega))
  · refine Ev_neg (by omega) (Ev_some ?_)
    rw [eq_comm, decide_eq_false_iff_not]; intro e; exact hl (by rw [e])
theorem eqIntS_refl (a : List Int) (hs : a.length ≤ 4611686018427387000) : Ev (fun k => laws_eqIntS.f k a a) true := Ev_eq (eqIntS_ev a a hs) (by simp)
def marks (a : Int) (n : Nat) : List Int := (List.range n).map fun (j : Nat) => a + (j : Int)
theorem marks_length (a : Int) (n : Nat) : (marks a n).length = n := by simp [marks]
theorem marks_getD (a : Int) (n j : Nat) (h : j < n) : (marks a n).getD j 0 = a + (j : Int) := by
  rw [getD_lt _ _ _ (by rw [marks_length]; exact h)]; simp [marks]
theorem markIntS_l0 (a : Int) (n : Nat) (ha : 0 ≤ a) (han : a + n ≤ 4611686018427387000) : ∀ (d i : Nat) (xs : List Int), n - i = d → i ≤ n → xs.length = n → (∀ j, j < i → xs.getD j 0 = a + (j : Int)) →
    Ev (fun k => laws_markIntS.l0 k xs (a + (i : Int)) (i : Int)) (a + (n : Int), marks a n) := by
  intro d
  induction d with
  | zero =>
    intro i xs hd hi hx h
    obtain rfl : i = n := by omega
    refine Ev.step (fun k => by rw [laws_markIntS.l0]) ?_
    refine Ev_neg (by omega) (Ev_some ?_)
    rw [ext_getD (xs := xs) (ys := marks a i) (by rw [marks_length]; exact hx) (fun j hj => by rw [h j (by omega), marks_getD _ _ _ (by omega)])]
  | succ d ih =>
    intro i xs hd hi hx h
    refine Ev.step (fun k => by rw [laws_markIntS.l0]) ?_
    refine Ev_pos (by omega) (Ev_pos (by omega) ?_)
    rw [wrap_succ (by omega), wrap_small (x := a + (i : Int) + 1) (by omega) (by omega), show a + (i : Int) + 1 = a + ((i + 1 : Nat) : Int) from by omega]
    refine ih (i + 1) _ (by omega) (by omega) (by rw [List.length_set]; exact hx) ?_
    intro j hj
    rw [Int.toNat_natCast]
    by_cases e : j = i
    · subst e; rw [getD_lt _ _ _ (by rw [List.length_set]; omega)]; simp
    · rw [← h j (by omega)]; simp only [List.getD_eq_getElem?_getD]; rw [List.getElem?_set_ne (by omega)]
theorem markIntS_ev (xs : List Int) (a : Int) (ha : 0 ≤ a) (han : a + xs.length ≤ 4611686018427387000) : Ev (fun k => laws_markIntS.f k xs a) (a + (xs.length : Int), marks a xs.length) := by
  unfold laws_markIntS.f
  have := markIntS_l0 a xs.length ha han _ 0 xs rfl (by omega) rfl (fun j hj => by omega)
  simpa using this
theorem heldIntS_l0 (a : Int) (n : Nat) (ha : 0 ≤ a) (han : a + n ≤ 4611686018427387000) : ∀ (d i : Nat), n - i = d → i ≤ n → Ev (fun k => laws_heldIntS.l0 k (marks a n) (a + (i : Int)) (i : Int)) (a + (n : Int)) := by
  intro d
  induction d with
  | zero =>
    intro i hd hi
    obtain rfl : i = n := by omega
    refine Ev.step (fun k => by rw [laws_heldIntS.l0]) ?_
    exact Ev_neg (by rw [marks_length]; omega) (Ev_some rfl)
  | succ d ih =>
    intro i hd hi
    refine Ev.step (fun k => by rw [laws_heldIntS.l0]) ?_
    refine Ev_pos (by rw [marks_length]; omega) (Ev_pos (by omega) (Ev_pos (by rw [rd_nat, marks_getD _ _ _ (by omega)]) ?_))
    rw [wrap_succ (by omega), wrap_small (x := a + (i : Int) + 1) (by omega) (by omega), show a + (i : Int) + 1 = a + ((i + 1 : Nat) : Int) from by omega]
    exact ih (i + 1) (by omega) (by omega)
theorem heldIntS_ev (a : Int) (n : Nat) (ha : 0 ≤ a) (han : a + n ≤ 4611686018427387000) : Ev (fun k => laws_heldIntS.f k (marks a n) a) (a + (n : Int)) := by
  unfold laws_heldIntS.f
  have := heldIntS_l0 a n ha han _ 0 rfl (by omega)
  simpa using this
theorem eqIntSS_refl (l : List (List Int)) (hl : l.length ≤ 4611686018427387000) (hr : ∀ r ∈ l, r.length ≤ 4611686018427387000) : Ev (fun k => laws_eqIntSS.f k l l) true := by
  unfold laws_eqIntSS.f
  refine Ev_pos rfl ?_
  refine (Ev_for (l := fun k (_ : Unit) i => laws_eqIntSS.l0 k l l (i : Int)) l.length (fun s _ => s) (fun _ => true) (fun _ _ => True) (fun _ _ _ _ => trivial) ?_ ?_ 0 () (by omega) trivial).1
  · intro i s hi _ r hr'
    refine Ev.step (fun k => by rw [laws_eqIntSS.l0]) ?_
    rw [rdL_nat, wrap_succ (by omega)]
    exact Ev_pos (by omega) (Ev_pos (by omega) (Ev_pos (by omega) (Ev.bind (eqIntS_refl _ (hr _ (getD_mem hi))) (Ev_pos rfl hr'))))
  · intro s _
    refine Ev.step (fun k => by rw [laws_eqIntSS.l0]) ?_
    exact Ev_neg (by omega) (Ev_some rfl)
theorem eqMatrix_refl (l : List (List Int)) (hl : l.length ≤ 4611686018427387000) (hr : ∀ r ∈ l, r.length ≤ 4611686018427387000) : Ev (fun k => laws_eqMatrix.f k l l) true := by
  unfold laws_eqMatrix.f
  exact Ev.bind (eqIntSS_refl l hl hr) (Ev_pos rfl (Ev_some rfl))
def tot : List (List Int) → Nat
  | [] => 0
  | r :: rs => r.length + tot rs
def marksSS (a : Int) : List (List Int) → List (List Int)
  | [] => []
  | r :: rs => marks a r.length :: marksSS (a + r.length) rs
theorem rdL_mid (pre : List (List Int)) (r : List Int) (rs : List (List Int)) : rd_L1 (pre ++ r :: rs) (pre.length : Int) = r := by
  rw [rdL_nat, getD_lt _ _ _ (by simp)]; simp
theorem markIntSS_l0 : ∀ (rest pre : List (List Int)) (a : Int), 0 ≤ a → a + tot rest ≤ 4611686018427387000 → (pre.length : Int) + rest.length ≤ 4611686018427387000 → Ev (fun k => laws_markIntSS.l0 k (pre ++ rest) a (pre.length : Int)) (a + tot rest, pre ++ marksSS a rest) := by
  intro rest
  induction rest with
  | nil =>
    intro pre a _ _ _
    refine Ev.step (fun k => by rw [laws_markIntSS.l0]) ?_
    exact Ev_neg (by simp) (Ev_some (by simp [tot, marksSS]))
  | cons r rs ih =>
    intro pre a ha hb hl
    simp only [tot, List.length_cons] at hb hl
    refine Ev.step (fun k => by rw [laws_markIntSS.l0]) ?_
    refine Ev_pos (by simp only [List.length_append, List.length_cons]; omega) (Ev_pos (by omega) ?_)
    rw [rdL_mid, wrap_succ (by omega), Int.toNat_natCast]
    refine Ev.bind (markIntS_ev r a ha (by omega)) ?_
    have := ih (pre ++ [marks a r.length]) (a + r.length) (by omega) (by omega) (by simp only [List.length_append, List.length_cons, List.length_nil]; omega)
    simp only [List.length_append, List.length_cons, List.length_nil, List.append_assoc, List.cons_append, List.nil_append] at this
    simp only [tot, marksSS, List.set_append, Nat.sub_self, List.set_cons_zero, Nat.lt_irrefl, if_false]
    refine Ev_eq this ?_
    rw [show a + (r.length : Int) + (tot rs : Int) = a + ((r.length + tot rs : Nat) : Int) from by omega]
theorem markMatrix_ev (m : List (List Int)) (hb : tot m ≤ 4611686018427380000) (hl : m.length ≤ 4611686018427380000) : Ev (fun k => laws_markMatrix.f k m 1) (1 + (tot m : Int), marksSS 1 m) := by
  have := markIntSS_l0 m [] 1 (by omega) (by omega) (by simp; omega)
  simpa [laws_markMatrix.f, laws_markIntSS.f] using this
theorem tot_le {m : List (List Int)} {c : Nat} (h : ∀ r ∈ m, r.length ≤ c) : tot m ≤ m.length * c := by
  induction m with
  | nil => simp [tot]
  | cons r rs ih =>
    have h1 := h r (by simp)
    have h2 := ih (fun r hr => h r (by simp [hr]))
    simp only [tot, List.length_cons, Nat.succ_mul]; omega
theorem heldIntSS_l0 : ∀ (rest pre : List (List Int)) (a : Int), 0 ≤ a → a + tot rest ≤ 4611686018427387000 → (pre.length : Int) + rest.length ≤ 4611686018427387000 → Ev (fun k => laws_heldIntSS.l0 k (pre ++ marksSS a rest) a (pre.length : Int)) (a + tot rest) := by
  intro rest
  induction rest with
  | nil =>
    intro pre a _ _ _
    refine Ev.step (fun k => by rw [laws_heldIntSS.l0]) ?_
    exact Ev_neg (by simp [marksSS]) (Ev_some (by simp [tot]))
  | cons r rs ih =>
    intro pre a ha hb hl
    simp only [tot, List.length_cons] at hb hl
    refine Ev.step (fun k => by rw [laws_heldIntSS.l0]) ?_
    simp only [marksSS]
    refine Ev_pos (by simp only [List.length_append, List.length_cons]; omega) (Ev_pos (by omega) ?_)
    rw [rdL_mid, wrap_succ (by omega)]
    refine Ev.bind (heldIntS_ev a r.length ha (by omega)) (Ev_neg (by omega) ?_)
    have := ih (pre ++ [marks a r.length]) (a + r.length) (by omega) (by omega) (by simp only [List.length_append, List.length_cons, List.length_nil]; omega)
    simp only [List.length_append, List.length_cons, List.length_nil, List.append_assoc, List.cons_append, List.nil_append] at this
    refine Ev_eq this ?_
    simp only [tot]; omega
theorem heldMatrix_ev (m : List (List Int)) (hb : tot m ≤ 4611686018427380000) (hl : m.length ≤ 4611686018427380000) : Ev (fun k => laws_heldMatrix.f k (marksSS 1 m) 1) (1 + (tot m : Int)) := by
  have := heldIntSS_l0 m [] 1 (by omega) (by omega) (by simp; omega)
  unfold laws_heldMatrix.f
  refine Ev.bind (by simpa [laws_heldIntSS.f] using this) ?_
  exact Ev_neg (by omega) (Ev_some rfl)
/-- The sum of f 0, .., f (n - 1). -/
def sumZ : Nat → (Nat → Int) → Int
  | 0, _ => 0
  | n + 1, f => sumZ n f + f n
theorem sumZ_congr {n : Nat} {f g : Nat → Int} (h : ∀ i, i < n → f i = g i) : sumZ n f = sumZ n g := by
  induction n with
  | zero => rfl
  | succ n ih => rw [sumZ, sumZ, ih (fun i hi => h i (by omega)), h n (by omega)]
theorem sumZ_bound {n : Nat} {f : Nat → Int} {B : Int} (hB : 0 ≤ B) (h : ∀ i, i < n → 0 ≤ f i ∧ f i ≤ B) : 0 ≤ sumZ n f ∧ sumZ n f ≤ n * B := by
  induction n with
  | zero => simp [sumZ]
  | succ n ih =>
    have h1 := ih (fun i hi => h i (by omega))
    have h2 := h n (by omega)
    rw [sumZ, show ((n + 1 : Nat) : Int) * B = n * B + B from by rw [Int.natCast_add, Int.add_mul]; simp]
    omega
theorem sumZ_nonneg {n : Nat} {f : Nat → Int} (h : ∀ i, i < n → 0 ≤ f i) : 0 ≤ sumZ n f := by
  induction n with
  | zero => simp [sumZ]
  | succ n ih => have := ih (fun i hi => h i (by omega)); have := h n (by omega); rw [sumZ]; omega
theorem sumZ_term {n : Nat} {f : Nat → Int} (h : ∀ i, i < n → 0 ≤ f i) {i : Nat} (hi : i < n) : f i ≤ sumZ n f := by
  induction n with
  | zero => omega
  | succ n ih =>
    have h0 := sumZ_nonneg (n := n) (fun j hj => h j (by omega))
    rw [sumZ]
    by_cases e : i = n
    · rw [e]; omega
    · have := ih (fun j hj => h j (by omega)) (by omega); have := h n (by omega); omega
theorem sumZ_zero {n : Nat} {f : Nat → Int} (h : ∀ i, i < n → 0 ≤ f i) : sumZ n f = 0 ↔ ∀ i, i < n → f i = 0 := by
  refine ⟨fun h0 i hi => ?_, fun h0 => ?_⟩
  · have := sumZ_term h hi; have := h i hi; omega
  · rw [sumZ_congr (g := fun _ => 0) h0]
    clear h h0
    induction n with
    | zero => rfl
    | succ n ih => rw [sumZ, ih]; rfl
/-- The number in row i and column j. -/
def en (m : List (List Int)) (i j : Nat) : Int := (m.getD i []).getD j 0
def Cells (m : List (List Int)) : Prop := ∀ i, i < m.length → (m.getD i []).length = m.length ∧ ∀ j, j < m.length → 0 ≤ en m i j ∧ en m i j ≤ 12 ∧ (j < i → en m i j = 0)
def rowZ (m : List (List Int)) (i : Nat) : Int := sumZ m.length (fun j => en m i j)
def colZ (m : List (List Int)) (j : Nat) : Int := sumZ m.length (fun i => en m i j)
def allZ (m : List (List Int)) : Int := sumZ m.length (fun i => rowZ m i)
def isMat (m : List (List Int)) : Prop := m.length ≤ 12 ∧ Cells m ∧ (∀ i, i < m.length → rowZ m i ≠ 0) ∧ (∀ j, j < m.length → colZ m j ≠ 0) ∧ allZ m ≤ 12
instance (m : List (List Int)) : Decidable (Cells m) := inferInstanceAs (Decidable (∀ i, i < m.length → _))
instance (m : List (List Int)) : Decidable (isMat m) := inferInstanceAs (Decidable (_ ∧ _))
theorem Cells.row {m : List (List Int)} (h : Cells m) {i : Nat} (hi : i < m.length) : 0 ≤ rowZ m i ∧ rowZ m i ≤ m.length * 12 := sumZ_bound (by decide) (fun j hj => ⟨((h i hi).2 j hj).1, ((h i hi).2 j hj).2.1⟩)
theorem Cells.nn {m : List (List Int)} (h : Cells m) {i j : Nat} (hi : i < m.length) (hj : j < m.length) : 0 ≤ en m i j := ((h i hi).2 j hj).1
theorem Cells.le {m : List (List Int)} (h : Cells m) {i j : Nat} (hi : i < m.length) (hj : j < m.length) : en m i j ≤ 12 := ((h i hi).2 j hj).2.1
def rowsL (m : List (List Int)) : List Int := (List.range m.length).map fun (i : Nat) => rowZ m i
def colsL (m : List (List Int)) : List Int := (List.range m.length).map fun (j : Nat) => colZ m j
theorem mapR_length (n : Nat) (f : Nat → Int) : ((List.range n).map f).length = n := by simp
theorem mapR_getD (n : Nat) (f : Nat → Int) {i : Nat} (h : i < n) : ((List.range n).map f).getD i 0 = f i := by rw [getD_lt _ _ _ (by simpa using h)]; simp
theorem maTotal_ev (row : List Int) (hl : row.length ≤ 1000000) (hb : ∀ j, j < row.length → 0 ≤ row.getD j 0 ∧ row.getD j 0 ≤ 1000000) : Ev (fun k => spec_maTotal.f k row) (sumZ row.length (fun j => row.getD j 0)) := by
  unfold spec_maTotal.f
  have main : ∀ (d i : Nat), row.length - i = d → i ≤ row.length → Ev (fun k => spec_maTotal.l0 k (sumZ i (fun j => row.getD j 0)) row (row.length : Int) (i : Int)) (sumZ row.length (fun j => row.getD j 0)) := by
    intro d
    induction d with
    | zero =>
      intro i hd hi
      obtain rfl : i = row.length := by omega
      exact Ev.step (fun _ => rfl) (Ev_neg (by omega) (Ev_some rfl))
    | succ d ih =>
      intro i hd hi
      refine Ev.step (fun _ => rfl) (Ev_pos (by omega) (Ev_pos (by omega) (Ev_pos (by omega) ?_)))
      have h1 := sumZ_bound (n := i) (f := fun j => row.getD j 0) (B := 1000000) (by decide) (fun j hj => hb j (by omega))
      have h2 := hb i (by omega)
      rw [rd_nat, wrap_succ (by omega), wrap_small (by omega) (by omega)]
      exact ih (i + 1) (by omega) (by omega)
  exact main _ 0 rfl (by omega)
theorem Cells.rowT {m : List (List Int)} (h : Cells m) (hd : m.length ≤ 12) {i : Nat} (hi : i < m.length) : Ev (fun k => spec_maTotal.f k (m.getD i [])) (rowZ m i) := by
  have hl := (h i hi).1
  have := maTotal_ev (m.getD i []) (by omega) (fun j hj => ⟨h.nn hi (by omega), by have := h.le hi (show j < m.length by omega); simp only [en] at this; omega⟩)
  rw [hl] at this
  exact this
theorem maSum_ev (m : List (List Int)) (hd : m.length ≤ 12) (h : Cells m) : Ev (fun k => spec_maSum.f k m) (allZ m) := by
  unfold spec_maSum.f
  have main : ∀ (d i : Nat), m.length - i = d → i ≤ m.length → Ev (fun k => spec_maSum.l0 k (sumZ i (fun i => rowZ m i)) m (m.length : Int) (i : Int)) (allZ m) := by
    intro d
    induction d with
    | zero =>
      intro i hd hi
      obtain rfl : i = m.length := by omega
      exact Ev.step (fun _ => rfl) (Ev_neg (by omega) (Ev_some rfl))
    | succ d ih =>
      intro i hd' hi
      refine Ev.step (fun _ => rfl) (Ev_pos (by omega) (Ev_pos (by omega) (Ev_pos (by omega) ?_)))
      have h1 := sumZ_bound (n := i) (f := fun i => rowZ m i) (B := 144) (by decide) (fun j hj => by have := h.row (show j < m.length by omega); omega)
      have h2 := h.row (show i < m.length by omega)
      rw [rdL_nat, wrap_succ (by omega)]
      refine Ev.bind (h.rowT hd (by omega)) ?_
      rw [wrap_small (by omega) (by omega)]
      exact ih (i + 1) (by omega) (by omega)
  exact main _ 0 rfl (by omega)
def colL (m : List (List Int)) (j : Nat) : List Int := (List.range m.length).map fun (i : Nat) => en m i j
theorem maColumn_ev (m : List (List Int)) (hd : m.length ≤ 12) (h : Cells m) (j : Nat) (hj : j < m.length) : Ev (fun k => spec_maColumn.f k m (j : Int)) (colL m j) := by
  unfold spec_maColumn.f
  have main : ∀ (d i : Nat), m.length - i = d → i ≤ m.length → Ev (fun k => spec_maColumn.l0 k (j : Int) ((List.range i).map fun (i : Nat) => en m i j) m (m.length : Int) (i : Int)) (colL m j) := by
    intro d
    induction d with
    | zero =>
      intro i hd hi
      obtain rfl : i = m.length := by omega
      exact Ev.step (fun _ => rfl) (Ev_neg (by omega) (Ev_some rfl))
    | succ d ih =>
      intro i hd' hi
      refine Ev.step (fun _ => rfl) (Ev_pos (by omega) (Ev_pos (by omega) (Ev_pos (by omega) ?_)))
      have hl := (h i (by omega)).1
      rw [rdL_nat, rd_nat, wrap_succ (by omega)]
      refine Ev_pos (by omega) (Ev_pos (by omega) (Ev_pos (by simp; omega) ?_))
      have := ih (i + 1) (by omega) (by omega)
      rw [List.range_succ, List.map_append] at this
      exact this
  exact main _ 0 rfl (by omega)
def mostL (row : List Int) : Int := foldFrom row.length (fun s i => if row.getD i 0 > s then row.getD i 0 else s) (-1) 0
theorem l1Most_eq (a b : Int) : spec_l1Most.f a b = some (if b > a then b else a) := by
  unfold spec_l1Most.f
  by_cases h : a > b
  · rw [if_pos h, if_neg (by omega)]
  · rw [if_neg h]
    by_cases h2 : b > a
    · rw [if_pos h2]
    · rw [if_neg h2, show a = b from by omega]
theorem ivMost_ev (row : List Int) (hl : row.length ≤ 1000000) : Ev (fun k => spec_ivMost.f k row) (mostL row) := by
  unfold spec_ivMost.f
  refine (Ev_for (l := fun k s i => spec_ivMost.l0 k s row (row.length : Int) (i : Int)) row.length (fun s i => if row.getD i 0 > s then row.getD i 0 else s) id (fun _ _ => True) (fun _ _ _ _ => trivial) ?_ ?_ 0 (-1) (by omega) trivial).1
  · intro i s hi _ r hr
    refine Ev.step (fun _ => rfl) (Ev_pos (by omega) (Ev_pos (by omega) (Ev_pos (by omega) ?_)))
    rw [rd_nat, wrap_succ (by omega), l1Most_eq]
    exact Ev_val rfl hr
  · intro s _
    exact Ev.step (fun _ => rfl) (Ev_neg (by omega) (Ev_some rfl))
theorem mostL_zero {row : List Int} (hp : 0 < row.length) (h : ∀ j, j < row.length → 0 ≤ row.getD j 0) : mostL row = 0 ↔ ∀ j, j < row.length → row.getD j 0 = 0 := by
  have main : ∀ (d i : Nat) (s : Int), row.length - i = d → i ≤ row.length → (s = -1 ∧ i = 0 ∨ 0 ≤ s) → (foldFrom row.length (fun s i => if row.getD i 0 > s then row.getD i 0 else s) s i = 0 ↔ (s ≤ 0 ∧ ∀ j, i ≤ j → j < row.length → row.getD j 0 = 0)) := by
    intro d
    induction d with
    | zero =>
      intro i s hd hi hs
      rw [foldFrom_ge (by omega)]
      exact ⟨fun h0 => ⟨by omega, fun j hij hj => by omega⟩, fun h0 => by omega⟩
    | succ d ih =>
      intro i s hd hi hs
      have h1 := h i (by omega)
      rw [foldFrom_lt (by omega)]
      by_cases c : row.getD i 0 > s
      · rw [if_pos c, ih (i + 1) _ (by omega) (by omega) (.inr h1)]
        refine ⟨fun ⟨h2, h3⟩ => ⟨by omega, fun j hij hj => ?_⟩, fun ⟨h2, h3⟩ => ⟨by have := h3 i (by omega) (by omega); omega, fun j hij hj => h3 j (by omega) hj⟩⟩
        by_cases e : j = i
        · rw [e]; omega
        · exact h3 j (by omega) hj
      · rw [if_neg c, ih (i + 1) _ (by omega) (by omega) (.inr (by omega))]
        refine ⟨fun ⟨h2, h3⟩ => ⟨by omega, fun j hij hj => ?_⟩, fun ⟨h2, h3⟩ => ⟨h2, fun j hij hj => h3 j (by omega) hj⟩⟩
        by_cases e : j = i
        · rw [e]; omega
        · exact h3 j (by omega) hj
  unfold mostL
  rw [main _ 0 (-1) rfl (by omega) (.inl ⟨rfl, rfl⟩)]
  exact ⟨fun h0 j hj => h0.2 j (by omega) hj, fun h0 => ⟨by omega, fun j _ hj => h0 j hj⟩⟩
theorem l1In_eq (a b c : Int) : spec_l1In.f a b c = some (decide (b ≤ a ∧ a ≤ c)) := by
  unfold spec_l1In.f
  by_cases h : a ≥ b
  · rw [if_pos h]; have : b ≤ a := h; simp [this]
  · rw [if_neg h]; simp; omega
theorem l1All_ev (l : List Int) (lo hi : Int) (hs : l.length ≤ 4611686018427387000) : Ev (fun k => spec_l1All.f k l lo hi) (decide (∀ j, j < l.length → lo ≤ l.getD j 0 ∧ l.getD j 0 ≤ hi)) := by
  unfold spec_l1All.f
  refine Ev_eq (Ev_all (fun k i => spec_l1All.l0 k lo hi l (l.length : Int) (i : Int)) l.length (fun j => decide (lo ≤ l.getD j 0 ∧ l.getD j 0 ≤ hi)) true ?_ ?_ ?_) ?_
  · intro i hi' _ hP q hq
    refine Ev.step (fun _ => rfl) (Ev_pos (by omega) (Ev_pos (by omega) (Ev_pos (by omega) ?_)))
    rw [rd_nat, wrap_succ (by omega), l1In_eq]
    exact Ev_val rfl (Ev_pos hP hq)
  · intro i hi' _ hP
    refine Ev.step (fun _ => rfl) (Ev_pos (by omega) (Ev_pos (by omega) (Ev_pos (by omega) ?_)))
    rw [rd_nat, l1In_eq]
    exact Ev_val rfl (Ev_neg (by rw [hP]; decide) (Ev_some rfl))
  · intro _
    exact Ev.step (fun _ => rfl) (Ev_neg (by omega) (Ev_some rfl))
  · rw [Bool.and_true]; exact dec_eq ⟨fun h j hj => of_decide_eq_true (h j hj), fun h j hj => decide_eq_true (h j hj)⟩
/-- What the reference asks of row i. -/
def rowOk (m : List (List Int)) (i : Nat) : Prop := (m.getD i []).length = m.length ∧ (∀ j, j < m.length → 0 ≤ en m i j ∧ en m i j ≤ 12) ∧ rowZ m i ≠ 0 ∧ ∀ j, j < m.length → j < i → en m i j = 0
instance (m : List (List Int)) (i : Nat) : Decidable (rowOk m i) := inferInstanceAs (Decidable (_ ∧ _ ∧ _ ∧ ∀ j, j < m.length → _))
theorem cells_of_rows {m : List (List Int)} (h : ∀ i, i < m.length → rowOk m i) : Cells m := fun i hi => ⟨(h i hi).1, fun j hj => ⟨((h i hi).2.1 j hj).1, ((h i hi).2.1 j hj).2, fun hji => (h i hi).2.2.2 j hj hji⟩⟩
theorem rowMost (m : List (List Int)) (i : Nat) (hi : i < m.length) (hl : (m.getD i []).length = m.length) (hw : ∀ j, j < m.length → 0 ≤ en m i j ∧ en m i j ≤ 12) : mostL (m.getD i []) = 0 ↔ rowZ m i = 0 := by
  rw [mostL_zero (by omega) (fun j hj => (hw j (by omega)).1), rowZ, sumZ_zero (fun j hj => (hw j hj).1), hl]
  exact Iff.rfl
theorem maGood_l1 (m : List (List Int)) (hd : m.length ≤ 12) (i : Nat) (hi : i < m.length) (hl : (m.getD i []).length = m.length) (hw : ∀ j, j < m.length → 0 ≤ en m i j ∧ en m i j ≤ 12) (q : Bool)
    (hq : (∀ j, j < m.length → j < i → en m i j = 0) → Ev (fun k => spec_maGood.l0 k (m.length : Int) m (m.length : Int) ((i + 1 : Nat) : Int) m) q) :
    Ev (fun k => spec_maGood.l1 k (m.length : Int) (i : Int) m (m.length : Int) (i : Int) (m.getD i []) ((m.getD i []).length : Int) 0 m) (decide (∀ j, j < m.length → j < i → en m i j = 0) && q) := by
  rw [hl]
  refine Ev_eq (Ev_all (fun k j => spec_maGood.l1 k (m.length : Int) (i : Int) m (m.length : Int) (i : Int) (m.getD i []) (m.length : Int) (j : Int) m) m.length (fun j => decide (j < i → en m i j = 0)) q ?_ ?_ ?_) ?_
  · intro j hj _ hP r hr
    refine Ev.step (fun _ => rfl) (Ev_pos (by omega) (Ev_pos (by omega) (Ev_pos (by omega) ?_)))
    rw [rd_nat, wrap_succ (by omega)]
    have hP := of_decide_eq_true hP
    by_cases c : j < i
    · exact Ev_pos (by omega) (Ev_neg (by have := hP c; simp only [en] at this; omega) hr)
    · exact Ev_neg (by omega) hr
  · intro j hj _ hP
    refine Ev.step (fun _ => rfl) (Ev_pos (by omega) (Ev_pos (by omega) (Ev_pos (by omega) ?_)))
    rw [rd_nat]
    have hP := of_decide_eq_false hP
    have h1 := hw j hj
    have h2 : en m i j ≠ 0 := fun h => hP (fun _ => h)
    have h3 : j < i := by
      by_cases c : j < i
      · exact c
      · exact absurd (fun h => absurd h c) hP
    exact Ev_pos (by omega) (Ev_pos (by simp only [en] at h1 h2; omega) (Ev_some rfl))
  · intro h
    refine Ev.step (fun _ => rfl) (Ev_neg (by omega) ?_)
    rw [wrap_succ (by omega)]
    exact hq (fun j hj => of_decide_eq_true (h j hj))
  · congr 1; exact dec_eq ⟨fun h j hj => of_decide_eq_true (h j hj), fun h j hj => decide_eq_true (h j hj)⟩
theorem maGood_l2 (m : List (List Int)) (hd : m.length ≤ 12) (h : Cells m) : Ev (fun k => spec_maGood.l2 k (m.length : Int) 0 m) (decide ((∀ j, j < m.length → colZ m j ≠ 0) ∧ allZ m ≤ 12)) := by
  refine Ev_eq (Ev_all (fun k j => spec_maGood.l2 k (m.length : Int) (j : Int) m) m.length (fun j => decide (colZ m j ≠ 0)) (decide (allZ m ≤ 12)) ?_ ?_ ?_) ?_
  all_goals first
    | (intro j hj _ hP r hr
       refine Ev.step (fun _ => rfl) (Ev_pos (by omega) (Ev.bind (maColumn_ev m hd h j hj) (Ev.bind (ivMost_ev _ (by simp [colL]; omega)) ?_)))
       have hP := of_decide_eq_true hP
       have e : mostL (colL m j) = 0 ↔ colZ m j = 0 := by
         rw [mostL_zero (by simp [colL]; omega) (fun i hi => by rw [colL, mapR_getD _ _ (by simpa [colL] using hi)]; exact h.nn (by simpa [colL] using hi) hj), colZ, sumZ_zero (fun i hi => h.nn hi hj)]
         simp only [colL, mapR_length]
         exact ⟨fun h2 i hi => by have := h2 i hi; rwa [mapR_getD _ _ hi] at this, fun h2 i hi => by rw [mapR_getD _ _ hi]; exact h2 i hi⟩
       rw [wrap_succ (by omega)]
       exact Ev_neg (fun hh => hP (e.1 hh)) hr)
    | (intro j hj _ hP
       refine Ev.step (fun _ => rfl) (Ev_pos (by omega) (Ev.bind (maColumn_ev m hd h j hj) (Ev.bind (ivMost_ev _ (by simp [colL]; omega)) ?_)))
       have hP := of_decide_eq_false hP
       have e : mostL (colL m j) = 0 ↔ colZ m j = 0 := by
         rw [mostL_zero (by simp [colL]; omega) (fun i hi => by rw [colL, mapR_getD _ _ (by simpa [colL] using hi)]; exact h.nn (by simpa [colL] using hi) hj), colZ, sumZ_zero (fun i hi => h.nn hi hj)]
         simp only [colL, mapR_length]
         exact ⟨fun h2 i hi => by have := h2 i hi; rwa [mapR_getD _ _ hi] at this, fun h2 i hi => by rw [mapR_getD _ _ hi]; exact h2 i hi⟩
       exact Ev_pos (e.2 (Decidable.of_not_not hP)) (Ev_some rfl))
    | (intro _
       exact Ev.step (fun _ => rfl) (Ev_neg (by omega) (Ev.bind (maSum_ev m hd h) (Ev_some rfl))))
    | skip
  rw [Bool.decide_and]; congr 1; exact dec_eq ⟨fun h j hj => of_decide_eq_true (h j hj), fun h j hj => decide_eq_true (h j hj)⟩
theorem maGood_ev (m : List (List Int)) (hs : Small m) : Ev (fun k => spec_maGood.f k m) (decide (isMat m)) := by
  unfold spec_maGood.f
  by_cases hd : m.length ≤ 12
  · refine Ev_neg (by omega) ?_
    by_cases hC : Cells m ∧ ∀ i, i < m.length → rowZ m i ≠ 0
    · have key : ∀ (d i : Nat), m.length - i = d → i ≤ m.length → Ev (fun k => spec_maGood.l0 k (m.length : Int) m (m.length : Int) (i : Int) m) (decide ((∀ j, j < m.length → colZ m j ≠ 0) ∧ allZ m ≤ 12)) := by
        intro d
        induction d with
        | zero =>
          intro i hdi hi
          exact Ev.step (fun _ => rfl) (Ev_neg (by omega) (maGood_l2 m hd hC.1))
        | succ d ih =>
          intro i hdi hi
          have hl := (hC.1 i (by omega)).1
          have hw : ∀ j, j < m.length → 0 ≤ en m i j ∧ en m i j ≤ 12 := fun j hj => ⟨hC.1.nn (by omega) hj, hC.1.le (by omega) hj⟩
          refine Ev.step (fun _ => rfl) (Ev_pos (by omega) (Ev_pos (by omega) (Ev_pos (by omega) ?_)))
          rw [rdL_nat]
          refine Ev_pos (by omega) (Ev.bind (l1All_ev _ 0 12 (by omega)) (Ev_pos (decide_eq_true (fun j hj => hw j (by omega))) (Ev.bind (ivMost_ev _ (by omega)) ?_)))
          refine Ev.step (fun _ => rfl) (Ev_neg ?_ ?_)
          · rw [beq_iff_eq, rowMost m i (by omega) hl hw]; exact hC.2 i (by omega)
          · refine Ev_eq (maGood_l1 m hd i (by omega) hl hw _ (fun _ => ih (i + 1) (by omega) (by omega))) ?_
            rw [decide_eq_true (fun j hj hji => ((hC.1 i (by omega)).2 j hj).2.2 hji), Bool.true_and]
      refine Ev_eq (key _ 0 rfl (by omega)) (dec_eq ⟨fun h => ⟨hd, hC.1, hC.2, h.1, h.2⟩, fun h => ⟨h.2.2.2.1, h.2.2.2.2⟩⟩)
    · have key : ∀ (d i : Nat), m.length - i = d → i ≤ m.length → (∀ j, j < i → rowOk m j) → Ev (fun k => spec_maGood.l0 k (m.length : Int) m (m.length : Int) (i : Int) m) false := by
        intro d
        induction d with
        | zero =>
          intro i hdi hi h
          exact absurd ⟨cells_of_rows (fun j hj => h j (by omega)), fun j hj => (h j (by omega)).2.2.1⟩ hC
        | succ d ih =>
          intro i hdi hi h
          have hout : ∀ (b : Bool), b = true → Ev (fun k => spec_maGood.j1 k (m.length : Int) (i : Int) (m.getD i []) m (m.length : Int) (i : Int) b m) false := fun b hb =>
            Ev.step (fun _ => rfl) (Ev_pos hb (Ev_some rfl))
          refine Ev.step (fun _ => rfl) (Ev_pos (by omega) (Ev_pos (by omega) (Ev_pos (by omega) ?_)))
          rw [rdL_nat]
          have hsm := hs.2 _ (getD_mem (z := []) (show i < m.length by omega))
          by_cases c1 : (m.getD i []).length = m.length
          · refine Ev_pos (by omega) (Ev.bind (l1All_ev _ 0 12 (by omega)) ?_)
            by_cases c2 : ∀ j, j < (m.getD i []).length → 0 ≤ (m.getD i []).getD j 0 ∧ (m.getD i []).getD j 0 ≤ 12
            · have hw : ∀ j, j < m.length → 0 ≤ en m i j ∧ en m i j ≤ 12 := fun j hj => c2 j (by omega)
              refine Ev_pos (decide_eq_true c2) (Ev.bind (ivMost_ev _ (by omega)) ?_)
              by_cases c3 : rowZ m i = 0
              · exact hout _ (by rw [beq_iff_eq, rowMost m i (by omega) c1 hw]; exact c3)
              · refine Ev.step (fun _ => rfl) (Ev_neg (by rw [beq_iff_eq, rowMost m i (by omega) c1 hw]; exact c3) ?_)
                refine Ev_eq (maGood_l1 m hd i (by omega) c1 hw false (fun h4 => ih (i + 1) (by omega) (by omega) (fun j hj => ?_))) (by simp)
                by_cases e : j = i
                · rw [e]; exact ⟨c1, hw, c3, h4⟩
                · exact h j (by omega)
            · exact Ev_neg (by simpa using c2) (hout _ rfl)
          · exact Ev_neg (by omega) (hout _ rfl)
      refine Ev_eq (key _ 0 rfl (by omega) (fun j hj => by omega)) ?_
      symm; rw [decide_eq_false_iff_not]; exact fun h => hC ⟨h.2.1, h.2.2.1⟩
  · refine Ev_pos (by omega) (Ev_some ?_)
    symm; rw [decide_eq_false_iff_not]; exact fun h => hd h.1
theorem within_eq (a b c : Int) : impl_within.f a b c = some (decide (b ≤ a ∧ a ≤ c)) := by
  unfold impl_within.f
  by_cases h : a ≥ b
  · rw [if_pos h]; have : b ≤ a := h; simp [this]
  · rw [if_neg h]; simp; omega
theorem allWithin_l0 (l : List Int) (lo hi : Int) (hs : l.length ≤ 4611686018427387000) : ∀ (d i : Nat), l.length - i = d → i ≤ l.length →
    Ev (fun k => impl_allWithin.l0 k lo hi l (l.length : Int) (i : Int)) (decide (∀ j, j < l.length → i ≤ j → lo ≤ l.getD j 0 ∧ l.getD j 0 ≤ hi)) := by
  intro d
  induction d with
  | zero =>
    intro i hd hi
    refine Ev.step (fun k => by rw [impl_allWithin.l0]) ?_
    refine Ev_neg (by omega) (Ev_some ?_)
    symm; rw [decide_eq_true_iff]; intro j hj hij; omega
  | succ d ih =>
    intro i hd hi'
    refine Ev.step (fun k => by rw [impl_allWithin.l0]) ?_
    refine Ev_pos (by omega) (Ev_pos (by omega) (Ev_pos (by omega) ?_))
    rw [rd_nat, wrap_succ (by omega), within_eq]
    refine Ev_val rfl ?_
    by_cases c : lo ≤ l.getD i 0 ∧ l.getD i 0 ≤ hi
    · refine Ev_pos (decide_eq_true c) (Ev_eq (ih (i + 1) (by omega) (by omega)) (dec_eq ?_))
      refine ⟨fun hh j hj hij => ?_, fun hh j hj hij => hh j hj (by omega)⟩
      by_cases e : j = i
      · subst e; exact c
      · exact hh j hj (by omega)
    · refine Ev_neg (by simpa using c) (Ev_some ?_)
      symm; rw [decide_eq_false_iff_not]
      intro hh; exact c (hh i (by omega) (by omega))
theorem allWithin_ev (l : List Int) (lo hi : Int) (hs : l.length ≤ 4611686018427387000) : Ev (fun k => impl_allWithin.f k l lo hi) (decide (∀ j, j < l.length → lo ≤ l.getD j 0 ∧ l.getD j 0 ≤ hi)) := by
  unfold impl_allWithin.f
  refine Ev_eq (allWithin_l0 l lo hi hs _ 0 rfl (by omega)) (dec_eq ?_)
  exact ⟨fun h j hj => h j hj (by omega), fun h j hj _ => h j hj⟩
theorem setR (n : Nat) (f g : Nat → Int) (i : Nat) (hi : i < n) (h : ∀ j, j < n → j ≠ i → g j = f j) : ((List.range n).map f).set i (g i) = (List.range n).map g := by
  apply List.ext_getElem (by simp)
  intro j h1 h2
  simp only [List.length_map, List.length_range] at h2
  by_cases e : j = i
  · subst e; simp
  · rw [List.getElem_set_ne (fun x => e x.symm)]; simp [h j h2 e]
theorem replR (n : Nat) : List.replicate n (0 : Int) = (List.range n).map (fun _ => 0) := by
  apply List.ext_getElem (by simp); intro j h1 h2; simp
theorem sums_l1 (m : List (List Int)) (hd : m.length ≤ 12) (h : Cells m) (i : Nat) (hi : i < m.length) (R : List Int × List Int)
    (hR : Ev (fun k => impl_Matrix_sums.l0 k ((List.range m.length).map fun (a : Nat) => if a < i + 1 then rowZ m a else 0) ((List.range m.length).map fun (b : Nat) => sumZ (i + 1) (fun a => en m a b)) m (m.length : Int) ((i + 1 : Nat) : Int)) R) :
    ∀ (d j : Nat), m.length - j = d → j ≤ m.length → Ev (fun k => impl_Matrix_sums.l1 k ((List.range m.length).map fun (a : Nat) => if a < i then rowZ m a else if a = i then sumZ j (fun b => en m i b) else 0)
      ((List.range m.length).map fun (b : Nat) => sumZ i (fun a => en m a b) + if b < j then en m i b else 0) (i : Int) m (m.length : Int) (i : Int) (m.getD i []) (m.length : Int) (j : Int)) R := by
  intro d
  induction d with
  | zero =>
    intro j hdj hj
    obtain rfl : j = m.length := by omega
    refine Ev.step (fun _ => rfl) (Ev_neg (by omega) ?_)
    rw [wrap_succ (by omega)]
    refine (Ev_eq hR rfl).congr (fun k => ?_)
    congr 1
    · apply List.map_congr_left; intro a ha
      by_cases c : a < i
      · rw [if_pos c, if_pos (by omega)]
      · rw [if_neg c]
        by_cases e : a = i
        · rw [if_pos e, if_pos (by omega), e]; rfl
        · rw [if_neg e, if_neg (by omega)]
    · apply List.map_congr_left; intro b hb
      have : b < m.length := by simpa using hb
      rw [if_pos this]; rfl
  | succ d ih =>
    intro j hdj hj
    have hl := (h i hi).1
    have h1 := h.nn hi (show j < m.length by omega)
    have h2 := h.le hi (show j < m.length by omega)
    have h3 := sumZ_bound (n := j) (f := fun b => en m i b) (B := 12) (by decide) (fun b hb => ⟨h.nn hi (by omega), h.le hi (by omega)⟩)
    have h4 := sumZ_bound (n := i) (f := fun a => en m a j) (B := 12) (by decide) (fun a ha => ⟨h.nn (by omega) (show j < m.length by omega), h.le (by omega) (show j < m.length by omega)⟩)
    refine Ev.step (fun _ => rfl) (Ev_pos (by omega) (Ev_pos (by omega) (Ev_pos (by omega) (Ev_pos (by omega) (Ev_pos (by rw [mapR_length]; omega) (Ev_pos (by rw [mapR_length]; omega) ?_))))))
    rw [rd_nat, rd_nat, rd_nat, mapR_getD _ _ hi, mapR_getD _ _ (show j < m.length by omega), if_neg (Nat.lt_irrefl _), if_pos rfl, if_neg (Nat.lt_irrefl _), wrap_succ (by omega), Int.toNat_natCast, Int.toNat_natCast,
      show (m.getD i []).getD j 0 = en m i j from rfl, wrap_small (by omega) (by omega), wrap_small (by omega) (by omega)]
    refine (ih (j + 1) (by omega) (by omega)).congr (fun k => ?_)
    congr 1
    · have := setR m.length (fun a => if a < i then rowZ m a else if a = i then sumZ j (fun b => en m i b) else 0) (fun a => if a < i then rowZ m a else if a = i then sumZ (j + 1) (fun b => en m i b) else 0) i hi (fun a _ hne => by
        by_cases c : a < i
        · rw [if_pos c, if_pos c]
        · rw [if_neg c, if_neg c, if_neg hne, if_neg hne])
      rw [← this, if_neg (Nat.lt_irrefl _), if_pos rfl]; rfl
    · have := setR m.length (fun b => sumZ i (fun a => en m a b) + if b < j then en m i b else 0) (fun b => sumZ i (fun a => en m a b) + if b < j + 1 then en m i b else 0) j (by omega) (fun b _ hne => by
        by_cases c : b < j
        · rw [if_pos c, if_pos (by omega)]
        · rw [if_neg c, if_neg (by omega)])
      rw [← this, if_pos (by omega), Int.add_zero]
theorem sums_ev (m : List (List Int)) (hd : m.length ≤ 12) (h : Cells m) : Ev (fun k => impl_Matrix_sums.f k m) (rowsL m, colsL m) := by
  unfold impl_Matrix_sums.f impl_Matrix_size.f
  refine Ev_val rfl (Ev_pos (by omega) (Ev_pos (by omega) (Ev_val rfl (Ev_pos (by omega) (Ev_pos (by omega) ?_)))))
  rw [Int.toNat_natCast, replR]
  have main : ∀ (d i : Nat), m.length - i = d → i ≤ m.length → Ev (fun k => impl_Matrix_sums.l0 k ((List.range m.length).map fun (a : Nat) => if a < i then rowZ m a else 0) ((List.range m.length).map fun (b : Nat) => sumZ i (fun a => en m a b)) m (m.length : Int) (i : Int)) (rowsL m, colsL m) := by
    intro d
    induction d with
    | zero =>
      intro i hdi hi
      obtain rfl : i = m.length := by omega
      refine Ev.step (fun _ => rfl) (Ev_neg (by omega) (Ev_some ?_))
      unfold rowsL colsL
      congr 1
      apply List.map_congr_left; intro a ha
      rw [if_pos (by simpa using ha)]
    | succ d ih =>
      intro i hdi hi
      refine Ev.step (fun _ => rfl) (Ev_pos (by omega) (Ev_pos (by omega) (Ev_pos (by omega) ?_)))
      rw [rdL_nat, (h i (by omega)).1]
      refine (sums_l1 m hd h i (by omega) _ (ih (i + 1) (by omega) (by omega)) _ 0 rfl (by omega)).congr (fun k => ?_)
      congr 1
      · apply List.map_congr_left; intro a ha
        by_cases c : a < i
        · rw [if_pos c, if_pos c]
        · rw [if_neg c, if_neg c]; split <;> rfl
      · apply List.map_congr_left; intro b hb
        rw [if_neg (by omega), Int.add_zero]
  refine (main _ 0 rfl (by omega)).congr (fun k => ?_)
  congr 1
  all_goals (apply List.map_congr_left; intro a ha)
theorem Index_ev (l : List Int) (a : Int) (hl : l.length ≤ 1000000) : Ev (fun k => slices_Contains_int_int.f k l a) (decide (a ∈ l)) := by
  unfold slices_Contains_int_int.f slices_Index_int_int.f
  have main : ∀ (d i : Nat), l.length - i = d → i ≤ l.length → ∃ q : Int, Ev (fun k => slices_Index_int_int.l0 k l a (l.length : Int) (i : Int)) q ∧ (0 ≤ q ↔ ∃ j, i ≤ j ∧ j < l.length ∧ l.getD j 0 = a) := by
    intro d
    induction d with
    | zero =>
      intro i hd hi
      exact ⟨-1, Ev.step (fun _ => rfl) (Ev_neg (by omega) (Ev_some rfl)), ⟨fun h => absurd h (by decide), fun ⟨j, h1, h2, _⟩ => by omega⟩⟩
    | succ d ih =>
      intro i hd hi
      by_cases c : a = l.getD i 0
      · exact ⟨i, Ev.step (fun _ => rfl) (Ev_pos (by omega) (Ev_pos (by omega) (Ev_pos (by omega) (Ev_pos (by rw [rd_nat]; exact c) (Ev_some rfl))))), ⟨fun _ => ⟨i, Nat.le_refl _, by omega, c.symm⟩, fun _ => by omega⟩⟩
      · obtain ⟨q, h1, h2⟩ := ih (i + 1) (by omega) (by omega)
        refine ⟨q, Ev.step (fun _ => rfl) (Ev_pos (by omega) (Ev_pos (by omega) (Ev_pos (by omega) (Ev_neg (by rw [rd_nat]; exact c) ?_)))), ?_⟩
        · rw [wrap_succ (by omega)]; exact h1
        · rw [h2]
          refine ⟨fun ⟨j, h3, h4⟩ => ⟨j, by omega, h4⟩, fun ⟨j, h3, h4, h5⟩ => ⟨j, ?_, h4, h5⟩⟩
          by_cases e : j = i
          · rw [e] at h5; exact absurd h5.symm c
          · omega
  obtain ⟨q, h1, h2⟩ := main _ 0 rfl (by omega)
  refine Ev.bind h1 (Ev_some (dec_eq ?_))
  rw [ge_iff_le, h2, List.mem_iff_getElem]
  exact ⟨fun ⟨j, _, h4, h5⟩ => ⟨j, h4, by rwa [getD_lt _ _ _ h4] at h5⟩, fun ⟨j, h4, h5⟩ => ⟨j, by omega, h4, by rwa [getD_lt _ _ _ h4]⟩⟩
theorem sumOf_ev (m : List (List Int)) (hd : m.length ≤ 12) (h : Cells m) : Ev (fun k => impl_Matrix_sum.f k m) (allZ m) := by
  unfold impl_Matrix_sum.f
  refine Ev.bind (sums_ev m hd h) ?_
  have hl : (rowsL m).length = m.length := by simp [rowsL]
  have main : ∀ (d i : Nat), m.length - i = d → i ≤ m.length → Ev (fun k => impl_Matrix_sum.l0 k (sumZ i (fun i => rowZ m i)) (rowsL m) ((rowsL m).length : Int) (i : Int)) (allZ m) := by
    rw [hl]
    intro d
    induction d with
    | zero =>
      intro i hd hi
      obtain rfl : i = m.length := by omega
      exact Ev.step (fun _ => rfl) (Ev_neg (by omega) (Ev_some rfl))
    | succ d ih =>
      intro i hd' hi
      refine Ev.step (fun _ => rfl) (Ev_pos (by omega) (Ev_pos (by omega) (Ev_pos (by omega) ?_)))
      have h1 := sumZ_bound (n := i) (f := fun i => rowZ m i) (B := 144) (by decide) (fun j hj => by have := h.row (show j < m.length by omega); omega)
      have h2 := h.row (show i < m.length by omega)
      rw [rd_nat, show (rowsL m).getD i 0 = rowZ m i from mapR_getD _ _ (by omega), wrap_succ (by omega), wrap_small (by omega) (by omega)]
      exact ih (i + 1) (by omega) (by omega)
  exact main _ 0 rfl (by omega)
theorem mem_rowsL {m : List (List Int)} : (0 : Int) ∈ rowsL m ↔ ¬ ∀ i, i < m.length → rowZ m i ≠ 0 := by
  unfold rowsL
  rw [List.mem_map]
  refine ⟨fun ⟨i, h1, h2⟩ h => h i (by simpa using h1) h2, fun h => ?_⟩
  refine Classical.byContradiction (fun hn => h (fun i hi h0 => hn ⟨i, by simpa using hi, h0⟩))
theorem mem_colsL {m : List (List Int)} : (0 : Int) ∈ colsL m ↔ ¬ ∀ i, i < m.length → colZ m i ≠ 0 := by
  unfold colsL
  rw [List.mem_map]
  refine ⟨fun ⟨i, h1, h2⟩ h => h i (by simpa using h1) h2, fun h => ?_⟩
  refine Classical.byContradiction (fun hn => h (fun i hi h0 => hn ⟨i, by simpa using hi, h0⟩))
theorem containsFunc_eq (m : List (List Int)) (i : Nat) (hi : i < m.length) (hl : (m.getD i []).length = m.length) : slices_ContainsFunc_int_int.f ((m.getD i []).take i) = some (decide (¬ ∀ j, j < m.length → j < i → en m i j = 0)) := by
  unfold slices_ContainsFunc_int_int.f
  congr 1
  rw [Bool.eq_iff_iff, List.any_eq_true, decide_eq_true_iff]
  refine ⟨fun ⟨x, h1, h2⟩ h => ?_, fun h => ?_⟩
  · obtain ⟨j, hj, rfl⟩ := List.getElem_of_mem h1
    rw [List.length_take] at hj
    have := h j (by omega) (by omega)
    rw [List.getElem_take] at h2
    rw [en, getD_lt _ _ _ (by omega)] at this
    rw [this] at h2
    exact absurd h2 (by decide)
  · refine Classical.byContradiction (fun hn => h (fun j hj hji => Classical.byContradiction (fun h0 => hn ⟨en m i j, ?_, by simpa using h0⟩)))
    have e : en m i j = (m.getD i [])[j]'(by omega) := getD_lt _ _ _ (by omega)
    rw [e, List.mem_iff_getElem]
    exact ⟨j, by rw [List.length_take]; omega, by rw [List.getElem_take]⟩
def rowOk' (m : List (List Int)) (i : Nat) : Prop := (m.getD i []).length = m.length ∧ (∀ j, j < m.length → 0 ≤ en m i j ∧ en m i j ≤ 12) ∧ ∀ j, j < m.length → j < i → en m i j = 0
instance (m : List (List Int)) (i : Nat) : Decidable (rowOk' m i) := inferInstanceAs (Decidable (_ ∧ _ ∧ ∀ j, j < m.length → _))
theorem implIsMatrix_ev (m : List (List Int)) (hs : Small m) : Ev (fun k => impl_IsMatrix.f k m) (decide (isMat m)) := by
  unfold impl_IsMatrix.f impl_Matrix_size.f
  refine Ev_val rfl ?_
  by_cases hd : m.length ≤ 12
  · refine Ev_neg (by omega) ?_
    refine Ev_eq (Ev_all (fun k i => impl_IsMatrix.l0 k m (m.length : Int) (i : Int) m) m.length (fun i => decide (rowOk' m i)) (decide ((∀ i, i < m.length → rowZ m i ≠ 0) ∧ (∀ j, j < m.length → colZ m j ≠ 0) ∧ allZ m ≤ 12)) ?_ ?_ ?_) ?_
    · intro i hi _ hP q hq
      obtain ⟨h1, h2, h3⟩ := of_decide_eq_true hP
      refine Ev.step (fun _ => rfl) (Ev_pos (by omega) (Ev_pos (by omega) (Ev_pos (by omega) (Ev_val rfl ?_))))
      rw [rdL_nat, Int.toNat_natCast, containsFunc_eq m i hi h1, wrap_succ (by omega)]
      refine Ev_pos (by omega) (Ev.bind (allWithin_ev _ 0 12 (by omega)) (Ev_pos (decide_eq_true (fun j hj => h2 j (by omega))) (Ev_pos (by omega) (Ev_val rfl (Ev_neg ?_ hq)))))
      rw [decide_eq_true_iff]; exact fun hn => hn h3
    · intro i hi _ hP
      have hP := of_decide_eq_false hP
      refine Ev.step (fun _ => rfl) (Ev_pos (by omega) (Ev_pos (by omega) (Ev_pos (by omega) (Ev_val rfl ?_))))
      have hsm := hs.2 _ (getD_mem (z := []) (show i < m.length by omega))
      rw [rdL_nat]
      by_cases c1 : (m.getD i []).length = m.length
      · refine Ev_pos (by omega) (Ev.bind (allWithin_ev _ 0 12 (by omega)) ?_)
        by_cases c2 : ∀ j, j < (m.getD i []).length → 0 ≤ (m.getD i []).getD j 0 ∧ (m.getD i []).getD j 0 ≤ 12
        · refine Ev_pos (decide_eq_true c2) (Ev_pos (by omega) ?_)
          rw [Int.toNat_natCast, containsFunc_eq m i hi c1]
          exact Ev_val rfl (Ev_pos (decide_eq_true (fun h3 => hP ⟨c1, fun j hj => c2 j (by omega), h3⟩)) (Ev_some rfl))
        · exact Ev_neg (by simpa using c2) (Ev_some rfl)
      · exact Ev_neg (by omega) (Ev_some rfl)
    · intro h
      have hC : Cells m := fun i hi => by
        obtain ⟨h1, h2, h3⟩ := of_decide_eq_true (h i hi)
        exact ⟨h1, fun j hj => ⟨(h2 j hj).1, (h2 j hj).2, h3 j hj⟩⟩
      refine Ev.step (fun _ => rfl) (Ev_neg (by omega) (Ev.bind (sums_ev m hd hC) (Ev.bind (Index_ev _ 0 (by simp [rowsL]; omega)) ?_)))
      by_cases c1 : ∀ i, i < m.length → rowZ m i ≠ 0
      · refine Ev_neg (by rw [decide_eq_true_iff, mem_rowsL]; exact fun hn => hn c1) (Ev.bind (Index_ev _ 0 (by simp [colsL]; omega)) ?_)
        by_cases c2 : ∀ i, i < m.length → colZ m i ≠ 0
        · exact Ev_neg (by rw [decide_eq_true_iff, mem_colsL]; exact fun hn => hn c2) (Ev.bind (sumOf_ev m hd hC) (Ev_some (dec_eq ⟨fun h => ⟨c1, c2, h⟩, fun h => h.2.2⟩)))
        · refine Ev_pos (by rw [decide_eq_true_iff, mem_colsL]; exact c2) (Ev_some ?_)
          symm; rw [decide_eq_false_iff_not]; exact fun h => c2 h.2.1
      · refine Ev_pos (by rw [decide_eq_true_iff, mem_rowsL]; exact c1) (Ev_some ?_)
        symm; rw [decide_eq_false_iff_not]; exact fun h => c1 h.1
    · rw [← Bool.decide_and]
      refine dec_eq ⟨fun ⟨h, h1, h2, h3⟩ => ⟨hd, fun i hi => ?_, h1, h2, h3⟩, fun ⟨_, h, h1, h2, h3⟩ => ⟨fun i hi => decide_eq_true ⟨(h i hi).1, fun j hj => ⟨h.nn hi hj, h.le hi hj⟩, fun j hj hji => ((h i hi).2 j hj).2.2 hji⟩, h1, h2, h3⟩⟩
      obtain ⟨h4, h5, h6⟩ := of_decide_eq_true (h i hi)
      exact ⟨h4, fun j hj => ⟨(h5 j hj).1, (h5 j hj).2, h6 j hj⟩⟩
  · refine Ev_pos (by omega) (Ev_some ?_)
    symm; rw [decide_eq_false_iff_not]; exact fun h => hd h.1
/-- Words with a separator between them. -/
def TJ (sep : ByteArray) (ws : List ByteArray) : ByteArray := ⟨(Go.Lib.join (ws.map (·.data.toList)) sep.data.toList).toArray⟩
theorem ba_ext {a b : ByteArray} (h : a.data.toList = b.data.toList) : a = b := by
  cases a with
  | mk x => cases b with
    | mk y =>
      have : x = y := by
        apply Array.ext'
        exact h
      rw [this]
theorem TJ_data (sep : ByteArray) (ws : List ByteArray) : (TJ sep ws).data.toList = Go.Lib.join (ws.map (·.data.toList)) sep.data.toList := rfl
theorem TJ_size (sep : ByteArray) (hs : sep.size = 1) (B : Nat) : ∀ ws : List ByteArray, (∀ w ∈ ws, w.size ≤ B) → (TJ sep ws).size ≤ ws.length * (B + 1)
  | [], _ => Nat.zero_le _
  | x :: r, h => by
    have e : (TJ sep (x :: r)).size = ((TJ sep (x :: r)).data.toList).length := by rw [Array.length_toList]; rfl
    have ex : (x.data.toList).length = x.size := by rw [Array.length_toList]; rfl
    have es : (sep.data.toList).length = 1 := by rw [Array.length_toList]; exact hs
    rw [e, TJ_data, List.map_cons, Go.Lib.join_cons, List.length_append, ex]
    have h1 := h x (by simp)
    have ht : ∀ l : List ByteArray, (∀ w ∈ l, w.size ≤ B) → (Go.Lib.joinTail sep.data.toList (l.map (·.data.toList))).length ≤ l.length * (B + 1) := by
      intro l
      induction l with
      | nil => intro _; simp [Go.Lib.joinTail]
      | cons y l ih =>
        intro hl
        have h2 := ih (fun w hw => hl w (by simp [hw]))
        have h3 := hl y (by simp)
        have ey : (y.data.toList).length = y.size := by rw [Array.length_toList]; rfl
        have e2 : (Go.Lib.joinTail sep.data.toList ((y :: l).map (·.data.toList))).length = 1 + y.size + (Go.Lib.joinTail sep.data.toList (l.map (·.data.toList))).length := by
          unfold Go.Lib.joinTail
          rw [List.map_cons, List.map_cons, List.flatten_cons, List.length_append, List.length_append, es, ey]
        rw [e2, List.length_cons, Nat.succ_mul]
        omega
    have h4 := ht r (fun w hw => h w (by simp [hw]))
    rw [List.length_cons, Nat.succ_mul]
    omega
theorem join_ok (sep : ByteArray) (hsep : sep.size = 1) (ws : List ByteArray) (B : Nat) (hB : B ≤ 1000000) (h : ∀ w ∈ ws, w.size ≤ B) (hn : ws.length ≤ 1000) : strings_Join.f ws sep = some (TJ sep ws) := by
  unfold strings_Join.f strings_Join.v
  have h1 := TJ_size sep hsep B ws h
  have e : (TJ sep ws).size = (Go.Lib.join (ws.map (·.data.toList)) sep.data.toList).length := by rw [← TJ_data, Array.length_toList]; rfl
  have hmul : ws.length * (B + 1) ≤ 1000 * 1000001 := Nat.mul_le_mul (by omega) (by omega)
  rw [if_pos ⟨by omega, by rw [← e]; omega⟩]
  rfl
theorem words_ev {β : Type} (f : Nat → List ByteArray → List β → Int → Int → Option ByteArray) (G : Nat → β → Option ByteArray) (rb : List β → Int → β) (sep : ByteArray) (hsep : sep.size = 1)
    (hf : ∀ k x3 x7 x8 x9, f (k + 1) x3 x7 x8 x9 = if x9 < x8 then (if 0 ≤ x9 then (if x9 < (x7.length : Int) then ((G k (rb x7 x9)).bind fun t => (if x3.length < 8796093022208 then (f k (x3 ++ [t]) x7 x8 (wrap64 (x9 + 1))) else (none))) else (none)) else (none)) else ((strings_Join.f x3 sep).bind fun t => (some t)))
    (L : List β) (hrb : ∀ (i : Nat) (h : i < L.length), rb L (i : Int) = L[i]) (W : β → ByteArray) (B : Nat) (hB : B ≤ 1000000) (hW : ∀ x ∈ L, Ev (fun k => G k x) (W x) ∧ (W x).size ≤ B) (hn : L.length ≤ 1000) :
    Ev (fun k => f k [] L (L.length : Int) 0) (TJ sep (L.map W)) := by
  have hws : ∀ w ∈ L.map W, w.size ≤ B := by
    intro w hw
    obtain ⟨x, hx, rfl⟩ := List.mem_map.1 hw
    exact (hW x hx).2
  have main : ∀ (d i : Nat), L.length - i = d → i ≤ L.length → Ev (fun k => f k ((L.take i).map W) L (L.length : Int) (i : Int)) (TJ sep (L.map W)) := by
    intro d
    induction d with
    | zero =>
      intro i hd hi
      obtain rfl : i = L.length := by omega
      refine Ev.step (fun k => hf k _ _ _ _) (Ev_neg (by omega) ?_)
      rw [List.take_length]
      exact Ev_val (join_ok sep hsep _ B hB hws (by rw [List.length_map]; exact hn)) (Ev_some rfl)
    | succ d ih =>
      intro i hd hi
      have hlt : i < L.length := by omega
      obtain ⟨g1, g2⟩ := hW L[i] (List.getElem_mem hlt)
      refine Ev.step (fun k => hf k _ _ _ _) (Ev_pos (by omega) (Ev_pos (by omega) (Ev_pos (by omega) ?_)))
      rw [hrb i hlt, wrap_succ (by omega)]
      refine Ev.bind g1 (Ev_pos (by rw [List.length_map, List.length_take]; omega) ?_)
      have h1 := ih (i + 1) (by omega) (by omega)
      rw [List.take_succ_eq_append_getElem hlt, List.map_append] at h1
      exact h1
  exact main _ 0 rfl (Nat.zero_le _)
/-- A small number's word. -/
def nm (x : Int) : ByteArray := if x < 10 then ⟨#[UInt8.ofNat (48 + x.toNat)]⟩ else ⟨#[49, UInt8.ofNat (48 + (x - 10).toNat)]⟩
theorem nm_size (x : Int) : (nm x).size ≤ 2 := by
  unfold nm; split
  · exact Nat.le_succ 1
  · exact Nat.le_refl 2
theorem itoa_nm (x : Int) (h0 : 0 ≤ x) (h1 : x < 20) : strconv_Itoa.f x = some (nm x) := by
  unfold strconv_Itoa.f nm
  rw [if_pos ⟨h0, by omega⟩]
  by_cases c : x < 10
  · rw [if_pos c, Go.Lib.decDigits, dif_pos (by omega)]
  · rw [if_neg c, Go.Lib.decDigits, dif_neg (by omega), Go.Lib.decDigits, dif_pos (by omega), show x.toNat / 10 = 1 from by omega, show x.toNat % 10 = (x - 10).toNat from by omega]
    rfl
def comma : ByteArray := ⟨#[44]⟩
def slash : ByteArray := ⟨#[47]⟩
def rowT (r : List Int) : ByteArray := TJ comma (r.map nm)
def matT (m : List (List Int)) : ByteArray := TJ slash (m.map rowT)
def Few (r : List Int) : Prop := r.length ≤ 12 ∧ ∀ x ∈ r, 0 ≤ x ∧ x < 13
theorem rowT_size {r : List Int} (h : Few r) : (rowT r).size ≤ 36 := by
  have h1 := TJ_size comma rfl 2 (r.map nm) (fun w hw => by obtain ⟨x, _, rfl⟩ := List.mem_map.1 hw; exact nm_size x)
  rw [List.length_map] at h1
  have := h.1
  unfold rowT; omega
theorem rd_at (L : List Int) (i : Nat) (h : i < L.length) : rd L (i : Int) = L[i] := by rw [rd_nat, getD_lt _ _ _ h]
theorem rdL_at (L : List (List Int)) (i : Nat) (h : i < L.length) : rd_L1 L (i : Int) = L[i] := by rw [rdL_nat, getD_lt _ _ _ h]
theorem ascentText_ev (r : List Int) (h : Few r) : Ev (fun k => impl_ascentText.f k r) (rowT r) := by
  unfold impl_ascentText.f
  exact words_ev (fun k => impl_ascentText.l0 k) (fun _ => strconv_Itoa.f) rd comma rfl (fun _ _ _ _ _ => rfl) r (rd_at r) nm 2 (by omega) (fun x hx => ⟨⟨0, fun _ _ => itoa_nm x (h.2 x hx).1 (by have := (h.2 x hx).2; omega)⟩, nm_size x⟩) (by have := h.1; omega)
theorem matrixText_ev (m : List (List Int)) (hl : m.length ≤ 12) (h : ∀ r ∈ m, Few r) : Ev (fun k => impl_matrixText.f k m) (matT m) := by
  unfold impl_matrixText.f
  exact words_ev (fun k => impl_matrixText.l0 k) (fun k => impl_ascentText.f k) rd_L1 slash rfl (fun _ _ _ _ _ => rfl) m (rdL_at m) rowT 36 (by omega) (fun x hx => ⟨ascentText_ev x (h x hx), rowT_size (h x hx)⟩) (by omega)
theorem isMat_few {m : List (List Int)} (g : isMat m) : ∀ r ∈ m, Few r := by
  intro r hr
  obtain ⟨i, hi, rfl⟩ := List.mem_iff_getElem.1 hr
  have h1 := g.2.1 i hi
  have e : m.getD i [] = m[i] := getD_lt _ _ _ hi
  have hl : m[i].length = m.length := by rw [← e]; exact h1.1
  refine ⟨by have := g.1; omega, fun x hx => ?_⟩
  obtain ⟨j, hj, rfl⟩ := List.mem_iff_getElem.1 hx
  have h2 := h1.2 j (by omega)
  have e2 : en m i j = m[i][j] := by
    show (m.getD i []).getD j 0 = _
    rw [e, getD_lt _ _ _ hj]
  rw [← e2]
  have := h2.1; have := h2.2.1
  omega
/-- A list of bytes cut at each c. -/
def cut (c : UInt8) : List UInt8 → List (List UInt8)
  | [] => [[]]
  | b :: l => if b = c then [] :: cut c l else (match cut c l with | [] => [[b]] | q :: qs => (b :: q) :: qs)
def onto (p : List UInt8) : List (List UInt8) → List (List UInt8)
  | [] => [p]
  | q :: qs => (p ++ q) :: qs
theorem cut_ne (c : UInt8) (l : List UInt8) : cut c l ≠ [] := by
  cases l with
  | nil => simp [cut]
  | cons b l =>
    unfold cut
    split
    · simp
    · split <;> simp
theorem cut_eq {c b : UInt8} (l : List UInt8) (h : b = c) : cut c (b :: l) = [] :: cut c l := by
  rw [cut, if_pos h]
theorem cut_miss {c b : UInt8} (l : List UInt8) (h : b ≠ c) : cut c (b :: l) = onto [b] (cut c l) := by
  rw [cut, if_neg h]
  cases cut c l with
  | nil => rfl
  | cons q qs => rfl
theorem onto_onto (p r : List UInt8) (L : List (List UInt8)) (h : L ≠ []) : onto p (onto r L) = onto (p ++ r) L := by
  cases L with
  | nil => exact absurd rfl h
  | cons q qs => simp [onto]
theorem onto_nil (L : List (List UInt8)) (h : L ≠ []) : onto [] L = L := by
  cases L with
  | nil => exact absurd rfl h
  | cons q qs => rfl
theorem join_onto (c : UInt8) (p : List UInt8) (L : List (List UInt8)) (h : L ≠ []) : Go.Lib.join (onto p L) [c] = p ++ Go.Lib.join L [c] := by
  cases L with
  | nil => exact absurd rfl h
  | cons q qs => rw [onto, Go.Lib.join_cons, Go.Lib.join_cons, List.append_assoc]
theorem join_cut (c : UInt8) : ∀ l : List UInt8, Go.Lib.join (cut c l) [c] = l
  | [] => by rw [cut, Go.Lib.join_one]
  | b :: l => by
    by_cases h : b = c
    · rw [cut_eq l h]
      have ih := join_cut c l
      cases hc : cut c l with
      | nil => exact absurd hc (cut_ne c l)
      | cons q qs =>
        rw [hc, Go.Lib.join_cons] at ih
        rw [Go.Lib.join_cons, List.nil_append]
        have e : Go.Lib.joinTail [c] (q :: qs) = c :: (q ++ Go.Lib.joinTail [c] qs) := by simp [Go.Lib.joinTail]
        rw [e, ih, h]
    · rw [cut_miss l h, join_onto _ _ _ (cut_ne c l), join_cut c l]
      rfl
theorem cut_free (c : UInt8) : ∀ p : List UInt8, (∀ b ∈ p, b ≠ c) → cut c p = [p]
  | [], _ => rfl
  | b :: p, h => by rw [cut_miss p (h b (by simp)), cut_free c p (fun x hx => h x (by simp [hx]))]; rfl
theorem cut_app (c : UInt8) (l : List UInt8) : ∀ p : List UInt8, (∀ b ∈ p, b ≠ c) → cut c (p ++ l) = onto p (cut c l)
  | [], _ => by rw [onto_nil _ (cut_ne c l)]; rfl
  | b :: p, h => by
    rw [List.cons_append, cut_miss _ (h b (by simp)), cut_app c l p (fun x hx => h x (by simp [hx])), onto_onto _ _ _ (cut_ne c l)]
    rfl
theorem cut_join (c : UInt8) : ∀ ws : List (List UInt8), ws ≠ [] → (∀ w ∈ ws, ∀ b ∈ w, b ≠ c) → cut c (Go.Lib.join ws [c]) = ws
  | [], h, _ => absurd rfl h
  | [w], _, h => by rw [Go.Lib.join_one]; exact cut_free c w (h w (by simp))
  | w :: v :: r, _, h => by
    have ih := cut_join c (v :: r) (by simp) (fun x hx => h x (by simp [hx]))
    rw [Go.Lib.join_cons]
    have e : Go.Lib.joinTail [c] (v :: r) = c :: Go.Lib.join (v :: r) [c] := by rw [Go.Lib.join_cons]; simp [Go.Lib.joinTail]
    rw [e, cut_app c _ w (h w (by simp)), cut_eq _ rfl, ih]
    simp [onto]
theorem cut_len (c : UInt8) : ∀ l : List UInt8, (cut c l).length ≤ l.length + 1
  | [] => Nat.le_refl _
  | b :: l => by
    have ih := cut_len c l
    by_cases h : b = c
    · rw [cut_eq l h, List.length_cons, List.length_cons]; omega
    · rw [cut_miss l h]
      cases hc : cut c l with
      | nil => simp [onto]
      | cons q qs => rw [hc] at ih; simp only [onto, List.length_cons] at ih ⊢; omega
theorem cut_sizes (c : UInt8) : ∀ (l : List UInt8), ∀ p ∈ cut c l, p.length ≤ l.length
  | [], p, h => by
    have : p = [] := by simpa [cut] using h
    rw [this]; exact Nat.le_refl _
  | b :: l, p, h => by
    by_cases e : b = c
    · rw [cut_eq l e] at h
      rcases List.mem_cons.1 h with rfl | h
      · exact Nat.zero_le _
      · have := cut_sizes c l p h
        rw [List.length_cons]; omega
    · rw [cut_miss l e] at h
      have ih := cut_sizes c l
      cases hc : cut c l with
      | nil => exact absurd hc (cut_ne c l)
      | cons q qs =>
        rw [hc] at h ih
        rcases List.mem_cons.1 h with rfl | h
        · have := ih q (by simp)
          rw [List.length_append, List.length_cons, List.length_cons, List.length_nil]; omega
        · have := ih p (by simp [h])
          rw [List.length_cons]; omega
theorem index_hit (c : UInt8) (l : List UInt8) : Go.Lib.index (c :: l) [c] = 0 := by rw [Go.Lib.index]; simp [List.isPrefixOf]
theorem index_miss {b c : UInt8} (l : List UInt8) (h : b ≠ c) : Go.Lib.index (b :: l) [c] = if Go.Lib.index l [c] == -1 then -1 else Go.Lib.index l [c] + 1 := by
  have hp : ([c] : List UInt8).isPrefixOf (b :: l) = false := by simp [List.isPrefixOf, Ne.symm h]
  rw [Go.Lib.index, hp]; simp
theorem splitK_miss {b c : UInt8} (h : b ≠ c) : ∀ (k : Nat) (l : List UInt8), Go.Lib.splitK [c] 0 k (b :: l) = onto [b] (Go.Lib.splitK [c] 0 k l)
  | 0, l => rfl
  | k + 1, l => by
    have hge := Go.Lib.index_ge l [c]
    by_cases e : Go.Lib.index l [c] = -1
    · have hix : Go.Lib.index (b :: l) [c] = -1 := by rw [index_miss l h, if_pos (by rw [e]; rfl)]
      unfold Go.Lib.splitK
      rw [hix, e]
      rfl
    · have e1 : (Go.Lib.index l [c] == -1) = false := by rw [beq_eq_false_iff_ne]; exact e
      have e2 : (Go.Lib.index l [c] + 1 == -1) = false := by rw [beq_eq_false_iff_ne]; omega
      have hix : Go.Lib.index (b :: l) [c] = Go.Lib.index l [c] + 1 := by rw [index_miss l h, if_neg (by rw [e1]; simp)]
      unfold Go.Lib.splitK
      rw [hix, e1, e2, if_neg Bool.false_ne_true, if_neg Bool.false_ne_true]
      obtain ⟨j, hj⟩ : ∃ j : Nat, Go.Lib.index l [c] = j := ⟨(Go.Lib.index l [c]).toNat, by omega⟩
      rw [hj, show ((j : Int) + 1).toNat = j + 1 from by omega, Int.toNat_natCast]
      simp only [onto, Nat.add_zero, List.length_cons, List.length_nil, Nat.zero_add, List.take_succ_cons, List.drop_succ_cons, List.cons_append, List.nil_append]
theorem splitK_cut (c : UInt8) : ∀ l : List UInt8, Go.Lib.splitK [c] 0 (l.count c) l = cut c l
  | [] => rfl
  | b :: l => by
    by_cases h : b = c
    · subst h
      rw [cut_eq l rfl, List.count_cons_self, Go.Lib.splitK, index_hit, if_neg (by simp), ← splitK_cut b l]
      simp
    · rw [cut_miss l h, List.count_cons_of_ne (by simpa using h), splitK_miss h, splitK_cut c l]
/-- The pieces as strings. -/
def cutB (c : UInt8) (s : ByteArray) : List ByteArray := (cut c s.data.toList).map fun l => ⟨l.toArray⟩
theorem cutB_data (c : UInt8) (s : ByteArray) : (cutB c s).map (·.data.toList) = cut c s.data.toList := by
  unfold cutB; rw [List.map_map]
  have : ((fun x : ByteArray => x.data.toList) ∘ fun l : List UInt8 => (⟨l.toArray⟩ : ByteArray)) = id := by funext l; rfl
  rw [this, List.map_id]
theorem map_inj_data : ∀ {a b : List ByteArray}, a.map (·.data.toList) = b.map (·.data.toList) → a = b
  | [], [], _ => rfl
  | [], y :: b, h => by simp at h
  | x :: a, [], h => by simp at h
  | x :: a, y :: b, h => by
    rw [List.map_cons, List.map_cons] at h
    have h1 := List.cons.inj h
    rw [ba_ext h1.1, map_inj_data h1.2]
theorem count_B (s : ByteArray) (c : UInt8) : Go.Lib.countB s ⟨#[c]⟩ = s.data.toList.count c := by
  have h1 := Go.Lib.count_one c s.data.toList
  exact h1.symm ▸ rfl
theorem split_cut (s : ByteArray) (c : UInt8) : strings_Split.v s ⟨#[c]⟩ = cutB c s := by
  apply map_inj_data
  rw [cutB_data]
  unfold strings_Split.v
  rw [Go.Lib.splitB_data, count_B]
  exact splitK_cut c s.data.toList
theorem data_len (s : ByteArray) : s.data.toList.length = s.size := by rw [Array.length_toList]; rfl
theorem bt_data (s : ByteArray) (i : Nat) (h : i < s.data.toList.length) : bt s (i : Int) = ((s.data.toList[i]).toNat : Int) := by
  have hs : i < s.size := by rw [← data_len]; exact h
  have e := bt_at s (i : Int) (by rw [Int.toNat_natCast]; exact hs)
  rw [← e]
  simp only [Int.toNat_natCast]
  congr 1
theorem ext_data (s : ByteArray) (f t : Nat) : (s.extract f t).data.toList = (s.data.toList.take t).drop f := by
  rw [ByteArray.data_extract, Array.toList_extract]
  simp [List.extract, List.drop_take]
def toB (L : List (List UInt8)) : List ByteArray := L.map fun l => ⟨l.toArray⟩
theorem toB_one (s : ByteArray) (f t : Nat) : [s.extract f t] = toB [(s.data.toList.take t).drop f] := by
  rw [← ext_data]; rfl
theorem l1Split_l0 (s : ByteArray) (c : UInt8) (hs : s.size ≤ 1048576) : ∀ (d i f : Nat) (out : List ByteArray), s.size - i = d → i ≤ s.size → f ≤ i → out.length ≤ i →
    Ev (fun k => spec_l1Split.l0 k s (c.toNat : Int) out (f : Int) (i : Int)) (out ++ toB (onto ((s.data.toList.take i).drop f) (cut c (s.data.toList.drop i)))) := by
  intro d
  have hlen := data_len s
  induction d with
  | zero =>
    intro i f out hd hi hf ho
    obtain rfl : i = s.size := by omega
    refine Ev.step (fun k => by rw [spec_l1Split.l0]) (Ev_neg (by omega) (Ev_pos (by omega) (Ev_pos (by omega) (Ev_pos (by omega) (Ev_some ?_)))))
    have hz : s.data.toList.drop s.size = [] := List.drop_eq_nil_of_le (by omega)
    have hc : cut c [] = [[]] := rfl
    rw [Int.toNat_natCast, hz, hc, toB_one]
    simp [onto]
  | succ d ih =>
    intro i f out hd hi hf ho
    have hil : i < s.data.toList.length := by omega
    have hdr := List.drop_eq_getElem_cons hil
    refine Ev.step (fun k => by rw [spec_l1Split.l0]) (Ev_pos (by omega) (Ev_pos (by omega) ?_))
    rw [bt_data s i hil, wrap_succ (by omega)]
    by_cases e : s.data.toList[i] = c
    · refine Ev_pos (by rw [e]) (Ev_pos (by omega) (Ev_pos (by omega) (Ev_pos (by omega) (Ev_pos (by omega) ?_))))
      rw [Int.toNat_natCast, Int.toNat_natCast]
      have h1 := ih (i + 1) (i + 1) (out ++ [s.extract f i]) (by omega) (by omega) (Nat.le_refl _) (by rw [List.length_append, List.length_singleton]; omega)
      refine Ev_eq h1 ?_
      rw [hdr, cut_eq _ e, List.drop_eq_nil_of_le (by rw [List.length_take]; omega), onto_nil _ (cut_ne c _), List.append_assoc, toB_one]
      simp [onto, toB]
    · refine Ev_neg (fun h => e (UInt8.toNat_inj.1 (by omega))) ?_
      have h1 := ih (i + 1) f out (by omega) (by omega) (by omega) (by omega)
      refine Ev_eq h1 ?_
      rw [hdr, cut_miss _ e, onto_onto _ _ _ (cut_ne c _), List.take_succ_eq_append_getElem hil, List.drop_append_of_le_length (by rw [List.length_take]; omega)]
theorem l1Split_ev (s : ByteArray) (c : UInt8) (hs : s.size ≤ 1048576) : Ev (fun k => spec_l1Split.f k s (c.toNat : Int)) (cutB c s) := by
  have h := l1Split_l0 s c hs _ 0 0 [] rfl (Nat.zero_le _) (Nat.le_refl _) (Nat.le_refl _)
  unfold spec_l1Split.f
  refine Ev_eq h ?_
  rw [List.take_zero, List.drop_zero, List.drop_zero, onto_nil _ (cut_ne c _)]
  rfl
/-! Numbers -/
def rdl : List UInt8 → Int → Int
  | [], n => n
  | b :: l, n => if (b.toNat : Int) < 48 then -1 else if (b.toNat : Int) > 57 then -1 else rdl l (10 * n + ((b.toNat : Int) - 48))
def readV (s : ByteArray) : Int := if 1 ≤ s.size ∧ s.size ≤ 6 then (if bt s 0 = 48 ∧ s.size > 1 then -1 else rdl s.data.toList 0) else -1
theorem l1Read_l0 (s : ByteArray) (hs : s.size ≤ 6) : ∀ (d i : Nat) (n : Int), s.size - i = d → i ≤ s.size → 0 ≤ n → n < 10 ^ i → Ev (fun k => spec_l1Read.l0 k s n (i : Int)) (rdl (s.data.toList.drop i) n) := by
  intro d
  have hlen := data_len s
  induction d with
  | zero =>
    intro i n hd hi h0 h1
    refine Ev.step (fun k => by rw [spec_l1Read.l0]) (Ev_neg (by omega) (Ev_some ?_))
    rw [List.drop_eq_nil_of_le (by omega)]; rfl
  | succ d ih =>
    intro i n hd hi h0 h1
    have hil : i < s.data.toList.length := by omega
    have hb := (s.data.toList[i]).toNat_lt
    refine Ev.step (fun k => by rw [spec_l1Read.l0]) (Ev_pos (by omega) (Ev_pos (by omega) ?_))
    rw [bt_data s i hil, List.drop_eq_getElem_cons hil, rdl, wrap_succ (by omega)]
    by_cases c1 : ((s.data.toList[i]).toNat : Int) < 48
    · rw [if_pos c1]; exact Ev_pos c1 (Ev_some rfl)
    · rw [if_neg c1]
      refine Ev_neg c1 ?_
      by_cases c2 : ((s.data.toList[i]).toNat : Int) > 57
      · rw [if_pos c2]; exact Ev_pos c2 (Ev_some rfl)
      · rw [if_neg c2]
        refine Ev_neg c2 ?_
        have hp : (10 : Int) ^ i ≤ 10 ^ 6 := by
          have h1 := Nat.pow_le_pow_right (n := 10) (by omega) (show i ≤ 6 by omega)
          have h2 : ((10 ^ i : Nat) : Int) ≤ ((10 ^ 6 : Nat) : Int) := by exact_mod_cast h1
          simpa using h2
        have e : wrap64 (wrap64 (10 * n) + (((s.data.toList[i]).toNat : Int) - 48) % 256) = 10 * n + (((s.data.toList[i]).toNat : Int) - 48) := by
          unfold wrap64; omega
        rw [e]
        exact ih (i + 1) _ (by omega) (by omega) (by omega) (by rw [Int.pow_succ]; omega)
theorem l1Read_ev (s : ByteArray) (hs : s.size ≤ 1048576) : Ev (fun k => spec_l1Read.f k s) (readV s) := by
  unfold spec_l1Read.f readV spec_l1In.f
  by_cases c : 1 ≤ s.size ∧ s.size ≤ 6
  · rw [if_pos c, if_pos (show (s.size : Int) ≥ 1 by omega), decide_eq_true (show (s.size : Int) ≤ 6 by omega)]
    refine Ev_val rfl (Ev_pos rfl (Ev_pos (by omega) ?_))
    have hz : Ev (fun k => spec_l1Read.l0 k s 0 0) (rdl s.data.toList 0) := l1Read_l0 s c.2 _ 0 0 rfl (Nat.zero_le _) (Int.le_refl _) (by simp)
    by_cases c1 : bt s 0 = 48
    · refine Ev_pos c1 (Ev.step (fun k => by rw [spec_l1Read.j0]) ?_)
      by_cases c2 : s.size > 1
      · rw [if_pos ⟨c1, c2⟩]
        exact Ev_pos (by rw [decide_eq_true_iff]; omega) (Ev_some rfl)
      · rw [if_neg (fun h => c2 h.2)]
        exact Ev_neg (by rw [decide_eq_true_iff]; omega) hz
    · rw [if_neg (fun h => c1 h.1)]
      exact Ev_neg c1 (Ev.step (fun k => by rw [spec_l1Read.j0]) (Ev_neg Bool.false_ne_true hz))
  · rw [if_neg c]
    have e : (if (s.size : Int) ≥ 1 then (some (decide ((s.size : Int) ≤ 6))) else (some false)) = some false := by
      by_cases d : (s.size : Int) ≥ 1
      · rw [if_pos d, decide_eq_false (by omega)]
      · rw [if_neg d]
    rw [e]
    exact Ev_val rfl (Ev_neg (by simp) (Ev.step (fun k => by rw [spec_l1Read.j0]) (Ev_pos rfl (Ev_some rfl))))
theorem rdl_ge : ∀ (l : List UInt8) (n : Int), 0 ≤ n → rdl l n = -1 ∨ n ≤ rdl l n
  | [], n, _ => .inr (Int.le_refl _)
  | b :: l, n, h => by
    unfold rdl
    split
    · exact .inl rfl
    · split
      · exact .inl rfl
      · rcases rdl_ge l (10 * n + ((b.toNat : Int) - 48)) (by omega) with e | e
        · exact .inl e
        · exact .inr (by omega)
theorem byte_of {b : UInt8} {n : Nat} (h : b.toNat = n) (hn : n < 256) : b = UInt8.ofNat n := by
  apply UInt8.toNat_inj.1
  rw [h, UInt8.toNat_ofNat', Nat.mod_eq_of_lt (by omega)]
theorem readV_nm (s : ByteArray) (h0 : 0 ≤ readV s) (h1 : readV s < 13) : s = nm (readV s) := by
  have hlen := data_len s
  have hd : ∀ c1 : 1 ≤ s.size ∧ s.size ≤ 6, readV s = (if bt s 0 = 48 ∧ s.size > 1 then -1 else rdl s.data.toList 0) := fun c1 => by unfold readV; rw [if_pos c1]
  by_cases c : 1 ≤ s.size ∧ s.size ≤ 6
  · have hv := hd c
    by_cases c2 : bt s 0 = 48 ∧ s.size > 1
    · rw [if_pos c2] at hv; omega
    · rw [if_neg c2] at hv
      have hb0 := bt_data s 0 (by omega)
      apply ba_ext
      generalize readV s = v at h0 h1 hv ⊢
      cases hl : s.data.toList with
      | nil => rw [hl] at hlen; simp only [List.length_nil] at hlen; omega
      | cons a l =>
        rw [hl] at hv hlen
        have ea : bt s 0 = (a.toNat : Int) := by
          rw [show (0 : Int) = ((0 : Nat) : Int) from rfl, hb0]
          simp [hl]
        unfold rdl at hv
        by_cases a1 : (a.toNat : Int) < 48
        · rw [if_pos a1] at hv; omega
        · by_cases a2 : (a.toNat : Int) > 57
          · rw [if_neg a1, if_pos a2] at hv; omega
          · rw [if_neg a1, if_neg a2] at hv
            cases l with
            | nil =>
              simp only [rdl] at hv
              unfold nm
              rw [if_pos (by omega), byte_of (b := a) (n := 48 + v.toNat) (by omega) (by omega)]
            | cons b l =>
              have hgt : s.size > 1 := by simp only [List.length_cons] at hlen; omega
              have ha48 : (a.toNat : Int) ≠ 48 := fun h => c2 ⟨by rw [ea]; exact h, hgt⟩
              unfold rdl at hv
              by_cases b1 : (b.toNat : Int) < 48
              · rw [if_pos b1] at hv; omega
              · by_cases b2 : (b.toNat : Int) > 57
                · rw [if_neg b1, if_pos b2] at hv; omega
                · rw [if_neg b1, if_neg b2] at hv
                  cases l with
                  | nil =>
                    simp only [rdl] at hv
                    unfold nm
                    rw [if_neg (by omega), byte_of (b := a) (n := 49) (by omega) (by omega), byte_of (b := b) (n := 48 + (v - 10).toNat) (by omega) (by omega)]
                    rfl
                  | cons d l =>
                    unfold rdl at hv
                    by_cases d1 : (d.toNat : Int) < 48
                    · rw [if_pos d1] at hv; omega
                    · by_cases d2 : (d.toNat : Int) > 57
                      · rw [if_neg d1, if_pos d2] at hv; omega
                      · rw [if_neg d1, if_neg d2] at hv
                        rcases rdl_ge l (10 * (10 * (10 * 0 + ((a.toNat : Int) - 48)) + ((b.toNat : Int) - 48)) + ((d.toNat : Int) - 48)) (by omega) with e | e <;> omega
  · have : readV s = -1 := by unfold readV; rw [if_neg c]
    omega
theorem nm_facts : (List.range 13).all (fun n => decide (readV (nm (n : Int)) = (n : Int)) && decide (numV (nm (n : Int)) = some (n : Int)) && (nm (n : Int)).data.toList.all (fun b => decide (b ≠ 44) && decide (b ≠ 47))) = true := by decide +kernel
theorem nm_read (x : Int) (h0 : 0 ≤ x) (h1 : x < 13) : readV (nm x) = x ∧ numV (nm x) = some x ∧ ∀ b ∈ (nm x).data.toList, b ≠ 44 ∧ b ≠ 47 := by
  obtain ⟨n, rfl⟩ : ∃ n : Nat, x = (n : Int) := ⟨x.toNat, by omega⟩
  have h := List.all_eq_true.1 nm_facts n (List.mem_range.2 (by omega))
  simp only [Bool.and_eq_true, List.all_eq_true, decide_eq_true_eq] at h
  exact ⟨h.1.1, h.1.2, fun b hb => h.2 b hb⟩
def rowV (r : ByteArray) : List Int := (cutB 44 r).map readV
def matV (s : ByteArray) : List (List Int) := (cutB 47 s).map rowV
def endS (m : List (List Int)) : List (List Int) × Bool := if isMat m then (m, true) else ([], false)
theorem cutB_size (c : UInt8) (s : ByteArray) : ∀ x ∈ cutB c s, x.size ≤ s.size := by
  intro x hx
  obtain ⟨l, hl, rfl⟩ := List.mem_map.1 hx
  have := cut_sizes c _ l hl
  rw [data_len] at this
  exact this
theorem cutB_len (c : UInt8) (s : ByteArray) : (cutB c s).length ≤ s.size + 1 := by
  have := cut_len c s.data.toList
  rw [data_len] at this
  unfold cutB
  rw [List.length_map]; exact this
theorem cutB_ne (c : UInt8) (s : ByteArray) : cutB c s ≠ [] := by
  intro h
  have := congrArg List.length h
  unfold cutB at this
  rw [List.length_map] at this
  exact cut_ne c _ (List.length_eq_zero_iff.1 this)
theorem TJ_cut (c : UInt8) (s : ByteArray) : TJ ⟨#[c]⟩ (cutB c s) = s := by
  apply ba_ext
  rw [TJ_data, cutB_data]
  exact join_cut c _
theorem rdOf_at (L : List ByteArray) (i : Nat) (h : i < L.length) : rdOf ByteArray.empty L (i : Int) = L[i] := by
  unfold rdOf
  rw [Int.toNat_natCast, getD_lt _ _ _ h]
theorem specP_l1 (rows : List ByteArray) (n i : Int) (m : List (List Int)) (ws : List ByteArray) (hw : ws.length ≤ 2000000) (hs : ∀ x ∈ ws, x.size ≤ 1048576) (hm : m.length ≤ 2000000) (R : List (List Int) × Bool)
    (h : Ev (fun k => spec_ParseMatrix.l0 k rows n (wrap64 (i + 1)) (m ++ [ws.map readV])) R) : ∀ (d j : Nat), ws.length - j = d → j ≤ ws.length → Ev (fun k => spec_ParseMatrix.l1 k ((ws.take j).map readV) rows n i ws (ws.length : Int) (j : Int) m) R := by
  intro d
  induction d with
  | zero =>
    intro j hd hj
    obtain rfl : j = ws.length := by omega
    refine Ev.step (fun k => by rw [spec_ParseMatrix.l1]) (Ev_neg (by omega) (Ev_pos (by omega) ?_))
    rw [List.take_length]; exact h
  | succ d ih =>
    intro j hd hj
    have hlt : j < ws.length := by omega
    refine Ev.step (fun k => by rw [spec_ParseMatrix.l1]) (Ev_pos (by omega) (Ev_pos (by omega) (Ev_pos (by omega) ?_)))
    rw [rdOf_at ws j hlt, wrap_succ (by omega)]
    refine Ev.bind (l1Read_ev ws[j] (hs _ (List.getElem_mem hlt))) (Ev_pos (by rw [List.length_map, List.length_take]; omega) ?_)
    have h1 := ih (j + 1) (by omega) (by omega)
    rw [List.take_succ_eq_append_getElem hlt, List.map_append] at h1
    exact h1
theorem specP_l0 (rows : List ByteArray) (hr : rows.length ≤ 1048577) (hs : ∀ x ∈ rows, x.size ≤ 1048576) : ∀ (d i : Nat), rows.length - i = d → i ≤ rows.length → Ev (fun k => spec_ParseMatrix.l0 k rows (rows.length : Int) (i : Int) ((rows.take i).map rowV)) (endS (rows.map rowV)) := by
  intro d
  induction d with
  | zero =>
    intro i hd hi
    obtain rfl : i = rows.length := by omega
    refine Ev.step (fun k => by rw [spec_ParseMatrix.l0]) (Ev_neg (by omega) ?_)
    rw [List.take_length]
    have hsm : Small (rows.map rowV) := by
      refine ⟨by rw [List.length_map]; omega, fun r hr2 => ?_⟩
      obtain ⟨x, hx, rfl⟩ := List.mem_map.1 hr2
      unfold rowV
      rw [List.length_map]
      have := cutB_len 44 x
      have := hs x hx
      omega
    refine Ev.bind (maGood_ev _ hsm) ?_
    unfold endS
    by_cases g : isMat (rows.map rowV)
    · rw [if_pos g]; exact Ev_pos (decide_eq_true g) (Ev_some rfl)
    · rw [if_neg g]; exact Ev_neg (by simpa using g) (Ev_some rfl)
  | succ d ih =>
    intro i hd hi
    have hlt : i < rows.length := by omega
    have hx := hs _ (List.getElem_mem hlt)
    refine Ev.step (fun k => by rw [spec_ParseMatrix.l0]) (Ev_pos (by omega) (Ev_pos (by omega) (Ev_pos (by omega) ?_)))
    rw [rdOf_at rows i hlt]
    refine Ev.bind (l1Split_ev rows[i] 44 hx) ?_
    have h1 := ih (i + 1) (by omega) (by omega)
    rw [List.take_succ_eq_append_getElem hlt, List.map_append] at h1
    have hl := cutB_len 44 rows[i]
    refine specP_l1 rows _ _ _ (cutB 44 rows[i]) (by omega) (fun x hx2 => by have := cutB_size 44 _ x hx2; omega) (by rw [List.length_map, List.length_take]; omega) _ ?_ _ 0 rfl (Nat.zero_le _)
    rw [wrap_succ (by omega)]
    exact h1
theorem specP_ev (s : ByteArray) (hs : s.size ≤ 1048576) : Ev (fun k => spec_ParseMatrix.f k s) (if s.toList = [] then ([], true) else endS (matV s)) := by
  unfold spec_ParseMatrix.f
  by_cases c : s.toList = []
  · rw [if_pos c]
    refine Ev_pos c (Ev.bind (maGood_ev [] ⟨by simp, by simp⟩) ?_)
    exact Ev_pos (by decide) (Ev_some rfl)
  · rw [if_neg c]
    refine Ev_neg c (Ev.bind (l1Split_ev s 47 hs) ?_)
    exact specP_l0 (cutB 47 s) (by have := cutB_len 47 s; omega) (fun x hx => by have := cutB_size 47 s x hx; omega) _ 0 rfl (Nat.zero_le _)
/-! The program's -/
def rowN (r : ByteArray) : List Int × Bool := impl_numbersOf.g (cutB 44 r)
def endI (s : ByteArray) (m : List (List Int)) : List (List Int) × Bool := if isMat m ∧ (matT m).toList = s.toList then (m, true) else ([], false)
theorem numbersOf_eq (r : ByteArray) (h : r.size ≤ 1048576) : impl_numbersOf.f r = some (rowN r) := by
  unfold impl_numbersOf.f strings_Split.f
  rw [if_pos ⟨h, Nat.le_refl 1⟩]
  show some (impl_numbersOf.g (strings_Split.v r ⟨#[44]⟩)) = _
  rw [split_cut]; rfl
theorem rowN_len (r : ByteArray) : (rowN r).1.length ≤ 12 := by
  unfold rowN impl_numbersOf.g
  by_cases c : 12 < (cutB 44 r).length
  · rw [if_pos c]; simp
  · rw [if_neg c]
    by_cases d : numsOk (cutB 44 r) = true
    · rw [if_pos d]; unfold numsW; rw [List.length_map]; omega
    · rw [if_neg d]; simp
theorem implP_l0 (s : ByteArray) (rows : List ByteArray) (hr : rows.length ≤ 12) (hs : ∀ x ∈ rows, x.size ≤ 1048576) : ∀ (d i : Nat), rows.length - i = d → i ≤ rows.length →
    Ev (fun k => impl_ParseMatrix.l0 k s rows (rows.length : Int) (i : Int) ((rows.take i).map fun r => (rowN r).1)) (if (rows.drop i).all (fun r => (rowN r).2) = true then endI s (rows.map fun r => (rowN r).1) else ([], false)) := by
  intro d
  induction d with
  | zero =>
    intro i hd hi
    obtain rfl : i = rows.length := by omega
    refine Ev.step (fun k => by rw [impl_ParseMatrix.l0]) (Ev_neg (by omega) ?_)
    rw [List.take_length, List.drop_length, List.all_nil, if_pos rfl]
    have hsm : Small (rows.map fun r => (rowN r).1) := by
      refine ⟨by rw [List.length_map]; omega, fun r hr2 => ?_⟩
      obtain ⟨x, hx, rfl⟩ := List.mem_map.1 hr2
      have := rowN_len x
      omega
    refine Ev.bind (implIsMatrix_ev _ hsm) ?_
    unfold endI
    by_cases g : isMat (rows.map fun r => (rowN r).1)
    · refine Ev_pos (decide_eq_true g) (Ev.bind (matrixText_ev _ g.1 (isMat_few g)) ?_)
      by_cases e : (matT (rows.map fun r => (rowN r).1)).toList = s.toList
      · exact Ev_eq (Ev_pos e (Ev_some rfl)) (if_pos ⟨g, e⟩).symm
      · exact Ev_eq (Ev_neg e (Ev_some rfl)) (if_neg (fun h => e h.2)).symm
    · exact Ev_eq (Ev_neg (by simpa using g) (Ev_some rfl)) (if_neg (fun h => g h.1)).symm
  | succ d ih =>
    intro i hd hi
    have hlt : i < rows.length := by omega
    have hx := hs _ (List.getElem_mem hlt)
    refine Ev.step (fun k => by rw [impl_ParseMatrix.l0]) (Ev_pos (by omega) (Ev_pos (by omega) (Ev_pos (by omega) ?_)))
    rw [rdOf_at rows i hlt]
    refine Ev_val (numbersOf_eq rows[i] hx) ?_
    rw [List.drop_eq_getElem_cons hlt, List.all_cons]
    by_cases c : (rowN rows[i]).2 = true
    · refine Ev_pos c (Ev_pos (by rw [List.length_map, List.length_take]; omega) ?_)
      rw [c, Bool.true_and, wrap_succ (by omega)]
      have h1 := ih (i + 1) (by omega) (by omega)
      rw [List.take_succ_eq_append_getElem hlt, List.map_append] at h1
      exact h1
    · have c2 : (rowN rows[i]).2 = false := by simpa using c
      rw [c2, Bool.false_and, if_neg Bool.false_ne_true]
      exact Ev_neg Bool.false_ne_true (Ev_some rfl)
def implRes (s : ByteArray) : List (List Int) × Bool := if (cutB 47 s).length ≤ 12 ∧ (cutB 47 s).all (fun r => (rowN r).2) = true then endI s ((cutB 47 s).map fun r => (rowN r).1) else ([], false)
theorem implP_ev (s : ByteArray) (hs : s.size ≤ 1048576) : Ev (fun k => impl_ParseMatrix.f k s) (if s.toList = [] then ([], true) else implRes s) := by
  unfold impl_ParseMatrix.f
  by_cases c : s.toList = []
  · rw [if_pos c]; exact Ev_pos c (Ev_some rfl)
  · rw [if_neg c]
    refine Ev_neg c ?_
    have hsp : strings_Split.f s (⟨#[47]⟩ : ByteArray) = some (cutB 47 s) := by
      unfold strings_Split.f
      rw [if_pos ⟨hs, Nat.le_refl 1⟩, split_cut]
    refine Ev_val hsp ?_
    unfold implRes
    by_cases g : (cutB 47 s).length ≤ 12
    · refine Ev_neg (by omega) ?_
      have h := implP_l0 s (cutB 47 s) g (fun x hx => by have := cutB_size 47 s x hx; omega) _ 0 rfl (Nat.zero_le _)
      refine Ev_eq h ?_
      rw [List.drop_zero]
      by_cases e : (cutB 47 s).all (fun r => (rowN r).2) = true
      · rw [if_pos e, if_pos ⟨g, e⟩]
      · rw [if_neg e, if_neg (fun h => e h.2)]
    · rw [if_neg (fun h => g h.1)]
      exact Ev_pos (by omega) (Ev_some rfl)
/-! Both alike -/
theorem few_nums {ws : List ByteArray} (h : ∀ x ∈ ws, 0 ≤ readV x ∧ readV x < 13) : numsOk ws = true ∧ numsW ws = ws.map readV ∧ (ws.map readV).map nm = ws := by
  have h1 : ∀ x ∈ ws, numV x = some (readV x) := fun x hx => by
    have e := readV_nm x (h x hx).1 (h x hx).2
    have := (nm_read (readV x) (h x hx).1 (h x hx).2).2.1
    rw [← e] at this
    exact this
  refine ⟨?_, ?_, ?_⟩
  · unfold numsOk
    rw [List.all_eq_true]
    intro x hx
    rw [h1 x hx]; rfl
  · unfold numsW
    apply List.map_congr_left
    intro x hx
    rw [h1 x hx]; rfl
  · rw [List.map_map]
    conv => rhs; rw [← List.map_id ws]
    apply List.map_congr_left
    intro x hx
    exact (readV_nm x (h x hx).1 (h x hx).2).symm
theorem rowN_few {r : ByteArray} (h : Few (rowV r)) : rowN r = (rowV r, true) ∧ rowT (rowV r) = r := by
  have hw : ∀ x ∈ cutB 44 r, 0 ≤ readV x ∧ readV x < 13 := fun x hx => h.2 _ (List.mem_map.2 ⟨x, hx, rfl⟩)
  obtain ⟨h1, h2, h3⟩ := few_nums hw
  have hl : (cutB 44 r).length ≤ 12 := by have := h.1; unfold rowV at this; rwa [List.length_map] at this
  refine ⟨?_, ?_⟩
  · unfold rowN impl_numbersOf.g
    rw [if_neg (by omega), if_pos h1, h2]; rfl
  · unfold rowT rowV
    rw [h3]
    exact TJ_cut 44 r
theorem join_mem (c : UInt8) : ∀ ws : List (List UInt8), ∀ b ∈ Go.Lib.join ws [c], b = c ∨ ∃ w ∈ ws, b ∈ w
  | [], b, h => by
    have : b ∈ ([] : List UInt8) := h
    simp at this
  | x :: r, b, h => by
    rw [Go.Lib.join_cons] at h
    rcases List.mem_append.1 h with h | h
    · exact .inr ⟨x, by simp, h⟩
    · unfold Go.Lib.joinTail at h
      obtain ⟨l, hl, hb⟩ := List.mem_flatten.1 h
      obtain ⟨w, hw, rfl⟩ := List.mem_map.1 hl
      rcases List.mem_append.1 hb with hb | hb
      · exact .inl (by simpa using hb)
      · exact .inr ⟨w, by simp [hw], hb⟩
theorem cutB_TJ (c : UInt8) (ws : List ByteArray) (hne : ws ≠ []) (h : ∀ w ∈ ws, ∀ b ∈ w.data.toList, b ≠ c) : cutB c (TJ ⟨#[c]⟩ ws) = ws := by
  apply map_inj_data
  rw [cutB_data, TJ_data]
  exact cut_join c _ (by simpa using hne) (fun w hw => by obtain ⟨x, hx, rfl⟩ := List.mem_map.1 hw; exact h x hx)
theorem rowT_back {r : List Int} (h : Few r) (hne : r ≠ []) : rowV (rowT r) = r ∧ ∀ b ∈ (rowT r).data.toList, b ≠ 47 := by
  have h1 : ∀ w ∈ r.map nm, ∀ b ∈ w.data.toList, b ≠ 44 ∧ b ≠ 47 := fun w hw => by
    obtain ⟨x, hx, rfl⟩ := List.mem_map.1 hw
    exact (nm_read x (h.2 x hx).1 (h.2 x hx).2).2.2
  refine ⟨?_, ?_⟩
  · unfold rowV rowT
    rw [show comma = ⟨#[44]⟩ from rfl, cutB_TJ 44 (r.map nm) (by simpa using hne) (fun w hw b hb => (h1 w hw b hb).1), List.map_map]
    conv => rhs; rw [← List.map_id r]
    apply List.map_congr_left
    intro x hx
    exact (nm_read x (h.2 x hx).1 (h.2 x hx).2).1
  · intro b hb
    unfold rowT at hb
    rw [TJ_data] at hb
    rcases join_mem 44 _ b hb with rfl | ⟨w, hw, hbw⟩
    · decide
    · obtain ⟨x, hx, rfl⟩ := List.mem_map.1 hw
      exact (h1 x hx b hbw).2
theorem isMat_row_ne {m : List (List Int)} (g : isMat m) : ∀ r ∈ m, r ≠ [] := by
  intro r hr e
  obtain ⟨i, hi, rfl⟩ := List.mem_iff_getElem.1 hr
  have h1 := (g.2.1 i hi).1
  rw [getD_lt _ _ _ hi, e] at h1
  simp only [List.length_nil] at h1
  omega
theorem toList_inj {a b : ByteArray} (h : a.toList = b.toList) : a = b := by
  rw [ByteArray.toList_eq, ByteArray.toList_eq] at h
  exact ba_ext h
theorem both (s : ByteArray) : endS (matV s) = implRes s := by
  by_cases g : isMat (matV s)
  · have hf := isMat_few g
    have hrow : ∀ r ∈ cutB 47 s, rowN r = (rowV r, true) ∧ rowT (rowV r) = r := fun r hr => rowN_few (hf _ (List.mem_map.2 ⟨r, hr, rfl⟩))
    have hl : (cutB 47 s).length ≤ 12 := by have := g.1; unfold matV at this; rwa [List.length_map] at this
    have hall : (cutB 47 s).all (fun r => (rowN r).2) = true := by
      rw [List.all_eq_true]
      intro r hr
      rw [(hrow r hr).1]
    have hm : ((cutB 47 s).map fun r => (rowN r).1) = matV s := by
      unfold matV
      apply List.map_congr_left
      intro r hr
      rw [(hrow r hr).1]
    have ht : matT (matV s) = s := by
      unfold matT matV
      rw [List.map_map]
      have : (cutB 47 s).map (rowT ∘ rowV) = cutB 47 s := by
        conv => rhs; rw [← List.map_id (cutB 47 s)]
        apply List.map_congr_left
        intro r hr
        exact (hrow r hr).2
      rw [this]
      exact TJ_cut 47 s
    unfold endS implRes endI
    rw [if_pos g, if_pos ⟨hl, hall⟩, hm, if_pos ⟨g, by rw [ht]⟩]
  · unfold endS implRes
    rw [if_neg g]
    by_cases c : (cutB 47 s).length ≤ 12 ∧ (cutB 47 s).all (fun r => (rowN r).2) = true
    · rw [if_pos c]
      unfold endI
      by_cases d : isMat ((cutB 47 s).map fun r => (rowN r).1) ∧ (matT ((cutB 47 s).map fun r => (rowN r).1)).toList = s.toList
      · exfalso
        obtain ⟨g2, e⟩ := d
        have es := toList_inj e
        revert g2 es
        generalize hm : ((cutB 47 s).map fun r => (rowN r).1) = m
        intro g2 es
        have hmne : m ≠ [] := by
          intro h0
          rw [h0] at hm
          exact cutB_ne 47 s (List.map_eq_nil_iff.1 hm)
        have hf := isMat_few g2
        have hr := isMat_row_ne g2
        have hP : cutB 47 s = m.map rowT := by
          rw [← es]
          unfold matT
          exact cutB_TJ 47 (m.map rowT) (by simpa using hmne) (fun w hw => by obtain ⟨r, hr1, rfl⟩ := List.mem_map.1 hw; exact (rowT_back (hf r hr1) (hr r hr1)).2)
        have hV : matV s = m := by
          unfold matV
          rw [hP, List.map_map]
          conv => rhs; rw [← List.map_id m]
          apply List.map_congr_left
          intro r hr1
          exact (rowT_back (hf r hr1) (hr r hr1)).1
        exact g (hV ▸ g2)
      · rw [if_neg d]
    · rw [if_neg c]
theorem endS_small (s : ByteArray) : (endS (matV s)).1.length ≤ 12 ∧ ∀ r ∈ (endS (matV s)).1, r.length ≤ 12 := by
  unfold endS
  by_cases g : isMat (matV s)
  · rw [if_pos g]
    exact ⟨g.1, fun r hr => (isMat_few g r hr).1⟩
  · rw [if_neg g]; exact ⟨by simp, by simp⟩
theorem FnExactParseMatrix : ∀ (a0 : ByteArray), Px.laws_FnExactParseMatrix.Plain a0 := by
  intro s hs
  have hS := specP_ev s hs
  have hI := implP_ev s hs
  rw [← both] at hI
  have hB : (if s.toList = [] then (([], true) : List (List Int) × Bool) else endS (matV s)).1.length ≤ 12 ∧ ∀ r ∈ (if s.toList = [] then (([], true) : List (List Int) × Bool) else endS (matV s)).1, r.length ≤ 12 := by
    by_cases c : s.toList = []
    · rw [if_pos c]; exact ⟨by simp, by simp⟩
    · rw [if_neg c]; exact endS_small s
  revert hS hI hB
  generalize (if s.toList = [] then (([], true) : List (List Int) × Bool) else endS (matV s)) = R
  obtain ⟨r, b⟩ := R
  intro hS hI hB
  have hB1 : r.length ≤ 12 := hB.1
  have hB2 : ∀ x ∈ r, x.length ≤ 12 := hB.2
  have ht : tot r ≤ 12 * 12 := Nat.le_trans (tot_le hB2) (Nat.mul_le_mul_right _ hB1)
  obtain ⟨k1, h1⟩ := hS
  obtain ⟨k2, h2⟩ := hI
  obtain ⟨k3, h3⟩ := eqMatrix_refl r (by omega) (fun x hx => by have := hB2 x hx; omega)
  obtain ⟨k6, h6⟩ := markMatrix_ev r (by omega) (by omega)
  obtain ⟨k7, h7⟩ := heldMatrix_ev r (by omega) (by omega)
  exact ⟨k1 + k2 + k3 + k6 + k7, r, b, _, _, h1 _ (by omega), h2 _ (by omega), h3 _ (by omega), h6 _ (by omega), by omega, h7 _ (by omega)⟩
end Go.Proofs.YtadflnoofnonoaaDoor.Pure
