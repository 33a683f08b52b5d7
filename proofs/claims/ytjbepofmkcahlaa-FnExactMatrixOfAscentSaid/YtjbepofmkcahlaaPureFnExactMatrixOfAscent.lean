/- MatrixOfAscent of the program and of the reference answer alike, for every list. -/
import Derived.Test.YtjbepofmkcahlaaWalkFnExactMatrixOfAscent
import Derived.Test.YtjbepofmkcahlaaXOpen
import Derived.Test.YtjbepofmkcahlaaWSized
namespace Go.Proofs.Ytjbepofmkcahlaa.PrintWords
open Go.RowKit
/-- The words' theorem, under the name by which the printed row calls it. -/
theorem sized_ints {H : Type} {enc : TypeId × Value → H} {P : Program} {W : World} {base : Nat} {spare : Nat → Bool} {held : Bool} {t e : TypeId} {k : IntKind} {a : Option Addr} {len cap : Nat} {d : DataW H} {ps : List MemPlace} {ts : List TypeId} {ds : List (DataW H)} {j : Nat}
    (g0 : (DataW.weightsEach P ts ds).all (· ≤ reachBytes) = true) (g1 : ts[j]? = some t) (g2 : ds[j]? = some d) (g3 : P.underlying t = some (.slice e)) (g4 : P.underlying e = some (.int k)) (g5 : P.cellsOf e = 1) {B : Nat} (g6 : P.bytesOf e = B)
    (g7 : DataW.Trod enc P W base spare held t (.slice a len cap) d ps) : len * B ≤ 140737488351232 := Go.Proofs.YtjbepofmkcahlaaW.PrintWords.sized_ints g0 g1 g2 g3 g4 g5 g6 g7
end Go.Proofs.Ytjbepofmkcahlaa.PrintWords
set_option linter.unusedVariables false
namespace Go.Proofs.Ytjbepofmkcahlaa.Pure
open Go.RowKit Go.Proofs.Ytjbepofmkcahlaa.M Go.Proofs.YtjbepofmkcahlaaW.PrintWords Go.Proofs.YtjbepofmkcahlaaW.PrintLast Go.Proofs.YtjbepofmkcahlaaW.PrintMore
section Prelude
theorem Ev_pos {α : Type} {c : Prop} [Decidable c] {f g : Nat → Option α} {r : α} (h : c) (k : Ev f r) : Ev (fun n => if c then f n else g n) r :=
  Ev.congr (fun _ => if_pos h) k
theorem Ev_neg {α : Type} {c : Prop} [Decidable c] {f g : Nat → Option α} {r : α} (h : ¬ c) (k : Ev g r) : Ev (fun n => if c then f n else g n) r :=
  Ev.congr (fun _ => if_neg h) k
theorem Ev_val {α β : Type} {g : Option α} {f : Nat → α → Option β} {a : α} {r : β} (h : g = some a) (k : Ev (fun n => f n a) r) : Ev (fun n => g.bind (f n)) r :=
  Ev.congr (fun _ => by rw [h]; rfl) k
theorem Ev_some {α : Type} {a r : α} (h : a = r) : Ev (fun _ => some a) r := ⟨0, fun _ _ => by rw [h]⟩
theorem Ev_eq {α : Type} {g : Nat → Option α} {a r : α} (h : Ev g a) (e : a = r) : Ev g r := e ▸ h
theorem wrap_small {x : Int} (h0 : -4611686018427387904 ≤ x) (h1 : x ≤ 4611686018427387904) : wrap64 x = x := by unfold wrap64; omega
theorem wrap_succ {i : Nat} (h : i ≤ 4611686018427387900) : wrap64 ((i : Int) + 1) = ((i + 1 : Nat) : Int) := by unfold wrap64; omega
theorem wrap_pred {i : Nat} (h : i ≤ 4611686018427387900) : wrap64 ((i + 1 : Nat) - 1 : Int) = (i : Int) := by unfold wrap64; omega
theorem rd_nat (xs : List Int) (i : Nat) : rd xs (i : Int) = xs.getD i 0 := by simp [rd]
theorem getD_lt {α : Type} (xs : List α) (i : Nat) (z : α) (h : i < xs.length) : xs.getD i z = xs[i] := by simp [List.getD_eq_getElem?_getD, h]
theorem wf_range {x : Int} (h : (Lit.int .i64 x).wf = true) : -9223372036854775808 ≤ x ∧ x ≤ 9223372036854775807 := by
  simp [Lit.wf] at h
  exact h
theorem ext_getD {xs ys : List Int} (hl : xs.length = ys.length) (h : ∀ i, i < xs.length → xs.getD i 0 = ys.getD i 0) : xs = ys := by
  apply List.ext_getElem hl
  intro i h1 h2
  have := h i h1
  rwa [getD_lt _ _ _ h1, getD_lt _ _ _ h2] at this
theorem dec_eq {a b : Prop} [Decidable a] [Decidable b] (h : a ↔ b) : decide a = decide b := by simp [h]
/-- The rounds i, .., n - 1 of a loop. -/
def foldFrom {σ : Type} (n : Nat) (step : σ → Nat → σ) (s : σ) (i : Nat) : σ := (List.range' i (n - i)).foldl step s
theorem foldFrom_lt {σ : Type} {n : Nat} {step : σ → Nat → σ} {s : σ} {i : Nat} (h : i < n) : foldFrom n step s i = foldFrom n step (step s i) (i + 1) := by
  unfold foldFrom
  rw [show n - i = (n - (i + 1)) + 1 from by omega, List.range'_succ, List.foldl_cons]
theorem foldFrom_ge {σ : Type} {n : Nat} {step : σ → Nat → σ} {s : σ} {i : Nat} (h : n ≤ i) : foldFrom n step s i = s := by
  unfold foldFrom
  rw [show n - i = 0 from by omega]; rfl
/-- A loop that counts up to n: what a round does to the state, what holds of it, and what the end makes of it. -/
theorem Ev_for {σ ρ : Type} {l : Nat → σ → Nat → Option ρ} (n : Nat) (step : σ → Nat → σ) (fin : σ → ρ) (Inv : σ → Nat → Prop)
    (hinv : ∀ i s, i < n → Inv s i → Inv (step s i) (i + 1))
    (hstep : ∀ i s, i < n → Inv s i → ∀ r, Ev (fun k => l k (step s i) (i + 1)) r → Ev (fun k => l k s i) r)
    (hend : ∀ s, Inv s n → Ev (fun k => l k s n) (fin s)) :
    ∀ i s, i ≤ n → Inv s i → Ev (fun k => l k s i) (fin (foldFrom n step s i)) ∧ Inv (foldFrom n step s i) n := by
  have main : ∀ d i s, n - i = d → i ≤ n → Inv s i → Ev (fun k => l k s i) (fin (foldFrom n step s i)) ∧ Inv (foldFrom n step s i) n := by
    intro d
    induction d with
    | zero =>
      intro i s hd hi h
      obtain rfl : i = n := by omega
      rw [foldFrom_ge (Nat.le_refl _)]
      exact ⟨hend s h, h⟩
    | succ d ih =>
      intro i s hd hi h
      rw [foldFrom_lt (by omega)]
      obtain ⟨h1, h2⟩ := ih (i + 1) (step s i) (by omega) (by omega) (hinv i s (by omega) h)
      exact ⟨hstep i s (by omega) h _ h1, h2⟩
  exact fun i s hi h => main _ i s rfl hi h
/-- A loop that asks each round, and ends with 'no' at the first round that says no. -/
theorem Ev_all (l : Nat → Nat → Option Bool) (n : Nat) (P : Nat → Bool) (r : Bool)
    (hgo : ∀ i, i < n → (∀ j, j < i → P j = true) → P i = true → ∀ q, Ev (fun k => l k (i + 1)) q → Ev (fun k => l k i) q)
    (hno : ∀ i, i < n → (∀ j, j < i → P j = true) → P i = false → Ev (fun k => l k i) false)
    (hend : (∀ j, j < n → P j = true) → Ev (fun k => l k n) r) : Ev (fun k => l k 0) (decide (∀ j, j < n → P j = true) && r) := by
  have main : ∀ d i, n - i = d → i ≤ n → (∀ j, j < i → P j = true) → Ev (fun k => l k i) (decide (∀ j, j < n → P j = true) && r) := by
    intro d
    induction d with
    | zero =>
      intro i hd hi h
      obtain rfl : i = n := by omega
      rw [decide_eq_true h, Bool.true_and]
      exact hend h
    | succ d ih =>
      intro i hd hi h
      by_cases c : P i = true
      · refine hgo i (by omega) h c _ (ih (i + 1) (by omega) (by omega) (fun j hj => ?_))
        by_cases e : j = i
        · rw [e]; exact c
        · exact h j (by omega)
      · refine Ev_eq (hno i (by omega) h (by simpa using c)) ?_
        rw [decide_eq_false (fun hh => c (hh i (by omega))), Bool.false_and]
  exact main _ 0 rfl (by omega) (fun j hj => by omega)
end Prelude
theorem rdL_nat (xs : List (List Int)) (i : Nat) : rd_L1 xs (i : Int) = xs.getD i [] := by unfold rd_L1; rw [Int.toNat_natCast]
theorem getD_mem {α : Type} {xs : List α} {i : Nat} {z : α} (h : i < xs.length) : xs.getD i z ∈ xs := by rw [getD_lt _ _ _ h]; exact List.getElem_mem h
theorem ext_getL {xs ys : List (List Int)} (hl : xs.length = ys.length) (h : ∀ i, i < xs.length → xs.getD i [] = ys.getD i []) : xs = ys := by
  apply List.ext_getElem hl
  intro i h1 h2
  have := h i h1
  rwa [getD_lt _ _ _ h1, getD_lt _ _ _ h2] at this
def Small (l : List (List Int)) : Prop := l.length ≤ 1048576 ∧ ∀ r ∈ l, r.length ≤ 1048576
theorem toIntS_l0 (l : List Int) (hl : l.length ≤ 1048576) : ∀ (d i : Nat) (ys : List Int), l.length - i = d → ys.length = l.length → (∀ j, j < i → ys.getD j 0 = l.getD j 0) →
    Ev (fun k => laws_toIntS.l0 k l ys (i : Int)) l := by
  intro d
  induction d with
  | zero =>
    intro i ys hd hy h
    refine Ev.step (fun k => by rw [laws_toIntS.l0]) ?_
    exact Ev_neg (by omega) (Ev_some (ext_getD hy (fun j hj => h j (by omega))))
  | succ d ih =>
    intro i ys hd hy h
    refine Ev.step (fun k => by rw [laws_toIntS.l0]) ?_
    refine Ev_pos (by omega) (Ev_pos (by omega) (Ev_pos (by omega) ?_))
    rw [wrap_succ (by omega)]
    refine ih (i + 1) _ (by omega) (by rw [List.length_set]; exact hy) ?_
    intro j hj
    rw [Int.toNat_natCast, rd_nat]
    by_cases e : j = i
    · subst e; rw [getD_lt _ _ _ (by rw [List.length_set]; omega)]; simp
    · rw [← h j (by omega)]; simp only [List.getD_eq_getElem?_getD]; rw [List.getElem?_set_ne (by omega)]
theorem toIntS_ev (l : List Int) (hl : l.length ≤ 1048576) : Ev (fun k => laws_toIntS.f k l) l := by
  unfold laws_toIntS.f
  refine Ev_pos (by omega) (Ev_pos (by omega) ?_)
  exact toIntS_l0 l hl _ 0 _ rfl (by simp) (fun j hj => by omega)
theorem eqIntS_l0 (a b : List Int) (hl : a.length = b.length) (hs : a.length ≤ 4611686018427387000) : ∀ (d i : Nat), a.length - i = d → i ≤ a.length → Ev (fun k => laws_eqIntS.l0 k a b (i : Int)) (decide (a.drop i = b.drop i)) := by
  intro d
  induction d with
  | zero =>
    intro i hd hi
    refine Ev.step (fun k => by rw [laws_eqIntS.l0]) ?_
    refine Ev_neg (by omega) (Ev_some ?_)
    rw [List.drop_eq_nil_of_le (by omega), List.drop_eq_nil_of_le (by omega)]; rfl
  | succ d ih =>
    intro i hd hi
    refine Ev.step (fun k => by rw [laws_eqIntS.l0]) ?_
    refine Ev_pos (by omega) (Ev_pos (by omega) (Ev_pos (by omega) ?_))
    rw [rd_nat, rd_nat, getD_lt _ _ _ (by omega), getD_lt _ _ _ (by omega), wrap_succ (by omega), List.drop_eq_getElem_cons (show i < a.length by omega), List.drop_eq_getElem_cons (show i < b.length by omega)]
    by_cases e : a[i] = b[i]'(by omega)
    · refine Ev_pos e (Ev_eq (ih (i + 1) (by omega) (by omega)) ?_)
      exact dec_eq (by rw [e, List.cons.injEq]; exact ⟨fun h => ⟨rfl, h⟩, fun h => h.2⟩)
    · refine Ev_neg e (Ev_some ?_)
      symm; rw [decide_eq_false_iff_not, List.cons.injEq]
      exact fun h => e h.1
theorem eqIntS_ev (a b : List Int) (hs : a.length ≤ 4611686018427387000) : Ev (fun k => laws_eqIntS.f k a b) (decide (a = b)) := by
  unfold laws_eqIntS.f
  by_cases hl : a.length = b.length
  · exact Ev_pos (by omega) (eqIntS_l0 a b hl hs _ 0 rfl (by omega))
  · refine Ev_neg (by omega) (Ev_some ?_)
    rw [eq_comm, decide_eq_false_iff_not]; intro e; exact hl (by rw [e])
theorem eqIntS_refl (a : List Int) (hs : a.length ≤ 4611686018427387000) : Ev (fun k => laws_eqIntS.f k a a) true := Ev_eq (eqIntS_ev a a hs) (by simp)
def marks (a : Int) (n : Nat) : List Int := (List.range n).map fun (j : Nat) => a + (j : Int)
theorem marks_length (a : Int) (n : Nat) : (marks a n).length = n := by simp [marks]
theorem marks_getD (a : Int) (n j : Nat) (h : j < n) : (marks a n).getD j 0 = a + (j : Int) := by
  rw [getD_lt _ _ _ (by rw [marks_length]; exact h)]; simp [marks]
theorem markIntS_l0 (a : Int) (n : Nat) (ha : 0 ≤ a) (han : a + n ≤ 4611686018427387000) : ∀ (d i : Nat) (xs : List Int), n - i = d → i ≤ n → xs.length = n → (∀ j, j < i → xs.getD j 0 = a + (j : Int)) →
    Ev (fun k => laws_markIntS.l0 k xs (a + (i : Int)) (i : Int)) (a + (n : Int), marks a n) := by
  intro d
  induction d with
  | zero =>
    intro i xs hd hi hx h
    obtain rfl : i = n := by omega
    refine Ev.step (fun k => by rw [laws_markIntS.l0]) ?_
    refine Ev_neg (by omega) (Ev_some ?_)
    rw [ext_getD (xs := xs) (ys := marks a i) (by rw [marks_length]; exact hx) (fun j hj => by rw [h j (by omega), marks_getD _ _ _ (by omega)])]
  | succ d ih =>
    intro i xs hd hi hx h
    refine Ev.step (fun k => by rw [laws_markIntS.l0]) ?_
    refine Ev_pos (by omega) (Ev_pos (by omega) ?_)
    rw [wrap_succ (by omega), wrap_small (x := a + (i : Int) + 1) (by omega) (by omega), show a + (i : Int) + 1 = a + ((i + 1 : Nat) : Int) from by omega]
    refine ih (i + 1) _ (by omega) (by omega) (by rw [List.length_set]; exact hx) ?_
    intro j hj
    rw [Int.toNat_natCast]
    by_cases e : j = i
    · subst e; rw [getD_lt _ _ _ (by rw [List.length_set]; omega)]; simp
    · rw [← h j (by omega)]; simp only [List.getD_eq_getElem?_getD]; rw [List.getElem?_set_ne (by omega)]
theorem markIntS_ev (xs : List Int) (a : Int) (ha : 0 ≤ a) (han : a + xs.length ≤ 4611686018427387000) : Ev (fun k => laws_markIntS.f k xs a) (a + (xs.length : Int), marks a xs.length) := by
  unfold laws_markIntS.f
  have := markIntS_l0 a xs.length ha han _ 0 xs rfl (by omega) rfl (fun j hj => by omega)
  simpa using this
theorem heldIntS_l0 (a : Int) (n : Nat) (ha : 0 ≤ a) (han : a + n ≤ 4611686018427387000) : ∀ (d i : Nat), n - i = d → i ≤ n → Ev (fun k => laws_heldIntS.l0 k (marks a n) (a + (i : Int)) (i : Int)) (a + (n : Int)) := by
  intro d
  induction d with
  | zero =>
    intro i hd hi
    obtain rfl : i = n := by omega
    refine Ev.step (fun k => by rw [laws_heldIntS.l0]) ?_
    exact Ev_neg (by rw [marks_length]; omega) (Ev_some rfl)
  | succ d ih =>
    intro i hd hi
    refine Ev.step (fun k => by rw [laws_heldIntS.l0]) ?_
    refine Ev_pos (by rw [marks_length]; omega) (Ev_pos (by omega) (Ev_pos (by rw [rd_nat, marks_getD _ _ _ (by omega)]) ?_))
    rw [wrap_succ (by omega), wrap_small (x := a + (i : Int) + 1) (by omega) (by omega), show a + (i : Int) + 1 = a + ((i + 1 : Nat) : Int) from by omega]
    exact ih (i + 1) (by omega) (by omega)
theorem heldIntS_ev (a : Int) (n : Nat) (ha : 0 ≤ a) (han : a + n ≤ 4611686018427387000) : Ev (fun k => laws_heldIntS.f k (marks a n) a) (a + (n : Int)) := by
  unfold laws_heldIntS.f
  have := heldIntS_l0 a n ha han _ 0 rfl (by omega)
  simpa using this
theorem eqIntSS_refl (l : List (List Int)) (hl : l.length ≤ 4611686018427387000) (hr : ∀ r ∈ l, r.length ≤ 4611686018427387000) : Ev (fun k => laws_eqIntSS.f k l l) true := by
  unfold laws_eqIntSS.f
  refine Ev_pos rfl ?_
  refine (Ev_for (l := fun k (_ : Unit) i => laws_eqIntSS.l0 k l l (i : Int)) l.length (fun s _ => s) (fun _ => true) (fun _ _ => True) (fun _ _ _ _ => trivial) ?_ ?_ 0 () (by omega) trivial).1
  · intro i s hi _ r hr'
    refine Ev.step (fun k => by rw [laws_eqIntSS.l0]) ?_
    rw [rdL_nat, wrap_succ (by omega)]
    exact Ev_pos (by omega) (Ev_pos (by omega) (Ev_pos (by omega) (Ev.bind (eqIntS_refl _ (hr _ (getD_mem hi))) (Ev_pos rfl hr'))))
  · intro s _
    refine Ev.step (fun k => by rw [laws_eqIntSS.l0]) ?_
    exact Ev_neg (by omega) (Ev_some rfl)
theorem eqMatrix_refl (l : List (List Int)) (hl : l.length ≤ 4611686018427387000) (hr : ∀ r ∈ l, r.length ≤ 4611686018427387000) : Ev (fun k => laws_eqMatrix.f k l l) true := by
  unfold laws_eqMatrix.f
  exact Ev.bind (eqIntSS_refl l hl hr) (Ev_pos rfl (Ev_some rfl))
theorem eqMatrix_small (l : List (List Int)) (hs : Small l) : Ev (fun k => laws_eqMatrix.f k l l) true := eqMatrix_refl l (by have := hs.1; omega) (fun r hr => by have := hs.2 r hr; omega)
def tot : List (List Int) → Nat
  | [] => 0
  | r :: rs => r.length + tot rs
def marksSS (a : Int) : List (List Int) → List (List Int)
  | [] => []
  | r :: rs => marks a r.length :: marksSS (a + r.length) rs
theorem rdL_mid (pre : List (List Int)) (r : List Int) (rs : List (List Int)) : rd_L1 (pre ++ r :: rs) (pre.length : Int) = r := by
  rw [rdL_nat, getD_lt _ _ _ (by simp)]; simp
theorem markIntSS_l0 : ∀ (rest pre : List (List Int)) (a : Int), 0 ≤ a → a + tot rest ≤ 4611686018427387000 → (pre.length : Int) + rest.length ≤ 4611686018427387000 → Ev (fun k => laws_markIntSS.l0 k (pre ++ rest) a (pre.length : Int)) (a + tot rest, pre ++ marksSS a rest) := by
  intro rest
  induction rest with
  | nil =>
    intro pre a _ _ _
    refine Ev.step (fun k => by rw [laws_markIntSS.l0]) ?_
    exact Ev_neg (by simp) (Ev_some (by simp [tot, marksSS]))
  | cons r rs ih =>
    intro pre a ha hb hl
    simp only [tot, List.length_cons] at hb hl
    refine Ev.step (fun k => by rw [laws_markIntSS.l0]) ?_
    refine Ev_pos (by simp only [List.length_append, List.length_cons]; omega) (Ev_pos (by omega) ?_)
    rw [rdL_mid, wrap_succ (by omega), Int.toNat_natCast]
    refine Ev.bind (markIntS_ev r a ha (by omega)) ?_
    have := ih (pre ++ [marks a r.length]) (a + r.length) (by omega) (by omega) (by simp only [List.length_append, List.length_cons, List.length_nil]; omega)
    simp only [List.length_append, List.length_cons, List.length_nil, List.append_assoc, List.cons_append, List.nil_append] at this
    simp only [tot, marksSS, List.set_append, Nat.sub_self, List.set_cons_zero, Nat.lt_irrefl, if_false]
    refine Ev_eq this ?_
    rw [show a + (r.length : Int) + (tot rs : Int) = a + ((r.length + tot rs : Nat) : Int) from by omega]
theorem markMatrix_ev (m : List (List Int)) (hb : tot m ≤ 4611686018427380000) (hl : m.length ≤ 4611686018427380000) : Ev (fun k => laws_markMatrix.f k m 1) (1 + (tot m : Int), marksSS 1 m) := by
  have := markIntSS_l0 m [] 1 (by omega) (by omega) (by simp; omega)
  simpa [laws_markMatrix.f, laws_markIntSS.f] using this
theorem tot_le {m : List (List Int)} {c : Nat} (h : ∀ r ∈ m, r.length ≤ c) : tot m ≤ m.length * c := by
  induction m with
  | nil => simp [tot]
  | cons r rs ih =>
    have h1 := h r (by simp)
    have h2 := ih (fun r hr => h r (by simp [hr]))
    simp only [tot, List.length_cons, Nat.succ_mul]; omega
theorem heldIntSS_l0 : ∀ (rest pre : List (List Int)) (a : Int), 0 ≤ a → a + tot rest ≤ 4611686018427387000 → (pre.length : Int) + rest.length ≤ 4611686018427387000 → Ev (fun k => laws_heldIntSS.l0 k (pre ++ marksSS a rest) a (pre.length : Int)) (a + tot rest) := by
  intro rest
  induction rest with
  | nil =>
    intro pre a _ _ _
    refine Ev.step (fun k => by rw [laws_heldIntSS.l0]) ?_
    exact Ev_neg (by simp [marksSS]) (Ev_some (by simp [tot]))
  | cons r rs ih =>
    intro pre a ha hb hl
    simp only [tot, List.length_cons] at hb hl
    refine Ev.step (fun k => by rw [laws_heldIntSS.l0]) ?_
    simp only [marksSS]
    refine Ev_pos (by simp only [List.length_append, List.length_cons]; omega) (Ev_pos (by omega) ?_)
    rw [rdL_mid, wrap_succ (by omega)]
    refine Ev.bind (heldIntS_ev a r.length ha (by omega)) (Ev_neg (by omega) ?_)
    have := ih (pre ++ [marks a r.length]) (a + r.length) (by omega) (by omega) (by simp only [List.length_append, List.length_cons, List.length_nil]; omega)
    simp only [List.length_append, List.length_cons, List.length_nil, List.append_assoc, List.cons_append, List.nil_append] at this
    refine Ev_eq this ?_
    simp only [tot]; omega
theorem heldMatrix_ev (m : List (List Int)) (hb : tot m ≤ 4611686018427380000) (hl : m.length ≤ 4611686018427380000) : Ev (fun k => laws_heldMatrix.f k (marksSS 1 m) 1) (1 + (tot m : Int)) := by
  have := heldIntSS_l0 m [] 1 (by omega) (by omega) (by simp; omega)
  unfold laws_heldMatrix.f
  refine Ev.bind (by simpa [laws_heldIntSS.f] using this) ?_
  exact Ev_neg (by omega) (Ev_some rfl)
/-- The sum of f 0, .., f (n - 1). -/
def sumZ : Nat → (Nat → Int) → Int
  | 0, _ => 0
  | n + 1, f => sumZ n f + f n
theorem sumZ_congr {n : Nat} {f g : Nat → Int} (h : ∀ i, i < n → f i = g i) : sumZ n f = sumZ n g := by
  induction n with
  | zero => rfl
  | succ n ih => rw [sumZ, sumZ, ih (fun i hi => h i (by omega)), h n (by omega)]
theorem sumZ_bound {n : Nat} {f : Nat → Int} {B : Int} (hB : 0 ≤ B) (h : ∀ i, i < n → 0 ≤ f i ∧ f i ≤ B) : 0 ≤ sumZ n f ∧ sumZ n f ≤ n * B := by
  induction n with
  | zero => simp [sumZ]
  | succ n ih =>
    have h1 := ih (fun i hi => h i (by omega))
    have h2 := h n (by omega)
    rw [sumZ, show ((n + 1 : Nat) : Int) * B = n * B + B from by rw [Int.natCast_add, Int.add_mul]; simp]
    omega
theorem sumZ_nonneg {n : Nat} {f : Nat → Int} (h : ∀ i, i < n → 0 ≤ f i) : 0 ≤ sumZ n f := by
  induction n with
  | zero => simp [sumZ]
  | succ n ih => have := ih (fun i hi => h i (by omega)); have := h n (by omega); rw [sumZ]; omega
theorem sumZ_mono {n m : Nat} {f : Nat → Int} (hnm : n ≤ m) (h : ∀ i, i < m → 0 ≤ f i) : sumZ n f ≤ sumZ m f := by
  induction m with
  | zero => obtain rfl : n = 0 := by omega
            exact Int.le_refl _
  | succ m ih =>
    by_cases e : n = m + 1
    · rw [e]; exact Int.le_refl _
    · have := ih (by omega) (fun i hi => h i (by omega)); have := h m (by omega); rw [sumZ]; omega
theorem sumZ_term {n : Nat} {f : Nat → Int} (h : ∀ i, i < n → 0 ≤ f i) {i : Nat} (hi : i < n) : f i ≤ sumZ n f := by
  induction n with
  | zero => omega
  | succ n ih =>
    have h0 := sumZ_nonneg (n := n) (fun j hj => h j (by omega))
    rw [sumZ]
    by_cases e : i = n
    · rw [e]; omega
    · have := ih (fun j hj => h j (by omega)) (by omega); have := h n (by omega); omega
theorem sumZ_zero {n : Nat} {f : Nat → Int} (h : ∀ i, i < n → 0 ≤ f i) : sumZ n f = 0 ↔ ∀ i, i < n → f i = 0 := by
  refine ⟨fun h0 i hi => ?_, fun h0 => ?_⟩
  · have := sumZ_term h hi; have := h i hi; omega
  · rw [sumZ_congr (g := fun _ => 0) h0]
    clear h h0
    induction n with
    | zero => rfl
    | succ n ih => rw [sumZ, ih]; rfl
theorem sumZ_add (n : Nat) (f g : Nat → Int) : sumZ n (fun i => f i + g i) = sumZ n f + sumZ n g := by
  induction n with
  | zero => rfl
  | succ n ih => simp only [sumZ, ih]; omega
theorem sumZ_swap (n m : Nat) (f : Nat → Nat → Int) : sumZ n (fun i => sumZ m (fun j => f i j)) = sumZ m (fun j => sumZ n (fun i => f i j)) := by
  induction n with
  | zero =>
    exact ((sumZ_zero (n := m) (f := fun j => sumZ 0 fun i => f i j) (fun _ _ => Int.le_refl _)).2 (fun _ _ => rfl)).symm
  | succ n ih =>
    rw [sumZ, ih, ← sumZ_add]
    exact sumZ_congr (fun j _ => rfl)
/-- The number in row i and column j. -/
def en (m : List (List Int)) (i j : Nat) : Int := (m.getD i []).getD j 0
def Cells (m : List (List Int)) : Prop := ∀ i, i < m.length → (m.getD i []).length = m.length ∧ ∀ j, j < m.length → 0 ≤ en m i j ∧ en m i j ≤ 12 ∧ (j < i → en m i j = 0)
def rowZ (m : List (List Int)) (i : Nat) : Int := sumZ m.length (fun j => en m i j)
def colZ (m : List (List Int)) (j : Nat) : Int := sumZ m.length (fun i => en m i j)
def allZ (m : List (List Int)) : Int := sumZ m.length (fun i => rowZ m i)
def isMat (m : List (List Int)) : Prop := m.length ≤ 12 ∧ Cells m ∧ (∀ i, i < m.length → rowZ m i ≠ 0) ∧ (∀ j, j < m.length → colZ m j ≠ 0) ∧ allZ m ≤ 12
instance (m : List (List Int)) : Decidable (Cells m) := inferInstanceAs (Decidable (∀ i, i < m.length → _))
instance (m : List (List Int)) : Decidable (isMat m) := inferInstanceAs (Decidable (_ ∧ _))
theorem Cells.row {m : List (List Int)} (h : Cells m) {i : Nat} (hi : i < m.length) : 0 ≤ rowZ m i ∧ rowZ m i ≤ m.length * 12 := sumZ_bound (by decide) (fun j hj => ⟨((h i hi).2 j hj).1, ((h i hi).2 j hj).2.1⟩)
theorem Cells.nn {m : List (List Int)} (h : Cells m) {i j : Nat} (hi : i < m.length) (hj : j < m.length) : 0 ≤ en m i j := ((h i hi).2 j hj).1
theorem Cells.le {m : List (List Int)} (h : Cells m) {i j : Nat} (hi : i < m.length) (hj : j < m.length) : en m i j ≤ 12 := ((h i hi).2 j hj).2.1
def rowsL (m : List (List Int)) : List Int := (List.range m.length).map fun (i : Nat) => rowZ m i
def colsL (m : List (List Int)) : List Int := (List.range m.length).map fun (j : Nat) => colZ m j
theorem mapR_length (n : Nat) (f : Nat → Int) : ((List.range n).map f).length = n := by simp
theorem mapR_getD (n : Nat) (f : Nat → Int) {i : Nat} (h : i < n) : ((List.range n).map f).getD i 0 = f i := by rw [getD_lt _ _ _ (by simpa using h)]; simp
/-- A square of numbers that are not below nought. -/
def Sq (m : List (List Int)) : Prop := ∀ i, i < m.length → (m.getD i []).length = m.length ∧ ∀ j, j < m.length → 0 ≤ en m i j
theorem Sq.nn {m : List (List Int)} (h : Sq m) {i j : Nat} (hi : i < m.length) (hj : j < m.length) : 0 ≤ en m i j := (h i hi).2 j hj
/-- Rows as long as there are rows, numbers between nought and B. -/
def Bd (B : Int) (m : List (List Int)) : Prop := ∀ r ∈ m, r.length = m.length ∧ ∀ v ∈ r, 0 ≤ v ∧ v ≤ B
theorem Bd.sq {B : Int} {m : List (List Int)} (h : Bd B m) : Sq m := fun i hi => by
  have h1 := h _ (getD_mem (z := []) hi)
  exact ⟨h1.1, fun j hj => (h1.2 _ (getD_mem (z := 0) (by rw [h1.1]; exact hj))).1⟩
/-- From row i on, n rows: the first one whose number in the last column is not 0. -/
def seekTop (m : List (List Int)) : Nat → Nat → Int
  | 0, _ => -1
  | n + 1, i => if en m i (m.length - 1) ≠ 0 then (i : Int) else seekTop m n (i + 1)
def topI (m : List (List Int)) : Int := seekTop m m.length 0
theorem maTop_ev (m : List (List Int)) (hd : m.length ≤ 12) (h : Sq m) : Ev (fun k => spec_maTop.f k m) (topI m) := by
  unfold spec_maTop.f topI
  have main : ∀ (n i : Nat), m.length - i = n → i ≤ m.length → Ev (fun k => spec_maTop.l0 k m (m.length : Int) (i : Int)) (seekTop m n i) := by
    intro n
    induction n with
    | zero =>
      intro i hn hi
      exact Ev.step (fun _ => rfl) (Ev_neg (by omega) (Ev_some rfl))
    | succ n ih =>
      intro i hn hi
      have hl := (h i (by omega)).1
      have h0 := h.nn (show i < m.length by omega) (show m.length - 1 < m.length by omega)
      refine Ev.step (fun k => by rw [spec_maTop.l0]) (Ev_pos (by omega) (Ev_pos (by omega) (Ev_pos (by omega) ?_)))
      rw [rdL_nat, hl, show (m.length : Int) - 1 = ((m.length - 1 : Nat) : Int) from by omega, wrap_small (by omega) (by omega), rd_nat, wrap_succ (by omega)]
      refine Ev_pos (by omega) (Ev_pos (by omega) ?_)
      rw [seekTop]
      by_cases c : en m i (m.length - 1) ≠ 0
      · rw [if_pos c]; exact Ev_pos (by simp only [en] at c h0; omega) (Ev_some rfl)
      · rw [if_neg c]; exact Ev_neg (by simp only [en] at c h0; omega) (ih (i + 1) (by omega) (by omega))
  exact main _ 0 rfl (by omega)
theorem top_eq (m : List (List Int)) (hd : m.length ≤ 12) (h : Sq m) : impl_Matrix_top.f m = some (topI m) := by
  unfold impl_Matrix_top.f slices_IndexFunc_int_int.f topI
  have main : ∀ (n i : Nat), m.length - i = n → i ≤ m.length → slices_IndexFunc_int_int.seek (m.drop i) (i : Int) = some (seekTop m n i) := by
    intro n
    induction n with
    | zero =>
      intro i hn hi
      rw [List.drop_eq_nil_of_le (by omega)]; rfl
    | succ n ih =>
      intro i hn hi
      have hl := (h i (by omega)).1
      have e := getD_lt m i [] (by omega)
      rw [List.drop_eq_getElem_cons (by omega), slices_IndexFunc_int_int.seek, ← e]
      unfold impl_Matrix_top_1.f
      rw [hl, show (m.length : Int) - 1 = ((m.length - 1 : Nat) : Int) from by omega, wrap_small (by omega) (by omega), rd_nat, if_pos (by omega), if_pos (by omega), Option.bind_some, seekTop]
      by_cases c : en m i (m.length - 1) ≠ 0
      · rw [if_pos c, if_pos (by simpa [en] using c)]
      · rw [if_neg c, if_neg (by simpa [en] using c)]
        exact ih (i + 1) (by omega) (by omega)
  have := main _ 0 rfl (by omega)
  rw [List.drop_zero] at this
  rw [show ((0 : Nat) : Int) = 0 from rfl] at this
  rw [this]; rfl
theorem own_ev (m : List (List Int)) (hs : Small m) : Ev (fun k => impl_Matrix_own.f k m) m := by
  unfold impl_Matrix_own.f
  have hl := hs.1
  have main : ∀ (d i : Nat), m.length - i = d → i ≤ m.length → Ev (fun k => impl_Matrix_own.l0 k m (m.length : Int) (i : Int) (m.take i)) m := by
    intro d
    induction d with
    | zero =>
      intro i hd hi
      obtain rfl : i = m.length := by omega
      exact Ev.step (fun _ => rfl) (Ev_neg (by omega) (Ev_some (by simp)))
    | succ d ih =>
      intro i hd hi
      have hi' : i < m.length := by omega
      refine Ev.step (fun _ => rfl) (Ev_pos (by omega) (Ev_pos (by omega) (Ev_pos (by omega) ?_)))
      rw [rdL_nat, wrap_succ (by omega)]
      have hr := hs.2 _ (getD_mem (z := []) hi')
      refine Ev_val (show slices_Clone_int_int.f (m.getD i []) = some (m.getD i []) from if_pos (by omega)) (Ev_pos (by rw [List.length_take]; omega) ?_)
      have := ih (i + 1) (by omega) (by omega)
      rw [List.take_succ_eq_append_getElem hi', ← getD_lt m i [] hi'] at this
      exact this
  have := main _ 0 rfl (by omega)
  simpa using this
theorem insertIdx_cut {β : Type} : ∀ (l : List β) (x : Nat) (z : β), x ≤ l.length → l.insertIdx x z = l.take x ++ [z] ++ l.drop x
  | _, 0, _, _ => by simp
  | [], _ + 1, _, h => by simp at h
  | a :: l, x + 1, z, h => by
    rw [List.insertIdx_succ_cons, insertIdx_cut l x z (by simp at h; omega)]; simp
theorem insGet {β : Type} (xs : List β) (i j : Nat) (x : β) (hi : i ≤ xs.length) : (xs.insertIdx i x)[j]? = if j < i then xs[j]? else if j = i then some x else xs[j - 1]? := by
  rw [List.getElem?_insertIdx]
  by_cases c : j < i
  · rw [if_pos c, if_pos c]
  · rw [if_neg c, if_neg c]
    by_cases c2 : j = i
    · rw [if_pos c2, if_pos c2, if_pos (by omega)]
    · rw [if_neg c2, if_neg c2]
theorem get?_lt {α : Type} (xs : List α) (i : Nat) (z : α) (h : i < xs.length) : xs[i]? = some (xs.getD i z) := by rw [getD_lt xs i z h, List.getElem?_eq_getElem h]
/-- Row i of a matrix of d rows, grown at x by a row and a column. -/
def gRow (m : List (List Int)) (x d i : Nat) : List Int := if i = x then (List.replicate (d + 1) (0 : Int)).set d 1 else if x < i then (m.getD (i - 1) []).insertIdx x 0 else if x < d then impl_Matrix_grown.fix x d ((m.getD i []).insertIdx x 0) else (m.getD i []).insertIdx x 0
def growM (m : List (List Int)) (x : Nat) : List (List Int) := if (x : Int) ≤ topI m then impl_Matrix_grown.inc m x else (List.range (m.length + 1)).map (gRow m x m.length)
theorem wide2_get (m : List (List Int)) (x : Nat) (hx : x ≤ m.length) (j : Nat) (hj : j ≤ m.length) : (impl_Matrix_grown.wide2 m x)[j]? = some (if j < x then (m.getD j []).insertIdx x 0 else if j = x then List.replicate (m.length + 1) 0 else (m.getD (j - 1) []).insertIdx x 0) := by
  rw [impl_Matrix_grown.wide2, impl_Matrix_grown.wide1_full, insGet _ _ _ _ (by rw [List.length_map]; exact hx)]
  by_cases c : j < x
  · rw [if_pos c, if_pos c, List.getElem?_map, get?_lt m j [] (by omega)]; rfl
  · rw [if_neg c, if_neg c]
    by_cases c2 : j = x
    · rw [if_pos c2, if_pos c2]
    · rw [if_neg c2, if_neg c2, List.getElem?_map, get?_lt m (j - 1) [] (by omega)]; rfl
theorem wide3_get (m : List (List Int)) (x : Nat) (hx : x ≤ m.length) (j : Nat) (hj : j ≤ m.length) : (impl_Matrix_grown.wide3 m x x)[j]? = some (if j < x then impl_Matrix_grown.fix x m.length ((m.getD j []).insertIdx x 0) else if j = x then List.replicate (m.length + 1) 0 else (m.getD (j - 1) []).insertIdx x 0) := by
  have hl := impl_Matrix_grown.wide2_len m x hx
  have hk := wide2_get m x hx j hj
  rw [impl_Matrix_grown.wide3]
  by_cases c : j < x
  · rw [List.getElem?_append_left (by rw [List.length_map, List.length_take]; omega), List.getElem?_map, List.getElem?_take, if_pos c, hk, if_pos c, if_pos c]; rfl
  · rw [List.getElem?_append_right (by rw [List.length_map, List.length_take]; omega), List.getElem?_drop, List.length_map, List.length_take, hl, show x + (j - min x (m.length + 1)) = j from by omega, hk, if_neg c, if_neg c]
theorem wide3_len (m : List (List Int)) (x : Nat) (hx : x ≤ m.length) : (impl_Matrix_grown.wide3 m x x).length = m.length + 1 := by
  have hl := impl_Matrix_grown.wide2_len m x hx
  rw [impl_Matrix_grown.wide3, List.length_append, List.length_map, List.length_take, List.length_drop]; omega
theorem wide_eq (m : List (List Int)) (x : Nat) (hx : x ≤ m.length) : impl_Matrix_grown.wide m x = (List.range (m.length + 1)).map (gRow m x m.length) := by
  have fin : ∀ (q : List (List Int)), q.length = m.length + 1 → (∀ j, j ≤ m.length → q[j]? = some (if j = x then List.replicate (m.length + 1) 0 else gRow m x m.length j)) → impl_Matrix_grown.last m q x = (List.range (m.length + 1)).map (gRow m x m.length) := by
    intro q hl hq
    apply List.ext_getElem?
    intro j
    rw [impl_Matrix_grown.last, List.getElem?_set, List.getElem?_map]
    by_cases hj : j ≤ m.length
    · rw [List.getElem?_eq_getElem (l := List.range (m.length + 1)) (by simp; omega), List.getElem_range, Option.map_some]
      have hx2 := hq x hx
      rw [if_pos rfl] at hx2
      by_cases c : x = j
      · subst c
        rw [if_pos rfl, if_pos (by omega), List.getD_eq_getElem?_getD, hx2, gRow, if_pos rfl]; rfl
      · rw [if_neg c, hq j hj, if_neg (fun h => c h.symm)]
    · rw [if_neg (by omega), List.getElem?_eq_none (by omega), List.getElem?_eq_none (by simp; omega)]; rfl
  rw [impl_Matrix_grown.wide]
  by_cases c : x < m.length
  · rw [if_pos c]
    refine fin _ (wide3_len m x hx) (fun j hj => ?_)
    rw [wide3_get m x hx j hj, gRow]
    congr 1
    by_cases c1 : j < x
    · rw [if_pos c1, if_neg (by omega), if_neg (by omega), if_neg (by omega), if_pos c]
    · rw [if_neg c1]
      by_cases c2 : j = x
      · rw [if_pos c2, if_pos c2]
      · rw [if_neg c2, if_neg c2, if_neg c2, if_pos (by omega)]
  · rw [if_neg c]
    refine fin _ (impl_Matrix_grown.wide2_len m x hx) (fun j hj => ?_)
    rw [wide2_get m x hx j hj, gRow]
    congr 1
    by_cases c1 : j < x
    · rw [if_pos c1, if_neg (by omega), if_neg (by omega), if_neg (by omega), if_neg c]
    · rw [if_neg c1]
      by_cases c2 : j = x
      · rw [if_pos c2, if_pos c2]
      · omega
theorem seekTop_lt (m : List (List Int)) : ∀ (n i : Nat), seekTop m n i < ((i + n : Nat) : Int) ∧ -1 ≤ seekTop m n i
  | 0, i => by rw [seekTop]; omega
  | n + 1, i => by
    rw [seekTop]
    have := seekTop_lt m n (i + 1)
    by_cases c : en m i (m.length - 1) ≠ 0
    · rw [if_pos c]; omega
    · rw [if_neg c]; omega
theorem topI_lt (m : List (List Int)) : topI m < (m.length : Int) ∧ -1 ≤ topI m := by have := seekTop_lt m m.length 0; rw [topI]; omega
theorem grown_ev (m : List (List Int)) (hd : m.length ≤ 12) (h : Sq m) (hs : Small m) (x : Nat) (hx : x ≤ m.length) : Ev (fun k => impl_Matrix_grown.f k m (x : Int)) (growM m x) := by
  unfold impl_Matrix_grown.f
  refine Ev.bind (own_ev m hs) (Ev_pos ⟨rfl, by omega, fun r hr => ?_, by omega, by omega⟩ ⟨0, fun _ _ => ?_⟩)
  · obtain ⟨i, hi, rfl⟩ := List.getElem_of_mem hr
    rw [← getD_lt m i [] hi]; exact (h i hi).1
  · unfold impl_Matrix_grown.go growM
    rw [top_eq m hd h, Option.bind_some, Int.toNat_natCast]
    have ht := topI_lt m
    by_cases c0 : 0 < m.length
    · rw [if_pos c0]
      by_cases c : (x : Int) ≤ topI m
      · rw [if_pos c, if_pos c, if_pos (by omega)]
      · rw [if_neg c, if_neg c, wide_eq m x hx]
    · rw [if_neg c0, if_neg (by omega), wide_eq m x hx]
theorem maOwn_ev (m : List (List Int)) (hs : Small m) : Ev (fun k => spec_maOwn.f k m) m := by
  unfold spec_maOwn.f
  have hl := hs.1
  have main : ∀ (d i : Nat), m.length - i = d → i ≤ m.length → Ev (fun k => spec_maOwn.l0 k m (m.length : Int) (i : Int) (m.take i)) m := by
    intro d
    induction d with
    | zero =>
      intro i hd hi
      obtain rfl : i = m.length := by omega
      exact Ev.step (fun _ => rfl) (Ev_neg (by omega) (Ev_some (by simp)))
    | succ d ih =>
      intro i hd hi
      have hi' : i < m.length := by omega
      refine Ev.step (fun _ => rfl) (Ev_pos (by omega) (Ev_pos (by omega) (Ev_pos (by omega) ?_)))
      rw [rdL_nat, wrap_succ (by omega)]
      have hr := hs.2 _ (getD_mem (z := []) hi')
      refine Ev_val (show spec_l1Own.f (m.getD i []) = some (m.getD i []) from by unfold spec_l1Own.f; rw [Option.bind_some, List.nil_append]; exact if_pos (by simp only [List.length_nil]; omega)) (Ev_pos (by rw [List.length_take]; omega) ?_)
      have := ih (i + 1) (by omega) (by omega)
      rw [List.take_succ_eq_append_getElem hi', ← getD_lt m i [] hi'] at this
      exact this
  have := main _ 0 rfl (by omega)
  simpa using this
theorem maWide_eq (r : List Int) (x : Nat) (hx : x ≤ r.length) (hl : r.length ≤ 1048576) : spec_maWide.f r (x : Int) = some (r.insertIdx x 0) := by
  unfold spec_maWide.f spec_l1Own.f
  rw [if_pos (by omega), if_pos (by omega), Int.toNat_natCast, Option.bind_some, List.nil_append, if_pos (by simp only [List.length_nil, List.length_take]; omega), Option.bind_some, Option.bind_some,
    if_pos (by simp only [List.length_cons, List.length_nil, List.length_take]; omega), Option.bind_some, if_pos (by simp only [List.length_append, List.length_cons, List.length_nil, List.length_take, List.length_drop]; omega), insertIdx_cut r x 0 hx]
theorem gRow_len (m : List (List Int)) (h : Sq m) (x : Nat) (hx : x ≤ m.length) (i : Nat) (hi : i ≤ m.length) : (gRow m x m.length i).length = m.length + 1 := by
  have hin : ∀ j, j < m.length → ((m.getD j []).insertIdx x 0).length = m.length + 1 := fun j hj => by
    have := (h j hj).1
    rw [List.length_insertIdx, if_pos (by omega), this]
  unfold gRow
  by_cases c : i = x
  · rw [if_pos c]; simp
  · rw [if_neg c]
    by_cases c2 : x < i
    · rw [if_pos c2]; exact hin _ (by omega)
    · rw [if_neg c2]
      by_cases c3 : x < m.length
      · rw [if_pos c3, impl_Matrix_grown.fix, List.length_set, List.length_set]; exact hin _ (by omega)
      · rw [if_neg c3]; exact hin _ (by omega)
theorem maGrow_ev (m : List (List Int)) (hd : m.length ≤ 12) (h : Sq m) (hs : Small m) (x : Nat) (hx : x ≤ m.length) : Ev (fun k => spec_maGrow.f k m (x : Int)) (growM m x) := by
  unfold spec_maGrow.f growM
  have ht := topI_lt m
  refine Ev.bind (maTop_ev m hd h) ?_
  by_cases c : (x : Int) ≤ topI m
  · rw [if_pos c]
    have hl := (h x (by omega)).1
    refine Ev_pos c (Ev.bind (maOwn_ev m hs) (Ev_pos (by omega) (Ev_pos (by omega) ?_)))
    rw [rdL_nat, hl, show (m.length : Int) - 1 = ((m.length - 1 : Nat) : Int) from by omega, wrap_small (by omega) (by omega)]
    refine Ev_pos (by omega) (Ev_pos (by omega) (Ev_some ?_))
    rw [rd_nat, Int.toNat_natCast, Int.toNat_natCast]; rfl
  · rw [if_neg c]
    refine Ev_neg c ?_
    have main : ∀ (d i : Nat), m.length + 1 - i = d → i ≤ m.length + 1 → Ev (fun k => spec_maGrow.l0 k (x : Int) (m.length : Int) (i : Int) m ((List.range i).map (gRow m x m.length))) ((List.range (m.length + 1)).map (gRow m x m.length)) := by
      intro d
      induction d with
      | zero =>
        intro i hd' hi
        obtain rfl : i = m.length + 1 := by omega
        exact Ev.step (fun _ => rfl) (Ev_neg (by omega) (Ev_some rfl))
      | succ d ih =>
        intro i hd' hi
        have next := ih (i + 1) (by omega) (by omega)
        rw [List.range_succ, List.map_append] at next
        refine Ev.step (fun _ => rfl) (Ev_pos (by omega) ?_)
        rw [wrap_succ (i := i) (by omega)]
        by_cases c1 : i = x
        · refine Ev_pos (by omega) ?_
          rw [wrap_succ (i := m.length) (by omega), Int.toNat_natCast, Int.toNat_natCast]
          refine Ev_pos (by omega) (Ev_pos (by omega) (Ev_val rfl (Ev_pos (by omega) (Ev_pos (by simp; omega) (Ev_pos (by simp; omega) ?_)))))
          simp only [List.map_cons, List.map_nil, gRow, if_pos c1] at next
          exact next
        · refine Ev_neg (by omega) ?_
          by_cases c2 : x < i
          · have hl := (h (i - 1) (by omega)).1
            refine Ev_pos (by omega) ?_
            rw [show (i : Int) - 1 = ((i - 1 : Nat) : Int) from by omega, wrap_small (by omega) (by omega), rdL_nat]
            refine Ev_pos (by omega) (Ev_pos (by omega) (Ev_val (maWide_eq _ x (by omega) (by omega)) (Ev_pos (by simp; omega) ?_)))
            simp only [List.map_cons, List.map_nil, gRow, if_neg c1, if_pos c2] at next
            exact next
          · have hl := (h i (by omega)).1
            refine Ev_neg (by omega) (Ev_pos (by omega) (Ev_pos (by omega) ?_))
            rw [rdL_nat]
            refine Ev_val (maWide_eq _ x (by omega) (by omega)) ?_
            by_cases c3 : x < m.length
            · have hil : ((m.getD i []).insertIdx x 0).length = m.length + 1 := by rw [List.length_insertIdx, if_pos (by omega), hl]
              refine Ev_pos (by omega) (Ev_pos (by omega) (Ev_pos (by omega) (Ev_pos (by omega) (Ev_pos (by omega) (Ev_pos (by simp; omega) ?_)))))
              rw [Int.toNat_natCast, Int.toNat_natCast, rd_nat]
              simp only [List.map_cons, List.map_nil, gRow, if_neg c1, if_neg c2, if_pos c3, impl_Matrix_grown.fix] at next
              exact next
            · refine Ev_neg (by omega) (Ev_pos (by simp; omega) ?_)
              simp only [List.map_cons, List.map_nil, gRow, if_neg c1, if_neg c2, if_neg c3] at next
              exact next
    exact main _ 0 rfl (by omega)
theorem growM_small (m : List (List Int)) (hd : m.length ≤ 12) (h : Sq m) (hs : Small m) (x : Nat) (hx : x ≤ m.length) : Small (growM m x) := by
  unfold growM
  have ht := topI_lt m
  by_cases c : (x : Int) ≤ topI m
  · rw [if_pos c, impl_Matrix_grown.inc]
    refine ⟨by rw [List.length_set]; exact hs.1, fun r hr => ?_⟩
    rcases List.mem_or_eq_of_mem_set hr with h1 | h1
    · exact hs.2 r h1
    · rw [h1, List.length_set]; exact hs.2 _ (getD_mem (z := []) (by omega))
  · rw [if_neg c]
    refine ⟨by simp; omega, fun r hr => ?_⟩
    obtain ⟨i, hi, rfl⟩ := List.mem_map.1 hr
    rw [gRow_len m h x hx i (by have := List.mem_range.1 hi; omega)]; omega
theorem seekTop_pre (m : List (List Int)) : ∀ (n i j : Nat), i ≤ j → (j : Int) < seekTop m n i → en m j (m.length - 1) = 0
  | 0, i, j, h1, h2 => by rw [seekTop] at h2; omega
  | n + 1, i, j, h1, h2 => by
    rw [seekTop] at h2
    by_cases c : en m i (m.length - 1) ≠ 0
    · rw [if_pos c] at h2; omega
    · rw [if_neg c] at h2
      by_cases e : j = i
      · rw [e]; simpa using c
      · exact seekTop_pre m n (i + 1) j (by omega) h2
theorem seekTop_is (m : List (List Int)) (x : Nat) (hx : en m x (m.length - 1) ≠ 0) (h0 : ∀ j, j < x → en m j (m.length - 1) = 0) : ∀ (n i : Nat), i ≤ x → x < i + n → seekTop m n i = (x : Int)
  | 0, i, h1, h2 => by omega
  | n + 1, i, h1, h2 => by
    rw [seekTop]
    by_cases e : i = x
    · rw [e, if_pos hx]
    · rw [if_neg (by rw [h0 i (by omega)]; simp)]
      exact seekTop_is m x hx h0 n (i + 1) (by omega) (by omega)
theorem mem_ins {r : List Int} {x : Nat} {v : Int} (h : v ∈ r.insertIdx x 0) : v ∈ r ∨ v = 0 := by
  by_cases c : x ≤ r.length
  · rw [insertIdx_cut r x 0 c] at h
    rcases List.mem_append.1 h with h | h
    · rcases List.mem_append.1 h with h | h
      · exact .inl (List.mem_of_mem_take h)
      · exact .inr (by simpa using h)
    · exact .inl (List.mem_of_mem_drop h)
  · rw [List.insertIdx_of_length_lt (by omega)] at h; exact .inl h
theorem gRow_bd (m : List (List Int)) (B : Int) (hB : 0 ≤ B) (h : Bd B m) (x : Nat) (hx : x ≤ m.length) (i : Nat) (hi : i ≤ m.length) : ∀ v ∈ gRow m x m.length i, 0 ≤ v ∧ v ≤ B + 1 := by
  have hr : ∀ j, j < m.length → ∀ v ∈ (m.getD j []).insertIdx x 0, 0 ≤ v ∧ v ≤ B + 1 := fun j hj v hv => by
    rcases mem_ins hv with h1 | h1
    · have := (h _ (getD_mem (z := []) hj)).2 v h1; omega
    · omega
  have hd : ∀ j, j < m.length → ∀ q, 0 ≤ ((m.getD j []).insertIdx x 0).getD q 0 ∧ ((m.getD j []).insertIdx x 0).getD q 0 ≤ B + 1 := fun j hj q => by
    by_cases c : q < ((m.getD j []).insertIdx x 0).length
    · exact hr j hj _ (getD_mem (z := 0) c)
    · rw [List.getD_eq_getElem?_getD, List.getElem?_eq_none (by omega)]; show (0 : Int) ≤ 0 ∧ (0 : Int) ≤ B + 1; omega
  intro v hv
  unfold gRow at hv
  by_cases c : i = x
  · rw [if_pos c] at hv
    rcases List.mem_or_eq_of_mem_set hv with h1 | h1
    · have := List.eq_of_mem_replicate h1; omega
    · omega
  · rw [if_neg c] at hv
    by_cases c2 : x < i
    · rw [if_pos c2] at hv; exact hr _ (by omega) v hv
    · rw [if_neg c2] at hv
      by_cases c3 : x < m.length
      · rw [if_pos c3, impl_Matrix_grown.fix] at hv
        rcases List.mem_or_eq_of_mem_set hv with h1 | h1
        · rcases List.mem_or_eq_of_mem_set h1 with h1 | h1
          · exact hr _ (by omega) v h1
          · rw [h1]; exact hd _ (by omega) _
        · omega
      · rw [if_neg c3] at hv; exact hr _ (by omega) v hv
theorem getD_map_range (n : Nat) (f : Nat → List Int) {i : Nat} (h : i < n) : ((List.range n).map f).getD i [] = f i := by rw [getD_lt _ _ _ (by simpa using h)]; simp
/-- What growing does to the size, the bound and the top. -/
theorem grow_inv (m : List (List Int)) (B : Int) (hB : 0 ≤ B) (hB2 : B ≤ 1000) (h : Bd B m) (hd : m.length ≤ 100) (x : Nat) (hx : x ≤ m.length) :
    Bd (B + 1) (growM m x) ∧ topI (growM m x) = (x : Int) ∧ (growM m x).length = if (x : Int) ≤ topI m then m.length else m.length + 1 := by
  have ht := topI_lt m
  by_cases c : (x : Int) ≤ topI m
  · have hxl : x < m.length := by omega
    have hrow := h _ (getD_mem (z := []) hxl)
    have hlen : (growM m x).length = m.length := by rw [growM, if_pos c, impl_Matrix_grown.inc, List.length_set]
    have hv := hrow.2 ((m.getD x []).getD (m.length - 1) 0) (getD_mem (z := 0) (by rw [hrow.1]; omega))
    have hw : wrap64 ((m.getD x []).getD (m.length - 1) 0 + 1) = (m.getD x []).getD (m.length - 1) 0 + 1 := wrap_small (by omega) (by omega)
    have hx0 : en (growM m x) x ((growM m x).length - 1) ≠ 0 := by
      rw [hlen, growM, if_pos c, impl_Matrix_grown.inc, hw, en, List.getD_eq_getElem?_getD (l := m.set _ _), List.getElem?_set_self hxl, Option.getD_some, List.getD_eq_getElem?_getD (l := List.set _ _ _), List.getElem?_set_self (by rw [hrow.1]; omega), Option.getD_some]
      omega
    have hj0 : ∀ j, j < x → en (growM m x) j ((growM m x).length - 1) = 0 := fun j hj => by
      have := seekTop_pre m m.length 0 j (by omega) (by rw [topI] at c; omega)
      rw [hlen, growM, if_pos c, impl_Matrix_grown.inc, en, List.getD_eq_getElem?_getD (l := m.set _ _), List.getElem?_set_ne (by omega), ← List.getD_eq_getElem?_getD]
      exact this
    refine ⟨fun r hr => ?_, ?_, by rw [hlen, if_pos c]⟩
    · rw [hlen]
      rw [growM, if_pos c, impl_Matrix_grown.inc] at hr
      rcases List.mem_or_eq_of_mem_set hr with h1 | h1
      · exact ⟨(h r h1).1, fun v hv => by have := (h r h1).2 v hv; omega⟩
      · rw [h1, List.length_set]
        refine ⟨hrow.1, fun v hv2 => ?_⟩
        rcases List.mem_or_eq_of_mem_set hv2 with h2 | h2
        · have := hrow.2 v h2; omega
        · rw [h2, hw]; omega
    · rw [topI]
      exact seekTop_is _ x hx0 hj0 _ 0 (by omega) (by rw [hlen]; omega)
  · have hG : growM m x = (List.range (m.length + 1)).map (gRow m x m.length) := by rw [growM, if_neg c]
    have hlen : (growM m x).length = m.length + 1 := by rw [hG]; simp
    have hrl := gRow_len m h.sq x hx
    have hx0 : en (growM m x) x ((growM m x).length - 1) ≠ 0 := by
      rw [hlen, hG, en, getD_map_range _ _ (by omega), gRow, if_pos rfl, show m.length + 1 - 1 = m.length from rfl, List.getD_eq_getElem?_getD, List.getElem?_set_self (by simp)]
      simp
    have hj0 : ∀ j, j < x → en (growM m x) j ((growM m x).length - 1) = 0 := fun j hj => by
      have hil := (h.sq j (by omega)).1
      rw [hlen, hG, en, getD_map_range _ _ (by omega), gRow, if_neg (by omega), if_neg (by omega), show m.length + 1 - 1 = m.length from rfl]
      by_cases c3 : x < m.length
      · rw [if_pos c3, impl_Matrix_grown.fix, List.getD_eq_getElem?_getD, List.getElem?_set_self (by rw [List.length_set, List.length_insertIdx, if_pos (by omega)]; omega)]; rfl
      · rw [if_neg c3, List.getD_eq_getElem?_getD, insGet _ _ _ _ (by omega), if_neg (by omega), if_pos (by omega)]; rfl
    refine ⟨fun r hr => ?_, ?_, by rw [hlen, if_neg c]⟩
    · rw [hG] at hr
      obtain ⟨i, hi, rfl⟩ := List.mem_map.1 hr
      have hi' := List.mem_range.1 hi
      exact ⟨by rw [hlen]; exact hrl i (by omega), gRow_bd m B hB h x hx i (by omega)⟩
    · rw [topI]
      exact seekTop_is _ x hx0 hj0 _ 0 (by omega) (by rw [hlen]; omega)
/-- The ascents within the first i numbers. -/
def ascN (l : List Int) : Nat → Nat
  | 0 => 0
  | i + 1 => ascN l i + if 0 < i ∧ l.getD (i - 1) 0 < l.getD i 0 then 1 else 0
theorem ascN_le (l : List Int) : ∀ i, ascN l i ≤ i
  | 0 => Nat.le_refl _
  | i + 1 => by rw [ascN]; have := ascN_le l i; split <;> omega
/-- How far the number at place i may go. -/
def bndA (l : List Int) (i : Nat) : Int := if i = 0 then 0 else (ascN l i : Int) + 1
def AscOk (l : List Int) : Prop := l.length ≤ 12 ∧ ∀ i, i < l.length → 0 ≤ l.getD i 0 ∧ l.getD i 0 ≤ bndA l i
instance (l : List Int) : Decidable (AscOk l) := inferInstanceAs (Decidable (_ ∧ _))
theorem take_getD (l : List Int) (n j : Nat) (h : j < n) : (l.take n).getD j 0 = l.getD j 0 := by
  rw [List.getD_eq_getElem?_getD, List.getElem?_take, if_pos h, ← List.getD_eq_getElem?_getD]
theorem asc_main (f : Nat → List Int → Int → Int → Option Int)
    (hf : ∀ k (x0 : List Int) (x3 x4 : Int), f (k + 1) x0 x3 x4 = if x4 < (x0.length : Int) then (if 0 ≤ (wrap64 (x4 - 1)) then (if (wrap64 (x4 - 1)) < (x0.length : Int) then (if 0 ≤ x4 then (if (rd x0 (wrap64 (x4 - 1))) < (rd x0 x4) then (f k x0 (wrap64 (x3 + 1)) (wrap64 (x4 + 1))) else (f k x0 x3 (wrap64 (x4 + 1)))) else (none)) else (none)) else (none)) else (some x3))
    (l : List Int) (n : Nat) (hn : n ≤ l.length) (hl : n ≤ 12) : Ev (fun k => f k (l.take n) 0 1) (ascN l n : Int) := by
  have hlen : (l.take n).length = n := by rw [List.length_take]; omega
  have main : ∀ (d i : Nat), n - i = d → 1 ≤ i → i ≤ n → Ev (fun k => f k (l.take n) (ascN l i : Int) (i : Int)) (ascN l n : Int) := by
    intro d
    induction d with
    | zero =>
      intro i hd h1 hi
      obtain rfl : i = n := by omega
      exact Ev.step (fun k => hf k _ _ _) (Ev_neg (by omega) (Ev_some rfl))
    | succ d ih =>
      intro i hd h1 hi
      have ha := ascN_le l i
      have next := ih (i + 1) (by omega) (by omega) (by omega)
      refine Ev.step (fun k => hf k _ _ _) (Ev_pos (by omega) ?_)
      rw [show (i : Int) - 1 = ((i - 1 : Nat) : Int) from by omega, wrap_small (x := ((i - 1 : Nat) : Int)) (by omega) (by omega), wrap_succ (i := i) (by omega), wrap_succ (i := ascN l i) (by omega), rd_nat, rd_nat, take_getD _ _ _ (by omega), take_getD _ _ _ (by omega)]
      refine Ev_pos (by omega) (Ev_pos (by omega) (Ev_pos (by omega) ?_))
      rw [ascN] at next
      by_cases c : l.getD (i - 1) 0 < l.getD i 0
      · rw [if_pos ⟨by omega, c⟩] at next; exact Ev_pos c next
      · rw [if_neg (fun h => c h.2)] at next; exact Ev_neg c next
  by_cases c : 1 ≤ n
  · exact main _ 1 rfl (by omega) c
  · obtain rfl : n = 0 := by omega
    exact Ev.step (fun k => hf k _ _ _) (Ev_neg (by omega) (Ev_some rfl))
theorem specAsc_ev (l : List Int) (n : Nat) (hn : n ≤ l.length) (hl : n ≤ 12) : Ev (fun k => spec_asAscents.f k (l.take n)) (ascN l n : Int) := asc_main (fun k => spec_asAscents.l0 k) (fun _ _ _ _ => rfl) l n hn hl
theorem implAsc_ev (l : List Int) (n : Nat) (hn : n ≤ l.length) (hl : n ≤ 12) : Ev (fun k => impl_ascents.f k (l.take n)) (ascN l n : Int) := asc_main (fun k => impl_ascents.l0 k) (fun _ _ _ _ => rfl) l n hn hl
theorem specBound_ev (l : List Int) (n : Nat) (hn : n ≤ l.length) (hl : n ≤ 12) : Ev (fun k => spec_asBound.f k (l.take n)) (bndA l n) := by
  have hlen : (l.take n).length = n := by rw [List.length_take]; omega
  have ha := ascN_le l n
  unfold spec_asBound.f bndA
  by_cases c : n = 0
  · rw [if_pos c]; exact Ev_pos (by omega) (Ev_some rfl)
  · rw [if_neg c]
    refine Ev_neg (by omega) (Ev.bind (specAsc_ev l n hn hl) (Ev_some (wrap_small (by omega) (by omega))))
theorem in_eq (a b c : Int) : spec_l1In.f a b c = some (decide (b ≤ a ∧ a ≤ c)) := by
  unfold spec_l1In.f
  by_cases h : a ≥ b
  · rw [if_pos h]; congr 1; exact dec_eq ⟨fun h2 => ⟨h, h2⟩, fun h2 => h2.2⟩
  · rw [if_neg h]; congr 1; rw [eq_comm, decide_eq_false_iff_not]; exact fun h2 => h h2.1
theorem win_eq (a b c : Int) : impl_within.f a b c = some (decide (b ≤ a ∧ a ≤ c)) := by
  unfold impl_within.f
  by_cases h : a ≥ b
  · rw [if_pos h]; congr 1; exact dec_eq ⟨fun h2 => ⟨h, h2⟩, fun h2 => h2.2⟩
  · rw [if_neg h]; congr 1; rw [eq_comm, decide_eq_false_iff_not]; exact fun h2 => h h2.1
def OkFrom (l : List Int) (i : Nat) : Prop := ∀ j, i ≤ j → j < l.length → 0 ≤ l.getD j 0 ∧ l.getD j 0 ≤ bndA l j
open Classical in
theorem asGood_ev (l : List Int) (hs : l.length ≤ 1048576) : Ev (fun k => spec_asGood.f k l) (decide (AscOk l)) := by
  unfold spec_asGood.f
  by_cases c : (l.length : Int) > 12
  · refine Ev_pos c (Ev_some ?_)
    rw [eq_comm, decide_eq_false_iff_not]; exact fun h => by have := h.1; omega
  · refine Ev_neg c ?_
    have main : ∀ (d i : Nat), l.length - i = d → i ≤ l.length → Ev (fun k => spec_asGood.l0 k l l (l.length : Int) (i : Int)) (decide (OkFrom l i)) := by
      intro d
      induction d with
      | zero =>
        intro i hd hi
        obtain rfl : i = l.length := by omega
        exact Ev.step (fun _ => rfl) (Ev_neg (by omega) (Ev_some (by rw [eq_comm, decide_eq_true_iff]; exact fun j h1 h2 => by omega)))
      | succ d ih =>
        intro i hd hi
        refine Ev.step (fun _ => rfl) (Ev_pos (by omega) (Ev_pos (by omega) (Ev_pos (by omega) (Ev_pos (by omega) ?_))))
        rw [Int.toNat_natCast, rd_nat, wrap_succ (i := i) (by omega)]
        refine Ev.bind (specBound_ev l i (by omega) (by omega)) (Ev_val (in_eq _ _ _) ?_)
        by_cases g : 0 ≤ l.getD i 0 ∧ l.getD i 0 ≤ bndA l i
        · refine Ev_pos (decide_eq_true g) (Ev_eq (ih (i + 1) (by omega) (by omega)) (dec_eq ⟨fun h j h1 h2 => ?_, fun h j h1 h2 => h j (by omega) h2⟩))
          by_cases e : j = i
          · rw [e]; exact g
          · exact h j (by omega) h2
        · refine Ev_neg (by simpa using g) (Ev_some ?_)
          rw [eq_comm, decide_eq_false_iff_not]; exact fun h => g (h i (Nat.le_refl _) (by omega))
    exact Ev_eq (main _ 0 rfl (by omega)) (dec_eq ⟨fun h => ⟨by omega, fun i hi => h i (by omega) hi⟩, fun h j _ h2 => h.2 j h2⟩)
open Classical in
theorem isAscent_ev (l : List Int) (hs : l.length ≤ 1048576) : Ev (fun k => impl_IsAscent.f k l) (decide (AscOk l)) := by
  unfold impl_IsAscent.f
  by_cases c : (l.length : Int) > 12
  · refine Ev_pos c (Ev_some ?_)
    rw [eq_comm, decide_eq_false_iff_not]; exact fun h => by have := h.1; omega
  · refine Ev_neg c ?_
    have main : ∀ (d i : Nat), l.length - i = d → i ≤ l.length → Ev (fun k => impl_IsAscent.l0 k l l (l.length : Int) (i : Int)) (decide (OkFrom l i)) := by
      intro d
      induction d with
      | zero =>
        intro i hd hi
        obtain rfl : i = l.length := by omega
        exact Ev.step (fun _ => rfl) (Ev_neg (by omega) (Ev_some (by rw [eq_comm, decide_eq_true_iff]; exact fun j h1 h2 => by omega)))
      | succ d ih =>
        intro i hd hi
        have ha := ascN_le l i
        have yes : (0 ≤ l.getD i 0 ∧ l.getD i 0 ≤ bndA l i) → Ev (fun k => impl_IsAscent.l0 k l l (l.length : Int) ((i + 1 : Nat) : Int)) (decide (OkFrom l i)) := fun g => by
          refine Ev_eq (ih (i + 1) (by omega) (by omega)) (dec_eq ⟨fun h j h1 h2 => ?_, fun h j h1 h2 => h j (by omega) h2⟩)
          by_cases e : j = i
          · rw [e]; exact g
          · exact h j (by omega) h2
        have no : ¬ (0 ≤ l.getD i 0 ∧ l.getD i 0 ≤ bndA l i) → false = decide (OkFrom l i) := fun g => by
          rw [eq_comm, decide_eq_false_iff_not]; exact fun h => g (h i (Nat.le_refl _) (by omega))
        refine Ev.step (fun _ => rfl) (Ev_pos (by omega) (Ev_pos (by omega) (Ev_pos (by omega) ?_)))
        rw [Int.toNat_natCast, rd_nat, wrap_succ (i := i) (by omega)]
        by_cases e : i = 0
        · have hb : bndA l i = 0 := by rw [bndA, if_pos e]
          refine Ev_pos (by omega) ?_
          by_cases z : l.getD i 0 = 0
          · exact Ev_pos z (Ev_neg (by omega) (yes (by rw [hb]; omega)))
          · exact Ev_neg z (Ev_some (no (by rw [hb]; omega)))
        · have hb : bndA l i = (ascN l i : Int) + 1 := by rw [bndA, if_neg e]
          refine Ev_neg (by omega) (Ev_pos (by omega) (Ev_pos (by omega) (Ev.bind (implAsc_ev l i (by omega) (by omega)) ?_)))
          rw [wrap_small (x := (ascN l i : Int) + 1) (by omega) (by omega), ← hb]
          refine Ev_val (win_eq _ _ _) ?_
          by_cases g : 0 ≤ l.getD i 0 ∧ l.getD i 0 ≤ bndA l i
          · exact Ev_pos (decide_eq_true g) (yes g)
          · exact Ev_neg (by simpa using g) (Ev_some (no g))
    exact Ev_eq (main _ 0 rfl (by omega)) (dec_eq ⟨fun h => ⟨by omega, fun i hi => h i (by omega) hi⟩, fun h j _ h2 => h.2 j h2⟩)
/-- The matrix of the first i numbers. -/
def matA (l : List Int) : Nat → List (List Int)
  | 0 => []
  | i + 1 => growM (matA l i) (l.getD i 0).toNat
theorem matA_inv (l : List Int) (g : AscOk l) : ∀ i, i ≤ l.length → Bd (i : Int) (matA l i) ∧ (matA l i).length = (if i = 0 then 0 else ascN l i + 1) ∧ (0 < i → topI (matA l i) = l.getD (i - 1) 0)
  | 0, _ => ⟨fun r hr => by simp [matA] at hr, rfl, fun h => absurd h (by decide)⟩
  | i + 1, hi => by
    obtain ⟨h1, h2, h3⟩ := matA_inv l g i (by omega)
    have hl := g.1
    have hg := g.2 i (by omega)
    have ha := ascN_le l i
    obtain ⟨x, hx⟩ : ∃ x : Nat, l.getD i 0 = (x : Int) := ⟨(l.getD i 0).toNat, by omega⟩
    have hxl : x ≤ (matA l i).length := by
      rw [h2]
      by_cases e : i = 0
      · have := hg.2; rw [bndA, if_pos e] at this; rw [if_pos e]; omega
      · have := hg.2; rw [bndA, if_neg e] at this; rw [if_neg e]; omega
    have hd : (matA l i).length ≤ 100 := by rw [h2]; split <;> omega
    obtain ⟨k1, k2, k3⟩ := grow_inv (matA l i) (i : Int) (by omega) (by omega) h1 hd x hxl
    have ht := topI_lt (matA l i)
    rw [matA, hx, Int.toNat_natCast]
    refine ⟨by rw [Int.natCast_add]; exact k1, ?_, fun _ => by rw [k2, show i + 1 - 1 = i from rfl, hx]⟩
    rw [k3, if_neg (show ¬ (i + 1 = 0) by omega), ascN]
    by_cases e : i = 0
    · subst e
      rw [if_neg (by rw [h2, if_pos rfl] at ht; omega), h2, if_pos rfl, if_neg (fun h => absurd h.1 (by decide))]; rfl
    · rw [if_neg e] at h2
      have h3 := h3 (by omega)
      rw [h3, h2, ← hx]
      by_cases c : l.getD (i - 1) 0 < l.getD i 0
      · rw [if_neg (by omega), if_pos ⟨by omega, c⟩]
      · rw [if_pos (by omega), if_neg (fun h => c h.2)]
theorem Bd.small {B : Int} {m : List (List Int)} (h : Bd B m) (hd : m.length ≤ 1000) : Small m := ⟨by omega, fun r hr => by have := (h r hr).1; omega⟩
theorem matA_step (l : List Int) (g : AscOk l) (i : Nat) (hi : i < l.length) : (matA l i).length ≤ 12 ∧ ∃ x : Nat, l.getD i 0 = (x : Int) ∧ x ≤ (matA l i).length ∧ matA l (i + 1) = growM (matA l i) x := by
  obtain ⟨h1, h2, h3⟩ := matA_inv l g i (by omega)
  have hl := g.1
  have hg := g.2 i hi
  have ha := ascN_le l i
  refine ⟨by rw [h2]; split <;> omega, (l.getD i 0).toNat, by omega, ?_, rfl⟩
  rw [h2]
  by_cases e : i = 0
  · have := hg.2; rw [bndA, if_pos e] at this; rw [if_pos e]; omega
  · have := hg.2; rw [bndA, if_neg e] at this; rw [if_neg e]; omega
theorem matOf_ev (l : List Int) (g : AscOk l) (f : Nat → List Int → Int → Int → List (List Int) → Option (List (List Int))) (G : Nat → List (List Int) → Int → Option (List (List Int)))
    (hf : ∀ k (x7 : List Int) (x8 x9 : Int) (q : List (List Int)), f (k + 1) x7 x8 x9 q = if x9 < x8 then (if 0 ≤ x9 then (if x9 < (x7.length : Int) then ((G k q (rd x7 x9)).bind fun t => (f k x7 x8 (wrap64 (x9 + 1)) t)) else (none)) else (none)) else (some q))
    (hG : ∀ (m : List (List Int)), m.length ≤ 12 → Sq m → Small m → ∀ x : Nat, x ≤ m.length → Ev (fun k => G k m (x : Int)) (growM m x)) : Ev (fun k => f k l (l.length : Int) 0 []) (matA l l.length) := by
  have hl := g.1
  have main : ∀ (d i : Nat), l.length - i = d → i ≤ l.length → Ev (fun k => f k l (l.length : Int) (i : Int) (matA l i)) (matA l l.length) := by
    intro d
    induction d with
    | zero =>
      intro i hd hi
      obtain rfl : i = l.length := by omega
      exact Ev.step (fun k => hf k _ _ _ _) (Ev_neg (by omega) (Ev_some rfl))
    | succ d ih =>
      intro i hd hi
      have next := ih (i + 1) (by omega) (by omega)
      obtain ⟨hd12, x, hx, hxl, hm⟩ := matA_step l g i (by omega)
      have hb := (matA_inv l g i (by omega)).1
      refine Ev.step (fun k => hf k _ _ _ _) (Ev_pos (by omega) (Ev_pos (by omega) (Ev_pos (by omega) ?_)))
      rw [rd_nat, hx, wrap_succ (i := i) (by omega)]
      rw [hm] at next
      exact Ev.bind (hG _ hd12 hb.sq (hb.small (by omega)) x hxl) next
  exact main _ 0 rfl (by omega)
def moaR (l : List Int) : List (List Int) × Bool := if AscOk l then (matA l l.length, true) else ([], false)
theorem specMOA_ev (l : List Int) (hs : l.length ≤ 1048576) : Ev (fun k => spec_MatrixOfAscent.f k l) (moaR l) := by
  unfold spec_MatrixOfAscent.f moaR
  refine Ev.bind (asGood_ev l hs) ?_
  by_cases g : AscOk l
  · rw [if_pos g]
    exact Ev_pos (decide_eq_true g) (Ev.bind (matOf_ev l g (fun k => spec_maOf.l0 k) (fun k => spec_maGrow.f k) (fun _ _ _ _ _ => rfl) (fun m hd h hs x hx => maGrow_ev m hd h hs x hx)) (Ev_some rfl))
  · rw [if_neg g]; exact Ev_neg (by simpa using g) (Ev_some rfl)
theorem implMOA_ev (l : List Int) (hs : l.length ≤ 1048576) : Ev (fun k => impl_MatrixOfAscent.f k l) (moaR l) := by
  unfold impl_MatrixOfAscent.f moaR
  refine Ev.bind (isAscent_ev l hs) ?_
  by_cases g : AscOk l
  · rw [if_pos g]
    exact Ev_pos (decide_eq_true g) (Ev.bind (matOf_ev l g (fun k => impl_matrixOf.l0 k) (fun k => impl_Matrix_grown.f k) (fun _ _ _ _ _ => rfl) (fun m hd h hs x hx => grown_ev m hd h hs x hx)) (Ev_some rfl))
  · rw [if_neg g]; exact Ev_neg (by simpa using g) (Ev_some rfl)
theorem moa_small (l : List Int) : Small (moaR l).1 := by
  unfold moaR
  by_cases g : AscOk l
  · rw [if_pos g]
    obtain ⟨h1, h2, _⟩ := matA_inv l g l.length (Nat.le_refl _)
    have := ascN_le l l.length
    have := g.1
    exact h1.small (by rw [h2]; split <;> omega)
  · rw [if_neg g]; exact ⟨by simp, by simp⟩
theorem FnExactMatrixOfAscent : ∀ (l0 : List Int), Open.Fits l0 → M.laws_FnExactMatrixOfAscent.Plain l0 := by
  intro p _ hs
  have hS := specMOA_ev p hs
  have hI := implMOA_ev p hs
  have hB := moa_small p
  revert hS hI hB
  generalize moaR p = R
  obtain ⟨r, b⟩ := R
  intro hS hI hB
  have ht : tot r ≤ 1048576 * 1048576 := Nat.le_trans (tot_le hB.2) (Nat.mul_le_mul_right _ hB.1)
  obtain ⟨k0, h0⟩ := toIntS_ev p hs
  obtain ⟨k1, h1⟩ := hS
  obtain ⟨k2, h2⟩ := hI
  obtain ⟨k3, h3⟩ := eqMatrix_small r hB
  obtain ⟨k4, h4⟩ := eqIntS_refl p (by omega)
  obtain ⟨k5, h5⟩ := markIntS_ev p 1 (by omega) (by omega)
  obtain ⟨k6, h6⟩ := markMatrix_ev r (by omega) (by have := hB.1; simp only [] at this; omega)
  obtain ⟨k7, h7⟩ := heldMatrix_ev r (by omega) (by have := hB.1; simp only [] at this; omega)
  exact ⟨k0 + k1 + k2 + k3 + k4 + k5 + k6 + k7, r, b, _, _, _, _, h0 _ (by omega), h1 _ (by omega), h2 _ (by omega), h3 _ (by omega), h4 _ (by omega), h5 _ (by omega), by omega, h6 _ (by omega), by omega, h7 _ (by omega)⟩
end Go.Proofs.Ytjbepofmkcahlaa.Pure
