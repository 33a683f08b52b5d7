/- MatrixText of the program and of the reference answer alike, for every matrix. -/
import Derived.Test.YtadflnoofnonoaaDoorTx11
import Derived.Test.YtadflnoofnonoaaDoorXOpen
import Derived.Test.YtadflnoofnonoaaDoorWSized
namespace Go.Proofs.YtadflnoofnonoaaDoor.PrintWords
open Go.RowKit
/-- The words' theorem, under the name by which the printed row calls it. -/
theorem sized_ints {H : Type} {enc : TypeId × Value → H} {P : Program} {W : World} {base : Nat} {spare : Nat → Bool} {held : Bool} {t e : TypeId} {k : IntKind} {a : Option Addr} {len cap : Nat} {d : DataW H} {ps : List MemPlace} {ts : List TypeId} {ds : List (DataW H)} {j : Nat}
    (g0 : (DataW.weightsEach P ts ds).all (· ≤ reachBytes) = true) (g1 : ts[j]? = some t) (g2 : ds[j]? = some d) (g3 : P.underlying t = some (.slice e)) (g4 : P.underlying e = some (.int k)) (g5 : P.cellsOf e = 1) {B : Nat} (g6 : P.bytesOf e = B)
    (g7 : DataW.Trod enc P W base spare held t (.slice a len cap) d ps) : len * B ≤ 140737488351232 := Go.Proofs.YtadflnoofnonoaaDoorW.PrintWords.sized_ints g0 g1 g2 g3 g4 g5 g6 g7
end Go.Proofs.YtadflnoofnonoaaDoor.PrintWords
set_option linter.unusedVariables false
namespace Go.Proofs.YtadflnoofnonoaaDoor.Pure
open Go.RowKit Go.Proofs.YtadflnoofnonoaaDoor.Tx Go.Proofs.YtadflnoofnonoaaDoorW.PrintWords Go.Proofs.YtadflnoofnonoaaDoorW.PrintLast Go.Proofs.YtadflnoofnonoaaDoorW.PrintMore
section Prelude
theorem Ev_pos {α : Type} {c : Prop} [Decidable c] {f g : Nat → Option α} {r : α} (h : c) (k : Ev f r) : Ev (fun n => if c then f n else g n) r :=
  Ev.congr (fun _ => if_pos h) k
theorem Ev_neg {α : Type} {c : Prop} [Decidable c] {f g : Nat → Option α} {r : α} (h : ¬ c) (k : Ev g r) : Ev (fun n => if c then f n else g n) r :=
  Ev.congr (fun _ => if_neg h) k
theorem Ev_val {α β : Type} {g : Option α} {f : Nat → α → Option β} {a : α} {r : β} (h : g = some a) (k : Ev (fun n => f n a) r) : Ev (fun n => g.bind (f n)) r :=
  Ev.congr (fun _ => by rw [h]; rfl) k
theorem Ev_some {α : Type} {a r : α} (h : a = r) : Ev (fun _ => some a) r := ⟨0, fun _ _ => by rw [h]⟩
theorem Ev_eq {α : Type} {g : Nat → Option α} {a r : α} (h : Ev g a) (e : a = r) : Ev g r := e ▸ h
theorem wrap_small {x : Int} (h0 : -4611686018427387904 ≤ x) (h1 : x ≤ 4611686018427387904) : wrap64 x = x := by unfold wrap64; omega
theorem wrap_succ {i : Nat} (h : i ≤ 4611686018427387900) : wrap64 ((i : Int) + 1) = ((i + 1 : Nat) : Int) := by unfold wrap64; omega
theorem wrap_pred {i : Nat} (h : i ≤ 4611686018427387900) : wrap64 ((i + 1 : Nat) - 1 : Int) = (i : Int) := by unfold wrap64; omega
theorem rd_nat (xs : List Int) (i : Nat) : rd xs (i : Int) = xs.getD i 0 := by simp [rd]
theorem getD_lt {α : Type} (xs : List α) (i : Nat) (z : α) (h : i < xs.length) : xs.getD i z = xs[i] := by simp [List.getD_eq_getElem?_getD, h]
theorem wf_range {x : Int} (h : (Lit.int .i64 x).wf = true) : -9223372036854775808 ≤ x ∧ x ≤ 9223372036854775807 := by
  simp [Lit.wf] at h
  exact h
theorem ext_getD {xs ys : List Int} (hl : xs.length = ys.length) (h : ∀ i, i < xs.length → xs.getD i 0 = ys.getD i 0) : xs = ys := by
  apply List.ext_getElem hl
  intro i h1 h2
  have := h i h1
  rwa [getD_lt _ _ _ h1, getD_lt _ _ _ h2] at this
theorem dec_eq {a b : Prop} [Decidable a] [Decidable b] (h : a ↔ b) : decide a = decide b := by simp [h]
/-- The rounds i, .., n - 1 of a loop. -/
def foldFrom {σ : Type} (n : Nat) (step : σ → Nat → σ) (s : σ) (i : Nat) : σ := (List.range' i (n - i)).foldl step s
theorem foldFrom_lt {σ : Type} {n : Nat} {step : σ → Nat → σ} {s : σ} {i : Nat} (h : i < n) : foldFrom n step s i = foldFrom n step (step s i) (i + 1) := by
  unfold foldFrom
  rw [show n - i = (n - (i + 1)) + 1 from by omega, List.range'_succ, List.foldl_cons]
theorem foldFrom_ge {σ : Type} {n : Nat} {step : σ → Nat → σ} {s : σ} {i : Nat} (h : n ≤ i) : foldFrom n step s i = s := by
  unfold foldFrom
  rw [show n - i = 0 from by omega]; rfl
/-- A loop that counts up to n: what a round does to the state, what holds of it, and what the end makes of it. -/
theorem Ev_for {σ ρ : Type} {l : Nat → σ → Nat → Option ρ} (n : Nat) (step : σ → Nat → σ) (fin : σ → ρ) (Inv : σ → Nat → Prop)
    (hinv : ∀ i s, i < n → Inv s i → Inv (step s i) (i + 1))
    (hstep : ∀ i s, i < n → Inv s i → ∀ r, Ev (fun k => l k (step s i) (i + 1)) r → Ev (fun k => l k s i) r)
    (hend : ∀ s, Inv s n → Ev (fun k => l k s n) (fin s)) :
    ∀ i s, i ≤ n → Inv s i → Ev (fun k => l k s i) (fin (foldFrom n step s i)) ∧ Inv (foldFrom n step s i) n := by
  have main : ∀ d i s, n - i = d → i ≤ n → Inv s i → Ev (fun k => l k s i) (fin (foldFrom n step s i)) ∧ Inv (foldFrom n step s i) n := by
    intro d
    induction d with
    | zero =>
      intro i s hd hi h
      obtain rfl : i = n := by omega
      rw [foldFrom_ge (Nat.le_refl _)]
      exact ⟨hend s h, h⟩
    | succ d ih =>
      intro i s hd hi h
      rw [foldFrom_lt (by omega)]
      obtain ⟨h1, h2⟩ := ih (i + 1) (step s i) (by omega) (by omega) (hinv i s (by omega) h)
      exact ⟨hstep i s (by omega) h _ h1, h2⟩
  exact fun i s hi h => main _ i s rfl hi h
/-- A loop that asks each round, and ends with 'no' at the first round that says no. -/
theorem Ev_all (l : Nat → Nat → Option Bool) (n : Nat) (P : Nat → Bool) (r : Bool)
    (hgo : ∀ i, i < n → (∀ j, j < i → P j = true) → P i = true → ∀ q, Ev (fun k => l k (i + 1)) q → Ev (fun k => l k i) q)
    (hno : ∀ i, i < n → (∀ j, j < i → P j = true) → P i = false → Ev (fun k => l k i) false)
    (hend : (∀ j, j < n → P j = true) → Ev (fun k => l k n) r) : Ev (fun k => l k 0) (decide (∀ j, j < n → P j = true) && r) := by
  have main : ∀ d i, n - i = d → i ≤ n → (∀ j, j < i → P j = true) → Ev (fun k => l k i) (decide (∀ j, j < n → P j = true) && r) := by
    intro d
    induction d with
    | zero =>
      intro i hd hi h
      obtain rfl : i = n := by omega
      rw [decide_eq_true h, Bool.true_and]
      exact hend h
    | succ d ih =>
      intro i hd hi h
      by_cases c : P i = true
      · refine hgo i (by omega) h c _ (ih (i + 1) (by omega) (by omega) (fun j hj => ?_))
        by_cases e : j = i
        · rw [e]; exact c
        · exact h j (by omega)
      · refine Ev_eq (hno i (by omega) h (by simpa using c)) ?_
        rw [decide_eq_false (fun hh => c (hh i (by omega))), Bool.false_and]
  exact main _ 0 rfl (by omega) (fun j hj => by omega)
end Prelude
theorem rdL_nat (xs : List (List Int)) (i : Nat) : rd_L1 xs (i : Int) = xs.getD i [] := by unfold rd_L1; rw [Int.toNat_natCast]
theorem getD_mem {α : Type} {xs : List α} {i : Nat} {z : α} (h : i < xs.length) : xs.getD i z ∈ xs := by rw [getD_lt _ _ _ h]; exact List.getElem_mem h
theorem ext_getL {xs ys : List (List Int)} (hl : xs.length = ys.length) (h : ∀ i, i < xs.length → xs.getD i [] = ys.getD i []) : xs = ys := by
  apply List.ext_getElem hl
  intro i h1 h2
  have := h i h1
  rwa [getD_lt _ _ _ h1, getD_lt _ _ _ h2] at this
def Small (l : List (List Int)) : Prop := l.length ≤ 1048576 ∧ ∀ r ∈ l, r.length ≤ 1048576
theorem toIntS_l0 (l : List Int) (hl : l.length ≤ 1048576) : ∀ (d i : Nat) (ys : List Int), l.length - i = d → ys.length = l.length → (∀ j, j < i → ys.getD j 0 = l.getD j 0) →
    Ev (fun k => laws_toIntS.l0 k l ys (i : Int)) l := by
  intro d
  induction d with
  | zero =>
    intro i ys hd hy h
    refine Ev.step (fun k => by rw [laws_toIntS.l0]) ?_
    exact Ev_neg (by omega) (Ev_some (ext_getD hy (fun j hj => h j (by omega))))
  | succ d ih =>
    intro i ys hd hy h
    refine Ev.step (fun k => by rw [laws_toIntS.l0]) ?_
    refine Ev_pos (by omega) (Ev_pos (by omega) (Ev_pos (by omega) ?_))
    rw [wrap_succ (by omega)]
    refine ih (i + 1) _ (by omega) (by rw [List.length_set]; exact hy) ?_
    intro j hj
    rw [Int.toNat_natCast, rd_nat]
    by_cases e : j = i
    · subst e; rw [getD_lt _ _ _ (by rw [List.length_set]; omega)]; simp
    · rw [← h j (by omega)]; simp only [List.getD_eq_getElem?_getD]; rw [List.getElem?_set_ne (by omega)]
theorem toIntS_ev (l : List Int) (hl : l.length ≤ 1048576) : Ev (fun k => laws_toIntS.f k l) l := by
  unfold laws_toIntS.f
  refine Ev_pos (by omega) (Ev_pos (by omega) ?_)
  exact toIntS_l0 l hl _ 0 _ rfl (by simp) (fun j hj => by omega)
theorem eqIntS_l0 (a b : List Int) (hl : a.length = b.length) (hs : a.length ≤ 4611686018427387000) : ∀ (d i : Nat), a.length - i = d → i ≤ a.length → Ev (fun k => laws_eqIntS.l0 k a b (i : Int)) (decide (a.drop i = b.drop i)) := by
  intro d
  induction d with
  | zero =>
    intro i hd hi
    refine Ev.step (fun k => by rw [laws_eqIntS.l0]) ?_
    refine Ev_neg (by omega) (Ev_some ?_)
    rw [List.drop_eq_nil_of_le (by omega), List.drop_eq_nil_of_le (by omega)]; rfl
  | succ d ih =>
    intro i hd hi
    refine Ev.step (fun k => by rw [laws_eqIntS.l0]) ?_
    refine Ev_pos (by omega) (Ev_pos (by omega) (Ev_pos (by omega) ?_))
    rw [rd_nat, rd_nat, getD_lt _ _ _ (by omega), getD_lt _ _ _ (by omega), wrap_succ (by omega), List.drop_eq_getElem_cons (show i < a.length by omega), List.drop_eq_getElem_cons (show i < b.length by omega)]
    by_cases e : a[i] = b[i]'(by omega)
    · refine Ev_pos e (Ev_eq (ih (i + 1) (by omega) (by omega)) ?_)
      exact dec_eq (by rw [e, List.cons.injEq]; exact ⟨fun h => ⟨rfl, h⟩, fun h => h.2⟩)
    · refine Ev_neg e (Ev_some ?_)
      symm; rw [decide_eq_false_iff_not, List.cons.injEq]
      exact fun h => e h.1
theorem eqIntS_ev (a b : List Int) (hs : a.length ≤ 4611686018427387000) : Ev (fun k => laws_eqIntS.f k a b) (decide (a = b)) := by
  unfold laws_eqIntS.f
  by_cases hl : a.length = b.length
  · exact Ev_pos (by omega) (eqIntS_l0 a b hl hs _ 0 rfl (by omega))
  · refine Ev_neg (by omega) (Ev_some ?_)
    rw [eq_comm, decide_eq_false_iff_not]; intro e; exact hl (by rw [e])
theorem eqIntS_refl (a : List Int) (hs : a.length ≤ 4611686018427387000) : Ev (fun k => laws_eqIntS.f k a a) true := Ev_eq (eqIntS_ev a a hs) (by simp)
theorem szIntS_eq (r : List Int) (a : Int) (h0 : 0 ≤ a) (h1 : a ≤ 1048576) (hr : r.length ≤ maxLen) : laws_szIntS.f r a = some (if a - (r.length : Int) < 0 then -1 else a - (r.length : Int)) := by
  unfold laws_szIntS.f
  have e : wrap64 (a - (r.length : Int)) = a - (r.length : Int) := by simp only [maxLen] at hr; unfold wrap64; omega
  rw [e]; split <;> rfl
theorem szIntSS_l0 (l : List (List Int)) (hl : l.length ≤ 1048576) (hr : ∀ r ∈ l, r.length ≤ maxLen) : ∀ (d i : Nat) (a : Int), l.length - i = d → i ≤ l.length → 0 ≤ a → a ≤ 1048576 →
    (∀ j, j < i → (l.getD j []).length ≤ 1048576) → ∃ t, Ev (fun k => laws_szIntSS.l0 k l a (i : Int)) t ∧ (0 ≤ t → ∀ j, j < l.length → (l.getD j []).length ≤ 1048576) := by
  intro d
  induction d with
  | zero =>
    intro i a hd hi h0 h1 h
    refine ⟨a, Ev.step (fun _ => rfl) (Ev_neg (by omega) (Ev_some rfl)), fun _ j hj => h j (by omega)⟩
  | succ d ih =>
    intro i a hd hi h0 h1 h
    have hm := hr _ (getD_mem (z := []) (show i < l.length by omega))
    by_cases c : a - ((l.getD i []).length : Int) < 0
    · refine ⟨-1, Ev.step (fun _ => rfl) (Ev_pos (by omega) (Ev_pos (by omega) ?_)), fun hh => by omega⟩
      rw [rdL_nat, szIntS_eq _ _ h0 h1 hm, if_pos c]
      exact Ev_val rfl (Ev_pos (by decide) (Ev_some rfl))
    · obtain ⟨t, ht, hh⟩ := ih (i + 1) (a - ((l.getD i []).length : Int)) (by omega) (by omega) (by omega) (by omega) (fun j hj => by
        by_cases e : j = i
        · rw [e]; omega
        · exact h j (by omega))
      refine ⟨t, Ev.step (fun _ => rfl) (Ev_pos (by omega) (Ev_pos (by omega) ?_)), hh⟩
      rw [rdL_nat, szIntS_eq _ _ h0 h1 hm, if_neg c, wrap_succ (by omega)]
      exact Ev_val rfl (Ev_neg c ht)
theorem szMatrix_ev (l : List (List Int)) (hl : l.length ≤ maxLen) (hr : ∀ r ∈ l, Open.Fits r) : ∃ t, Ev (fun k => laws_szMatrix.f k l 1048576) t ∧ (0 ≤ t → Small l) := by
  unfold laws_szMatrix.f laws_szIntSS.f
  have e : wrap64 (1048576 - (l.length : Int)) = 1048576 - (l.length : Int) := by simp only [maxLen] at hl; unfold wrap64; omega
  rw [e]
  by_cases c : 1048576 - (l.length : Int) < 0
  · exact ⟨-1, Ev.bind (Ev_pos c (Ev_some rfl)) (Ev_pos (by decide) (Ev_some rfl)), fun h => by omega⟩
  · obtain ⟨t, ht, hh⟩ := szIntSS_l0 l (by omega) (fun r h => (hr r h).1) _ 0 (1048576 - (l.length : Int)) rfl (by omega) (by omega) (by omega) (fun j hj => by omega)
    refine ⟨if t < 0 then -1 else t, Ev.bind (Ev_neg c ht) ?_, fun h => ⟨by omega, fun r h2 => ?_⟩⟩
    · by_cases c2 : t < 0
      · exact Ev_eq (Ev_pos c2 (Ev_some rfl)) (if_pos c2).symm
      · exact Ev_eq (Ev_neg c2 (Ev_some rfl)) (if_neg c2).symm
    · obtain ⟨j, hj, rfl⟩ := List.getElem_of_mem h2
      have := hh (by by_cases c2 : t < 0
                     · rw [if_pos c2] at h; omega
                     · omega) j hj
      rwa [getD_lt _ _ _ hj] at this
theorem toIntSS_l0 (l : List (List Int)) (hs : Small l) : ∀ (d i : Nat) (ys : List (List Int)), l.length - i = d → ys.length = l.length → (∀ j, j < i → ys.getD j [] = l.getD j []) →
    Ev (fun k => laws_toIntSS.l0 k l ys (i : Int)) l := by
  intro d
  have hl := hs.1
  induction d with
  | zero =>
    intro i ys hd hy h
    refine Ev.step (fun k => by rw [laws_toIntSS.l0]) ?_
    exact Ev_neg (by omega) (Ev_some (ext_getL hy (fun j hj => h j (by omega))))
  | succ d ih =>
    intro i ys hd hy h
    refine Ev.step (fun k => by rw [laws_toIntSS.l0]) ?_
    refine Ev_pos (by omega) (Ev_pos (by omega) ?_)
    rw [rdL_nat, wrap_succ (by omega), Int.toNat_natCast]
    refine Ev.bind (toIntS_ev _ (hs.2 _ (getD_mem (by omega)))) (Ev_pos (by omega) ?_)
    refine ih (i + 1) _ (by omega) (by rw [List.length_set]; exact hy) ?_
    intro j hj
    by_cases e : j = i
    · subst e; rw [getD_lt _ _ _ (by rw [List.length_set]; omega)]; simp
    · rw [← h j (by omega)]; simp only [List.getD_eq_getElem?_getD]; rw [List.getElem?_set_ne (by omega)]
theorem toMatrix_ev (l : List (List Int)) (hs : Small l) : Ev (fun k => laws_toMatrix.f k l) l := by
  have hl := hs.1
  unfold laws_toMatrix.f laws_toIntSS.f
  exact Ev.bind (Ev_pos (by omega) (Ev_pos (by omega) (toIntSS_l0 l hs _ 0 _ rfl (by simp) (fun j hj => by omega)))) (Ev_some rfl)
theorem eqIntSS_refl (l : List (List Int)) (hl : l.length ≤ 4611686018427387000) (hr : ∀ r ∈ l, r.length ≤ 4611686018427387000) : Ev (fun k => laws_eqIntSS.f k l l) true := by
  unfold laws_eqIntSS.f
  refine Ev_pos rfl ?_
  refine (Ev_for (l := fun k (_ : Unit) i => laws_eqIntSS.l0 k l l (i : Int)) l.length (fun s _ => s) (fun _ => true) (fun _ _ => True) (fun _ _ _ _ => trivial) ?_ ?_ 0 () (by omega) trivial).1
  · intro i s hi _ r hr'
    refine Ev.step (fun k => by rw [laws_eqIntSS.l0]) ?_
    rw [rdL_nat, wrap_succ (by omega)]
    exact Ev_pos (by omega) (Ev_pos (by omega) (Ev_pos (by omega) (Ev.bind (eqIntS_refl _ (hr _ (getD_mem hi))) (Ev_pos rfl hr'))))
  · intro s _
    refine Ev.step (fun k => by rw [laws_eqIntSS.l0]) ?_
    exact Ev_neg (by omega) (Ev_some rfl)
theorem eqMatrix_refl (l : List (List Int)) (hl : l.length ≤ 4611686018427387000) (hr : ∀ r ∈ l, r.length ≤ 4611686018427387000) : Ev (fun k => laws_eqMatrix.f k l l) true := by
  unfold laws_eqMatrix.f
  exact Ev.bind (eqIntSS_refl l hl hr) (Ev_pos rfl (Ev_some rfl))
theorem eqMatrix_small (l : List (List Int)) (hs : Small l) : Ev (fun k => laws_eqMatrix.f k l l) true := eqMatrix_refl l (by have := hs.1; omega) (fun r hr => by have := hs.2 r hr; omega)
/-- The sum of f 0, .., f (n - 1). -/
def sumZ : Nat → (Nat → Int) → Int
  | 0, _ => 0
  | n + 1, f => sumZ n f + f n
theorem sumZ_congr {n : Nat} {f g : Nat → Int} (h : ∀ i, i < n → f i = g i) : sumZ n f = sumZ n g := by
  induction n with
  | zero => rfl
  | succ n ih => rw [sumZ, sumZ, ih (fun i hi => h i (by omega)), h n (by omega)]
theorem sumZ_bound {n : Nat} {f : Nat → Int} {B : Int} (hB : 0 ≤ B) (h : ∀ i, i < n → 0 ≤ f i ∧ f i ≤ B) : 0 ≤ sumZ n f ∧ sumZ n f ≤ n * B := by
  induction n with
  | zero => simp [sumZ]
  | succ n ih =>
    have h1 := ih (fun i hi => h i (by omega))
    have h2 := h n (by omega)
    rw [sumZ, show ((n + 1 : Nat) : Int) * B = n * B + B from by rw [Int.natCast_add, Int.add_mul]; simp]
    omega
theorem sumZ_nonneg {n : Nat} {f : Nat → Int} (h : ∀ i, i < n → 0 ≤ f i) : 0 ≤ sumZ n f := by
  induction n with
  | zero => simp [sumZ]
  | succ n ih => have := ih (fun i hi => h i (by omega)); have := h n (by omega); rw [sumZ]; omega
theorem sumZ_term {n : Nat} {f : Nat → Int} (h : ∀ i, i < n → 0 ≤ f i) {i : Nat} (hi : i < n) : f i ≤ sumZ n f := by
  induction n with
  | zero => omega
  | succ n ih =>
    have h0 := sumZ_nonneg (n := n) (fun j hj => h j (by omega))
    rw [sumZ]
    by_cases e : i = n
    · rw [e]; omega
    · have := ih (fun j hj => h j (by omega)) (by omega); have := h n (by omega); omega
theorem sumZ_zero {n : Nat} {f : Nat → Int} (h : ∀ i, i < n → 0 ≤ f i) : sumZ n f = 0 ↔ ∀ i, i < n → f i = 0 := by
  refine ⟨fun h0 i hi => ?_, fun h0 => ?_⟩
  · have := sumZ_term h hi; have := h i hi; omega
  · rw [sumZ_congr (g := fun _ => 0) h0]
    clear h h0
    induction n with
    | zero => rfl
    | succ n ih => rw [sumZ, ih]; rfl
/-- The number in row i and column j. -/
def en (m : List (List Int)) (i j : Nat) : Int := (m.getD i []).getD j 0
def Cells (m : List (List Int)) : Prop := ∀ i, i < m.length → (m.getD i []).length = m.length ∧ ∀ j, j < m.length → 0 ≤ en m i j ∧ en m i j ≤ 12 ∧ (j < i → en m i j = 0)
def rowZ (m : List (List Int)) (i : Nat) : Int := sumZ m.length (fun j => en m i j)
def colZ (m : List (List Int)) (j : Nat) : Int := sumZ m.length (fun i => en m i j)
def allZ (m : List (List Int)) : Int := sumZ m.length (fun i => rowZ m i)
def isMat (m : List (List Int)) : Prop := m.length ≤ 12 ∧ Cells m ∧ (∀ i, i < m.length → rowZ m i ≠ 0) ∧ (∀ j, j < m.length → colZ m j ≠ 0) ∧ allZ m ≤ 12
instance (m : List (List Int)) : Decidable (Cells m) := inferInstanceAs (Decidable (∀ i, i < m.length → _))
instance (m : List (List Int)) : Decidable (isMat m) := inferInstanceAs (Decidable (_ ∧ _))
theorem Cells.row {m : List (List Int)} (h : Cells m) {i : Nat} (hi : i < m.length) : 0 ≤ rowZ m i ∧ rowZ m i ≤ m.length * 12 := sumZ_bound (by decide) (fun j hj => ⟨((h i hi).2 j hj).1, ((h i hi).2 j hj).2.1⟩)
theorem Cells.nn {m : List (List Int)} (h : Cells m) {i j : Nat} (hi : i < m.length) (hj : j < m.length) : 0 ≤ en m i j := ((h i hi).2 j hj).1
theorem Cells.le {m : List (List Int)} (h : Cells m) {i j : Nat} (hi : i < m.length) (hj : j < m.length) : en m i j ≤ 12 := ((h i hi).2 j hj).2.1
def rowsL (m : List (List Int)) : List Int := (List.range m.length).map fun (i : Nat) => rowZ m i
def colsL (m : List (List Int)) : List Int := (List.range m.length).map fun (j : Nat) => colZ m j
theorem mapR_length (n : Nat) (f : Nat → Int) : ((List.range n).map f).length = n := by simp
theorem mapR_getD (n : Nat) (f : Nat → Int) {i : Nat} (h : i < n) : ((List.range n).map f).getD i 0 = f i := by rw [getD_lt _ _ _ (by simpa using h)]; simp
theorem maTotal_ev (row : List Int) (hl : row.length ≤ 1000000) (hb : ∀ j, j < row.length → 0 ≤ row.getD j 0 ∧ row.getD j 0 ≤ 1000000) : Ev (fun k => spec_maTotal.f k row) (sumZ row.length (fun j => row.getD j 0)) := by
  unfold spec_maTotal.f
  have main : ∀ (d i : Nat), row.length - i = d → i ≤ row.length → Ev (fun k => spec_maTotal.l0 k (sumZ i (fun j => row.getD j 0)) row (row.length : Int) (i : Int)) (sumZ row.length (fun j => row.getD j 0)) := by
    intro d
    induction d with
    | zero =>
      intro i hd hi
      obtain rfl : i = row.length := by omega
      exact Ev.step (fun _ => rfl) (Ev_neg (by omega) (Ev_some rfl))
    | succ d ih =>
      intro i hd hi
      refine Ev.step (fun _ => rfl) (Ev_pos (by omega) (Ev_pos (by omega) (Ev_pos (by omega) ?_)))
      have h1 := sumZ_bound (n := i) (f := fun j => row.getD j 0) (B := 1000000) (by decide) (fun j hj => hb j (by omega))
      have h2 := hb i (by omega)
      rw [rd_nat, wrap_succ (by omega), wrap_small (by omega) (by omega)]
      exact ih (i + 1) (by omega) (by omega)
  exact main _ 0 rfl (by omega)
theorem Cells.rowT {m : List (List Int)} (h : Cells m) (hd : m.length ≤ 12) {i : Nat} (hi : i < m.length) : Ev (fun k => spec_maTotal.f k (m.getD i [])) (rowZ m i) := by
  have hl := (h i hi).1
  have := maTotal_ev (m.getD i []) (by omega) (fun j hj => ⟨h.nn hi (by omega), by have := h.le hi (show j < m.length by omega); simp only [en] at this; omega⟩)
  rw [hl] at this
  exact this
theorem maSum_ev (m : List (List Int)) (hd : m.length ≤ 12) (h : Cells m) : Ev (fun k => spec_maSum.f k m) (allZ m) := by
  unfold spec_maSum.f
  have main : ∀ (d i : Nat), m.length - i = d → i ≤ m.length → Ev (fun k => spec_maSum.l0 k (sumZ i (fun i => rowZ m i)) m (m.length : Int) (i : Int)) (allZ m) := by
    intro d
    induction d with
    | zero =>
      intro i hd hi
      obtain rfl : i = m.length := by omega
      exact Ev.step (fun _ => rfl) (Ev_neg (by omega) (Ev_some rfl))
    | succ d ih =>
      intro i hd' hi
      refine Ev.step (fun _ => rfl) (Ev_pos (by omega) (Ev_pos (by omega) (Ev_pos (by omega) ?_)))
      have h1 := sumZ_bound (n := i) (f := fun i => rowZ m i) (B := 144) (by decide) (fun j hj => by have := h.row (show j < m.length by omega); omega)
      have h2 := h.row (show i < m.length by omega)
      rw [rdL_nat, wrap_succ (by omega)]
      refine Ev.bind (h.rowT hd (by omega)) ?_
      rw [wrap_small (by omega) (by omega)]
      exact ih (i + 1) (by omega) (by omega)
  exact main _ 0 rfl (by omega)
def colL (m : List (List Int)) (j : Nat) : List Int := (List.range m.length).map fun (i : Nat) => en m i j
theorem maColumn_ev (m : List (List Int)) (hd : m.length ≤ 12) (h : Cells m) (j : Nat) (hj : j < m.length) : Ev (fun k => spec_maColumn.f k m (j : Int)) (colL m j) := by
  unfold spec_maColumn.f
  have main : ∀ (d i : Nat), m.length - i = d → i ≤ m.length → Ev (fun k => spec_maColumn.l0 k (j : Int) ((List.range i).map fun (i : Nat) => en m i j) m (m.length : Int) (i : Int)) (colL m j) := by
    intro d
    induction d with
    | zero =>
      intro i hd hi
      obtain rfl : i = m.length := by omega
      exact Ev.step (fun _ => rfl) (Ev_neg (by omega) (Ev_some rfl))
    | succ d ih =>
      intro i hd' hi
      refine Ev.step (fun _ => rfl) (Ev_pos (by omega) (Ev_pos (by omega) (Ev_pos (by omega) ?_)))
      have hl := (h i (by omega)).1
      rw [rdL_nat, rd_nat, wrap_succ (by omega)]
      refine Ev_pos (by omega) (Ev_pos (by omega) (Ev_pos (by simp; omega) ?_))
      have := ih (i + 1) (by omega) (by omega)
      rw [List.range_succ, List.map_append] at this
      exact this
  exact main _ 0 rfl (by omega)
def mostL (row : List Int) : Int := foldFrom row.length (fun s i => if row.getD i 0 > s then row.getD i 0 else s) (-1) 0
theorem l1Most_eq (a b : Int) : spec_l1Most.f a b = some (if b > a then b else a) := by
  unfold spec_l1Most.f
  by_cases h : a > b
  · rw [if_pos h, if_neg (by omega)]
  · rw [if_neg h]
    by_cases h2 : b > a
    · rw [if_pos h2]
    · rw [if_neg h2, show a = b from by omega]
theorem ivMost_ev (row : List Int) (hl : row.length ≤ 1000000) : Ev (fun k => spec_ivMost.f k row) (mostL row) := by
  unfold spec_ivMost.f
  refine (Ev_for (l := fun k s i => spec_ivMost.l0 k s row (row.length : Int) (i : Int)) row.length (fun s i => if row.getD i 0 > s then row.getD i 0 else s) id (fun _ _ => True) (fun _ _ _ _ => trivial) ?_ ?_ 0 (-1) (by omega) trivial).1
  · intro i s hi _ r hr
    refine Ev.step (fun _ => rfl) (Ev_pos (by omega) (Ev_pos (by omega) (Ev_pos (by omega) ?_)))
    rw [rd_nat, wrap_succ (by omega), l1Most_eq]
    exact Ev_val rfl hr
  · intro s _
    exact Ev.step (fun _ => rfl) (Ev_neg (by omega) (Ev_some rfl))
theorem mostL_zero {row : List Int} (hp : 0 < row.length) (h : ∀ j, j < row.length → 0 ≤ row.getD j 0) : mostL row = 0 ↔ ∀ j, j < row.length → row.getD j 0 = 0 := by
  have main : ∀ (d i : Nat) (s : Int), row.length - i = d → i ≤ row.length → (s = -1 ∧ i = 0 ∨ 0 ≤ s) → (foldFrom row.length (fun s i => if row.getD i 0 > s then row.getD i 0 else s) s i = 0 ↔ (s ≤ 0 ∧ ∀ j, i ≤ j → j < row.length → row.getD j 0 = 0)) := by
    intro d
    induction d with
    | zero =>
      intro i s hd hi hs
      rw [foldFrom_ge (by omega)]
      exact ⟨fun h0 => ⟨by omega, fun j hij hj => by omega⟩, fun h0 => by omega⟩
    | succ d ih =>
      intro i s hd hi hs
      have h1 := h i (by omega)
      rw [foldFrom_lt (by omega)]
      by_cases c : row.getD i 0 > s
      · rw [if_pos c, ih (i + 1) _ (by omega) (by omega) (.inr h1)]
        refine ⟨fun ⟨h2, h3⟩ => ⟨by omega, fun j hij hj => ?_⟩, fun ⟨h2, h3⟩ => ⟨by have := h3 i (by omega) (by omega); omega, fun j hij hj => h3 j (by omega) hj⟩⟩
        by_cases e : j = i
        · rw [e]; omega
        · exact h3 j (by omega) hj
      · rw [if_neg c, ih (i + 1) _ (by omega) (by omega) (.inr (by omega))]
        refine ⟨fun ⟨h2, h3⟩ => ⟨by omega, fun j hij hj => ?_⟩, fun ⟨h2, h3⟩ => ⟨h2, fun j hij hj => h3 j (by omega) hj⟩⟩
        by_cases e : j = i
        · rw [e]; omega
        · exact h3 j (by omega) hj
  unfold mostL
  rw [main _ 0 (-1) rfl (by omega) (.inl ⟨rfl, rfl⟩)]
  exact ⟨fun h0 j hj => h0.2 j (by omega) hj, fun h0 => ⟨by omega, fun j _ hj => h0 j hj⟩⟩
theorem l1In_eq (a b c : Int) : spec_l1In.f a b c = some (decide (b ≤ a ∧ a ≤ c)) := by
  unfold spec_l1In.f
  by_cases h : a ≥ b
  · rw [if_pos h]; have : b ≤ a := h; simp [this]
  · rw [if_neg h]; simp; omega
theorem l1All_ev (l : List Int) (lo hi : Int) (hs : l.length ≤ 4611686018427387000) : Ev (fun k => spec_l1All.f k l lo hi) (decide (∀ j, j < l.length → lo ≤ l.getD j 0 ∧ l.getD j 0 ≤ hi)) := by
  unfold spec_l1All.f
  refine Ev_eq (Ev_all (fun k i => spec_l1All.l0 k lo hi l (l.length : Int) (i : Int)) l.length (fun j => decide (lo ≤ l.getD j 0 ∧ l.getD j 0 ≤ hi)) true ?_ ?_ ?_) ?_
  · intro i hi' _ hP q hq
    refine Ev.step (fun _ => rfl) (Ev_pos (by omega) (Ev_pos (by omega) (Ev_pos (by omega) ?_)))
    rw [rd_nat, wrap_succ (by omega), l1In_eq]
    exact Ev_val rfl (Ev_pos hP hq)
  · intro i hi' _ hP
    refine Ev.step (fun _ => rfl) (Ev_pos (by omega) (Ev_pos (by omega) (Ev_pos (by omega) ?_)))
    rw [rd_nat, l1In_eq]
    exact Ev_val rfl (Ev_neg (by rw [hP]; decide) (Ev_some rfl))
  · intro _
    exact Ev.step (fun _ => rfl) (Ev_neg (by omega) (Ev_some rfl))
  · rw [Bool.and_true]; exact dec_eq ⟨fun h j hj => of_decide_eq_true (h j hj), fun h j hj => decide_eq_true (h j hj)⟩
/-- What the reference asks of row i. -/
def rowOk (m : List (List Int)) (i : Nat) : Prop := (m.getD i []).length = m.length ∧ (∀ j, j < m.length → 0 ≤ en m i j ∧ en m i j ≤ 12) ∧ rowZ m i ≠ 0 ∧ ∀ j, j < m.length → j < i → en m i j = 0
instance (m : List (List Int)) (i : Nat) : Decidable (rowOk m i) := inferInstanceAs (Decidable (_ ∧ _ ∧ _ ∧ ∀ j, j < m.length → _))
theorem cells_of_rows {m : List (List Int)} (h : ∀ i, i < m.length → rowOk m i) : Cells m := fun i hi => ⟨(h i hi).1, fun j hj => ⟨((h i hi).2.1 j hj).1, ((h i hi).2.1 j hj).2, fun hji => (h i hi).2.2.2 j hj hji⟩⟩
theorem rowMost (m : List (List Int)) (i : Nat) (hi : i < m.length) (hl : (m.getD i []).length = m.length) (hw : ∀ j, j < m.length → 0 ≤ en m i j ∧ en m i j ≤ 12) : mostL (m.getD i []) = 0 ↔ rowZ m i = 0 := by
  rw [mostL_zero (by omega) (fun j hj => (hw j (by omega)).1), rowZ, sumZ_zero (fun j hj => (hw j hj).1), hl]
  exact Iff.rfl
theorem maGood_l1 (m : List (List Int)) (hd : m.length ≤ 12) (i : Nat) (hi : i < m.length) (hl : (m.getD i []).length = m.length) (hw : ∀ j, j < m.length → 0 ≤ en m i j ∧ en m i j ≤ 12) (q : Bool)
    (hq : (∀ j, j < m.length → j < i → en m i j = 0) → Ev (fun k => spec_maGood.l0 k (m.length : Int) m (m.length : Int) ((i + 1 : Nat) : Int) m) q) :
    Ev (fun k => spec_maGood.l1 k (m.length : Int) (i : Int) m (m.length : Int) (i : Int) (m.getD i []) ((m.getD i []).length : Int) 0 m) (decide (∀ j, j < m.length → j < i → en m i j = 0) && q) := by
  rw [hl]
  refine Ev_eq (Ev_all (fun k j => spec_maGood.l1 k (m.length : Int) (i : Int) m (m.length : Int) (i : Int) (m.getD i []) (m.length : Int) (j : Int) m) m.length (fun j => decide (j < i → en m i j = 0)) q ?_ ?_ ?_) ?_
  · intro j hj _ hP r hr
    refine Ev.step (fun _ => rfl) (Ev_pos (by omega) (Ev_pos (by omega) (Ev_pos (by omega) ?_)))
    rw [rd_nat, wrap_succ (by omega)]
    have hP := of_decide_eq_true hP
    by_cases c : j < i
    · exact Ev_pos (by omega) (Ev_neg (by have := hP c; simp only [en] at this; omega) hr)
    · exact Ev_neg (by omega) hr
  · intro j hj _ hP
    refine Ev.step (fun _ => rfl) (Ev_pos (by omega) (Ev_pos (by omega) (Ev_pos (by omega) ?_)))
    rw [rd_nat]
    have hP := of_decide_eq_false hP
    have h1 := hw j hj
    have h2 : en m i j ≠ 0 := fun h => hP (fun _ => h)
    have h3 : j < i := by
      by_cases c : j < i
      · exact c
      · exact absurd (fun h => absurd h c) hP
    exact Ev_pos (by omega) (Ev_pos (by simp only [en] at h1 h2; omega) (Ev_some rfl))
  · intro h
    refine Ev.step (fun _ => rfl) (Ev_neg (by omega) ?_)
    rw [wrap_succ (by omega)]
    exact hq (fun j hj => of_decide_eq_true (h j hj))
  · congr 1; exact dec_eq ⟨fun h j hj => of_decide_eq_true (h j hj), fun h j hj => decide_eq_true (h j hj)⟩
theorem maGood_l2 (m : List (List Int)) (hd : m.length ≤ 12) (h : Cells m) : Ev (fun k => spec_maGood.l2 k (m.length : Int) 0 m) (decide ((∀ j, j < m.length → colZ m j ≠ 0) ∧ allZ m ≤ 12)) := by
  refine Ev_eq (Ev_all (fun k j => spec_maGood.l2 k (m.length : Int) (j : Int) m) m.length (fun j => decide (colZ m j ≠ 0)) (decide (allZ m ≤ 12)) ?_ ?_ ?_) ?_
  all_goals first
    | (intro j hj _ hP r hr
       refine Ev.step (fun _ => rfl) (Ev_pos (by omega) (Ev.bind (maColumn_ev m hd h j hj) (Ev.bind (ivMost_ev _ (by simp [colL]; omega)) ?_)))
       have hP := of_decide_eq_true hP
       have e : mostL (colL m j) = 0 ↔ colZ m j = 0 := by
         rw [mostL_zero (by simp [colL]; omega) (fun i hi => by rw [colL, mapR_getD _ _ (by simpa [colL] using hi)]; exact h.nn (by simpa [colL] using hi) hj), colZ, sumZ_zero (fun i hi => h.nn hi hj)]
         simp only [colL, mapR_length]
         exact ⟨fun h2 i hi => by have := h2 i hi; rwa [mapR_getD _ _ hi] at this, fun h2 i hi => by rw [mapR_getD _ _ hi]; exact h2 i hi⟩
       rw [wrap_succ (by omega)]
       exact Ev_neg (fun hh => hP (e.1 hh)) hr)
    | (intro j hj _ hP
       refine Ev.step (fun _ => rfl) (Ev_pos (by omega) (Ev.bind (maColumn_ev m hd h j hj) (Ev.bind (ivMost_ev _ (by simp [colL]; omega)) ?_)))
       have hP := of_decide_eq_false hP
       have e : mostL (colL m j) = 0 ↔ colZ m j = 0 := by
         rw [mostL_zero (by simp [colL]; omega) (fun i hi => by rw [colL, mapR_getD _ _ (by simpa [colL] using hi)]; exact h.nn (by simpa [colL] using hi) hj), colZ, sumZ_zero (fun i hi => h.nn hi hj)]
         simp only [colL, mapR_length]
         exact ⟨fun h2 i hi => by have := h2 i hi; rwa [mapR_getD _ _ hi] at this, fun h2 i hi => by rw [mapR_getD _ _ hi]; exact h2 i hi⟩
       exact Ev_pos (e.2 (Decidable.of_not_not hP)) (Ev_some rfl))
    | (intro _
       exact Ev.step (fun _ => rfl) (Ev_neg (by omega) (Ev.bind (maSum_ev m hd h) (Ev_some rfl))))
    | skip
  rw [Bool.decide_and]; congr 1; exact dec_eq ⟨fun h j hj => of_decide_eq_true (h j hj), fun h j hj => decide_eq_true (h j hj)⟩
theorem maGood_ev (m : List (List Int)) (hs : Small m) : Ev (fun k => spec_maGood.f k m) (decide (isMat m)) := by
  unfold spec_maGood.f
  by_cases hd : m.length ≤ 12
  · refine Ev_neg (by omega) ?_
    by_cases hC : Cells m ∧ ∀ i, i < m.length → rowZ m i ≠ 0
    · have key : ∀ (d i : Nat), m.length - i = d → i ≤ m.length → Ev (fun k => spec_maGood.l0 k (m.length : Int) m (m.length : Int) (i : Int) m) (decide ((∀ j, j < m.length → colZ m j ≠ 0) ∧ allZ m ≤ 12)) := by
        intro d
        induction d with
        | zero =>
          intro i hdi hi
          exact Ev.step (fun _ => rfl) (Ev_neg (by omega) (maGood_l2 m hd hC.1))
        | succ d ih =>
          intro i hdi hi
          have hl := (hC.1 i (by omega)).1
          have hw : ∀ j, j < m.length → 0 ≤ en m i j ∧ en m i j ≤ 12 := fun j hj => ⟨hC.1.nn (by omega) hj, hC.1.le (by omega) hj⟩
          refine Ev.step (fun _ => rfl) (Ev_pos (by omega) (Ev_pos (by omega) (Ev_pos (by omega) ?_)))
          rw [rdL_nat]
          refine Ev_pos (by omega) (Ev.bind (l1All_ev _ 0 12 (by omega)) (Ev_pos (decide_eq_true (fun j hj => hw j (by omega))) (Ev.bind (ivMost_ev _ (by omega)) ?_)))
          refine Ev.step (fun _ => rfl) (Ev_neg ?_ ?_)
          · rw [beq_iff_eq, rowMost m i (by omega) hl hw]; exact hC.2 i (by omega)
          · refine Ev_eq (maGood_l1 m hd i (by omega) hl hw _ (fun _ => ih (i + 1) (by omega) (by omega))) ?_
            rw [decide_eq_true (fun j hj hji => ((hC.1 i (by omega)).2 j hj).2.2 hji), Bool.true_and]
      refine Ev_eq (key _ 0 rfl (by omega)) (dec_eq ⟨fun h => ⟨hd, hC.1, hC.2, h.1, h.2⟩, fun h => ⟨h.2.2.2.1, h.2.2.2.2⟩⟩)
    · have key : ∀ (d i : Nat), m.length - i = d → i ≤ m.length → (∀ j, j < i → rowOk m j) → Ev (fun k => spec_maGood.l0 k (m.length : Int) m (m.length : Int) (i : Int) m) false := by
        intro d
        induction d with
        | zero =>
          intro i hdi hi h
          exact absurd ⟨cells_of_rows (fun j hj => h j (by omega)), fun j hj => (h j (by omega)).2.2.1⟩ hC
        | succ d ih =>
          intro i hdi hi h
          have hout : ∀ (b : Bool), b = true → Ev (fun k => spec_maGood.j1 k (m.length : Int) (i : Int) (m.getD i []) m (m.length : Int) (i : Int) b m) false := fun b hb =>
            Ev.step (fun _ => rfl) (Ev_pos hb (Ev_some rfl))
          refine Ev.step (fun _ => rfl) (Ev_pos (by omega) (Ev_pos (by omega) (Ev_pos (by omega) ?_)))
          rw [rdL_nat]
          have hsm := hs.2 _ (getD_mem (z := []) (show i < m.length by omega))
          by_cases c1 : (m.getD i []).length = m.length
          · refine Ev_pos (by omega) (Ev.bind (l1All_ev _ 0 12 (by omega)) ?_)
            by_cases c2 : ∀ j, j < (m.getD i []).length → 0 ≤ (m.getD i []).getD j 0 ∧ (m.getD i []).getD j 0 ≤ 12
            · have hw : ∀ j, j < m.length → 0 ≤ en m i j ∧ en m i j ≤ 12 := fun j hj => c2 j (by omega)
              refine Ev_pos (decide_eq_true c2) (Ev.bind (ivMost_ev _ (by omega)) ?_)
              by_cases c3 : rowZ m i = 0
              · exact hout _ (by rw [beq_iff_eq, rowMost m i (by omega) c1 hw]; exact c3)
              · refine Ev.step (fun _ => rfl) (Ev_neg (by rw [beq_iff_eq, rowMost m i (by omega) c1 hw]; exact c3) ?_)
                refine Ev_eq (maGood_l1 m hd i (by omega) c1 hw false (fun h4 => ih (i + 1) (by omega) (by omega) (fun j hj => ?_))) (by simp)
                by_cases e : j = i
                · rw [e]; exact ⟨c1, hw, c3, h4⟩
                · exact h j (by omega)
            · exact Ev_neg (by simpa using c2) (hout _ rfl)
          · exact Ev_neg (by omega) (hout _ rfl)
      refine Ev_eq (key _ 0 rfl (by omega) (fun j hj => by omega)) ?_
      symm; rw [decide_eq_false_iff_not]; exact fun h => hC ⟨h.2.1, h.2.2.1⟩
  · refine Ev_pos (by omega) (Ev_some ?_)
    symm; rw [decide_eq_false_iff_not]; exact fun h => hd h.1
theorem within_eq (a b c : Int) : impl_within.f a b c = some (decide (b ≤ a ∧ a ≤ c)) := by
  unfold impl_within.f
  by_cases h : a ≥ b
  · rw [if_pos h]; have : b ≤ a := h; simp [this]
  · rw [if_neg h]; simp; omega
theorem allWithin_l0 (l : List Int) (lo hi : Int) (hs : l.length ≤ 4611686018427387000) : ∀ (d i : Nat), l.length - i = d → i ≤ l.length →
    Ev (fun k => impl_allWithin.l0 k lo hi l (l.length : Int) (i : Int)) (decide (∀ j, j < l.length → i ≤ j → lo ≤ l.getD j 0 ∧ l.getD j 0 ≤ hi)) := by
  intro d
  induction d with
  | zero =>
    intro i hd hi
    refine Ev.step (fun k => by rw [impl_allWithin.l0]) ?_
    refine Ev_neg (by omega) (Ev_some ?_)
    symm; rw [decide_eq_true_iff]; intro j hj hij; omega
  | succ d ih =>
    intro i hd hi'
    refine Ev.step (fun k => by rw [impl_allWithin.l0]) ?_
    refine Ev_pos (by omega) (Ev_pos (by omega) (Ev_pos (by omega) ?_))
    rw [rd_nat, wrap_succ (by omega), within_eq]
    refine Ev_val rfl ?_
    by_cases c : lo ≤ l.getD i 0 ∧ l.getD i 0 ≤ hi
    · refine Ev_pos (decide_eq_true c) (Ev_eq (ih (i + 1) (by omega) (by omega)) (dec_eq ?_))
      refine ⟨fun hh j hj hij => ?_, fun hh j hj hij => hh j hj (by omega)⟩
      by_cases e : j = i
      · subst e; exact c
      · exact hh j hj (by omega)
    · refine Ev_neg (by simpa using c) (Ev_some ?_)
      symm; rw [decide_eq_false_iff_not]
      intro hh; exact c (hh i (by omega) (by omega))
theorem allWithin_ev (l : List Int) (lo hi : Int) (hs : l.length ≤ 4611686018427387000) : Ev (fun k => impl_allWithin.f k l lo hi) (decide (∀ j, j < l.length → lo ≤ l.getD j 0 ∧ l.getD j 0 ≤ hi)) := by
  unfold impl_allWithin.f
  refine Ev_eq (allWithin_l0 l lo hi hs _ 0 rfl (by omega)) (dec_eq ?_)
  exact ⟨fun h j hj => h j hj (by omega), fun h j hj _ => h j hj⟩
theorem setR (n : Nat) (f g : Nat → Int) (i : Nat) (hi : i < n) (h : ∀ j, j < n → j ≠ i → g j = f j) : ((List.range n).map f).set i (g i) = (List.range n).map g := by
  apply List.ext_getElem (by simp)
  intro j h1 h2
  simp only [List.length_map, List.length_range] at h2
  by_cases e : j = i
  · subst e; simp
  · rw [List.getElem_set_ne (fun x => e x.symm)]; simp [h j h2 e]
theorem replR (n : Nat) : List.replicate n (0 : Int) = (List.range n).map (fun _ => 0) := by
  apply List.ext_getElem (by simp); intro j h1 h2; simp
theorem sums_l1 (m : List (List Int)) (hd : m.length ≤ 12) (h : Cells m) (i : Nat) (hi : i < m.length) (R : List Int × List Int)
    (hR : Ev (fun k => impl_Matrix_sums.l0 k ((List.range m.length).map fun (a : Nat) => if a < i + 1 then rowZ m a else 0) ((List.range m.length).map fun (b : Nat) => sumZ (i + 1) (fun a => en m a b)) m (m.length : Int) ((i + 1 : Nat) : Int)) R) :
    ∀ (d j : Nat), m.length - j = d → j ≤ m.length → Ev (fun k => impl_Matrix_sums.l1 k ((List.range m.length).map fun (a : Nat) => if a < i then rowZ m a else if a = i then sumZ j (fun b => en m i b) else 0)
      ((List.range m.length).map fun (b : Nat) => sumZ i (fun a => en m a b) + if b < j then en m i b else 0) (i : Int) m (m.length : Int) (i : Int) (m.getD i []) (m.length : Int) (j : Int)) R := by
  intro d
  induction d with
  | zero =>
    intro j hdj hj
    obtain rfl : j = m.length := by omega
    refine Ev.step (fun _ => rfl) (Ev_neg (by omega) ?_)
    rw [wrap_succ (by omega)]
    refine (Ev_eq hR rfl).congr (fun k => ?_)
    congr 1
    · apply List.map_congr_left; intro a ha
      by_cases c : a < i
      · rw [if_pos c, if_pos (by omega)]
      · rw [if_neg c]
        by_cases e : a = i
        · rw [if_pos e, if_pos (by omega), e]; rfl
        · rw [if_neg e, if_neg (by omega)]
    · apply List.map_congr_left; intro b hb
      have : b < m.length := by simpa using hb
      rw [if_pos this]; rfl
  | succ d ih =>
    intro j hdj hj
    have hl := (h i hi).1
    have h1 := h.nn hi (show j < m.length by omega)
    have h2 := h.le hi (show j < m.length by omega)
    have h3 := sumZ_bound (n := j) (f := fun b => en m i b) (B := 12) (by decide) (fun b hb => ⟨h.nn hi (by omega), h.le hi (by omega)⟩)
    have h4 := sumZ_bound (n := i) (f := fun a => en m a j) (B := 12) (by decide) (fun a ha => ⟨h.nn (by omega) (show j < m.length by omega), h.le (by omega) (show j < m.length by omega)⟩)
    refine Ev.step (fun _ => rfl) (Ev_pos (by omega) (Ev_pos (by omega) (Ev_pos (by omega) (Ev_pos (by omega) (Ev_pos (by rw [mapR_length]; omega) (Ev_pos (by rw [mapR_length]; omega) ?_))))))
    rw [rd_nat, rd_nat, rd_nat, mapR_getD _ _ hi, mapR_getD _ _ (show j < m.length by omega), if_neg (Nat.lt_irrefl _), if_pos rfl, if_neg (Nat.lt_irrefl _), wrap_succ (by omega), Int.toNat_natCast, Int.toNat_natCast,
      show (m.getD i []).getD j 0 = en m i j from rfl, wrap_small (by omega) (by omega), wrap_small (by omega) (by omega)]
    refine (ih (j + 1) (by omega) (by omega)).congr (fun k => ?_)
    congr 1
    · have := setR m.length (fun a => if a < i then rowZ m a else if a = i then sumZ j (fun b => en m i b) else 0) (fun a => if a < i then rowZ m a else if a = i then sumZ (j + 1) (fun b => en m i b) else 0) i hi (fun a _ hne => by
        by_cases c : a < i
        · rw [if_pos c, if_pos c]
        · rw [if_neg c, if_neg c, if_neg hne, if_neg hne])
      rw [← this, if_neg (Nat.lt_irrefl _), if_pos rfl]; rfl
    · have := setR m.length (fun b => sumZ i (fun a => en m a b) + if b < j then en m i b else 0) (fun b => sumZ i (fun a => en m a b) + if b < j + 1 then en m i b else 0) j (by omega) (fun b _ hne => by
        by_cases c : b < j
        · rw [if_pos c, if_pos (by omega)]
        · rw [if_neg c, if_neg (by omega)])
      rw [← this, if_pos (by omega), Int.add_zero]
theorem sums_ev (m : List (List Int)) (hd : m.length ≤ 12) (h : Cells m) : Ev (fun k => impl_Matrix_sums.f k m) (rowsL m, colsL m) := by
  unfold impl_Matrix_sums.f impl_Matrix_size.f
  refine Ev_val rfl (Ev_pos (by omega) (Ev_pos (by omega) (Ev_val rfl (Ev_pos (by omega) (Ev_pos (by omega) ?_)))))
  rw [Int.toNat_natCast, replR]
  have main : ∀ (d i : Nat), m.length - i = d → i ≤ m.length → Ev (fun k => impl_Matrix_sums.l0 k ((List.range m.length).map fun (a : Nat) => if a < i then rowZ m a else 0) ((List.range m.length).map fun (b : Nat) => sumZ i (fun a => en m a b)) m (m.length : Int) (i : Int)) (rowsL m, colsL m) := by
    intro d
    induction d with
    | zero =>
      intro i hdi hi
      obtain rfl : i = m.length := by omega
      refine Ev.step (fun _ => rfl) (Ev_neg (by omega) (Ev_some ?_))
      unfold rowsL colsL
      congr 1
      apply List.map_congr_left; intro a ha
      rw [if_pos (by simpa using ha)]
    | succ d ih =>
      intro i hdi hi
      refine Ev.step (fun _ => rfl) (Ev_pos (by omega) (Ev_pos (by omega) (Ev_pos (by omega) ?_)))
      rw [rdL_nat, (h i (by omega)).1]
      refine (sums_l1 m hd h i (by omega) _ (ih (i + 1) (by omega) (by omega)) _ 0 rfl (by omega)).congr (fun k => ?_)
      congr 1
      · apply List.map_congr_left; intro a ha
        by_cases c : a < i
        · rw [if_pos c, if_pos c]
        · rw [if_neg c, if_neg c]; split <;> rfl
      · apply List.map_congr_left; intro b hb
        rw [if_neg (by omega), Int.add_zero]
  refine (main _ 0 rfl (by omega)).congr (fun k => ?_)
  congr 1
  all_goals (apply List.map_congr_left; intro a ha)
theorem Index_ev (l : List Int) (a : Int) (hl : l.length ≤ 1000000) : Ev (fun k => slices_Contains_int_int.f k l a) (decide (a ∈ l)) := by
  unfold slices_Contains_int_int.f slices_Index_int_int.f
  have main : ∀ (d i : Nat), l.length - i = d → i ≤ l.length → ∃ q : Int, Ev (fun k => slices_Index_int_int.l0 k l a (l.length : Int) (i : Int)) q ∧ (0 ≤ q ↔ ∃ j, i ≤ j ∧ j < l.length ∧ l.getD j 0 = a) := by
    intro d
    induction d with
    | zero =>
      intro i hd hi
      exact ⟨-1, Ev.step (fun _ => rfl) (Ev_neg (by omega) (Ev_some rfl)), ⟨fun h => absurd h (by decide), fun ⟨j, h1, h2, _⟩ => by omega⟩⟩
    | succ d ih =>
      intro i hd hi
      by_cases c : a = l.getD i 0
      · exact ⟨i, Ev.step (fun _ => rfl) (Ev_pos (by omega) (Ev_pos (by omega) (Ev_pos (by omega) (Ev_pos (by rw [rd_nat]; exact c) (Ev_some rfl))))), ⟨fun _ => ⟨i, Nat.le_refl _, by omega, c.symm⟩, fun _ => by omega⟩⟩
      · obtain ⟨q, h1, h2⟩ := ih (i + 1) (by omega) (by omega)
        refine ⟨q, Ev.step (fun _ => rfl) (Ev_pos (by omega) (Ev_pos (by omega) (Ev_pos (by omega) (Ev_neg (by rw [rd_nat]; exact c) ?_)))), ?_⟩
        · rw [wrap_succ (by omega)]; exact h1
        · rw [h2]
          refine ⟨fun ⟨j, h3, h4⟩ => ⟨j, by omega, h4⟩, fun ⟨j, h3, h4, h5⟩ => ⟨j, ?_, h4, h5⟩⟩
          by_cases e : j = i
          · rw [e] at h5; exact absurd h5.symm c
          · omega
  obtain ⟨q, h1, h2⟩ := main _ 0 rfl (by omega)
  refine Ev.bind h1 (Ev_some (dec_eq ?_))
  rw [ge_iff_le, h2, List.mem_iff_getElem]
  exact ⟨fun ⟨j, _, h4, h5⟩ => ⟨j, h4, by rwa [getD_lt _ _ _ h4] at h5⟩, fun ⟨j, h4, h5⟩ => ⟨j, by omega, h4, by rwa [getD_lt _ _ _ h4]⟩⟩
theorem sumOf_ev (m : List (List Int)) (hd : m.length ≤ 12) (h : Cells m) : Ev (fun k => impl_Matrix_sum.f k m) (allZ m) := by
  unfold impl_Matrix_sum.f
  refine Ev.bind (sums_ev m hd h) ?_
  have hl : (rowsL m).length = m.length := by simp [rowsL]
  have main : ∀ (d i : Nat), m.length - i = d → i ≤ m.length → Ev (fun k => impl_Matrix_sum.l0 k (sumZ i (fun i => rowZ m i)) (rowsL m) ((rowsL m).length : Int) (i : Int)) (allZ m) := by
    rw [hl]
    intro d
    induction d with
    | zero =>
      intro i hd hi
      obtain rfl : i = m.length := by omega
      exact Ev.step (fun _ => rfl) (Ev_neg (by omega) (Ev_some rfl))
    | succ d ih =>
      intro i hd' hi
      refine Ev.step (fun _ => rfl) (Ev_pos (by omega) (Ev_pos (by omega) (Ev_pos (by omega) ?_)))
      have h1 := sumZ_bound (n := i) (f := fun i => rowZ m i) (B := 144) (by decide) (fun j hj => by have := h.row (show j < m.length by omega); omega)
      have h2 := h.row (show i < m.length by omega)
      rw [rd_nat, show (rowsL m).getD i 0 = rowZ m i from mapR_getD _ _ (by omega), wrap_succ (by omega), wrap_small (by omega) (by omega)]
      exact ih (i + 1) (by omega) (by omega)
  exact main _ 0 rfl (by omega)
theorem mem_rowsL {m : List (List Int)} : (0 : Int) ∈ rowsL m ↔ ¬ ∀ i, i < m.length → rowZ m i ≠ 0 := by
  unfold rowsL
  rw [List.mem_map]
  refine ⟨fun ⟨i, h1, h2⟩ h => h i (by simpa using h1) h2, fun h => ?_⟩
  refine Classical.byContradiction (fun hn => h (fun i hi h0 => hn ⟨i, by simpa using hi, h0⟩))
theorem mem_colsL {m : List (List Int)} : (0 : Int) ∈ colsL m ↔ ¬ ∀ i, i < m.length → colZ m i ≠ 0 := by
  unfold colsL
  rw [List.mem_map]
  refine ⟨fun ⟨i, h1, h2⟩ h => h i (by simpa using h1) h2, fun h => ?_⟩
  refine Classical.byContradiction (fun hn => h (fun i hi h0 => hn ⟨i, by simpa using hi, h0⟩))
theorem containsFunc_eq (m : List (List Int)) (i : Nat) (hi : i < m.length) (hl : (m.getD i []).length = m.length) : slices_ContainsFunc_int_int.f ((m.getD i []).take i) = some (decide (¬ ∀ j, j < m.length → j < i → en m i j = 0)) := by
  unfold slices_ContainsFunc_int_int.f
  congr 1
  rw [Bool.eq_iff_iff, List.any_eq_true, decide_eq_true_iff]
  refine ⟨fun ⟨x, h1, h2⟩ h => ?_, fun h => ?_⟩
  · obtain ⟨j, hj, rfl⟩ := List.getElem_of_mem h1
    rw [List.length_take] at hj
    have := h j (by omega) (by omega)
    rw [List.getElem_take] at h2
    rw [en, getD_lt _ _ _ (by omega)] at this
    rw [this] at h2
    exact absurd h2 (by decide)
  · refine Classical.byContradiction (fun hn => h (fun j hj hji => Classical.byContradiction (fun h0 => hn ⟨en m i j, ?_, by simpa using h0⟩)))
    have e : en m i j = (m.getD i [])[j]'(by omega) := getD_lt _ _ _ (by omega)
    rw [e, List.mem_iff_getElem]
    exact ⟨j, by rw [List.length_take]; omega, by rw [List.getElem_take]⟩
def rowOk' (m : List (List Int)) (i : Nat) : Prop := (m.getD i []).length = m.length ∧ (∀ j, j < m.length → 0 ≤ en m i j ∧ en m i j ≤ 12) ∧ ∀ j, j < m.length → j < i → en m i j = 0
instance (m : List (List Int)) (i : Nat) : Decidable (rowOk' m i) := inferInstanceAs (Decidable (_ ∧ _ ∧ ∀ j, j < m.length → _))
theorem implIsMatrix_ev (m : List (List Int)) (hs : Small m) : Ev (fun k => impl_IsMatrix.f k m) (decide (isMat m)) := by
  unfold impl_IsMatrix.f impl_Matrix_size.f
  refine Ev_val rfl ?_
  by_cases hd : m.length ≤ 12
  · refine Ev_neg (by omega) ?_
    refine Ev_eq (Ev_all (fun k i => impl_IsMatrix.l0 k m (m.length : Int) (i : Int) m) m.length (fun i => decide (rowOk' m i)) (decide ((∀ i, i < m.length → rowZ m i ≠ 0) ∧ (∀ j, j < m.length → colZ m j ≠ 0) ∧ allZ m ≤ 12)) ?_ ?_ ?_) ?_
    · intro i hi _ hP q hq
      obtain ⟨h1, h2, h3⟩ := of_decide_eq_true hP
      refine Ev.step (fun _ => rfl) (Ev_pos (by omega) (Ev_pos (by omega) (Ev_pos (by omega) (Ev_val rfl ?_))))
      rw [rdL_nat, Int.toNat_natCast, containsFunc_eq m i hi h1, wrap_succ (by omega)]
      refine Ev_pos (by omega) (Ev.bind (allWithin_ev _ 0 12 (by omega)) (Ev_pos (decide_eq_true (fun j hj => h2 j (by omega))) (Ev_pos (by omega) (Ev_val rfl (Ev_neg ?_ hq)))))
      rw [decide_eq_true_iff]; exact fun hn => hn h3
    · intro i hi _ hP
      have hP := of_decide_eq_false hP
      refine Ev.step (fun _ => rfl) (Ev_pos (by omega) (Ev_pos (by omega) (Ev_pos (by omega) (Ev_val rfl ?_))))
      have hsm := hs.2 _ (getD_mem (z := []) (show i < m.length by omega))
      rw [rdL_nat]
      by_cases c1 : (m.getD i []).length = m.length
      · refine Ev_pos (by omega) (Ev.bind (allWithin_ev _ 0 12 (by omega)) ?_)
        by_cases c2 : ∀ j, j < (m.getD i []).length → 0 ≤ (m.getD i []).getD j 0 ∧ (m.getD i []).getD j 0 ≤ 12
        · refine Ev_pos (decide_eq_true c2) (Ev_pos (by omega) ?_)
          rw [Int.toNat_natCast, containsFunc_eq m i hi c1]
          exact Ev_val rfl (Ev_pos (decide_eq_true (fun h3 => hP ⟨c1, fun j hj => c2 j (by omega), h3⟩)) (Ev_some rfl))
        · exact Ev_neg (by simpa using c2) (Ev_some rfl)
      · exact Ev_neg (by omega) (Ev_some rfl)
    · intro h
      have hC : Cells m := fun i hi => by
        obtain ⟨h1, h2, h3⟩ := of_decide_eq_true (h i hi)
        exact ⟨h1, fun j hj => ⟨(h2 j hj).1, (h2 j hj).2, h3 j hj⟩⟩
      refine Ev.step (fun _ => rfl) (Ev_neg (by omega) (Ev.bind (sums_ev m hd hC) (Ev.bind (Index_ev _ 0 (by simp [rowsL]; omega)) ?_)))
      by_cases c1 : ∀ i, i < m.length → rowZ m i ≠ 0
      · refine Ev_neg (by rw [decide_eq_true_iff, mem_rowsL]; exact fun hn => hn c1) (Ev.bind (Index_ev _ 0 (by simp [colsL]; omega)) ?_)
        by_cases c2 : ∀ i, i < m.length → colZ m i ≠ 0
        · exact Ev_neg (by rw [decide_eq_true_iff, mem_colsL]; exact fun hn => hn c2) (Ev.bind (sumOf_ev m hd hC) (Ev_some (dec_eq ⟨fun h => ⟨c1, c2, h⟩, fun h => h.2.2⟩)))
        · refine Ev_pos (by rw [decide_eq_true_iff, mem_colsL]; exact c2) (Ev_some ?_)
          symm; rw [decide_eq_false_iff_not]; exact fun h => c2 h.2.1
      · refine Ev_pos (by rw [decide_eq_true_iff, mem_rowsL]; exact c1) (Ev_some ?_)
        symm; rw [decide_eq_false_iff_not]; exact fun h => c1 h.1
    · rw [← Bool.decide_and]
      refine dec_eq ⟨fun ⟨h, h1, h2, h3⟩ => ⟨hd, fun i hi => ?_, h1, h2, h3⟩, fun ⟨_, h, h1, h2, h3⟩ => ⟨fun i hi => decide_eq_true ⟨(h i hi).1, fun j hj => ⟨h.nn hi hj, h.le hi hj⟩, fun j hj hji => ((h i hi).2 j hj).2.2 hji⟩, h1, h2, h3⟩⟩
      obtain ⟨h4, h5, h6⟩ := of_decide_eq_true (h i hi)
      exact ⟨h4, fun j hj => ⟨(h5 j hj).1, (h5 j hj).2, h6 j hj⟩⟩
  · refine Ev_pos (by omega) (Ev_some ?_)
    symm; rw [decide_eq_false_iff_not]; exact fun h => hd h.1
/-- Words with a separator between them. -/
def TJ (sep : ByteArray) (ws : List ByteArray) : ByteArray := ⟨(Go.Lib.join (ws.map (·.data.toList)) sep.data.toList).toArray⟩
theorem ba_ext {a b : ByteArray} (h : a.data.toList = b.data.toList) : a = b := by
  cases a with
  | mk x => cases b with
    | mk y =>
      have : x = y := by
        apply Array.ext'
        exact h
      rw [this]
theorem TJ_nil (sep : ByteArray) : TJ sep [] = ⟨#[]⟩ := rfl
theorem TJ_data (sep : ByteArray) (ws : List ByteArray) : (TJ sep ws).data.toList = Go.Lib.join (ws.map (·.data.toList)) sep.data.toList := rfl
theorem app_data (a b : ByteArray) : (a ++ b).data.toList = a.data.toList ++ b.data.toList := by rw [ByteArray.data_append, Array.toList_append]
theorem TJ_one (sep w : ByteArray) : (⟨#[]⟩ : ByteArray) ++ w = TJ sep [w] := by
  apply ba_ext
  rw [app_data, TJ_data, List.map_cons, List.map_nil, Go.Lib.join_one]
  rfl
theorem TJ_more (sep x : ByteArray) (ws : List ByteArray) (w : ByteArray) : (TJ sep (x :: ws) ++ sep) ++ w = TJ sep (x :: ws ++ [w]) := by
  apply ba_ext
  rw [app_data, app_data, TJ_data, TJ_data, List.map_cons, Go.Lib.join_cons, List.cons_append, List.map_cons, Go.Lib.join_cons, List.map_append]
  simp [Go.Lib.joinTail, List.append_assoc]
theorem TJ_step (sep : ByteArray) (ws : List ByteArray) (i : Nat) (h : i < ws.length) (hi : i ≠ 0) : (TJ sep (ws.take i) ++ sep) ++ ws[i] = TJ sep (ws.take (i + 1)) := by
  obtain ⟨x, r, e⟩ : ∃ x r, ws.take i = x :: r := by
    cases hw : ws.take i with
    | nil => have := congrArg List.length hw; rw [List.length_take] at this; simp only [List.length_nil] at this; omega
    | cons x r => exact ⟨x, r, rfl⟩
  rw [List.take_succ_eq_append_getElem h, e]
  exact TJ_more sep x r _
theorem TJ_step0 (sep : ByteArray) (ws : List ByteArray) (h : 0 < ws.length) : (⟨#[]⟩ : ByteArray) ++ ws[0] = TJ sep (ws.take (0 + 1)) := by
  rw [List.take_succ_eq_append_getElem h, List.take_zero, List.nil_append]
  exact TJ_one sep _
theorem TJ_size (sep : ByteArray) (hs : sep.size = 1) (B : Nat) : ∀ ws : List ByteArray, (∀ w ∈ ws, w.size ≤ B) → (TJ sep ws).size ≤ ws.length * (B + 1)
  | [], _ => Nat.zero_le _
  | x :: r, h => by
    have e : (TJ sep (x :: r)).size = ((TJ sep (x :: r)).data.toList).length := by rw [Array.length_toList]; rfl
    have ex : (x.data.toList).length = x.size := by rw [Array.length_toList]; rfl
    have es : (sep.data.toList).length = 1 := by rw [Array.length_toList]; exact hs
    rw [e, TJ_data, List.map_cons, Go.Lib.join_cons, List.length_append, ex]
    have h1 := h x (by simp)
    have ht : ∀ l : List ByteArray, (∀ w ∈ l, w.size ≤ B) → (Go.Lib.joinTail sep.data.toList (l.map (·.data.toList))).length ≤ l.length * (B + 1) := by
      intro l
      induction l with
      | nil => intro _; simp [Go.Lib.joinTail]
      | cons y l ih =>
        intro hl
        have h2 := ih (fun w hw => hl w (by simp [hw]))
        have h3 := hl y (by simp)
        have ey : (y.data.toList).length = y.size := by rw [Array.length_toList]; rfl
        have e2 : (Go.Lib.joinTail sep.data.toList ((y :: l).map (·.data.toList))).length = 1 + y.size + (Go.Lib.joinTail sep.data.toList (l.map (·.data.toList))).length := by
          unfold Go.Lib.joinTail
          rw [List.map_cons, List.map_cons, List.flatten_cons, List.length_append, List.length_append, es, ey]
        rw [e2, List.length_cons, Nat.succ_mul]
        omega
    have h4 := ht r (fun w hw => h w (by simp [hw]))
    rw [List.length_cons, Nat.succ_mul]
    omega
theorem TJ_take_size (sep : ByteArray) (hs : sep.size = 1) (B : Nat) (ws : List ByteArray) (h : ∀ w ∈ ws, w.size ≤ B) (i : Nat) (hi : i ≤ ws.length) : (TJ sep (ws.take i)).size ≤ i * (B + 1) := by
  have h1 := TJ_size sep hs B (ws.take i) (fun w hw => h w (List.mem_of_mem_take hw))
  rwa [List.length_take, Nat.min_eq_left hi] at h1
theorem text_ev {β : Type} (f : Nat → ByteArray → List β → Int → Int → Option ByteArray) (G : Nat → β → Option ByteArray) (rb : List β → Int → β) (sep : ByteArray) (hsep : sep.size = 1)
    (hf : ∀ k x3 x6 x7 x8, f (k + 1) x3 x6 x7 x8 = if x8 < x7 then (if 0 ≤ x8 then (if x8 < (x6.length : Int) then (if x8 > 0 then (if x3.size + 1 ≤ 9223372036854775807 then ((G k (rb x6 x8)).bind fun t => (if (x3 ++ sep).size + t.size ≤ 9223372036854775807 then (f k ((x3 ++ sep) ++ t) x6 x7 (wrap64 (x8 + 1))) else (none))) else (none)) else ((G k (rb x6 x8)).bind fun t => (if x3.size + t.size ≤ 9223372036854775807 then (f k (x3 ++ t) x6 x7 (wrap64 (x8 + 1))) else (none)))) else (none)) else (none)) else (some x3))
    (L : List β) (hrb : ∀ (i : Nat) (h : i < L.length), rb L (i : Int) = L[i]) (W : β → ByteArray) (B : Nat) (hB : B ≤ 1000000) (hW : ∀ x ∈ L, Ev (fun k => G k x) (W x) ∧ (W x).size ≤ B) (hn : L.length ≤ 1000) :
    Ev (fun k => f k ⟨#[]⟩ L (L.length : Int) 0) (TJ sep (L.map W)) := by
  have hws : ∀ w ∈ L.map W, w.size ≤ B := by
    intro w hw
    obtain ⟨x, hx, rfl⟩ := List.mem_map.1 hw
    exact (hW x hx).2
  have main : ∀ (d i : Nat), L.length - i = d → i ≤ L.length → Ev (fun k => f k (TJ sep ((L.map W).take i)) L (L.length : Int) (i : Int)) (TJ sep (L.map W)) := by
    intro d
    induction d with
    | zero =>
      intro i hd hi
      obtain rfl : i = L.length := by omega
      refine Ev.step (fun k => hf k _ _ _ _) (Ev_neg (by omega) (Ev_some ?_))
      rw [List.take_of_length_le (by simp)]
    | succ d ih =>
      intro i hd hi
      have hlt : i < L.length := by omega
      have hlt2 : i < (L.map W).length := by rw [List.length_map]; exact hlt
      have hsz := TJ_take_size sep hsep B (L.map W) hws i (by omega)
      have hmul : i * (B + 1) ≤ 1000 * 1000001 := Nat.mul_le_mul (by omega) (by omega)
      obtain ⟨g1, g2⟩ := hW L[i] (List.getElem_mem hlt)
      have e1 : (L.map W)[i] = W L[i] := List.getElem_map _
      refine Ev.step (fun k => hf k _ _ _ _) (Ev_pos (by omega) (Ev_pos (by omega) (Ev_pos (by omega) ?_)))
      rw [hrb i hlt, wrap_succ (by omega)]
      have h1 := ih (i + 1) (by omega) (by omega)
      by_cases c : i = 0
      · subst c
        refine Ev_neg (by omega) (Ev.bind g1 ?_)
        rw [List.take_zero, TJ_nil]
        refine Ev_pos (by show 0 + _ ≤ _; omega) ?_
        rw [← e1, TJ_step0 sep (L.map W) hlt2]
        exact h1
      · refine Ev_pos (by omega) (Ev_pos (by omega) (Ev.bind g1 (Ev_pos (by rw [ByteArray.size_append, hsep]; omega) ?_)))
        rw [← e1, TJ_step sep (L.map W) i hlt2 c]
        exact h1
  exact main _ 0 rfl (Nat.zero_le _)
theorem join_ok (sep : ByteArray) (hsep : sep.size = 1) (ws : List ByteArray) (B : Nat) (hB : B ≤ 1000000) (h : ∀ w ∈ ws, w.size ≤ B) (hn : ws.length ≤ 1000) : strings_Join.f ws sep = some (TJ sep ws) := by
  unfold strings_Join.f strings_Join.v
  have h1 := TJ_size sep hsep B ws h
  have e : (TJ sep ws).size = (Go.Lib.join (ws.map (·.data.toList)) sep.data.toList).length := by rw [← TJ_data, Array.length_toList]; rfl
  have hmul : ws.length * (B + 1) ≤ 1000 * 1000001 := Nat.mul_le_mul (by omega) (by omega)
  rw [if_pos ⟨by omega, by rw [← e]; omega⟩]
  rfl
theorem words_ev {β : Type} (f : Nat → List ByteArray → List β → Int → Int → Option ByteArray) (G : Nat → β → Option ByteArray) (rb : List β → Int → β) (sep : ByteArray) (hsep : sep.size = 1)
    (hf : ∀ k x3 x7 x8 x9, f (k + 1) x3 x7 x8 x9 = if x9 < x8 then (if 0 ≤ x9 then (if x9 < (x7.length : Int) then ((G k (rb x7 x9)).bind fun t => (if x3.length < 8796093022208 then (f k (x3 ++ [t]) x7 x8 (wrap64 (x9 + 1))) else (none))) else (none)) else (none)) else ((strings_Join.f x3 sep).bind fun t => (some t)))
    (L : List β) (hrb : ∀ (i : Nat) (h : i < L.length), rb L (i : Int) = L[i]) (W : β → ByteArray) (B : Nat) (hB : B ≤ 1000000) (hW : ∀ x ∈ L, Ev (fun k => G k x) (W x) ∧ (W x).size ≤ B) (hn : L.length ≤ 1000) :
    Ev (fun k => f k [] L (L.length : Int) 0) (TJ sep (L.map W)) := by
  have hws : ∀ w ∈ L.map W, w.size ≤ B := by
    intro w hw
    obtain ⟨x, hx, rfl⟩ := List.mem_map.1 hw
    exact (hW x hx).2
  have main : ∀ (d i : Nat), L.length - i = d → i ≤ L.length → Ev (fun k => f k ((L.take i).map W) L (L.length : Int) (i : Int)) (TJ sep (L.map W)) := by
    intro d
    induction d with
    | zero =>
      intro i hd hi
      obtain rfl : i = L.length := by omega
      refine Ev.step (fun k => hf k _ _ _ _) (Ev_neg (by omega) ?_)
      rw [List.take_length]
      exact Ev_val (join_ok sep hsep _ B hB hws (by rw [List.length_map]; exact hn)) (Ev_some rfl)
    | succ d ih =>
      intro i hd hi
      have hlt : i < L.length := by omega
      obtain ⟨g1, g2⟩ := hW L[i] (List.getElem_mem hlt)
      refine Ev.step (fun k => hf k _ _ _ _) (Ev_pos (by omega) (Ev_pos (by omega) (Ev_pos (by omega) ?_)))
      rw [hrb i hlt, wrap_succ (by omega)]
      refine Ev.bind g1 (Ev_pos (by rw [List.length_map, List.length_take]; omega) ?_)
      have h1 := ih (i + 1) (by omega) (by omega)
      rw [List.take_succ_eq_append_getElem hlt, List.map_append] at h1
      exact h1
  exact main _ 0 rfl (Nat.zero_le _)
/-- A small number's word. -/
def nm (x : Int) : ByteArray := if x < 10 then ⟨#[UInt8.ofNat (48 + x.toNat)]⟩ else ⟨#[49, UInt8.ofNat (48 + (x - 10).toNat)]⟩
theorem nm_size (x : Int) : (nm x).size ≤ 2 := by
  unfold nm; split
  · exact Nat.le_succ 1
  · exact Nat.le_refl 2
theorem itoa_nm (x : Int) (h0 : 0 ≤ x) (h1 : x < 20) : strconv_Itoa.f x = some (nm x) := by
  unfold strconv_Itoa.f nm
  rw [if_pos ⟨h0, by omega⟩]
  by_cases c : x < 10
  · rw [if_pos c, Go.Lib.decDigits, dif_pos (by omega)]
  · rw [if_neg c, Go.Lib.decDigits, dif_neg (by omega), Go.Lib.decDigits, dif_pos (by omega), show x.toNat / 10 = 1 from by omega, show x.toNat % 10 = (x - 10).toNat from by omega]
    rfl
theorem num_nm (x : Int) (h0 : 0 ≤ x) (h1 : x < 13) : spec_l1Num.f 3 x = some (nm x) := by
  have h : (List.range 13).all (fun n => decide (spec_l1Num.f 3 (n : Int) = some (nm (n : Int)))) = true := by decide +kernel
  obtain ⟨n, rfl⟩ : ∃ n : Nat, x = (n : Int) := ⟨x.toNat, by omega⟩
  exact of_decide_eq_true (List.all_eq_true.1 h n (List.mem_range.2 (by omega)))
theorem num_ev (x : Int) (h0 : 0 ≤ x) (h1 : x < 13) : Ev (fun k => spec_l1Num.f k x) (nm x) := by
  refine ⟨3, fun k hk => ?_⟩
  obtain ⟨d, rfl⟩ : ∃ d, k = 3 + d := ⟨k - 3, by omega⟩
  clear hk
  induction d with
  | zero => exact num_nm x h0 h1
  | succ d ih => exact spec_l1Num.mono _ _ _ ih
def comma : ByteArray := ⟨#[44]⟩
def slash : ByteArray := ⟨#[47]⟩
def rowT (r : List Int) : ByteArray := TJ comma (r.map nm)
def matT (m : List (List Int)) : ByteArray := TJ slash (m.map rowT)
def Few (r : List Int) : Prop := r.length ≤ 12 ∧ ∀ x ∈ r, 0 ≤ x ∧ x < 13
theorem rowT_size {r : List Int} (h : Few r) : (rowT r).size ≤ 36 := by
  have h1 := TJ_size comma rfl 2 (r.map nm) (fun w hw => by obtain ⟨x, _, rfl⟩ := List.mem_map.1 hw; exact nm_size x)
  rw [List.length_map] at h1
  have := h.1
  unfold rowT; omega
theorem rd_at (L : List Int) (i : Nat) (h : i < L.length) : rd L (i : Int) = L[i] := by rw [rd_nat, getD_lt _ _ _ h]
theorem rdL_at (L : List (List Int)) (i : Nat) (h : i < L.length) : rd_L1 L (i : Int) = L[i] := by rw [rdL_nat, getD_lt _ _ _ h]
theorem asText_ev (r : List Int) (h : Few r) : Ev (fun k => spec_asText.f k r) (rowT r) := by
  unfold spec_asText.f
  exact text_ev (fun k => spec_asText.l0 k) (fun k => spec_l1Num.f k) rd comma rfl (fun _ _ _ _ _ => rfl) r (rd_at r) nm 2 (by omega) (fun x hx => ⟨num_ev x (h.2 x hx).1 (h.2 x hx).2, nm_size x⟩) (by have := h.1; omega)
theorem maText_ev (m : List (List Int)) (hl : m.length ≤ 12) (h : ∀ r ∈ m, Few r) : Ev (fun k => spec_maText.f k m) (matT m) := by
  unfold spec_maText.f
  exact text_ev (fun k => spec_maText.l0 k) (fun k => spec_asText.f k) rd_L1 slash rfl (fun _ _ _ _ _ => rfl) m (rdL_at m) rowT 36 (by omega) (fun x hx => ⟨asText_ev x (h x hx), rowT_size (h x hx)⟩) (by omega)
theorem ascentText_ev (r : List Int) (h : Few r) : Ev (fun k => impl_ascentText.f k r) (rowT r) := by
  unfold impl_ascentText.f
  exact words_ev (fun k => impl_ascentText.l0 k) (fun _ => strconv_Itoa.f) rd comma rfl (fun _ _ _ _ _ => rfl) r (rd_at r) nm 2 (by omega) (fun x hx => ⟨⟨0, fun _ _ => itoa_nm x (h.2 x hx).1 (by have := (h.2 x hx).2; omega)⟩, nm_size x⟩) (by have := h.1; omega)
theorem matrixText_ev (m : List (List Int)) (hl : m.length ≤ 12) (h : ∀ r ∈ m, Few r) : Ev (fun k => impl_matrixText.f k m) (matT m) := by
  unfold impl_matrixText.f
  exact words_ev (fun k => impl_matrixText.l0 k) (fun k => impl_ascentText.f k) rd_L1 slash rfl (fun _ _ _ _ _ => rfl) m (rdL_at m) rowT 36 (by omega) (fun x hx => ⟨ascentText_ev x (h x hx), rowT_size (h x hx)⟩) (by omega)
theorem isMat_few {m : List (List Int)} (g : isMat m) : ∀ r ∈ m, Few r := by
  intro r hr
  obtain ⟨i, hi, rfl⟩ := List.mem_iff_getElem.1 hr
  have h1 := g.2.1 i hi
  have e : m.getD i [] = m[i] := getD_lt _ _ _ hi
  have hl : m[i].length = m.length := by rw [← e]; exact h1.1
  refine ⟨by have := g.1; omega, fun x hx => ?_⟩
  obtain ⟨j, hj, rfl⟩ := List.mem_iff_getElem.1 hx
  have h2 := h1.2 j (by omega)
  have e2 : en m i j = m[i][j] := by
    show (m.getD i []).getD j 0 = _
    rw [e, getD_lt _ _ _ hj]
  rw [← e2]
  have := h2.1; have := h2.2.1
  omega
theorem specText_ev (m : List (List Int)) (hs : Small m) : Ev (fun k => spec_MatrixText.f k m) (if isMat m then (matT m, true) else (⟨#[]⟩, false)) := by
  unfold spec_MatrixText.f
  refine Ev.bind (maGood_ev m hs) ?_
  by_cases g : isMat m
  · rw [if_pos g]; exact Ev_pos (decide_eq_true g) (Ev.bind (maText_ev m g.1 (isMat_few g)) (Ev_some rfl))
  · rw [if_neg g]; exact Ev_neg (by simpa using g) (Ev_some rfl)
theorem implText_ev (m : List (List Int)) (hs : Small m) : Ev (fun k => impl_MatrixText.f k m) (if isMat m then (matT m, true) else (⟨#[]⟩, false)) := by
  unfold impl_MatrixText.f
  refine Ev.bind (implIsMatrix_ev m hs) ?_
  by_cases g : isMat m
  · rw [if_pos g]; exact Ev_pos (decide_eq_true g) (Ev.bind (matrixText_ev m g.1 (isMat_few g)) (Ev_some rfl))
  · rw [if_neg g]; exact Ev_neg (by simpa using g) (Ev_some rfl)
theorem FnExactMatrixText : ∀ (l0 : List (List Int)), l0.length ≤ maxLen → (∀ r ∈ l0, Open.Fits r) → ∃ k, Tx.laws_FnExactMatrixText.f k l0 = some true := by
  intro m hl hr
  refine Ev.rounds ?_
  unfold laws_FnExactMatrixText.f
  obtain ⟨t, ht, hh⟩ := szMatrix_ev m hl hr
  refine Ev.bind ht ?_
  by_cases c : t < 0
  · exact Ev_pos c (Ev_some rfl)
  · have hs := hh (by omega)
    refine Ev_neg c (Ev.bind (toMatrix_ev m hs) (Ev.bind (specText_ev m hs) (Ev.bind (toMatrix_ev m hs) (Ev.bind (implText_ev m hs) (Ev_pos rfl ?_)))))
    refine Ev.step (fun k => by rw [laws_FnExactMatrixText.j0]) (Ev_neg (by simp) ?_)
    exact Ev.bind (toMatrix_ev m hs) (Ev.bind (eqMatrix_small m hs) (Ev_pos rfl (Ev_some rfl)))
end Go.Proofs.YtadflnoofnonoaaDoor.Pure
