/- MatchingOfMatrix of the program and of the reference answer alike, for every matrix. -/
import Derived.Test.YtngkfgleffagcaaWalkFnExactMatchingOfMatrix
import Derived.Test.YtngkfgleffagcaaXOpen
import Derived.Test.YtngkfgleffagcaaWSized
namespace Go.Proofs.Ytngkfgleffagcaa.PrintWords
open Go.RowKit
/-- The words' theorem, under the name by which the printed row calls it. -/
theorem sized_ints {H : Type} {enc : TypeId × Value → H} {P : Program} {W : World} {base : Nat} {spare : Nat → Bool} {held : Bool} {t e : TypeId} {k : IntKind} {a : Option Addr} {len cap : Nat} {d : DataW H} {ps : List MemPlace} {ts : List TypeId} {ds : List (DataW H)} {j : Nat}
    (g0 : (DataW.weightsEach P ts ds).all (· ≤ reachBytes) = true) (g1 : ts[j]? = some t) (g2 : ds[j]? = some d) (g3 : P.underlying t = some (.slice e)) (g4 : P.underlying e = some (.int k)) (g5 : P.cellsOf e = 1) {B : Nat} (g6 : P.bytesOf e = B)
    (g7 : DataW.Trod enc P W base spare held t (.slice a len cap) d ps) : len * B ≤ 140737488351232 := Go.Proofs.YtngkfgleffagcaaW.PrintWords.sized_ints g0 g1 g2 g3 g4 g5 g6 g7
end Go.Proofs.Ytngkfgleffagcaa.PrintWords
set_option linter.unusedVariables false
namespace Go.Proofs.Ytngkfgleffagcaa.Pure
open Go.RowKit Go.Proofs.Ytngkfgleffagcaa.Mx Go.Proofs.YtngkfgleffagcaaW.PrintWords Go.Proofs.YtngkfgleffagcaaW.PrintLast Go.Proofs.YtngkfgleffagcaaW.PrintMore
section Prelude
theorem Ev_pos {α : Type} {c : Prop} [Decidable c] {f g : Nat → Option α} {r : α} (h : c) (k : Ev f r) : Ev (fun n => if c then f n else g n) r :=
  Ev.congr (fun _ => if_pos h) k
theorem Ev_neg {α : Type} {c : Prop} [Decidable c] {f g : Nat → Option α} {r : α} (h : ¬ c) (k : Ev g r) : Ev (fun n => if c then f n else g n) r :=
  Ev.congr (fun _ => if_neg h) k
theorem Ev_val {α β : Type} {g : Option α} {f : Nat → α → Option β} {a : α} {r : β} (h : g = some a) (k : Ev (fun n => f n a) r) : Ev (fun n => g.bind (f n)) r :=
  Ev.congr (fun _ => by rw [h]; rfl) k
theorem Ev_some {α : Type} {a r : α} (h : a = r) : Ev (fun _ => some a) r := ⟨0, fun _ _ => by rw [h]⟩
theorem Ev_eq {α : Type} {g : Nat → Option α} {a r : α} (h : Ev g a) (e : a = r) : Ev g r := e ▸ h
theorem wrap_small {x : Int} (h0 : -4611686018427387904 ≤ x) (h1 : x ≤ 4611686018427387904) : wrap64 x = x := by unfold wrap64; omega
theorem wrap_succ {i : Nat} (h : i ≤ 4611686018427387900) : wrap64 ((i : Int) + 1) = ((i + 1 : Nat) : Int) := by unfold wrap64; omega
theorem wrap_pred {i : Nat} (h : i ≤ 4611686018427387900) : wrap64 ((i + 1 : Nat) - 1 : Int) = (i : Int) := by unfold wrap64; omega
theorem rd_nat (xs : List Int) (i : Nat) : rd xs (i : Int) = xs.getD i 0 := by simp [rd]
theorem getD_lt {α : Type} (xs : List α) (i : Nat) (z : α) (h : i < xs.length) : xs.getD i z = xs[i] := by simp [List.getD_eq_getElem?_getD, h]
theorem wf_range {x : Int} (h : (Lit.int .i64 x).wf = true) : -9223372036854775808 ≤ x ∧ x ≤ 9223372036854775807 := by
  simp [Lit.wf] at h
  exact h
theorem ext_getD {xs ys : List Int} (hl : xs.length = ys.length) (h : ∀ i, i < xs.length → xs.getD i 0 = ys.getD i 0) : xs = ys := by
  apply List.ext_getElem hl
  intro i h1 h2
  have := h i h1
  rwa [getD_lt _ _ _ h1, getD_lt _ _ _ h2] at this
theorem dec_eq {a b : Prop} [Decidable a] [Decidable b] (h : a ↔ b) : decide a = decide b := by simp [h]
/-- The rounds i, .., n - 1 of a loop. -/
def foldFrom {σ : Type} (n : Nat) (step : σ → Nat → σ) (s : σ) (i : Nat) : σ := (List.range' i (n - i)).foldl step s
theorem foldFrom_lt {σ : Type} {n : Nat} {step : σ → Nat → σ} {s : σ} {i : Nat} (h : i < n) : foldFrom n step s i = foldFrom n step (step s i) (i + 1) := by
  unfold foldFrom
  rw [show n - i = (n - (i + 1)) + 1 from by omega, List.range'_succ, List.foldl_cons]
theorem foldFrom_ge {σ : Type} {n : Nat} {step : σ → Nat → σ} {s : σ} {i : Nat} (h : n ≤ i) : foldFrom n step s i = s := by
  unfold foldFrom
  rw [show n - i = 0 from by omega]; rfl
/-- A loop that counts up to n: what a round does to the state, what holds of it, and what the end makes of it. -/
theorem Ev_for {σ ρ : Type} {l : Nat → σ → Nat → Option ρ} (n : Nat) (step : σ → Nat → σ) (fin : σ → ρ) (Inv : σ → Nat → Prop)
    (hinv : ∀ i s, i < n → Inv s i → Inv (step s i) (i + 1))
    (hstep : ∀ i s, i < n → Inv s i → ∀ r, Ev (fun k => l k (step s i) (i + 1)) r → Ev (fun k => l k s i) r)
    (hend : ∀ s, Inv s n → Ev (fun k => l k s n) (fin s)) :
    ∀ i s, i ≤ n → Inv s i → Ev (fun k => l k s i) (fin (foldFrom n step s i)) ∧ Inv (foldFrom n step s i) n := by
  have main : ∀ d i s, n - i = d → i ≤ n → Inv s i → Ev (fun k => l k s i) (fin (foldFrom n step s i)) ∧ Inv (foldFrom n step s i) n := by
    intro d
    induction d with
    | zero =>
      intro i s hd hi h
      obtain rfl : i = n := by omega
      rw [foldFrom_ge (Nat.le_refl _)]
      exact ⟨hend s h, h⟩
    | succ d ih =>
      intro i s hd hi h
      rw [foldFrom_lt (by omega)]
      obtain ⟨h1, h2⟩ := ih (i + 1) (step s i) (by omega) (by omega) (hinv i s (by omega) h)
      exact ⟨hstep i s (by omega) h _ h1, h2⟩
  exact fun i s hi h => main _ i s rfl hi h
/-- A loop that asks each round, and ends with 'no' at the first round that says no. -/
theorem Ev_all (l : Nat → Nat → Option Bool) (n : Nat) (P : Nat → Bool) (r : Bool)
    (hgo : ∀ i, i < n → (∀ j, j < i → P j = true) → P i = true → ∀ q, Ev (fun k => l k (i + 1)) q → Ev (fun k => l k i) q)
    (hno : ∀ i, i < n → (∀ j, j < i → P j = true) → P i = false → Ev (fun k => l k i) false)
    (hend : (∀ j, j < n → P j = true) → Ev (fun k => l k n) r) : Ev (fun k => l k 0) (decide (∀ j, j < n → P j = true) && r) := by
  have main : ∀ d i, n - i = d → i ≤ n → (∀ j, j < i → P j = true) → Ev (fun k => l k i) (decide (∀ j, j < n → P j = true) && r) := by
    intro d
    induction d with
    | zero =>
      intro i hd hi h
      obtain rfl : i = n := by omega
      rw [decide_eq_true h, Bool.true_and]
      exact hend h
    | succ d ih =>
      intro i hd hi h
      by_cases c : P i = true
      · refine hgo i (by omega) h c _ (ih (i + 1) (by omega) (by omega) (fun j hj => ?_))
        by_cases e : j = i
        · rw [e]; exact c
        · exact h j (by omega)
      · refine Ev_eq (hno i (by omega) h (by simpa using c)) ?_
        rw [decide_eq_false (fun hh => c (hh i (by omega))), Bool.false_and]
  exact main _ 0 rfl (by omega) (fun j hj => by omega)
end Prelude
theorem rdL_nat (xs : List (List Int)) (i : Nat) : rd_L1 xs (i : Int) = xs.getD i [] := by unfold rd_L1; rw [Int.toNat_natCast]
theorem getD_mem {α : Type} {xs : List α} {i : Nat} {z : α} (h : i < xs.length) : xs.getD i z ∈ xs := by rw [getD_lt _ _ _ h]; exact List.getElem_mem h
theorem ext_getL {xs ys : List (List Int)} (hl : xs.length = ys.length) (h : ∀ i, i < xs.length → xs.getD i [] = ys.getD i []) : xs = ys := by
  apply List.ext_getElem hl
  intro i h1 h2
  have := h i h1
  rwa [getD_lt _ _ _ h1, getD_lt _ _ _ h2] at this
def Small (l : List (List Int)) : Prop := l.length ≤ 1048576 ∧ ∀ r ∈ l, r.length ≤ 1048576
theorem toIntS_l0 (l : List Int) (hl : l.length ≤ 1048576) : ∀ (d i : Nat) (ys : List Int), l.length - i = d → ys.length = l.length → (∀ j, j < i → ys.getD j 0 = l.getD j 0) →
    Ev (fun k => laws_toIntS.l0 k l ys (i : Int)) l := by
  intro d
  induction d with
  | zero =>
    intro i ys hd hy h
    refine Ev.step (fun k => by rw [laws_toIntS.l0]) ?_
    exact Ev_neg (by omega) (Ev_some (ext_getD hy (fun j hj => h j (by omega))))
  | succ d ih =>
    intro i ys hd hy h
    refine Ev.step (fun k => by rw [laws_toIntS.l0]) ?_
    refine Ev_pos (by omega) (Ev_pos (by omega) (Ev_pos (by omega) ?_))
    rw [wrap_succ (by omega)]
    refine ih (i + 1) _ (by omega) (by rw [List.length_set]; exact hy) ?_
    intro j hj
    rw [Int.toNat_natCast, rd_nat]
    by_cases e : j = i
    · subst e; rw [getD_lt _ _ _ (by rw [List.length_set]; omega)]; simp
    · rw [← h j (by omega)]; simp only [List.getD_eq_getElem?_getD]; rw [List.getElem?_set_ne (by omega)]
theorem toIntS_ev (l : List Int) (hl : l.length ≤ 1048576) : Ev (fun k => laws_toIntS.f k l) l := by
  unfold laws_toIntS.f
  refine Ev_pos (by omega) (Ev_pos (by omega) ?_)
  exact toIntS_l0 l hl _ 0 _ rfl (by simp) (fun j hj => by omega)
theorem eqIntS_l0 (a b : List Int) (hl : a.length = b.length) (hs : a.length ≤ 4611686018427387000) : ∀ (d i : Nat), a.length - i = d → i ≤ a.length → Ev (fun k => laws_eqIntS.l0 k a b (i : Int)) (decide (a.drop i = b.drop i)) := by
  intro d
  induction d with
  | zero =>
    intro i hd hi
    refine Ev.step (fun k => by rw [laws_eqIntS.l0]) ?_
    refine Ev_neg (by omega) (Ev_some ?_)
    rw [List.drop_eq_nil_of_le (by omega), List.drop_eq_nil_of_le (by omega)]; rfl
  | succ d ih =>
    intro i hd hi
    refine Ev.step (fun k => by rw [laws_eqIntS.l0]) ?_
    refine Ev_pos (by omega) (Ev_pos (by omega) (Ev_pos (by omega) ?_))
    rw [rd_nat, rd_nat, getD_lt _ _ _ (by omega), getD_lt _ _ _ (by omega), wrap_succ (by omega), List.drop_eq_getElem_cons (show i < a.length by omega), List.drop_eq_getElem_cons (show i < b.length by omega)]
    by_cases e : a[i] = b[i]'(by omega)
    · refine Ev_pos e (Ev_eq (ih (i + 1) (by omega) (by omega)) ?_)
      exact dec_eq (by rw [e, List.cons.injEq]; exact ⟨fun h => ⟨rfl, h⟩, fun h => h.2⟩)
    · refine Ev_neg e (Ev_some ?_)
      symm; rw [decide_eq_false_iff_not, List.cons.injEq]
      exact fun h => e h.1
theorem eqIntS_ev (a b : List Int) (hs : a.length ≤ 4611686018427387000) : Ev (fun k => laws_eqIntS.f k a b) (decide (a = b)) := by
  unfold laws_eqIntS.f
  by_cases hl : a.length = b.length
  · exact Ev_pos (by omega) (eqIntS_l0 a b hl hs _ 0 rfl (by omega))
  · refine Ev_neg (by omega) (Ev_some ?_)
    rw [eq_comm, decide_eq_false_iff_not]; intro e; exact hl (by rw [e])
theorem eqIntS_refl (a : List Int) (hs : a.length ≤ 4611686018427387000) : Ev (fun k => laws_eqIntS.f k a a) true := Ev_eq (eqIntS_ev a a hs) (by simp)
theorem szIntS_eq (r : List Int) (a : Int) (h0 : 0 ≤ a) (h1 : a ≤ 1048576) (hr : r.length ≤ maxLen) : laws_szIntS.f r a = some (if a - (r.length : Int) < 0 then -1 else a - (r.length : Int)) := by
  unfold laws_szIntS.f
  have e : wrap64 (a - (r.length : Int)) = a - (r.length : Int) := by simp only [maxLen] at hr; unfold wrap64; omega
  rw [e]; split <;> rfl
theorem szIntSS_l0 (l : List (List Int)) (hl : l.length ≤ 1048576) (hr : ∀ r ∈ l, r.length ≤ maxLen) : ∀ (d i : Nat) (a : Int), l.length - i = d → i ≤ l.length → 0 ≤ a → a ≤ 1048576 →
    (∀ j, j < i → (l.getD j []).length ≤ 1048576) → ∃ t, Ev (fun k => laws_szIntSS.l0 k l a (i : Int)) t ∧ (0 ≤ t → ∀ j, j < l.length → (l.getD j []).length ≤ 1048576) := by
  intro d
  induction d with
  | zero =>
    intro i a hd hi h0 h1 h
    refine ⟨a, Ev.step (fun _ => rfl) (Ev_neg (by omega) (Ev_some rfl)), fun _ j hj => h j (by omega)⟩
  | succ d ih =>
    intro i a hd hi h0 h1 h
    have hm := hr _ (getD_mem (z := []) (show i < l.length by omega))
    by_cases c : a - ((l.getD i []).length : Int) < 0
    · refine ⟨-1, Ev.step (fun _ => rfl) (Ev_pos (by omega) (Ev_pos (by omega) ?_)), fun hh => by omega⟩
      rw [rdL_nat, szIntS_eq _ _ h0 h1 hm, if_pos c]
      exact Ev_val rfl (Ev_pos (by decide) (Ev_some rfl))
    · obtain ⟨t, ht, hh⟩ := ih (i + 1) (a - ((l.getD i []).length : Int)) (by omega) (by omega) (by omega) (by omega) (fun j hj => by
        by_cases e : j = i
        · rw [e]; omega
        · exact h j (by omega))
      refine ⟨t, Ev.step (fun _ => rfl) (Ev_pos (by omega) (Ev_pos (by omega) ?_)), hh⟩
      rw [rdL_nat, szIntS_eq _ _ h0 h1 hm, if_neg c, wrap_succ (by omega)]
      exact Ev_val rfl (Ev_neg c ht)
theorem szMatrix_ev (l : List (List Int)) (hl : l.length ≤ maxLen) (hr : ∀ r ∈ l, Open.Fits r) : ∃ t, Ev (fun k => laws_szMatrix.f k l 1048576) t ∧ (0 ≤ t → Small l) := by
  unfold laws_szMatrix.f laws_szIntSS.f
  have e : wrap64 (1048576 - (l.length : Int)) = 1048576 - (l.length : Int) := by simp only [maxLen] at hl; unfold wrap64; omega
  rw [e]
  by_cases c : 1048576 - (l.length : Int) < 0
  · exact ⟨-1, Ev.bind (Ev_pos c (Ev_some rfl)) (Ev_pos (by decide) (Ev_some rfl)), fun h => by omega⟩
  · obtain ⟨t, ht, hh⟩ := szIntSS_l0 l (by omega) (fun r h => (hr r h).1) _ 0 (1048576 - (l.length : Int)) rfl (by omega) (by omega) (by omega) (fun j hj => by omega)
    refine ⟨if t < 0 then -1 else t, Ev.bind (Ev_neg c ht) ?_, fun h => ⟨by omega, fun r h2 => ?_⟩⟩
    · by_cases c2 : t < 0
      · exact Ev_eq (Ev_pos c2 (Ev_some rfl)) (if_pos c2).symm
      · exact Ev_eq (Ev_neg c2 (Ev_some rfl)) (if_neg c2).symm
    · obtain ⟨j, hj, rfl⟩ := List.getElem_of_mem h2
      have := hh (by by_cases c2 : t < 0
                     · rw [if_pos c2] at h; omega
                     · omega) j hj
      rwa [getD_lt _ _ _ hj] at this
theorem toIntSS_l0 (l : List (List Int)) (hs : Small l) : ∀ (d i : Nat) (ys : List (List Int)), l.length - i = d → ys.length = l.length → (∀ j, j < i → ys.getD j [] = l.getD j []) →
    Ev (fun k => laws_toIntSS.l0 k l ys (i : Int)) l := by
  intro d
  have hl := hs.1
  induction d with
  | zero =>
    intro i ys hd hy h
    refine Ev.step (fun k => by rw [laws_toIntSS.l0]) ?_
    exact Ev_neg (by omega) (Ev_some (ext_getL hy (fun j hj => h j (by omega))))
  | succ d ih =>
    intro i ys hd hy h
    refine Ev.step (fun k => by rw [laws_toIntSS.l0]) ?_
    refine Ev_pos (by omega) (Ev_pos (by omega) ?_)
    rw [rdL_nat, wrap_succ (by omega), Int.toNat_natCast]
    refine Ev.bind (toIntS_ev _ (hs.2 _ (getD_mem (by omega)))) (Ev_pos (by omega) ?_)
    refine ih (i + 1) _ (by omega) (by rw [List.length_set]; exact hy) ?_
    intro j hj
    by_cases e : j = i
    · subst e; rw [getD_lt _ _ _ (by rw [List.length_set]; omega)]; simp
    · rw [← h j (by omega)]; simp only [List.getD_eq_getElem?_getD]; rw [List.getElem?_set_ne (by omega)]
theorem toMatrix_ev (l : List (List Int)) (hs : Small l) : Ev (fun k => laws_toMatrix.f k l) l := by
  have hl := hs.1
  unfold laws_toMatrix.f laws_toIntSS.f
  exact Ev.bind (Ev_pos (by omega) (Ev_pos (by omega) (toIntSS_l0 l hs _ 0 _ rfl (by simp) (fun j hj => by omega)))) (Ev_some rfl)
theorem eqIntSS_refl (l : List (List Int)) (hl : l.length ≤ 4611686018427387000) (hr : ∀ r ∈ l, r.length ≤ 4611686018427387000) : Ev (fun k => laws_eqIntSS.f k l l) true := by
  unfold laws_eqIntSS.f
  refine Ev_pos rfl ?_
  refine (Ev_for (l := fun k (_ : Unit) i => laws_eqIntSS.l0 k l l (i : Int)) l.length (fun s _ => s) (fun _ => true) (fun _ _ => True) (fun _ _ _ _ => trivial) ?_ ?_ 0 () (by omega) trivial).1
  · intro i s hi _ r hr'
    refine Ev.step (fun k => by rw [laws_eqIntSS.l0]) ?_
    rw [rdL_nat, wrap_succ (by omega)]
    exact Ev_pos (by omega) (Ev_pos (by omega) (Ev_pos (by omega) (Ev.bind (eqIntS_refl _ (hr _ (getD_mem hi))) (Ev_pos rfl hr'))))
  · intro s _
    refine Ev.step (fun k => by rw [laws_eqIntSS.l0]) ?_
    exact Ev_neg (by omega) (Ev_some rfl)
theorem eqMatrix_refl (l : List (List Int)) (hl : l.length ≤ 4611686018427387000) (hr : ∀ r ∈ l, r.length ≤ 4611686018427387000) : Ev (fun k => laws_eqMatrix.f k l l) true := by
  unfold laws_eqMatrix.f
  exact Ev.bind (eqIntSS_refl l hl hr) (Ev_pos rfl (Ev_some rfl))
theorem eqMatrix_small (l : List (List Int)) (hs : Small l) : Ev (fun k => laws_eqMatrix.f k l l) true := eqMatrix_refl l (by have := hs.1; omega) (fun r hr => by have := hs.2 r hr; omega)
/-- The sum of f 0, .., f (n - 1). -/
def sumZ : Nat → (Nat → Int) → Int
  | 0, _ => 0
  | n + 1, f => sumZ n f + f n
theorem sumZ_congr {n : Nat} {f g : Nat → Int} (h : ∀ i, i < n → f i = g i) : sumZ n f = sumZ n g := by
  induction n with
  | zero => rfl
  | succ n ih => rw [sumZ, sumZ, ih (fun i hi => h i (by omega)), h n (by omega)]
theorem sumZ_bound {n : Nat} {f : Nat → Int} {B : Int} (hB : 0 ≤ B) (h : ∀ i, i < n → 0 ≤ f i ∧ f i ≤ B) : 0 ≤ sumZ n f ∧ sumZ n f ≤ n * B := by
  induction n with
  | zero => simp [sumZ]
  | succ n ih =>
    have h1 := ih (fun i hi => h i (by omega))
    have h2 := h n (by omega)
    rw [sumZ, show ((n + 1 : Nat) : Int) * B = n * B + B from by rw [Int.natCast_add, Int.add_mul]; simp]
    omega
theorem sumZ_nonneg {n : Nat} {f : Nat → Int} (h : ∀ i, i < n → 0 ≤ f i) : 0 ≤ sumZ n f := by
  induction n with
  | zero => simp [sumZ]
  | succ n ih => have := ih (fun i hi => h i (by omega)); have := h n (by omega); rw [sumZ]; omega
theorem sumZ_mono {n m : Nat} {f : Nat → Int} (hnm : n ≤ m) (h : ∀ i, i < m → 0 ≤ f i) : sumZ n f ≤ sumZ m f := by
  induction m with
  | zero => obtain rfl : n = 0 := by omega
            exact Int.le_refl _
  | succ m ih =>
    by_cases e : n = m + 1
    · rw [e]; exact Int.le_refl _
    · have := ih (by omega) (fun i hi => h i (by omega)); have := h m (by omega); rw [sumZ]; omega
theorem sumZ_term {n : Nat} {f : Nat → Int} (h : ∀ i, i < n → 0 ≤ f i) {i : Nat} (hi : i < n) : f i ≤ sumZ n f := by
  induction n with
  | zero => omega
  | succ n ih =>
    have h0 := sumZ_nonneg (n := n) (fun j hj => h j (by omega))
    rw [sumZ]
    by_cases e : i = n
    · rw [e]; omega
    · have := ih (fun j hj => h j (by omega)) (by omega); have := h n (by omega); omega
theorem sumZ_zero {n : Nat} {f : Nat → Int} (h : ∀ i, i < n → 0 ≤ f i) : sumZ n f = 0 ↔ ∀ i, i < n → f i = 0 := by
  refine ⟨fun h0 i hi => ?_, fun h0 => ?_⟩
  · have := sumZ_term h hi; have := h i hi; omega
  · rw [sumZ_congr (g := fun _ => 0) h0]
    clear h h0
    induction n with
    | zero => rfl
    | succ n ih => rw [sumZ, ih]; rfl
theorem sumZ_add (n : Nat) (f g : Nat → Int) : sumZ n (fun i => f i + g i) = sumZ n f + sumZ n g := by
  induction n with
  | zero => rfl
  | succ n ih => simp only [sumZ, ih]; omega
theorem sumZ_swap (n m : Nat) (f : Nat → Nat → Int) : sumZ n (fun i => sumZ m (fun j => f i j)) = sumZ m (fun j => sumZ n (fun i => f i j)) := by
  induction n with
  | zero =>
    exact ((sumZ_zero (n := m) (f := fun j => sumZ 0 fun i => f i j) (fun _ _ => Int.le_refl _)).2 (fun _ _ => rfl)).symm
  | succ n ih =>
    rw [sumZ, ih, ← sumZ_add]
    exact sumZ_congr (fun j _ => rfl)
/-- The number in row i and column j. -/
def en (m : List (List Int)) (i j : Nat) : Int := (m.getD i []).getD j 0
def Cells (m : List (List Int)) : Prop := ∀ i, i < m.length → (m.getD i []).length = m.length ∧ ∀ j, j < m.length → 0 ≤ en m i j ∧ en m i j ≤ 12 ∧ (j < i → en m i j = 0)
def rowZ (m : List (List Int)) (i : Nat) : Int := sumZ m.length (fun j => en m i j)
def colZ (m : List (List Int)) (j : Nat) : Int := sumZ m.length (fun i => en m i j)
def allZ (m : List (List Int)) : Int := sumZ m.length (fun i => rowZ m i)
def isMat (m : List (List Int)) : Prop := m.length ≤ 12 ∧ Cells m ∧ (∀ i, i < m.length → rowZ m i ≠ 0) ∧ (∀ j, j < m.length → colZ m j ≠ 0) ∧ allZ m ≤ 12
instance (m : List (List Int)) : Decidable (Cells m) := inferInstanceAs (Decidable (∀ i, i < m.length → _))
instance (m : List (List Int)) : Decidable (isMat m) := inferInstanceAs (Decidable (_ ∧ _))
theorem Cells.row {m : List (List Int)} (h : Cells m) {i : Nat} (hi : i < m.length) : 0 ≤ rowZ m i ∧ rowZ m i ≤ m.length * 12 := sumZ_bound (by decide) (fun j hj => ⟨((h i hi).2 j hj).1, ((h i hi).2 j hj).2.1⟩)
theorem Cells.nn {m : List (List Int)} (h : Cells m) {i j : Nat} (hi : i < m.length) (hj : j < m.length) : 0 ≤ en m i j := ((h i hi).2 j hj).1
theorem Cells.le {m : List (List Int)} (h : Cells m) {i j : Nat} (hi : i < m.length) (hj : j < m.length) : en m i j ≤ 12 := ((h i hi).2 j hj).2.1
def rowsL (m : List (List Int)) : List Int := (List.range m.length).map fun (i : Nat) => rowZ m i
def colsL (m : List (List Int)) : List Int := (List.range m.length).map fun (j : Nat) => colZ m j
theorem mapR_length (n : Nat) (f : Nat → Int) : ((List.range n).map f).length = n := by simp
theorem mapR_getD (n : Nat) (f : Nat → Int) {i : Nat} (h : i < n) : ((List.range n).map f).getD i 0 = f i := by rw [getD_lt _ _ _ (by simpa using h)]; simp
theorem maTotal_ev (row : List Int) (hl : row.length ≤ 1000000) (hb : ∀ j, j < row.length → 0 ≤ row.getD j 0 ∧ row.getD j 0 ≤ 1000000) : Ev (fun k => spec_maTotal.f k row) (sumZ row.length (fun j => row.getD j 0)) := by
  unfold spec_maTotal.f
  have main : ∀ (d i : Nat), row.length - i = d → i ≤ row.length → Ev (fun k => spec_maTotal.l0 k (sumZ i (fun j => row.getD j 0)) row (row.length : Int) (i : Int)) (sumZ row.length (fun j => row.getD j 0)) := by
    intro d
    induction d with
    | zero =>
      intro i hd hi
      obtain rfl : i = row.length := by omega
      exact Ev.step (fun _ => rfl) (Ev_neg (by omega) (Ev_some rfl))
    | succ d ih =>
      intro i hd hi
      refine Ev.step (fun _ => rfl) (Ev_pos (by omega) (Ev_pos (by omega) (Ev_pos (by omega) ?_)))
      have h1 := sumZ_bound (n := i) (f := fun j => row.getD j 0) (B := 1000000) (by decide) (fun j hj => hb j (by omega))
      have h2 := hb i (by omega)
      rw [rd_nat, wrap_succ (by omega), wrap_small (by omega) (by omega)]
      exact ih (i + 1) (by omega) (by omega)
  exact main _ 0 rfl (by omega)
theorem Cells.rowT {m : List (List Int)} (h : Cells m) (hd : m.length ≤ 12) {i : Nat} (hi : i < m.length) : Ev (fun k => spec_maTotal.f k (m.getD i [])) (rowZ m i) := by
  have hl := (h i hi).1
  have := maTotal_ev (m.getD i []) (by omega) (fun j hj => ⟨h.nn hi (by omega), by have := h.le hi (show j < m.length by omega); simp only [en] at this; omega⟩)
  rw [hl] at this
  exact this
theorem maSum_ev (m : List (List Int)) (hd : m.length ≤ 12) (h : Cells m) : Ev (fun k => spec_maSum.f k m) (allZ m) := by
  unfold spec_maSum.f
  have main : ∀ (d i : Nat), m.length - i = d → i ≤ m.length → Ev (fun k => spec_maSum.l0 k (sumZ i (fun i => rowZ m i)) m (m.length : Int) (i : Int)) (allZ m) := by
    intro d
    induction d with
    | zero =>
      intro i hd hi
      obtain rfl : i = m.length := by omega
      exact Ev.step (fun _ => rfl) (Ev_neg (by omega) (Ev_some rfl))
    | succ d ih =>
      intro i hd' hi
      refine Ev.step (fun _ => rfl) (Ev_pos (by omega) (Ev_pos (by omega) (Ev_pos (by omega) ?_)))
      have h1 := sumZ_bound (n := i) (f := fun i => rowZ m i) (B := 144) (by decide) (fun j hj => by have := h.row (show j < m.length by omega); omega)
      have h2 := h.row (show i < m.length by omega)
      rw [rdL_nat, wrap_succ (by omega)]
      refine Ev.bind (h.rowT hd (by omega)) ?_
      rw [wrap_small (by omega) (by omega)]
      exact ih (i + 1) (by omega) (by omega)
  exact main _ 0 rfl (by omega)
def colL (m : List (List Int)) (j : Nat) : List Int := (List.range m.length).map fun (i : Nat) => en m i j
theorem maColumn_ev (m : List (List Int)) (hd : m.length ≤ 12) (h : Cells m) (j : Nat) (hj : j < m.length) : Ev (fun k => spec_maColumn.f k m (j : Int)) (colL m j) := by
  unfold spec_maColumn.f
  have main : ∀ (d i : Nat), m.length - i = d → i ≤ m.length → Ev (fun k => spec_maColumn.l0 k (j : Int) ((List.range i).map fun (i : Nat) => en m i j) m (m.length : Int) (i : Int)) (colL m j) := by
    intro d
    induction d with
    | zero =>
      intro i hd hi
      obtain rfl : i = m.length := by omega
      exact Ev.step (fun _ => rfl) (Ev_neg (by omega) (Ev_some rfl))
    | succ d ih =>
      intro i hd' hi
      refine Ev.step (fun _ => rfl) (Ev_pos (by omega) (Ev_pos (by omega) (Ev_pos (by omega) ?_)))
      have hl := (h i (by omega)).1
      rw [rdL_nat, rd_nat, wrap_succ (by omega)]
      refine Ev_pos (by omega) (Ev_pos (by omega) (Ev_pos (by simp; omega) ?_))
      have := ih (i + 1) (by omega) (by omega)
      rw [List.range_succ, List.map_append] at this
      exact this
  exact main _ 0 rfl (by omega)
def mostL (row : List Int) : Int := foldFrom row.length (fun s i => if row.getD i 0 > s then row.getD i 0 else s) (-1) 0
theorem l1Most_eq (a b : Int) : spec_l1Most.f a b = some (if b > a then b else a) := by
  unfold spec_l1Most.f
  by_cases h : a > b
  · rw [if_pos h, if_neg (by omega)]
  · rw [if_neg h]
    by_cases h2 : b > a
    · rw [if_pos h2]
    · rw [if_neg h2, show a = b from by omega]
theorem ivMost_ev (row : List Int) (hl : row.length ≤ 1000000) : Ev (fun k => spec_ivMost.f k row) (mostL row) := by
  unfold spec_ivMost.f
  refine (Ev_for (l := fun k s i => spec_ivMost.l0 k s row (row.length : Int) (i : Int)) row.length (fun s i => if row.getD i 0 > s then row.getD i 0 else s) id (fun _ _ => True) (fun _ _ _ _ => trivial) ?_ ?_ 0 (-1) (by omega) trivial).1
  · intro i s hi _ r hr
    refine Ev.step (fun _ => rfl) (Ev_pos (by omega) (Ev_pos (by omega) (Ev_pos (by omega) ?_)))
    rw [rd_nat, wrap_succ (by omega), l1Most_eq]
    exact Ev_val rfl hr
  · intro s _
    exact Ev.step (fun _ => rfl) (Ev_neg (by omega) (Ev_some rfl))
theorem mostL_zero {row : List Int} (hp : 0 < row.length) (h : ∀ j, j < row.length → 0 ≤ row.getD j 0) : mostL row = 0 ↔ ∀ j, j < row.length → row.getD j 0 = 0 := by
  have main : ∀ (d i : Nat) (s : Int), row.length - i = d → i ≤ row.length → (s = -1 ∧ i = 0 ∨ 0 ≤ s) → (foldFrom row.length (fun s i => if row.getD i 0 > s then row.getD i 0 else s) s i = 0 ↔ (s ≤ 0 ∧ ∀ j, i ≤ j → j < row.length → row.getD j 0 = 0)) := by
    intro d
    induction d with
    | zero =>
      intro i s hd hi hs
      rw [foldFrom_ge (by omega)]
      exact ⟨fun h0 => ⟨by omega, fun j hij hj => by omega⟩, fun h0 => by omega⟩
    | succ d ih =>
      intro i s hd hi hs
      have h1 := h i (by omega)
      rw [foldFrom_lt (by omega)]
      by_cases c : row.getD i 0 > s
      · rw [if_pos c, ih (i + 1) _ (by omega) (by omega) (.inr h1)]
        refine ⟨fun ⟨h2, h3⟩ => ⟨by omega, fun j hij hj => ?_⟩, fun ⟨h2, h3⟩ => ⟨by have := h3 i (by omega) (by omega); omega, fun j hij hj => h3 j (by omega) hj⟩⟩
        by_cases e : j = i
        · rw [e]; omega
        · exact h3 j (by omega) hj
      · rw [if_neg c, ih (i + 1) _ (by omega) (by omega) (.inr (by omega))]
        refine ⟨fun ⟨h2, h3⟩ => ⟨by omega, fun j hij hj => ?_⟩, fun ⟨h2, h3⟩ => ⟨h2, fun j hij hj => h3 j (by omega) hj⟩⟩
        by_cases e : j = i
        · rw [e]; omega
        · exact h3 j (by omega) hj
  unfold mostL
  rw [main _ 0 (-1) rfl (by omega) (.inl ⟨rfl, rfl⟩)]
  exact ⟨fun h0 j hj => h0.2 j (by omega) hj, fun h0 => ⟨by omega, fun j _ hj => h0 j hj⟩⟩
theorem l1In_eq (a b c : Int) : spec_l1In.f a b c = some (decide (b ≤ a ∧ a ≤ c)) := by
  unfold spec_l1In.f
  by_cases h : a ≥ b
  · rw [if_pos h]; have : b ≤ a := h; simp [this]
  · rw [if_neg h]; simp; omega
theorem l1All_ev (l : List Int) (lo hi : Int) (hs : l.length ≤ 4611686018427387000) : Ev (fun k => spec_l1All.f k l lo hi) (decide (∀ j, j < l.length → lo ≤ l.getD j 0 ∧ l.getD j 0 ≤ hi)) := by
  unfold spec_l1All.f
  refine Ev_eq (Ev_all (fun k i => spec_l1All.l0 k lo hi l (l.length : Int) (i : Int)) l.length (fun j => decide (lo ≤ l.getD j 0 ∧ l.getD j 0 ≤ hi)) true ?_ ?_ ?_) ?_
  · intro i hi' _ hP q hq
    refine Ev.step (fun _ => rfl) (Ev_pos (by omega) (Ev_pos (by omega) (Ev_pos (by omega) ?_)))
    rw [rd_nat, wrap_succ (by omega), l1In_eq]
    exact Ev_val rfl (Ev_pos hP hq)
  · intro i hi' _ hP
    refine Ev.step (fun _ => rfl) (Ev_pos (by omega) (Ev_pos (by omega) (Ev_pos (by omega) ?_)))
    rw [rd_nat, l1In_eq]
    exact Ev_val rfl (Ev_neg (by rw [hP]; decide) (Ev_some rfl))
  · intro _
    exact Ev.step (fun _ => rfl) (Ev_neg (by omega) (Ev_some rfl))
  · rw [Bool.and_true]; exact dec_eq ⟨fun h j hj => of_decide_eq_true (h j hj), fun h j hj => decide_eq_true (h j hj)⟩
/-- What the reference asks of row i. -/
def rowOk (m : List (List Int)) (i : Nat) : Prop := (m.getD i []).length = m.length ∧ (∀ j, j < m.length → 0 ≤ en m i j ∧ en m i j ≤ 12) ∧ rowZ m i ≠ 0 ∧ ∀ j, j < m.length → j < i → en m i j = 0
instance (m : List (List Int)) (i : Nat) : Decidable (rowOk m i) := inferInstanceAs (Decidable (_ ∧ _ ∧ _ ∧ ∀ j, j < m.length → _))
theorem cells_of_rows {m : List (List Int)} (h : ∀ i, i < m.length → rowOk m i) : Cells m := fun i hi => ⟨(h i hi).1, fun j hj => ⟨((h i hi).2.1 j hj).1, ((h i hi).2.1 j hj).2, fun hji => (h i hi).2.2.2 j hj hji⟩⟩
theorem rowMost (m : List (List Int)) (i : Nat) (hi : i < m.length) (hl : (m.getD i []).length = m.length) (hw : ∀ j, j < m.length → 0 ≤ en m i j ∧ en m i j ≤ 12) : mostL (m.getD i []) = 0 ↔ rowZ m i = 0 := by
  rw [mostL_zero (by omega) (fun j hj => (hw j (by omega)).1), rowZ, sumZ_zero (fun j hj => (hw j hj).1), hl]
  exact Iff.rfl
theorem maGood_l1 (m : List (List Int)) (hd : m.length ≤ 12) (i : Nat) (hi : i < m.length) (hl : (m.getD i []).length = m.length) (hw : ∀ j, j < m.length → 0 ≤ en m i j ∧ en m i j ≤ 12) (q : Bool)
    (hq : (∀ j, j < m.length → j < i → en m i j = 0) → Ev (fun k => spec_maGood.l0 k (m.length : Int) m (m.length : Int) ((i + 1 : Nat) : Int) m) q) :
    Ev (fun k => spec_maGood.l1 k (m.length : Int) (i : Int) m (m.length : Int) (i : Int) (m.getD i []) ((m.getD i []).length : Int) 0 m) (decide (∀ j, j < m.length → j < i → en m i j = 0) && q) := by
  rw [hl]
  refine Ev_eq (Ev_all (fun k j => spec_maGood.l1 k (m.length : Int) (i : Int) m (m.length : Int) (i : Int) (m.getD i []) (m.length : Int) (j : Int) m) m.length (fun j => decide (j < i → en m i j = 0)) q ?_ ?_ ?_) ?_
  · intro j hj _ hP r hr
    refine Ev.step (fun _ => rfl) (Ev_pos (by omega) (Ev_pos (by omega) (Ev_pos (by omega) ?_)))
    rw [rd_nat, wrap_succ (by omega)]
    have hP := of_decide_eq_true hP
    by_cases c : j < i
    · exact Ev_pos (by omega) (Ev_neg (by have := hP c; simp only [en] at this; omega) hr)
    · exact Ev_neg (by omega) hr
  · intro j hj _ hP
    refine Ev.step (fun _ => rfl) (Ev_pos (by omega) (Ev_pos (by omega) (Ev_pos (by omega) ?_)))
    rw [rd_nat]
    have hP := of_decide_eq_false hP
    have h1 := hw j hj
    have h2 : en m i j ≠ 0 := fun h => hP (fun _ => h)
    have h3 : j < i := by
      by_cases c : j < i
      · exact c
      · exact absurd (fun h => absurd h c) hP
    exact Ev_pos (by omega) (Ev_pos (by simp only [en] at h1 h2; omega) (Ev_some rfl))
  · intro h
    refine Ev.step (fun _ => rfl) (Ev_neg (by omega) ?_)
    rw [wrap_succ (by omega)]
    exact hq (fun j hj => of_decide_eq_true (h j hj))
  · congr 1; exact dec_eq ⟨fun h j hj => of_decide_eq_true (h j hj), fun h j hj => decide_eq_true (h j hj)⟩
theorem maGood_l2 (m : List (List Int)) (hd : m.length ≤ 12) (h : Cells m) : Ev (fun k => spec_maGood.l2 k (m.length : Int) 0 m) (decide ((∀ j, j < m.length → colZ m j ≠ 0) ∧ allZ m ≤ 12)) := by
  refine Ev_eq (Ev_all (fun k j => spec_maGood.l2 k (m.length : Int) (j : Int) m) m.length (fun j => decide (colZ m j ≠ 0)) (decide (allZ m ≤ 12)) ?_ ?_ ?_) ?_
  all_goals first
    | (intro j hj _ hP r hr
       refine Ev.step (fun _ => rfl) (Ev_pos (by omega) (Ev.bind (maColumn_ev m hd h j hj) (Ev.bind (ivMost_ev _ (by simp [colL]; omega)) ?_)))
       have hP := of_decide_eq_true hP
       have e : mostL (colL m j) = 0 ↔ colZ m j = 0 := by
         rw [mostL_zero (by simp [colL]; omega) (fun i hi => by rw [colL, mapR_getD _ _ (by simpa [colL] using hi)]; exact h.nn (by simpa [colL] using hi) hj), colZ, sumZ_zero (fun i hi => h.nn hi hj)]
         simp only [colL, mapR_length]
         exact ⟨fun h2 i hi => by have := h2 i hi; rwa [mapR_getD _ _ hi] at this, fun h2 i hi => by rw [mapR_getD _ _ hi]; exact h2 i hi⟩
       rw [wrap_succ (by omega)]
       exact Ev_neg (fun hh => hP (e.1 hh)) hr)
    | (intro j hj _ hP
       refine Ev.step (fun _ => rfl) (Ev_pos (by omega) (Ev.bind (maColumn_ev m hd h j hj) (Ev.bind (ivMost_ev _ (by simp [colL]; omega)) ?_)))
       have hP := of_decide_eq_false hP
       have e : mostL (colL m j) = 0 ↔ colZ m j = 0 := by
         rw [mostL_zero (by simp [colL]; omega) (fun i hi => by rw [colL, mapR_getD _ _ (by simpa [colL] using hi)]; exact h.nn (by simpa [colL] using hi) hj), colZ, sumZ_zero (fun i hi => h.nn hi hj)]
         simp only [colL, mapR_length]
         exact ⟨fun h2 i hi => by have := h2 i hi; rwa [mapR_getD _ _ hi] at this, fun h2 i hi => by rw [mapR_getD _ _ hi]; exact h2 i hi⟩
       exact Ev_pos (e.2 (Decidable.of_not_not hP)) (Ev_some rfl))
    | (intro _
       exact Ev.step (fun _ => rfl) (Ev_neg (by omega) (Ev.bind (maSum_ev m hd h) (Ev_some rfl))))
    | skip
  rw [Bool.decide_and]; congr 1; exact dec_eq ⟨fun h j hj => of_decide_eq_true (h j hj), fun h j hj => decide_eq_true (h j hj)⟩
theorem maGood_ev (m : List (List Int)) (hs : Small m) : Ev (fun k => spec_maGood.f k m) (decide (isMat m)) := by
  unfold spec_maGood.f
  by_cases hd : m.length ≤ 12
  · refine Ev_neg (by omega) ?_
    by_cases hC : Cells m ∧ ∀ i, i < m.length → rowZ m i ≠ 0
    · have key : ∀ (d i : Nat), m.length - i = d → i ≤ m.length → Ev (fun k => spec_maGood.l0 k (m.length : Int) m (m.length : Int) (i : Int) m) (decide ((∀ j, j < m.length → colZ m j ≠ 0) ∧ allZ m ≤ 12)) := by
        intro d
        induction d with
        | zero =>
          intro i hdi hi
          exact Ev.step (fun _ => rfl) (Ev_neg (by omega) (maGood_l2 m hd hC.1))
        | succ d ih =>
          intro i hdi hi
          have hl := (hC.1 i (by omega)).1
          have hw : ∀ j, j < m.length → 0 ≤ en m i j ∧ en m i j ≤ 12 := fun j hj => ⟨hC.1.nn (by omega) hj, hC.1.le (by omega) hj⟩
          refine Ev.step (fun _ => rfl) (Ev_pos (by omega) (Ev_pos (by omega) (Ev_pos (by omega) ?_)))
          rw [rdL_nat]
          refine Ev_pos (by omega) (Ev.bind (l1All_ev _ 0 12 (by omega)) (Ev_pos (decide_eq_true (fun j hj => hw j (by omega))) (Ev.bind (ivMost_ev _ (by omega)) ?_)))
          refine Ev.step (fun _ => rfl) (Ev_neg ?_ ?_)
          · rw [beq_iff_eq, rowMost m i (by omega) hl hw]; exact hC.2 i (by omega)
          · refine Ev_eq (maGood_l1 m hd i (by omega) hl hw _ (fun _ => ih (i + 1) (by omega) (by omega))) ?_
            rw [decide_eq_true (fun j hj hji => ((hC.1 i (by omega)).2 j hj).2.2 hji), Bool.true_and]
      refine Ev_eq (key _ 0 rfl (by omega)) (dec_eq ⟨fun h => ⟨hd, hC.1, hC.2, h.1, h.2⟩, fun h => ⟨h.2.2.2.1, h.2.2.2.2⟩⟩)
    · have key : ∀ (d i : Nat), m.length - i = d → i ≤ m.length → (∀ j, j < i → rowOk m j) → Ev (fun k => spec_maGood.l0 k (m.length : Int) m (m.length : Int) (i : Int) m) false := by
        intro d
        induction d with
        | zero =>
          intro i hdi hi h
          exact absurd ⟨cells_of_rows (fun j hj => h j (by omega)), fun j hj => (h j (by omega)).2.2.1⟩ hC
        | succ d ih =>
          intro i hdi hi h
          have hout : ∀ (b : Bool), b = true → Ev (fun k => spec_maGood.j1 k (m.length : Int) (i : Int) (m.getD i []) m (m.length : Int) (i : Int) b m) false := fun b hb =>
            Ev.step (fun _ => rfl) (Ev_pos hb (Ev_some rfl))
          refine Ev.step (fun _ => rfl) (Ev_pos (by omega) (Ev_pos (by omega) (Ev_pos (by omega) ?_)))
          rw [rdL_nat]
          have hsm := hs.2 _ (getD_mem (z := []) (show i < m.length by omega))
          by_cases c1 : (m.getD i []).length = m.length
          · refine Ev_pos (by omega) (Ev.bind (l1All_ev _ 0 12 (by omega)) ?_)
            by_cases c2 : ∀ j, j < (m.getD i []).length → 0 ≤ (m.getD i []).getD j 0 ∧ (m.getD i []).getD j 0 ≤ 12
            · have hw : ∀ j, j < m.length → 0 ≤ en m i j ∧ en m i j ≤ 12 := fun j hj => c2 j (by omega)
              refine Ev_pos (decide_eq_true c2) (Ev.bind (ivMost_ev _ (by omega)) ?_)
              by_cases c3 : rowZ m i = 0
              · exact hout _ (by rw [beq_iff_eq, rowMost m i (by omega) c1 hw]; exact c3)
              · refine Ev.step (fun _ => rfl) (Ev_neg (by rw [beq_iff_eq, rowMost m i (by omega) c1 hw]; exact c3) ?_)
                refine Ev_eq (maGood_l1 m hd i (by omega) c1 hw false (fun h4 => ih (i + 1) (by omega) (by omega) (fun j hj => ?_))) (by simp)
                by_cases e : j = i
                · rw [e]; exact ⟨c1, hw, c3, h4⟩
                · exact h j (by omega)
            · exact Ev_neg (by simpa using c2) (hout _ rfl)
          · exact Ev_neg (by omega) (hout _ rfl)
      refine Ev_eq (key _ 0 rfl (by omega) (fun j hj => by omega)) ?_
      symm; rw [decide_eq_false_iff_not]; exact fun h => hC ⟨h.2.1, h.2.2.1⟩
  · refine Ev_pos (by omega) (Ev_some ?_)
    symm; rw [decide_eq_false_iff_not]; exact fun h => hd h.1
theorem within_eq (a b c : Int) : impl_within.f a b c = some (decide (b ≤ a ∧ a ≤ c)) := by
  unfold impl_within.f
  by_cases h : a ≥ b
  · rw [if_pos h]; have : b ≤ a := h; simp [this]
  · rw [if_neg h]; simp; omega
theorem allWithin_l0 (l : List Int) (lo hi : Int) (hs : l.length ≤ 4611686018427387000) : ∀ (d i : Nat), l.length - i = d → i ≤ l.length →
    Ev (fun k => impl_allWithin.l0 k lo hi l (l.length : Int) (i : Int)) (decide (∀ j, j < l.length → i ≤ j → lo ≤ l.getD j 0 ∧ l.getD j 0 ≤ hi)) := by
  intro d
  induction d with
  | zero =>
    intro i hd hi
    refine Ev.step (fun k => by rw [impl_allWithin.l0]) ?_
    refine Ev_neg (by omega) (Ev_some ?_)
    symm; rw [decide_eq_true_iff]; intro j hj hij; omega
  | succ d ih =>
    intro i hd hi'
    refine Ev.step (fun k => by rw [impl_allWithin.l0]) ?_
    refine Ev_pos (by omega) (Ev_pos (by omega) (Ev_pos (by omega) ?_))
    rw [rd_nat, wrap_succ (by omega), within_eq]
    refine Ev_val rfl ?_
    by_cases c : lo ≤ l.getD i 0 ∧ l.getD i 0 ≤ hi
    · refine Ev_pos (decide_eq_true c) (Ev_eq (ih (i + 1) (by omega) (by omega)) (dec_eq ?_))
      refine ⟨fun hh j hj hij => ?_, fun hh j hj hij => hh j hj (by omega)⟩
      by_cases e : j = i
      · subst e; exact c
      · exact hh j hj (by omega)
    · refine Ev_neg (by simpa using c) (Ev_some ?_)
      symm; rw [decide_eq_false_iff_not]
      intro hh; exact c (hh i (by omega) (by omega))
theorem allWithin_ev (l : List Int) (lo hi : Int) (hs : l.length ≤ 4611686018427387000) : Ev (fun k => impl_allWithin.f k l lo hi) (decide (∀ j, j < l.length → lo ≤ l.getD j 0 ∧ l.getD j 0 ≤ hi)) := by
  unfold impl_allWithin.f
  refine Ev_eq (allWithin_l0 l lo hi hs _ 0 rfl (by omega)) (dec_eq ?_)
  exact ⟨fun h j hj => h j hj (by omega), fun h j hj _ => h j hj⟩
theorem setR (n : Nat) (f g : Nat → Int) (i : Nat) (hi : i < n) (h : ∀ j, j < n → j ≠ i → g j = f j) : ((List.range n).map f).set i (g i) = (List.range n).map g := by
  apply List.ext_getElem (by simp)
  intro j h1 h2
  simp only [List.length_map, List.length_range] at h2
  by_cases e : j = i
  · subst e; simp
  · rw [List.getElem_set_ne (fun x => e x.symm)]; simp [h j h2 e]
theorem replR (n : Nat) : List.replicate n (0 : Int) = (List.range n).map (fun _ => 0) := by
  apply List.ext_getElem (by simp); intro j h1 h2; simp
theorem sums_l1 (m : List (List Int)) (hd : m.length ≤ 12) (h : Cells m) (i : Nat) (hi : i < m.length) (R : List Int × List Int)
    (hR : Ev (fun k => impl_Matrix_sums.l0 k ((List.range m.length).map fun (a : Nat) => if a < i + 1 then rowZ m a else 0) ((List.range m.length).map fun (b : Nat) => sumZ (i + 1) (fun a => en m a b)) m (m.length : Int) ((i + 1 : Nat) : Int)) R) :
    ∀ (d j : Nat), m.length - j = d → j ≤ m.length → Ev (fun k => impl_Matrix_sums.l1 k ((List.range m.length).map fun (a : Nat) => if a < i then rowZ m a else if a = i then sumZ j (fun b => en m i b) else 0)
      ((List.range m.length).map fun (b : Nat) => sumZ i (fun a => en m a b) + if b < j then en m i b else 0) (i : Int) m (m.length : Int) (i : Int) (m.getD i []) (m.length : Int) (j : Int)) R := by
  intro d
  induction d with
  | zero =>
    intro j hdj hj
    obtain rfl : j = m.length := by omega
    refine Ev.step (fun _ => rfl) (Ev_neg (by omega) ?_)
    rw [wrap_succ (by omega)]
    refine (Ev_eq hR rfl).congr (fun k => ?_)
    congr 1
    · apply List.map_congr_left; intro a ha
      by_cases c : a < i
      · rw [if_pos c, if_pos (by omega)]
      · rw [if_neg c]
        by_cases e : a = i
        · rw [if_pos e, if_pos (by omega), e]; rfl
        · rw [if_neg e, if_neg (by omega)]
    · apply List.map_congr_left; intro b hb
      have : b < m.length := by simpa using hb
      rw [if_pos this]; rfl
  | succ d ih =>
    intro j hdj hj
    have hl := (h i hi).1
    have h1 := h.nn hi (show j < m.length by omega)
    have h2 := h.le hi (show j < m.length by omega)
    have h3 := sumZ_bound (n := j) (f := fun b => en m i b) (B := 12) (by decide) (fun b hb => ⟨h.nn hi (by omega), h.le hi (by omega)⟩)
    have h4 := sumZ_bound (n := i) (f := fun a => en m a j) (B := 12) (by decide) (fun a ha => ⟨h.nn (by omega) (show j < m.length by omega), h.le (by omega) (show j < m.length by omega)⟩)
    refine Ev.step (fun _ => rfl) (Ev_pos (by omega) (Ev_pos (by omega) (Ev_pos (by omega) (Ev_pos (by omega) (Ev_pos (by rw [mapR_length]; omega) (Ev_pos (by rw [mapR_length]; omega) ?_))))))
    rw [rd_nat, rd_nat, rd_nat, mapR_getD _ _ hi, mapR_getD _ _ (show j < m.length by omega), if_neg (Nat.lt_irrefl _), if_pos rfl, if_neg (Nat.lt_irrefl _), wrap_succ (by omega), Int.toNat_natCast, Int.toNat_natCast,
      show (m.getD i []).getD j 0 = en m i j from rfl, wrap_small (by omega) (by omega), wrap_small (by omega) (by omega)]
    refine (ih (j + 1) (by omega) (by omega)).congr (fun k => ?_)
    congr 1
    · have := setR m.length (fun a => if a < i then rowZ m a else if a = i then sumZ j (fun b => en m i b) else 0) (fun a => if a < i then rowZ m a else if a = i then sumZ (j + 1) (fun b => en m i b) else 0) i hi (fun a _ hne => by
        by_cases c : a < i
        · rw [if_pos c, if_pos c]
        · rw [if_neg c, if_neg c, if_neg hne, if_neg hne])
      rw [← this, if_neg (Nat.lt_irrefl _), if_pos rfl]; rfl
    · have := setR m.length (fun b => sumZ i (fun a => en m a b) + if b < j then en m i b else 0) (fun b => sumZ i (fun a => en m a b) + if b < j + 1 then en m i b else 0) j (by omega) (fun b _ hne => by
        by_cases c : b < j
        · rw [if_pos c, if_pos (by omega)]
        · rw [if_neg c, if_neg (by omega)])
      rw [← this, if_pos (by omega), Int.add_zero]
theorem sums_ev (m : List (List Int)) (hd : m.length ≤ 12) (h : Cells m) : Ev (fun k => impl_Matrix_sums.f k m) (rowsL m, colsL m) := by
  unfold impl_Matrix_sums.f impl_Matrix_size.f
  refine Ev_val rfl (Ev_pos (by omega) (Ev_pos (by omega) (Ev_val rfl (Ev_pos (by omega) (Ev_pos (by omega) ?_)))))
  rw [Int.toNat_natCast, replR]
  have main : ∀ (d i : Nat), m.length - i = d → i ≤ m.length → Ev (fun k => impl_Matrix_sums.l0 k ((List.range m.length).map fun (a : Nat) => if a < i then rowZ m a else 0) ((List.range m.length).map fun (b : Nat) => sumZ i (fun a => en m a b)) m (m.length : Int) (i : Int)) (rowsL m, colsL m) := by
    intro d
    induction d with
    | zero =>
      intro i hdi hi
      obtain rfl : i = m.length := by omega
      refine Ev.step (fun _ => rfl) (Ev_neg (by omega) (Ev_some ?_))
      unfold rowsL colsL
      congr 1
      apply List.map_congr_left; intro a ha
      rw [if_pos (by simpa using ha)]
    | succ d ih =>
      intro i hdi hi
      refine Ev.step (fun _ => rfl) (Ev_pos (by omega) (Ev_pos (by omega) (Ev_pos (by omega) ?_)))
      rw [rdL_nat, (h i (by omega)).1]
      refine (sums_l1 m hd h i (by omega) _ (ih (i + 1) (by omega) (by omega)) _ 0 rfl (by omega)).congr (fun k => ?_)
      congr 1
      · apply List.map_congr_left; intro a ha
        by_cases c : a < i
        · rw [if_pos c, if_pos c]
        · rw [if_neg c, if_neg c]; split <;> rfl
      · apply List.map_congr_left; intro b hb
        rw [if_neg (by omega), Int.add_zero]
  refine (main _ 0 rfl (by omega)).congr (fun k => ?_)
  congr 1
  all_goals (apply List.map_congr_left; intro a ha)
theorem Index_ev (l : List Int) (a : Int) (hl : l.length ≤ 1000000) : Ev (fun k => slices_Contains_int_int.f k l a) (decide (a ∈ l)) := by
  unfold slices_Contains_int_int.f slices_Index_int_int.f
  have main : ∀ (d i : Nat), l.length - i = d → i ≤ l.length → ∃ q : Int, Ev (fun k => slices_Index_int_int.l0 k l a (l.length : Int) (i : Int)) q ∧ (0 ≤ q ↔ ∃ j, i ≤ j ∧ j < l.length ∧ l.getD j 0 = a) := by
    intro d
    induction d with
    | zero =>
      intro i hd hi
      exact ⟨-1, Ev.step (fun _ => rfl) (Ev_neg (by omega) (Ev_some rfl)), ⟨fun h => absurd h (by decide), fun ⟨j, h1, h2, _⟩ => by omega⟩⟩
    | succ d ih =>
      intro i hd hi
      by_cases c : a = l.getD i 0
      · exact ⟨i, Ev.step (fun _ => rfl) (Ev_pos (by omega) (Ev_pos (by omega) (Ev_pos (by omega) (Ev_pos (by rw [rd_nat]; exact c) (Ev_some rfl))))), ⟨fun _ => ⟨i, Nat.le_refl _, by omega, c.symm⟩, fun _ => by omega⟩⟩
      · obtain ⟨q, h1, h2⟩ := ih (i + 1) (by omega) (by omega)
        refine ⟨q, Ev.step (fun _ => rfl) (Ev_pos (by omega) (Ev_pos (by omega) (Ev_pos (by omega) (Ev_neg (by rw [rd_nat]; exact c) ?_)))), ?_⟩
        · rw [wrap_succ (by omega)]; exact h1
        · rw [h2]
          refine ⟨fun ⟨j, h3, h4⟩ => ⟨j, by omega, h4⟩, fun ⟨j, h3, h4, h5⟩ => ⟨j, ?_, h4, h5⟩⟩
          by_cases e : j = i
          · rw [e] at h5; exact absurd h5.symm c
          · omega
  obtain ⟨q, h1, h2⟩ := main _ 0 rfl (by omega)
  refine Ev.bind h1 (Ev_some (dec_eq ?_))
  rw [ge_iff_le, h2, List.mem_iff_getElem]
  exact ⟨fun ⟨j, _, h4, h5⟩ => ⟨j, h4, by rwa [getD_lt _ _ _ h4] at h5⟩, fun ⟨j, h4, h5⟩ => ⟨j, by omega, h4, by rwa [getD_lt _ _ _ h4]⟩⟩
theorem sumOf_ev (m : List (List Int)) (hd : m.length ≤ 12) (h : Cells m) : Ev (fun k => impl_Matrix_sum.f k m) (allZ m) := by
  unfold impl_Matrix_sum.f
  refine Ev.bind (sums_ev m hd h) ?_
  have hl : (rowsL m).length = m.length := by simp [rowsL]
  have main : ∀ (d i : Nat), m.length - i = d → i ≤ m.length → Ev (fun k => impl_Matrix_sum.l0 k (sumZ i (fun i => rowZ m i)) (rowsL m) ((rowsL m).length : Int) (i : Int)) (allZ m) := by
    rw [hl]
    intro d
    induction d with
    | zero =>
      intro i hd hi
      obtain rfl : i = m.length := by omega
      exact Ev.step (fun _ => rfl) (Ev_neg (by omega) (Ev_some rfl))
    | succ d ih =>
      intro i hd' hi
      refine Ev.step (fun _ => rfl) (Ev_pos (by omega) (Ev_pos (by omega) (Ev_pos (by omega) ?_)))
      have h1 := sumZ_bound (n := i) (f := fun i => rowZ m i) (B := 144) (by decide) (fun j hj => by have := h.row (show j < m.length by omega); omega)
      have h2 := h.row (show i < m.length by omega)
      rw [rd_nat, show (rowsL m).getD i 0 = rowZ m i from mapR_getD _ _ (by omega), wrap_succ (by omega), wrap_small (by omega) (by omega)]
      exact ih (i + 1) (by omega) (by omega)
  exact main _ 0 rfl (by omega)
theorem mem_rowsL {m : List (List Int)} : (0 : Int) ∈ rowsL m ↔ ¬ ∀ i, i < m.length → rowZ m i ≠ 0 := by
  unfold rowsL
  rw [List.mem_map]
  refine ⟨fun ⟨i, h1, h2⟩ h => h i (by simpa using h1) h2, fun h => ?_⟩
  refine Classical.byContradiction (fun hn => h (fun i hi h0 => hn ⟨i, by simpa using hi, h0⟩))
theorem mem_colsL {m : List (List Int)} : (0 : Int) ∈ colsL m ↔ ¬ ∀ i, i < m.length → colZ m i ≠ 0 := by
  unfold colsL
  rw [List.mem_map]
  refine ⟨fun ⟨i, h1, h2⟩ h => h i (by simpa using h1) h2, fun h => ?_⟩
  refine Classical.byContradiction (fun hn => h (fun i hi h0 => hn ⟨i, by simpa using hi, h0⟩))
theorem containsFunc_eq (m : List (List Int)) (i : Nat) (hi : i < m.length) (hl : (m.getD i []).length = m.length) : slices_ContainsFunc_int_int.f ((m.getD i []).take i) = some (decide (¬ ∀ j, j < m.length → j < i → en m i j = 0)) := by
  unfold slices_ContainsFunc_int_int.f
  congr 1
  rw [Bool.eq_iff_iff, List.any_eq_true, decide_eq_true_iff]
  refine ⟨fun ⟨x, h1, h2⟩ h => ?_, fun h => ?_⟩
  · obtain ⟨j, hj, rfl⟩ := List.getElem_of_mem h1
    rw [List.length_take] at hj
    have := h j (by omega) (by omega)
    rw [List.getElem_take] at h2
    rw [en, getD_lt _ _ _ (by omega)] at this
    rw [this] at h2
    exact absurd h2 (by decide)
  · refine Classical.byContradiction (fun hn => h (fun j hj hji => Classical.byContradiction (fun h0 => hn ⟨en m i j, ?_, by simpa using h0⟩)))
    have e : en m i j = (m.getD i [])[j]'(by omega) := getD_lt _ _ _ (by omega)
    rw [e, List.mem_iff_getElem]
    exact ⟨j, by rw [List.length_take]; omega, by rw [List.getElem_take]⟩
def rowOk' (m : List (List Int)) (i : Nat) : Prop := (m.getD i []).length = m.length ∧ (∀ j, j < m.length → 0 ≤ en m i j ∧ en m i j ≤ 12) ∧ ∀ j, j < m.length → j < i → en m i j = 0
instance (m : List (List Int)) (i : Nat) : Decidable (rowOk' m i) := inferInstanceAs (Decidable (_ ∧ _ ∧ ∀ j, j < m.length → _))
theorem implIsMatrix_ev (m : List (List Int)) (hs : Small m) : Ev (fun k => impl_IsMatrix.f k m) (decide (isMat m)) := by
  unfold impl_IsMatrix.f impl_Matrix_size.f
  refine Ev_val rfl ?_
  by_cases hd : m.length ≤ 12
  · refine Ev_neg (by omega) ?_
    refine Ev_eq (Ev_all (fun k i => impl_IsMatrix.l0 k m (m.length : Int) (i : Int) m) m.length (fun i => decide (rowOk' m i)) (decide ((∀ i, i < m.length → rowZ m i ≠ 0) ∧ (∀ j, j < m.length → colZ m j ≠ 0) ∧ allZ m ≤ 12)) ?_ ?_ ?_) ?_
    · intro i hi _ hP q hq
      obtain ⟨h1, h2, h3⟩ := of_decide_eq_true hP
      refine Ev.step (fun _ => rfl) (Ev_pos (by omega) (Ev_pos (by omega) (Ev_pos (by omega) (Ev_val rfl ?_))))
      rw [rdL_nat, Int.toNat_natCast, containsFunc_eq m i hi h1, wrap_succ (by omega)]
      refine Ev_pos (by omega) (Ev.bind (allWithin_ev _ 0 12 (by omega)) (Ev_pos (decide_eq_true (fun j hj => h2 j (by omega))) (Ev_pos (by omega) (Ev_val rfl (Ev_neg ?_ hq)))))
      rw [decide_eq_true_iff]; exact fun hn => hn h3
    · intro i hi _ hP
      have hP := of_decide_eq_false hP
      refine Ev.step (fun _ => rfl) (Ev_pos (by omega) (Ev_pos (by omega) (Ev_pos (by omega) (Ev_val rfl ?_))))
      have hsm := hs.2 _ (getD_mem (z := []) (show i < m.length by omega))
      rw [rdL_nat]
      by_cases c1 : (m.getD i []).length = m.length
      · refine Ev_pos (by omega) (Ev.bind (allWithin_ev _ 0 12 (by omega)) ?_)
        by_cases c2 : ∀ j, j < (m.getD i []).length → 0 ≤ (m.getD i []).getD j 0 ∧ (m.getD i []).getD j 0 ≤ 12
        · refine Ev_pos (decide_eq_true c2) (Ev_pos (by omega) ?_)
          rw [Int.toNat_natCast, containsFunc_eq m i hi c1]
          exact Ev_val rfl (Ev_pos (decide_eq_true (fun h3 => hP ⟨c1, fun j hj => c2 j (by omega), h3⟩)) (Ev_some rfl))
        · exact Ev_neg (by simpa using c2) (Ev_some rfl)
      · exact Ev_neg (by omega) (Ev_some rfl)
    · intro h
      have hC : Cells m := fun i hi => by
        obtain ⟨h1, h2, h3⟩ := of_decide_eq_true (h i hi)
        exact ⟨h1, fun j hj => ⟨(h2 j hj).1, (h2 j hj).2, h3 j hj⟩⟩
      refine Ev.step (fun _ => rfl) (Ev_neg (by omega) (Ev.bind (sums_ev m hd hC) (Ev.bind (Index_ev _ 0 (by simp [rowsL]; omega)) ?_)))
      by_cases c1 : ∀ i, i < m.length → rowZ m i ≠ 0
      · refine Ev_neg (by rw [decide_eq_true_iff, mem_rowsL]; exact fun hn => hn c1) (Ev.bind (Index_ev _ 0 (by simp [colsL]; omega)) ?_)
        by_cases c2 : ∀ i, i < m.length → colZ m i ≠ 0
        · exact Ev_neg (by rw [decide_eq_true_iff, mem_colsL]; exact fun hn => hn c2) (Ev.bind (sumOf_ev m hd hC) (Ev_some (dec_eq ⟨fun h => ⟨c1, c2, h⟩, fun h => h.2.2⟩)))
        · refine Ev_pos (by rw [decide_eq_true_iff, mem_colsL]; exact c2) (Ev_some ?_)
          symm; rw [decide_eq_false_iff_not]; exact fun h => c2 h.2.1
      · refine Ev_pos (by rw [decide_eq_true_iff, mem_rowsL]; exact c1) (Ev_some ?_)
        symm; rw [decide_eq_false_iff_not]; exact fun h => c1 h.1
    · rw [← Bool.decide_and]
      refine dec_eq ⟨fun ⟨h, h1, h2, h3⟩ => ⟨hd, fun i hi => ?_, h1, h2, h3⟩, fun ⟨_, h, h1, h2, h3⟩ => ⟨fun i hi => decide_eq_true ⟨(h i hi).1, fun j hj => ⟨h.nn hi hj, h.le hi hj⟩, fun j hj hji => ((h i hi).2 j hj).2.2 hji⟩, h1, h2, h3⟩⟩
      obtain ⟨h4, h5, h6⟩ := of_decide_eq_true (h i hi)
      exact ⟨h4, fun j hj => ⟨(h5 j hj).1, (h5 j hj).2, h6 j hj⟩⟩
  · refine Ev_pos (by omega) (Ev_some ?_)
    symm; rw [decide_eq_false_iff_not]; exact fun h => hd h.1
def marks (a : Int) (n : Nat) : List Int := (List.range n).map fun (j : Nat) => a + (j : Int)
theorem marks_length (a : Int) (n : Nat) : (marks a n).length = n := by simp [marks]
theorem marks_getD (a : Int) (n j : Nat) (h : j < n) : (marks a n).getD j 0 = a + (j : Int) := by
  rw [getD_lt _ _ _ (by rw [marks_length]; exact h)]; simp [marks]
theorem markIntS_l0 (a : Int) (n : Nat) (ha : 0 ≤ a) (han : a + n ≤ 4611686018427387000) : ∀ (d i : Nat) (xs : List Int), n - i = d → i ≤ n → xs.length = n → (∀ j, j < i → xs.getD j 0 = a + (j : Int)) →
    Ev (fun k => laws_markIntS.l0 k xs (a + (i : Int)) (i : Int)) (a + (n : Int), marks a n) := by
  intro d
  induction d with
  | zero =>
    intro i xs hd hi hx h
    obtain rfl : i = n := by omega
    refine Ev.step (fun k => by rw [laws_markIntS.l0]) ?_
    refine Ev_neg (by omega) (Ev_some ?_)
    rw [ext_getD (xs := xs) (ys := marks a i) (by rw [marks_length]; exact hx) (fun j hj => by rw [h j (by omega), marks_getD _ _ _ (by omega)])]
  | succ d ih =>
    intro i xs hd hi hx h
    refine Ev.step (fun k => by rw [laws_markIntS.l0]) ?_
    refine Ev_pos (by omega) (Ev_pos (by omega) ?_)
    rw [wrap_succ (by omega), wrap_small (x := a + (i : Int) + 1) (by omega) (by omega), show a + (i : Int) + 1 = a + ((i + 1 : Nat) : Int) from by omega]
    refine ih (i + 1) _ (by omega) (by omega) (by rw [List.length_set]; exact hx) ?_
    intro j hj
    rw [Int.toNat_natCast]
    by_cases e : j = i
    · subst e; rw [getD_lt _ _ _ (by rw [List.length_set]; omega)]; simp
    · rw [← h j (by omega)]; simp only [List.getD_eq_getElem?_getD]; rw [List.getElem?_set_ne (by omega)]
theorem markIntS_ev (xs : List Int) (a : Int) (ha : 0 ≤ a) (han : a + xs.length ≤ 4611686018427387000) : Ev (fun k => laws_markIntS.f k xs a) (a + (xs.length : Int), marks a xs.length) := by
  unfold laws_markIntS.f
  have := markIntS_l0 a xs.length ha han _ 0 xs rfl (by omega) rfl (fun j hj => by omega)
  simpa using this
theorem heldIntS_l0 (a : Int) (n : Nat) (ha : 0 ≤ a) (han : a + n ≤ 4611686018427387000) : ∀ (d i : Nat), n - i = d → i ≤ n → Ev (fun k => laws_heldIntS.l0 k (marks a n) (a + (i : Int)) (i : Int)) (a + (n : Int)) := by
  intro d
  induction d with
  | zero =>
    intro i hd hi
    obtain rfl : i = n := by omega
    refine Ev.step (fun k => by rw [laws_heldIntS.l0]) ?_
    exact Ev_neg (by rw [marks_length]; omega) (Ev_some rfl)
  | succ d ih =>
    intro i hd hi
    refine Ev.step (fun k => by rw [laws_heldIntS.l0]) ?_
    refine Ev_pos (by rw [marks_length]; omega) (Ev_pos (by omega) (Ev_pos (by rw [rd_nat, marks_getD _ _ _ (by omega)]) ?_))
    rw [wrap_succ (by omega), wrap_small (x := a + (i : Int) + 1) (by omega) (by omega), show a + (i : Int) + 1 = a + ((i + 1 : Nat) : Int) from by omega]
    exact ih (i + 1) (by omega) (by omega)
theorem heldIntS_ev (a : Int) (n : Nat) (ha : 0 ≤ a) (han : a + n ≤ 4611686018427387000) : Ev (fun k => laws_heldIntS.f k (marks a n) a) (a + (n : Int)) := by
  unfold laws_heldIntS.f
  have := heldIntS_l0 a n ha han _ 0 rfl (by omega)
  simpa using this
def tot : List (List Int) → Nat
  | [] => 0
  | r :: rs => r.length + tot rs
def marksSS (a : Int) : List (List Int) → List (List Int)
  | [] => []
  | r :: rs => marks a r.length :: marksSS (a + r.length) rs
theorem rdL_mid (pre : List (List Int)) (r : List Int) (rs : List (List Int)) : rd_L1 (pre ++ r :: rs) (pre.length : Int) = r := by
  rw [rdL_nat, getD_lt _ _ _ (by simp)]; simp
theorem markIntSS_l0 : ∀ (rest pre : List (List Int)) (a : Int), 0 ≤ a → a + tot rest ≤ 4611686018427387000 → (pre.length : Int) + rest.length ≤ 4611686018427387000 → Ev (fun k => laws_markIntSS.l0 k (pre ++ rest) a (pre.length : Int)) (a + tot rest, pre ++ marksSS a rest) := by
  intro rest
  induction rest with
  | nil =>
    intro pre a _ _ _
    refine Ev.step (fun k => by rw [laws_markIntSS.l0]) ?_
    exact Ev_neg (by simp) (Ev_some (by simp [tot, marksSS]))
  | cons r rs ih =>
    intro pre a ha hb hl
    simp only [tot, List.length_cons] at hb hl
    refine Ev.step (fun k => by rw [laws_markIntSS.l0]) ?_
    refine Ev_pos (by simp only [List.length_append, List.length_cons]; omega) (Ev_pos (by omega) ?_)
    rw [rdL_mid, wrap_succ (by omega), Int.toNat_natCast]
    refine Ev.bind (markIntS_ev r a ha (by omega)) ?_
    have := ih (pre ++ [marks a r.length]) (a + r.length) (by omega) (by omega) (by simp only [List.length_append, List.length_cons, List.length_nil]; omega)
    simp only [List.length_append, List.length_cons, List.length_nil, List.append_assoc, List.cons_append, List.nil_append] at this
    simp only [tot, marksSS, List.set_append, Nat.sub_self, List.set_cons_zero, Nat.lt_irrefl, if_false]
    refine Ev_eq this ?_
    rw [show a + (r.length : Int) + (tot rs : Int) = a + ((r.length + tot rs : Nat) : Int) from by omega]
theorem markMatrix_ev (m : List (List Int)) (hb : tot m ≤ 4611686018427380000) (hl : m.length ≤ 4611686018427380000) : Ev (fun k => laws_markMatrix.f k m 1) (1 + (tot m : Int), marksSS 1 m) := by
  have := markIntSS_l0 m [] 1 (by omega) (by omega) (by simp; omega)
  simpa [laws_markMatrix.f, laws_markIntSS.f] using this
theorem tot_le {m : List (List Int)} {c : Nat} (h : ∀ r ∈ m, r.length ≤ c) : tot m ≤ m.length * c := by
  induction m with
  | nil => simp [tot]
  | cons r rs ih =>
    have h1 := h r (by simp)
    have h2 := ih (fun r hr => h r (by simp [hr]))
    simp only [tot, List.length_cons, Nat.succ_mul]; omega
abbrev cellM (m : List (List Int)) (i j : Nat) : Nat := impl_Matrix_matching.cell m i j
/-- The sum of f 0, .., f (n - 1). -/
def sN : Nat → (Nat → Nat) → Nat
  | 0, _ => 0
  | n + 1, f => sN n f + f n
theorem sN_Z {n : Nat} {f : Nat → Int} {g : Nat → Nat} (h : ∀ i, i < n → f i = (g i : Int)) : sumZ n f = (sN n g : Int) := by
  induction n with
  | zero => rfl
  | succ n ih => rw [sumZ, sN, ih (fun i hi => h i (by omega)), h n (by omega)]; rfl
theorem sN_congr {n : Nat} {f g : Nat → Nat} (h : ∀ i, i < n → f i = g i) : sN n f = sN n g := by
  induction n with
  | zero => rfl
  | succ n ih => rw [sN, sN, ih (fun i hi => h i (by omega)), h n (by omega)]
theorem sN_le {n m : Nat} (h : n ≤ m) (f : Nat → Nat) : sN n f ≤ sN m f := by
  induction m with
  | zero => obtain rfl : n = 0 := by omega
            exact Nat.le_refl _
  | succ m ih =>
    by_cases e : n = m + 1
    · rw [e]; exact Nat.le_refl _
    · have := ih (by omega); rw [sN]; omega
theorem sN_term {n a : Nat} (f : Nat → Nat) (h : a < n) : sN a f + f a ≤ sN n f := sN_le (show a + 1 ≤ n from h) f
theorem sN_zero {n : Nat} {f : Nat → Nat} (h : ∀ i, i < n → f i = 0) : sN n f = 0 := by
  induction n with
  | zero => rfl
  | succ n ih => rw [sN, ih (fun i hi => h i (by omega)), h n (by omega)]
theorem sN_add (n : Nat) (f g : Nat → Nat) : sN n (fun i => f i + g i) = sN n f + sN n g := by
  induction n with
  | zero => rfl
  | succ n ih => simp only [sN, ih]; omega
theorem sN_split {n k : Nat} (h : k ≤ n) {f : Nat → Nat} (h0 : ∀ i, k ≤ i → i < n → f i = 0) : sN n f = sN k f := by
  induction n with
  | zero => obtain rfl : k = 0 := by omega
            rfl
  | succ n ih =>
    by_cases e : k = n + 1
    · rw [e]
    · rw [sN, ih (by omega) (fun i h1 h2 => h0 i h1 (by omega)), h0 n (by omega) (by omega)]; rfl
def RW (m : List (List Int)) (i : Nat) : Nat := sN m.length (cellM m i)
def CL (m : List (List Int)) (j : Nat) : Nat := sN m.length (fun i => cellM m i j)
def PP (m : List (List Int)) (k : Nat) : Nat := sN k (fun r => RW m r + CL m r)
def oS (m : List (List Int)) (i j : Nat) : Nat := PP m i + sN j (cellM m i)
def cS (m : List (List Int)) (i j : Nat) : Nat := PP m j + RW m j + sN i (fun a => cellM m a j)
def runN (p n : Nat) : List Int := (List.range n).map fun t => ((p + t : Nat) : Int)
theorem runN_succ (p n : Nat) : runN p (n + 1) = runN p n ++ [((p + n : Nat) : Int)] := by rw [runN, List.range_succ, List.map_append]; rfl
theorem runN_len (p n : Nat) : (runN p n).length = n := by simp [runN]
theorem runN_getD (p n t : Nat) (h : t < n) : (runN p n).getD t 0 = ((p + t : Nat) : Int) := by rw [getD_lt _ _ _ (by rw [runN_len]; exact h)]; simp [runN]
section
open impl_Matrix_matching
theorem Cells.ok {m : List (List Int)} (h : Cells m) (hd : m.length ≤ 12) : Ok m := ⟨hd, fun i hi => ⟨(h i hi).1, fun j hj => ⟨((h i hi).2 j hj).1, ((h i hi).2 j hj).2.1⟩⟩⟩
theorem cellM_en {m : List (List Int)} (h : Cells m) {i j : Nat} (hi : i < m.length) (hj : j < m.length) : en m i j = (cellM m i j : Int) := by
  have := h.nn hi hj
  unfold cellM cell; unfold en at *; omega
theorem cellM_tri {m : List (List Int)} (h : Cells m) {i j : Nat} (hi : i < m.length) (hji : j < i) : cellM m i j = 0 := by
  have h1 := cellM_en h hi (show j < m.length by omega)
  have h2 := ((h i hi).2 j (by omega)).2.2 hji
  omega
theorem at_set (q : List (List (List Int))) (a b : Nat) (v : List Int) (ha : a < q.length) (hb : b < (q.getD a []).length) (x y : Nat) : at3 (q.set a ((q.getD a []).set b v)) x y = if x = a ∧ y = b then v else at3 q x y := by
  unfold at3
  by_cases c : x = a
  · subst c
    rw [show (q.set x ((q.getD x []).set b v)).getD x [] = (q.getD x []).set b v from by rw [List.getD_eq_getElem?_getD, List.getElem?_set_self ha]; rfl]
    by_cases c2 : y = b
    · subst c2
      rw [if_pos ⟨rfl, rfl⟩, List.getD_eq_getElem?_getD, List.getElem?_set_self hb]; rfl
    · rw [if_neg (fun h => c2 h.2), List.getD_eq_getElem?_getD, List.getElem?_set_ne (fun e => c2 e.symm), ← List.getD_eq_getElem?_getD]
  · rw [if_neg (fun h => c h.1), show (q.set a ((q.getD a []).set b v)).getD x [] = q.getD x [] from by rw [List.getD_eq_getElem?_getD, List.getElem?_set_ne (fun e => c e.symm), ← List.getD_eq_getElem?_getD]]
theorem o3_at {d : Nat} {q : List (List (List Int))} {p : Nat} (hq : Shp d q p) (a b : Nat) (ha : a < d) (hb : b < d) (x y : Nat) : ∀ t, at3 (o3 q a b p t) x y = if x = a ∧ y = b then at3 q a b ++ runN p t else at3 q x y
  | 0 => by
    by_cases c : x = a ∧ y = b
    · rw [if_pos c, c.1, c.2]; simp [o3, runN]
    · rw [if_neg c]; rfl
  | t + 1 => by
    have h := o3_shp hq a b t
    rw [o3, ins, at_set _ _ _ _ (by rw [h.1]; exact ha) (by rw [h.2.1 a ha]; exact hb)]
    by_cases c : x = a ∧ y = b
    · rw [if_pos c, if_pos c]
      have := o3_at hq a b ha hb a b t
      rw [if_pos ⟨rfl, rfl⟩] at this
      rw [this, runN_succ, List.append_assoc]
    · rw [if_neg c, if_neg c]
      have := o3_at hq a b ha hb x y t
      rw [if_neg c] at this
      exact this
theorem o2_at {m : List (List Int)} (h : Cells m) (hd : m.length ≤ 12) {k : Nat} (hk : k < m.length) {q : List (List (List Int))} {p : Nat} (hq : Shp m.length q p) : ∀ j, k + j ≤ m.length →
    (o2 m k q p j).2 = p + sN (k + j) (cellM m k) ∧ ∀ x y, at3 (o2 m k q p j).1 x y = if x = k ∧ k ≤ y ∧ y < k + j then at3 q x y ++ runN (p + sN y (cellM m k)) (cellM m k y) else at3 q x y
  | 0, _ => ⟨by rw [o2, Nat.add_zero, sN_zero (fun i hi => cellM_tri h hk hi)]; rfl, fun x y => by rw [if_neg (by omega)]; rfl⟩
  | j + 1, hj => by
    obtain ⟨e1, e2⟩ := o2_at h hd hk hq j (by omega)
    have hs := (o2_shp (h.ok hd) hk hq j (by omega)).1
    rw [o2]
    refine ⟨?_, fun x y => ?_⟩
    · show (o2 m k q p j).2 + cell m k (k + j) = _
      rw [e1]; exact Nat.add_assoc _ _ _
    · show at3 (o3 (o2 m k q p j).1 k (k + j) (o2 m k q p j).2 (cell m k (k + j))) x y = _
      rw [o3_at hs k (k + j) hk (by omega)]
      by_cases c : x = k ∧ y = k + j
      · obtain ⟨rfl, rfl⟩ := c
        rw [if_pos ⟨rfl, rfl⟩, if_pos ⟨rfl, by omega, by omega⟩, e2, if_neg (by omega), e1]
      · rw [if_neg c, e2]
        by_cases c2 : x = k ∧ k ≤ y ∧ y < k + j
        · rw [if_pos c2, if_pos ⟨c2.1, c2.2.1, by omega⟩]
        · rw [if_neg c2, if_neg (by omega)]
theorem c2_at {m : List (List Int)} (h : Cells m) (hd : m.length ≤ 12) {k : Nat} (hk : k < m.length) {q : List (List (List Int))} {p : Nat} (hq : Shp m.length q p) : ∀ i, i ≤ m.length →
    (c2 m k q p i).2 = p + sN i (fun a => cellM m a k) ∧ ∀ x y, at3 (c2 m k q p i).1 x y = if y = k ∧ x < i then at3 q x y ++ runN (p + sN x (fun a => cellM m a k)) (cellM m x k) else at3 q x y
  | 0, _ => ⟨rfl, fun x y => by rw [if_neg (by omega)]; rfl⟩
  | i + 1, hi => by
    obtain ⟨e1, e2⟩ := c2_at h hd hk hq i (by omega)
    have hs := (c2_shp (h.ok hd) hk hq i (by omega)).1
    rw [c2]
    refine ⟨?_, fun x y => ?_⟩
    · show (c2 m k q p i).2 + cell m i k = _
      rw [e1]; exact Nat.add_assoc _ _ _
    · show at3 (o3 (c2 m k q p i).1 i k (c2 m k q p i).2 (cell m i k)) x y = _
      rw [o3_at hs i k (by omega) hk]
      by_cases c : x = i ∧ y = k
      · obtain ⟨rfl, rfl⟩ := c
        rw [if_pos ⟨rfl, rfl⟩, if_pos ⟨rfl, by omega⟩, e2, if_neg (by omega), e1]
      · rw [if_neg c, e2]
        by_cases c2 : y = k ∧ x < i
        · rw [if_pos c2, if_pos ⟨c2.1, by omega⟩]
        · rw [if_neg c2, if_neg (by omega)]
theorem m1_at {m : List (List Int)} (h : Cells m) (hd : m.length ≤ 12) : ∀ k, k ≤ m.length → (m1 m k).2.2 = PP m k ∧ (∀ x y, at3 (m1 m k).1 x y = if x < k ∧ x ≤ y ∧ y < m.length then runN (oS m x y) (cellM m x y) else []) ∧
    ∀ x y, at3 (m1 m k).2.1 x y = if y < k ∧ x ≤ y then runN (cS m x y) (cellM m x y) else []
  | 0, _ => by
    have e : ∀ x y, at3 (List.replicate m.length (List.replicate m.length ([] : List Int))) x y = [] := fun x y => by
      unfold at3
      rw [List.getD_eq_getElem?_getD, List.getD_eq_getElem?_getD, List.getElem?_replicate]
      split
      · show ((List.replicate m.length ([] : List Int))[y]?.getD []) = []
        rw [List.getElem?_replicate]; split <;> rfl
      · simp
    exact ⟨rfl, fun x y => by rw [if_neg (by omega)]; exact e x y, fun x y => by rw [if_neg (by omega)]; exact e x y⟩
  | k + 1, hk => by
    obtain ⟨e1, e2, e3⟩ := m1_at h hd k (by omega)
    obtain ⟨s1, s2, s3⟩ := m1_shp (h.ok hd) k (by omega)
    have hkd : k < m.length := by omega
    obtain ⟨a1, a2⟩ := o2_at h hd hkd s1 (m.length - k) (by omega)
    have ao := (o2_shp (h.ok hd) hkd s1 (m.length - k) (by omega)).2.1
    obtain ⟨b1, b2⟩ := c2_at h hd hkd (s2.more ao) (k + 1) hk
    rw [show k + (m.length - k) = m.length by omega] at a1 a2
    have eR : (o2 m k (m1 m k).1 (m1 m k).2.2 (m.length - k)).2 = PP m k + RW m k := by rw [a1, e1]; rfl
    rw [m1]
    refine ⟨?_, fun x y => ?_, fun x y => ?_⟩
    · show (c2 m k (m1 m k).2.1 (o2 m k (m1 m k).1 (m1 m k).2.2 (m.length - k)).2 (k + 1)).2 = _
      rw [b1, eR]
      have : CL m k = sN (k + 1) (fun a => cellM m a k) := sN_split hk (fun i h1 h2 => cellM_tri h h2 (by omega))
      show _ = PP m k + (RW m k + CL m k)
      omega
    · show at3 (o2 m k (m1 m k).1 (m1 m k).2.2 (m.length - k)).1 x y = _
      rw [a2]
      by_cases c : x = k ∧ k ≤ y ∧ y < m.length
      · obtain ⟨rfl, c2, c3⟩ := c
        rw [if_pos ⟨rfl, c2, c3⟩, if_pos ⟨by omega, c2, c3⟩, e2, if_neg (by omega), e1]; rfl
      · rw [if_neg c, e2]
        by_cases c2 : x < k ∧ x ≤ y ∧ y < m.length
        · rw [if_pos c2, if_pos ⟨by omega, c2.2⟩]
        · rw [if_neg c2, if_neg (by omega)]
    · show at3 (c2 m k (m1 m k).2.1 (o2 m k (m1 m k).1 (m1 m k).2.2 (m.length - k)).2 (k + 1)).1 x y = _
      rw [b2]
      by_cases c : y = k ∧ x < k + 1
      · obtain ⟨rfl, c2⟩ := c
        rw [if_pos ⟨rfl, c2⟩, if_pos ⟨by omega, by omega⟩, e3, if_neg (by omega), eR]; rfl
      · rw [if_neg c, e3]
        by_cases c2 : y < k ∧ x ≤ y
        · rw [if_pos c2, if_pos ⟨by omega, c2.2⟩]
        · rw [if_neg c2, if_neg (by omega)]
/-- Where the points of the arcs lie. -/
theorem oAll {m : List (List Int)} (h : Cells m) (hd : m.length ≤ 12) {i j : Nat} (hi : i < m.length) (hj : j < m.length) : at3 (m1 m m.length).1 i j = runN (oS m i j) (cellM m i j) := by
  rw [(m1_at h hd m.length (Nat.le_refl _)).2.1]
  by_cases c : i ≤ j
  · rw [if_pos ⟨hi, c, hj⟩]
  · rw [if_neg (fun hh => c hh.2.1), cellM_tri h hi (by omega)]; rfl
theorem cAll {m : List (List Int)} (h : Cells m) (hd : m.length ≤ 12) {i j : Nat} (hi : i < m.length) (hj : j < m.length) : at3 (m1 m m.length).2.1 i j = runN (cS m i j) (cellM m i j) := by
  rw [(m1_at h hd m.length (Nat.le_refl _)).2.2]
  by_cases c : i ≤ j
  · rw [if_pos ⟨hj, c⟩]
  · rw [if_neg (fun hh => c hh.2), cellM_tri h hi (by omega)]; rfl
theorem oS_lt {m : List (List Int)} {i j t : Nat} (hi : i < m.length) (hj : j < m.length) (ht : t < cellM m i j) : oS m i j + t < PP m m.length := by
  have h1 := sN_term (cellM m i) hj
  have h2 := sN_term (fun r => RW m r + CL m r) hi
  unfold oS PP
  have : sN m.length (cellM m i) = RW m i := rfl
  omega
theorem cS_lt {m : List (List Int)} {i j t : Nat} (hi : i < m.length) (hj : j < m.length) (ht : t < cellM m i j) : cS m i j + t < PP m m.length := by
  have h1 := sN_term (fun a => cellM m a j) hi
  have h2 := sN_term (fun r => RW m r + CL m r) hj
  unfold cS PP
  have : sN m.length (fun a => cellM m a j) = CL m j := rfl
  omega
theorem fit {m : List (List Int)} (h : Cells m) (hd : m.length ≤ 12) : Fit (m1 m m.length).1 (m1 m m.length).2.1 m.length (m1 m m.length).2.2 := by
  intro i hi j hj t ht
  rw [oAll h hd hi hj, runN_len] at ht
  rw [oAll h hd hi hj, cAll h hd hi hj, runN_len, runN_getD _ _ _ ht, runN_getD _ _ _ ht, (m1_at h hd m.length (Nat.le_refl _)).1]
  have := oS_lt hi hj ht
  have := cS_lt hi hj ht
  exact ⟨ht, by omega, by omega, by omega, by omega⟩
def outM (m : List (List Int)) : List Int := b1 (m1 m m.length).1 (m1 m m.length).2.1 m.length (List.replicate (PP m m.length) 0) m.length
theorem implOf_eq {m : List (List Int)} (h : Cells m) (hd : m.length ≤ 12) : impl_Matrix_matching.f m = some (outM m) := by
  unfold impl_Matrix_matching.f
  rw [if_pos ⟨h.ok hd, fit h hd⟩, (m1_at h hd m.length (Nat.le_refl _)).1]; rfl
theorem outM_len (m : List (List Int)) : (outM m).length = PP m m.length := by rw [outM, b1_len, List.length_replicate]
theorem RW_Z {m : List (List Int)} (h : Cells m) {i : Nat} (hi : i < m.length) : rowZ m i = (RW m i : Int) := sN_Z (fun j hj => cellM_en h hi hj)
theorem CL_Z {m : List (List Int)} (h : Cells m) {j : Nat} (hj : j < m.length) : colZ m j = (CL m j : Int) := sN_Z (fun i hi => cellM_en h hi hj)
theorem PP_Z {m : List (List Int)} (h : Cells m) : 2 * allZ m = (PP m m.length : Int) := by
  have e1 : allZ m = (sN m.length (RW m) : Int) := sN_Z (fun i hi => RW_Z h hi)
  have e2 : allZ m = (sN m.length (CL m) : Int) := by
    rw [show allZ m = sumZ m.length (fun j => colZ m j) from sumZ_swap m.length m.length (fun i j => en m i j)]
    exact sN_Z (fun i hi => CL_Z h hi)
  have : PP m m.length = sN m.length (RW m) + sN m.length (CL m) := sN_add _ _ _
  omega
theorem RW_le {m : List (List Int)} (h : Cells m) (hd : m.length ≤ 12) {i : Nat} (hi : i < m.length) : RW m i ≤ 144 := by
  have := (h.row hi).2
  have := RW_Z h hi
  omega
theorem CL_le {m : List (List Int)} (h : Cells m) (hd : m.length ≤ 12) {j : Nat} (hj : j < m.length) : CL m j ≤ 144 := by
  have h1 := sumZ_bound (n := m.length) (f := fun i => en m i j) (B := 12) (by decide) (fun i hi => ⟨h.nn hi hj, h.le hi hj⟩)
  have h2 := CL_Z h hj
  unfold colZ at h2
  omega
theorem PP_le {m : List (List Int)} (h : Cells m) (hd : m.length ≤ 12) : ∀ k, k ≤ m.length → PP m k ≤ 288 * k
  | 0, _ => Nat.le_refl _
  | k + 1, hk => by
    have := PP_le h hd k (by omega)
    have := RW_le h hd (show k < m.length by omega)
    have := CL_le h hd (show k < m.length by omega)
    show PP m k + (RW m k + CL m k) ≤ _
    omega
/-! The reference's way -/
theorem stPlaces_ev {m : List (List Int)} (h : Cells m) (hd : m.length ≤ 12) : Ev (fun k => spec_stPlaces.f k m) ((List.range m.length).map (fun r => (PP m r : Int)), (List.range m.length).map (fun r => ((PP m r + RW m r : Nat) : Int))) := by
  unfold spec_stPlaces.f
  have main : ∀ (n i : Nat), m.length - i = n → i ≤ m.length → Ev (fun k => spec_stPlaces.l0 k ((List.range i).map (fun r => (PP m r : Int))) ((List.range i).map (fun r => ((PP m r + RW m r : Nat) : Int))) (PP m i : Int) m (m.length : Int) (i : Int) m) ((List.range m.length).map (fun r => (PP m r : Int)), (List.range m.length).map (fun r => ((PP m r + RW m r : Nat) : Int))) := by
    intro n
    induction n with
    | zero =>
      intro i hn hi
      obtain rfl : i = m.length := by omega
      exact Ev.step (fun _ => rfl) (Ev_neg (by omega) (Ev_some rfl))
    | succ n ih =>
      intro i hn hi
      have hil : i < m.length := by omega
      have hp := PP_le h hd i hi
      have hr := RW_le h hd hil
      have hc := CL_le h hd hil
      have hcol : Ev (fun k => spec_maTotal.f k (colL m i)) (CL m i : Int) := by
        have hl : (colL m i).length = m.length := by simp [colL]
        have hg : ∀ j, j < m.length → (colL m i).getD j 0 = en m j i := fun j hj => by
          rw [getD_lt _ _ _ (by rw [hl]; exact hj)]; simp [colL]
        have h1 := maTotal_ev (colL m i) (by omega) (fun j hj => by
          have := h.nn (show j < m.length by omega) hil
          have := h.le (show j < m.length by omega) hil
          rw [hg j (by omega)]; omega)
        refine Ev_eq h1 ?_
        rw [hl, sumZ_congr hg]
        exact CL_Z h hil
      refine Ev.step (fun _ => rfl) (Ev_pos (by omega) (Ev_pos (by omega) (Ev_pos (by omega) (Ev_pos (by simp; omega) ?_))))
      rw [rdL_nat]
      refine Ev.bind (h.rowT hd hil) (Ev_pos (by simp; omega) (Ev.bind (maColumn_ev m hd h i hil) (Ev.bind hcol ?_)))
      rw [RW_Z h hil, wrap_succ (by omega)]
      have w1 : wrap64 ((PP m i : Int) + (RW m i : Int)) = ((PP m i + RW m i : Nat) : Int) := by rw [wrap_small (by omega) (by omega)]; omega
      have w2 : wrap64 (((PP m i + RW m i : Nat) : Int) + (CL m i : Int)) = (PP m (i + 1) : Int) := by
        have : PP m (i + 1) = PP m i + (RW m i + CL m i) := rfl
        rw [wrap_small (by omega) (by omega)]; omega
      rw [w1, w2]
      have := ih (i + 1) (by omega) (by omega)
      rw [List.range_succ, List.map_append, List.map_append] at this
      exact this
  exact main _ 0 rfl (by omega)
def X3 (m : List (List Int)) (i s : Nat) : List Int := (List.range m.length).map fun r => ((if r < i then PP m r + RW m r else if r = i then PP m r + s else PP m r : Nat) : Int)
def X4 (m : List (List Int)) (i j t : Nat) : List Int := (List.range m.length).map fun q => ((cS m (if q < j then i + 1 else i) q + (if q = j then t else 0) : Nat) : Int)
theorem X3_step (m : List (List Int)) (i s : Nat) (hi : i < m.length) : (X3 m i s).set i ((PP m i + (s + 1) : Nat) : Int) = X3 m i (s + 1) := by
  have := setR m.length (fun r => ((if r < i then PP m r + RW m r else if r = i then PP m r + s else PP m r : Nat) : Int)) (fun r => ((if r < i then PP m r + RW m r else if r = i then PP m r + (s + 1) else PP m r : Nat) : Int)) i hi (fun j hj hne => by
    by_cases c : j < i
    · rw [if_pos c, if_pos c]
    · rw [if_neg c, if_neg c, if_neg hne, if_neg hne])
  simp only [Nat.lt_irrefl, if_false, if_true] at this
  exact this
theorem X4_step (m : List (List Int)) (i j t : Nat) (hj : j < m.length) : (X4 m i j t).set j ((cS m i j + (t + 1) : Nat) : Int) = X4 m i j (t + 1) := by
  have := setR m.length (fun q => ((cS m (if q < j then i + 1 else i) q + (if q = j then t else 0) : Nat) : Int)) (fun q => ((cS m (if q < j then i + 1 else i) q + (if q = j then t + 1 else 0) : Nat) : Int)) j hj (fun q hq hne => by rw [if_neg hne, if_neg hne])
  simp only [Nat.lt_irrefl, if_false, if_true] at this
  exact this
theorem X3_at (m : List (List Int)) (i s : Nat) (hi : i < m.length) : (X3 m i s).getD i 0 = ((PP m i + s : Nat) : Int) := by
  rw [getD_lt _ _ _ (by simpa [X3] using hi)]; simp [X3]
theorem X4_at (m : List (List Int)) (i j t : Nat) (hj : j < m.length) : (X4 m i j t).getD j 0 = ((cS m i j + t : Nat) : Int) := by
  rw [getD_lt _ _ _ (by simpa [X4] using hj)]; simp [X4]
theorem X3_next (m : List (List Int)) (i : Nat) (hi : i < m.length) : X3 m i (sN m.length (cellM m i)) = X3 m (i + 1) 0 := by
  unfold X3
  apply List.map_congr_left
  intro r hr
  by_cases c : r < i
  · rw [if_pos c, if_pos (by omega)]
  · by_cases c2 : r = i
    · subst c2; rw [if_neg c, if_pos rfl, if_pos (by omega)]; rfl
    · rw [if_neg c, if_neg c2, if_neg (by omega)]; simp
theorem X4_turn (m : List (List Int)) (i j : Nat) : X4 m i j (cellM m i j) = X4 m i (j + 1) 0 := by
  unfold X4
  apply List.map_congr_left
  intro q hq
  have e0 : (if q = j + 1 then 0 else 0) = 0 := ite_self _
  rw [e0]
  by_cases c : q < j
  · rw [if_pos c, if_pos (show q < j + 1 by omega), if_neg (show ¬ q = j by omega)]
  · by_cases c2 : q = j
    · subst c2; rw [if_neg c, if_pos rfl, if_pos (show q < q + 1 by omega)]
      have : cS m (i + 1) q = PP m q + RW m q + (sN i (fun a => cellM m a q) + cellM m i q) := rfl
      have : cS m i q = PP m q + RW m q + sN i (fun a => cellM m a q) := rfl
      omega
    · rw [if_neg c, if_neg c2, if_neg (show ¬ q < j + 1 by omega)]
theorem X4_next (m : List (List Int)) (i : Nat) : X4 m i m.length 0 = X4 m (i + 1) 0 0 := by
  unfold X4
  apply List.map_congr_left
  intro q hq
  have := List.mem_range.1 hq
  have e0 : ∀ j, (if q = j then 0 else 0) = 0 := fun j => ite_self _
  rw [e0, e0, if_pos this, if_neg (Nat.not_lt_zero _)]
theorem stOf_fits {a b N l : Nat} (h1 : a < N) (h2 : b < N) (h3 : N ≤ 4000) (h4 : l = N) : (a : Int) < (l : Int) ∧ (b : Int) < (l : Int) ∧ a ≤ 4611686018427387900 ∧ b ≤ 4611686018427387900 := ⟨by omega, by omega, by omega, by omega⟩
theorem stOf_l2 {m : List (List Int)} (h : Cells m) (hd : m.length ≤ 12) (i j : Nat) (hi : i < m.length) (hj : j < m.length) (B : List Int) (hB : B.length = PP m m.length) (r : List Int)
    (hr : Ev (fun k => spec_stOf.l1 k (X3 m i (sN (j + 1) (cellM m i))) (X4 m i (j + 1) 0) (b3 (at3 (m1 m m.length).1 i j) (at3 (m1 m m.length).2.1 i j) B (cellM m i j)) (i : Int) m (m.length : Int) (i : Int) (m.getD i []) ((m.getD i []).length : Int) ((j + 1 : Nat) : Int)) r) :
    ∀ (n t : Nat), cellM m i j - t = n → t ≤ cellM m i j → Ev (fun k => spec_stOf.l2 k (X3 m i (sN j (cellM m i) + t)) (X4 m i j t) (b3 (at3 (m1 m m.length).1 i j) (at3 (m1 m m.length).2.1 i j) B t) (i : Int) (j : Int) (n : Int) m (m.length : Int) (i : Int) (m.getD i []) ((m.getD i []).length : Int) (j : Int)) r := by
  intro n
  induction n with
  | zero =>
    intro t hn ht
    obtain rfl : t = cellM m i j := by omega
    refine Ev.step (fun k => by rw [spec_stOf.l2]) (Ev_neg (by omega) ?_)
    rw [X4_turn, wrap_succ (by omega)]
    exact hr
  | succ n ih =>
    intro t hn ht
    have htl : t < cellM m i j := by omega
    have next := ih (t + 1) (by omega) htl
    rw [b3, oAll h hd hi hj, cAll h hd hi hj, runN_getD _ _ _ htl, runN_getD _ _ _ htl, Int.toNat_natCast, Int.toNat_natCast] at next
    clear ih hr
    have b3' : n ≤ 4611686018427387900 := by have : cellM m i j ≤ 12 := cell_le (h.ok hd) hi hj; omega
    have hpp : PP m m.length ≤ 4000 := by have := PP_le h hd m.length (Nat.le_refl _); omega
    have lb : (b3 (runN (oS m i j) (cellM m i j)) (runN (cS m i j) (cellM m i j)) B t).length = PP m m.length := by rw [b3_len, hB]
    obtain ⟨g7, g8, b1', b2'⟩ := stOf_fits (oS_lt hi hj htl) (cS_lt hi hj htl) hpp lb
    have g2 : (i : Int) < ((X3 m i (sN j (cellM m i) + t)).length : Int) := by rw [show (X3 m i (sN j (cellM m i) + t)).length = m.length from by simp [X3]]; exact Int.ofNat_lt.2 hi
    have g4 : (j : Int) < ((X4 m i j t).length : Int) := by rw [show (X4 m i j t).length = m.length from by simp [X4]]; exact Int.ofNat_lt.2 hj
    have e3 : rd (X3 m i (sN j (cellM m i) + t)) (i : Int) = ((oS m i j + t : Nat) : Int) := by rw [rd_nat, X3_at m i _ hi, oS, Nat.add_assoc]
    have e4 : rd (X4 m i j t) (j : Int) = ((cS m i j + t : Nat) : Int) := by rw [rd_nat, X4_at m i j t hj]
    have w1 : wrap64 (((oS m i j + t : Nat) : Int) + 1) = ((PP m i + (sN j (cellM m i) + t + 1) : Nat) : Int) := by
      rw [wrap_succ b1', show oS m i j + t + 1 = PP m i + (sN j (cellM m i) + t + 1) from by unfold oS; rw [Nat.add_assoc, Nat.add_assoc, Nat.add_assoc]]
    have w2 : wrap64 (((cS m i j + t : Nat) : Int) + 1) = ((cS m i j + (t + 1) : Nat) : Int) := wrap_succ b2'
    have w3 : wrap64 (((n + 1 : Nat) : Int) - 1) = (n : Int) := wrap_pred b3'
    refine Ev.step (fun k => by rw [spec_stOf.l2]) ?_
    rw [e3, e4, w1, w2, w3, Int.toNat_natCast, Int.toNat_natCast, Int.toNat_natCast, Int.toNat_natCast, X3_step m i _ hi, X4_step m i j t hj, oAll h hd hi hj, cAll h hd hi hj]
    exact Ev_pos (Int.natCast_pos.2 (Nat.succ_pos n)) (Ev_pos (Int.natCast_nonneg i) (Ev_pos g2 (Ev_pos (Int.natCast_nonneg j) (Ev_pos g4 (Ev_pos (Int.natCast_nonneg _) (Ev_pos g7 (Ev_pos (Int.natCast_nonneg _) (Ev_pos g8 next))))))))
theorem stOf_l1 {m : List (List Int)} (h : Cells m) (hd : m.length ≤ 12) (i : Nat) (hi : i < m.length) (B : List Int) (hB : B.length = PP m m.length) (r : List Int)
    (hr : Ev (fun k => spec_stOf.l0 k (X3 m (i + 1) 0) (X4 m (i + 1) 0 0) (b2 (m1 m m.length).1 (m1 m m.length).2.1 i B m.length) m (m.length : Int) ((i + 1 : Nat) : Int)) r) :
    ∀ (n j : Nat), m.length - j = n → j ≤ m.length → Ev (fun k => spec_stOf.l1 k (X3 m i (sN j (cellM m i))) (X4 m i j 0) (b2 (m1 m m.length).1 (m1 m m.length).2.1 i B j) (i : Int) m (m.length : Int) (i : Int) (m.getD i []) ((m.getD i []).length : Int) (j : Int)) r := by
  have hl := (h i hi).1
  intro n
  induction n with
  | zero =>
    intro j hn hj
    obtain rfl : j = m.length := by omega
    refine Ev.step (fun k => by rw [spec_stOf.l1]) (Ev_neg (by omega) ?_)
    rw [X3_next m i hi, X4_next, wrap_succ (by omega)]
    exact hr
  | succ n ih =>
    intro j hn hj
    have hjl : j < m.length := by omega
    refine Ev.step (fun k => by rw [spec_stOf.l1]) (Ev_pos (by omega) (Ev_pos (by omega) (Ev_pos (by omega) ?_)))
    have next := ih (j + 1) (by omega) (by omega)
    rw [b2, show (at3 (m1 m m.length).1 i j).length = cellM m i j from by rw [oAll h hd hi hjl, runN_len]] at next
    have := stOf_l2 h hd i j hi hjl (b2 (m1 m m.length).1 (m1 m m.length).2.1 i B j) (by rw [b2_len, hB]) r next _ 0 rfl (Nat.zero_le _)
    rw [Nat.sub_zero, Nat.add_zero] at this
    rw [rd_nat, show (m.getD i []).getD j 0 = (cellM m i j : Int) from cellM_en h hi hjl]
    exact this
theorem stOf_ev {m : List (List Int)} (h : Cells m) (hd : m.length ≤ 12) : Ev (fun k => spec_stOf.f k m) (outM m) := by
  unfold spec_stOf.f
  have hpp := PP_le h hd m.length (Nat.le_refl _)
  have hz := PP_Z h
  have main : ∀ (n i : Nat), m.length - i = n → i ≤ m.length → Ev (fun k => spec_stOf.l0 k (X3 m i 0) (X4 m i 0 0) (b1 (m1 m m.length).1 (m1 m m.length).2.1 m.length (List.replicate (PP m m.length) 0) i) m (m.length : Int) (i : Int)) (outM m) := by
    intro n
    induction n with
    | zero =>
      intro i hn hi
      obtain rfl : i = m.length := by omega
      refine Ev.step (fun k => by rw [spec_stOf.l0]) ?_
      exact Ev_neg (by omega) (Ev_some rfl)
    | succ n ih =>
      intro i hn hi
      have hil : i < m.length := by omega
      refine Ev.step (fun k => by rw [spec_stOf.l0]) (Ev_pos (by omega) (Ev_pos (by omega) (Ev_pos (by omega) ?_)))
      rw [rdL_nat]
      have next := ih (i + 1) (by omega) (by omega)
      rw [b1] at next
      exact stOf_l1 h hd i hil _ (by rw [b1_len, List.length_replicate]) _ next _ 0 rfl (Nat.zero_le _)
  refine Ev.bind (stPlaces_ev h hd) (Ev.bind (maSum_ev m hd h) ?_)
  have w : wrap64 (2 * allZ m) = (PP m m.length : Int) := by rw [hz, wrap_small (by omega) (by omega)]
  rw [w, Int.toNat_natCast]
  refine Ev_pos (by omega) (Ev_pos (by omega) ?_)
  have e3 : (List.range m.length).map (fun r => (PP m r : Int)) = X3 m 0 0 := by
    unfold X3; apply List.map_congr_left; intro r _; by_cases c : r = 0 <;> simp [c]
  have e4 : (List.range m.length).map (fun r => ((PP m r + RW m r : Nat) : Int)) = X4 m 0 0 0 := by
    unfold X4; apply List.map_congr_left; intro q _; rw [ite_self]; rfl
  show Ev (fun k => spec_stOf.l0 k ((List.range m.length).map (fun r => (PP m r : Int))) ((List.range m.length).map (fun r => ((PP m r + RW m r : Nat) : Int))) _ m (m.length : Int) 0) _
  rw [e3, e4]
  exact main _ 0 rfl (Nat.zero_le _)
end
theorem mofm_both (m : List (List Int)) (hs : Small m) : ∃ R : List Int × Bool, R.1.length ≤ 1048576 ∧ Ev (fun k => spec_MatchingOfMatrix.f k m) R ∧ Ev (fun k => impl_MatchingOfMatrix.f k m) R := by
  by_cases g : isMat m
  · have hp := PP_le g.2.1 g.1 _ (Nat.le_refl _)
    have hl := g.1
    refine ⟨(outM m, true), by show (outM m).length ≤ _; rw [outM_len]; omega, ?_, ?_⟩
    · unfold spec_MatchingOfMatrix.f
      exact Ev.bind (maGood_ev m hs) (Ev_pos (decide_eq_true g) (Ev.bind (stOf_ev g.2.1 g.1) (Ev_some rfl)))
    · unfold impl_MatchingOfMatrix.f
      exact Ev.bind (implIsMatrix_ev m hs) (Ev_pos (decide_eq_true g) (Ev_val (implOf_eq g.2.1 g.1) (Ev_some rfl)))
  · refine ⟨([], false), by simp, ?_, ?_⟩
    · unfold spec_MatchingOfMatrix.f
      exact Ev.bind (maGood_ev m hs) (Ev_neg (by simpa using g) (Ev_some rfl))
    · unfold impl_MatchingOfMatrix.f
      exact Ev.bind (implIsMatrix_ev m hs) (Ev_neg (by simpa using g) (Ev_some rfl))
theorem FnExactMatchingOfMatrix : ∀ (l0 : List (List Int)), l0.length ≤ maxLen → (∀ r ∈ l0, Open.Fits r) → Mx.laws_FnExactMatchingOfMatrix.Plain l0 := by
  intro m hl hr
  obtain ⟨t, ht, hh⟩ := szMatrix_ev m hl hr
  by_cases c : t < 0
  · obtain ⟨k, h⟩ := ht
    exact ⟨k, t, h k (Nat.le_refl _), fun hn => absurd c hn⟩
  · have hs := hh (by omega)
    obtain ⟨⟨r0, b⟩, hB, hS, hI⟩ := mofm_both m hs
    simp only [] at hB
    have hm : tot m ≤ 1048576 * 1048576 := Nat.le_trans (tot_le hs.2) (Nat.mul_le_mul_right _ hs.1)
    obtain ⟨k0, h0⟩ := toMatrix_ev m hs
    obtain ⟨k1, h1⟩ := hS
    obtain ⟨k2, h2⟩ := hI
    obtain ⟨k3, h3⟩ := eqIntS_refl r0 (by omega)
    obtain ⟨k5, h5⟩ := eqMatrix_small m hs
    obtain ⟨k6, h6⟩ := markMatrix_ev m (by omega) (by have := hs.1; omega)
    obtain ⟨k7, h7⟩ := markIntS_ev r0 1 (by omega) (by omega)
    obtain ⟨k8, h8⟩ := heldIntS_ev 1 r0.length (by omega) (by omega)
    obtain ⟨k11, h11⟩ := ht
    exact ⟨k0 + k1 + k2 + k3 + k5 + k6 + k7 + k8 + k11, t, h11 _ (by omega), fun _ => ⟨r0, b, _, _, _, _, h0 _ (by omega), h1 _ (by omega), h2 _ (by omega), h3 _ (by omega), h5 _ (by omega), h6 _ (by omega), by omega, h7 _ (by omega), by omega, h8 _ (by omega)⟩⟩
end Go.Proofs.Ytngkfgleffagcaa.Pure
