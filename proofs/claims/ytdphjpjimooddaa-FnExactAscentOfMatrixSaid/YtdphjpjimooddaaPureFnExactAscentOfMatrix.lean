/- AscentOfMatrix of the program and of the reference answer alike, for every matrix. -/
import Derived.Test.YtdphjpjimooddaaWalkFnExactAscentOfMatrix
import Derived.Test.YtdphjpjimooddaaXOpen
import Derived.Test.YtdphjpjimooddaaWSized
namespace Go.Proofs.Ytdphjpjimooddaa.PrintWords
open Go.RowKit
/-- The words' theorem, under the name by which the printed row calls it. -/
theorem sized_ints {H : Type} {enc : TypeId × Value → H} {P : Program} {W : World} {base : Nat} {spare : Nat → Bool} {held : Bool} {t e : TypeId} {k : IntKind} {a : Option Addr} {len cap : Nat} {d : DataW H} {ps : List MemPlace} {ts : List TypeId} {ds : List (DataW H)} {j : Nat}
    (g0 : (DataW.weightsEach P ts ds).all (· ≤ reachBytes) = true) (g1 : ts[j]? = some t) (g2 : ds[j]? = some d) (g3 : P.underlying t = some (.slice e)) (g4 : P.underlying e = some (.int k)) (g5 : P.cellsOf e = 1) {B : Nat} (g6 : P.bytesOf e = B)
    (g7 : DataW.Trod enc P W base spare held t (.slice a len cap) d ps) : len * B ≤ 140737488351232 := Go.Proofs.YtdphjpjimooddaaW.PrintWords.sized_ints g0 g1 g2 g3 g4 g5 g6 g7
end Go.Proofs.Ytdphjpjimooddaa.PrintWords
set_option linter.unusedVariables false
namespace Go.Proofs.Ytdphjpjimooddaa.Pure
open Go.RowKit Go.Proofs.Ytdphjpjimooddaa.Ax Go.Proofs.YtdphjpjimooddaaW.PrintWords Go.Proofs.YtdphjpjimooddaaW.PrintLast Go.Proofs.YtdphjpjimooddaaW.PrintMore
section Prelude
theorem Ev_pos {α : Type} {c : Prop} [Decidable c] {f g : Nat → Option α} {r : α} (h : c) (k : Ev f r) : Ev (fun n => if c then f n else g n) r :=
  Ev.congr (fun _ => if_pos h) k
theorem Ev_neg {α : Type} {c : Prop} [Decidable c] {f g : Nat → Option α} {r : α} (h : ¬ c) (k : Ev g r) : Ev (fun n => if c then f n else g n) r :=
  Ev.congr (fun _ => if_neg h) k
theorem Ev_val {α β : Type} {g : Option α} {f : Nat → α → Option β} {a : α} {r : β} (h : g = some a) (k : Ev (fun n => f n a) r) : Ev (fun n => g.bind (f n)) r :=
  Ev.congr (fun _ => by rw [h]; rfl) k
theorem Ev_some {α : Type} {a r : α} (h : a = r) : Ev (fun _ => some a) r := ⟨0, fun _ _ => by rw [h]⟩
theorem Ev_eq {α : Type} {g : Nat → Option α} {a r : α} (h : Ev g a) (e : a = r) : Ev g r := e ▸ h
theorem wrap_small {x : Int} (h0 : -4611686018427387904 ≤ x) (h1 : x ≤ 4611686018427387904) : wrap64 x = x := by unfold wrap64; omega
theorem wrap_succ {i : Nat} (h : i ≤ 4611686018427387900) : wrap64 ((i : Int) + 1) = ((i + 1 : Nat) : Int) := by unfold wrap64; omega
theorem wrap_pred {i : Nat} (h : i ≤ 4611686018427387900) : wrap64 ((i + 1 : Nat) - 1 : Int) = (i : Int) := by unfold wrap64; omega
theorem rd_nat (xs : List Int) (i : Nat) : rd xs (i : Int) = xs.getD i 0 := by simp [rd]
theorem getD_lt {α : Type} (xs : List α) (i : Nat) (z : α) (h : i < xs.length) : xs.getD i z = xs[i] := by simp [List.getD_eq_getElem?_getD, h]
theorem wf_range {x : Int} (h : (Lit.int .i64 x).wf = true) : -9223372036854775808 ≤ x ∧ x ≤ 9223372036854775807 := by
  simp [Lit.wf] at h
  exact h
theorem ext_getD {xs ys : List Int} (hl : xs.length = ys.length) (h : ∀ i, i < xs.length → xs.getD i 0 = ys.getD i 0) : xs = ys := by
  apply List.ext_getElem hl
  intro i h1 h2
  have := h i h1
  rwa [getD_lt _ _ _ h1, getD_lt _ _ _ h2] at this
theorem dec_eq {a b : Prop} [Decidable a] [Decidable b] (h : a ↔ b) : decide a = decide b := by simp [h]
/-- The rounds i, .., n - 1 of a loop. -/
def foldFrom {σ : Type} (n : Nat) (step : σ → Nat → σ) (s : σ) (i : Nat) : σ := (List.range' i (n - i)).foldl step s
theorem foldFrom_lt {σ : Type} {n : Nat} {step : σ → Nat → σ} {s : σ} {i : Nat} (h : i < n) : foldFrom n step s i = foldFrom n step (step s i) (i + 1) := by
  unfold foldFrom
  rw [show n - i = (n - (i + 1)) + 1 from by omega, List.range'_succ, List.foldl_cons]
theorem foldFrom_ge {σ : Type} {n : Nat} {step : σ → Nat → σ} {s : σ} {i : Nat} (h : n ≤ i) : foldFrom n step s i = s := by
  unfold foldFrom
  rw [show n - i = 0 from by omega]; rfl
/-- A loop that counts up to n: what a round does to the state, what holds of it, and what the end makes of it. -/
theorem Ev_for {σ ρ : Type} {l : Nat → σ → Nat → Option ρ} (n : Nat) (step : σ → Nat → σ) (fin : σ → ρ) (Inv : σ → Nat → Prop)
    (hinv : ∀ i s, i < n → Inv s i → Inv (step s i) (i + 1))
    (hstep : ∀ i s, i < n → Inv s i → ∀ r, Ev (fun k => l k (step s i) (i + 1)) r → Ev (fun k => l k s i) r)
    (hend : ∀ s, Inv s n → Ev (fun k => l k s n) (fin s)) :
    ∀ i s, i ≤ n → Inv s i → Ev (fun k => l k s i) (fin (foldFrom n step s i)) ∧ Inv (foldFrom n step s i) n := by
  have main : ∀ d i s, n - i = d → i ≤ n → Inv s i → Ev (fun k => l k s i) (fin (foldFrom n step s i)) ∧ Inv (foldFrom n step s i) n := by
    intro d
    induction d with
    | zero =>
      intro i s hd hi h
      obtain rfl : i = n := by omega
      rw [foldFrom_ge (Nat.le_refl _)]
      exact ⟨hend s h, h⟩
    | succ d ih =>
      intro i s hd hi h
      rw [foldFrom_lt (by omega)]
      obtain ⟨h1, h2⟩ := ih (i + 1) (step s i) (by omega) (by omega) (hinv i s (by omega) h)
      exact ⟨hstep i s (by omega) h _ h1, h2⟩
  exact fun i s hi h => main _ i s rfl hi h
/-- A loop that asks each round, and ends with 'no' at the first round that says no. -/
theorem Ev_all (l : Nat → Nat → Option Bool) (n : Nat) (P : Nat → Bool) (r : Bool)
    (hgo : ∀ i, i < n → (∀ j, j < i → P j = true) → P i = true → ∀ q, Ev (fun k => l k (i + 1)) q → Ev (fun k => l k i) q)
    (hno : ∀ i, i < n → (∀ j, j < i → P j = true) → P i = false → Ev (fun k => l k i) false)
    (hend : (∀ j, j < n → P j = true) → Ev (fun k => l k n) r) : Ev (fun k => l k 0) (decide (∀ j, j < n → P j = true) && r) := by
  have main : ∀ d i, n - i = d → i ≤ n → (∀ j, j < i → P j = true) → Ev (fun k => l k i) (decide (∀ j, j < n → P j = true) && r) := by
    intro d
    induction d with
    | zero =>
      intro i hd hi h
      obtain rfl : i = n := by omega
      rw [decide_eq_true h, Bool.true_and]
      exact hend h
    | succ d ih =>
      intro i hd hi h
      by_cases c : P i = true
      · refine hgo i (by omega) h c _ (ih (i + 1) (by omega) (by omega) (fun j hj => ?_))
        by_cases e : j = i
        · rw [e]; exact c
        · exact h j (by omega)
      · refine Ev_eq (hno i (by omega) h (by simpa using c)) ?_
        rw [decide_eq_false (fun hh => c (hh i (by omega))), Bool.false_and]
  exact main _ 0 rfl (by omega) (fun j hj => by omega)
end Prelude
theorem rdL_nat (xs : List (List Int)) (i : Nat) : rd_L1 xs (i : Int) = xs.getD i [] := by unfold rd_L1; rw [Int.toNat_natCast]
theorem getD_mem {α : Type} {xs : List α} {i : Nat} {z : α} (h : i < xs.length) : xs.getD i z ∈ xs := by rw [getD_lt _ _ _ h]; exact List.getElem_mem h
theorem ext_getL {xs ys : List (List Int)} (hl : xs.length = ys.length) (h : ∀ i, i < xs.length → xs.getD i [] = ys.getD i []) : xs = ys := by
  apply List.ext_getElem hl
  intro i h1 h2
  have := h i h1
  rwa [getD_lt _ _ _ h1, getD_lt _ _ _ h2] at this
def Small (l : List (List Int)) : Prop := l.length ≤ 1048576 ∧ ∀ r ∈ l, r.length ≤ 1048576
theorem toIntS_l0 (l : List Int) (hl : l.length ≤ 1048576) : ∀ (d i : Nat) (ys : List Int), l.length - i = d → ys.length = l.length → (∀ j, j < i → ys.getD j 0 = l.getD j 0) →
    Ev (fun k => laws_toIntS.l0 k l ys (i : Int)) l := by
  intro d
  induction d with
  | zero =>
    intro i ys hd hy h
    refine Ev.step (fun k => by rw [laws_toIntS.l0]) ?_
    exact Ev_neg (by omega) (Ev_some (ext_getD hy (fun j hj => h j (by omega))))
  | succ d ih =>
    intro i ys hd hy h
    refine Ev.step (fun k => by rw [laws_toIntS.l0]) ?_
    refine Ev_pos (by omega) (Ev_pos (by omega) (Ev_pos (by omega) ?_))
    rw [wrap_succ (by omega)]
    refine ih (i + 1) _ (by omega) (by rw [List.length_set]; exact hy) ?_
    intro j hj
    rw [Int.toNat_natCast, rd_nat]
    by_cases e : j = i
    · subst e; rw [getD_lt _ _ _ (by rw [List.length_set]; omega)]; simp
    · rw [← h j (by omega)]; simp only [List.getD_eq_getElem?_getD]; rw [List.getElem?_set_ne (by omega)]
theorem toIntS_ev (l : List Int) (hl : l.length ≤ 1048576) : Ev (fun k => laws_toIntS.f k l) l := by
  unfold laws_toIntS.f
  refine Ev_pos (by omega) (Ev_pos (by omega) ?_)
  exact toIntS_l0 l hl _ 0 _ rfl (by simp) (fun j hj => by omega)
theorem eqIntS_l0 (a b : List Int) (hl : a.length = b.length) (hs : a.length ≤ 4611686018427387000) : ∀ (d i : Nat), a.length - i = d → i ≤ a.length → Ev (fun k => laws_eqIntS.l0 k a b (i : Int)) (decide (a.drop i = b.drop i)) := by
  intro d
  induction d with
  | zero =>
    intro i hd hi
    refine Ev.step (fun k => by rw [laws_eqIntS.l0]) ?_
    refine Ev_neg (by omega) (Ev_some ?_)
    rw [List.drop_eq_nil_of_le (by omega), List.drop_eq_nil_of_le (by omega)]; rfl
  | succ d ih =>
    intro i hd hi
    refine Ev.step (fun k => by rw [laws_eqIntS.l0]) ?_
    refine Ev_pos (by omega) (Ev_pos (by omega) (Ev_pos (by omega) ?_))
    rw [rd_nat, rd_nat, getD_lt _ _ _ (by omega), getD_lt _ _ _ (by omega), wrap_succ (by omega), List.drop_eq_getElem_cons (show i < a.length by omega), List.drop_eq_getElem_cons (show i < b.length by omega)]
    by_cases e : a[i] = b[i]'(by omega)
    · refine Ev_pos e (Ev_eq (ih (i + 1) (by omega) (by omega)) ?_)
      exact dec_eq (by rw [e, List.cons.injEq]; exact ⟨fun h => ⟨rfl, h⟩, fun h => h.2⟩)
    · refine Ev_neg e (Ev_some ?_)
      symm; rw [decide_eq_false_iff_not, List.cons.injEq]
      exact fun h => e h.1
theorem eqIntS_ev (a b : List Int) (hs : a.length ≤ 4611686018427387000) : Ev (fun k => laws_eqIntS.f k a b) (decide (a = b)) := by
  unfold laws_eqIntS.f
  by_cases hl : a.length = b.length
  · exact Ev_pos (by omega) (eqIntS_l0 a b hl hs _ 0 rfl (by omega))
  · refine Ev_neg (by omega) (Ev_some ?_)
    rw [eq_comm, decide_eq_false_iff_not]; intro e; exact hl (by rw [e])
theorem eqIntS_refl (a : List Int) (hs : a.length ≤ 4611686018427387000) : Ev (fun k => laws_eqIntS.f k a a) true := Ev_eq (eqIntS_ev a a hs) (by simp)
theorem szIntS_eq (r : List Int) (a : Int) (h0 : 0 ≤ a) (h1 : a ≤ 1048576) (hr : r.length ≤ maxLen) : laws_szIntS.f r a = some (if a - (r.length : Int) < 0 then -1 else a - (r.length : Int)) := by
  unfold laws_szIntS.f
  have e : wrap64 (a - (r.length : Int)) = a - (r.length : Int) := by simp only [maxLen] at hr; unfold wrap64; omega
  rw [e]; split <;> rfl
theorem szIntSS_l0 (l : List (List Int)) (hl : l.length ≤ 1048576) (hr : ∀ r ∈ l, r.length ≤ maxLen) : ∀ (d i : Nat) (a : Int), l.length - i = d → i ≤ l.length → 0 ≤ a → a ≤ 1048576 →
    (∀ j, j < i → (l.getD j []).length ≤ 1048576) → ∃ t, Ev (fun k => laws_szIntSS.l0 k l a (i : Int)) t ∧ (0 ≤ t → ∀ j, j < l.length → (l.getD j []).length ≤ 1048576) := by
  intro d
  induction d with
  | zero =>
    intro i a hd hi h0 h1 h
    refine ⟨a, Ev.step (fun _ => rfl) (Ev_neg (by omega) (Ev_some rfl)), fun _ j hj => h j (by omega)⟩
  | succ d ih =>
    intro i a hd hi h0 h1 h
    have hm := hr _ (getD_mem (z := []) (show i < l.length by omega))
    by_cases c : a - ((l.getD i []).length : Int) < 0
    · refine ⟨-1, Ev.step (fun _ => rfl) (Ev_pos (by omega) (Ev_pos (by omega) ?_)), fun hh => by omega⟩
      rw [rdL_nat, szIntS_eq _ _ h0 h1 hm, if_pos c]
      exact Ev_val rfl (Ev_pos (by decide) (Ev_some rfl))
    · obtain ⟨t, ht, hh⟩ := ih (i + 1) (a - ((l.getD i []).length : Int)) (by omega) (by omega) (by omega) (by omega) (fun j hj => by
        by_cases e : j = i
        · rw [e]; omega
        · exact h j (by omega))
      refine ⟨t, Ev.step (fun _ => rfl) (Ev_pos (by omega) (Ev_pos (by omega) ?_)), hh⟩
      rw [rdL_nat, szIntS_eq _ _ h0 h1 hm, if_neg c, wrap_succ (by omega)]
      exact Ev_val rfl (Ev_neg c ht)
theorem szMatrix_ev (l : List (List Int)) (hl : l.length ≤ maxLen) (hr : ∀ r ∈ l, Open.Fits r) : ∃ t, Ev (fun k => laws_szMatrix.f k l 1048576) t ∧ (0 ≤ t → Small l) := by
  unfold laws_szMatrix.f laws_szIntSS.f
  have e : wrap64 (1048576 - (l.length : Int)) = 1048576 - (l.length : Int) := by simp only [maxLen] at hl; unfold wrap64; omega
  rw [e]
  by_cases c : 1048576 - (l.length : Int) < 0
  · exact ⟨-1, Ev.bind (Ev_pos c (Ev_some rfl)) (Ev_pos (by decide) (Ev_some rfl)), fun h => by omega⟩
  · obtain ⟨t, ht, hh⟩ := szIntSS_l0 l (by omega) (fun r h => (hr r h).1) _ 0 (1048576 - (l.length : Int)) rfl (by omega) (by omega) (by omega) (fun j hj => by omega)
    refine ⟨if t < 0 then -1 else t, Ev.bind (Ev_neg c ht) ?_, fun h => ⟨by omega, fun r h2 => ?_⟩⟩
    · by_cases c2 : t < 0
      · exact Ev_eq (Ev_pos c2 (Ev_some rfl)) (if_pos c2).symm
      · exact Ev_eq (Ev_neg c2 (Ev_some rfl)) (if_neg c2).symm
    · obtain ⟨j, hj, rfl⟩ := List.getElem_of_mem h2
      have := hh (by by_cases c2 : t < 0
                     · rw [if_pos c2] at h; omega
                     · omega) j hj
      rwa [getD_lt _ _ _ hj] at this
theorem toIntSS_l0 (l : List (List Int)) (hs : Small l) : ∀ (d i : Nat) (ys : List (List Int)), l.length - i = d → ys.length = l.length → (∀ j, j < i → ys.getD j [] = l.getD j []) →
    Ev (fun k => laws_toIntSS.l0 k l ys (i : Int)) l := by
  intro d
  have hl := hs.1
  induction d with
  | zero =>
    intro i ys hd hy h
    refine Ev.step (fun k => by rw [laws_toIntSS.l0]) ?_
    exact Ev_neg (by omega) (Ev_some (ext_getL hy (fun j hj => h j (by omega))))
  | succ d ih =>
    intro i ys hd hy h
    refine Ev.step (fun k => by rw [laws_toIntSS.l0]) ?_
    refine Ev_pos (by omega) (Ev_pos (by omega) ?_)
    rw [rdL_nat, wrap_succ (by omega), Int.toNat_natCast]
    refine Ev.bind (toIntS_ev _ (hs.2 _ (getD_mem (by omega)))) (Ev_pos (by omega) ?_)
    refine ih (i + 1) _ (by omega) (by rw [List.length_set]; exact hy) ?_
    intro j hj
    by_cases e : j = i
    · subst e; rw [getD_lt _ _ _ (by rw [List.length_set]; omega)]; simp
    · rw [← h j (by omega)]; simp only [List.getD_eq_getElem?_getD]; rw [List.getElem?_set_ne (by omega)]
theorem toMatrix_ev (l : List (List Int)) (hs : Small l) : Ev (fun k => laws_toMatrix.f k l) l := by
  have hl := hs.1
  unfold laws_toMatrix.f laws_toIntSS.f
  exact Ev.bind (Ev_pos (by omega) (Ev_pos (by omega) (toIntSS_l0 l hs _ 0 _ rfl (by simp) (fun j hj => by omega)))) (Ev_some rfl)
theorem eqIntSS_refl (l : List (List Int)) (hl : l.length ≤ 4611686018427387000) (hr : ∀ r ∈ l, r.length ≤ 4611686018427387000) : Ev (fun k => laws_eqIntSS.f k l l) true := by
  unfold laws_eqIntSS.f
  refine Ev_pos rfl ?_
  refine (Ev_for (l := fun k (_ : Unit) i => laws_eqIntSS.l0 k l l (i : Int)) l.length (fun s _ => s) (fun _ => true) (fun _ _ => True) (fun _ _ _ _ => trivial) ?_ ?_ 0 () (by omega) trivial).1
  · intro i s hi _ r hr'
    refine Ev.step (fun k => by rw [laws_eqIntSS.l0]) ?_
    rw [rdL_nat, wrap_succ (by omega)]
    exact Ev_pos (by omega) (Ev_pos (by omega) (Ev_pos (by omega) (Ev.bind (eqIntS_refl _ (hr _ (getD_mem hi))) (Ev_pos rfl hr'))))
  · intro s _
    refine Ev.step (fun k => by rw [laws_eqIntSS.l0]) ?_
    exact Ev_neg (by omega) (Ev_some rfl)
theorem eqMatrix_refl (l : List (List Int)) (hl : l.length ≤ 4611686018427387000) (hr : ∀ r ∈ l, r.length ≤ 4611686018427387000) : Ev (fun k => laws_eqMatrix.f k l l) true := by
  unfold laws_eqMatrix.f
  exact Ev.bind (eqIntSS_refl l hl hr) (Ev_pos rfl (Ev_some rfl))
theorem eqMatrix_small (l : List (List Int)) (hs : Small l) : Ev (fun k => laws_eqMatrix.f k l l) true := eqMatrix_refl l (by have := hs.1; omega) (fun r hr => by have := hs.2 r hr; omega)
/-- The sum of f 0, .., f (n - 1). -/
def sumZ : Nat → (Nat → Int) → Int
  | 0, _ => 0
  | n + 1, f => sumZ n f + f n
theorem sumZ_congr {n : Nat} {f g : Nat → Int} (h : ∀ i, i < n → f i = g i) : sumZ n f = sumZ n g := by
  induction n with
  | zero => rfl
  | succ n ih => rw [sumZ, sumZ, ih (fun i hi => h i (by omega)), h n (by omega)]
theorem sumZ_bound {n : Nat} {f : Nat → Int} {B : Int} (hB : 0 ≤ B) (h : ∀ i, i < n → 0 ≤ f i ∧ f i ≤ B) : 0 ≤ sumZ n f ∧ sumZ n f ≤ n * B := by
  induction n with
  | zero => simp [sumZ]
  | succ n ih =>
    have h1 := ih (fun i hi => h i (by omega))
    have h2 := h n (by omega)
    rw [sumZ, show ((n + 1 : Nat) : Int) * B = n * B + B from by rw [Int.natCast_add, Int.add_mul]; simp]
    omega
theorem sumZ_nonneg {n : Nat} {f : Nat → Int} (h : ∀ i, i < n → 0 ≤ f i) : 0 ≤ sumZ n f := by
  induction n with
  | zero => simp [sumZ]
  | succ n ih => have := ih (fun i hi => h i (by omega)); have := h n (by omega); rw [sumZ]; omega
theorem sumZ_mono {n m : Nat} {f : Nat → Int} (hnm : n ≤ m) (h : ∀ i, i < m → 0 ≤ f i) : sumZ n f ≤ sumZ m f := by
  induction m with
  | zero => obtain rfl : n = 0 := by omega
            exact Int.le_refl _
  | succ m ih =>
    by_cases e : n = m + 1
    · rw [e]; exact Int.le_refl _
    · have := ih (by omega) (fun i hi => h i (by omega)); have := h m (by omega); rw [sumZ]; omega
theorem sumZ_term {n : Nat} {f : Nat → Int} (h : ∀ i, i < n → 0 ≤ f i) {i : Nat} (hi : i < n) : f i ≤ sumZ n f := by
  induction n with
  | zero => omega
  | succ n ih =>
    have h0 := sumZ_nonneg (n := n) (fun j hj => h j (by omega))
    rw [sumZ]
    by_cases e : i = n
    · rw [e]; omega
    · have := ih (fun j hj => h j (by omega)) (by omega); have := h n (by omega); omega
theorem sumZ_zero {n : Nat} {f : Nat → Int} (h : ∀ i, i < n → 0 ≤ f i) : sumZ n f = 0 ↔ ∀ i, i < n → f i = 0 := by
  refine ⟨fun h0 i hi => ?_, fun h0 => ?_⟩
  · have := sumZ_term h hi; have := h i hi; omega
  · rw [sumZ_congr (g := fun _ => 0) h0]
    clear h h0
    induction n with
    | zero => rfl
    | succ n ih => rw [sumZ, ih]; rfl
theorem sumZ_add (n : Nat) (f g : Nat → Int) : sumZ n (fun i => f i + g i) = sumZ n f + sumZ n g := by
  induction n with
  | zero => rfl
  | succ n ih => simp only [sumZ, ih]; omega
theorem sumZ_swap (n m : Nat) (f : Nat → Nat → Int) : sumZ n (fun i => sumZ m (fun j => f i j)) = sumZ m (fun j => sumZ n (fun i => f i j)) := by
  induction n with
  | zero =>
    exact ((sumZ_zero (n := m) (f := fun j => sumZ 0 fun i => f i j) (fun _ _ => Int.le_refl _)).2 (fun _ _ => rfl)).symm
  | succ n ih =>
    rw [sumZ, ih, ← sumZ_add]
    exact sumZ_congr (fun j _ => rfl)
/-- The number in row i and column j. -/
def en (m : List (List Int)) (i j : Nat) : Int := (m.getD i []).getD j 0
def Cells (m : List (List Int)) : Prop := ∀ i, i < m.length → (m.getD i []).length = m.length ∧ ∀ j, j < m.length → 0 ≤ en m i j ∧ en m i j ≤ 12 ∧ (j < i → en m i j = 0)
def rowZ (m : List (List Int)) (i : Nat) : Int := sumZ m.length (fun j => en m i j)
def colZ (m : List (List Int)) (j : Nat) : Int := sumZ m.length (fun i => en m i j)
def allZ (m : List (List Int)) : Int := sumZ m.length (fun i => rowZ m i)
def isMat (m : List (List Int)) : Prop := m.length ≤ 12 ∧ Cells m ∧ (∀ i, i < m.length → rowZ m i ≠ 0) ∧ (∀ j, j < m.length → colZ m j ≠ 0) ∧ allZ m ≤ 12
instance (m : List (List Int)) : Decidable (Cells m) := inferInstanceAs (Decidable (∀ i, i < m.length → _))
instance (m : List (List Int)) : Decidable (isMat m) := inferInstanceAs (Decidable (_ ∧ _))
theorem Cells.row {m : List (List Int)} (h : Cells m) {i : Nat} (hi : i < m.length) : 0 ≤ rowZ m i ∧ rowZ m i ≤ m.length * 12 := sumZ_bound (by decide) (fun j hj => ⟨((h i hi).2 j hj).1, ((h i hi).2 j hj).2.1⟩)
theorem Cells.nn {m : List (List Int)} (h : Cells m) {i j : Nat} (hi : i < m.length) (hj : j < m.length) : 0 ≤ en m i j := ((h i hi).2 j hj).1
theorem Cells.le {m : List (List Int)} (h : Cells m) {i j : Nat} (hi : i < m.length) (hj : j < m.length) : en m i j ≤ 12 := ((h i hi).2 j hj).2.1
def rowsL (m : List (List Int)) : List Int := (List.range m.length).map fun (i : Nat) => rowZ m i
def colsL (m : List (List Int)) : List Int := (List.range m.length).map fun (j : Nat) => colZ m j
theorem mapR_length (n : Nat) (f : Nat → Int) : ((List.range n).map f).length = n := by simp
theorem mapR_getD (n : Nat) (f : Nat → Int) {i : Nat} (h : i < n) : ((List.range n).map f).getD i 0 = f i := by rw [getD_lt _ _ _ (by simpa using h)]; simp
theorem maTotal_ev (row : List Int) (hl : row.length ≤ 1000000) (hb : ∀ j, j < row.length → 0 ≤ row.getD j 0 ∧ row.getD j 0 ≤ 1000000) : Ev (fun k => spec_maTotal.f k row) (sumZ row.length (fun j => row.getD j 0)) := by
  unfold spec_maTotal.f
  have main : ∀ (d i : Nat), row.length - i = d → i ≤ row.length → Ev (fun k => spec_maTotal.l0 k (sumZ i (fun j => row.getD j 0)) row (row.length : Int) (i : Int)) (sumZ row.length (fun j => row.getD j 0)) := by
    intro d
    induction d with
    | zero =>
      intro i hd hi
      obtain rfl : i = row.length := by omega
      exact Ev.step (fun _ => rfl) (Ev_neg (by omega) (Ev_some rfl))
    | succ d ih =>
      intro i hd hi
      refine Ev.step (fun _ => rfl) (Ev_pos (by omega) (Ev_pos (by omega) (Ev_pos (by omega) ?_)))
      have h1 := sumZ_bound (n := i) (f := fun j => row.getD j 0) (B := 1000000) (by decide) (fun j hj => hb j (by omega))
      have h2 := hb i (by omega)
      rw [rd_nat, wrap_succ (by omega), wrap_small (by omega) (by omega)]
      exact ih (i + 1) (by omega) (by omega)
  exact main _ 0 rfl (by omega)
theorem Cells.rowT {m : List (List Int)} (h : Cells m) (hd : m.length ≤ 12) {i : Nat} (hi : i < m.length) : Ev (fun k => spec_maTotal.f k (m.getD i [])) (rowZ m i) := by
  have hl := (h i hi).1
  have := maTotal_ev (m.getD i []) (by omega) (fun j hj => ⟨h.nn hi (by omega), by have := h.le hi (show j < m.length by omega); simp only [en] at this; omega⟩)
  rw [hl] at this
  exact this
theorem maSum_ev (m : List (List Int)) (hd : m.length ≤ 12) (h : Cells m) : Ev (fun k => spec_maSum.f k m) (allZ m) := by
  unfold spec_maSum.f
  have main : ∀ (d i : Nat), m.length - i = d → i ≤ m.length → Ev (fun k => spec_maSum.l0 k (sumZ i (fun i => rowZ m i)) m (m.length : Int) (i : Int)) (allZ m) := by
    intro d
    induction d with
    | zero =>
      intro i hd hi
      obtain rfl : i = m.length := by omega
      exact Ev.step (fun _ => rfl) (Ev_neg (by omega) (Ev_some rfl))
    | succ d ih =>
      intro i hd' hi
      refine Ev.step (fun _ => rfl) (Ev_pos (by omega) (Ev_pos (by omega) (Ev_pos (by omega) ?_)))
      have h1 := sumZ_bound (n := i) (f := fun i => rowZ m i) (B := 144) (by decide) (fun j hj => by have := h.row (show j < m.length by omega); omega)
      have h2 := h.row (show i < m.length by omega)
      rw [rdL_nat, wrap_succ (by omega)]
      refine Ev.bind (h.rowT hd (by omega)) ?_
      rw [wrap_small (by omega) (by omega)]
      exact ih (i + 1) (by omega) (by omega)
  exact main _ 0 rfl (by omega)
def colL (m : List (List Int)) (j : Nat) : List Int := (List.range m.length).map fun (i : Nat) => en m i j
theorem maColumn_ev (m : List (List Int)) (hd : m.length ≤ 12) (h : Cells m) (j : Nat) (hj : j < m.length) : Ev (fun k => spec_maColumn.f k m (j : Int)) (colL m j) := by
  unfold spec_maColumn.f
  have main : ∀ (d i : Nat), m.length - i = d → i ≤ m.length → Ev (fun k => spec_maColumn.l0 k (j : Int) ((List.range i).map fun (i : Nat) => en m i j) m (m.length : Int) (i : Int)) (colL m j) := by
    intro d
    induction d with
    | zero =>
      intro i hd hi
      obtain rfl : i = m.length := by omega
      exact Ev.step (fun _ => rfl) (Ev_neg (by omega) (Ev_some rfl))
    | succ d ih =>
      intro i hd' hi
      refine Ev.step (fun _ => rfl) (Ev_pos (by omega) (Ev_pos (by omega) (Ev_pos (by omega) ?_)))
      have hl := (h i (by omega)).1
      rw [rdL_nat, rd_nat, wrap_succ (by omega)]
      refine Ev_pos (by omega) (Ev_pos (by omega) (Ev_pos (by simp; omega) ?_))
      have := ih (i + 1) (by omega) (by omega)
      rw [List.range_succ, List.map_append] at this
      exact this
  exact main _ 0 rfl (by omega)
def mostL (row : List Int) : Int := foldFrom row.length (fun s i => if row.getD i 0 > s then row.getD i 0 else s) (-1) 0
theorem l1Most_eq (a b : Int) : spec_l1Most.f a b = some (if b > a then b else a) := by
  unfold spec_l1Most.f
  by_cases h : a > b
  · rw [if_pos h, if_neg (by omega)]
  · rw [if_neg h]
    by_cases h2 : b > a
    · rw [if_pos h2]
    · rw [if_neg h2, show a = b from by omega]
theorem ivMost_ev (row : List Int) (hl : row.length ≤ 1000000) : Ev (fun k => spec_ivMost.f k row) (mostL row) := by
  unfold spec_ivMost.f
  refine (Ev_for (l := fun k s i => spec_ivMost.l0 k s row (row.length : Int) (i : Int)) row.length (fun s i => if row.getD i 0 > s then row.getD i 0 else s) id (fun _ _ => True) (fun _ _ _ _ => trivial) ?_ ?_ 0 (-1) (by omega) trivial).1
  · intro i s hi _ r hr
    refine Ev.step (fun _ => rfl) (Ev_pos (by omega) (Ev_pos (by omega) (Ev_pos (by omega) ?_)))
    rw [rd_nat, wrap_succ (by omega), l1Most_eq]
    exact Ev_val rfl hr
  · intro s _
    exact Ev.step (fun _ => rfl) (Ev_neg (by omega) (Ev_some rfl))
theorem mostL_zero {row : List Int} (hp : 0 < row.length) (h : ∀ j, j < row.length → 0 ≤ row.getD j 0) : mostL row = 0 ↔ ∀ j, j < row.length → row.getD j 0 = 0 := by
  have main : ∀ (d i : Nat) (s : Int), row.length - i = d → i ≤ row.length → (s = -1 ∧ i = 0 ∨ 0 ≤ s) → (foldFrom row.length (fun s i => if row.getD i 0 > s then row.getD i 0 else s) s i = 0 ↔ (s ≤ 0 ∧ ∀ j, i ≤ j → j < row.length → row.getD j 0 = 0)) := by
    intro d
    induction d with
    | zero =>
      intro i s hd hi hs
      rw [foldFrom_ge (by omega)]
      exact ⟨fun h0 => ⟨by omega, fun j hij hj => by omega⟩, fun h0 => by omega⟩
    | succ d ih =>
      intro i s hd hi hs
      have h1 := h i (by omega)
      rw [foldFrom_lt (by omega)]
      by_cases c : row.getD i 0 > s
      · rw [if_pos c, ih (i + 1) _ (by omega) (by omega) (.inr h1)]
        refine ⟨fun ⟨h2, h3⟩ => ⟨by omega, fun j hij hj => ?_⟩, fun ⟨h2, h3⟩ => ⟨by have := h3 i (by omega) (by omega); omega, fun j hij hj => h3 j (by omega) hj⟩⟩
        by_cases e : j = i
        · rw [e]; omega
        · exact h3 j (by omega) hj
      · rw [if_neg c, ih (i + 1) _ (by omega) (by omega) (.inr (by omega))]
        refine ⟨fun ⟨h2, h3⟩ => ⟨by omega, fun j hij hj => ?_⟩, fun ⟨h2, h3⟩ => ⟨h2, fun j hij hj => h3 j (by omega) hj⟩⟩
        by_cases e : j = i
        · rw [e]; omega
        · exact h3 j (by omega) hj
  unfold mostL
  rw [main _ 0 (-1) rfl (by omega) (.inl ⟨rfl, rfl⟩)]
  exact ⟨fun h0 j hj => h0.2 j (by omega) hj, fun h0 => ⟨by omega, fun j _ hj => h0 j hj⟩⟩
theorem l1In_eq (a b c : Int) : spec_l1In.f a b c = some (decide (b ≤ a ∧ a ≤ c)) := by
  unfold spec_l1In.f
  by_cases h : a ≥ b
  · rw [if_pos h]; have : b ≤ a := h; simp [this]
  · rw [if_neg h]; simp; omega
theorem l1All_ev (l : List Int) (lo hi : Int) (hs : l.length ≤ 4611686018427387000) : Ev (fun k => spec_l1All.f k l lo hi) (decide (∀ j, j < l.length → lo ≤ l.getD j 0 ∧ l.getD j 0 ≤ hi)) := by
  unfold spec_l1All.f
  refine Ev_eq (Ev_all (fun k i => spec_l1All.l0 k lo hi l (l.length : Int) (i : Int)) l.length (fun j => decide (lo ≤ l.getD j 0 ∧ l.getD j 0 ≤ hi)) true ?_ ?_ ?_) ?_
  · intro i hi' _ hP q hq
    refine Ev.step (fun _ => rfl) (Ev_pos (by omega) (Ev_pos (by omega) (Ev_pos (by omega) ?_)))
    rw [rd_nat, wrap_succ (by omega), l1In_eq]
    exact Ev_val rfl (Ev_pos hP hq)
  · intro i hi' _ hP
    refine Ev.step (fun _ => rfl) (Ev_pos (by omega) (Ev_pos (by omega) (Ev_pos (by omega) ?_)))
    rw [rd_nat, l1In_eq]
    exact Ev_val rfl (Ev_neg (by rw [hP]; decide) (Ev_some rfl))
  · intro _
    exact Ev.step (fun _ => rfl) (Ev_neg (by omega) (Ev_some rfl))
  · rw [Bool.and_true]; exact dec_eq ⟨fun h j hj => of_decide_eq_true (h j hj), fun h j hj => decide_eq_true (h j hj)⟩
/-- What the reference asks of row i. -/
def rowOk (m : List (List Int)) (i : Nat) : Prop := (m.getD i []).length = m.length ∧ (∀ j, j < m.length → 0 ≤ en m i j ∧ en m i j ≤ 12) ∧ rowZ m i ≠ 0 ∧ ∀ j, j < m.length → j < i → en m i j = 0
instance (m : List (List Int)) (i : Nat) : Decidable (rowOk m i) := inferInstanceAs (Decidable (_ ∧ _ ∧ _ ∧ ∀ j, j < m.length → _))
theorem cells_of_rows {m : List (List Int)} (h : ∀ i, i < m.length → rowOk m i) : Cells m := fun i hi => ⟨(h i hi).1, fun j hj => ⟨((h i hi).2.1 j hj).1, ((h i hi).2.1 j hj).2, fun hji => (h i hi).2.2.2 j hj hji⟩⟩
theorem rowMost (m : List (List Int)) (i : Nat) (hi : i < m.length) (hl : (m.getD i []).length = m.length) (hw : ∀ j, j < m.length → 0 ≤ en m i j ∧ en m i j ≤ 12) : mostL (m.getD i []) = 0 ↔ rowZ m i = 0 := by
  rw [mostL_zero (by omega) (fun j hj => (hw j (by omega)).1), rowZ, sumZ_zero (fun j hj => (hw j hj).1), hl]
  exact Iff.rfl
theorem maGood_l1 (m : List (List Int)) (hd : m.length ≤ 12) (i : Nat) (hi : i < m.length) (hl : (m.getD i []).length = m.length) (hw : ∀ j, j < m.length → 0 ≤ en m i j ∧ en m i j ≤ 12) (q : Bool)
    (hq : (∀ j, j < m.length → j < i → en m i j = 0) → Ev (fun k => spec_maGood.l0 k (m.length : Int) m (m.length : Int) ((i + 1 : Nat) : Int) m) q) :
    Ev (fun k => spec_maGood.l1 k (m.length : Int) (i : Int) m (m.length : Int) (i : Int) (m.getD i []) ((m.getD i []).length : Int) 0 m) (decide (∀ j, j < m.length → j < i → en m i j = 0) && q) := by
  rw [hl]
  refine Ev_eq (Ev_all (fun k j => spec_maGood.l1 k (m.length : Int) (i : Int) m (m.length : Int) (i : Int) (m.getD i []) (m.length : Int) (j : Int) m) m.length (fun j => decide (j < i → en m i j = 0)) q ?_ ?_ ?_) ?_
  · intro j hj _ hP r hr
    refine Ev.step (fun _ => rfl) (Ev_pos (by omega) (Ev_pos (by omega) (Ev_pos (by omega) ?_)))
    rw [rd_nat, wrap_succ (by omega)]
    have hP := of_decide_eq_true hP
    by_cases c : j < i
    · exact Ev_pos (by omega) (Ev_neg (by have := hP c; simp only [en] at this; omega) hr)
    · exact Ev_neg (by omega) hr
  · intro j hj _ hP
    refine Ev.step (fun _ => rfl) (Ev_pos (by omega) (Ev_pos (by omega) (Ev_pos (by omega) ?_)))
    rw [rd_nat]
    have hP := of_decide_eq_false hP
    have h1 := hw j hj
    have h2 : en m i j ≠ 0 := fun h => hP (fun _ => h)
    have h3 : j < i := by
      by_cases c : j < i
      · exact c
      · exact absurd (fun h => absurd h c) hP
    exact Ev_pos (by omega) (Ev_pos (by simp only [en] at h1 h2; omega) (Ev_some rfl))
  · intro h
    refine Ev.step (fun _ => rfl) (Ev_neg (by omega) ?_)
    rw [wrap_succ (by omega)]
    exact hq (fun j hj => of_decide_eq_true (h j hj))
  · congr 1; exact dec_eq ⟨fun h j hj => of_decide_eq_true (h j hj), fun h j hj => decide_eq_true (h j hj)⟩
theorem maGood_l2 (m : List (List Int)) (hd : m.length ≤ 12) (h : Cells m) : Ev (fun k => spec_maGood.l2 k (m.length : Int) 0 m) (decide ((∀ j, j < m.length → colZ m j ≠ 0) ∧ allZ m ≤ 12)) := by
  refine Ev_eq (Ev_all (fun k j => spec_maGood.l2 k (m.length : Int) (j : Int) m) m.length (fun j => decide (colZ m j ≠ 0)) (decide (allZ m ≤ 12)) ?_ ?_ ?_) ?_
  all_goals first
    | (intro j hj _ hP r hr
       refine Ev.step (fun _ => rfl) (Ev_pos (by omega) (Ev.bind (maColumn_ev m hd h j hj) (Ev.bind (ivMost_ev _ (by simp [colL]; omega)) ?_)))
       have hP := of_decide_eq_true hP
       have e : mostL (colL m j) = 0 ↔ colZ m j = 0 := by
         rw [mostL_zero (by simp [colL]; omega) (fun i hi => by rw [colL, mapR_getD _ _ (by simpa [colL] using hi)]; exact h.nn (by simpa [colL] using hi) hj), colZ, sumZ_zero (fun i hi => h.nn hi hj)]
         simp only [colL, mapR_length]
         exact ⟨fun h2 i hi => by have := h2 i hi; rwa [mapR_getD _ _ hi] at this, fun h2 i hi => by rw [mapR_getD _ _ hi]; exact h2 i hi⟩
       rw [wrap_succ (by omega)]
       exact Ev_neg (fun hh => hP (e.1 hh)) hr)
    | (intro j hj _ hP
       refine Ev.step (fun _ => rfl) (Ev_pos (by omega) (Ev.bind (maColumn_ev m hd h j hj) (Ev.bind (ivMost_ev _ (by simp [colL]; omega)) ?_)))
       have hP := of_decide_eq_false hP
       have e : mostL (colL m j) = 0 ↔ colZ m j = 0 := by
         rw [mostL_zero (by simp [colL]; omega) (fun i hi => by rw [colL, mapR_getD _ _ (by simpa [colL] using hi)]; exact h.nn (by simpa [colL] using hi) hj), colZ, sumZ_zero (fun i hi => h.nn hi hj)]
         simp only [colL, mapR_length]
         exact ⟨fun h2 i hi => by have := h2 i hi; rwa [mapR_getD _ _ hi] at this, fun h2 i hi => by rw [mapR_getD _ _ hi]; exact h2 i hi⟩
       exact Ev_pos (e.2 (Decidable.of_not_not hP)) (Ev_some rfl))
    | (intro _
       exact Ev.step (fun _ => rfl) (Ev_neg (by omega) (Ev.bind (maSum_ev m hd h) (Ev_some rfl))))
    | skip
  rw [Bool.decide_and]; congr 1; exact dec_eq ⟨fun h j hj => of_decide_eq_true (h j hj), fun h j hj => decide_eq_true (h j hj)⟩
theorem maGood_ev (m : List (List Int)) (hs : Small m) : Ev (fun k => spec_maGood.f k m) (decide (isMat m)) := by
  unfold spec_maGood.f
  by_cases hd : m.length ≤ 12
  · refine Ev_neg (by omega) ?_
    by_cases hC : Cells m ∧ ∀ i, i < m.length → rowZ m i ≠ 0
    · have key : ∀ (d i : Nat), m.length - i = d → i ≤ m.length → Ev (fun k => spec_maGood.l0 k (m.length : Int) m (m.length : Int) (i : Int) m) (decide ((∀ j, j < m.length → colZ m j ≠ 0) ∧ allZ m ≤ 12)) := by
        intro d
        induction d with
        | zero =>
          intro i hdi hi
          exact Ev.step (fun _ => rfl) (Ev_neg (by omega) (maGood_l2 m hd hC.1))
        | succ d ih =>
          intro i hdi hi
          have hl := (hC.1 i (by omega)).1
          have hw : ∀ j, j < m.length → 0 ≤ en m i j ∧ en m i j ≤ 12 := fun j hj => ⟨hC.1.nn (by omega) hj, hC.1.le (by omega) hj⟩
          refine Ev.step (fun _ => rfl) (Ev_pos (by omega) (Ev_pos (by omega) (Ev_pos (by omega) ?_)))
          rw [rdL_nat]
          refine Ev_pos (by omega) (Ev.bind (l1All_ev _ 0 12 (by omega)) (Ev_pos (decide_eq_true (fun j hj => hw j (by omega))) (Ev.bind (ivMost_ev _ (by omega)) ?_)))
          refine Ev.step (fun _ => rfl) (Ev_neg ?_ ?_)
          · rw [beq_iff_eq, rowMost m i (by omega) hl hw]; exact hC.2 i (by omega)
          · refine Ev_eq (maGood_l1 m hd i (by omega) hl hw _ (fun _ => ih (i + 1) (by omega) (by omega))) ?_
            rw [decide_eq_true (fun j hj hji => ((hC.1 i (by omega)).2 j hj).2.2 hji), Bool.true_and]
      refine Ev_eq (key _ 0 rfl (by omega)) (dec_eq ⟨fun h => ⟨hd, hC.1, hC.2, h.1, h.2⟩, fun h => ⟨h.2.2.2.1, h.2.2.2.2⟩⟩)
    · have key : ∀ (d i : Nat), m.length - i = d → i ≤ m.length → (∀ j, j < i → rowOk m j) → Ev (fun k => spec_maGood.l0 k (m.length : Int) m (m.length : Int) (i : Int) m) false := by
        intro d
        induction d with
        | zero =>
          intro i hdi hi h
          exact absurd ⟨cells_of_rows (fun j hj => h j (by omega)), fun j hj => (h j (by omega)).2.2.1⟩ hC
        | succ d ih =>
          intro i hdi hi h
          have hout : ∀ (b : Bool), b = true → Ev (fun k => spec_maGood.j1 k (m.length : Int) (i : Int) (m.getD i []) m (m.length : Int) (i : Int) b m) false := fun b hb =>
            Ev.step (fun _ => rfl) (Ev_pos hb (Ev_some rfl))
          refine Ev.step (fun _ => rfl) (Ev_pos (by omega) (Ev_pos (by omega) (Ev_pos (by omega) ?_)))
          rw [rdL_nat]
          have hsm := hs.2 _ (getD_mem (z := []) (show i < m.length by omega))
          by_cases c1 : (m.getD i []).length = m.length
          · refine Ev_pos (by omega) (Ev.bind (l1All_ev _ 0 12 (by omega)) ?_)
            by_cases c2 : ∀ j, j < (m.getD i []).length → 0 ≤ (m.getD i []).getD j 0 ∧ (m.getD i []).getD j 0 ≤ 12
            · have hw : ∀ j, j < m.length → 0 ≤ en m i j ∧ en m i j ≤ 12 := fun j hj => c2 j (by omega)
              refine Ev_pos (decide_eq_true c2) (Ev.bind (ivMost_ev _ (by omega)) ?_)
              by_cases c3 : rowZ m i = 0
              · exact hout _ (by rw [beq_iff_eq, rowMost m i (by omega) c1 hw]; exact c3)
              · refine Ev.step (fun _ => rfl) (Ev_neg (by rw [beq_iff_eq, rowMost m i (by omega) c1 hw]; exact c3) ?_)
                refine Ev_eq (maGood_l1 m hd i (by omega) c1 hw false (fun h4 => ih (i + 1) (by omega) (by omega) (fun j hj => ?_))) (by simp)
                by_cases e : j = i
                · rw [e]; exact ⟨c1, hw, c3, h4⟩
                · exact h j (by omega)
            · exact Ev_neg (by simpa using c2) (hout _ rfl)
          · exact Ev_neg (by omega) (hout _ rfl)
      refine Ev_eq (key _ 0 rfl (by omega) (fun j hj => by omega)) ?_
      symm; rw [decide_eq_false_iff_not]; exact fun h => hC ⟨h.2.1, h.2.2.1⟩
  · refine Ev_pos (by omega) (Ev_some ?_)
    symm; rw [decide_eq_false_iff_not]; exact fun h => hd h.1
theorem within_eq (a b c : Int) : impl_within.f a b c = some (decide (b ≤ a ∧ a ≤ c)) := by
  unfold impl_within.f
  by_cases h : a ≥ b
  · rw [if_pos h]; have : b ≤ a := h; simp [this]
  · rw [if_neg h]; simp; omega
theorem allWithin_l0 (l : List Int) (lo hi : Int) (hs : l.length ≤ 4611686018427387000) : ∀ (d i : Nat), l.length - i = d → i ≤ l.length →
    Ev (fun k => impl_allWithin.l0 k lo hi l (l.length : Int) (i : Int)) (decide (∀ j, j < l.length → i ≤ j → lo ≤ l.getD j 0 ∧ l.getD j 0 ≤ hi)) := by
  intro d
  induction d with
  | zero =>
    intro i hd hi
    refine Ev.step (fun k => by rw [impl_allWithin.l0]) ?_
    refine Ev_neg (by omega) (Ev_some ?_)
    symm; rw [decide_eq_true_iff]; intro j hj hij; omega
  | succ d ih =>
    intro i hd hi'
    refine Ev.step (fun k => by rw [impl_allWithin.l0]) ?_
    refine Ev_pos (by omega) (Ev_pos (by omega) (Ev_pos (by omega) ?_))
    rw [rd_nat, wrap_succ (by omega), within_eq]
    refine Ev_val rfl ?_
    by_cases c : lo ≤ l.getD i 0 ∧ l.getD i 0 ≤ hi
    · refine Ev_pos (decide_eq_true c) (Ev_eq (ih (i + 1) (by omega) (by omega)) (dec_eq ?_))
      refine ⟨fun hh j hj hij => ?_, fun hh j hj hij => hh j hj (by omega)⟩
      by_cases e : j = i
      · subst e; exact c
      · exact hh j hj (by omega)
    · refine Ev_neg (by simpa using c) (Ev_some ?_)
      symm; rw [decide_eq_false_iff_not]
      intro hh; exact c (hh i (by omega) (by omega))
theorem allWithin_ev (l : List Int) (lo hi : Int) (hs : l.length ≤ 4611686018427387000) : Ev (fun k => impl_allWithin.f k l lo hi) (decide (∀ j, j < l.length → lo ≤ l.getD j 0 ∧ l.getD j 0 ≤ hi)) := by
  unfold impl_allWithin.f
  refine Ev_eq (allWithin_l0 l lo hi hs _ 0 rfl (by omega)) (dec_eq ?_)
  exact ⟨fun h j hj => h j hj (by omega), fun h j hj _ => h j hj⟩
theorem setR (n : Nat) (f g : Nat → Int) (i : Nat) (hi : i < n) (h : ∀ j, j < n → j ≠ i → g j = f j) : ((List.range n).map f).set i (g i) = (List.range n).map g := by
  apply List.ext_getElem (by simp)
  intro j h1 h2
  simp only [List.length_map, List.length_range] at h2
  by_cases e : j = i
  · subst e; simp
  · rw [List.getElem_set_ne (fun x => e x.symm)]; simp [h j h2 e]
theorem replR (n : Nat) : List.replicate n (0 : Int) = (List.range n).map (fun _ => 0) := by
  apply List.ext_getElem (by simp); intro j h1 h2; simp
theorem sums_l1 (m : List (List Int)) (hd : m.length ≤ 12) (h : Cells m) (i : Nat) (hi : i < m.length) (R : List Int × List Int)
    (hR : Ev (fun k => impl_Matrix_sums.l0 k ((List.range m.length).map fun (a : Nat) => if a < i + 1 then rowZ m a else 0) ((List.range m.length).map fun (b : Nat) => sumZ (i + 1) (fun a => en m a b)) m (m.length : Int) ((i + 1 : Nat) : Int)) R) :
    ∀ (d j : Nat), m.length - j = d → j ≤ m.length → Ev (fun k => impl_Matrix_sums.l1 k ((List.range m.length).map fun (a : Nat) => if a < i then rowZ m a else if a = i then sumZ j (fun b => en m i b) else 0)
      ((List.range m.length).map fun (b : Nat) => sumZ i (fun a => en m a b) + if b < j then en m i b else 0) (i : Int) m (m.length : Int) (i : Int) (m.getD i []) (m.length : Int) (j : Int)) R := by
  intro d
  induction d with
  | zero =>
    intro j hdj hj
    obtain rfl : j = m.length := by omega
    refine Ev.step (fun _ => rfl) (Ev_neg (by omega) ?_)
    rw [wrap_succ (by omega)]
    refine (Ev_eq hR rfl).congr (fun k => ?_)
    congr 1
    · apply List.map_congr_left; intro a ha
      by_cases c : a < i
      · rw [if_pos c, if_pos (by omega)]
      · rw [if_neg c]
        by_cases e : a = i
        · rw [if_pos e, if_pos (by omega), e]; rfl
        · rw [if_neg e, if_neg (by omega)]
    · apply List.map_congr_left; intro b hb
      have : b < m.length := by simpa using hb
      rw [if_pos this]; rfl
  | succ d ih =>
    intro j hdj hj
    have hl := (h i hi).1
    have h1 := h.nn hi (show j < m.length by omega)
    have h2 := h.le hi (show j < m.length by omega)
    have h3 := sumZ_bound (n := j) (f := fun b => en m i b) (B := 12) (by decide) (fun b hb => ⟨h.nn hi (by omega), h.le hi (by omega)⟩)
    have h4 := sumZ_bound (n := i) (f := fun a => en m a j) (B := 12) (by decide) (fun a ha => ⟨h.nn (by omega) (show j < m.length by omega), h.le (by omega) (show j < m.length by omega)⟩)
    refine Ev.step (fun _ => rfl) (Ev_pos (by omega) (Ev_pos (by omega) (Ev_pos (by omega) (Ev_pos (by omega) (Ev_pos (by rw [mapR_length]; omega) (Ev_pos (by rw [mapR_length]; omega) ?_))))))
    rw [rd_nat, rd_nat, rd_nat, mapR_getD _ _ hi, mapR_getD _ _ (show j < m.length by omega), if_neg (Nat.lt_irrefl _), if_pos rfl, if_neg (Nat.lt_irrefl _), wrap_succ (by omega), Int.toNat_natCast, Int.toNat_natCast,
      show (m.getD i []).getD j 0 = en m i j from rfl, wrap_small (by omega) (by omega), wrap_small (by omega) (by omega)]
    refine (ih (j + 1) (by omega) (by omega)).congr (fun k => ?_)
    congr 1
    · have := setR m.length (fun a => if a < i then rowZ m a else if a = i then sumZ j (fun b => en m i b) else 0) (fun a => if a < i then rowZ m a else if a = i then sumZ (j + 1) (fun b => en m i b) else 0) i hi (fun a _ hne => by
        by_cases c : a < i
        · rw [if_pos c, if_pos c]
        · rw [if_neg c, if_neg c, if_neg hne, if_neg hne])
      rw [← this, if_neg (Nat.lt_irrefl _), if_pos rfl]; rfl
    · have := setR m.length (fun b => sumZ i (fun a => en m a b) + if b < j then en m i b else 0) (fun b => sumZ i (fun a => en m a b) + if b < j + 1 then en m i b else 0) j (by omega) (fun b _ hne => by
        by_cases c : b < j
        · rw [if_pos c, if_pos (by omega)]
        · rw [if_neg c, if_neg (by omega)])
      rw [← this, if_pos (by omega), Int.add_zero]
theorem sums_ev (m : List (List Int)) (hd : m.length ≤ 12) (h : Cells m) : Ev (fun k => impl_Matrix_sums.f k m) (rowsL m, colsL m) := by
  unfold impl_Matrix_sums.f impl_Matrix_size.f
  refine Ev_val rfl (Ev_pos (by omega) (Ev_pos (by omega) (Ev_val rfl (Ev_pos (by omega) (Ev_pos (by omega) ?_)))))
  rw [Int.toNat_natCast, replR]
  have main : ∀ (d i : Nat), m.length - i = d → i ≤ m.length → Ev (fun k => impl_Matrix_sums.l0 k ((List.range m.length).map fun (a : Nat) => if a < i then rowZ m a else 0) ((List.range m.length).map fun (b : Nat) => sumZ i (fun a => en m a b)) m (m.length : Int) (i : Int)) (rowsL m, colsL m) := by
    intro d
    induction d with
    | zero =>
      intro i hdi hi
      obtain rfl : i = m.length := by omega
      refine Ev.step (fun _ => rfl) (Ev_neg (by omega) (Ev_some ?_))
      unfold rowsL colsL
      congr 1
      apply List.map_congr_left; intro a ha
      rw [if_pos (by simpa using ha)]
    | succ d ih =>
      intro i hdi hi
      refine Ev.step (fun _ => rfl) (Ev_pos (by omega) (Ev_pos (by omega) (Ev_pos (by omega) ?_)))
      rw [rdL_nat, (h i (by omega)).1]
      refine (sums_l1 m hd h i (by omega) _ (ih (i + 1) (by omega) (by omega)) _ 0 rfl (by omega)).congr (fun k => ?_)
      congr 1
      · apply List.map_congr_left; intro a ha
        by_cases c : a < i
        · rw [if_pos c, if_pos c]
        · rw [if_neg c, if_neg c]; split <;> rfl
      · apply List.map_congr_left; intro b hb
        rw [if_neg (by omega), Int.add_zero]
  refine (main _ 0 rfl (by omega)).congr (fun k => ?_)
  congr 1
  all_goals (apply List.map_congr_left; intro a ha)
theorem Index_ev (l : List Int) (a : Int) (hl : l.length ≤ 1000000) : Ev (fun k => slices_Contains_int_int.f k l a) (decide (a ∈ l)) := by
  unfold slices_Contains_int_int.f slices_Index_int_int.f
  have main : ∀ (d i : Nat), l.length - i = d → i ≤ l.length → ∃ q : Int, Ev (fun k => slices_Index_int_int.l0 k l a (l.length : Int) (i : Int)) q ∧ (0 ≤ q ↔ ∃ j, i ≤ j ∧ j < l.length ∧ l.getD j 0 = a) := by
    intro d
    induction d with
    | zero =>
      intro i hd hi
      exact ⟨-1, Ev.step (fun _ => rfl) (Ev_neg (by omega) (Ev_some rfl)), ⟨fun h => absurd h (by decide), fun ⟨j, h1, h2, _⟩ => by omega⟩⟩
    | succ d ih =>
      intro i hd hi
      by_cases c : a = l.getD i 0
      · exact ⟨i, Ev.step (fun _ => rfl) (Ev_pos (by omega) (Ev_pos (by omega) (Ev_pos (by omega) (Ev_pos (by rw [rd_nat]; exact c) (Ev_some rfl))))), ⟨fun _ => ⟨i, Nat.le_refl _, by omega, c.symm⟩, fun _ => by omega⟩⟩
      · obtain ⟨q, h1, h2⟩ := ih (i + 1) (by omega) (by omega)
        refine ⟨q, Ev.step (fun _ => rfl) (Ev_pos (by omega) (Ev_pos (by omega) (Ev_pos (by omega) (Ev_neg (by rw [rd_nat]; exact c) ?_)))), ?_⟩
        · rw [wrap_succ (by omega)]; exact h1
        · rw [h2]
          refine ⟨fun ⟨j, h3, h4⟩ => ⟨j, by omega, h4⟩, fun ⟨j, h3, h4, h5⟩ => ⟨j, ?_, h4, h5⟩⟩
          by_cases e : j = i
          · rw [e] at h5; exact absurd h5.symm c
          · omega
  obtain ⟨q, h1, h2⟩ := main _ 0 rfl (by omega)
  refine Ev.bind h1 (Ev_some (dec_eq ?_))
  rw [ge_iff_le, h2, List.mem_iff_getElem]
  exact ⟨fun ⟨j, _, h4, h5⟩ => ⟨j, h4, by rwa [getD_lt _ _ _ h4] at h5⟩, fun ⟨j, h4, h5⟩ => ⟨j, by omega, h4, by rwa [getD_lt _ _ _ h4]⟩⟩
theorem sumOf_ev (m : List (List Int)) (hd : m.length ≤ 12) (h : Cells m) : Ev (fun k => impl_Matrix_sum.f k m) (allZ m) := by
  unfold impl_Matrix_sum.f
  refine Ev.bind (sums_ev m hd h) ?_
  have hl : (rowsL m).length = m.length := by simp [rowsL]
  have main : ∀ (d i : Nat), m.length - i = d → i ≤ m.length → Ev (fun k => impl_Matrix_sum.l0 k (sumZ i (fun i => rowZ m i)) (rowsL m) ((rowsL m).length : Int) (i : Int)) (allZ m) := by
    rw [hl]
    intro d
    induction d with
    | zero =>
      intro i hd hi
      obtain rfl : i = m.length := by omega
      exact Ev.step (fun _ => rfl) (Ev_neg (by omega) (Ev_some rfl))
    | succ d ih =>
      intro i hd' hi
      refine Ev.step (fun _ => rfl) (Ev_pos (by omega) (Ev_pos (by omega) (Ev_pos (by omega) ?_)))
      have h1 := sumZ_bound (n := i) (f := fun i => rowZ m i) (B := 144) (by decide) (fun j hj => by have := h.row (show j < m.length by omega); omega)
      have h2 := h.row (show i < m.length by omega)
      rw [rd_nat, show (rowsL m).getD i 0 = rowZ m i from mapR_getD _ _ (by omega), wrap_succ (by omega), wrap_small (by omega) (by omega)]
      exact ih (i + 1) (by omega) (by omega)
  exact main _ 0 rfl (by omega)
theorem mem_rowsL {m : List (List Int)} : (0 : Int) ∈ rowsL m ↔ ¬ ∀ i, i < m.length → rowZ m i ≠ 0 := by
  unfold rowsL
  rw [List.mem_map]
  refine ⟨fun ⟨i, h1, h2⟩ h => h i (by simpa using h1) h2, fun h => ?_⟩
  refine Classical.byContradiction (fun hn => h (fun i hi h0 => hn ⟨i, by simpa using hi, h0⟩))
theorem mem_colsL {m : List (List Int)} : (0 : Int) ∈ colsL m ↔ ¬ ∀ i, i < m.length → colZ m i ≠ 0 := by
  unfold colsL
  rw [List.mem_map]
  refine ⟨fun ⟨i, h1, h2⟩ h => h i (by simpa using h1) h2, fun h => ?_⟩
  refine Classical.byContradiction (fun hn => h (fun i hi h0 => hn ⟨i, by simpa using hi, h0⟩))
theorem containsFunc_eq (m : List (List Int)) (i : Nat) (hi : i < m.length) (hl : (m.getD i []).length = m.length) : slices_ContainsFunc_int_int.f ((m.getD i []).take i) = some (decide (¬ ∀ j, j < m.length → j < i → en m i j = 0)) := by
  unfold slices_ContainsFunc_int_int.f
  congr 1
  rw [Bool.eq_iff_iff, List.any_eq_true, decide_eq_true_iff]
  refine ⟨fun ⟨x, h1, h2⟩ h => ?_, fun h => ?_⟩
  · obtain ⟨j, hj, rfl⟩ := List.getElem_of_mem h1
    rw [List.length_take] at hj
    have := h j (by omega) (by omega)
    rw [List.getElem_take] at h2
    rw [en, getD_lt _ _ _ (by omega)] at this
    rw [this] at h2
    exact absurd h2 (by decide)
  · refine Classical.byContradiction (fun hn => h (fun j hj hji => Classical.byContradiction (fun h0 => hn ⟨en m i j, ?_, by simpa using h0⟩)))
    have e : en m i j = (m.getD i [])[j]'(by omega) := getD_lt _ _ _ (by omega)
    rw [e, List.mem_iff_getElem]
    exact ⟨j, by rw [List.length_take]; omega, by rw [List.getElem_take]⟩
def rowOk' (m : List (List Int)) (i : Nat) : Prop := (m.getD i []).length = m.length ∧ (∀ j, j < m.length → 0 ≤ en m i j ∧ en m i j ≤ 12) ∧ ∀ j, j < m.length → j < i → en m i j = 0
instance (m : List (List Int)) (i : Nat) : Decidable (rowOk' m i) := inferInstanceAs (Decidable (_ ∧ _ ∧ ∀ j, j < m.length → _))
theorem implIsMatrix_ev (m : List (List Int)) (hs : Small m) : Ev (fun k => impl_IsMatrix.f k m) (decide (isMat m)) := by
  unfold impl_IsMatrix.f impl_Matrix_size.f
  refine Ev_val rfl ?_
  by_cases hd : m.length ≤ 12
  · refine Ev_neg (by omega) ?_
    refine Ev_eq (Ev_all (fun k i => impl_IsMatrix.l0 k m (m.length : Int) (i : Int) m) m.length (fun i => decide (rowOk' m i)) (decide ((∀ i, i < m.length → rowZ m i ≠ 0) ∧ (∀ j, j < m.length → colZ m j ≠ 0) ∧ allZ m ≤ 12)) ?_ ?_ ?_) ?_
    · intro i hi _ hP q hq
      obtain ⟨h1, h2, h3⟩ := of_decide_eq_true hP
      refine Ev.step (fun _ => rfl) (Ev_pos (by omega) (Ev_pos (by omega) (Ev_pos (by omega) (Ev_val rfl ?_))))
      rw [rdL_nat, Int.toNat_natCast, containsFunc_eq m i hi h1, wrap_succ (by omega)]
      refine Ev_pos (by omega) (Ev.bind (allWithin_ev _ 0 12 (by omega)) (Ev_pos (decide_eq_true (fun j hj => h2 j (by omega))) (Ev_pos (by omega) (Ev_val rfl (Ev_neg ?_ hq)))))
      rw [decide_eq_true_iff]; exact fun hn => hn h3
    · intro i hi _ hP
      have hP := of_decide_eq_false hP
      refine Ev.step (fun _ => rfl) (Ev_pos (by omega) (Ev_pos (by omega) (Ev_pos (by omega) (Ev_val rfl ?_))))
      have hsm := hs.2 _ (getD_mem (z := []) (show i < m.length by omega))
      rw [rdL_nat]
      by_cases c1 : (m.getD i []).length = m.length
      · refine Ev_pos (by omega) (Ev.bind (allWithin_ev _ 0 12 (by omega)) ?_)
        by_cases c2 : ∀ j, j < (m.getD i []).length → 0 ≤ (m.getD i []).getD j 0 ∧ (m.getD i []).getD j 0 ≤ 12
        · refine Ev_pos (decide_eq_true c2) (Ev_pos (by omega) ?_)
          rw [Int.toNat_natCast, containsFunc_eq m i hi c1]
          exact Ev_val rfl (Ev_pos (decide_eq_true (fun h3 => hP ⟨c1, fun j hj => c2 j (by omega), h3⟩)) (Ev_some rfl))
        · exact Ev_neg (by simpa using c2) (Ev_some rfl)
      · exact Ev_neg (by omega) (Ev_some rfl)
    · intro h
      have hC : Cells m := fun i hi => by
        obtain ⟨h1, h2, h3⟩ := of_decide_eq_true (h i hi)
        exact ⟨h1, fun j hj => ⟨(h2 j hj).1, (h2 j hj).2, h3 j hj⟩⟩
      refine Ev.step (fun _ => rfl) (Ev_neg (by omega) (Ev.bind (sums_ev m hd hC) (Ev.bind (Index_ev _ 0 (by simp [rowsL]; omega)) ?_)))
      by_cases c1 : ∀ i, i < m.length → rowZ m i ≠ 0
      · refine Ev_neg (by rw [decide_eq_true_iff, mem_rowsL]; exact fun hn => hn c1) (Ev.bind (Index_ev _ 0 (by simp [colsL]; omega)) ?_)
        by_cases c2 : ∀ i, i < m.length → colZ m i ≠ 0
        · exact Ev_neg (by rw [decide_eq_true_iff, mem_colsL]; exact fun hn => hn c2) (Ev.bind (sumOf_ev m hd hC) (Ev_some (dec_eq ⟨fun h => ⟨c1, c2, h⟩, fun h => h.2.2⟩)))
        · refine Ev_pos (by rw [decide_eq_true_iff, mem_colsL]; exact c2) (Ev_some ?_)
          symm; rw [decide_eq_false_iff_not]; exact fun h => c2 h.2.1
      · refine Ev_pos (by rw [decide_eq_true_iff, mem_rowsL]; exact c1) (Ev_some ?_)
        symm; rw [decide_eq_false_iff_not]; exact fun h => c1 h.1
    · rw [← Bool.decide_and]
      refine dec_eq ⟨fun ⟨h, h1, h2, h3⟩ => ⟨hd, fun i hi => ?_, h1, h2, h3⟩, fun ⟨_, h, h1, h2, h3⟩ => ⟨fun i hi => decide_eq_true ⟨(h i hi).1, fun j hj => ⟨h.nn hi hj, h.le hi hj⟩, fun j hj hji => ((h i hi).2 j hj).2.2 hji⟩, h1, h2, h3⟩⟩
      obtain ⟨h4, h5, h6⟩ := of_decide_eq_true (h i hi)
      exact ⟨h4, fun j hj => ⟨(h5 j hj).1, (h5 j hj).2, h6 j hj⟩⟩
  · refine Ev_pos (by omega) (Ev_some ?_)
    symm; rw [decide_eq_false_iff_not]; exact fun h => hd h.1
def marks (a : Int) (n : Nat) : List Int := (List.range n).map fun (j : Nat) => a + (j : Int)
theorem marks_length (a : Int) (n : Nat) : (marks a n).length = n := by simp [marks]
theorem marks_getD (a : Int) (n j : Nat) (h : j < n) : (marks a n).getD j 0 = a + (j : Int) := by
  rw [getD_lt _ _ _ (by rw [marks_length]; exact h)]; simp [marks]
theorem markIntS_l0 (a : Int) (n : Nat) (ha : 0 ≤ a) (han : a + n ≤ 4611686018427387000) : ∀ (d i : Nat) (xs : List Int), n - i = d → i ≤ n → xs.length = n → (∀ j, j < i → xs.getD j 0 = a + (j : Int)) →
    Ev (fun k => laws_markIntS.l0 k xs (a + (i : Int)) (i : Int)) (a + (n : Int), marks a n) := by
  intro d
  induction d with
  | zero =>
    intro i xs hd hi hx h
    obtain rfl : i = n := by omega
    refine Ev.step (fun k => by rw [laws_markIntS.l0]) ?_
    refine Ev_neg (by omega) (Ev_some ?_)
    rw [ext_getD (xs := xs) (ys := marks a i) (by rw [marks_length]; exact hx) (fun j hj => by rw [h j (by omega), marks_getD _ _ _ (by omega)])]
  | succ d ih =>
    intro i xs hd hi hx h
    refine Ev.step (fun k => by rw [laws_markIntS.l0]) ?_
    refine Ev_pos (by omega) (Ev_pos (by omega) ?_)
    rw [wrap_succ (by omega), wrap_small (x := a + (i : Int) + 1) (by omega) (by omega), show a + (i : Int) + 1 = a + ((i + 1 : Nat) : Int) from by omega]
    refine ih (i + 1) _ (by omega) (by omega) (by rw [List.length_set]; exact hx) ?_
    intro j hj
    rw [Int.toNat_natCast]
    by_cases e : j = i
    · subst e; rw [getD_lt _ _ _ (by rw [List.length_set]; omega)]; simp
    · rw [← h j (by omega)]; simp only [List.getD_eq_getElem?_getD]; rw [List.getElem?_set_ne (by omega)]
theorem markIntS_ev (xs : List Int) (a : Int) (ha : 0 ≤ a) (han : a + xs.length ≤ 4611686018427387000) : Ev (fun k => laws_markIntS.f k xs a) (a + (xs.length : Int), marks a xs.length) := by
  unfold laws_markIntS.f
  have := markIntS_l0 a xs.length ha han _ 0 xs rfl (by omega) rfl (fun j hj => by omega)
  simpa using this
theorem heldIntS_l0 (a : Int) (n : Nat) (ha : 0 ≤ a) (han : a + n ≤ 4611686018427387000) : ∀ (d i : Nat), n - i = d → i ≤ n → Ev (fun k => laws_heldIntS.l0 k (marks a n) (a + (i : Int)) (i : Int)) (a + (n : Int)) := by
  intro d
  induction d with
  | zero =>
    intro i hd hi
    obtain rfl : i = n := by omega
    refine Ev.step (fun k => by rw [laws_heldIntS.l0]) ?_
    exact Ev_neg (by rw [marks_length]; omega) (Ev_some rfl)
  | succ d ih =>
    intro i hd hi
    refine Ev.step (fun k => by rw [laws_heldIntS.l0]) ?_
    refine Ev_pos (by rw [marks_length]; omega) (Ev_pos (by omega) (Ev_pos (by rw [rd_nat, marks_getD _ _ _ (by omega)]) ?_))
    rw [wrap_succ (by omega), wrap_small (x := a + (i : Int) + 1) (by omega) (by omega), show a + (i : Int) + 1 = a + ((i + 1 : Nat) : Int) from by omega]
    exact ih (i + 1) (by omega) (by omega)
theorem heldIntS_ev (a : Int) (n : Nat) (ha : 0 ≤ a) (han : a + n ≤ 4611686018427387000) : Ev (fun k => laws_heldIntS.f k (marks a n) a) (a + (n : Int)) := by
  unfold laws_heldIntS.f
  have := heldIntS_l0 a n ha han _ 0 rfl (by omega)
  simpa using this
def tot : List (List Int) → Nat
  | [] => 0
  | r :: rs => r.length + tot rs
def marksSS (a : Int) : List (List Int) → List (List Int)
  | [] => []
  | r :: rs => marks a r.length :: marksSS (a + r.length) rs
theorem rdL_mid (pre : List (List Int)) (r : List Int) (rs : List (List Int)) : rd_L1 (pre ++ r :: rs) (pre.length : Int) = r := by
  rw [rdL_nat, getD_lt _ _ _ (by simp)]; simp
theorem markIntSS_l0 : ∀ (rest pre : List (List Int)) (a : Int), 0 ≤ a → a + tot rest ≤ 4611686018427387000 → (pre.length : Int) + rest.length ≤ 4611686018427387000 → Ev (fun k => laws_markIntSS.l0 k (pre ++ rest) a (pre.length : Int)) (a + tot rest, pre ++ marksSS a rest) := by
  intro rest
  induction rest with
  | nil =>
    intro pre a _ _ _
    refine Ev.step (fun k => by rw [laws_markIntSS.l0]) ?_
    exact Ev_neg (by simp) (Ev_some (by simp [tot, marksSS]))
  | cons r rs ih =>
    intro pre a ha hb hl
    simp only [tot, List.length_cons] at hb hl
    refine Ev.step (fun k => by rw [laws_markIntSS.l0]) ?_
    refine Ev_pos (by simp only [List.length_append, List.length_cons]; omega) (Ev_pos (by omega) ?_)
    rw [rdL_mid, wrap_succ (by omega), Int.toNat_natCast]
    refine Ev.bind (markIntS_ev r a ha (by omega)) ?_
    have := ih (pre ++ [marks a r.length]) (a + r.length) (by omega) (by omega) (by simp only [List.length_append, List.length_cons, List.length_nil]; omega)
    simp only [List.length_append, List.length_cons, List.length_nil, List.append_assoc, List.cons_append, List.nil_append] at this
    simp only [tot, marksSS, List.set_append, Nat.sub_self, List.set_cons_zero, Nat.lt_irrefl, if_false]
    refine Ev_eq this ?_
    rw [show a + (r.length : Int) + (tot rs : Int) = a + ((r.length + tot rs : Nat) : Int) from by omega]
theorem markMatrix_ev (m : List (List Int)) (hb : tot m ≤ 4611686018427380000) (hl : m.length ≤ 4611686018427380000) : Ev (fun k => laws_markMatrix.f k m 1) (1 + (tot m : Int), marksSS 1 m) := by
  have := markIntSS_l0 m [] 1 (by omega) (by omega) (by simp; omega)
  simpa [laws_markMatrix.f, laws_markIntSS.f] using this
theorem tot_le {m : List (List Int)} {c : Nat} (h : ∀ r ∈ m, r.length ≤ c) : tot m ≤ m.length * c := by
  induction m with
  | nil => simp [tot]
  | cons r rs ih =>
    have h1 := h r (by simp)
    have h2 := ih (fun r hr => h r (by simp [hr]))
    simp only [tot, List.length_cons, Nat.succ_mul]; omega
/-- From row i on, n rows: the first one whose number in the last column is not 0. -/
def seekTop (m : List (List Int)) : Nat → Nat → Int
  | 0, _ => -1
  | n + 1, i => if en m i (m.length - 1) ≠ 0 then (i : Int) else seekTop m n (i + 1)
def topI (m : List (List Int)) : Int := seekTop m m.length 0
theorem maTop_ev (m : List (List Int)) (hd : m.length ≤ 12) (h : Cells m) : Ev (fun k => spec_maTop.f k m) (topI m) := by
  unfold spec_maTop.f topI
  have main : ∀ (n i : Nat), m.length - i = n → i ≤ m.length → Ev (fun k => spec_maTop.l0 k m (m.length : Int) (i : Int)) (seekTop m n i) := by
    intro n
    induction n with
    | zero =>
      intro i hn hi
      exact Ev.step (fun _ => rfl) (Ev_neg (by omega) (Ev_some rfl))
    | succ n ih =>
      intro i hn hi
      have hl := (h i (by omega)).1
      have h0 := h.nn (show i < m.length by omega) (show m.length - 1 < m.length by omega)
      refine Ev.step (fun k => by rw [spec_maTop.l0]) (Ev_pos (by omega) (Ev_pos (by omega) (Ev_pos (by omega) ?_)))
      rw [rdL_nat, hl, show (m.length : Int) - 1 = ((m.length - 1 : Nat) : Int) from by omega, wrap_small (by omega) (by omega), rd_nat, wrap_succ (by omega)]
      refine Ev_pos (by omega) (Ev_pos (by omega) ?_)
      rw [seekTop]
      by_cases c : en m i (m.length - 1) ≠ 0
      · rw [if_pos c]; exact Ev_pos (by simp only [en] at c h0; omega) (Ev_some rfl)
      · rw [if_neg c]; exact Ev_neg (by simp only [en] at c h0; omega) (ih (i + 1) (by omega) (by omega))
  exact main _ 0 rfl (by omega)
theorem top_eq (m : List (List Int)) (hd : m.length ≤ 12) (h : Cells m) : impl_Matrix_top.f m = some (topI m) := by
  unfold impl_Matrix_top.f slices_IndexFunc_int_int_91.f topI
  have main : ∀ (n i : Nat), m.length - i = n → i ≤ m.length → slices_IndexFunc_int_int_91.seek (m.drop i) (i : Int) = some (seekTop m n i) := by
    intro n
    induction n with
    | zero =>
      intro i hn hi
      rw [List.drop_eq_nil_of_le (by omega)]; rfl
    | succ n ih =>
      intro i hn hi
      have hl := (h i (by omega)).1
      have e := getD_lt m i [] (by omega)
      rw [List.drop_eq_getElem_cons (by omega), slices_IndexFunc_int_int_91.seek, ← e]
      unfold impl_Matrix_top_1.f
      rw [hl, show (m.length : Int) - 1 = ((m.length - 1 : Nat) : Int) from by omega, wrap_small (by omega) (by omega), rd_nat, if_pos (by omega), if_pos (by omega), Option.bind_some, seekTop]
      by_cases c : en m i (m.length - 1) ≠ 0
      · rw [if_pos c, if_pos (by simpa [en] using c)]
      · rw [if_neg c, if_neg (by simpa [en] using c)]
        exact ih (i + 1) (by omega) (by omega)
  have := main _ 0 rfl (by omega)
  rw [List.drop_zero] at this
  rw [show ((0 : Nat) : Int) = 0 from rfl] at this
  rw [this]; rfl
theorem own_ev (m : List (List Int)) (hs : Small m) : Ev (fun k => impl_Matrix_own.f k m) m := by
  unfold impl_Matrix_own.f
  have hl := hs.1
  have main : ∀ (d i : Nat), m.length - i = d → i ≤ m.length → Ev (fun k => impl_Matrix_own.l0 k m (m.length : Int) (i : Int) (m.take i)) m := by
    intro d
    induction d with
    | zero =>
      intro i hd hi
      obtain rfl : i = m.length := by omega
      exact Ev.step (fun _ => rfl) (Ev_neg (by omega) (Ev_some (by simp)))
    | succ d ih =>
      intro i hd hi
      have hi' : i < m.length := by omega
      refine Ev.step (fun _ => rfl) (Ev_pos (by omega) (Ev_pos (by omega) (Ev_pos (by omega) ?_)))
      rw [rdL_nat, wrap_succ (by omega)]
      have hr := hs.2 _ (getD_mem (z := []) hi')
      refine Ev_val (show slices_Clone_int_int.f (m.getD i []) = some (m.getD i []) from if_pos (by omega)) (Ev_pos (by rw [List.length_take]; omega) ?_)
      have := ih (i + 1) (by omega) (by omega)
      rw [List.take_succ_eq_append_getElem hi', ← getD_lt m i [] hi'] at this
      exact this
  have := main _ 0 rfl (by omega)
  simpa using this
theorem seekTop_lt (m : List (List Int)) : ∀ (n i : Nat), seekTop m n i < ((i + n : Nat) : Int) ∧ -1 ≤ seekTop m n i
  | 0, i => by rw [seekTop]; omega
  | n + 1, i => by
    rw [seekTop]
    have := seekTop_lt m n (i + 1)
    by_cases c : en m i (m.length - 1) ≠ 0
    · rw [if_pos c]; omega
    · rw [if_neg c]; omega
theorem topI_lt (m : List (List Int)) : topI m < (m.length : Int) ∧ -1 ≤ topI m := by have := seekTop_lt m m.length 0; rw [topI]; omega
theorem seekTop_none (m : List (List Int)) : ∀ (n i : Nat), seekTop m n i < 0 → ∀ j, i ≤ j → j < i + n → en m j (m.length - 1) = 0
  | 0, i, _, j, h1, h2 => by omega
  | n + 1, i, h, j, h1, h2 => by
    rw [seekTop] at h
    by_cases c : en m i (m.length - 1) ≠ 0
    · rw [if_pos c] at h; omega
    · rw [if_neg c] at h
      by_cases e : j = i
      · rw [e]; simpa using c
      · exact seekTop_none m n (i + 1) h j (by omega) (by omega)
theorem seekTop_pre (m : List (List Int)) : ∀ (n i j : Nat), i ≤ j → (j : Int) < seekTop m n i → en m j (m.length - 1) = 0
  | 0, i, j, h1, h2 => by rw [seekTop] at h2; omega
  | n + 1, i, j, h1, h2 => by
    rw [seekTop] at h2
    by_cases c : en m i (m.length - 1) ≠ 0
    · rw [if_pos c] at h2; omega
    · rw [if_neg c] at h2
      by_cases e : j = i
      · rw [e]; simpa using c
      · exact seekTop_pre m n (i + 1) j (by omega) h2
theorem seekTop_hit (m : List (List Int)) : ∀ (n i x : Nat), seekTop m n i = (x : Int) → en m x (m.length - 1) ≠ 0
  | 0, i, x, h => by rw [seekTop] at h; omega
  | n + 1, i, x, h => by
    rw [seekTop] at h
    by_cases c : en m i (m.length - 1) ≠ 0
    · rw [if_pos c] at h; rw [show x = i from by omega]; exact c
    · rw [if_neg c] at h; exact seekTop_hit m n (i + 1) x h
/-- What stays true while a matrix is shrunk. -/
def Shk (m : List (List Int)) : Prop := m.length ≤ 12 ∧ Cells m ∧ (∀ i, i < m.length → ∃ j, j < m.length ∧ en m i j ≠ 0) ∧ (∀ j, j < m.length → ∃ i, i < m.length ∧ en m i j ≠ 0)
theorem some_of_sum {n : Nat} {f : Nat → Int} (h : ∀ i, i < n → 0 ≤ f i) (hs : sumZ n f ≠ 0) : ∃ j, j < n ∧ f j ≠ 0 := by
  by_cases c : ∃ j, j < n ∧ f j ≠ 0
  · exact c
  · refine absurd ((sumZ_zero h).2 (fun i hi => ?_)) hs
    by_cases e : f i = 0
    · exact e
    · exact absurd ⟨i, hi, e⟩ c
theorem isMat.shk {m : List (List Int)} (g : isMat m) : Shk m := ⟨g.1, g.2.1, fun i hi => some_of_sum (fun j hj => g.2.1.nn hi hj) (g.2.2.1 i hi), fun j hj => some_of_sum (fun i hi => g.2.1.nn hi hj) (g.2.2.2.1 j hj)⟩
theorem topI_nn (m : List (List Int)) (g : Shk m) (hp : 0 < m.length) : 0 ≤ topI m := by
  have ht := topI_lt m
  by_cases c : topI m < 0
  · have hz := seekTop_none m m.length 0 c
    obtain ⟨i, hi, hc⟩ := g.2.2.2 (m.length - 1) (by omega)
    exact absurd (hz i (by omega) (by omega)) hc
  · omega
theorem erase_cut {β : Type} : ∀ (l : List β) (x : Nat), x < l.length → l.eraseIdx x = l.take x ++ l.drop (x + 1)
  | [], _, h => by simp at h
  | _ :: _, 0, _ => by simp
  | a :: l, x + 1, h => by rw [List.eraseIdx_cons_succ, erase_cut l x (by simp at h; omega)]; simp
theorem mapErase {β γ : Type} (g : β → γ) : ∀ (l : List β) (j : Nat), (l.eraseIdx j).map g = (l.map g).eraseIdx j
  | [], _ => rfl
  | _ :: _, 0 => rfl
  | a :: l, j + 1 => by simp only [List.eraseIdx_cons_succ, List.map_cons]; rw [mapErase g l j]
def sRow (m : List (List Int)) (x i : Nat) : List Int := if i < x ∧ x < m.length - 1 then impl_Matrix_shrunk.cp x (m.length - 1) (m.getD i []) else m.getD i []
def sBase (m : List (List Int)) (x : Nat) : List (List Int) := (List.range m.length).map fun (i : Nat) => (sRow m x i).eraseIdx x
theorem get?_lt2 {α : Type} (xs : List α) (i : Nat) (z : α) (h : i < xs.length) : xs[i]? = some (xs.getD i z) := by rw [getD_lt xs i z h, List.getElem?_eq_getElem h]
theorem less_eq (m : List (List Int)) (x : Nat) (hx : x < m.length) : impl_Matrix_shrunk.less m x = (sBase m x).eraseIdx x := by
  rw [impl_Matrix_shrunk.less, impl_Matrix_shrunk.cut2, mapErase]
  congr 1
  apply List.ext_getElem?
  intro j
  rw [sBase, List.getElem?_map, List.getElem?_map]
  by_cases hj : j < m.length
  · rw [List.getElem?_eq_getElem (l := List.range m.length) (by simpa using hj), List.getElem_range, Option.map_some]
    by_cases c : x < m.length - 1
    · rw [if_pos c, impl_Matrix_shrunk.cut1]
      by_cases c1 : j < x
      · rw [List.getElem?_append_left (by rw [List.length_map, List.length_take]; omega), List.getElem?_map, List.getElem?_take, if_pos c1, get?_lt2 m j [] hj, sRow, if_pos ⟨c1, c⟩]; rfl
      · rw [List.getElem?_append_right (by rw [List.length_map, List.length_take]; omega), List.getElem?_drop, List.length_map, List.length_take, show x + (j - min x m.length) = j from by omega, get?_lt2 m j [] hj, sRow, if_neg (fun h => c1 h.1)]; rfl
    · rw [if_neg c, get?_lt2 m j [] hj, sRow, if_neg (fun h => c h.2)]; rfl
  · rw [List.getElem?_eq_none (l := List.range m.length) (by simp; omega), List.getElem?_eq_none (by
      split
      · rw [impl_Matrix_shrunk.cut1, List.length_append, List.length_map, List.length_take, List.length_drop]; omega
      · omega)]; rfl
def shrinkM (m : List (List Int)) : List (List Int) × Int := if 1 < rowZ m (topI m).toNat then (impl_Matrix_shrunk.dec m (topI m).toNat, topI m) else (impl_Matrix_shrunk.less m (topI m).toNat, topI m)
theorem shrunk_ev (m : List (List Int)) (g : Shk m) (hs : Small m) (hp : 0 < m.length) : Ev (fun k => impl_Matrix_shrunk.f k m) (shrinkM m) := by
  have hd := g.1
  have h := g.2.1
  have ht := topI_lt m
  have hn := topI_nn m g hp
  unfold impl_Matrix_shrunk.f
  refine Ev.bind (own_ev m hs) (Ev.bind (sums_ev m hd h) (Ev_val (top_eq m hd h) ?_))
  refine Ev_pos ⟨rfl, by omega, fun r hr => ?_, hn, ht.1, by simp [rowsL]⟩ ⟨0, fun _ _ => ?_⟩
  · obtain ⟨i, hi, rfl⟩ := List.getElem_of_mem hr
    rw [← getD_lt m i [] hi]; exact (h i hi).1
  · unfold impl_Matrix_shrunk.go shrinkM
    rw [rowsL, mapR_getD _ _ (by omega)]
theorem maOwn_ev (m : List (List Int)) (hs : Small m) : Ev (fun k => spec_maOwn.f k m) m := by
  unfold spec_maOwn.f
  have hl := hs.1
  have main : ∀ (d i : Nat), m.length - i = d → i ≤ m.length → Ev (fun k => spec_maOwn.l0 k m (m.length : Int) (i : Int) (m.take i)) m := by
    intro d
    induction d with
    | zero =>
      intro i hd hi
      obtain rfl : i = m.length := by omega
      exact Ev.step (fun _ => rfl) (Ev_neg (by omega) (Ev_some (by simp)))
    | succ d ih =>
      intro i hd hi
      have hi' : i < m.length := by omega
      refine Ev.step (fun _ => rfl) (Ev_pos (by omega) (Ev_pos (by omega) (Ev_pos (by omega) ?_)))
      rw [rdL_nat, wrap_succ (by omega)]
      have hr := hs.2 _ (getD_mem (z := []) hi')
      refine Ev_val (show spec_l1Own.f (m.getD i []) = some (m.getD i []) from by unfold spec_l1Own.f; rw [Option.bind_some, List.nil_append]; exact if_pos (by simp only [List.length_nil]; omega)) (Ev_pos (by rw [List.length_take]; omega) ?_)
      have := ih (i + 1) (by omega) (by omega)
      rw [List.take_succ_eq_append_getElem hi', ← getD_lt m i [] hi'] at this
      exact this
  have := main _ 0 rfl (by omega)
  simpa using this
theorem l1Own_eq (r : List Int) (hl : r.length ≤ 1048576) : spec_l1Own.f r = some r := by
  unfold spec_l1Own.f; rw [Option.bind_some, List.nil_append]; exact if_pos (by simp only [List.length_nil]; omega)
theorem maNarrow_eq (r : List Int) (x : Nat) (hx : x < r.length) (hl : r.length ≤ 1048576) : spec_maNarrow.f r (x : Int) = some (r.eraseIdx x) := by
  unfold spec_maNarrow.f
  rw [if_pos (by omega), if_pos (by omega), Int.toNat_natCast, l1Own_eq _ (by rw [List.length_take]; omega), Option.bind_some, wrap_succ (by omega), if_pos (by omega), if_pos (by omega), Int.toNat_natCast,
    if_pos (by rw [List.length_take, List.length_drop]; omega), erase_cut r x hx]
theorem sBase_step (m : List (List Int)) (x i : Nat) (hi : i < m.length) : ((sBase m x).take (i + 1)).eraseIdx x = if i = x then ((sBase m x).take i).eraseIdx x else ((sBase m x).take i).eraseIdx x ++ [(sRow m x i).eraseIdx x] := by
  have hl : (sBase m x).length = m.length := by simp [sBase]
  have hg : (sBase m x)[i]'(by omega) = (sRow m x i).eraseIdx x := by simp [sBase]
  rw [List.take_succ_eq_append_getElem (by omega), hg]
  have hk : ((sBase m x).take i).length = i := by rw [List.length_take]; omega
  by_cases c : i = x
  · rw [if_pos c, List.eraseIdx_append_of_length_le (by omega), hk, c, Nat.sub_self, List.eraseIdx_cons_zero, List.append_nil, List.eraseIdx_of_length_le (by rw [List.length_take]; omega)]
  · rw [if_neg c]
    by_cases c2 : i < x
    · have e1 : ((sBase m x).take i ++ [(sRow m x i).eraseIdx x]).eraseIdx x = (sBase m x).take i ++ [(sRow m x i).eraseIdx x] := List.eraseIdx_of_length_le (by rw [List.length_append, hk]; simp; omega)
      have e2 : ((sBase m x).take i).eraseIdx x = (sBase m x).take i := List.eraseIdx_of_length_le (by omega)
      rw [e1, e2]
    · rw [List.eraseIdx_append_of_lt_length (by omega)]
theorem maShrink_ev (m : List (List Int)) (g : Shk m) (hs : Small m) (hp : 0 < m.length) : Ev (fun k => spec_maShrink.f k m) (shrinkM m) := by
  have hd := g.1
  have h := g.2.1
  have ht := topI_lt m
  have hn := topI_nn m g hp
  unfold spec_maShrink.f shrinkM
  refine Ev.bind (maTop_ev m hd h) ?_
  obtain ⟨x, hx⟩ : ∃ x : Nat, topI m = (x : Int) := ⟨(topI m).toNat, by omega⟩
  rw [hx, Int.toNat_natCast]
  have hxl : x < m.length := by omega
  have hl := (h x hxl).1
  refine Ev_pos (by omega) (Ev_pos (by omega) ?_)
  rw [rdL_nat]
  refine Ev.bind (h.rowT hd hxl) ?_
  by_cases c : 1 < rowZ m x
  · rw [if_pos c]
    refine Ev_pos c (Ev.bind (maOwn_ev m hs) (Ev_pos (by omega) ?_))
    rw [rdL_nat, hl, show (m.length : Int) - 1 = ((m.length - 1 : Nat) : Int) from by omega, wrap_small (by omega) (by omega)]
    refine Ev_pos (by omega) (Ev_pos (by omega) (Ev_some ?_))
    simp only [rd_nat, Int.toNat_natCast]; rfl
  · rw [if_neg c, less_eq m x hxl]
    refine Ev_neg c ?_
    have hbl : (sBase m x).length = m.length := by simp [sBase]
    have main : ∀ (d i : Nat), m.length - i = d → i ≤ m.length → Ev (fun k => spec_maShrink.l0 k (m.length : Int) (x : Int) m (m.length : Int) (i : Int) (((sBase m x).take i).eraseIdx x)) ((sBase m x).eraseIdx x, (x : Int)) := by
      intro d
      induction d with
      | zero =>
        intro i hd' hi
        obtain rfl : i = m.length := by omega
        exact Ev.step (fun _ => rfl) (Ev_neg (by omega) (Ev_some (by rw [← hbl, List.take_length])))
      | succ d ih =>
        intro i hd' hi
        have next := ih (i + 1) (by omega) (by omega)
        rw [sBase_step m x i (by omega)] at next
        have hli := (h i (by omega)).1
        have hcl : (((sBase m x).take i).eraseIdx x).length ≤ 12 := by rw [List.length_eraseIdx, List.length_take]; split <;> omega
        refine Ev.step (fun _ => rfl) (Ev_pos (by omega) (Ev_pos (by omega) (Ev_pos (by omega) ?_)))
        rw [wrap_succ (i := i) (by omega), rdL_nat]
        by_cases c1 : i = x
        · rw [if_pos c1] at next
          exact Ev_pos (by omega) next
        · rw [if_neg c1] at next
          refine Ev_neg (by omega) (Ev_val (l1Own_eq _ (by omega)) ?_)
          by_cases c2 : i < x
          · refine Ev_pos (by omega) ?_
            rw [show (m.length : Int) - 1 = ((m.length - 1 : Nat) : Int) from by omega, wrap_small (x := ((m.length - 1 : Nat) : Int)) (by omega) (by omega)]
            by_cases c3 : x < m.length - 1
            · rw [sRow, if_pos ⟨c2, c3⟩, impl_Matrix_shrunk.cp] at next
              refine Ev_pos (by omega) (Ev_pos (by omega) (Ev_pos (by omega) (Ev_pos (by omega) (Ev_pos (by omega) ?_))))
              rw [Int.toNat_natCast, rd_nat]
              exact Ev_val (maNarrow_eq _ x (by rw [List.length_set]; omega) (by rw [List.length_set]; omega)) (Ev_pos (by omega) next)
            · rw [sRow, if_neg (fun h => c3 h.2)] at next
              exact Ev_neg (by omega) (Ev_val (maNarrow_eq _ x (by omega) (by omega)) (Ev_pos (by omega) next))
          · rw [sRow, if_neg (fun h => c2 h.1)] at next
            exact Ev_neg (by omega) (Ev_val (maNarrow_eq _ x (by omega) (by omega)) (Ev_pos (by omega) next))
    have := main _ 0 rfl (by omega)
    rw [List.take_zero, List.eraseIdx_nil] at this
    exact this
theorem shrinkM_small (m : List (List Int)) (g : Shk m) (hs : Small m) (hp : 0 < m.length) : Small (shrinkM m).1 := by
  have ht := topI_lt m
  have hn := topI_nn m g hp
  obtain ⟨x, hx⟩ : ∃ x : Nat, topI m = (x : Int) := ⟨(topI m).toNat, by omega⟩
  unfold shrinkM
  rw [hx, Int.toNat_natCast]
  by_cases c : 1 < rowZ m x
  · rw [if_pos c]
    simp only [impl_Matrix_shrunk.dec]
    refine ⟨by rw [List.length_set]; exact hs.1, fun r hr => ?_⟩
    rcases List.mem_or_eq_of_mem_set hr with h1 | h1
    · exact hs.2 r h1
    · rw [h1, List.length_set]; exact hs.2 _ (getD_mem (z := []) (by omega))
  · rw [if_neg c]
    simp only []
    rw [less_eq m x (by omega)]
    refine ⟨by rw [List.length_eraseIdx]; have := hs.1; simp only [sBase, List.length_map, List.length_range]; split <;> omega, fun r hr => ?_⟩
    have h1 := List.mem_of_mem_eraseIdx hr
    obtain ⟨i, hi, rfl⟩ := List.mem_map.1 h1
    have hi' := List.mem_range.1 hi
    have hr1 := hs.2 _ (getD_mem (z := []) hi')
    have hle : ((sRow m x i).eraseIdx x).length ≤ (sRow m x i).length := by rw [List.length_eraseIdx]; split <;> omega
    refine Nat.le_trans hle ?_
    unfold sRow
    split
    · rw [impl_Matrix_shrunk.cp, List.length_set]; exact hr1
    · exact hr1
theorem sum_two {n : Nat} {f : Nat → Int} (h : ∀ i, i < n → 0 ≤ f i) {a b : Nat} (ha : a < n) (hb : b < n) (hne : a ≠ b) : f a + f b ≤ sumZ n f := by
  have h1 := sumZ_term (n := n) (f := fun i => if i = b then 0 else f i) (fun i hi => by show (0 : Int) ≤ if i = b then 0 else f i; split <;> first | exact Int.le_refl _ | exact h i hi) ha
  have h2 := sumZ_term (n := n) (f := fun i => if i = b then f i else 0) (fun i hi => by show (0 : Int) ≤ if i = b then f i else 0; split <;> first | exact Int.le_refl _ | exact h i hi) hb
  have h3 := sumZ_add n (fun i => if i = b then 0 else f i) (fun i => if i = b then f i else 0)
  have h4 : sumZ n (fun i => (if i = b then 0 else f i) + (if i = b then f i else 0)) = sumZ n f := sumZ_congr (fun i _ => by by_cases e : i = b <;> simp [e])
  simp only [if_neg hne, if_true] at h1 h2
  omega
theorem sum_le {n : Nat} {f g : Nat → Int} (h : ∀ i, i < n → f i ≤ g i) : sumZ n f ≤ sumZ n g := by
  induction n with
  | zero => exact Int.le_refl _
  | succ n ih => rw [sumZ, sumZ]; have := ih (fun i hi => h i (by omega)); have := h n (by omega); omega
theorem sum_lt {n : Nat} {f g : Nat → Int} (h : ∀ i, i < n → f i ≤ g i) {a : Nat} (ha : a < n) (hl : f a < g a) : sumZ n f < sumZ n g := by
  induction n with
  | zero => omega
  | succ n ih =>
    rw [sumZ, sumZ]
    by_cases e : a = n
    · subst e; have := sum_le (n := a) (fun i hi => h i (by omega)); omega
    · have := ih (fun i hi => h i (by omega)) (by omega); have := h n (by omega); omega
theorem getD_setG {α : Type} (l : List α) (x i : Nat) (v z : α) (hx : x < l.length) : (l.set x v).getD i z = if i = x then v else l.getD i z := by
  rw [List.getD_eq_getElem?_getD, List.getElem?_set]
  by_cases e : x = i
  · rw [if_pos e, if_pos hx, if_pos e.symm]; rfl
  · rw [if_neg e, if_neg (fun h => e h.symm), List.getD_eq_getElem?_getD]
theorem getD_era {α : Type} (l : List α) (x j : Nat) (z : α) : (l.eraseIdx x).getD j z = l.getD (if j < x then j else j + 1) z := by
  rw [List.getD_eq_getElem?_getD, List.getElem?_eraseIdx, List.getD_eq_getElem?_getD]
  by_cases e : j < x
  · rw [if_pos e, if_pos e]
  · rw [if_neg e, if_neg e]
theorem dec_len (m : List (List Int)) (x : Nat) : (impl_Matrix_shrunk.dec m x).length = m.length := by rw [impl_Matrix_shrunk.dec, List.length_set]
theorem dec_en (m : List (List Int)) (h : Cells m) (x : Nat) (hx : x < m.length) (i j : Nat) : en (impl_Matrix_shrunk.dec m x) i j = if i = x ∧ j = m.length - 1 then en m x (m.length - 1) - 1 else en m i j := by
  have hl := (h x hx).1
  have hb := (h x hx).2 (m.length - 1) (by omega)
  rw [en, impl_Matrix_shrunk.dec, getD_setG _ _ _ _ _ hx]
  by_cases e : i = x
  · rw [if_pos e, getD_setG _ _ _ _ _ (by omega)]
    by_cases e2 : j = m.length - 1
    · rw [if_pos e2, if_pos ⟨e, e2⟩, wrap_small (by simp only [en] at hb; omega) (by simp only [en] at hb; omega)]; rfl
    · rw [if_neg e2, if_neg (fun h => e2 h.2), e]; rfl
  · rw [if_neg e, if_neg (fun h => e h.1)]; rfl
theorem dec_shk (m : List (List Int)) (g : Shk m) (hp : 0 < m.length) (x : Nat) (hx : topI m = (x : Int)) (hr : 1 < rowZ m x) : Shk (impl_Matrix_shrunk.dec m x) ∧ allZ (impl_Matrix_shrunk.dec m x) < allZ m := by
  obtain ⟨g1, g2, g3, g4⟩ := g
  have ht := topI_lt m
  have hxl : x < m.length := by omega
  have hit := seekTop_hit m m.length 0 x hx
  have hlast : en m (m.length - 1) (m.length - 1) ≠ 0 := by
    obtain ⟨j, hj, hne⟩ := g3 (m.length - 1) (by omega)
    by_cases c : j < m.length - 1
    · exact absurd (((g2 (m.length - 1) (by omega)).2 j hj).2.2 c) hne
    · have e : j = m.length - 1 := by omega
      rw [e] at hne; exact hne
  have hb := (g2 x hxl).2 (m.length - 1) (by omega)
  have hE := dec_en m g2 x hxl
  have hlen := dec_len m x
  have hrows : ∀ i, i < m.length → ((impl_Matrix_shrunk.dec m x).getD i []).length = m.length := fun i hi => by
    rw [impl_Matrix_shrunk.dec, getD_setG _ _ _ _ _ hxl]
    by_cases e : i = x
    · rw [if_pos e, List.length_set]; exact (g2 x hxl).1
    · rw [if_neg e]; exact (g2 i hi).1
  refine ⟨⟨by rw [hlen]; exact g1, fun i hi => ?_, fun i hi => ?_, fun j hj => ?_⟩, ?_⟩
  · rw [hlen] at hi ⊢
    refine ⟨hrows i hi, fun j hj => ?_⟩
    rw [hE]
    by_cases e : i = x ∧ j = m.length - 1
    · rw [if_pos e]; exact ⟨by omega, by omega, fun h => by omega⟩
    · rw [if_neg e]; exact (g2 i hi).2 j hj
  · rw [hlen] at hi ⊢
    by_cases e : i = x
    · subst e
      by_cases c : ∃ j, j < m.length ∧ j ≠ m.length - 1 ∧ en m i j ≠ 0
      · obtain ⟨j, hj, hne, h0⟩ := c
        exact ⟨j, hj, by rw [hE, if_neg (fun h => hne h.2)]; exact h0⟩
      · refine ⟨m.length - 1, by omega, ?_⟩
        rw [hE, if_pos ⟨rfl, rfl⟩]
        intro h1
        have h2 : rowZ m i ≤ 1 := by
          have : rowZ m i = sumZ m.length (fun j => if j = m.length - 1 then 1 else 0) := sumZ_congr (fun j hj => by
            by_cases e2 : j = m.length - 1
            · rw [if_pos e2, e2]; omega
            · rw [if_neg e2]
              by_cases e3 : en m i j = 0
              · exact e3
              · exact absurd ⟨j, hj, e2, e3⟩ c)
          rw [this]
          have one : ∀ n q, sumZ n (fun j => if j = q then 1 else 0) ≤ 1 ∧ (n ≤ q → sumZ n (fun j => if j = q then (1 : Int) else 0) = 0) := fun n q => by
            induction n with
            | zero => exact ⟨by simp [sumZ], fun _ => rfl⟩
            | succ n ih =>
              rw [sumZ]
              by_cases e : n = q
              · subst e; have := ih.2 (Nat.le_refl _); simp only [if_true]; exact ⟨by omega, fun h => by omega⟩
              · simp only [if_neg e]; exact ⟨by have := ih.1; omega, fun h => by have := ih.2 (by omega); omega⟩
          exact (one m.length (m.length - 1)).1
        omega
    · obtain ⟨j, hj, h0⟩ := g3 i hi
      exact ⟨j, hj, by rw [hE, if_neg (fun h => e h.1)]; exact h0⟩
  · rw [hlen] at hj ⊢
    by_cases e : j = m.length - 1
    · refine ⟨m.length - 1, by omega, ?_⟩
      rw [hE]
      by_cases c : m.length - 1 = x
      · rw [if_pos ⟨c, e⟩]
        intro h1
        have h2 : rowZ m x = en m x (m.length - 1) := by
          have h3 : rowZ m x = sumZ m.length (fun j => if j = m.length - 1 then en m x (m.length - 1) else 0) := sumZ_congr (fun j hj => by
            by_cases e2 : j = m.length - 1
            · rw [if_pos e2, e2]
            · rw [if_neg e2]; exact ((g2 x hxl).2 j hj).2.2 (by omega))
          have one : ∀ n q, q < n → ∀ v : Int, sumZ n (fun j => if j = q then v else 0) = v := fun n q hq v => by
            induction n with
            | zero => omega
            | succ n ih =>
              rw [sumZ]
              by_cases e : n = q
              · subst e
                have : sumZ n (fun j => if j = n then v else 0) = sumZ n (fun _ => 0) := sumZ_congr (fun i hi => if_neg (by omega))
                have z : sumZ n (fun _ => (0 : Int)) = 0 := (sumZ_zero (fun _ _ => Int.le_refl _)).2 (fun _ _ => rfl)
                simp only [if_true]; omega
              · simp only [if_neg e]; have := ih (by omega); omega
          rw [h3, one _ _ (by omega)]
        omega
      · rw [if_neg (fun h => c h.1), e]; exact hlast
    · obtain ⟨i, hi, h0⟩ := g4 j hj
      exact ⟨i, hi, by rw [hE, if_neg (fun h => e h.2)]; exact h0⟩
  · have hle : ∀ i, i < m.length → ∀ j, j < m.length → en (impl_Matrix_shrunk.dec m x) i j ≤ en m i j := fun i hi j hj => by
      rw [hE]
      by_cases e : i = x ∧ j = m.length - 1
      · rw [if_pos e, e.1, e.2]; omega
      · rw [if_neg e]; exact Int.le_refl _
    rw [allZ, allZ, hlen]
    refine sum_lt (a := x) (fun i hi => ?_) hxl ?_
    · rw [rowZ, rowZ, hlen]; exact sum_le (fun j hj => hle i hi j hj)
    · rw [rowZ, rowZ, hlen]
      exact sum_lt (a := m.length - 1) (fun j hj => hle x hxl j hj) (by omega) (by rw [hE, if_pos ⟨rfl, rfl⟩]; omega)
def upx (x j : Nat) : Nat := if j < x then j else j + 1
def lessE (m : List (List Int)) (x i q : Nat) : Int := if i < x ∧ x < m.length - 1 ∧ q = m.length - 1 then en m i x else en m i q
theorem less_len (m : List (List Int)) (x : Nat) (hx : x < m.length) : (impl_Matrix_shrunk.less m x).length = m.length - 1 := by
  rw [less_eq m x hx, List.length_eraseIdx, if_pos (by simp [sBase]; exact hx)]; simp [sBase]
theorem sRow_len (m : List (List Int)) (h : Cells m) (x i : Nat) (hi : i < m.length) : (sRow m x i).length = m.length := by
  rw [sRow]; split
  · rw [impl_Matrix_shrunk.cp, List.length_set]; exact (h i hi).1
  · exact (h i hi).1
theorem less_row (m : List (List Int)) (x : Nat) (hx : x < m.length) (i : Nat) (hi : i < m.length - 1) : (impl_Matrix_shrunk.less m x).getD i [] = (sRow m x (upx x i)).eraseIdx x := by
  have hu : upx x i < m.length := by rw [upx]; split <;> omega
  rw [less_eq m x hx, getD_era, ← upx, sBase, getD_lt _ _ _ (by simpa using hu)]; simp
theorem less_en (m : List (List Int)) (h : Cells m) (x : Nat) (hx : x < m.length) (i : Nat) (hi : i < m.length - 1) (j : Nat) : en (impl_Matrix_shrunk.less m x) i j = lessE m x (upx x i) (upx x j) := by
  have hu : upx x i < m.length := by rw [upx]; split <;> omega
  have hl := (h _ hu).1
  rw [en, less_row m x hx i hi, getD_era, ← upx, lessE, sRow]
  by_cases c : upx x i < x ∧ x < m.length - 1
  · rw [if_pos c, impl_Matrix_shrunk.cp, getD_setG _ _ _ _ _ (by omega)]
    by_cases e : upx x j = m.length - 1
    · rw [if_pos e, if_pos ⟨c.1, c.2, e⟩]; rfl
    · rw [if_neg e, if_neg (fun h => e h.2.2)]; rfl
  · rw [if_neg c, if_neg (fun h => c ⟨h.1, h.2.1⟩)]; rfl
theorem less_shk (m : List (List Int)) (g : Shk m) (hp : 0 < m.length) (x : Nat) (hx : topI m = (x : Int)) (hr : ¬ 1 < rowZ m x) : Shk (impl_Matrix_shrunk.less m x) := by
  obtain ⟨g1, g2, g3, g4⟩ := g
  have ht := topI_lt m
  have hxl : x < m.length := by omega
  have hit := seekTop_hit m m.length 0 x hx
  have hpre : ∀ j, j < x → en m j (m.length - 1) = 0 := fun j hj => seekTop_pre m m.length 0 j (by omega) (by rw [topI] at hx; omega)
  have hlast : en m (m.length - 1) (m.length - 1) ≠ 0 := by
    obtain ⟨j, hj, hne⟩ := g3 (m.length - 1) (by omega)
    by_cases c : j < m.length - 1
    · exact absurd (((g2 (m.length - 1) (by omega)).2 j hj).2.2 c) hne
    · have e : j = m.length - 1 := by omega
      rw [e] at hne; exact hne
  have hb := (g2 x hxl).2 (m.length - 1) (by omega)
  have hrow : ∀ j, j < m.length → j ≠ m.length - 1 → en m x j = 0 := fun j hj hne => by
    have h1 := sum_two (n := m.length) (f := fun j => en m x j) (fun i hi => g2.nn hxl hi) hj (show m.length - 1 < m.length by omega) hne
    have h2 := g2.nn hxl hj
    rw [rowZ] at hr
    omega
  have hlen := less_len m x hxl
  have hE := less_en m g2 x hxl
  have hupl : ∀ j, j < m.length - 1 → upx x j < m.length := fun j hj => by rw [upx]; split <;> omega
  have hupn : ∀ j, upx x j ≠ x := fun j => by rw [upx]; split <;> omega
  have hdown : ∀ i, i < m.length → i ≠ x → ∃ i', i' < m.length - 1 ∧ upx x i' = i := fun i hi hne => by
    by_cases c : i < x
    · exact ⟨i, by omega, by rw [upx, if_pos c]⟩
    · exact ⟨i - 1, by omega, by rw [upx, if_neg (by omega)]; omega⟩
  refine ⟨by rw [hlen]; omega, fun i hi => ?_, fun i hi => ?_, fun j hj => ?_⟩
  · rw [hlen] at hi ⊢
    have hu := hupl i hi
    refine ⟨by rw [less_row m x hxl i hi, List.length_eraseIdx, sRow_len m g2 x _ hu, if_pos hxl], fun j hj => ?_⟩
    have huj := hupl j hj
    rw [hE i hi]
    by_cases c : upx x i < x ∧ x < m.length - 1 ∧ upx x j = m.length - 1
    · rw [lessE, if_pos c]
      have := (g2 _ hu).2 x hxl
      refine ⟨this.1, this.2.1, fun hji => ?_⟩
      have h1 := c.1; have h2 := c.2.2
      simp only [upx] at h1 h2
      split at h1 <;> split at h2 <;> omega
    · rw [lessE, if_neg c]
      have := (g2 _ hu).2 _ huj
      refine ⟨this.1, this.2.1, fun hji => this.2.2 ?_⟩
      simp only [upx]
      split <;> split <;> omega
  · rw [hlen] at hi ⊢
    have hu := hupl i hi
    obtain ⟨j0, hj0, h0⟩ := g3 _ hu
    have hi' := hupn i
    have fin : ∀ j, j < m.length → j ≠ x → lessE m x (upx x i) j ≠ 0 → ∃ j', j' < m.length - 1 ∧ en (impl_Matrix_shrunk.less m x) i j' ≠ 0 := fun j hj hne h => by
      obtain ⟨j', hj', e⟩ := hdown j hj hne
      exact ⟨j', hj', by rw [hE i hi, e]; exact h⟩
    by_cases c : upx x i < x
    · have hz := hpre _ c
      have hj0L : j0 ≠ m.length - 1 := fun e => h0 (by rw [e]; exact hz)
      by_cases cx : x < m.length - 1
      · by_cases e : j0 = x
        · exact fin (m.length - 1) (by omega) (by omega) (by rw [lessE, if_pos ⟨c, cx, rfl⟩]; rw [e] at h0; exact h0)
        · exact fin j0 hj0 e (by rw [lessE, if_neg (fun h => hj0L h.2.2)]; exact h0)
      · exact fin j0 hj0 (by omega) (by rw [lessE, if_neg (fun h => cx h.2.1)]; exact h0)
    · refine fin j0 hj0 (fun e => ?_) (by rw [lessE, if_neg (fun h => c h.1)]; exact h0)
      exact h0 (((g2 _ hu).2 j0 hj0).2.2 (by omega))
  · rw [hlen] at hj ⊢
    have hu := hupl j hj
    have huj := hupn j
    have fin : ∀ i, i < m.length → i ≠ x → lessE m x i (upx x j) ≠ 0 → ∃ i', i' < m.length - 1 ∧ en (impl_Matrix_shrunk.less m x) i' j ≠ 0 := fun i hi hne h => by
      obtain ⟨i', hi', e⟩ := hdown i hi hne
      exact ⟨i', hi', by rw [hE i' hi', e]; exact h⟩
    by_cases c : upx x j = m.length - 1
    · exact fin (m.length - 1) (by omega) (by omega) (by rw [lessE, if_neg (fun h => by have := h.1; omega), c]; exact hlast)
    · obtain ⟨i0, hi0, h0⟩ := g4 _ hu
      exact fin i0 hi0 (fun e => h0 (by rw [e]; exact hrow _ hu c)) (by rw [lessE, if_neg (fun h => c h.2.2)]; exact h0)
def muM (m : List (List Int)) : Nat := m.length * 10000 + (allZ m).toNat
theorem allZ_bd (m : List (List Int)) (g : Shk m) : 0 ≤ allZ m ∧ allZ m ≤ 1728 := by
  have hl := g.1
  have h := sumZ_bound (n := m.length) (f := fun i => rowZ m i) (B := 144) (by decide) (fun i hi => by have := g.2.1.row hi; omega)
  rw [allZ]; omega
theorem shrink_step (m : List (List Int)) (g : Shk m) (hp : 0 < m.length) : Shk (shrinkM m).1 ∧ muM (shrinkM m).1 < muM m := by
  have ht := topI_lt m
  have hn := topI_nn m g hp
  obtain ⟨x, hx⟩ : ∃ x : Nat, topI m = (x : Int) := ⟨(topI m).toNat, by omega⟩
  have hz := allZ_bd m g
  rw [shrinkM, hx, Int.toNat_natCast]
  by_cases c : 1 < rowZ m x
  · rw [if_pos c]
    obtain ⟨h1, h2⟩ := dec_shk m g hp x hx c
    refine ⟨h1, ?_⟩
    have hz2 := allZ_bd _ h1
    simp only [muM, dec_len]; omega
  · rw [if_neg c]
    have h1 := less_shk m g hp x hx c
    refine ⟨h1, ?_⟩
    have hz2 := allZ_bd _ h1
    have hl := less_len m x (by omega)
    simp only [muM, hl]; omega
theorem rev_getD (l : List Int) (p : Nat) (h : p < l.length) : l.reverse.getD p 0 = l.getD (l.length - 1 - p) 0 := by
  rw [getD_lt _ _ _ (by simpa using h), getD_lt _ _ _ (by omega), List.getElem_reverse]
theorem reverse_ev (l : List Int) (hl : l.length ≤ 2000000) : Ev (fun k => slices_Reverse_int_int.f k l) l.reverse := by
  unfold slices_Reverse_int_int.f
  have main : ∀ (d i : Nat) (q : List Int), l.length - 2 * i = d → 2 * i ≤ l.length + 1 → q.length = l.length → (∀ p, p < l.length → q.getD p 0 = if p < i ∨ l.length ≤ p + i then l.getD (l.length - 1 - p) 0 else l.getD p 0) → Ev (fun k => slices_Reverse_int_int.l0 k q (i : Int) ((l.length : Int) - 1 - (i : Int))) l.reverse := by
    intro d
    induction d using Nat.strongRecOn with
    | ind d ih =>
      intro i q hd hi hq hp
      refine Ev.step (fun _ => rfl) ?_
      by_cases c : 2 * i + 1 < l.length
      · refine Ev_pos (by omega) (Ev_pos (by omega) (Ev_pos (by omega) (Ev_pos (by omega) (Ev_pos (by omega) ?_))))
        rw [wrap_succ (i := i) (by omega), wrap_small (x := (l.length : Int) - 1 - (i : Int) - 1) (by omega) (by omega), show (l.length : Int) - 1 - (i : Int) - 1 = (l.length : Int) - 1 - ((i + 1 : Nat) : Int) from by omega,
          show (l.length : Int) - 1 - (i : Int) = ((l.length - 1 - i : Nat) : Int) from by omega, rd_nat, rd_nat, Int.toNat_natCast, Int.toNat_natCast]
        refine ih (l.length - 2 * (i + 1)) (by omega) (i + 1) _ rfl (by omega) (by simpa using hq) (fun p hpl => ?_)
        have hi1 : q.getD i 0 = l.getD i 0 := by rw [hp i (by omega), if_neg (by omega)]
        have hi2 : q.getD (l.length - 1 - i) 0 = l.getD (l.length - 1 - i) 0 := by rw [hp _ (by omega), if_neg (by omega)]
        rw [getD_setG _ _ _ _ _ (by rw [List.length_set]; omega), getD_setG _ _ _ _ _ (by omega), hi1, hi2]
        by_cases e1 : p = l.length - 1 - i
        · rw [if_pos e1, if_pos (by omega), show l.length - 1 - p = i from by omega]
        · rw [if_neg e1]
          by_cases e2 : p = i
          · rw [if_pos e2, if_pos (by omega), e2]
          · rw [if_neg e2, hp p hpl]
            by_cases e3 : p < i ∨ l.length ≤ p + i
            · rw [if_pos e3, if_pos (by omega)]
            · rw [if_neg e3, if_neg (by omega)]
      · refine Ev_neg (by omega) (Ev_some ?_)
        refine ext_getD (by simpa using hq) (fun p hpl => ?_)
        rw [hq] at hpl
        rw [rev_getD l p hpl, hp p hpl]
        by_cases e3 : p < i ∨ l.length ≤ p + i
        · rw [if_pos e3]
        · rw [if_neg e3, show l.length - 1 - p = p from by omega]
  rw [wrap_small (by omega) (by omega)]
  have := main _ 0 l rfl (by omega) rfl (fun p hp => by rw [if_neg (by omega)])
  simpa using this
theorem ascM_both : ∀ (n : Nat) (m : List (List Int)), Shk m → muM m ≤ n → n ≤ 500000 → ∃ L : List Int, L.length ≤ n ∧
    (∀ acc : List Int, acc.length + n ≤ 1000000 → Ev (fun k => spec_maAscent.l0 k acc m) (L.reverse ++ acc)) ∧ (∀ acc : List Int, acc.length + n ≤ 1000000 → Ev (fun k => impl_Matrix_ascent.l0 k acc m) ((acc ++ L).reverse)) := by
  intro n
  induction n with
  | zero =>
    intro m g hm _
    have h0 : m.length = 0 := by rw [muM] at hm; omega
    refine ⟨[], by simp, fun acc ha => ?_, fun acc ha => ?_⟩
    · exact Ev.step (fun _ => rfl) (Ev_neg (by omega) (Ev_some rfl))
    · refine Ev.step (fun _ => rfl) (Ev_val (show impl_Matrix_size.f m = some (m.length : Int) from rfl) (Ev_neg (by omega) (Ev.bind (reverse_ev acc (by omega)) (Ev_some (by simp)))))
  | succ n ih =>
    intro m g hm hn
    by_cases c : 0 < m.length
    · have hs : Small m := ⟨by have := g.1; omega, fun r hr => by
        obtain ⟨i, hi, rfl⟩ := List.getElem_of_mem hr
        rw [← getD_lt m i [] hi, (g.2.1 i hi).1]; have := g.1; omega⟩
      obtain ⟨g', hmu⟩ := shrink_step m g c
      obtain ⟨L, h1, h2, h3⟩ := ih (shrinkM m).1 g' (by omega) (by omega)
      refine ⟨(shrinkM m).2 :: L, by simp; omega, fun acc ha => ?_, fun acc ha => ?_⟩
      · refine Ev.step (fun _ => rfl) (Ev_pos (by omega) (Ev.bind (maShrink_ev m g hs c) (Ev_val rfl (Ev_pos (by simp; omega) ?_))))
        have := h2 ([(shrinkM m).2] ++ acc) (by simp; omega)
        rw [List.reverse_cons, List.append_assoc]; exact this
      · refine Ev.step (fun _ => rfl) (Ev_val (show impl_Matrix_size.f m = some (m.length : Int) from rfl) (Ev_pos (by omega) (Ev.bind (shrunk_ev m g hs c) (Ev_pos (by omega) ?_))))
        have := h3 (acc ++ [(shrinkM m).2]) (by simp; omega)
        rw [List.append_assoc] at this; exact this
    · refine ⟨[], by simp, fun acc ha => ?_, fun acc ha => ?_⟩
      · exact Ev.step (fun _ => rfl) (Ev_neg (by omega) (Ev_some rfl))
      · refine Ev.step (fun _ => rfl) (Ev_val (show impl_Matrix_size.f m = some (m.length : Int) from rfl) (Ev_neg (by omega) (Ev.bind (reverse_ev acc (by omega)) (Ev_some (by simp)))))
theorem aom_both (m : List (List Int)) (hs : Small m) : ∃ R : List Int × Bool, R.1.length ≤ 1048576 ∧ Ev (fun k => spec_AscentOfMatrix.f k m) R ∧ Ev (fun k => impl_AscentOfMatrix.f k m) R := by
  by_cases g : isMat m
  · have hz := allZ_bd m g.shk
    have hl := g.1
    obtain ⟨L, h1, h2, h3⟩ := ascM_both 200000 m g.shk (by rw [muM]; omega) (by omega)
    refine ⟨(L.reverse, true), by simp; omega, ?_, ?_⟩
    · unfold spec_AscentOfMatrix.f spec_maAscent.f
      refine Ev.bind (maGood_ev m hs) (Ev_pos (decide_eq_true g) (Ev.bind (h2 [] (by simp)) (Ev_some (by simp))))
    · unfold impl_AscentOfMatrix.f impl_Matrix_ascent.f
      refine Ev.bind (implIsMatrix_ev m hs) (Ev_pos (decide_eq_true g) (Ev.bind (h3 [] (by simp)) (Ev_some (by simp))))
  · refine ⟨([], false), by simp, ?_, ?_⟩
    · unfold spec_AscentOfMatrix.f
      exact Ev.bind (maGood_ev m hs) (Ev_neg (by simpa using g) (Ev_some rfl))
    · unfold impl_AscentOfMatrix.f
      exact Ev.bind (implIsMatrix_ev m hs) (Ev_neg (by simpa using g) (Ev_some rfl))
theorem FnExactAscentOfMatrix : ∀ (l0 : List (List Int)), l0.length ≤ maxLen → (∀ r ∈ l0, Open.Fits r) → Ax.laws_FnExactAscentOfMatrix.Plain l0 := by
  intro m hl hr
  obtain ⟨t, ht, hh⟩ := szMatrix_ev m hl hr
  by_cases c : t < 0
  · obtain ⟨k, h⟩ := ht
    exact ⟨k, t, h k (Nat.le_refl _), fun hn => absurd c hn⟩
  · have hs := hh (by omega)
    obtain ⟨⟨r0, b⟩, hB, hS, hI⟩ := aom_both m hs
    simp only [] at hB
    have hm : tot m ≤ 1048576 * 1048576 := Nat.le_trans (tot_le hs.2) (Nat.mul_le_mul_right _ hs.1)
    obtain ⟨k0, h0⟩ := toMatrix_ev m hs
    obtain ⟨k1, h1⟩ := hS
    obtain ⟨k2, h2⟩ := hI
    obtain ⟨k3, h3⟩ := eqIntS_refl r0 (by omega)
    obtain ⟨k5, h5⟩ := eqMatrix_small m hs
    obtain ⟨k6, h6⟩ := markMatrix_ev m (by omega) (by have := hs.1; omega)
    obtain ⟨k7, h7⟩ := markIntS_ev r0 1 (by omega) (by omega)
    obtain ⟨k8, h8⟩ := heldIntS_ev 1 r0.length (by omega) (by omega)
    obtain ⟨k11, h11⟩ := ht
    exact ⟨k0 + k1 + k2 + k3 + k5 + k6 + k7 + k8 + k11, t, h11 _ (by omega), fun _ => ⟨r0, b, _, _, _, _, h0 _ (by omega), h1 _ (by omega), h2 _ (by omega), h3 _ (by omega), h5 _ (by omega), h6 _ (by omega), by omega, h7 _ (by omega), by omega, h8 _ (by omega)⟩⟩
end Go.Proofs.Ytdphjpjimooddaa.Pure
