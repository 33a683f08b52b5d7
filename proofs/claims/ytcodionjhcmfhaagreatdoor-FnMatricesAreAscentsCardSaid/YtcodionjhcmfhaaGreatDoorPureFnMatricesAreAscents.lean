/- Each matrix is that of one ascent sequence, read from its text, and stays so when it is made flat. -/
import Derived.Test.YtcodionjhcmfhaaGreatDoorAx27
import Derived.Test.YtcodionjhcmfhaaGreatDoorAxWSized
namespace Go.Proofs.YtcodionjhcmfhaaGreatDoor.PrintWords
open Go.RowKit
theorem sized_ints {H : Type} {enc : TypeId × Value → H} {P : Program} {W : World} {base : Nat} {spare : Nat → Bool} {held : Bool} {t e : TypeId} {k : IntKind} {a : Option Addr} {len cap : Nat} {d : DataW H} {ps : List MemPlace} {ts : List TypeId} {ds : List (DataW H)} {j : Nat}
    (g0 : (DataW.weightsEach P ts ds).all (· ≤ reachBytes) = true) (g1 : ts[j]? = some t) (g2 : ds[j]? = some d) (g3 : P.underlying t = some (.slice e)) (g4 : P.underlying e = some (.int k)) (g5 : P.cellsOf e = 1) {B : Nat} (g6 : P.bytesOf e = B)
    (g7 : DataW.Trod enc P W base spare held t (.slice a len cap) d ps) : len * B ≤ 140737488351232 := Go.Proofs.YtcodionjhcmfhaaGreatDoorW.PrintWords.sized_ints g0 g1 g2 g3 g4 g5 g6 g7
end Go.Proofs.YtcodionjhcmfhaaGreatDoor.PrintWords
set_option linter.unusedVariables false
namespace Go.Proofs.YtcodionjhcmfhaaGreatDoor.Pure
open Go.RowKit Go.Proofs.YtcodionjhcmfhaaGreatDoor.Ax Go.Proofs.YtcodionjhcmfhaaGreatDoorW.PrintWords Go.Proofs.YtcodionjhcmfhaaGreatDoorW.PrintLast Go.Proofs.YtcodionjhcmfhaaGreatDoorW.PrintMore Go.Proofs.YtcodionjhcmfhaaGreatDoor.Sq
section Prelude
theorem Ev_pos {α : Type} {c : Prop} [Decidable c] {f g : Nat → Option α} {r : α} (h : c) (k : Ev f r) : Ev (fun n => if c then f n else g n) r :=
  Ev.congr (fun _ => if_pos h) k
theorem Ev_neg {α : Type} {c : Prop} [Decidable c] {f g : Nat → Option α} {r : α} (h : ¬ c) (k : Ev g r) : Ev (fun n => if c then f n else g n) r :=
  Ev.congr (fun _ => if_neg h) k
theorem Ev_val {α β : Type} {g : Option α} {f : Nat → α → Option β} {a : α} {r : β} (h : g = some a) (k : Ev (fun n => f n a) r) : Ev (fun n => g.bind (f n)) r :=
  Ev.congr (fun _ => by rw [h]; rfl) k
theorem Ev_some {α : Type} {a r : α} (h : a = r) : Ev (fun _ => some a) r := ⟨0, fun _ _ => by rw [h]⟩
theorem Ev_eq {α : Type} {g : Nat → Option α} {a r : α} (h : Ev g a) (e : a = r) : Ev g r := e ▸ h
theorem wrap_small {x : Int} (h0 : -4611686018427387904 ≤ x) (h1 : x ≤ 4611686018427387904) : wrap64 x = x := by unfold wrap64; omega
theorem wrap_succ {i : Nat} (h : i ≤ 4611686018427387900) : wrap64 ((i : Int) + 1) = ((i + 1 : Nat) : Int) := by unfold wrap64; omega
theorem wrap_pred {i : Nat} (h : i ≤ 4611686018427387900) : wrap64 ((i + 1 : Nat) - 1 : Int) = (i : Int) := by unfold wrap64; omega
theorem rd_nat (xs : List Int) (i : Nat) : rd xs (i : Int) = xs.getD i 0 := by simp [rd]
theorem getD_lt {α : Type} (xs : List α) (i : Nat) (z : α) (h : i < xs.length) : xs.getD i z = xs[i] := by simp [List.getD_eq_getElem?_getD, h]
theorem wf_range {x : Int} (h : (Lit.int .i64 x).wf = true) : -9223372036854775808 ≤ x ∧ x ≤ 9223372036854775807 := by
 simp [Lit.wf] at h
 exact h
theorem ext_getD {xs ys : List Int} (hl : xs.length = ys.length) (h : ∀ i, i < xs.length → xs.getD i 0 = ys.getD i 0) : xs = ys := by
 apply List.ext_getElem hl
 intro i h1 h2
 have := h i h1
 rwa [getD_lt _ _ _ h1, getD_lt _ _ _ h2] at this
theorem dec_eq {a b : Prop} [Decidable a] [Decidable b] (h : a ↔ b) : decide a = decide b := by simp [h]
def foldFrom {σ : Type} (n : Nat) (step : σ → Nat → σ) (s : σ) (i : Nat) : σ := (List.range' i (n - i)).foldl step s
theorem foldFrom_lt {σ : Type} {n : Nat} {step : σ → Nat → σ} {s : σ} {i : Nat} (h : i < n) : foldFrom n step s i = foldFrom n step (step s i) (i + 1) := by
 unfold foldFrom
 rw [show n - i = (n - (i + 1)) + 1 from by omega, List.range'_succ, List.foldl_cons]
theorem foldFrom_ge {σ : Type} {n : Nat} {step : σ → Nat → σ} {s : σ} {i : Nat} (h : n ≤ i) : foldFrom n step s i = s := by
 unfold foldFrom
 rw [show n - i = 0 from by omega]; rfl
theorem Ev_for {σ ρ : Type} {l : Nat → σ → Nat → Option ρ} (n : Nat) (step : σ → Nat → σ) (fin : σ → ρ) (Inv : σ → Nat → Prop)
    (hinv : ∀ i s, i < n → Inv s i → Inv (step s i) (i + 1))
    (hstep : ∀ i s, i < n → Inv s i → ∀ r, Ev (fun k => l k (step s i) (i + 1)) r → Ev (fun k => l k s i) r)
    (hend : ∀ s, Inv s n → Ev (fun k => l k s n) (fin s)) :
    ∀ i s, i ≤ n → Inv s i → Ev (fun k => l k s i) (fin (foldFrom n step s i)) ∧ Inv (foldFrom n step s i) n := by
 have main : ∀ d i s, n - i = d → i ≤ n → Inv s i → Ev (fun k => l k s i) (fin (foldFrom n step s i)) ∧ Inv (foldFrom n step s i) n := by {
 intro d
 induction d with
 | zero => {
 intro i s hd hi h
 obtain rfl : i = n := by omega
 rw [foldFrom_ge (Nat.le_refl _)]
 exact ⟨hend s h, h⟩}
 | succ d ih => {
 intro i s hd hi h
 rw [foldFrom_lt (by omega)]
 obtain ⟨h1, h2⟩ := ih (i + 1) (step s i) (by omega) (by omega) (hinv i s (by omega) h)
 exact ⟨hstep i s (by omega) h _ h1, h2⟩}}
 exact fun i s hi h => main _ i s rfl hi h
theorem Ev_all (l : Nat → Nat → Option Bool) (n : Nat) (P : Nat → Bool) (r : Bool)
    (hgo : ∀ i, i < n → (∀ j, j < i → P j = true) → P i = true → ∀ q, Ev (fun k => l k (i + 1)) q → Ev (fun k => l k i) q)
    (hno : ∀ i, i < n → (∀ j, j < i → P j = true) → P i = false → Ev (fun k => l k i) false)
    (hend : (∀ j, j < n → P j = true) → Ev (fun k => l k n) r) : Ev (fun k => l k 0) (decide (∀ j, j < n → P j = true) && r) := by
 have main : ∀ d i, n - i = d → i ≤ n → (∀ j, j < i → P j = true) → Ev (fun k => l k i) (decide (∀ j, j < n → P j = true) && r) := by {
 intro d
 induction d with
 | zero => {
 intro i hd hi h
 obtain rfl : i = n := by omega
 rw [decide_eq_true h, Bool.true_and]
 exact hend h}
 | succ d ih => {
 intro i hd hi h
 by_cases c : P i = true
 · {
 refine hgo i (by omega) h c _ (ih (i + 1) (by omega) (by omega) (fun j hj => ?_))
 by_cases e : j = i
 · rw [e]; exact c
 · exact h j (by omega)}
 · {
 refine Ev_eq (hno i (by omega) h (by simpa using c)) ?_
 rw [decide_eq_false (fun hh => c (hh i (by omega))), Bool.false_and]}}}
 exact main _ 0 rfl (by omega) (fun j hj => by omega)
end Prelude
theorem foldI {σ : Type} {n : Nat} {step : σ → Nat → σ} (Inv : σ → Nat → Prop) (h : ∀ i s, i < n → Inv s i → Inv (step s i) (i + 1)) : ∀ (d i : Nat) (s : σ), n - i = d → i ≤ n → Inv s i → Inv (foldFrom n step s i) n
  | 0, i, s, hd, hi, hs => by
    rw [foldFrom_ge (by omega)]
    have e : i = n := by omega
    exact e ▸ hs
  | d + 1, i, s, hd, hi, hs => by
    rw [foldFrom_lt (by omega)]
    exact foldI Inv h d (i + 1) _ (by omega) (by omega) (h i s (by omega) hs)
theorem rdL_nat (xs : List (List Int)) (i : Nat) : rd_L2 xs (i : Int) = xs.getD i [] := by unfold rd_L2; rw [Int.toNat_natCast]
theorem getD_mem {α : Type} {xs : List α} {i : Nat} {z : α} (h : i < xs.length) : xs.getD i z ∈ xs := by rw [getD_lt _ _ _ h]; exact List.getElem_mem h
theorem ext_getL {xs ys : List (List Int)} (hl : xs.length = ys.length) (h : ∀ i, i < xs.length → xs.getD i [] = ys.getD i []) : xs = ys := by
 apply List.ext_getElem hl
 intro i h1 h2
 have := h i h1
 rwa [getD_lt _ _ _ h1, getD_lt _ _ _ h2] at this
def Small (l : List (List Int)) : Prop := l.length ≤ 1048576 ∧ ∀ r ∈ l, r.length ≤ 1048576
def sumZ : Nat → (Nat → Int) → Int
  | 0, _ => 0
  | n + 1, f => sumZ n f + f n
theorem sumZ_congr {n : Nat} {f g : Nat → Int} (h : ∀ i, i < n → f i = g i) : sumZ n f = sumZ n g := by
 induction n with
 | zero => rfl
 | succ n ih => rw [sumZ, sumZ, ih (fun i hi => h i (by omega)), h n (by omega)]
theorem sumZ_bound {n : Nat} {f : Nat → Int} {B : Int} (hB : 0 ≤ B) (h : ∀ i, i < n → 0 ≤ f i ∧ f i ≤ B) : 0 ≤ sumZ n f ∧ sumZ n f ≤ n * B := by
 induction n with
 | zero => simp [sumZ]
 | succ n ih => {
 have h1 := ih (fun i hi => h i (by omega))
 have h2 := h n (by omega)
 rw [sumZ, show ((n + 1 : Nat) : Int) * B = n * B + B from by rw [Int.natCast_add, Int.add_mul]; simp]
 omega}
theorem sumZ_nonneg {n : Nat} {f : Nat → Int} (h : ∀ i, i < n → 0 ≤ f i) : 0 ≤ sumZ n f := by
 induction n with
 | zero => simp [sumZ]
 | succ n ih => have := ih (fun i hi => h i (by omega)); have := h n (by omega); rw [sumZ]; omega
theorem sumZ_term {n : Nat} {f : Nat → Int} (h : ∀ i, i < n → 0 ≤ f i) {i : Nat} (hi : i < n) : f i ≤ sumZ n f := by
 induction n with
 | zero => omega
 | succ n ih => {
 have h0 := sumZ_nonneg (n := n) (fun j hj => h j (by omega))
 rw [sumZ]
 by_cases e : i = n
 · rw [e]; omega
 · have := ih (fun j hj => h j (by omega)) (by omega); have := h n (by omega); omega}
theorem sumZ_zero {n : Nat} {f : Nat → Int} (h : ∀ i, i < n → 0 ≤ f i) : sumZ n f = 0 ↔ ∀ i, i < n → f i = 0 := by
 refine ⟨fun h0 i hi => ?_, fun h0 => ?_⟩
 · have := sumZ_term h hi; have := h i hi; omega
 · {
 rw [sumZ_congr (g := fun _ => 0) h0]
 clear h h0
 induction n with
 | zero => rfl
 | succ n ih => rw [sumZ, ih]; rfl}
theorem sumZ_add (n : Nat) (f g : Nat → Int) : sumZ n (fun i => f i + g i) = sumZ n f + sumZ n g := by
 induction n with
 | zero => rfl
 | succ n ih => simp only [sumZ, ih]; omega
def en (m : List (List Int)) (i j : Nat) : Int := (m.getD i []).getD j 0
def Cells (m : List (List Int)) : Prop := ∀ i, i < m.length → (m.getD i []).length = m.length ∧ ∀ j, j < m.length → 0 ≤ en m i j ∧ en m i j ≤ 12 ∧ (j < i → en m i j = 0)
def rowZ (m : List (List Int)) (i : Nat) : Int := sumZ m.length (fun j => en m i j)
def colZ (m : List (List Int)) (j : Nat) : Int := sumZ m.length (fun i => en m i j)
def allZ (m : List (List Int)) : Int := sumZ m.length (fun i => rowZ m i)
def isMat (m : List (List Int)) : Prop := m.length ≤ 12 ∧ Cells m ∧ (∀ i, i < m.length → rowZ m i ≠ 0) ∧ (∀ j, j < m.length → colZ m j ≠ 0) ∧ allZ m ≤ 12
instance (m : List (List Int)) : Decidable (Cells m) := inferInstanceAs (Decidable (∀ i, i < m.length → _))
instance (m : List (List Int)) : Decidable (isMat m) := inferInstanceAs (Decidable (_ ∧ _))
theorem Cells.row {m : List (List Int)} (h : Cells m) {i : Nat} (hi : i < m.length) : 0 ≤ rowZ m i ∧ rowZ m i ≤ m.length * 12 := sumZ_bound (by decide) (fun j hj => ⟨((h i hi).2 j hj).1, ((h i hi).2 j hj).2.1⟩)
theorem Cells.nn {m : List (List Int)} (h : Cells m) {i j : Nat} (hi : i < m.length) (hj : j < m.length) : 0 ≤ en m i j := ((h i hi).2 j hj).1
theorem Cells.le {m : List (List Int)} (h : Cells m) {i j : Nat} (hi : i < m.length) (hj : j < m.length) : en m i j ≤ 12 := ((h i hi).2 j hj).2.1
def rowsL (m : List (List Int)) : List Int := (List.range m.length).map fun (i : Nat) => rowZ m i
def colsL (m : List (List Int)) : List Int := (List.range m.length).map fun (j : Nat) => colZ m j
theorem mapR_length (n : Nat) (f : Nat → Int) : ((List.range n).map f).length = n := by simp
theorem mapR_getD (n : Nat) (f : Nat → Int) {i : Nat} (h : i < n) : ((List.range n).map f).getD i 0 = f i := by rw [getD_lt _ _ _ (by simpa using h)]; simp
theorem within_eq (a b c : Int) : impl_within.f a b c = some (decide (b ≤ a ∧ a ≤ c)) := by
 unfold impl_within.f
 by_cases h : a ≥ b
 · rw [if_pos h]; have : b ≤ a := h; simp [this]
 · rw [if_neg h]; simp; omega
theorem allWithin_l0 (l : List Int) (lo hi : Int) (hs : l.length ≤ 4611686018427387000) : ∀ (d i : Nat), l.length - i = d → i ≤ l.length →
    Ev (fun k => impl_allWithin.l0 k lo hi l (l.length : Int) (i : Int)) (decide (∀ j, j < l.length → i ≤ j → lo ≤ l.getD j 0 ∧ l.getD j 0 ≤ hi)) := by
 intro d
 induction d with
 | zero => {
 intro i hd hi
 refine Ev.step (fun k => by rw [impl_allWithin.l0]) ?_
 refine Ev_neg (by omega) (Ev_some ?_)
 symm; rw [decide_eq_true_iff]; intro j hj hij; omega}
 | succ d ih => {
 intro i hd hi'
 refine Ev.step (fun k => by rw [impl_allWithin.l0]) ?_
 refine Ev_pos (by omega) (Ev_pos (by omega) (Ev_pos (by omega) ?_))
 rw [rd_nat, wrap_succ (by omega), within_eq]
 refine Ev_val rfl ?_
 by_cases c : lo ≤ l.getD i 0 ∧ l.getD i 0 ≤ hi
 · {
 refine Ev_pos (decide_eq_true c) (Ev_eq (ih (i + 1) (by omega) (by omega)) (dec_eq ?_))
 refine ⟨fun hh j hj hij => ?_, fun hh j hj hij => hh j hj (by omega)⟩
 by_cases e : j = i
 · subst e; exact c
 · exact hh j hj (by omega)}
 · {
 refine Ev_neg (by simpa using c) (Ev_some ?_)
 symm; rw [decide_eq_false_iff_not]
 intro hh; exact c (hh i (by omega) (by omega))}}
theorem allWithin_ev (l : List Int) (lo hi : Int) (hs : l.length ≤ 4611686018427387000) : Ev (fun k => impl_allWithin.f k l lo hi) (decide (∀ j, j < l.length → lo ≤ l.getD j 0 ∧ l.getD j 0 ≤ hi)) := by
 unfold impl_allWithin.f
 refine Ev_eq (allWithin_l0 l lo hi hs _ 0 rfl (by omega)) (dec_eq ?_)
 exact ⟨fun h j hj => h j hj (by omega), fun h j hj _ => h j hj⟩
theorem setR (n : Nat) (f g : Nat → Int) (i : Nat) (hi : i < n) (h : ∀ j, j < n → j ≠ i → g j = f j) : ((List.range n).map f).set i (g i) = (List.range n).map g := by
 apply List.ext_getElem (by simp)
 intro j h1 h2
 simp only [List.length_map, List.length_range] at h2
 by_cases e : j = i
 · subst e; simp
 · rw [List.getElem_set_ne (fun x => e x.symm)]; simp [h j h2 e]
theorem replR (n : Nat) : List.replicate n (0 : Int) = (List.range n).map (fun _ => 0) := by
 apply List.ext_getElem (by simp); intro j h1 h2; simp
theorem sums_l1 (m : List (List Int)) (hd : m.length ≤ 12) (h : Cells m) (i : Nat) (hi : i < m.length) (R : List Int × List Int)
    (hR : Ev (fun k => impl_Matrix_sums.l0 k ((List.range m.length).map fun (a : Nat) => if a < i + 1 then rowZ m a else 0) ((List.range m.length).map fun (b : Nat) => sumZ (i + 1) (fun a => en m a b)) m (m.length : Int) ((i + 1 : Nat) : Int)) R) :
    ∀ (d j : Nat), m.length - j = d → j ≤ m.length → Ev (fun k => impl_Matrix_sums.l1 k ((List.range m.length).map fun (a : Nat) => if a < i then rowZ m a else if a = i then sumZ j (fun b => en m i b) else 0)
      ((List.range m.length).map fun (b : Nat) => sumZ i (fun a => en m a b) + if b < j then en m i b else 0) (i : Int) m (m.length : Int) (i : Int) (m.getD i []) (m.length : Int) (j : Int)) R := by
  intro d
  induction d with
  | zero =>
    intro j hdj hj
    obtain rfl : j = m.length := by omega
    refine Ev.step (fun _ => rfl) (Ev_neg (by omega) ?_)
    rw [wrap_succ (by omega)]
    refine (Ev_eq hR rfl).congr (fun k => ?_)
    congr 1
    · apply List.map_congr_left; intro a ha
      by_cases c : a < i
      · rw [if_pos c, if_pos (by omega)]
      · rw [if_neg c]
        by_cases e : a = i
        · rw [if_pos e, if_pos (by omega), e]; rfl
        · rw [if_neg e, if_neg (by omega)]
    · apply List.map_congr_left; intro b hb
      have : b < m.length := by simpa using hb
      rw [if_pos this]; rfl
  | succ d ih =>
    intro j hdj hj
    have hl := (h i hi).1
    have h1 := h.nn hi (show j < m.length by omega)
    have h2 := h.le hi (show j < m.length by omega)
    have h3 := sumZ_bound (n := j) (f := fun b => en m i b) (B := 12) (by decide) (fun b hb => ⟨h.nn hi (by omega), h.le hi (by omega)⟩)
    have h4 := sumZ_bound (n := i) (f := fun a => en m a j) (B := 12) (by decide) (fun a ha => ⟨h.nn (by omega) (show j < m.length by omega), h.le (by omega) (show j < m.length by omega)⟩)
    refine Ev.step (fun _ => rfl) (Ev_pos (by omega) (Ev_pos (by omega) (Ev_pos (by omega) (Ev_pos (by omega) (Ev_pos (by rw [mapR_length]; omega) (Ev_pos (by rw [mapR_length]; omega) ?_))))))
    rw [rd_nat, rd_nat, rd_nat, mapR_getD _ _ hi, mapR_getD _ _ (show j < m.length by omega), if_neg (Nat.lt_irrefl _), if_pos rfl, if_neg (Nat.lt_irrefl _), wrap_succ (by omega), Int.toNat_natCast, Int.toNat_natCast,
      show (m.getD i []).getD j 0 = en m i j from rfl, wrap_small (by omega) (by omega), wrap_small (by omega) (by omega)]
    refine (ih (j + 1) (by omega) (by omega)).congr (fun k => ?_)
    congr 1
    · have := setR m.length (fun a => if a < i then rowZ m a else if a = i then sumZ j (fun b => en m i b) else 0) (fun a => if a < i then rowZ m a else if a = i then sumZ (j + 1) (fun b => en m i b) else 0) i hi (fun a _ hne => by
        by_cases c : a < i
        · rw [if_pos c, if_pos c]
        · rw [if_neg c, if_neg c, if_neg hne, if_neg hne])
      rw [← this, if_neg (Nat.lt_irrefl _), if_pos rfl]; rfl
    · have := setR m.length (fun b => sumZ i (fun a => en m a b) + if b < j then en m i b else 0) (fun b => sumZ i (fun a => en m a b) + if b < j + 1 then en m i b else 0) j (by omega) (fun b _ hne => by
        by_cases c : b < j
        · rw [if_pos c, if_pos (by omega)]
        · rw [if_neg c, if_neg (by omega)])
      rw [← this, if_pos (by omega), Int.add_zero]
theorem sums_ev (m : List (List Int)) (hd : m.length ≤ 12) (h : Cells m) : Ev (fun k => impl_Matrix_sums.f k m) (rowsL m, colsL m) := by
 unfold impl_Matrix_sums.f impl_Matrix_size.f
 refine Ev_val rfl (Ev_pos (by omega) (Ev_pos (by omega) (Ev_val rfl (Ev_pos (by omega) (Ev_pos (by omega) ?_)))))
 rw [Int.toNat_natCast, replR]
 have main : ∀ (d i : Nat), m.length - i = d → i ≤ m.length → Ev (fun k => impl_Matrix_sums.l0 k ((List.range m.length).map fun (a : Nat) => if a < i then rowZ m a else 0) ((List.range m.length).map fun (b : Nat) => sumZ i (fun a => en m a b)) m (m.length : Int) (i : Int)) (rowsL m, colsL m) := by {
 intro d
 induction d with
 | zero => {
 intro i hdi hi
 obtain rfl : i = m.length := by omega
 refine Ev.step (fun _ => rfl) (Ev_neg (by omega) (Ev_some ?_))
 unfold rowsL colsL
 congr 1
 apply List.map_congr_left; intro a ha
 rw [if_pos (by simpa using ha)]}
 | succ d ih => {
 intro i hdi hi
 refine Ev.step (fun _ => rfl) (Ev_pos (by omega) (Ev_pos (by omega) (Ev_pos (by omega) ?_)))
 rw [rdL_nat, (h i (by omega)).1]
 refine (sums_l1 m hd h i (by omega) _ (ih (i + 1) (by omega) (by omega)) _ 0 rfl (by omega)).congr (fun k => ?_)
 congr 1
 · {
 apply List.map_congr_left; intro a ha
 by_cases c : a < i
 · rw [if_pos c, if_pos c]
 · rw [if_neg c, if_neg c]; split <;> rfl}
 · {
 apply List.map_congr_left; intro b hb
 rw [if_neg (by omega), Int.add_zero]}}}
 refine (main _ 0 rfl (by omega)).congr (fun k => ?_)
 congr 1
 all_goals (apply List.map_congr_left; intro a ha)
theorem Index_ev (l : List Int) (a : Int) (hl : l.length ≤ 1000000) : Ev (fun k => slices_Contains_int_int.f k l a) (decide (a ∈ l)) := by
 unfold slices_Contains_int_int.f slices_Index_int_int.f
 have main : ∀ (d i : Nat), l.length - i = d → i ≤ l.length → ∃ q : Int, Ev (fun k => slices_Index_int_int.l0 k l a (l.length : Int) (i : Int)) q ∧ (0 ≤ q ↔ ∃ j, i ≤ j ∧ j < l.length ∧ l.getD j 0 = a) := by {
 intro d
 induction d with
 | zero => {
 intro i hd hi
 exact ⟨-1, Ev.step (fun _ => rfl) (Ev_neg (by omega) (Ev_some rfl)), ⟨fun h => absurd h (by decide), fun ⟨j, h1, h2, _⟩ => by omega⟩⟩}
 | succ d ih => {
 intro i hd hi
 by_cases c : a = l.getD i 0
 · exact ⟨i, Ev.step (fun _ => rfl) (Ev_pos (by omega) (Ev_pos (by omega) (Ev_pos (by omega) (Ev_pos (by rw [rd_nat]; exact c) (Ev_some rfl))))), ⟨fun _ => ⟨i, Nat.le_refl _, by omega, c.symm⟩, fun _ => by omega⟩⟩
 · {
 obtain ⟨q, h1, h2⟩ := ih (i + 1) (by omega) (by omega)
 refine ⟨q, Ev.step (fun _ => rfl) (Ev_pos (by omega) (Ev_pos (by omega) (Ev_pos (by omega) (Ev_neg (by rw [rd_nat]; exact c) ?_)))), ?_⟩
 · rw [wrap_succ (by omega)]; exact h1
 · {
 rw [h2]
 refine ⟨fun ⟨j, h3, h4⟩ => ⟨j, by omega, h4⟩, fun ⟨j, h3, h4, h5⟩ => ⟨j, ?_, h4, h5⟩⟩
 by_cases e : j = i
 · rw [e] at h5; exact absurd h5.symm c
 · omega}}}}
 obtain ⟨q, h1, h2⟩ := main _ 0 rfl (by omega)
 refine Ev.bind h1 (Ev_some (dec_eq ?_))
 rw [ge_iff_le, h2, List.mem_iff_getElem]
 exact ⟨fun ⟨j, _, h4, h5⟩ => ⟨j, h4, by rwa [getD_lt _ _ _ h4] at h5⟩, fun ⟨j, h4, h5⟩ => ⟨j, by omega, h4, by rwa [getD_lt _ _ _ h4]⟩⟩
theorem sumOf_ev (m : List (List Int)) (hd : m.length ≤ 12) (h : Cells m) : Ev (fun k => impl_Matrix_sum.f k m) (allZ m) := by
 unfold impl_Matrix_sum.f
 refine Ev.bind (sums_ev m hd h) ?_
 have hl : (rowsL m).length = m.length := by simp [rowsL]
 have main : ∀ (d i : Nat), m.length - i = d → i ≤ m.length → Ev (fun k => impl_Matrix_sum.l0 k (sumZ i (fun i => rowZ m i)) (rowsL m) ((rowsL m).length : Int) (i : Int)) (allZ m) := by {
 rw [hl]
 intro d
 induction d with
 | zero => {
 intro i hd hi
 obtain rfl : i = m.length := by omega
 exact Ev.step (fun _ => rfl) (Ev_neg (by omega) (Ev_some rfl))}
 | succ d ih => {
 intro i hd' hi
 refine Ev.step (fun _ => rfl) (Ev_pos (by omega) (Ev_pos (by omega) (Ev_pos (by omega) ?_)))
 have h1 := sumZ_bound (n := i) (f := fun i => rowZ m i) (B := 144) (by decide) (fun j hj => by have := h.row (show j < m.length by omega); omega)
 have h2 := h.row (show i < m.length by omega)
 rw [rd_nat, show (rowsL m).getD i 0 = rowZ m i from mapR_getD _ _ (by omega), wrap_succ (by omega), wrap_small (by omega) (by omega)]
 exact ih (i + 1) (by omega) (by omega)}}
 exact main _ 0 rfl (by omega)
theorem mem_rowsL {m : List (List Int)} : (0 : Int) ∈ rowsL m ↔ ¬ ∀ i, i < m.length → rowZ m i ≠ 0 := by
 unfold rowsL
 rw [List.mem_map]
 refine ⟨fun ⟨i, h1, h2⟩ h => h i (by simpa using h1) h2, fun h => ?_⟩
 refine Classical.byContradiction (fun hn => h (fun i hi h0 => hn ⟨i, by simpa using hi, h0⟩))
theorem mem_colsL {m : List (List Int)} : (0 : Int) ∈ colsL m ↔ ¬ ∀ i, i < m.length → colZ m i ≠ 0 := by
 unfold colsL
 rw [List.mem_map]
 refine ⟨fun ⟨i, h1, h2⟩ h => h i (by simpa using h1) h2, fun h => ?_⟩
 refine Classical.byContradiction (fun hn => h (fun i hi h0 => hn ⟨i, by simpa using hi, h0⟩))
theorem containsFunc_eq (m : List (List Int)) (i : Nat) (hi : i < m.length) (hl : (m.getD i []).length = m.length) : slices_ContainsFunc_int_int.f ((m.getD i []).take i) = some (decide (¬ ∀ j, j < m.length → j < i → en m i j = 0)) := by
 unfold slices_ContainsFunc_int_int.f
 congr 1
 rw [Bool.eq_iff_iff, List.any_eq_true, decide_eq_true_iff]
 refine ⟨fun ⟨x, h1, h2⟩ h => ?_, fun h => ?_⟩
 · {
 obtain ⟨j, hj, rfl⟩ := List.getElem_of_mem h1
 rw [List.length_take] at hj
 have := h j (by omega) (by omega)
 rw [List.getElem_take] at h2
 rw [en, getD_lt _ _ _ (by omega)] at this
 rw [this] at h2
 exact absurd h2 (by decide)}
 · {
 refine Classical.byContradiction (fun hn => h (fun j hj hji => Classical.byContradiction (fun h0 => hn ⟨en m i j, ?_, by simpa using h0⟩)))
 have e : en m i j = (m.getD i [])[j]'(by omega) := getD_lt _ _ _ (by omega)
 rw [e, List.mem_iff_getElem]
 exact ⟨j, by rw [List.length_take]; omega, by rw [List.getElem_take]⟩}
def rowOk' (m : List (List Int)) (i : Nat) : Prop := (m.getD i []).length = m.length ∧ (∀ j, j < m.length → 0 ≤ en m i j ∧ en m i j ≤ 12) ∧ ∀ j, j < m.length → j < i → en m i j = 0
instance (m : List (List Int)) (i : Nat) : Decidable (rowOk' m i) := inferInstanceAs (Decidable (_ ∧ _ ∧ ∀ j, j < m.length → _))
theorem implIsMatrix_ev (m : List (List Int)) (hs : Small m) : Ev (fun k => impl_IsMatrix.f k m) (decide (isMat m)) := by
 unfold impl_IsMatrix.f impl_Matrix_size.f
 refine Ev_val rfl ?_
 by_cases hd : m.length ≤ 12
 · {
 refine Ev_neg (by omega) ?_
 refine Ev_eq (Ev_all (fun k i => impl_IsMatrix.l0 k m (m.length : Int) (i : Int) m) m.length (fun i => decide (rowOk' m i)) (decide ((∀ i, i < m.length → rowZ m i ≠ 0) ∧ (∀ j, j < m.length → colZ m j ≠ 0) ∧ allZ m ≤ 12)) ?_ ?_ ?_) ?_
 · {
 intro i hi _ hP q hq
 obtain ⟨h1, h2, h3⟩ := of_decide_eq_true hP
 refine Ev.step (fun _ => rfl) (Ev_pos (by omega) (Ev_pos (by omega) (Ev_pos (by omega) (Ev_val rfl ?_))))
 rw [rdL_nat, Int.toNat_natCast, containsFunc_eq m i hi h1, wrap_succ (by omega)]
 refine Ev_pos (by omega) (Ev.bind (allWithin_ev _ 0 12 (by omega)) (Ev_pos (decide_eq_true (fun j hj => h2 j (by omega))) (Ev_pos (by omega) (Ev_val rfl (Ev_neg ?_ hq)))))
 rw [decide_eq_true_iff]; exact fun hn => hn h3}
 · {
 intro i hi _ hP
 have hP := of_decide_eq_false hP
 refine Ev.step (fun _ => rfl) (Ev_pos (by omega) (Ev_pos (by omega) (Ev_pos (by omega) (Ev_val rfl ?_))))
 have hsm := hs.2 _ (getD_mem (z := []) (show i < m.length by omega))
 rw [rdL_nat]
 by_cases c1 : (m.getD i []).length = m.length
 · {
 refine Ev_pos (by omega) (Ev.bind (allWithin_ev _ 0 12 (by omega)) ?_)
 by_cases c2 : ∀ j, j < (m.getD i []).length → 0 ≤ (m.getD i []).getD j 0 ∧ (m.getD i []).getD j 0 ≤ 12
 · {
 refine Ev_pos (decide_eq_true c2) (Ev_pos (by omega) ?_)
 rw [Int.toNat_natCast, containsFunc_eq m i hi c1]
 exact Ev_val rfl (Ev_pos (decide_eq_true (fun h3 => hP ⟨c1, fun j hj => c2 j (by omega), h3⟩)) (Ev_some rfl))}
 · exact Ev_neg (by simpa using c2) (Ev_some rfl)}
 · exact Ev_neg (by omega) (Ev_some rfl)}
 · {
 intro h
 have hC : Cells m := fun i hi => by {
 obtain ⟨h1, h2, h3⟩ := of_decide_eq_true (h i hi)
 exact ⟨h1, fun j hj => ⟨(h2 j hj).1, (h2 j hj).2, h3 j hj⟩⟩}
 refine Ev.step (fun _ => rfl) (Ev_neg (by omega) (Ev.bind (sums_ev m hd hC) (Ev.bind (Index_ev _ 0 (by simp [rowsL]; omega)) ?_)))
 by_cases c1 : ∀ i, i < m.length → rowZ m i ≠ 0
 · {
 refine Ev_neg (by rw [decide_eq_true_iff, mem_rowsL]; exact fun hn => hn c1) (Ev.bind (Index_ev _ 0 (by simp [colsL]; omega)) ?_)
 by_cases c2 : ∀ i, i < m.length → colZ m i ≠ 0
 · exact Ev_neg (by rw [decide_eq_true_iff, mem_colsL]; exact fun hn => hn c2) (Ev.bind (sumOf_ev m hd hC) (Ev_some (dec_eq ⟨fun h => ⟨c1, c2, h⟩, fun h => h.2.2⟩)))
 · {
 refine Ev_pos (by rw [decide_eq_true_iff, mem_colsL]; exact c2) (Ev_some ?_)
 symm; rw [decide_eq_false_iff_not]; exact fun h => c2 h.2.1}}
 · {
 refine Ev_pos (by rw [decide_eq_true_iff, mem_rowsL]; exact c1) (Ev_some ?_)
 symm; rw [decide_eq_false_iff_not]; exact fun h => c1 h.1}}
 · {
 rw [← Bool.decide_and]
 refine dec_eq ⟨fun ⟨h, h1, h2, h3⟩ => ⟨hd, fun i hi => ?_, h1, h2, h3⟩, fun ⟨_, h, h1, h2, h3⟩ => ⟨fun i hi => decide_eq_true ⟨(h i hi).1, fun j hj => ⟨h.nn hi hj, h.le hi hj⟩, fun j hj hji => ((h i hi).2 j hj).2.2 hji⟩, h1, h2, h3⟩⟩
 obtain ⟨h4, h5, h6⟩ := of_decide_eq_true (h i hi)
 exact ⟨h4, fun j hj => ⟨(h5 j hj).1, (h5 j hj).2, h6 j hj⟩⟩}}
 · {
 refine Ev_pos (by omega) (Ev_some ?_)
 symm; rw [decide_eq_false_iff_not]; exact fun h => hd h.1}
theorem maTotal_ev (row : List Int) (hl : row.length ≤ 1000000) (hb : ∀ j, j < row.length → 0 ≤ row.getD j 0 ∧ row.getD j 0 ≤ 1000000) : Ev (fun k => spec_maTotal.f k row) (sumZ row.length (fun j => row.getD j 0)) := by
 unfold spec_maTotal.f
 have main : ∀ (d i : Nat), row.length - i = d → i ≤ row.length → Ev (fun k => spec_maTotal.l0 k (sumZ i (fun j => row.getD j 0)) row (row.length : Int) (i : Int)) (sumZ row.length (fun j => row.getD j 0)) := by {
 intro d
 induction d with
 | zero => {
 intro i hd hi
 obtain rfl : i = row.length := by omega
 exact Ev.step (fun _ => rfl) (Ev_neg (by omega) (Ev_some rfl))}
 | succ d ih => {
 intro i hd hi
 refine Ev.step (fun _ => rfl) (Ev_pos (by omega) (Ev_pos (by omega) (Ev_pos (by omega) ?_)))
 have h1 := sumZ_bound (n := i) (f := fun j => row.getD j 0) (B := 1000000) (by decide) (fun j hj => hb j (by omega))
 have h2 := hb i (by omega)
 rw [rd_nat, wrap_succ (by omega), wrap_small (by omega) (by omega)]
 exact ih (i + 1) (by omega) (by omega)}}
 exact main _ 0 rfl (by omega)
theorem Cells.rowTot {m : List (List Int)} (h : Cells m) (hd : m.length ≤ 12) {i : Nat} (hi : i < m.length) : Ev (fun k => spec_maTotal.f k (m.getD i [])) (rowZ m i) := by
 have hl := (h i hi).1
 have := maTotal_ev (m.getD i []) (by omega) (fun j hj => ⟨h.nn hi (by omega), by have := h.le hi (show j < m.length by omega); simp only [en] at this; omega⟩)
 rw [hl] at this
 exact this
theorem maSum_ev (m : List (List Int)) (hd : m.length ≤ 12) (h : Cells m) : Ev (fun k => spec_maSum.f k m) (allZ m) := by
 unfold spec_maSum.f
 have main : ∀ (d i : Nat), m.length - i = d → i ≤ m.length → Ev (fun k => spec_maSum.l0 k (sumZ i (fun i => rowZ m i)) m (m.length : Int) (i : Int)) (allZ m) := by {
 intro d
 induction d with
 | zero => {
 intro i hd hi
 obtain rfl : i = m.length := by omega
 exact Ev.step (fun _ => rfl) (Ev_neg (by omega) (Ev_some rfl))}
 | succ d ih => {
 intro i hd' hi
 refine Ev.step (fun _ => rfl) (Ev_pos (by omega) (Ev_pos (by omega) (Ev_pos (by omega) ?_)))
 have h1 := sumZ_bound (n := i) (f := fun i => rowZ m i) (B := 144) (by decide) (fun j hj => by have := h.row (show j < m.length by omega); omega)
 have h2 := h.row (show i < m.length by omega)
 rw [rdL_nat, wrap_succ (by omega)]
 refine Ev.bind (h.rowTot hd (by omega)) ?_
 rw [wrap_small (by omega) (by omega)]
 exact ih (i + 1) (by omega) (by omega)}}
 exact main _ 0 rfl (by omega)
def colL (m : List (List Int)) (j : Nat) : List Int := (List.range m.length).map fun (i : Nat) => en m i j
theorem maColumn_ev (m : List (List Int)) (hd : m.length ≤ 12) (h : Cells m) (j : Nat) (hj : j < m.length) : Ev (fun k => spec_maColumn.f k m (j : Int)) (colL m j) := by
 unfold spec_maColumn.f
 have main : ∀ (d i : Nat), m.length - i = d → i ≤ m.length → Ev (fun k => spec_maColumn.l0 k (j : Int) ((List.range i).map fun (i : Nat) => en m i j) m (m.length : Int) (i : Int)) (colL m j) := by {
 intro d
 induction d with
 | zero => {
 intro i hd hi
 obtain rfl : i = m.length := by omega
 exact Ev.step (fun _ => rfl) (Ev_neg (by omega) (Ev_some rfl))}
 | succ d ih => {
 intro i hd' hi
 refine Ev.step (fun _ => rfl) (Ev_pos (by omega) (Ev_pos (by omega) (Ev_pos (by omega) ?_)))
 have hl := (h i (by omega)).1
 rw [rdL_nat, rd_nat, wrap_succ (by omega)]
 refine Ev_pos (by omega) (Ev_pos (by omega) (Ev_pos (by simp; omega) ?_))
 have := ih (i + 1) (by omega) (by omega)
 rw [List.range_succ, List.map_append] at this
 exact this}}
 exact main _ 0 rfl (by omega)
def mostL (row : List Int) : Int := foldFrom row.length (fun s i => if row.getD i 0 > s then row.getD i 0 else s) (-1) 0
theorem l1Most_eq (a b : Int) : spec_l1Most.f a b = some (if b > a then b else a) := by
 unfold spec_l1Most.f
 by_cases h : a > b
 · rw [if_pos h, if_neg (by omega)]
 · {
 rw [if_neg h]
 by_cases h2 : b > a
 · rw [if_pos h2]
 · rw [if_neg h2, show a = b from by omega]}
theorem ivMost_ev (row : List Int) (hl : row.length ≤ 1000000) : Ev (fun k => spec_ivMost.f k row) (mostL row) := by
 unfold spec_ivMost.f
 refine (Ev_for (l := fun k s i => spec_ivMost.l0 k s row (row.length : Int) (i : Int)) row.length (fun s i => if row.getD i 0 > s then row.getD i 0 else s) id (fun _ _ => True) (fun _ _ _ _ => trivial) ?_ ?_ 0 (-1) (by omega) trivial).1
 · {
 intro i s hi _ r hr
 refine Ev.step (fun _ => rfl) (Ev_pos (by omega) (Ev_pos (by omega) (Ev_pos (by omega) ?_)))
 rw [rd_nat, wrap_succ (by omega), l1Most_eq]
 exact Ev_val rfl hr}
 · {
 intro s _
 exact Ev.step (fun _ => rfl) (Ev_neg (by omega) (Ev_some rfl))}
theorem mostL_zero {row : List Int} (hp : 0 < row.length) (h : ∀ j, j < row.length → 0 ≤ row.getD j 0) : mostL row = 0 ↔ ∀ j, j < row.length → row.getD j 0 = 0 := by
 have main : ∀ (d i : Nat) (s : Int), row.length - i = d → i ≤ row.length → (s = -1 ∧ i = 0 ∨ 0 ≤ s) → (foldFrom row.length (fun s i => if row.getD i 0 > s then row.getD i 0 else s) s i = 0 ↔ (s ≤ 0 ∧ ∀ j, i ≤ j → j < row.length → row.getD j 0 = 0)) := by {
 intro d
 induction d with
 | zero => {
 intro i s hd hi hs
 rw [foldFrom_ge (by omega)]
 exact ⟨fun h0 => ⟨by omega, fun j hij hj => by omega⟩, fun h0 => by omega⟩}
 | succ d ih => {
 intro i s hd hi hs
 have h1 := h i (by omega)
 rw [foldFrom_lt (by omega)]
 by_cases c : row.getD i 0 > s
 · {
 rw [if_pos c, ih (i + 1) _ (by omega) (by omega) (.inr h1)]
 refine ⟨fun ⟨h2, h3⟩ => ⟨by omega, fun j hij hj => ?_⟩, fun ⟨h2, h3⟩ => ⟨by have := h3 i (by omega) (by omega); omega, fun j hij hj => h3 j (by omega) hj⟩⟩
 by_cases e : j = i
 · rw [e]; omega
 · exact h3 j (by omega) hj}
 · {
 rw [if_neg c, ih (i + 1) _ (by omega) (by omega) (.inr (by omega))]
 refine ⟨fun ⟨h2, h3⟩ => ⟨by omega, fun j hij hj => ?_⟩, fun ⟨h2, h3⟩ => ⟨h2, fun j hij hj => h3 j (by omega) hj⟩⟩
 by_cases e : j = i
 · rw [e]; omega
 · exact h3 j (by omega) hj}}}
 unfold mostL
 rw [main _ 0 (-1) rfl (by omega) (.inl ⟨rfl, rfl⟩)]
 exact ⟨fun h0 j hj => h0.2 j (by omega) hj, fun h0 => ⟨by omega, fun j _ hj => h0 j hj⟩⟩
theorem l1In_eq (a b c : Int) : spec_l1In.f a b c = some (decide (b ≤ a ∧ a ≤ c)) := by
 unfold spec_l1In.f
 by_cases h : a ≥ b
 · rw [if_pos h]; have : b ≤ a := h; simp [this]
 · rw [if_neg h]; simp; omega
theorem l1All_ev (l : List Int) (lo hi : Int) (hs : l.length ≤ 4611686018427387000) : Ev (fun k => spec_l1All.f k l lo hi) (decide (∀ j, j < l.length → lo ≤ l.getD j 0 ∧ l.getD j 0 ≤ hi)) := by
 unfold spec_l1All.f
 refine Ev_eq (Ev_all (fun k i => spec_l1All.l0 k lo hi l (l.length : Int) (i : Int)) l.length (fun j => decide (lo ≤ l.getD j 0 ∧ l.getD j 0 ≤ hi)) true ?_ ?_ ?_) ?_
 · {
 intro i hi' _ hP q hq
 refine Ev.step (fun _ => rfl) (Ev_pos (by omega) (Ev_pos (by omega) (Ev_pos (by omega) ?_)))
 rw [rd_nat, wrap_succ (by omega), l1In_eq]
 exact Ev_val rfl (Ev_pos hP hq)}
 · {
 intro i hi' _ hP
 refine Ev.step (fun _ => rfl) (Ev_pos (by omega) (Ev_pos (by omega) (Ev_pos (by omega) ?_)))
 rw [rd_nat, l1In_eq]
 exact Ev_val rfl (Ev_neg (by rw [hP]; decide) (Ev_some rfl))}
 · {
 intro _
 exact Ev.step (fun _ => rfl) (Ev_neg (by omega) (Ev_some rfl))}
 · rw [Bool.and_true]; exact dec_eq ⟨fun h j hj => of_decide_eq_true (h j hj), fun h j hj => decide_eq_true (h j hj)⟩
def rowOk (m : List (List Int)) (i : Nat) : Prop := (m.getD i []).length = m.length ∧ (∀ j, j < m.length → 0 ≤ en m i j ∧ en m i j ≤ 12) ∧ rowZ m i ≠ 0 ∧ ∀ j, j < m.length → j < i → en m i j = 0
instance (m : List (List Int)) (i : Nat) : Decidable (rowOk m i) := inferInstanceAs (Decidable (_ ∧ _ ∧ _ ∧ ∀ j, j < m.length → _))
theorem cells_of_rows {m : List (List Int)} (h : ∀ i, i < m.length → rowOk m i) : Cells m := fun i hi => ⟨(h i hi).1, fun j hj => ⟨((h i hi).2.1 j hj).1, ((h i hi).2.1 j hj).2, fun hji => (h i hi).2.2.2 j hj hji⟩⟩
theorem rowMost (m : List (List Int)) (i : Nat) (hi : i < m.length) (hl : (m.getD i []).length = m.length) (hw : ∀ j, j < m.length → 0 ≤ en m i j ∧ en m i j ≤ 12) : mostL (m.getD i []) = 0 ↔ rowZ m i = 0 := by
 rw [mostL_zero (by omega) (fun j hj => (hw j (by omega)).1), rowZ, sumZ_zero (fun j hj => (hw j hj).1), hl]
 exact Iff.rfl
theorem maGood_l1 (m : List (List Int)) (hd : m.length ≤ 12) (i : Nat) (hi : i < m.length) (hl : (m.getD i []).length = m.length) (hw : ∀ j, j < m.length → 0 ≤ en m i j ∧ en m i j ≤ 12) (q : Bool)
    (hq : (∀ j, j < m.length → j < i → en m i j = 0) → Ev (fun k => spec_maGood.l0 k (m.length : Int) m (m.length : Int) ((i + 1 : Nat) : Int) m) q) :
    Ev (fun k => spec_maGood.l1 k (m.length : Int) (i : Int) m (m.length : Int) (i : Int) (m.getD i []) ((m.getD i []).length : Int) 0 m) (decide (∀ j, j < m.length → j < i → en m i j = 0) && q) := by
 rw [hl]
 refine Ev_eq (Ev_all (fun k j => spec_maGood.l1 k (m.length : Int) (i : Int) m (m.length : Int) (i : Int) (m.getD i []) (m.length : Int) (j : Int) m) m.length (fun j => decide (j < i → en m i j = 0)) q ?_ ?_ ?_) ?_
 · {
 intro j hj _ hP r hr
 refine Ev.step (fun _ => rfl) (Ev_pos (by omega) (Ev_pos (by omega) (Ev_pos (by omega) ?_)))
 rw [rd_nat, wrap_succ (by omega)]
 have hP := of_decide_eq_true hP
 by_cases c : j < i
 · exact Ev_pos (by omega) (Ev_neg (by have := hP c; simp only [en] at this; omega) hr)
 · exact Ev_neg (by omega) hr}
 · {
 intro j hj _ hP
 refine Ev.step (fun _ => rfl) (Ev_pos (by omega) (Ev_pos (by omega) (Ev_pos (by omega) ?_)))
 rw [rd_nat]
 have hP := of_decide_eq_false hP
 have h1 := hw j hj
 have h2 : en m i j ≠ 0 := fun h => hP (fun _ => h)
 have h3 : j < i := by {
 by_cases c : j < i
 · exact c
 · exact absurd (fun h => absurd h c) hP}
 exact Ev_pos (by omega) (Ev_pos (by simp only [en] at h1 h2; omega) (Ev_some rfl))}
 · {
 intro h
 refine Ev.step (fun _ => rfl) (Ev_neg (by omega) ?_)
 rw [wrap_succ (by omega)]
 exact hq (fun j hj => of_decide_eq_true (h j hj))}
 · congr 1; exact dec_eq ⟨fun h j hj => of_decide_eq_true (h j hj), fun h j hj => decide_eq_true (h j hj)⟩
theorem maGood_l2 (m : List (List Int)) (hd : m.length ≤ 12) (h : Cells m) : Ev (fun k => spec_maGood.l2 k (m.length : Int) 0 m) (decide ((∀ j, j < m.length → colZ m j ≠ 0) ∧ allZ m ≤ 12)) := by
  refine Ev_eq (Ev_all (fun k j => spec_maGood.l2 k (m.length : Int) (j : Int) m) m.length (fun j => decide (colZ m j ≠ 0)) (decide (allZ m ≤ 12)) ?_ ?_ ?_) ?_
  all_goals first
    | (intro j hj _ hP r hr
       refine Ev.step (fun _ => rfl) (Ev_pos (by omega) (Ev.bind (maColumn_ev m hd h j hj) (Ev.bind (ivMost_ev _ (by simp [colL]; omega)) ?_)))
       have hP := of_decide_eq_true hP
       have e : mostL (colL m j) = 0 ↔ colZ m j = 0 := by
         rw [mostL_zero (by simp [colL]; omega) (fun i hi => by rw [colL, mapR_getD _ _ (by simpa [colL] using hi)]; exact h.nn (by simpa [colL] using hi) hj), colZ, sumZ_zero (fun i hi => h.nn hi hj)]
         simp only [colL, mapR_length]
         exact ⟨fun h2 i hi => by have := h2 i hi; rwa [mapR_getD _ _ hi] at this, fun h2 i hi => by rw [mapR_getD _ _ hi]; exact h2 i hi⟩
       rw [wrap_succ (by omega)]
       exact Ev_neg (fun hh => hP (e.1 hh)) hr)
    | (intro j hj _ hP
       refine Ev.step (fun _ => rfl) (Ev_pos (by omega) (Ev.bind (maColumn_ev m hd h j hj) (Ev.bind (ivMost_ev _ (by simp [colL]; omega)) ?_)))
       have hP := of_decide_eq_false hP
       have e : mostL (colL m j) = 0 ↔ colZ m j = 0 := by
         rw [mostL_zero (by simp [colL]; omega) (fun i hi => by rw [colL, mapR_getD _ _ (by simpa [colL] using hi)]; exact h.nn (by simpa [colL] using hi) hj), colZ, sumZ_zero (fun i hi => h.nn hi hj)]
         simp only [colL, mapR_length]
         exact ⟨fun h2 i hi => by have := h2 i hi; rwa [mapR_getD _ _ hi] at this, fun h2 i hi => by rw [mapR_getD _ _ hi]; exact h2 i hi⟩
       exact Ev_pos (e.2 (Decidable.of_not_not hP)) (Ev_some rfl))
    | (intro _
       exact Ev.step (fun _ => rfl) (Ev_neg (by omega) (Ev.bind (maSum_ev m hd h) (Ev_some rfl))))
    | skip
  rw [Bool.decide_and]; congr 1; exact dec_eq ⟨fun h j hj => of_decide_eq_true (h j hj), fun h j hj => decide_eq_true (h j hj)⟩
theorem maGood_ev (m : List (List Int)) (hs : Small m) : Ev (fun k => spec_maGood.f k m) (decide (isMat m)) := by
 unfold spec_maGood.f
 by_cases hd : m.length ≤ 12
 · {
 refine Ev_neg (by omega) ?_
 by_cases hC : Cells m ∧ ∀ i, i < m.length → rowZ m i ≠ 0
 · {
 have key : ∀ (d i : Nat), m.length - i = d → i ≤ m.length → Ev (fun k => spec_maGood.l0 k (m.length : Int) m (m.length : Int) (i : Int) m) (decide ((∀ j, j < m.length → colZ m j ≠ 0) ∧ allZ m ≤ 12)) := by {
 intro d
 induction d with
 | zero => {
 intro i hdi hi
 exact Ev.step (fun _ => rfl) (Ev_neg (by omega) (maGood_l2 m hd hC.1))}
 | succ d ih => {
 intro i hdi hi
 have hl := (hC.1 i (by omega)).1
 have hw : ∀ j, j < m.length → 0 ≤ en m i j ∧ en m i j ≤ 12 := fun j hj => ⟨hC.1.nn (by omega) hj, hC.1.le (by omega) hj⟩
 refine Ev.step (fun _ => rfl) (Ev_pos (by omega) (Ev_pos (by omega) (Ev_pos (by omega) ?_)))
 rw [rdL_nat]
 refine Ev_pos (by omega) (Ev.bind (l1All_ev _ 0 12 (by omega)) (Ev_pos (decide_eq_true (fun j hj => hw j (by omega))) (Ev.bind (ivMost_ev _ (by omega)) ?_)))
 refine Ev.step (fun _ => rfl) (Ev_neg ?_ ?_)
 · rw [beq_iff_eq, rowMost m i (by omega) hl hw]; exact hC.2 i (by omega)
 · {
 refine Ev_eq (maGood_l1 m hd i (by omega) hl hw _ (fun _ => ih (i + 1) (by omega) (by omega))) ?_
 rw [decide_eq_true (fun j hj hji => ((hC.1 i (by omega)).2 j hj).2.2 hji), Bool.true_and]}}}
 refine Ev_eq (key _ 0 rfl (by omega)) (dec_eq ⟨fun h => ⟨hd, hC.1, hC.2, h.1, h.2⟩, fun h => ⟨h.2.2.2.1, h.2.2.2.2⟩⟩)}
 · {
 have key : ∀ (d i : Nat), m.length - i = d → i ≤ m.length → (∀ j, j < i → rowOk m j) → Ev (fun k => spec_maGood.l0 k (m.length : Int) m (m.length : Int) (i : Int) m) false := by {
 intro d
 induction d with
 | zero => {
 intro i hdi hi h
 exact absurd ⟨cells_of_rows (fun j hj => h j (by omega)), fun j hj => (h j (by omega)).2.2.1⟩ hC}
 | succ d ih => {
 intro i hdi hi h
 have hout : ∀ (b : Bool), b = true → Ev (fun k => spec_maGood.j1 k (m.length : Int) (i : Int) (m.getD i []) m (m.length : Int) (i : Int) b m) false := fun b hb => Ev.step (fun _ => rfl) (Ev_pos hb (Ev_some rfl))
 refine Ev.step (fun _ => rfl) (Ev_pos (by omega) (Ev_pos (by omega) (Ev_pos (by omega) ?_)))
 rw [rdL_nat]
 have hsm := hs.2 _ (getD_mem (z := []) (show i < m.length by omega))
 by_cases c1 : (m.getD i []).length = m.length
 · {
 refine Ev_pos (by omega) (Ev.bind (l1All_ev _ 0 12 (by omega)) ?_)
 by_cases c2 : ∀ j, j < (m.getD i []).length → 0 ≤ (m.getD i []).getD j 0 ∧ (m.getD i []).getD j 0 ≤ 12
 · {
 have hw : ∀ j, j < m.length → 0 ≤ en m i j ∧ en m i j ≤ 12 := fun j hj => c2 j (by omega)
 refine Ev_pos (decide_eq_true c2) (Ev.bind (ivMost_ev _ (by omega)) ?_)
 by_cases c3 : rowZ m i = 0
 · exact hout _ (by rw [beq_iff_eq, rowMost m i (by omega) c1 hw]; exact c3)
 · {
 refine Ev.step (fun _ => rfl) (Ev_neg (by rw [beq_iff_eq, rowMost m i (by omega) c1 hw]; exact c3) ?_)
 refine Ev_eq (maGood_l1 m hd i (by omega) c1 hw false (fun h4 => ih (i + 1) (by omega) (by omega) (fun j hj => ?_))) (by simp)
 by_cases e : j = i
 · rw [e]; exact ⟨c1, hw, c3, h4⟩
 · exact h j (by omega)}}
 · exact Ev_neg (by simpa using c2) (hout _ rfl)}
 · exact Ev_neg (by omega) (hout _ rfl)}}
 refine Ev_eq (key _ 0 rfl (by omega) (fun j hj => by omega)) ?_
 symm; rw [decide_eq_false_iff_not]; exact fun h => hC ⟨h.2.1, h.2.2.1⟩}}
 · {
 refine Ev_pos (by omega) (Ev_some ?_)
 symm; rw [decide_eq_false_iff_not]; exact fun h => hd h.1}
def Sq (m : List (List Int)) : Prop := ∀ i, i < m.length → (m.getD i []).length = m.length ∧ ∀ j, j < m.length → 0 ≤ en m i j
theorem Sq.nn {m : List (List Int)} (h : Sq m) {i j : Nat} (hi : i < m.length) (hj : j < m.length) : 0 ≤ en m i j := (h i hi).2 j hj
def Bd (B : Int) (m : List (List Int)) : Prop := ∀ r ∈ m, r.length = m.length ∧ ∀ v ∈ r, 0 ≤ v ∧ v ≤ B
theorem Bd.sq {B : Int} {m : List (List Int)} (h : Bd B m) : Sq m := fun i hi => by
  have h1 := h _ (getD_mem (z := []) hi)
  exact ⟨h1.1, fun j hj => (h1.2 _ (getD_mem (z := 0) (by rw [h1.1]; exact hj))).1⟩
def seekTop (m : List (List Int)) : Nat → Nat → Int
  | 0, _ => -1
  | n + 1, i => if en m i (m.length - 1) ≠ 0 then (i : Int) else seekTop m n (i + 1)
def topI (m : List (List Int)) : Int := seekTop m m.length 0
theorem maTop_ev (m : List (List Int)) (hd : m.length ≤ 12) (h : Sq m) : Ev (fun k => spec_maTop.f k m) (topI m) := by
 unfold spec_maTop.f topI
 have main : ∀ (n i : Nat), m.length - i = n → i ≤ m.length → Ev (fun k => spec_maTop.l0 k m (m.length : Int) (i : Int)) (seekTop m n i) := by {
 intro n
 induction n with
 | zero => {
 intro i hn hi
 exact Ev.step (fun _ => rfl) (Ev_neg (by omega) (Ev_some rfl))}
 | succ n ih => {
 intro i hn hi
 have hl := (h i (by omega)).1
 have h0 := h.nn (show i < m.length by omega) (show m.length - 1 < m.length by omega)
 refine Ev.step (fun k => by rw [spec_maTop.l0]) (Ev_pos (by omega) (Ev_pos (by omega) (Ev_pos (by omega) ?_)))
 rw [rdL_nat, hl, show (m.length : Int) - 1 = ((m.length - 1 : Nat) : Int) from by omega, wrap_small (by omega) (by omega), rd_nat, wrap_succ (by omega)]
 refine Ev_pos (by omega) (Ev_pos (by omega) ?_)
 rw [seekTop]
 by_cases c : en m i (m.length - 1) ≠ 0
 · rw [if_pos c]; exact Ev_pos (by simp only [en] at c h0; omega) (Ev_some rfl)
 · rw [if_neg c]; exact Ev_neg (by simp only [en] at c h0; omega) (ih (i + 1) (by omega) (by omega))}}
 exact main _ 0 rfl (by omega)
theorem top_eq (m : List (List Int)) (hd : m.length ≤ 12) (h : Sq m) : impl_Matrix_top.f m = some (topI m) := by
 unfold impl_Matrix_top.f slices_IndexFunc_int_int_144.f topI
 have main : ∀ (n i : Nat), m.length - i = n → i ≤ m.length → slices_IndexFunc_int_int_144.seek (m.drop i) (i : Int) = some (seekTop m n i) := by {
 intro n
 induction n with
 | zero => {
 intro i hn hi
 rw [List.drop_eq_nil_of_le (by omega)]; rfl}
 | succ n ih => {
 intro i hn hi
 have hl := (h i (by omega)).1
 have e := getD_lt m i [] (by omega)
 rw [List.drop_eq_getElem_cons (by omega), slices_IndexFunc_int_int_144.seek, ← e]
 unfold impl_Matrix_top_1.f
 rw [hl, show (m.length : Int) - 1 = ((m.length - 1 : Nat) : Int) from by omega, wrap_small (by omega) (by omega), rd_nat, if_pos (by omega), if_pos (by omega), Option.bind_some, seekTop]
 by_cases c : en m i (m.length - 1) ≠ 0
 · rw [if_pos c, if_pos (by simpa [en] using c)]
 · {
 rw [if_neg c, if_neg (by simpa [en] using c)]
 exact ih (i + 1) (by omega) (by omega)}}}
 have := main _ 0 rfl (by omega)
 rw [List.drop_zero] at this
 rw [show ((0 : Nat) : Int) = 0 from rfl] at this
 rw [this]; rfl
theorem own_ev (m : List (List Int)) (hs : Small m) : Ev (fun k => impl_Matrix_own.f k m) m := by
 unfold impl_Matrix_own.f
 have hl := hs.1
 have main : ∀ (d i : Nat), m.length - i = d → i ≤ m.length → Ev (fun k => impl_Matrix_own.l0 k m (m.length : Int) (i : Int) (m.take i)) m := by {
 intro d
 induction d with
 | zero => {
 intro i hd hi
 obtain rfl : i = m.length := by omega
 exact Ev.step (fun _ => rfl) (Ev_neg (by omega) (Ev_some (by simp)))}
 | succ d ih => {
 intro i hd hi
 have hi' : i < m.length := by omega
 refine Ev.step (fun _ => rfl) (Ev_pos (by omega) (Ev_pos (by omega) (Ev_pos (by omega) ?_)))
 rw [rdL_nat, wrap_succ (by omega)]
 have hr := hs.2 _ (getD_mem (z := []) hi')
 refine Ev_val (show slices_Clone_int_int.f (m.getD i []) = some (m.getD i []) from if_pos (by omega)) (Ev_pos (by rw [List.length_take]; omega) ?_)
 have := ih (i + 1) (by omega) (by omega)
 rw [List.take_succ_eq_append_getElem hi', ← getD_lt m i [] hi'] at this
 exact this}}
 have := main _ 0 rfl (by omega)
 simpa using this
theorem insertIdx_cut {β : Type} : ∀ (l : List β) (x : Nat) (z : β), x ≤ l.length → l.insertIdx x z = l.take x ++ [z] ++ l.drop x
  | _, 0, _, _ => by simp
  | [], _ + 1, _, h => by simp at h
  | a :: l, x + 1, z, h => by
    rw [List.insertIdx_succ_cons, insertIdx_cut l x z (by simp at h; omega)]; simp
theorem insGet {β : Type} (xs : List β) (i j : Nat) (x : β) (hi : i ≤ xs.length) : (xs.insertIdx i x)[j]? = if j < i then xs[j]? else if j = i then some x else xs[j - 1]? := by
 rw [List.getElem?_insertIdx]
 by_cases c : j < i
 · rw [if_pos c, if_pos c]
 · {
 rw [if_neg c, if_neg c]
 by_cases c2 : j = i
 · rw [if_pos c2, if_pos c2, if_pos (by omega)]
 · rw [if_neg c2, if_neg c2]}
theorem get?_lt {α : Type} (xs : List α) (i : Nat) (z : α) (h : i < xs.length) : xs[i]? = some (xs.getD i z) := by rw [getD_lt xs i z h, List.getElem?_eq_getElem h]
def gRow (m : List (List Int)) (x d i : Nat) : List Int := if i = x then (List.replicate (d + 1) (0 : Int)).set d 1 else if x < i then (m.getD (i - 1) []).insertIdx x 0 else if x < d then impl_Matrix_grown.fix x d ((m.getD i []).insertIdx x 0) else (m.getD i []).insertIdx x 0
def growM (m : List (List Int)) (x : Nat) : List (List Int) := if (x : Int) ≤ topI m then impl_Matrix_grown.inc m x else (List.range (m.length + 1)).map (gRow m x m.length)
theorem wide2_get (m : List (List Int)) (x : Nat) (hx : x ≤ m.length) (j : Nat) (hj : j ≤ m.length) : (impl_Matrix_grown.wide2 m x)[j]? = some (if j < x then (m.getD j []).insertIdx x 0 else if j = x then List.replicate (m.length + 1) 0 else (m.getD (j - 1) []).insertIdx x 0) := by
 rw [impl_Matrix_grown.wide2, impl_Matrix_grown.wide1_full, insGet _ _ _ _ (by rw [List.length_map]; exact hx)]
 by_cases c : j < x
 · rw [if_pos c, if_pos c, List.getElem?_map, get?_lt m j [] (by omega)]; rfl
 · {
 rw [if_neg c, if_neg c]
 by_cases c2 : j = x
 · rw [if_pos c2, if_pos c2]
 · rw [if_neg c2, if_neg c2, List.getElem?_map, get?_lt m (j - 1) [] (by omega)]; rfl}
theorem wide3_get (m : List (List Int)) (x : Nat) (hx : x ≤ m.length) (j : Nat) (hj : j ≤ m.length) : (impl_Matrix_grown.wide3 m x x)[j]? = some (if j < x then impl_Matrix_grown.fix x m.length ((m.getD j []).insertIdx x 0) else if j = x then List.replicate (m.length + 1) 0 else (m.getD (j - 1) []).insertIdx x 0) := by
 have hl := impl_Matrix_grown.wide2_len m x hx
 have hk := wide2_get m x hx j hj
 rw [impl_Matrix_grown.wide3]
 by_cases c : j < x
 · rw [List.getElem?_append_left (by rw [List.length_map, List.length_take]; omega), List.getElem?_map, List.getElem?_take, if_pos c, hk, if_pos c, if_pos c]; rfl
 · rw [List.getElem?_append_right (by rw [List.length_map, List.length_take]; omega), List.getElem?_drop, List.length_map, List.length_take, hl, show x + (j - min x (m.length + 1)) = j from by omega, hk, if_neg c, if_neg c]
theorem wide3_len (m : List (List Int)) (x : Nat) (hx : x ≤ m.length) : (impl_Matrix_grown.wide3 m x x).length = m.length + 1 := by
 have hl := impl_Matrix_grown.wide2_len m x hx
 rw [impl_Matrix_grown.wide3, List.length_append, List.length_map, List.length_take, List.length_drop]; omega
theorem wide_eq (m : List (List Int)) (x : Nat) (hx : x ≤ m.length) : impl_Matrix_grown.wide m x = (List.range (m.length + 1)).map (gRow m x m.length) := by
 have fin : ∀ (q : List (List Int)), q.length = m.length + 1 → (∀ j, j ≤ m.length → q[j]? = some (if j = x then List.replicate (m.length + 1) 0 else gRow m x m.length j)) → impl_Matrix_grown.last m q x = (List.range (m.length + 1)).map (gRow m x m.length) := by {
 intro q hl hq
 apply List.ext_getElem?
 intro j
 rw [impl_Matrix_grown.last, List.getElem?_set, List.getElem?_map]
 by_cases hj : j ≤ m.length
 · {
 rw [List.getElem?_eq_getElem (l := List.range (m.length + 1)) (by simp; omega), List.getElem_range, Option.map_some]
 have hx2 := hq x hx
 rw [if_pos rfl] at hx2
 by_cases c : x = j
 · {
 subst c
 rw [if_pos rfl, if_pos (by omega), List.getD_eq_getElem?_getD, hx2, gRow, if_pos rfl]; rfl}
 · rw [if_neg c, hq j hj, if_neg (fun h => c h.symm)]}
 · rw [if_neg (by omega), List.getElem?_eq_none (by omega), List.getElem?_eq_none (by simp; omega)]; rfl}
 rw [impl_Matrix_grown.wide]
 by_cases c : x < m.length
 · {
 rw [if_pos c]
 refine fin _ (wide3_len m x hx) (fun j hj => ?_)
 rw [wide3_get m x hx j hj, gRow]
 congr 1
 by_cases c1 : j < x
 · rw [if_pos c1, if_neg (by omega), if_neg (by omega), if_neg (by omega), if_pos c]
 · {
 rw [if_neg c1]
 by_cases c2 : j = x
 · rw [if_pos c2, if_pos c2]
 · rw [if_neg c2, if_neg c2, if_neg c2, if_pos (by omega)]}}
 · {
 rw [if_neg c]
 refine fin _ (impl_Matrix_grown.wide2_len m x hx) (fun j hj => ?_)
 rw [wide2_get m x hx j hj, gRow]
 congr 1
 by_cases c1 : j < x
 · rw [if_pos c1, if_neg (by omega), if_neg (by omega), if_neg (by omega), if_neg c]
 · {
 rw [if_neg c1]
 by_cases c2 : j = x
 · rw [if_pos c2, if_pos c2]
 · omega}}
theorem seekTop_lt (m : List (List Int)) : ∀ (n i : Nat), seekTop m n i < ((i + n : Nat) : Int) ∧ -1 ≤ seekTop m n i
  | 0, i => by rw [seekTop]; omega
  | n + 1, i => by
    rw [seekTop]
    have := seekTop_lt m n (i + 1)
    by_cases c : en m i (m.length - 1) ≠ 0
    · rw [if_pos c]; omega
    · rw [if_neg c]; omega
theorem topI_lt (m : List (List Int)) : topI m < (m.length : Int) ∧ -1 ≤ topI m := by have := seekTop_lt m m.length 0; rw [topI]; omega
theorem grown_ev (m : List (List Int)) (hd : m.length ≤ 12) (h : Sq m) (hs : Small m) (x : Nat) (hx : x ≤ m.length) : Ev (fun k => impl_Matrix_grown.f k m (x : Int)) (growM m x) := by
 unfold impl_Matrix_grown.f
 refine Ev.bind (own_ev m hs) (Ev_pos ⟨rfl, by omega, fun r hr => ?_, by omega, by omega⟩ ⟨0, fun _ _ => ?_⟩)
 · {
 obtain ⟨i, hi, rfl⟩ := List.getElem_of_mem hr
 rw [← getD_lt m i [] hi]; exact (h i hi).1}
 · {
 unfold impl_Matrix_grown.go growM
 rw [top_eq m hd h, Option.bind_some, Int.toNat_natCast]
 have ht := topI_lt m
 by_cases c0 : 0 < m.length
 · {
 rw [if_pos c0]
 by_cases c : (x : Int) ≤ topI m
 · rw [if_pos c, if_pos c, if_pos (by omega)]
 · rw [if_neg c, if_neg c, wide_eq m x hx]}
 · rw [if_neg c0, if_neg (by omega), wide_eq m x hx]}
theorem maOwn_ev (m : List (List Int)) (hs : Small m) : Ev (fun k => spec_maOwn.f k m) m := by
 unfold spec_maOwn.f
 have hl := hs.1
 have main : ∀ (d i : Nat), m.length - i = d → i ≤ m.length → Ev (fun k => spec_maOwn.l0 k m (m.length : Int) (i : Int) (m.take i)) m := by {
 intro d
 induction d with
 | zero => {
 intro i hd hi
 obtain rfl : i = m.length := by omega
 exact Ev.step (fun _ => rfl) (Ev_neg (by omega) (Ev_some (by simp)))}
 | succ d ih => {
 intro i hd hi
 have hi' : i < m.length := by omega
 refine Ev.step (fun _ => rfl) (Ev_pos (by omega) (Ev_pos (by omega) (Ev_pos (by omega) ?_)))
 rw [rdL_nat, wrap_succ (by omega)]
 have hr := hs.2 _ (getD_mem (z := []) hi')
 refine Ev_val (show spec_l1Own.f (m.getD i []) = some (m.getD i []) from by unfold spec_l1Own.f; rw [Option.bind_some, List.nil_append]; exact if_pos (by simp only [List.length_nil]; omega)) (Ev_pos (by rw [List.length_take]; omega) ?_)
 have := ih (i + 1) (by omega) (by omega)
 rw [List.take_succ_eq_append_getElem hi', ← getD_lt m i [] hi'] at this
 exact this}}
 have := main _ 0 rfl (by omega)
 simpa using this
theorem maWide_eq (r : List Int) (x : Nat) (hx : x ≤ r.length) (hl : r.length ≤ 1048576) : spec_maWide.f r (x : Int) = some (r.insertIdx x 0) := by
  unfold spec_maWide.f spec_l1Own.f
  rw [if_pos (by omega), if_pos (by omega), Int.toNat_natCast, Option.bind_some, List.nil_append, if_pos (by simp only [List.length_nil, List.length_take]; omega), Option.bind_some, Option.bind_some,
    if_pos (by simp only [List.length_cons, List.length_nil, List.length_take]; omega), Option.bind_some, if_pos (by simp only [List.length_append, List.length_cons, List.length_nil, List.length_take, List.length_drop]; omega), insertIdx_cut r x 0 hx]
theorem gRow_len (m : List (List Int)) (h : Sq m) (x : Nat) (hx : x ≤ m.length) (i : Nat) (hi : i ≤ m.length) : (gRow m x m.length i).length = m.length + 1 := by
 have hin : ∀ j, j < m.length → ((m.getD j []).insertIdx x 0).length = m.length + 1 := fun j hj => by {
 have := (h j hj).1
 rw [List.length_insertIdx, if_pos (by omega), this]}
 unfold gRow
 by_cases c : i = x
 · rw [if_pos c]; simp
 · {
 rw [if_neg c]
 by_cases c2 : x < i
 · rw [if_pos c2]; exact hin _ (by omega)
 · {
 rw [if_neg c2]
 by_cases c3 : x < m.length
 · rw [if_pos c3, impl_Matrix_grown.fix, List.length_set, List.length_set]; exact hin _ (by omega)
 · rw [if_neg c3]; exact hin _ (by omega)}}
theorem maGrow_ev (m : List (List Int)) (hd : m.length ≤ 12) (h : Sq m) (hs : Small m) (x : Nat) (hx : x ≤ m.length) : Ev (fun k => spec_maGrow.f k m (x : Int)) (growM m x) := by
 unfold spec_maGrow.f growM
 have ht := topI_lt m
 refine Ev.bind (maTop_ev m hd h) ?_
 by_cases c : (x : Int) ≤ topI m
 · {
 rw [if_pos c]
 have hl := (h x (by omega)).1
 refine Ev_pos c (Ev.bind (maOwn_ev m hs) (Ev_pos (by omega) (Ev_pos (by omega) ?_)))
 rw [rdL_nat, hl, show (m.length : Int) - 1 = ((m.length - 1 : Nat) : Int) from by omega, wrap_small (by omega) (by omega)]
 refine Ev_pos (by omega) (Ev_pos (by omega) (Ev_some ?_))
 rw [rd_nat, Int.toNat_natCast, Int.toNat_natCast]; rfl}
 · {
 rw [if_neg c]
 refine Ev_neg c ?_
 have main : ∀ (d i : Nat), m.length + 1 - i = d → i ≤ m.length + 1 → Ev (fun k => spec_maGrow.l0 k (x : Int) (m.length : Int) (i : Int) m ((List.range i).map (gRow m x m.length))) ((List.range (m.length + 1)).map (gRow m x m.length)) := by {
 intro d
 induction d with
 | zero => {
 intro i hd' hi
 obtain rfl : i = m.length + 1 := by omega
 exact Ev.step (fun _ => rfl) (Ev_neg (by omega) (Ev_some rfl))}
 | succ d ih => {
 intro i hd' hi
 have next := ih (i + 1) (by omega) (by omega)
 rw [List.range_succ, List.map_append] at next
 refine Ev.step (fun _ => rfl) (Ev_pos (by omega) ?_)
 rw [wrap_succ (i := i) (by omega)]
 by_cases c1 : i = x
 · {
 refine Ev_pos (by omega) ?_
 rw [wrap_succ (i := m.length) (by omega), Int.toNat_natCast, Int.toNat_natCast]
 refine Ev_pos (by omega) (Ev_pos (by omega) (Ev_val rfl (Ev_pos (by omega) (Ev_pos (by simp; omega) (Ev_pos (by simp; omega) ?_)))))
 simp only [List.map_cons, List.map_nil, gRow, if_pos c1] at next
 exact next}
 · {
 refine Ev_neg (by omega) ?_
 by_cases c2 : x < i
 · {
 have hl := (h (i - 1) (by omega)).1
 refine Ev_pos (by omega) ?_
 rw [show (i : Int) - 1 = ((i - 1 : Nat) : Int) from by omega, wrap_small (by omega) (by omega), rdL_nat]
 refine Ev_pos (by omega) (Ev_pos (by omega) (Ev_val (maWide_eq _ x (by omega) (by omega)) (Ev_pos (by simp; omega) ?_)))
 simp only [List.map_cons, List.map_nil, gRow, if_neg c1, if_pos c2] at next
 exact next}
 · {
 have hl := (h i (by omega)).1
 refine Ev_neg (by omega) (Ev_pos (by omega) (Ev_pos (by omega) ?_))
 rw [rdL_nat]
 refine Ev_val (maWide_eq _ x (by omega) (by omega)) ?_
 by_cases c3 : x < m.length
 · {
 have hil : ((m.getD i []).insertIdx x 0).length = m.length + 1 := by rw [List.length_insertIdx, if_pos (by omega), hl]
 refine Ev_pos (by omega) (Ev_pos (by omega) (Ev_pos (by omega) (Ev_pos (by omega) (Ev_pos (by omega) (Ev_pos (by simp; omega) ?_)))))
 rw [Int.toNat_natCast, Int.toNat_natCast, rd_nat]
 simp only [List.map_cons, List.map_nil, gRow, if_neg c1, if_neg c2, if_pos c3, impl_Matrix_grown.fix] at next
 exact next}
 · {
 refine Ev_neg (by omega) (Ev_pos (by simp; omega) ?_)
 simp only [List.map_cons, List.map_nil, gRow, if_neg c1, if_neg c2, if_neg c3] at next
 exact next}}}}}
 exact main _ 0 rfl (by omega)}
theorem seekTop_pre (m : List (List Int)) : ∀ (n i j : Nat), i ≤ j → (j : Int) < seekTop m n i → en m j (m.length - 1) = 0
  | 0, i, j, h1, h2 => by rw [seekTop] at h2; omega
  | n + 1, i, j, h1, h2 => by
    rw [seekTop] at h2
    by_cases c : en m i (m.length - 1) ≠ 0
    · rw [if_pos c] at h2; omega
    · rw [if_neg c] at h2
      by_cases e : j = i
      · rw [e]; simpa using c
      · exact seekTop_pre m n (i + 1) j (by omega) h2
theorem seekTop_is (m : List (List Int)) (x : Nat) (hx : en m x (m.length - 1) ≠ 0) (h0 : ∀ j, j < x → en m j (m.length - 1) = 0) : ∀ (n i : Nat), i ≤ x → x < i + n → seekTop m n i = (x : Int)
  | 0, i, h1, h2 => by omega
  | n + 1, i, h1, h2 => by
    rw [seekTop]
    by_cases e : i = x
    · rw [e, if_pos hx]
    · rw [if_neg (by rw [h0 i (by omega)]; simp)]
      exact seekTop_is m x hx h0 n (i + 1) (by omega) (by omega)
theorem mem_ins {r : List Int} {x : Nat} {v : Int} (h : v ∈ r.insertIdx x 0) : v ∈ r ∨ v = 0 := by
 by_cases c : x ≤ r.length
 · {
 rw [insertIdx_cut r x 0 c] at h
 rcases List.mem_append.1 h with h | h
 · {
 rcases List.mem_append.1 h with h | h
 · exact .inl (List.mem_of_mem_take h)
 · exact .inr (by simpa using h)}
 · exact .inl (List.mem_of_mem_drop h)}
 · rw [List.insertIdx_of_length_lt (by omega)] at h; exact .inl h
theorem gRow_bd (m : List (List Int)) (B : Int) (hB : 0 ≤ B) (h : Bd B m) (x : Nat) (hx : x ≤ m.length) (i : Nat) (hi : i ≤ m.length) : ∀ v ∈ gRow m x m.length i, 0 ≤ v ∧ v ≤ B + 1 := by
 have hr : ∀ j, j < m.length → ∀ v ∈ (m.getD j []).insertIdx x 0, 0 ≤ v ∧ v ≤ B + 1 := fun j hj v hv => by {
 rcases mem_ins hv with h1 | h1
 · have := (h _ (getD_mem (z := []) hj)).2 v h1; omega
 · omega}
 have hd : ∀ j, j < m.length → ∀ q, 0 ≤ ((m.getD j []).insertIdx x 0).getD q 0 ∧ ((m.getD j []).insertIdx x 0).getD q 0 ≤ B + 1 := fun j hj q => by {
 by_cases c : q < ((m.getD j []).insertIdx x 0).length
 · exact hr j hj _ (getD_mem (z := 0) c)
 · rw [List.getD_eq_getElem?_getD, List.getElem?_eq_none (by omega)]; show (0 : Int) ≤ 0 ∧ (0 : Int) ≤ B + 1; omega}
 intro v hv
 unfold gRow at hv
 by_cases c : i = x
 · {
 rw [if_pos c] at hv
 rcases List.mem_or_eq_of_mem_set hv with h1 | h1
 · have := List.eq_of_mem_replicate h1; omega
 · omega}
 · {
 rw [if_neg c] at hv
 by_cases c2 : x < i
 · rw [if_pos c2] at hv; exact hr _ (by omega) v hv
 · {
 rw [if_neg c2] at hv
 by_cases c3 : x < m.length
 · {
 rw [if_pos c3, impl_Matrix_grown.fix] at hv
 rcases List.mem_or_eq_of_mem_set hv with h1 | h1
 · {
 rcases List.mem_or_eq_of_mem_set h1 with h1 | h1
 · exact hr _ (by omega) v h1
 · rw [h1]; exact hd _ (by omega) _}
 · omega}
 · rw [if_neg c3] at hv; exact hr _ (by omega) v hv}}
theorem getD_map_range (n : Nat) (f : Nat → List Int) {i : Nat} (h : i < n) : ((List.range n).map f).getD i [] = f i := by rw [getD_lt _ _ _ (by simpa using h)]; simp
theorem grow_inv (m : List (List Int)) (B : Int) (hB : 0 ≤ B) (hB2 : B ≤ 1000) (h : Bd B m) (hd : m.length ≤ 100) (x : Nat) (hx : x ≤ m.length) :
    Bd (B + 1) (growM m x) ∧ topI (growM m x) = (x : Int) ∧ (growM m x).length = if (x : Int) ≤ topI m then m.length else m.length + 1 := by
 have ht := topI_lt m
 by_cases c : (x : Int) ≤ topI m
 · {
 have hxl : x < m.length := by omega
 have hrow := h _ (getD_mem (z := []) hxl)
 have hlen : (growM m x).length = m.length := by rw [growM, if_pos c, impl_Matrix_grown.inc, List.length_set]
 have hv := hrow.2 ((m.getD x []).getD (m.length - 1) 0) (getD_mem (z := 0) (by rw [hrow.1]; omega))
 have hw : wrap64 ((m.getD x []).getD (m.length - 1) 0 + 1) = (m.getD x []).getD (m.length - 1) 0 + 1 := wrap_small (by omega) (by omega)
 have hx0 : en (growM m x) x ((growM m x).length - 1) ≠ 0 := by {
 rw [hlen, growM, if_pos c, impl_Matrix_grown.inc, hw, en, List.getD_eq_getElem?_getD (l := m.set _ _), List.getElem?_set_self hxl, Option.getD_some, List.getD_eq_getElem?_getD (l := List.set _ _ _), List.getElem?_set_self (by rw [hrow.1]; omega), Option.getD_some]
 omega}
 have hj0 : ∀ j, j < x → en (growM m x) j ((growM m x).length - 1) = 0 := fun j hj => by {
 have := seekTop_pre m m.length 0 j (by omega) (by rw [topI] at c; omega)
 rw [hlen, growM, if_pos c, impl_Matrix_grown.inc, en, List.getD_eq_getElem?_getD (l := m.set _ _), List.getElem?_set_ne (by omega), ← List.getD_eq_getElem?_getD]
 exact this}
 refine ⟨fun r hr => ?_, ?_, by rw [hlen, if_pos c]⟩
 · {
 rw [hlen]
 rw [growM, if_pos c, impl_Matrix_grown.inc] at hr
 rcases List.mem_or_eq_of_mem_set hr with h1 | h1
 · exact ⟨(h r h1).1, fun v hv => by have := (h r h1).2 v hv; omega⟩
 · {
 rw [h1, List.length_set]
 refine ⟨hrow.1, fun v hv2 => ?_⟩
 rcases List.mem_or_eq_of_mem_set hv2 with h2 | h2
 · have := hrow.2 v h2; omega
 · rw [h2, hw]; omega}}
 · {
 rw [topI]
 exact seekTop_is _ x hx0 hj0 _ 0 (by omega) (by rw [hlen]; omega)}}
 · {
 have hG : growM m x = (List.range (m.length + 1)).map (gRow m x m.length) := by rw [growM, if_neg c]
 have hlen : (growM m x).length = m.length + 1 := by rw [hG]; simp
 have hrl := gRow_len m h.sq x hx
 have hx0 : en (growM m x) x ((growM m x).length - 1) ≠ 0 := by {
 rw [hlen, hG, en, getD_map_range _ _ (by omega), gRow, if_pos rfl, show m.length + 1 - 1 = m.length from rfl, List.getD_eq_getElem?_getD, List.getElem?_set_self (by simp)]
 simp}
 have hj0 : ∀ j, j < x → en (growM m x) j ((growM m x).length - 1) = 0 := fun j hj => by {
 have hil := (h.sq j (by omega)).1
 rw [hlen, hG, en, getD_map_range _ _ (by omega), gRow, if_neg (by omega), if_neg (by omega), show m.length + 1 - 1 = m.length from rfl]
 by_cases c3 : x < m.length
 · rw [if_pos c3, impl_Matrix_grown.fix, List.getD_eq_getElem?_getD, List.getElem?_set_self (by rw [List.length_set, List.length_insertIdx, if_pos (by omega)]; omega)]; rfl
 · rw [if_neg c3, List.getD_eq_getElem?_getD, insGet _ _ _ _ (by omega), if_neg (by omega), if_pos (by omega)]; rfl}
 refine ⟨fun r hr => ?_, ?_, by rw [hlen, if_neg c]⟩
 · {
 rw [hG] at hr
 obtain ⟨i, hi, rfl⟩ := List.mem_map.1 hr
 have hi' := List.mem_range.1 hi
 exact ⟨by rw [hlen]; exact hrl i (by omega), gRow_bd m B hB h x hx i (by omega)⟩}
 · {
 rw [topI]
 exact seekTop_is _ x hx0 hj0 _ 0 (by omega) (by rw [hlen]; omega)}}
def ascN (l : List Int) : Nat → Nat
  | 0 => 0
  | i + 1 => ascN l i + if 0 < i ∧ l.getD (i - 1) 0 < l.getD i 0 then 1 else 0
theorem ascN_le (l : List Int) : ∀ i, ascN l i ≤ i
  | 0 => Nat.le_refl _
  | i + 1 => by rw [ascN]; have := ascN_le l i; split <;> omega
def bndA (l : List Int) (i : Nat) : Int := if i = 0 then 0 else (ascN l i : Int) + 1
def AscOk (l : List Int) : Prop := l.length ≤ 12 ∧ ∀ i, i < l.length → 0 ≤ l.getD i 0 ∧ l.getD i 0 ≤ bndA l i
instance (l : List Int) : Decidable (AscOk l) := inferInstanceAs (Decidable (_ ∧ _))
theorem take_getD (l : List Int) (n j : Nat) (h : j < n) : (l.take n).getD j 0 = l.getD j 0 := by
 rw [List.getD_eq_getElem?_getD, List.getElem?_take, if_pos h, ← List.getD_eq_getElem?_getD]
theorem asc_main (f : Nat → List Int → Int → Int → Option Int)
    (hf : ∀ k (x0 : List Int) (x3 x4 : Int), f (k + 1) x0 x3 x4 = if x4 < (x0.length : Int) then (if 0 ≤ (wrap64 (x4 - 1)) then (if (wrap64 (x4 - 1)) < (x0.length : Int) then (if 0 ≤ x4 then (if (rd x0 (wrap64 (x4 - 1))) < (rd x0 x4) then (f k x0 (wrap64 (x3 + 1)) (wrap64 (x4 + 1))) else (f k x0 x3 (wrap64 (x4 + 1)))) else (none)) else (none)) else (none)) else (some x3))
    (l : List Int) (n : Nat) (hn : n ≤ l.length) (hl : n ≤ 1000) : Ev (fun k => f k (l.take n) 0 1) (ascN l n : Int) := by
 have hlen : (l.take n).length = n := by rw [List.length_take]; omega
 have main : ∀ (d i : Nat), n - i = d → 1 ≤ i → i ≤ n → Ev (fun k => f k (l.take n) (ascN l i : Int) (i : Int)) (ascN l n : Int) := by {
 intro d
 induction d with
 | zero => {
 intro i hd h1 hi
 obtain rfl : i = n := by omega
 exact Ev.step (fun k => hf k _ _ _) (Ev_neg (by omega) (Ev_some rfl))}
 | succ d ih => {
 intro i hd h1 hi
 have ha := ascN_le l i
 have next := ih (i + 1) (by omega) (by omega) (by omega)
 refine Ev.step (fun k => hf k _ _ _) (Ev_pos (by omega) ?_)
 rw [show (i : Int) - 1 = ((i - 1 : Nat) : Int) from by omega, wrap_small (x := ((i - 1 : Nat) : Int)) (by omega) (by omega), wrap_succ (i := i) (by omega), wrap_succ (i := ascN l i) (by omega), rd_nat, rd_nat, take_getD _ _ _ (by omega), take_getD _ _ _ (by omega)]
 refine Ev_pos (by omega) (Ev_pos (by omega) (Ev_pos (by omega) ?_))
 rw [ascN] at next
 by_cases c : l.getD (i - 1) 0 < l.getD i 0
 · rw [if_pos ⟨by omega, c⟩] at next; exact Ev_pos c next
 · rw [if_neg (fun h => c h.2)] at next; exact Ev_neg c next}}
 by_cases c : 1 ≤ n
 · exact main _ 1 rfl (by omega) c
 · {
 obtain rfl : n = 0 := by omega
 exact Ev.step (fun k => hf k _ _ _) (Ev_neg (by omega) (Ev_some rfl))}
theorem specAsc_ev (l : List Int) (n : Nat) (hn : n ≤ l.length) (hl : n ≤ 1000) : Ev (fun k => spec_asAscents.f k (l.take n)) (ascN l n : Int) := asc_main (fun k => spec_asAscents.l0 k) (fun _ _ _ _ => rfl) l n hn hl
theorem implAsc_ev (l : List Int) (n : Nat) (hn : n ≤ l.length) (hl : n ≤ 1000) : Ev (fun k => impl_ascents.f k (l.take n)) (ascN l n : Int) := asc_main (fun k => impl_ascents.l0 k) (fun _ _ _ _ => rfl) l n hn hl
theorem specBound_ev (l : List Int) (n : Nat) (hn : n ≤ l.length) (hl : n ≤ 1000) : Ev (fun k => spec_asBound.f k (l.take n)) (bndA l n) := by
 have hlen : (l.take n).length = n := by rw [List.length_take]; omega
 have ha := ascN_le l n
 unfold spec_asBound.f bndA
 by_cases c : n = 0
 · rw [if_pos c]; exact Ev_pos (by omega) (Ev_some rfl)
 · {
 rw [if_neg c]
 refine Ev_neg (by omega) (Ev.bind (specAsc_ev l n hn hl) (Ev_some (wrap_small (by omega) (by omega))))}
theorem in_eq (a b c : Int) : spec_l1In.f a b c = some (decide (b ≤ a ∧ a ≤ c)) := by
 unfold spec_l1In.f
 by_cases h : a ≥ b
 · rw [if_pos h]; congr 1; exact dec_eq ⟨fun h2 => ⟨h, h2⟩, fun h2 => h2.2⟩
 · rw [if_neg h]; congr 1; rw [eq_comm, decide_eq_false_iff_not]; exact fun h2 => h h2.1
theorem win_eq (a b c : Int) : impl_within.f a b c = some (decide (b ≤ a ∧ a ≤ c)) := by
 unfold impl_within.f
 by_cases h : a ≥ b
 · rw [if_pos h]; congr 1; exact dec_eq ⟨fun h2 => ⟨h, h2⟩, fun h2 => h2.2⟩
 · rw [if_neg h]; congr 1; rw [eq_comm, decide_eq_false_iff_not]; exact fun h2 => h h2.1
def OkFrom (l : List Int) (i : Nat) : Prop := ∀ j, i ≤ j → j < l.length → 0 ≤ l.getD j 0 ∧ l.getD j 0 ≤ bndA l j
open Classical in
theorem asGood_ev (l : List Int) (hs : l.length ≤ 1048576) : Ev (fun k => spec_asGood.f k l) (decide (AscOk l)) := by
 unfold spec_asGood.f
 by_cases c : (l.length : Int) > 12
 · {
 refine Ev_pos c (Ev_some ?_)
 rw [eq_comm, decide_eq_false_iff_not]; exact fun h => by have := h.1; omega}
 · {
 refine Ev_neg c ?_
 have main : ∀ (d i : Nat), l.length - i = d → i ≤ l.length → Ev (fun k => spec_asGood.l0 k l l (l.length : Int) (i : Int)) (decide (OkFrom l i)) := by {
 intro d
 induction d with
 | zero => {
 intro i hd hi
 obtain rfl : i = l.length := by omega
 exact Ev.step (fun _ => rfl) (Ev_neg (by omega) (Ev_some (by rw [eq_comm, decide_eq_true_iff]; exact fun j h1 h2 => by omega)))}
 | succ d ih => {
 intro i hd hi
 refine Ev.step (fun _ => rfl) (Ev_pos (by omega) (Ev_pos (by omega) (Ev_pos (by omega) (Ev_pos (by omega) ?_))))
 rw [Int.toNat_natCast, rd_nat, wrap_succ (i := i) (by omega)]
 refine Ev.bind (specBound_ev l i (by omega) (by omega)) (Ev_val (in_eq _ _ _) ?_)
 by_cases g : 0 ≤ l.getD i 0 ∧ l.getD i 0 ≤ bndA l i
 · {
 refine Ev_pos (decide_eq_true g) (Ev_eq (ih (i + 1) (by omega) (by omega)) (dec_eq ⟨fun h j h1 h2 => ?_, fun h j h1 h2 => h j (by omega) h2⟩))
 by_cases e : j = i
 · rw [e]; exact g
 · exact h j (by omega) h2}
 · {
 refine Ev_neg (by simpa using g) (Ev_some ?_)
 rw [eq_comm, decide_eq_false_iff_not]; exact fun h => g (h i (Nat.le_refl _) (by omega))}}}
 exact Ev_eq (main _ 0 rfl (by omega)) (dec_eq ⟨fun h => ⟨by omega, fun i hi => h i (by omega) hi⟩, fun h j _ h2 => h.2 j h2⟩)}
open Classical in
theorem isAscent_ev (l : List Int) (hs : l.length ≤ 1048576) : Ev (fun k => impl_IsAscent.f k l) (decide (AscOk l)) := by
 unfold impl_IsAscent.f
 by_cases c : (l.length : Int) > 12
 · {
 refine Ev_pos c (Ev_some ?_)
 rw [eq_comm, decide_eq_false_iff_not]; exact fun h => by have := h.1; omega}
 · {
 refine Ev_neg c ?_
 have main : ∀ (d i : Nat), l.length - i = d → i ≤ l.length → Ev (fun k => impl_IsAscent.l0 k l l (l.length : Int) (i : Int)) (decide (OkFrom l i)) := by {
 intro d
 induction d with
 | zero => {
 intro i hd hi
 obtain rfl : i = l.length := by omega
 exact Ev.step (fun _ => rfl) (Ev_neg (by omega) (Ev_some (by rw [eq_comm, decide_eq_true_iff]; exact fun j h1 h2 => by omega)))}
 | succ d ih => {
 intro i hd hi
 have ha := ascN_le l i
 have yes : (0 ≤ l.getD i 0 ∧ l.getD i 0 ≤ bndA l i) → Ev (fun k => impl_IsAscent.l0 k l l (l.length : Int) ((i + 1 : Nat) : Int)) (decide (OkFrom l i)) := fun g => by {
 refine Ev_eq (ih (i + 1) (by omega) (by omega)) (dec_eq ⟨fun h j h1 h2 => ?_, fun h j h1 h2 => h j (by omega) h2⟩)
 by_cases e : j = i
 · rw [e]; exact g
 · exact h j (by omega) h2}
 have no : ¬ (0 ≤ l.getD i 0 ∧ l.getD i 0 ≤ bndA l i) → false = decide (OkFrom l i) := fun g => by rw [eq_comm, decide_eq_false_iff_not]; exact fun h => g (h i (Nat.le_refl _) (by omega))
 refine Ev.step (fun _ => rfl) (Ev_pos (by omega) (Ev_pos (by omega) (Ev_pos (by omega) ?_)))
 rw [Int.toNat_natCast, rd_nat, wrap_succ (i := i) (by omega)]
 by_cases e : i = 0
 · {
 have hb : bndA l i = 0 := by rw [bndA, if_pos e]
 refine Ev_pos (by omega) ?_
 by_cases z : l.getD i 0 = 0
 · exact Ev_pos z (Ev_neg (by omega) (yes (by rw [hb]; omega)))
 · exact Ev_neg z (Ev_some (no (by rw [hb]; omega)))}
 · {
 have hb : bndA l i = (ascN l i : Int) + 1 := by rw [bndA, if_neg e]
 refine Ev_neg (by omega) (Ev_pos (by omega) (Ev_pos (by omega) (Ev.bind (implAsc_ev l i (by omega) (by omega)) ?_)))
 rw [wrap_small (x := (ascN l i : Int) + 1) (by omega) (by omega), ← hb]
 refine Ev_val (win_eq _ _ _) ?_
 by_cases g : 0 ≤ l.getD i 0 ∧ l.getD i 0 ≤ bndA l i
 · exact Ev_pos (decide_eq_true g) (yes g)
 · exact Ev_neg (by simpa using g) (Ev_some (no g))}}}
 exact Ev_eq (main _ 0 rfl (by omega)) (dec_eq ⟨fun h => ⟨by omega, fun i hi => h i (by omega) hi⟩, fun h j _ h2 => h.2 j h2⟩)}
def matA (l : List Int) : Nat → List (List Int)
  | 0 => []
  | i + 1 => growM (matA l i) (l.getD i 0).toNat
theorem matA_inv (l : List Int) (g : AscOk l) : ∀ i, i ≤ l.length → Bd (i : Int) (matA l i) ∧ (matA l i).length = (if i = 0 then 0 else ascN l i + 1) ∧ (0 < i → topI (matA l i) = l.getD (i - 1) 0)
  | 0, _ => ⟨fun r hr => by simp [matA] at hr, rfl, fun h => absurd h (by decide)⟩
  | i + 1, hi => by
    obtain ⟨h1, h2, h3⟩ := matA_inv l g i (by omega)
    have hl := g.1
    have hg := g.2 i (by omega)
    have ha := ascN_le l i
    obtain ⟨x, hx⟩ : ∃ x : Nat, l.getD i 0 = (x : Int) := ⟨(l.getD i 0).toNat, by omega⟩
    have hxl : x ≤ (matA l i).length := by
      rw [h2]
      by_cases e : i = 0
      · have := hg.2; rw [bndA, if_pos e] at this; rw [if_pos e]; omega
      · have := hg.2; rw [bndA, if_neg e] at this; rw [if_neg e]; omega
    have hd : (matA l i).length ≤ 100 := by rw [h2]; split <;> omega
    obtain ⟨k1, k2, k3⟩ := grow_inv (matA l i) (i : Int) (by omega) (by omega) h1 hd x hxl
    have ht := topI_lt (matA l i)
    rw [matA, hx, Int.toNat_natCast]
    refine ⟨by rw [Int.natCast_add]; exact k1, ?_, fun _ => by rw [k2, show i + 1 - 1 = i from rfl, hx]⟩
    rw [k3, if_neg (show ¬ (i + 1 = 0) by omega), ascN]
    by_cases e : i = 0
    · subst e
      rw [if_neg (by rw [h2, if_pos rfl] at ht; omega), h2, if_pos rfl, if_neg (fun h => absurd h.1 (by decide))]; rfl
    · rw [if_neg e] at h2
      have h3 := h3 (by omega)
      rw [h3, h2, ← hx]
      by_cases c : l.getD (i - 1) 0 < l.getD i 0
      · rw [if_neg (by omega), if_pos ⟨by omega, c⟩]
      · rw [if_pos (by omega), if_neg (fun h => c h.2)]
theorem Bd.small {B : Int} {m : List (List Int)} (h : Bd B m) (hd : m.length ≤ 1000) : Small m := ⟨by omega, fun r hr => by have := (h r hr).1; omega⟩
theorem matA_step (l : List Int) (g : AscOk l) (i : Nat) (hi : i < l.length) : (matA l i).length ≤ 12 ∧ ∃ x : Nat, l.getD i 0 = (x : Int) ∧ x ≤ (matA l i).length ∧ matA l (i + 1) = growM (matA l i) x := by
 obtain ⟨h1, h2, h3⟩ := matA_inv l g i (by omega)
 have hl := g.1
 have hg := g.2 i hi
 have ha := ascN_le l i
 refine ⟨by rw [h2]; split <;> omega, (l.getD i 0).toNat, by omega, ?_, rfl⟩
 rw [h2]
 by_cases e : i = 0
 · have := hg.2; rw [bndA, if_pos e] at this; rw [if_pos e]; omega
 · have := hg.2; rw [bndA, if_neg e] at this; rw [if_neg e]; omega
theorem matOf_ev (l : List Int) (g : AscOk l) (f : Nat → List Int → Int → Int → List (List Int) → Option (List (List Int))) (G : Nat → List (List Int) → Int → Option (List (List Int)))
    (hf : ∀ k (x7 : List Int) (x8 x9 : Int) (q : List (List Int)), f (k + 1) x7 x8 x9 q = if x9 < x8 then (if 0 ≤ x9 then (if x9 < (x7.length : Int) then ((G k q (rd x7 x9)).bind fun t => (f k x7 x8 (wrap64 (x9 + 1)) t)) else (none)) else (none)) else (some q))
    (hG : ∀ (m : List (List Int)), m.length ≤ 12 → Sq m → Small m → ∀ x : Nat, x ≤ m.length → Ev (fun k => G k m (x : Int)) (growM m x)) : Ev (fun k => f k l (l.length : Int) 0 []) (matA l l.length) := by
 have hl := g.1
 have main : ∀ (d i : Nat), l.length - i = d → i ≤ l.length → Ev (fun k => f k l (l.length : Int) (i : Int) (matA l i)) (matA l l.length) := by {
 intro d
 induction d with
 | zero => {
 intro i hd hi
 obtain rfl : i = l.length := by omega
 exact Ev.step (fun k => hf k _ _ _ _) (Ev_neg (by omega) (Ev_some rfl))}
 | succ d ih => {
 intro i hd hi
 have next := ih (i + 1) (by omega) (by omega)
 obtain ⟨hd12, x, hx, hxl, hm⟩ := matA_step l g i (by omega)
 have hb := (matA_inv l g i (by omega)).1
 refine Ev.step (fun k => hf k _ _ _ _) (Ev_pos (by omega) (Ev_pos (by omega) (Ev_pos (by omega) ?_)))
 rw [rd_nat, hx, wrap_succ (i := i) (by omega)]
 rw [hm] at next
 exact Ev.bind (hG _ hd12 hb.sq (hb.small (by omega)) x hxl) next}}
 exact main _ 0 rfl (by omega)
theorem seekTop_none (m : List (List Int)) : ∀ (n i : Nat), seekTop m n i < 0 → ∀ j, i ≤ j → j < i + n → en m j (m.length - 1) = 0
  | 0, i, _, j, h1, h2 => by omega
  | n + 1, i, h, j, h1, h2 => by
    rw [seekTop] at h
    by_cases c : en m i (m.length - 1) ≠ 0
    · rw [if_pos c] at h; omega
    · rw [if_neg c] at h
      by_cases e : j = i
      · rw [e]; simpa using c
      · exact seekTop_none m n (i + 1) h j (by omega) (by omega)
theorem seekTop_hit (m : List (List Int)) : ∀ (n i x : Nat), seekTop m n i = (x : Int) → en m x (m.length - 1) ≠ 0
  | 0, i, x, h => by rw [seekTop] at h; omega
  | n + 1, i, x, h => by
    rw [seekTop] at h
    by_cases c : en m i (m.length - 1) ≠ 0
    · rw [if_pos c] at h; rw [show x = i from by omega]; exact c
    · rw [if_neg c] at h; exact seekTop_hit m n (i + 1) x h
def Shk (m : List (List Int)) : Prop := m.length ≤ 12 ∧ Cells m ∧ (∀ i, i < m.length → ∃ j, j < m.length ∧ en m i j ≠ 0) ∧ (∀ j, j < m.length → ∃ i, i < m.length ∧ en m i j ≠ 0)
theorem some_of_sum {n : Nat} {f : Nat → Int} (h : ∀ i, i < n → 0 ≤ f i) (hs : sumZ n f ≠ 0) : ∃ j, j < n ∧ f j ≠ 0 := by
 by_cases c : ∃ j, j < n ∧ f j ≠ 0
 · exact c
 · {
 refine absurd ((sumZ_zero h).2 (fun i hi => ?_)) hs
 by_cases e : f i = 0
 · exact e
 · exact absurd ⟨i, hi, e⟩ c}
theorem isMat.shk {m : List (List Int)} (g : isMat m) : Shk m := ⟨g.1, g.2.1, fun i hi => some_of_sum (fun j hj => g.2.1.nn hi hj) (g.2.2.1 i hi), fun j hj => some_of_sum (fun i hi => g.2.1.nn hi hj) (g.2.2.2.1 j hj)⟩
theorem topI_nn (m : List (List Int)) (g : Shk m) (hp : 0 < m.length) : 0 ≤ topI m := by
 have ht := topI_lt m
 by_cases c : topI m < 0
 · {
 have hz := seekTop_none m m.length 0 c
 obtain ⟨i, hi, hc⟩ := g.2.2.2 (m.length - 1) (by omega)
 exact absurd (hz i (by omega) (by omega)) hc}
 · omega
theorem Cells.sq' {m : List (List Int)} (h : Cells m) : Sq m := fun i hi => ⟨(h i hi).1, fun j hj => ((h i hi).2 j hj).1⟩
theorem erase_cut {β : Type} : ∀ (l : List β) (x : Nat), x < l.length → l.eraseIdx x = l.take x ++ l.drop (x + 1)
  | [], _, h => by simp at h
  | _ :: _, 0, _ => by simp
  | a :: l, x + 1, h => by rw [List.eraseIdx_cons_succ, erase_cut l x (by simp at h; omega)]; simp
theorem mapErase {β γ : Type} (g : β → γ) : ∀ (l : List β) (j : Nat), (l.eraseIdx j).map g = (l.map g).eraseIdx j
  | [], _ => rfl
  | _ :: _, 0 => rfl
  | a :: l, j + 1 => by simp only [List.eraseIdx_cons_succ, List.map_cons]; rw [mapErase g l j]
def sRow (m : List (List Int)) (x i : Nat) : List Int := if i < x ∧ x < m.length - 1 then impl_Matrix_shrunk.cp x (m.length - 1) (m.getD i []) else m.getD i []
def sBase (m : List (List Int)) (x : Nat) : List (List Int) := (List.range m.length).map fun (i : Nat) => (sRow m x i).eraseIdx x
theorem get?_lt2 {α : Type} (xs : List α) (i : Nat) (z : α) (h : i < xs.length) : xs[i]? = some (xs.getD i z) := by rw [getD_lt xs i z h, List.getElem?_eq_getElem h]
theorem less_eq (m : List (List Int)) (x : Nat) (hx : x < m.length) : impl_Matrix_shrunk.less m x = (sBase m x).eraseIdx x := by
 rw [impl_Matrix_shrunk.less, impl_Matrix_shrunk.cut2, mapErase]
 congr 1
 apply List.ext_getElem?
 intro j
 rw [sBase, List.getElem?_map, List.getElem?_map]
 by_cases hj : j < m.length
 · {
 rw [List.getElem?_eq_getElem (l := List.range m.length) (by simpa using hj), List.getElem_range, Option.map_some]
 by_cases c : x < m.length - 1
 · {
 rw [if_pos c, impl_Matrix_shrunk.cut1]
 by_cases c1 : j < x
 · rw [List.getElem?_append_left (by rw [List.length_map, List.length_take]; omega), List.getElem?_map, List.getElem?_take, if_pos c1, get?_lt2 m j [] hj, sRow, if_pos ⟨c1, c⟩]; rfl
 · rw [List.getElem?_append_right (by rw [List.length_map, List.length_take]; omega), List.getElem?_drop, List.length_map, List.length_take, show x + (j - min x m.length) = j from by omega, get?_lt2 m j [] hj, sRow, if_neg (fun h => c1 h.1)]; rfl}
 · rw [if_neg c, get?_lt2 m j [] hj, sRow, if_neg (fun h => c h.2)]; rfl}
 · {
 rw [List.getElem?_eq_none (l := List.range m.length) (by simp; omega), List.getElem?_eq_none (by
  split
  · rw [impl_Matrix_shrunk.cut1, List.length_append, List.length_map, List.length_take, List.length_drop]; omega
  · omega)]; rfl}
def shrinkM (m : List (List Int)) : List (List Int) × Int := if 1 < rowZ m (topI m).toNat then (impl_Matrix_shrunk.dec m (topI m).toNat, topI m) else (impl_Matrix_shrunk.less m (topI m).toNat, topI m)
theorem shrunk_ev (m : List (List Int)) (g : Shk m) (hs : Small m) (hp : 0 < m.length) : Ev (fun k => impl_Matrix_shrunk.f k m) (shrinkM m) := by
 have hd := g.1
 have h := g.2.1
 have ht := topI_lt m
 have hn := topI_nn m g hp
 unfold impl_Matrix_shrunk.f
 refine Ev.bind (own_ev m hs) (Ev.bind (sums_ev m hd h) (Ev_val (top_eq m hd h.sq') ?_))
 refine Ev_pos ⟨rfl, by omega, fun r hr => ?_, hn, ht.1, by simp [rowsL]⟩ ⟨0, fun _ _ => ?_⟩
 · {
 obtain ⟨i, hi, rfl⟩ := List.getElem_of_mem hr
 rw [← getD_lt m i [] hi]; exact (h i hi).1}
 · {
 unfold impl_Matrix_shrunk.go shrinkM
 rw [rowsL, mapR_getD _ _ (by omega)]}
theorem l1Own_eq (r : List Int) (hl : r.length ≤ 1048576) : spec_l1Own.f r = some r := by
 unfold spec_l1Own.f; rw [Option.bind_some, List.nil_append]; exact if_pos (by simp only [List.length_nil]; omega)
theorem maNarrow_eq (r : List Int) (x : Nat) (hx : x < r.length) (hl : r.length ≤ 1048576) : spec_maNarrow.f r (x : Int) = some (r.eraseIdx x) := by
  unfold spec_maNarrow.f
  rw [if_pos (by omega), if_pos (by omega), Int.toNat_natCast, l1Own_eq _ (by rw [List.length_take]; omega), Option.bind_some, wrap_succ (by omega), if_pos (by omega), if_pos (by omega), Int.toNat_natCast,
    if_pos (by rw [List.length_take, List.length_drop]; omega), erase_cut r x hx]
theorem sBase_step (m : List (List Int)) (x i : Nat) (hi : i < m.length) : ((sBase m x).take (i + 1)).eraseIdx x = if i = x then ((sBase m x).take i).eraseIdx x else ((sBase m x).take i).eraseIdx x ++ [(sRow m x i).eraseIdx x] := by
 have hl : (sBase m x).length = m.length := by simp [sBase]
 have hg : (sBase m x)[i]'(by omega) = (sRow m x i).eraseIdx x := by simp [sBase]
 rw [List.take_succ_eq_append_getElem (by omega), hg]
 have hk : ((sBase m x).take i).length = i := by rw [List.length_take]; omega
 by_cases c : i = x
 · rw [if_pos c, List.eraseIdx_append_of_length_le (by omega), hk, c, Nat.sub_self, List.eraseIdx_cons_zero, List.append_nil, List.eraseIdx_of_length_le (by rw [List.length_take]; omega)]
 · {
 rw [if_neg c]
 by_cases c2 : i < x
 · {
 have e1 : ((sBase m x).take i ++ [(sRow m x i).eraseIdx x]).eraseIdx x = (sBase m x).take i ++ [(sRow m x i).eraseIdx x] := List.eraseIdx_of_length_le (by rw [List.length_append, hk]; simp; omega)
 have e2 : ((sBase m x).take i).eraseIdx x = (sBase m x).take i := List.eraseIdx_of_length_le (by omega)
 rw [e1, e2]}
 · rw [List.eraseIdx_append_of_lt_length (by omega)]}
theorem maShrink_ev (m : List (List Int)) (g : Shk m) (hs : Small m) (hp : 0 < m.length) : Ev (fun k => spec_maShrink.f k m) (shrinkM m) := by
 have hd := g.1
 have h := g.2.1
 have ht := topI_lt m
 have hn := topI_nn m g hp
 unfold spec_maShrink.f shrinkM
 refine Ev.bind (maTop_ev m hd h.sq') ?_
 obtain ⟨x, hx⟩ : ∃ x : Nat, topI m = (x : Int) := ⟨(topI m).toNat, by omega⟩
 rw [hx, Int.toNat_natCast]
 have hxl : x < m.length := by omega
 have hl := (h x hxl).1
 refine Ev_pos (by omega) (Ev_pos (by omega) ?_)
 rw [rdL_nat]
 refine Ev.bind (h.rowTot hd hxl) ?_
 by_cases c : 1 < rowZ m x
 · {
 rw [if_pos c]
 refine Ev_pos c (Ev.bind (maOwn_ev m hs) (Ev_pos (by omega) ?_))
 rw [rdL_nat, hl, show (m.length : Int) - 1 = ((m.length - 1 : Nat) : Int) from by omega, wrap_small (by omega) (by omega)]
 refine Ev_pos (by omega) (Ev_pos (by omega) (Ev_some ?_))
 simp only [rd_nat, Int.toNat_natCast]; rfl}
 · {
 rw [if_neg c, less_eq m x hxl]
 refine Ev_neg c ?_
 have hbl : (sBase m x).length = m.length := by simp [sBase]
 have main : ∀ (d i : Nat), m.length - i = d → i ≤ m.length → Ev (fun k => spec_maShrink.l0 k (m.length : Int) (x : Int) m (m.length : Int) (i : Int) (((sBase m x).take i).eraseIdx x)) ((sBase m x).eraseIdx x, (x : Int)) := by {
 intro d
 induction d with
 | zero => {
 intro i hd' hi
 obtain rfl : i = m.length := by omega
 exact Ev.step (fun _ => rfl) (Ev_neg (by omega) (Ev_some (by rw [← hbl, List.take_length])))}
 | succ d ih => {
 intro i hd' hi
 have next := ih (i + 1) (by omega) (by omega)
 rw [sBase_step m x i (by omega)] at next
 have hli := (h i (by omega)).1
 have hcl : (((sBase m x).take i).eraseIdx x).length ≤ 12 := by rw [List.length_eraseIdx, List.length_take]; split <;> omega
 refine Ev.step (fun _ => rfl) (Ev_pos (by omega) (Ev_pos (by omega) (Ev_pos (by omega) ?_)))
 rw [wrap_succ (i := i) (by omega), rdL_nat]
 by_cases c1 : i = x
 · {
 rw [if_pos c1] at next
 exact Ev_pos (by omega) next}
 · {
 rw [if_neg c1] at next
 refine Ev_neg (by omega) (Ev_val (l1Own_eq _ (by omega)) ?_)
 by_cases c2 : i < x
 · {
 refine Ev_pos (by omega) ?_
 rw [show (m.length : Int) - 1 = ((m.length - 1 : Nat) : Int) from by omega, wrap_small (x := ((m.length - 1 : Nat) : Int)) (by omega) (by omega)]
 by_cases c3 : x < m.length - 1
 · {
 rw [sRow, if_pos ⟨c2, c3⟩, impl_Matrix_shrunk.cp] at next
 refine Ev_pos (by omega) (Ev_pos (by omega) (Ev_pos (by omega) (Ev_pos (by omega) (Ev_pos (by omega) ?_))))
 rw [Int.toNat_natCast, rd_nat]
 exact Ev_val (maNarrow_eq _ x (by rw [List.length_set]; omega) (by rw [List.length_set]; omega)) (Ev_pos (by omega) next)}
 · {
 rw [sRow, if_neg (fun h => c3 h.2)] at next
 exact Ev_neg (by omega) (Ev_val (maNarrow_eq _ x (by omega) (by omega)) (Ev_pos (by omega) next))}}
 · {
 rw [sRow, if_neg (fun h => c2 h.1)] at next
 exact Ev_neg (by omega) (Ev_val (maNarrow_eq _ x (by omega) (by omega)) (Ev_pos (by omega) next))}}}}
 have := main _ 0 rfl (by omega)
 rw [List.take_zero, List.eraseIdx_nil] at this
 exact this}
theorem sum_two {n : Nat} {f : Nat → Int} (h : ∀ i, i < n → 0 ≤ f i) {a b : Nat} (ha : a < n) (hb : b < n) (hne : a ≠ b) : f a + f b ≤ sumZ n f := by
 have h1 := sumZ_term (n := n) (f := fun i => if i = b then 0 else f i) (fun i hi => by show (0 : Int) ≤ if i = b then 0 else f i; split <;> first | exact Int.le_refl _ | exact h i hi) ha
 have h2 := sumZ_term (n := n) (f := fun i => if i = b then f i else 0) (fun i hi => by show (0 : Int) ≤ if i = b then f i else 0; split <;> first | exact Int.le_refl _ | exact h i hi) hb
 have h3 := sumZ_add n (fun i => if i = b then 0 else f i) (fun i => if i = b then f i else 0)
 have h4 : sumZ n (fun i => (if i = b then 0 else f i) + (if i = b then f i else 0)) = sumZ n f := sumZ_congr (fun i _ => by by_cases e : i = b <;> simp [e])
 simp only [if_neg hne, if_true] at h1 h2
 omega
theorem sum_le {n : Nat} {f g : Nat → Int} (h : ∀ i, i < n → f i ≤ g i) : sumZ n f ≤ sumZ n g := by
 induction n with
 | zero => exact Int.le_refl _
 | succ n ih => rw [sumZ, sumZ]; have := ih (fun i hi => h i (by omega)); have := h n (by omega); omega
theorem sum_lt {n : Nat} {f g : Nat → Int} (h : ∀ i, i < n → f i ≤ g i) {a : Nat} (ha : a < n) (hl : f a < g a) : sumZ n f < sumZ n g := by
 induction n with
 | zero => omega
 | succ n ih => {
 rw [sumZ, sumZ]
 by_cases e : a = n
 · subst e; have := sum_le (n := a) (fun i hi => h i (by omega)); omega
 · have := ih (fun i hi => h i (by omega)) (by omega); have := h n (by omega); omega}
theorem getD_setG {α : Type} (l : List α) (x i : Nat) (v z : α) (hx : x < l.length) : (l.set x v).getD i z = if i = x then v else l.getD i z := by
 rw [List.getD_eq_getElem?_getD, List.getElem?_set]
 by_cases e : x = i
 · rw [if_pos e, if_pos hx, if_pos e.symm]; rfl
 · rw [if_neg e, if_neg (fun h => e h.symm), List.getD_eq_getElem?_getD]
theorem getD_era {α : Type} (l : List α) (x j : Nat) (z : α) : (l.eraseIdx x).getD j z = l.getD (if j < x then j else j + 1) z := by
 rw [List.getD_eq_getElem?_getD, List.getElem?_eraseIdx, List.getD_eq_getElem?_getD]
 by_cases e : j < x
 · rw [if_pos e, if_pos e]
 · rw [if_neg e, if_neg e]
theorem dec_len (m : List (List Int)) (x : Nat) : (impl_Matrix_shrunk.dec m x).length = m.length := by rw [impl_Matrix_shrunk.dec, List.length_set]
theorem dec_en (m : List (List Int)) (h : Cells m) (x : Nat) (hx : x < m.length) (i j : Nat) : en (impl_Matrix_shrunk.dec m x) i j = if i = x ∧ j = m.length - 1 then en m x (m.length - 1) - 1 else en m i j := by
 have hl := (h x hx).1
 have hb := (h x hx).2 (m.length - 1) (by omega)
 rw [en, impl_Matrix_shrunk.dec, getD_setG _ _ _ _ _ hx]
 by_cases e : i = x
 · {
 rw [if_pos e, getD_setG _ _ _ _ _ (by omega)]
 by_cases e2 : j = m.length - 1
 · rw [if_pos e2, if_pos ⟨e, e2⟩, wrap_small (by simp only [en] at hb; omega) (by simp only [en] at hb; omega)]; rfl
 · rw [if_neg e2, if_neg (fun h => e2 h.2), e]; rfl}
 · rw [if_neg e, if_neg (fun h => e h.1)]; rfl
theorem dec_shk (m : List (List Int)) (g : Shk m) (hp : 0 < m.length) (x : Nat) (hx : topI m = (x : Int)) (hr : 1 < rowZ m x) : Shk (impl_Matrix_shrunk.dec m x) ∧ allZ (impl_Matrix_shrunk.dec m x) < allZ m := by
 obtain ⟨g1, g2, g3, g4⟩ := g
 have ht := topI_lt m
 have hxl : x < m.length := by omega
 have hit := seekTop_hit m m.length 0 x hx
 have hlast : en m (m.length - 1) (m.length - 1) ≠ 0 := by {
 obtain ⟨j, hj, hne⟩ := g3 (m.length - 1) (by omega)
 by_cases c : j < m.length - 1
 · exact absurd (((g2 (m.length - 1) (by omega)).2 j hj).2.2 c) hne
 · {
 have e : j = m.length - 1 := by omega
 rw [e] at hne; exact hne}}
 have hb := (g2 x hxl).2 (m.length - 1) (by omega)
 have hE := dec_en m g2 x hxl
 have hlen := dec_len m x
 have hrows : ∀ i, i < m.length → ((impl_Matrix_shrunk.dec m x).getD i []).length = m.length := fun i hi => by {
 rw [impl_Matrix_shrunk.dec, getD_setG _ _ _ _ _ hxl]
 by_cases e : i = x
 · rw [if_pos e, List.length_set]; exact (g2 x hxl).1
 · rw [if_neg e]; exact (g2 i hi).1}
 refine ⟨⟨by rw [hlen]; exact g1, fun i hi => ?_, fun i hi => ?_, fun j hj => ?_⟩, ?_⟩
 · {
 rw [hlen] at hi ⊢
 refine ⟨hrows i hi, fun j hj => ?_⟩
 rw [hE]
 by_cases e : i = x ∧ j = m.length - 1
 · rw [if_pos e]; exact ⟨by omega, by omega, fun h => by omega⟩
 · rw [if_neg e]; exact (g2 i hi).2 j hj}
 · {
 rw [hlen] at hi ⊢
 by_cases e : i = x
 · {
 subst e
 by_cases c : ∃ j, j < m.length ∧ j ≠ m.length - 1 ∧ en m i j ≠ 0
 · {
 obtain ⟨j, hj, hne, h0⟩ := c
 exact ⟨j, hj, by rw [hE, if_neg (fun h => hne h.2)]; exact h0⟩}
 · {
 refine ⟨m.length - 1, by omega, ?_⟩
 rw [hE, if_pos ⟨rfl, rfl⟩]
 intro h1
 have h2 : rowZ m i ≤ 1 := by {
 have : rowZ m i = sumZ m.length (fun j => if j = m.length - 1 then 1 else 0) := sumZ_congr (fun j hj => by
  by_cases e2 : j = m.length - 1
  · rw [if_pos e2, e2]; omega
  · rw [if_neg e2]
    by_cases e3 : en m i j = 0
    · exact e3
    · exact absurd ⟨j, hj, e2, e3⟩ c)
 rw [this]
 have one : ∀ n q, sumZ n (fun j => if j = q then 1 else 0) ≤ 1 ∧ (n ≤ q → sumZ n (fun j => if j = q then (1 : Int) else 0) = 0) := fun n q => by {
 induction n with
 | zero => exact ⟨by simp [sumZ], fun _ => rfl⟩
 | succ n ih => {
 rw [sumZ]
 by_cases e : n = q
 · subst e; have := ih.2 (Nat.le_refl _); simp only [if_true]; exact ⟨by omega, fun h => by omega⟩
 · simp only [if_neg e]; exact ⟨by have := ih.1; omega, fun h => by have := ih.2 (by omega); omega⟩}}
 exact (one m.length (m.length - 1)).1}
 omega}}
 · {
 obtain ⟨j, hj, h0⟩ := g3 i hi
 exact ⟨j, hj, by rw [hE, if_neg (fun h => e h.1)]; exact h0⟩}}
 · {
 rw [hlen] at hj ⊢
 by_cases e : j = m.length - 1
 · {
 refine ⟨m.length - 1, by omega, ?_⟩
 rw [hE]
 by_cases c : m.length - 1 = x
 · {
 rw [if_pos ⟨c, e⟩]
 intro h1
 have h2 : rowZ m x = en m x (m.length - 1) := by {
 have h3 : rowZ m x = sumZ m.length (fun j => if j = m.length - 1 then en m x (m.length - 1) else 0) := sumZ_congr (fun j hj => by
  by_cases e2 : j = m.length - 1
  · rw [if_pos e2, e2]
  · rw [if_neg e2]; exact ((g2 x hxl).2 j hj).2.2 (by omega))
 have one : ∀ n q, q < n → ∀ v : Int, sumZ n (fun j => if j = q then v else 0) = v := fun n q hq v => by {
 induction n with
 | zero => omega
 | succ n ih => {
 rw [sumZ]
 by_cases e : n = q
 · {
 subst e
 have : sumZ n (fun j => if j = n then v else 0) = sumZ n (fun _ => 0) := sumZ_congr (fun i hi => if_neg (by omega))
 have z : sumZ n (fun _ => (0 : Int)) = 0 := (sumZ_zero (fun _ _ => Int.le_refl _)).2 (fun _ _ => rfl)
 simp only [if_true]; omega}
 · simp only [if_neg e]; have := ih (by omega); omega}}
 rw [h3, one _ _ (by omega)]}
 omega}
 · rw [if_neg (fun h => c h.1), e]; exact hlast}
 · {
 obtain ⟨i, hi, h0⟩ := g4 j hj
 exact ⟨i, hi, by rw [hE, if_neg (fun h => e h.2)]; exact h0⟩}}
 · {
 have hle : ∀ i, i < m.length → ∀ j, j < m.length → en (impl_Matrix_shrunk.dec m x) i j ≤ en m i j := fun i hi j hj => by {
 rw [hE]
 by_cases e : i = x ∧ j = m.length - 1
 · rw [if_pos e, e.1, e.2]; omega
 · rw [if_neg e]; exact Int.le_refl _}
 rw [allZ, allZ, hlen]
 refine sum_lt (a := x) (fun i hi => ?_) hxl ?_
 · rw [rowZ, rowZ, hlen]; exact sum_le (fun j hj => hle i hi j hj)
 · {
 rw [rowZ, rowZ, hlen]
 exact sum_lt (a := m.length - 1) (fun j hj => hle x hxl j hj) (by omega) (by rw [hE, if_pos ⟨rfl, rfl⟩]; omega)}}
def upx (x j : Nat) : Nat := if j < x then j else j + 1
def lessE (m : List (List Int)) (x i q : Nat) : Int := if i < x ∧ x < m.length - 1 ∧ q = m.length - 1 then en m i x else en m i q
theorem less_len (m : List (List Int)) (x : Nat) (hx : x < m.length) : (impl_Matrix_shrunk.less m x).length = m.length - 1 := by
 rw [less_eq m x hx, List.length_eraseIdx, if_pos (by simp [sBase]; exact hx)]; simp [sBase]
theorem sRow_len (m : List (List Int)) (h : Cells m) (x i : Nat) (hi : i < m.length) : (sRow m x i).length = m.length := by
 rw [sRow]; split
 · rw [impl_Matrix_shrunk.cp, List.length_set]; exact (h i hi).1
 · exact (h i hi).1
theorem less_row (m : List (List Int)) (x : Nat) (hx : x < m.length) (i : Nat) (hi : i < m.length - 1) : (impl_Matrix_shrunk.less m x).getD i [] = (sRow m x (upx x i)).eraseIdx x := by
 have hu : upx x i < m.length := by rw [upx]; split <;> omega
 rw [less_eq m x hx, getD_era, ← upx, sBase, getD_lt _ _ _ (by simpa using hu)]; simp
theorem less_en (m : List (List Int)) (h : Cells m) (x : Nat) (hx : x < m.length) (i : Nat) (hi : i < m.length - 1) (j : Nat) : en (impl_Matrix_shrunk.less m x) i j = lessE m x (upx x i) (upx x j) := by
 have hu : upx x i < m.length := by rw [upx]; split <;> omega
 have hl := (h _ hu).1
 rw [en, less_row m x hx i hi, getD_era, ← upx, lessE, sRow]
 by_cases c : upx x i < x ∧ x < m.length - 1
 · {
 rw [if_pos c, impl_Matrix_shrunk.cp, getD_setG _ _ _ _ _ (by omega)]
 by_cases e : upx x j = m.length - 1
 · rw [if_pos e, if_pos ⟨c.1, c.2, e⟩]; rfl
 · rw [if_neg e, if_neg (fun h => e h.2.2)]; rfl}
 · rw [if_neg c, if_neg (fun h => c ⟨h.1, h.2.1⟩)]; rfl
theorem less_shk (m : List (List Int)) (g : Shk m) (hp : 0 < m.length) (x : Nat) (hx : topI m = (x : Int)) (hr : ¬ 1 < rowZ m x) : Shk (impl_Matrix_shrunk.less m x) := by
 obtain ⟨g1, g2, g3, g4⟩ := g
 have ht := topI_lt m
 have hxl : x < m.length := by omega
 have hit := seekTop_hit m m.length 0 x hx
 have hpre : ∀ j, j < x → en m j (m.length - 1) = 0 := fun j hj => seekTop_pre m m.length 0 j (by omega) (by rw [topI] at hx; omega)
 have hlast : en m (m.length - 1) (m.length - 1) ≠ 0 := by {
 obtain ⟨j, hj, hne⟩ := g3 (m.length - 1) (by omega)
 by_cases c : j < m.length - 1
 · exact absurd (((g2 (m.length - 1) (by omega)).2 j hj).2.2 c) hne
 · {
 have e : j = m.length - 1 := by omega
 rw [e] at hne; exact hne}}
 have hb := (g2 x hxl).2 (m.length - 1) (by omega)
 have hrow : ∀ j, j < m.length → j ≠ m.length - 1 → en m x j = 0 := fun j hj hne => by {
 have h1 := sum_two (n := m.length) (f := fun j => en m x j) (fun i hi => g2.nn hxl hi) hj (show m.length - 1 < m.length by omega) hne
 have h2 := g2.nn hxl hj
 rw [rowZ] at hr
 omega}
 have hlen := less_len m x hxl
 have hE := less_en m g2 x hxl
 have hupl : ∀ j, j < m.length - 1 → upx x j < m.length := fun j hj => by rw [upx]; split <;> omega
 have hupn : ∀ j, upx x j ≠ x := fun j => by rw [upx]; split <;> omega
 have hdown : ∀ i, i < m.length → i ≠ x → ∃ i', i' < m.length - 1 ∧ upx x i' = i := fun i hi hne => by {
 by_cases c : i < x
 · exact ⟨i, by omega, by rw [upx, if_pos c]⟩
 · exact ⟨i - 1, by omega, by rw [upx, if_neg (by omega)]; omega⟩}
 refine ⟨by rw [hlen]; omega, fun i hi => ?_, fun i hi => ?_, fun j hj => ?_⟩
 · {
 rw [hlen] at hi ⊢
 have hu := hupl i hi
 refine ⟨by rw [less_row m x hxl i hi, List.length_eraseIdx, sRow_len m g2 x _ hu, if_pos hxl], fun j hj => ?_⟩
 have huj := hupl j hj
 rw [hE i hi]
 by_cases c : upx x i < x ∧ x < m.length - 1 ∧ upx x j = m.length - 1
 · {
 rw [lessE, if_pos c]
 have := (g2 _ hu).2 x hxl
 refine ⟨this.1, this.2.1, fun hji => ?_⟩
 have h1 := c.1; have h2 := c.2.2
 simp only [upx] at h1 h2
 split at h1 <;> split at h2 <;> omega}
 · {
 rw [lessE, if_neg c]
 have := (g2 _ hu).2 _ huj
 refine ⟨this.1, this.2.1, fun hji => this.2.2 ?_⟩
 simp only [upx]
 split <;> split <;> omega}}
 · {
 rw [hlen] at hi ⊢
 have hu := hupl i hi
 obtain ⟨j0, hj0, h0⟩ := g3 _ hu
 have hi' := hupn i
 have fin : ∀ j, j < m.length → j ≠ x → lessE m x (upx x i) j ≠ 0 → ∃ j', j' < m.length - 1 ∧ en (impl_Matrix_shrunk.less m x) i j' ≠ 0 := fun j hj hne h => by {
 obtain ⟨j', hj', e⟩ := hdown j hj hne
 exact ⟨j', hj', by rw [hE i hi, e]; exact h⟩}
 by_cases c : upx x i < x
 · {
 have hz := hpre _ c
 have hj0L : j0 ≠ m.length - 1 := fun e => h0 (by rw [e]; exact hz)
 by_cases cx : x < m.length - 1
 · {
 by_cases e : j0 = x
 · exact fin (m.length - 1) (by omega) (by omega) (by rw [lessE, if_pos ⟨c, cx, rfl⟩]; rw [e] at h0; exact h0)
 · exact fin j0 hj0 e (by rw [lessE, if_neg (fun h => hj0L h.2.2)]; exact h0)}
 · exact fin j0 hj0 (by omega) (by rw [lessE, if_neg (fun h => cx h.2.1)]; exact h0)}
 · {
 refine fin j0 hj0 (fun e => ?_) (by rw [lessE, if_neg (fun h => c h.1)]; exact h0)
 exact h0 (((g2 _ hu).2 j0 hj0).2.2 (by omega))}}
 · {
 rw [hlen] at hj ⊢
 have hu := hupl j hj
 have huj := hupn j
 have fin : ∀ i, i < m.length → i ≠ x → lessE m x i (upx x j) ≠ 0 → ∃ i', i' < m.length - 1 ∧ en (impl_Matrix_shrunk.less m x) i' j ≠ 0 := fun i hi hne h => by {
 obtain ⟨i', hi', e⟩ := hdown i hi hne
 exact ⟨i', hi', by rw [hE i' hi', e]; exact h⟩}
 by_cases c : upx x j = m.length - 1
 · exact fin (m.length - 1) (by omega) (by omega) (by rw [lessE, if_neg (fun h => by have := h.1; omega), c]; exact hlast)
 · {
 obtain ⟨i0, hi0, h0⟩ := g4 _ hu
 exact fin i0 hi0 (fun e => h0 (by rw [e]; exact hrow _ hu c)) (by rw [lessE, if_neg (fun h => c h.2.2)]; exact h0)}}
def muM (m : List (List Int)) : Nat := m.length * 10000 + (allZ m).toNat
theorem allZ_bd (m : List (List Int)) (g : Shk m) : 0 ≤ allZ m ∧ allZ m ≤ 1728 := by
 have hl := g.1
 have h := sumZ_bound (n := m.length) (f := fun i => rowZ m i) (B := 144) (by decide) (fun i hi => by have := g.2.1.row hi; omega)
 rw [allZ]; omega
theorem shrink_step (m : List (List Int)) (g : Shk m) (hp : 0 < m.length) : Shk (shrinkM m).1 ∧ muM (shrinkM m).1 < muM m := by
 have ht := topI_lt m
 have hn := topI_nn m g hp
 obtain ⟨x, hx⟩ : ∃ x : Nat, topI m = (x : Int) := ⟨(topI m).toNat, by omega⟩
 have hz := allZ_bd m g
 rw [shrinkM, hx, Int.toNat_natCast]
 by_cases c : 1 < rowZ m x
 · {
 rw [if_pos c]
 obtain ⟨h1, h2⟩ := dec_shk m g hp x hx c
 refine ⟨h1, ?_⟩
 have hz2 := allZ_bd _ h1
 simp only [muM, dec_len]; omega}
 · {
 rw [if_neg c]
 have h1 := less_shk m g hp x hx c
 refine ⟨h1, ?_⟩
 have hz2 := allZ_bd _ h1
 have hl := less_len m x (by omega)
 simp only [muM, hl]; omega}
theorem rev_getD (l : List Int) (p : Nat) (h : p < l.length) : l.reverse.getD p 0 = l.getD (l.length - 1 - p) 0 := by
 rw [getD_lt _ _ _ (by simpa using h), getD_lt _ _ _ (by omega), List.getElem_reverse]
theorem reverse_ev (l : List Int) (hl : l.length ≤ 2000000) : Ev (fun k => slices_Reverse_int_int.f k l) l.reverse := by
  unfold slices_Reverse_int_int.f
  have main : ∀ (d i : Nat) (q : List Int), l.length - 2 * i = d → 2 * i ≤ l.length + 1 → q.length = l.length → (∀ p, p < l.length → q.getD p 0 = if p < i ∨ l.length ≤ p + i then l.getD (l.length - 1 - p) 0 else l.getD p 0) → Ev (fun k => slices_Reverse_int_int.l0 k q (i : Int) ((l.length : Int) - 1 - (i : Int))) l.reverse := by
    intro d
    induction d using Nat.strongRecOn with
    | ind d ih =>
      intro i q hd hi hq hp
      refine Ev.step (fun _ => rfl) ?_
      by_cases c : 2 * i + 1 < l.length
      · refine Ev_pos (by omega) (Ev_pos (by omega) (Ev_pos (by omega) (Ev_pos (by omega) (Ev_pos (by omega) ?_))))
        rw [wrap_succ (i := i) (by omega), wrap_small (x := (l.length : Int) - 1 - (i : Int) - 1) (by omega) (by omega), show (l.length : Int) - 1 - (i : Int) - 1 = (l.length : Int) - 1 - ((i + 1 : Nat) : Int) from by omega,
          show (l.length : Int) - 1 - (i : Int) = ((l.length - 1 - i : Nat) : Int) from by omega, rd_nat, rd_nat, Int.toNat_natCast, Int.toNat_natCast]
        refine ih (l.length - 2 * (i + 1)) (by omega) (i + 1) _ rfl (by omega) (by simpa using hq) (fun p hpl => ?_)
        have hi1 : q.getD i 0 = l.getD i 0 := by rw [hp i (by omega), if_neg (by omega)]
        have hi2 : q.getD (l.length - 1 - i) 0 = l.getD (l.length - 1 - i) 0 := by rw [hp _ (by omega), if_neg (by omega)]
        rw [getD_setG _ _ _ _ _ (by rw [List.length_set]; omega), getD_setG _ _ _ _ _ (by omega), hi1, hi2]
        by_cases e1 : p = l.length - 1 - i
        · rw [if_pos e1, if_pos (by omega), show l.length - 1 - p = i from by omega]
        · rw [if_neg e1]
          by_cases e2 : p = i
          · rw [if_pos e2, if_pos (by omega), e2]
          · rw [if_neg e2, hp p hpl]
            by_cases e3 : p < i ∨ l.length ≤ p + i
            · rw [if_pos e3, if_pos (by omega)]
            · rw [if_neg e3, if_neg (by omega)]
      · refine Ev_neg (by omega) (Ev_some ?_)
        refine ext_getD (by simpa using hq) (fun p hpl => ?_)
        rw [hq] at hpl
        rw [rev_getD l p hpl, hp p hpl]
        by_cases e3 : p < i ∨ l.length ≤ p + i
        · rw [if_pos e3]
        · rw [if_neg e3, show l.length - 1 - p = p from by omega]
  rw [wrap_small (by omega) (by omega)]
  have := main _ 0 l rfl (by omega) rfl (fun p hp => by rw [if_neg (by omega)])
  simpa using this
theorem ascM_both : ∀ (n : Nat) (m : List (List Int)), Shk m → muM m ≤ n → n ≤ 500000 → ∃ L : List Int, L.length ≤ n ∧
    (∀ acc : List Int, acc.length + n ≤ 1000000 → Ev (fun k => spec_maAscent.l0 k acc m) (L.reverse ++ acc)) ∧ (∀ acc : List Int, acc.length + n ≤ 1000000 → Ev (fun k => impl_Matrix_ascent.l0 k acc m) ((acc ++ L).reverse)) := by
 intro n
 induction n with
 | zero => {
 intro m g hm _
 have h0 : m.length = 0 := by rw [muM] at hm; omega
 refine ⟨[], by simp, fun acc ha => ?_, fun acc ha => ?_⟩
 · exact Ev.step (fun _ => rfl) (Ev_neg (by omega) (Ev_some rfl))
 · refine Ev.step (fun _ => rfl) (Ev_val (show impl_Matrix_size.f m = some (m.length : Int) from rfl) (Ev_neg (by omega) (Ev.bind (reverse_ev acc (by omega)) (Ev_some (by simp)))))}
 | succ n ih => {
 intro m g hm hn
 by_cases c : 0 < m.length
 · {
 have hs : Small m := ⟨by have := g.1; omega, fun r hr => by
  obtain ⟨i, hi, rfl⟩ := List.getElem_of_mem hr
  rw [← getD_lt m i [] hi, (g.2.1 i hi).1]; have := g.1; omega⟩
 obtain ⟨g', hmu⟩ := shrink_step m g c
 obtain ⟨L, h1, h2, h3⟩ := ih (shrinkM m).1 g' (by omega) (by omega)
 refine ⟨(shrinkM m).2 :: L, by simp; omega, fun acc ha => ?_, fun acc ha => ?_⟩
 · {
 refine Ev.step (fun _ => rfl) (Ev_pos (by omega) (Ev.bind (maShrink_ev m g hs c) (Ev_val rfl (Ev_pos (by simp; omega) ?_))))
 have := h2 ([(shrinkM m).2] ++ acc) (by simp; omega)
 rw [List.reverse_cons, List.append_assoc]; exact this}
 · {
 refine Ev.step (fun _ => rfl) (Ev_val (show impl_Matrix_size.f m = some (m.length : Int) from rfl) (Ev_pos (by omega) (Ev.bind (shrunk_ev m g hs c) (Ev_pos (by omega) ?_))))
 have := h3 (acc ++ [(shrinkM m).2]) (by simp; omega)
 rw [List.append_assoc] at this; exact this}}
 · {
 refine ⟨[], by simp, fun acc ha => ?_, fun acc ha => ?_⟩
 · exact Ev.step (fun _ => rfl) (Ev_neg (by omega) (Ev_some rfl))
 · refine Ev.step (fun _ => rfl) (Ev_val (show impl_Matrix_size.f m = some (m.length : Int) from rfl) (Ev_neg (by omega) (Ev.bind (reverse_ev acc (by omega)) (Ev_some (by simp)))))}}
def dnx (x j : Nat) : Nat := if j < x then j else j - 1
theorem dnx_lt {x j : Nat} (h : j < x) : dnx x j = j := if_pos h
theorem dnx_ge {x j : Nat} (h : x ≤ j) : dnx x j = j - 1 := if_neg (by omega)
theorem dnx_upx (x k : Nat) : dnx x (upx x k) = k := by
 unfold upx
 by_cases q : k < x
 · rw [if_pos q, dnx_lt q]
 · rw [if_neg q, dnx_ge (by omega)]; rfl
theorem sum_ins (n x : Nat) (hx : x ≤ n) (v : Int) (f : Nat → Int) : sumZ (n + 1) (fun i => if i = x then v else f (dnx x i)) = sumZ n f + v := by
 induction n with
 | zero => {
 obtain rfl : x = 0 := by omega
 simp [sumZ]}
 | succ n ih => {
 by_cases e : x = n + 1
 · {
 subst e
 rw [sumZ, if_pos rfl]
 congr 1
 exact sumZ_congr (fun i hi => by rw [if_neg (by omega), dnx_lt hi])}
 · {
 rw [sumZ, ih (by omega), if_neg (by omega), dnx_ge (by omega), show n + 1 - 1 = n from rfl, sumZ]
 omega}}
theorem sum_ind (n a : Nat) (ha : a < n) (v : Int) : sumZ n (fun i => if i = a then v else 0) = v := by
 obtain ⟨n, rfl⟩ : ∃ k, n = k + 1 := ⟨n - 1, by omega⟩
 have h := sum_ins n a (by omega) v (fun _ => 0)
 have z : sumZ n (fun _ => (0 : Int)) = 0 := (sumZ_zero (fun _ _ => Int.le_refl _)).2 (fun _ _ => rfl)
 rw [z] at h
 omega
theorem mat_ext {A B : List (List Int)} (hl : A.length = B.length) (hr : ∀ i, i < A.length → (A.getD i []).length = (B.getD i []).length) (he : ∀ i j, i < A.length → j < (A.getD i []).length → en A i j = en B i j) : A = B := ext_getL hl (fun i hi => ext_getD (hr i hi) (fun j hj => he i j hi hj))
theorem Cells.bd {m : List (List Int)} (h : Cells m) : Bd 12 m := fun r hr => by
  obtain ⟨i, hi, rfl⟩ := List.getElem_of_mem hr
  have h1 := h i hi
  rw [getD_lt m i [] hi] at h1
  refine ⟨h1.1, fun v hv => ?_⟩
  obtain ⟨j, hj, rfl⟩ := List.getElem_of_mem hv
  have h2 := h1.2 j (by omega)
  unfold en at h2
  rw [getD_lt m i [] hi, getD_lt _ j 0 hj] at h2
  exact ⟨h2.1, h2.2.1⟩
theorem isMat.le_all {m : List (List Int)} (g : isMat m) : (m.length : Int) ≤ allZ m := by
 have h := sum_le (n := m.length) (f := fun _ => 1) (g := fun i => rowZ m i) (fun i hi => by
  have := (g.2.1.row hi).1
  have := g.2.2.1 i hi
  omega)
 have : ∀ n : Nat, sumZ n (fun _ => (1 : Int)) = n := fun n => by {
 induction n with
 | zero => rfl
 | succ n ih => rw [sumZ, ih]; omega}
 rw [this] at h
 exact h
theorem isMat.en_all {m : List (List Int)} (g : isMat m) {i j : Nat} (hi : i < m.length) (hj : j < m.length) : en m i j ≤ allZ m := by
 have h1 := sumZ_term (n := m.length) (f := fun j => en m i j) (fun j hj => g.2.1.nn hi hj) hj
 have h2 := sumZ_term (n := m.length) (f := fun i => rowZ m i) (fun i hi => (g.2.1.row hi).1) hi
 unfold allZ rowZ at *
 omega
theorem sum_ne {n : Nat} {f : Nat → Int} (h : ∀ i, i < n → 0 ≤ f i) {a : Nat} (ha : a < n) (hne : f a ≠ 0) : sumZ n f ≠ 0 := fun e => hne ((sumZ_zero h).1 e a ha)
theorem inc_len (m : List (List Int)) (x : Nat) : (impl_Matrix_grown.inc m x).length = m.length := by rw [impl_Matrix_grown.inc, List.length_set]
theorem inc_row (m : List (List Int)) (x : Nat) (hx : x < m.length) (i : Nat) : ((impl_Matrix_grown.inc m x).getD i []).length = (m.getD i []).length := by
 rw [impl_Matrix_grown.inc, getD_setG _ _ _ _ _ hx]
 by_cases e : i = x
 · rw [if_pos e, List.length_set, e]
 · rw [if_neg e]
theorem inc_en (m : List (List Int)) (h : Cells m) (x : Nat) (hx : x < m.length) (i j : Nat) : en (impl_Matrix_grown.inc m x) i j = en m i j + if i = x ∧ j = m.length - 1 then 1 else 0 := by
 have hl := (h x hx).1
 have hb := (h x hx).2 (m.length - 1) (by omega)
 rw [en, impl_Matrix_grown.inc, getD_setG _ _ _ _ _ hx]
 by_cases e : i = x
 · {
 rw [if_pos e, getD_setG _ _ _ _ _ (by omega)]
 by_cases e2 : j = m.length - 1
 · rw [if_pos e2, if_pos ⟨e, e2⟩, wrap_small (by simp only [en] at hb; omega) (by simp only [en] at hb; omega), e, e2]; rfl
 · rw [if_neg e2, if_neg (fun h => e2 h.2), e, Int.add_zero]; rfl}
 · rw [if_neg e, if_neg (fun h => e h.1), Int.add_zero]; rfl
theorem inc_isMat (m : List (List Int)) (g : isMat m) (hz : allZ m ≤ 11) (x : Nat) (hx : x < m.length) :
    isMat (impl_Matrix_grown.inc m x) ∧ allZ (impl_Matrix_grown.inc m x) = allZ m + 1 ∧ ∀ i, i < m.length → rowZ (impl_Matrix_grown.inc m x) i = rowZ m i + if i = x then 1 else 0 := by
 have hlen := inc_len m x
 have hE := inc_en m g.2.1 x hx
 have hrow : ∀ i, i < m.length → rowZ (impl_Matrix_grown.inc m x) i = rowZ m i + if i = x then 1 else 0 := fun i hi => by {
 have e1 : rowZ (impl_Matrix_grown.inc m x) i = sumZ m.length (fun j => en m i j + if i = x ∧ j = m.length - 1 then 1 else 0) := by unfold rowZ; rw [hlen]; exact sumZ_congr (fun j _ => hE i j)
 rw [e1, sumZ_add]
 congr 1
 by_cases e : i = x
 · {
 rw [if_pos e]
 rw [sumZ_congr (g := fun j => if j = m.length - 1 then 1 else 0) (fun j _ => by by_cases c : j = m.length - 1 <;> simp [e, c])]
 exact sum_ind _ _ (by omega) 1}
 · {
 rw [if_neg e]
 exact (sumZ_zero (fun j _ => by rw [if_neg (fun h => e h.1)]; exact Int.le_refl _)).2 (fun j _ => by rw [if_neg (fun h => e h.1)])}}
 have hall : allZ (impl_Matrix_grown.inc m x) = allZ m + 1 := by {
 have e1 : allZ (impl_Matrix_grown.inc m x) = sumZ m.length (fun i => rowZ m i + if i = x then 1 else 0) := by unfold allZ; rw [hlen]; exact sumZ_congr (fun i hi => hrow i hi)
 rw [e1, sumZ_add, sum_ind _ _ hx 1]; rfl}
 have hnn : ∀ i j, i < m.length → j < m.length → 0 ≤ en (impl_Matrix_grown.inc m x) i j := fun i j hi hj => by {
 have := g.2.1.nn hi hj
 rw [hE]; split <;> omega}
 refine ⟨⟨by rw [hlen]; exact g.1, fun i hi => ?_, fun i hi => ?_, fun j hj => ?_, by omega⟩, hall, hrow⟩
 · {
 rw [hlen] at hi
 refine ⟨by rw [inc_row m x hx, hlen]; exact (g.2.1 i hi).1, fun j hj => ?_⟩
 rw [hlen] at hj
 have h1 := (g.2.1 i hi).2 j hj
 have h2 := g.en_all hi hj
 refine ⟨hnn i j hi hj, by rw [hE]; split <;> omega, fun hji => ?_⟩
 rw [hE, h1.2.2 hji, if_neg (fun h => by omega)]; rfl}
 · {
 rw [hlen] at hi
 have := (g.2.1.row hi).1
 have := g.2.2.1 i hi
 rw [hrow i hi]; split <;> omega}
 · {
 rw [hlen] at hj
 obtain ⟨i, hi, hne⟩ := g.shk.2.2.2 j hj
 have h0 := g.2.1.nn hi hj
 unfold colZ
 rw [hlen]
 exact sum_ne (fun i hi => hnn i j hi hj) hi (by rw [hE]; split <;> omega)}
theorem ins_getD (r : List Int) (x : Nat) (hx : x ≤ r.length) (j : Nat) : (r.insertIdx x 0).getD j 0 = if j = x then 0 else r.getD (dnx x j) 0 := by
 rw [List.getD_eq_getElem?_getD, insGet _ _ _ _ hx]
 by_cases c : j < x
 · rw [if_pos c, if_neg (by omega), dnx_lt c, List.getD_eq_getElem?_getD]
 · {
 rw [if_neg c]
 by_cases c2 : j = x
 · rw [if_pos c2, if_pos c2]; rfl
 · rw [if_neg c2, if_neg c2, dnx_ge (by omega), List.getD_eq_getElem?_getD]}
def wEn (m : List (List Int)) (x i j : Nat) : Int := if i = x then (if j = m.length then 1 else 0) else if i < x ∧ x < m.length then (if j = m.length then 0 else if j = x then en m i (m.length - 1) else en m i (dnx x j)) else if j = x then 0 else en m (dnx x i) (dnx x j)
theorem gRow_en (m : List (List Int)) (h : Cells m) (x : Nat) (hx : x ≤ m.length) (i j : Nat) (hi : i ≤ m.length) (hj : j ≤ m.length) : (gRow m x m.length i).getD j 0 = wEn m x i j := by
 unfold gRow wEn
 by_cases e : i = x
 · {
 rw [if_pos e, if_pos e, getD_setG _ _ _ _ _ (by simp)]
 by_cases c : j = m.length
 · rw [if_pos c, if_pos c]
 · rw [if_neg c, if_neg c, List.getD_eq_getElem?_getD, List.getElem?_replicate, if_pos (by omega)]; rfl}
 · {
 rw [if_neg e, if_neg e]
 by_cases c : x < i
 · {
 have hl := (h (i - 1) (by omega)).1
 rw [if_pos c, if_neg (by omega), ins_getD _ _ (by omega), dnx_ge (show x ≤ i by omega)]; rfl}
 · {
 have hil : i < m.length := by omega
 have hl := (h i hil).1
 rw [if_neg c]
 by_cases c2 : x < m.length
 · {
 rw [if_pos c2, if_pos ⟨by omega, c2⟩, impl_Matrix_grown.fix]
 have hl2 : ((m.getD i []).insertIdx x 0).length = m.length + 1 := by rw [List.length_insertIdx, if_pos (by omega), hl]
 rw [getD_setG _ _ _ _ _ (by rw [List.length_set]; omega), getD_setG _ _ _ _ _ (by omega), ins_getD _ _ (by omega), ins_getD _ _ (by omega)]
 by_cases c3 : j = m.length
 · rw [if_pos c3, if_pos c3]
 · {
 rw [if_neg c3, if_neg c3]
 by_cases c4 : j = x
 · rw [if_pos c4, if_pos c4, if_neg (by omega), dnx_ge (by omega)]; rfl
 · rw [if_neg c4, if_neg c4, if_neg c4]; rfl}}
 · rw [if_neg c2, if_neg (fun h => c2 h.2), ins_getD _ _ (by omega), dnx_lt (show i < x by omega)]; rfl}}
theorem wide_isMat (m : List (List Int)) (g : isMat m) (hz : allZ m ≤ 11) (x : Nat) (hx : x ≤ m.length) (ht : ¬ (x : Int) ≤ topI m) :
    (growM m x).length = m.length + 1 ∧ (∀ i j, i ≤ m.length → j ≤ m.length → en (growM m x) i j = wEn m x i j) ∧ isMat (growM m x) ∧ allZ (growM m x) = allZ m + 1 ∧ ∀ i, i ≤ m.length → rowZ (growM m x) i = if i = x then 1 else rowZ m (dnx x i) := by
 have hG : growM m x = (List.range (m.length + 1)).map (gRow m x m.length) := by rw [growM, if_neg ht]
 have hlen : (growM m x).length = m.length + 1 := by rw [hG]; simp
 have hgr : ∀ i, i ≤ m.length → (growM m x).getD i [] = gRow m x m.length i := fun i hi => by rw [hG, getD_map_range _ _ (by omega)]
 have hE : ∀ i j, i ≤ m.length → j ≤ m.length → en (growM m x) i j = wEn m x i j := fun i j hi hj => by rw [en, hgr i hi, gRow_en m g.2.1 x hx i j hi hj]
 have hd11 := g.le_all
 have hrow : ∀ i, i ≤ m.length → rowZ (growM m x) i = if i = x then 1 else rowZ m (dnx x i) := fun i hi => by {
 have e1 : rowZ (growM m x) i = sumZ (m.length + 1) (fun j => wEn m x i j) := by unfold rowZ; rw [hlen]; exact sumZ_congr (fun j hj => hE i j hi (by omega))
 rw [e1]
 unfold wEn
 by_cases e : i = x
 · simp only [if_pos e]; exact sum_ind _ _ (by omega) 1
 · {
 simp only [if_neg e]
 by_cases c : i < x ∧ x < m.length
 · {
 simp only [if_pos c]
 rw [sumZ, if_pos rfl, Int.add_zero, dnx_lt c.1]
 rw [sumZ_congr (g := fun j => if j = x then en m i (m.length - 1) else en m i (dnx x j)) (fun j hj => by rw [if_neg (by omega)])]
 have h1 := sum_ins (m.length - 1) x (by omega) (en m i (m.length - 1)) (fun j => en m i j)
 have h2 : rowZ m i = sumZ (m.length - 1) (fun j => en m i j) + en m i (m.length - 1) := by {
 unfold rowZ
 obtain ⟨d, hd⟩ : ∃ d, m.length = d + 1 := ⟨m.length - 1, by omega⟩
 rw [hd]; rfl}
 rw [show m.length - 1 + 1 = m.length from by omega] at h1
 rw [h1, h2]}
 · {
 simp only [if_neg c]
 have h1 := sum_ins m.length x hx 0 (fun j => en m (dnx x i) j)
 rw [h1, Int.add_zero]; rfl}}}
 have hall : allZ (growM m x) = allZ m + 1 := by {
 have e1 : allZ (growM m x) = sumZ (m.length + 1) (fun i => if i = x then 1 else rowZ m (dnx x i)) := by unfold allZ; rw [hlen]; exact sumZ_congr (fun i hi => hrow i (by omega))
 rw [e1, sum_ins m.length x hx 1 (fun i => rowZ m i)]; rfl}
 have hdi : ∀ i, i ≤ m.length → i ≠ x → dnx x i < m.length := fun i hi hne => by unfold dnx; split <;> omega
 have hsrc : ∀ i j, i ≤ m.length → j ≤ m.length → (0 ≤ wEn m x i j ∧ wEn m x i j ≤ 12) ∧ (j < i → wEn m x i j = 0) := fun i j hi hj => by {
 unfold wEn
 by_cases e : i = x
 · {
 rw [if_pos e]
 refine ⟨by split <;> omega, fun hji => by rw [if_neg (by omega)]⟩}
 · {
 rw [if_neg e]
 by_cases c : i < x ∧ x < m.length
 · {
 rw [if_pos c]
 by_cases c2 : j = m.length
 · rw [if_pos c2]; exact ⟨by omega, fun _ => rfl⟩
 · {
 rw [if_neg c2]
 by_cases c3 : j = x
 · {
 rw [if_pos c3]
 have h1 := (g.2.1 i (by omega)).2 (m.length - 1) (by omega)
 exact ⟨⟨h1.1, h1.2.1⟩, fun h => by omega⟩}
 · {
 rw [if_neg c3]
 have h1 := (g.2.1 i (by omega)).2 (dnx x j) (hdi j hj c3)
 exact ⟨⟨h1.1, h1.2.1⟩, fun h => h1.2.2 (by rw [dnx_lt (by omega)]; exact h)⟩}}}
 · {
 rw [if_neg c]
 by_cases c3 : j = x
 · rw [if_pos c3]; exact ⟨by omega, fun _ => rfl⟩
 · {
 rw [if_neg c3]
 have h1 := (g.2.1 (dnx x i) (hdi i hi e)).2 (dnx x j) (hdi j hj c3)
 exact ⟨⟨h1.1, h1.2.1⟩, fun h => h1.2.2 (by unfold dnx; split <;> split <;> omega)⟩}}}}
 refine ⟨hlen, hE, ⟨by rw [hlen]; omega, fun i hi => ?_, fun i hi => ?_, fun j hj => ?_, by omega⟩, hall, hrow⟩
 · {
 rw [hlen] at hi
 refine ⟨by rw [hgr i (by omega), hlen]; exact gRow_len m g.2.1.bd.sq x hx i (by omega), fun j hj => ?_⟩
 rw [hlen] at hj
 rw [hE i j (by omega) (by omega)]
 have := hsrc i j (by omega) (by omega)
 exact ⟨this.1.1, this.1.2, this.2⟩}
 · {
 rw [hlen] at hi
 rw [hrow i (by omega)]
 by_cases e : i = x
 · rw [if_pos e]; decide
 · rw [if_neg e]; exact g.2.2.1 _ (hdi i (by omega) e)}
 · {
 rw [hlen] at hj
 unfold colZ
 rw [hlen]
 have hnn : ∀ i, i < m.length + 1 → 0 ≤ en (growM m x) i j := fun i hi => by rw [hE i j (by omega) (by omega)]; exact (hsrc i j (by omega) (by omega)).1.1
 by_cases c : j = m.length
 · {
 refine sum_ne hnn (show x < m.length + 1 by omega) ?_
 rw [hE x j hx (by omega), wEn, if_pos rfl, if_pos c]; decide}
 · {
 by_cases c2 : j = x
 · {
 have hp : 0 < m.length := by omega
 have htn := topI_nn m g.shk hp
 obtain ⟨t, ht1⟩ : ∃ t : Nat, topI m = (t : Int) := ⟨(topI m).toNat, by omega⟩
 have hit := seekTop_hit m m.length 0 t ht1
 refine sum_ne hnn (show t < m.length + 1 by omega) ?_
 rw [hE t j (by omega) (by omega), wEn, if_neg (by omega), if_pos ⟨by omega, by omega⟩, if_neg c, if_pos c2]; exact hit}
 · {
 obtain ⟨i, hi, hne⟩ := g.shk.2.2.2 (dnx x j) (hdi j (by omega) c2)
 by_cases c3 : i < x
 · {
 refine sum_ne hnn (show i < m.length + 1 by omega) ?_
 rw [hE i j (by omega) (by omega), wEn, if_neg (by omega)]
 by_cases c4 : x < m.length
 · rw [if_pos ⟨c3, c4⟩, if_neg c, if_neg c2]; exact hne
 · rw [if_neg (fun h => c4 h.2), if_neg c2, dnx_lt c3]; exact hne}
 · {
 refine sum_ne hnn (show i + 1 < m.length + 1 by omega) ?_
 rw [hE (i + 1) j (by omega) (by omega), wEn, if_neg (by omega), if_neg (by omega), if_neg c2, dnx_ge (by omega)]; exact hne}}}}
theorem grow_isMat (m : List (List Int)) (g : isMat m) (hz : allZ m ≤ 11) (x : Nat) (hx : x ≤ m.length) :
    isMat (growM m x) ∧ allZ (growM m x) = allZ m + 1 ∧ topI (growM m x) = (x : Int) ∧ (growM m x).length = (if (x : Int) ≤ topI m then m.length else m.length + 1) ∧ rowZ (growM m x) 0 = (if m.length = 0 then 0 else rowZ m 0) + if x = 0 then 1 else 0 := by
 have hd := g.1
 obtain ⟨_, i2, i3⟩ := grow_inv m 12 (by decide) (by decide) g.2.1.bd (by omega) x hx
 have ht := topI_lt m
 by_cases c : (x : Int) ≤ topI m
 · {
 obtain ⟨h1, h2, h3⟩ := inc_isMat m g hz x (by omega)
 have e : growM m x = impl_Matrix_grown.inc m x := by rw [growM, if_pos c]
 refine ⟨by rw [e]; exact h1, by rw [e]; exact h2, i2, i3, ?_⟩
 have hne : m.length ≠ 0 := by omega
 rw [e, h3 0 (by omega), if_neg hne]
 congr 1
 by_cases c2 : x = 0
 · rw [if_pos c2.symm, if_pos c2]
 · rw [if_neg (fun h => c2 h.symm), if_neg c2]}
 · {
 obtain ⟨_, _, h1, h2, h3⟩ := wide_isMat m g hz x hx c
 refine ⟨h1, h2, i2, i3, ?_⟩
 rw [h3 0 (by omega)]
 by_cases c2 : x = 0
 · {
 rw [if_pos c2.symm, if_pos c2]
 have : m.length = 0 := by {
 apply Classical.byContradiction; intro hne
 have := topI_nn m g.shk (by omega)
 omega}
 rw [if_pos this]; rfl}
 · rw [if_neg (fun h => c2 h.symm), if_neg c2, dnx_lt (by omega), if_neg (by omega), Int.add_zero]}
theorem shrink_grow (m : List (List Int)) (g : isMat m) (hz : allZ m ≤ 11) (x : Nat) (hx : x ≤ m.length) : shrinkM (growM m x) = (m, (x : Int)) := by
 obtain ⟨k1, k2, k3, k4, _⟩ := grow_isMat m g hz x hx
 have ht := topI_lt m
 rw [shrinkM, k3, Int.toNat_natCast]
 by_cases c : (x : Int) ≤ topI m
 · {
 have hxl : x < m.length := by omega
 obtain ⟨h1, h2, h3⟩ := inc_isMat m g hz x hxl
 have e : growM m x = impl_Matrix_grown.inc m x := by rw [growM, if_pos c]
 have hr0 := (g.2.1.row hxl).1
 have hr1 := g.2.2.1 x hxl
 rw [e, h3 x hxl, if_pos rfl, if_pos (by omega)]
 congr 1
 have hl := inc_len m x
 refine mat_ext (by rw [dec_len, hl]) (fun i hi => ?_) (fun i j hi hj => ?_)
 · {
 rw [impl_Matrix_shrunk.dec, getD_setG _ _ _ _ _ (by omega)]
 by_cases e2 : i = x
 · rw [if_pos e2, List.length_set, inc_row m x hxl, e2]
 · rw [if_neg e2, inc_row m x hxl]}
 · {
 rw [dec_en _ h1.2.1 x (by omega), hl, inc_en m g.2.1 x hxl, inc_en m g.2.1 x hxl, if_pos (show x = x ∧ m.length - 1 = m.length - 1 from ⟨rfl, rfl⟩)]
 by_cases e2 : i = x ∧ j = m.length - 1
 · rw [if_pos e2, e2.1, e2.2]; omega
 · rw [if_neg e2, if_neg e2]; omega}}
 · {
 obtain ⟨h0, hE, h1, h2, h3⟩ := wide_isMat m g hz x hx c
 rw [h3 x hx, if_pos rfl, if_neg (by decide)]
 congr 1
 have hll := less_len (growM m x) x (by omega)
 refine mat_ext (by rw [hll, h0]; rfl) (fun i hi => ?_) (fun i j hi hj => ?_)
 · {
 rw [hll, h0] at hi
 rw [less_row _ x (by omega) i (by rw [h0]; exact hi), List.length_eraseIdx, if_pos (by rw [sRow_len _ h1.2.1 x _ (by rw [h0]; unfold upx; split <;> omega)]; omega), sRow_len _ h1.2.1 x _ (by rw [h0]; unfold upx; split <;> omega), h0, (g.2.1 i (by omega)).1]; rfl}
 · {
 rw [hll, h0] at hi
 have hjl : j < m.length := by {
 rw [less_row _ x (by omega) i (by rw [h0]; exact hi), List.length_eraseIdx, if_pos (by rw [sRow_len _ h1.2.1 x _ (by rw [h0]; unfold upx; split <;> omega)]; omega), sRow_len _ h1.2.1 x _ (by rw [h0]; unfold upx; split <;> omega), h0] at hj
 exact hj}
 rw [less_en _ h1.2.1 x (by omega) i (by rw [h0]; exact hi), lessE, h0, show m.length + 1 - 1 = m.length from rfl]
 have hui : upx x i ≤ m.length := by unfold upx; split <;> omega
 have huj : upx x j ≤ m.length := by unfold upx; split <;> omega
 have hdi : dnx x (upx x i) = i := dnx_upx x i
 have hdj : dnx x (upx x j) = j := dnx_upx x j
 have hnx : ∀ k, upx x k ≠ x := fun k => by unfold upx; split <;> omega
 by_cases c1 : upx x i < x ∧ x < m.length ∧ upx x j = m.length
 · {
 have ej : j = m.length - 1 := by rw [← hdj, c1.2.2, dnx_ge (by omega)]
 have ei : upx x i = i := by {
 have := c1.1
 unfold upx at this ⊢; split at this <;> split <;> omega}
 rw [if_pos c1, hE _ _ hui hx, wEn, if_neg (hnx i), if_pos ⟨c1.1, c1.2.1⟩, if_neg (by omega), if_pos rfl, ei, ej]}
 · {
 rw [if_neg c1, hE _ _ hui huj, wEn, if_neg (hnx i)]
 by_cases c2 : upx x i < x ∧ x < m.length
 · {
 have ei : upx x i = i := by {
 have := c2.1
 unfold upx at this ⊢; split at this <;> split <;> omega}
 rw [if_pos c2, if_neg (fun h => c1 ⟨c2.1, c2.2, h⟩), if_neg (hnx j), hdj, ei]}
 · rw [if_neg c2, if_neg (hnx j), hdi, hdj]}}}
theorem and255 (x : Int) (h0 : 0 ≤ x) (h1 : x < 9223372036854775808) : 0 ≤ wrap64 (Go.bits .and .u64 x 255) ∧ wrap64 (Go.bits .and .u64 x 255) ≤ 255 := by
 have hm := Go.bits_mask .u64 63 (by decide) (fun n a b => by rw [IntKind.wrap_u64]; omega) 8 (by decide) x h0 (by omega)
 have e : ((2 : Int) ^ 8 - 1) = 255 := by decide
 have e2 : ((2 : Int) ^ 8) = 256 := by decide
 rw [e, e2] at hm
 rw [hm, wrap_small (by omega) (by omega)]; omega
def BytesOk (c : List Int) : Prop := c.length ≤ 1048576 ∧ ∀ x ∈ c, 0 ≤ x ∧ x ≤ 255
theorem BytesOk.at_ {c : List Int} (h : BytesOk c) (i : Nat) : 0 ≤ c.getD i 0 ∧ c.getD i 0 ≤ 255 := by
 by_cases e : i < c.length
 · rw [getD_lt _ _ _ e]; exact h.2 _ (List.getElem_mem e)
 · rw [List.getD_eq_getElem?_getD, List.getElem?_eq_none (by omega)]; exact ⟨Int.le_refl _, by decide⟩
theorem next_ok (c : List Int) (h : BytesOk c) (a s : Int) (h0 : 0 ≤ a) (h1 : a ≤ 4611686018427387000) : ∃ b s', spec_l1Cur_next.f c a s = some (b, a + 1, s') ∧ 0 ≤ b ∧ b ≤ 255 := by
 have hw : wrap64 (a + 1) = a + 1 := wrap_small (by omega) (by omega)
 have hand : ∀ y : Int, 0 ≤ wrap64 (Go.bits .and .u64 (IntKind.u64.wrap y / 1099511627776) 255) ∧ wrap64 (Go.bits .and .u64 (IntKind.u64.wrap y / 1099511627776) 255) ≤ 255 := fun y => and255 _ (by rw [IntKind.wrap_u64]; omega) (by rw [IntKind.wrap_u64]; omega)
 unfold spec_l1Cur_next.f
 rw [hw]
 by_cases c1 : a < (c.length : Int)
 · {
 obtain ⟨i, rfl⟩ : ∃ i : Nat, a = (i : Int) := ⟨a.toNat, by omega⟩
 have hb := h.at_ i
 rw [if_pos c1, if_pos h0, if_pos (by omega), rd_nat, wrap_small (x := c.getD i 0) (by omega) (by omega)]
 exact ⟨_, _, rfl, hb.1, hb.2⟩}
 · {
 rw [if_neg c1]
 by_cases c2 : a + 1 ≤ (c.length : Int)
 · rw [if_pos c2]; exact ⟨_, _, rfl, Int.le_refl _, by decide⟩
 · {
 rw [if_neg c2]
 have := hand ((IntKind.u64.wrap ((IntKind.u64.wrap (s * 6364136223846793005)) + 0)) + 1442695040888963407)
 exact ⟨_, _, rfl, this.1, this.2⟩}}
theorem pick_ok (c : List Int) (h : BytesOk c) (a s n : Int) (h0 : 0 ≤ a) (h1 : a ≤ 4611686018427380000) (hn : n ≤ 4611686018427387000) : ∃ r a' s', spec_l1Cur_pick.f c a s n = some (r, a', s') ∧ 0 ≤ r ∧ (1 ≤ n → r < n) ∧ 0 ≤ a' ∧ a' ≤ a + 2 := by
 unfold spec_l1Cur_pick.f
 by_cases c1 : n ≤ 1
 · rw [if_pos c1]; exact ⟨_, _, _, rfl, Int.le_refl _, fun _ => by omega, h0, by omega⟩
 · {
 rw [if_neg c1]
 obtain ⟨b, s', e, hb0, hb1⟩ := next_ok c h a s h0 (by omega)
 rw [e, Option.bind_some]
 by_cases c2 : n > 200
 · {
 rw [if_pos c2]
 obtain ⟨b2, s2, e2, hc0, hc1⟩ := next_ok c h (a + 1) s' (by omega) (by omega)
 simp only []
 rw [e2, Option.bind_some, if_neg (by omega)]
 have w1 : wrap64 (b * 256) = b * 256 := wrap_small (by omega) (by omega)
 have w2 : wrap64 (b * 256 + b2) = b * 256 + b2 := wrap_small (by omega) (by omega)
 simp only [w1, w2]
 refine ⟨_, _, _, rfl, Int.tmod_nonneg _ (by omega), fun _ => Int.tmod_lt_of_pos _ (by omega), by omega, by omega⟩}
 · {
 rw [if_neg c2, if_neg (by omega)]
 refine ⟨_, _, _, rfl, Int.tmod_nonneg _ hb0, fun _ => Int.tmod_lt_of_pos _ (by omega), by simp only []; omega, by simp only []; omega⟩}}
theorem one_ok (c : List Int) (h : BytesOk c) (a s n : Int) (h0 : 0 ≤ a) (h1 : a ≤ 4611686018427380000) (hn : n ≤ 4611686018427387000) : ∃ b a' s', spec_l1Cur_one.f c a s n = some (b, a', s') ∧ 0 ≤ a' ∧ a' ≤ a + 2 := by
 obtain ⟨r, a', s', e, _, _, e2, e3⟩ := pick_ok c h a s n h0 h1 hn
 exact ⟨r == 0, a', s', by unfold spec_l1Cur_one.f; rw [e]; rfl, e2, e3⟩
theorem pSame_refl (l : List Int) (hl : l.length ≤ 1048576) : Ev (fun k => laws_pSame.f k l l) true := by
 unfold laws_pSame.f
 refine Ev_pos rfl ?_
 have main : ∀ (d i : Nat), l.length - i = d → i ≤ l.length → Ev (fun k => laws_pSame.l0 k l l (l.length : Int) (i : Int)) true := by {
 intro d
 induction d with
 | zero => intro i hd hi; exact Ev.step (fun _ => rfl) (Ev_neg (by omega) (Ev_some rfl))
 | succ d ih => {
 intro i hd hi
 refine Ev.step (fun _ => rfl) (Ev_pos (by omega) (Ev_pos (by omega) (Ev_pos (by omega) (Ev_pos (by omega) (Ev_pos rfl ?_)))))
 rw [wrap_succ (i := i) (by omega)]
 exact ih (i + 1) (by omega) (by omega)}}
 exact main _ 0 rfl (by omega)
theorem pSameMatrix_refl (m : List (List Int)) (hs : Small m) : Ev (fun k => laws_pSameMatrix.f k m m) true := by
 unfold laws_pSameMatrix.f
 have hl := hs.1
 refine Ev_pos rfl ?_
 have main : ∀ (d i : Nat), m.length - i = d → i ≤ m.length → Ev (fun k => laws_pSameMatrix.l0 k (m.length : Int) (i : Int) m m) true := by {
 intro d
 induction d with
 | zero => intro i hd hi; exact Ev.step (fun _ => rfl) (Ev_neg (by omega) (Ev_some rfl))
 | succ d ih => {
 intro i hd hi
 refine Ev.step (fun _ => rfl) (Ev_pos (by omega) (Ev_pos (by omega) (Ev_pos (by omega) (Ev_pos (by omega) ?_))))
 rw [rdL_nat, wrap_succ (by omega)]
 exact Ev.bind (pSame_refl _ (hs.2 _ (getD_mem (by omega)))) (Ev_pos rfl (ih (i + 1) (by omega) (by omega)))}}
 exact main _ 0 rfl (by omega)
theorem bound_all (l : List Int) (h : l.length ≤ 1000) : Ev (fun k => spec_asBound.f k l) (bndA l l.length) := by
 have := specBound_ev l l.length (Nat.le_refl _) h
 rw [List.take_length] at this
 exact this
theorem bndA_rng (l : List Int) (i : Nat) : 0 ≤ bndA l i ∧ bndA l i ≤ (i : Int) + 1 := by
 have := ascN_le l i
 unfold bndA; split <;> omega
theorem ascent_l0 (c : List Int) (h : BytesOk c) (n : Nat) (hn : n ≤ 20) : ∀ (d : Nat) (l : List Int) (a s : Int), n - l.length = d → l.length ≤ n → 0 ≤ a → a + 10 * d ≤ 60000 → ∃ R, Ev (fun k => spec_l1Cur_ascent.l0 k (n : Int) l c a s) R ∧ R.1.length ≤ n + 1 ∧ 0 ≤ R.2.1 ∧ R.2.1 ≤ a + 10 * d + 10 := by
 intro d
 induction d with
 | zero => {
 intro l a s hd hl ha hb
 have hln : l.length = n := by omega
 obtain ⟨r, a1, s1, e1, r0, _, f0, f1⟩ := pick_ok c h a s 14 ha (by omega) (by decide)
 have hle : ¬ (l.length : Int) < (n : Int) := by omega
 by_cases z : r = 0
 · {
 by_cases p : (l.length : Int) > 0
 · {
 obtain ⟨i, a2, s2, e2, i0, i1, g0, g1⟩ := pick_ok c h a1 s1 (l.length : Int) f0 (by omega) (by omega)
 obtain ⟨u, a3, s3, e3, _, _, k0, k1⟩ := pick_ok c h a2 s2 7 g0 (by omega) (by decide)
 have i1 := i1 (by omega)
 refine ⟨(l.set i.toNat (wrap64 (u - 1)), a3, s3), ?_, by show (l.set _ _).length ≤ _; rw [List.length_set]; omega, k0, by show a3 ≤ _; omega⟩
 refine Ev.step (fun k => by rw [spec_l1Cur_ascent.l0]) (Ev_neg hle (Ev_val e1 (Ev_pos z (Ev_pos p (Ev_val e2 (Ev_val e3 (Ev_pos i0 (Ev_pos i1 (Ev_some rfl)))))))))}
 · {
 refine ⟨(l, a1, s1), ?_, by show l.length ≤ _; omega, f0, by show a1 ≤ _; omega⟩
 exact Ev.step (fun k => by rw [spec_l1Cur_ascent.l0]) (Ev_neg hle (Ev_val e1 (Ev_pos z (Ev_neg p (Ev_some rfl)))))}}
 · {
 by_cases z1 : r = 1
 · {
 obtain ⟨u, a2, s2, e2, _, _, g0, g1⟩ := pick_ok c h a1 s1 2 f0 (by omega) (by decide)
 have hsm : l.length < 17592186044416 := by omega
 refine ⟨(l ++ [wrap64 (bndA l l.length + u)], a2, s2), ?_, by show (l ++ [_]).length ≤ _; rw [List.length_append, List.length_singleton]; omega, g0, by show a2 ≤ _; omega⟩
 exact Ev.step (fun k => by rw [spec_l1Cur_ascent.l0]) (Ev_neg hle (Ev_val e1 (Ev_neg z (Ev_pos z1 (Ev.bind (bound_all l (by omega)) (Ev_val e2 (Ev_pos hsm (Ev_some rfl))))))))}
 · {
 refine ⟨(l, a1, s1), ?_, by show l.length ≤ _; omega, f0, by show a1 ≤ _; omega⟩
 exact Ev.step (fun k => by rw [spec_l1Cur_ascent.l0]) (Ev_neg hle (Ev_val e1 (Ev_neg z (Ev_neg z1 (Ev_some rfl)))))}}}
 | succ d ih => {
 intro l a s hd hl ha hb
 have hlt : (l.length : Int) < (n : Int) := by omega
 have hsm : l.length < 17592186044416 := by omega
 have hbd := bndA_rng l l.length
 obtain ⟨r, a1, s1, e1, _, _, f0, f1⟩ := pick_ok c h a s (bndA l l.length + 1) ha (by omega) (by omega)
 obtain ⟨b, a2, s2, e2, g0, g1⟩ := one_ok c h a1 s1 3 f0 (by omega) (by decide)
 have w : wrap64 (bndA l l.length + 1) = bndA l l.length + 1 := wrap_small (by omega) (by omega)
 rw [← w] at e1
 cases b with
 | true => {
 obtain ⟨R, hR, q1, q2, q3⟩ := ih (l ++ [bndA l l.length]) a2 s2 (by rw [List.length_append, List.length_singleton]; omega) (by rw [List.length_append, List.length_singleton]; omega) g0 (by omega)
 exact ⟨R, Ev.step (fun k => by rw [spec_l1Cur_ascent.l0]) (Ev_pos hlt (Ev.bind (bound_all l (by omega)) (Ev_val e1 (Ev_val e2 (Ev_pos rfl (Ev_pos hsm hR)))))), q1, q2, by omega⟩}
 | false => {
 obtain ⟨R, hR, q1, q2, q3⟩ := ih (l ++ [r]) a2 s2 (by rw [List.length_append, List.length_singleton]; omega) (by rw [List.length_append, List.length_singleton]; omega) g0 (by omega)
 exact ⟨R, Ev.step (fun k => by rw [spec_l1Cur_ascent.l0]) (Ev_pos hlt (Ev.bind (bound_all l (by omega)) (Ev_val e1 (Ev_val e2 (Ev_neg Bool.false_ne_true (Ev_pos hsm hR)))))), q1, q2, by omega⟩}}
theorem ascent_j0 (c : List Int) (h : BytesOk c) (n a s : Int) (h0 : 0 ≤ n) (hn : n ≤ 20) (ha : 0 ≤ a) (hb : a ≤ 50000) : ∃ R, Ev (fun k => spec_l1Cur_ascent.j0 k n c a s) R ∧ R.1.length ≤ 21 ∧ 0 ≤ R.2.1 ∧ R.2.1 ≤ a + 300 := by
 obtain ⟨n, rfl⟩ := Int.eq_ofNat_of_zero_le h0
 obtain ⟨R, hR, q1, q2, q3⟩ := ascent_l0 c h n (by omega) n [] a s (by simp) (by simp) ha (by omega)
 exact ⟨R, Ev.step (fun k => by rw [spec_l1Cur_ascent.j0]) hR, by omega, q2, by omega⟩
theorem ascent_ok (c : List Int) (h : BytesOk c) (m : Int) (hm0 : 0 ≤ m) (hm : m ≤ 15) (a s : Int) (ha : 0 ≤ a) (hb : a ≤ 40000) : ∃ R, Ev (fun k => spec_l1Cur_ascent.f k c a s m) R ∧ R.1.length ≤ 21 ∧ 0 ≤ R.2.1 ∧ R.2.1 ≤ a + 400 := by
 have w : wrap64 (m + 1) = m + 1 := wrap_small (by omega) (by omega)
 obtain ⟨r, a1, s1, e1, r0, r1, f0, f1⟩ := pick_ok c h a s (m + 1) ha (by omega) (by omega)
 have r1 := r1 (by omega)
 obtain ⟨b, a2, s2, e2, g0, g1⟩ := one_ok c h a1 s1 10 f0 (by omega) (by decide)
 cases b with
 | true => {
 obtain ⟨u, a3, s3, e3, u0, u1, k0, k1⟩ := pick_ok c h a2 s2 2 g0 (by omega) (by decide)
 have u1 := u1 (by decide)
 have w2 : wrap64 (12 + u) = 12 + u := wrap_small (by omega) (by omega)
 obtain ⟨R, hR, q1, q2, q3⟩ := ascent_j0 c h (12 + u) a3 s3 (by omega) (by omega) k0 (by omega)
 refine ⟨R, ?_, q1, q2, by omega⟩
 unfold spec_l1Cur_ascent.f
 rw [w]
 refine Ev_val e1 (Ev_val e2 (Ev_pos rfl (Ev_val e3 ?_)))
 simp only [w2]; exact hR}
 | false => {
 obtain ⟨R, hR, q1, q2, q3⟩ := ascent_j0 c h r a2 s2 r0 (by omega) g0 (by omega)
 refine ⟨R, ?_, q1, q2, by omega⟩
 unfold spec_l1Cur_ascent.f
 rw [w]
 exact Ev_val e1 (Ev_val e2 (Ev_neg Bool.false_ne_true hR))}
def Sml (m : List (List Int)) : Prop := m.length ≤ 14 ∧ ∀ r ∈ m, r.length ≤ 13
theorem Sml.small {m : List (List Int)} (h : Sml m) : Small m := ⟨by have := h.1; omega, fun r hr => by have := h.2 r hr; omega⟩
theorem among_ok (c : List Int) (h : BytesOk c) (a s : Int) (L : List Int) (hl : 0 < L.length) (hl2 : L.length ≤ 1000) (h0 : 0 ≤ a) (h1 : a ≤ 4611686018427380000) : ∃ v a' s', spec_l1Cur_among.f c a s L = some (v, a', s') ∧ 0 ≤ a' ∧ a' ≤ a + 2 := by
 obtain ⟨r, a', s', e, r0, r1, q0, q1⟩ := pick_ok c h a s (L.length : Int) h0 h1 (by omega)
 exact ⟨rd L r, a', s', by unfold spec_l1Cur_among.f; rw [e]; show (if 0 ≤ r then (if r < (L.length : Int) then some (rd L r, a', s') else none) else none) = _; rw [if_pos r0, if_pos (r1 (by omega))], q0, q1⟩
theorem orUpTo3 : Ev (fun k => spec_orUpTo.f k 3) [0, 1, 2] := ⟨5, fun k hk => by
  obtain ⟨j, rfl⟩ : ∃ j, k = j + 5 := ⟨k - 5, by omega⟩
  kernel_rfl⟩
theorem asc012 : AscOk [0, 1, 2] := by
 refine ⟨by decide, fun i hi => ?_⟩
 have : i = 0 ∨ i = 1 ∨ i = 2 := by simp at hi; omega
 rcases this with rfl | rfl | rfl <;> decide
theorem matA_sml (l : List Int) (g : AscOk l) : (matA l l.length).length ≤ 13 ∧ ∀ r ∈ matA l l.length, r.length = (matA l l.length).length := by
 obtain ⟨h1, h2, _⟩ := matA_inv l g l.length (Nat.le_refl _)
 have := ascN_le l l.length
 have := g.1
 refine ⟨by rw [h2]; split <;> omega, fun r hr => (h1 r hr).1⟩
theorem specMaOf_ev (l : List Int) (g : AscOk l) : Ev (fun k => spec_maOf.f k l) (matA l l.length) := by
 unfold spec_maOf.f
 exact matOf_ev l g (fun k => spec_maOf.l0 k) (fun k => spec_maGrow.f k) (fun _ _ _ _ _ => rfl) (fun m hd h hs x hx => maGrow_ev m hd h hs x hx)
theorem matrix_j0 (c : List Int) (h : BytesOk c) (l : List Int) (g : AscOk l) (a s : Int) (ha : 0 ≤ a) (hb : a ≤ 60000) : ∃ R, Ev (fun k => spec_l1Cur_matrix.j0 k l c a s) R ∧ Sml R.1 ∧ 0 ≤ R.2.1 ∧ R.2.1 ≤ a + 50 := by
 obtain ⟨m1, m2⟩ := matA_sml l g
 have hM := specMaOf_ev l g
 revert m1 m2 hM
 generalize matA l l.length = M
 intro m1 m2 hM
 have hsm : Sml M := ⟨by omega, fun r hr => by rw [m2 r hr]; omega⟩
 obtain ⟨r, a1, s1, e, r0, r1, q0, q1⟩ := pick_ok c h a s 14 ha (by omega) (by decide)
 by_cases c0 : r = 0
 · {
 by_cases c1 : (M.length : Int) > 0
 · {
 obtain ⟨i, a2, s2, e2, i0, i1, p0, p1⟩ := pick_ok c h a1 s1 (M.length : Int) q0 (by omega) (by omega)
 obtain ⟨j, a3, s3, e3, j0, j1, o0, o1⟩ := pick_ok c h a2 s2 (M.length : Int) p0 (by omega) (by omega)
 obtain ⟨v, a4, s4, e4, n0, n1⟩ := among_ok c h a3 s3 [-1, 0, 1, 12, 13] (by decide) (by decide) o0 (by omega)
 have hi := i1 (by omega)
 have hj := j1 (by omega)
 have hrow : (rd_L2 M i).length = M.length := by {
 have hk : i.toNat < M.length := by omega
 have : rd_L2 M i = M[i.toNat] := getD_lt M i.toNat [] hk
 rw [this]; exact m2 _ (List.getElem_mem _)}
 refine ⟨(M.set i.toNat ((rd_L2 M i).set j.toNat v), a4, s4), Ev.step (fun k => by rw [spec_l1Cur_matrix.j0]) (Ev.bind hM (Ev_val e (Ev_pos c0 (Ev_pos c1 (Ev_val e2 (Ev_pos i0 (Ev_pos hi (Ev_val e3 (Ev_val e4 (Ev_pos j0 (Ev_pos (show j < ((rd_L2 M i).length : Int) by rw [hrow]; exact hj) (Ev_some rfl)))))))))))), ⟨by rw [List.length_set]; omega, fun x hx => ?_⟩, by simp only []; omega, by simp only []; omega⟩
 rcases List.mem_or_eq_of_mem_set hx with h1 | h1
 · exact hsm.2 x h1
 · rw [h1, List.length_set, hrow]; omega}
 · exact ⟨(M, a1, s1), Ev.step (fun k => by rw [spec_l1Cur_matrix.j0]) (Ev.bind hM (Ev_val e (Ev_pos c0 (Ev_neg c1 (Ev_some rfl))))), hsm, by simp only []; omega, by simp only []; omega⟩}
 · {
 by_cases c1 : r = 1
 · {
 refine ⟨(M ++ [[1]], a1, s1), Ev.step (fun k => by rw [spec_l1Cur_matrix.j0]) (Ev.bind hM (Ev_val e (Ev_neg c0 (Ev_pos c1 (Ev_pos (show M.length < 5864062014805 by omega) (Ev_some rfl)))))), ⟨by rw [List.length_append]; simp; omega, fun x hx => ?_⟩, by simp only []; omega, by simp only []; omega⟩
 rcases List.mem_append.1 hx with h1 | h1
 · exact hsm.2 x h1
 · rw [List.mem_singleton.1 h1]; decide}
 · {
 by_cases c2 : r = 2
 · {
 by_cases c3 : (M.length : Int) > 1
 · exact ⟨(M.drop (1 : Int).toNat, a1, s1), Ev.step (fun k => by rw [spec_l1Cur_matrix.j0]) (Ev.bind hM (Ev_val e (Ev_neg c0 (Ev_neg c1 (Ev_pos c2 (Ev_pos c3 (Ev_pos (show 1 ≤ (M.length : Int) by omega) (Ev_some rfl)))))))), ⟨by rw [List.length_drop]; omega, fun x hx => hsm.2 x (List.mem_of_mem_drop hx)⟩, by simp only []; omega, by simp only []; omega⟩
 · exact ⟨(M, a1, s1), Ev.step (fun k => by rw [spec_l1Cur_matrix.j0]) (Ev.bind hM (Ev_val e (Ev_neg c0 (Ev_neg c1 (Ev_pos c2 (Ev_neg c3 (Ev_some rfl))))))), hsm, by simp only []; omega, by simp only []; omega⟩}
 · exact ⟨(M, a1, s1), Ev.step (fun k => by rw [spec_l1Cur_matrix.j0]) (Ev.bind hM (Ev_val e (Ev_neg c0 (Ev_neg c1 (Ev_neg c2 (Ev_some rfl)))))), hsm, by simp only []; omega, by simp only []; omega⟩}}
theorem matrix_ok (c : List Int) (h : BytesOk c) (most : Int) (h0 : 0 ≤ most) (h1 : most ≤ 15) : ∃ R, Ev (fun k => spec_l1Cur_matrix.f k c 0 0 most) R ∧ Sml R.1 ∧ 0 ≤ R.2.1 ∧ R.2.1 ≤ 1000 := by
 unfold spec_l1Cur_matrix.f
 obtain ⟨R, hR, hl, b0, b1⟩ := ascent_ok c h most h0 h1 0 0 (Int.le_refl _) (by decide)
 obtain ⟨l, a, s⟩ := R
 simp only [] at hl b0 b1
 by_cases g : AscOk l
 · {
 obtain ⟨S, hS, p1, p2, p3⟩ := matrix_j0 c h l g a s b0 (by omega)
 exact ⟨S, Ev.bind hR (Ev.bind (asGood_ev l (by omega)) (Ev_pos (decide_eq_true g) hS)), p1, p2, by omega⟩}
 · {
 obtain ⟨S, hS, p1, p2, p3⟩ := matrix_j0 c h [0, 1, 2] asc012 a s b0 (by omega)
 exact ⟨S, Ev.bind hR (Ev.bind (asGood_ev l (by omega)) (Ev_neg (by simpa using g) (Ev.bind orUpTo3 hS))), p1, p2, by omega⟩}
theorem wf_byte {x : Int} (h : (Lit.int .u8 x).wf = true) : 0 ≤ x ∧ x ≤ 255 := by
 simp [Lit.wf] at h
 have a : IntKind.u8.min = 0 := by decide
 have b : IntKind.u8.max = 255 := by decide
 rw [a, b] at h; exact h
def zeroN (l : List Int) : Nat → Nat
  | 0 => 0
  | i + 1 => zeroN l i + if l.getD i 0 = 0 then 1 else 0
theorem isMat_nil : isMat [] := ⟨by decide, fun i hi => absurd hi (Nat.not_lt_zero _), fun i hi => absurd hi (Nat.not_lt_zero _), fun i hi => absurd hi (Nat.not_lt_zero _), by decide⟩
theorem matA_all (l : List Int) (g : AscOk l) : ∀ i, i ≤ l.length → isMat (matA l i) ∧ allZ (matA l i) = (i : Int) ∧ (if (matA l i).length = 0 then 0 else rowZ (matA l i) 0) = (zeroN l i : Int)
  | 0, _ => ⟨isMat_nil, rfl, rfl⟩
  | i + 1, hi => by
    obtain ⟨h1, h2, h3⟩ := matA_all l g i (by omega)
    obtain ⟨_, x, hx, hxl, hm⟩ := matA_step l g i (by omega)
    have hl := g.1
    obtain ⟨k1, k2, _, k4, k5⟩ := grow_isMat (matA l i) h1 (by omega) x hxl
    rw [← hm] at k1 k2 k4 k5
    refine ⟨k1, by omega, ?_⟩
    have hne : (matA l (i + 1)).length ≠ 0 := by
      have := topI_lt (matA l i)
      rw [k4]; split <;> omega
    rw [if_neg hne, k5, h3, zeroN, hx]
    by_cases c : x = 0
    · rw [if_pos c, if_pos (by omega)]; rfl
    · rw [if_neg c, if_neg (by omega)]; rfl
theorem Shk.small {m : List (List Int)} (g : Shk m) : Small m := ⟨by have := g.1; omega, fun r hr => by
  obtain ⟨i, hi, rfl⟩ := List.getElem_of_mem hr
  rw [← getD_lt m i [] hi, (g.2.1 i hi).1]; have := g.1; omega⟩
theorem ascent_matA (l : List Int) (g : AscOk l) : ∀ i, i ≤ l.length → ∀ acc : List Int, acc.length + i ≤ 1000 → Ev (fun k => impl_Matrix_ascent.l0 k acc (matA l i)) (l.take i ++ acc.reverse)
  | 0, _, acc, ha => by
    refine Ev.step (fun _ => rfl) (Ev_val (show impl_Matrix_size.f (matA l 0) = some ((matA l 0).length : Int) from rfl) (Ev_neg (show ¬ (((matA l 0).length : Nat) : Int) > 0 by rw [matA]; decide) (Ev.bind (reverse_ev acc (by omega)) (Ev_some (by simp)))))
  | i + 1, hi, acc, ha => by
    obtain ⟨h1, h2, h3⟩ := matA_all l g i (by omega)
    obtain ⟨k1, k2, k3⟩ := matA_all l g (i + 1) hi
    obtain ⟨_, x, hx, hxl, hm⟩ := matA_step l g i (by omega)
    have hl := g.1
    have hp : 0 < (matA l (i + 1)).length := by
      apply Classical.byContradiction; intro hn
      have hz : (matA l (i + 1)).length = 0 := by omega
      have : allZ (matA l (i + 1)) = 0 := by unfold allZ; rw [hz]; rfl
      omega
    have hs := shrink_grow (matA l i) h1 (by omega) x hxl
    rw [← hm] at hs
    have he := shrunk_ev (matA l (i + 1)) k1.shk k1.shk.small hp
    rw [hs] at he
    have next := ascent_matA l g i (by omega) (acc ++ [(x : Int)]) (by rw [List.length_append, List.length_singleton]; omega)
    have hlen : acc.length < 17592186044416 := by omega
    refine Ev_eq (Ev.step (fun _ => rfl) (Ev_val (show impl_Matrix_size.f (matA l (i + 1)) = some ((matA l (i + 1)).length : Int) from rfl) (Ev_pos (by omega) (Ev.bind he (Ev_pos hlen next))))) ?_
    rw [List.reverse_append, List.take_add_one, List.getElem?_eq_getElem (by omega), ← getD_lt l i 0 (by omega), hx]
    simp
def moaR (l : List Int) : List (List Int) × Bool := if AscOk l then (matA l l.length, true) else ([], false)
theorem implMOA_ev (l : List Int) (hs : l.length ≤ 1048576) : Ev (fun k => impl_MatrixOfAscent.f k l) (moaR l) := by
 unfold impl_MatrixOfAscent.f moaR
 refine Ev.bind (isAscent_ev l hs) ?_
 by_cases g : AscOk l
 · {
 rw [if_pos g]
 exact Ev_pos (decide_eq_true g) (Ev.bind (matOf_ev l g (fun k => impl_matrixOf.l0 k) (fun k => impl_Matrix_grown.f k) (fun _ _ _ _ _ => rfl) (fun m hd h hs x hx => grown_ev m hd h hs x hx)) (Ev_some rfl))}
 · rw [if_neg g]; exact Ev_neg (by simpa using g) (Ev_some rfl)
theorem shk_isMat {m : List (List Int)} (h : Shk m) (hz : allZ m ≤ 12) : isMat m := by
 refine ⟨h.1, h.2.1, fun i hi => ?_, fun j hj => ?_, hz⟩
 · {
 obtain ⟨j, hj, hc⟩ := h.2.2.1 i hi
 exact sum_ne (fun j hj => h.2.1.nn hi hj) hj hc}
 · {
 obtain ⟨i, hi, hc⟩ := h.2.2.2 j hj
 exact sum_ne (fun i hi => h.2.1.nn hi hj) hi hc}
theorem topI_ge {m : List (List Int)} (h : Shk m) (hp : 0 < m.length) (x : Nat) (h0 : ∀ j, j < x → en m j (m.length - 1) = 0) : (x : Int) ≤ topI m := by
 have h1 := topI_nn m h hp
 obtain ⟨t, ht⟩ : ∃ t : Nat, topI m = (t : Int) := ⟨(topI m).toNat, by omega⟩
 have h2 := seekTop_hit m m.length 0 t ht
 apply Classical.byContradiction; intro hc
 exact h2 (h0 t (by omega))
theorem topI_lt_of {m : List (List Int)} (x i : Nat) (hi : i < x) (hl : i < m.length) (hc : en m i (m.length - 1) ≠ 0) : topI m < (x : Int) := by
 apply Classical.byContradiction; intro h
 exact hc (seekTop_pre m m.length 0 i (Nat.zero_le _) (by show (i : Int) < topI m; omega))
theorem sumZ_sub {n : Nat} {f g h : Nat → Int} (e : ∀ i, i < n → f i = g i - h i) : sumZ n f = sumZ n g - sumZ n h := by
 induction n with
 | zero => rfl
 | succ n ih => rw [sumZ, sumZ, sumZ, ih (fun i hi => e i (by omega)), e n (by omega)]; omega
theorem dec_all (m : List (List Int)) (h : Cells m) (x : Nat) (hx : x < m.length) : allZ (impl_Matrix_shrunk.dec m x) = allZ m - 1 := by
 unfold allZ
 rw [dec_len, sumZ_sub (g := fun i => rowZ m i) (h := fun i => if i = x then 1 else 0), sum_ind m.length x hx 1]
 intro i hi
 unfold rowZ
 rw [dec_len, sumZ_sub (g := fun j => en m i j) (h := fun j => if j = m.length - 1 then (if i = x then 1 else 0) else 0), sum_ind m.length (m.length - 1) (by omega)]
 intro j hj
 rw [dec_en m h x hx]
 by_cases c : i = x
 · {
 by_cases c2 : j = m.length - 1
 · rw [if_pos ⟨c, c2⟩, if_pos c2, if_pos c, c, c2]
 · rw [if_neg (fun h => c2 h.2), if_neg c2]; omega}
 · {
 rw [if_neg (fun h => c h.1)]
 by_cases c2 : j = m.length - 1
 · rw [if_pos c2, if_neg c]; omega
 · rw [if_neg c2]; omega}
theorem upx_dnx {x i : Nat} (h : i ≠ x) : upx x (dnx x i) = i := by
 unfold upx dnx
 by_cases c : i < x
 · rw [if_pos c, if_pos c]
 · rw [if_neg c, if_neg (by omega)]; omega
theorem less_back (m : List (List Int)) (g : isMat m) (hp : 0 < m.length) (x : Nat) (hx : topI m = (x : Int)) (hr : ¬ 1 < rowZ m x) :
    isMat (impl_Matrix_shrunk.less m x) ∧ allZ (impl_Matrix_shrunk.less m x) = allZ m - 1 ∧ growM (impl_Matrix_shrunk.less m x) x = m := by
 have hd := g.1
 have htl := topI_lt m
 have hxl : x < m.length := by omega
 have hhit := seekTop_hit m m.length 0 x hx
 have hpre : ∀ j, j < x → en m j (m.length - 1) = 0 := fun j hj => seekTop_pre m m.length 0 j (Nat.zero_le _) (by show (j : Int) < topI m; omega)
 have hrow : ∀ j, j < m.length → j ≠ m.length - 1 → en m x j = 0 := by {
 intro j hj hne
 have h2 := sum_two (f := fun j => en m x j) (n := m.length) (fun j hj => g.2.1.nn hxl hj) hj (show m.length - 1 < m.length by omega) hne
 have h3 := g.2.1.nn hxl hj
 have h4 := g.2.1.nn hxl (show m.length - 1 < m.length by omega)
 have : rowZ m x = sumZ m.length (fun j => en m x j) := rfl
 omega}
 have hone : en m x (m.length - 1) = 1 := by {
 have h2 : rowZ m x = sumZ m.length (fun j => if j = m.length - 1 then en m x (m.length - 1) else 0) := sumZ_congr (fun j hj => by
  by_cases c : j = m.length - 1
  · rw [if_pos c, c]
  · rw [if_neg c]; exact hrow j hj c)
 rw [sum_ind m.length (m.length - 1) (by omega)] at h2
 have := g.2.1.nn hxl (show m.length - 1 < m.length by omega)
 omega}
 have hlow : ∀ i j, i < m.length → j < i → en m i j = 0 := fun i j hi hj => ((g.2.1 i hi).2 j (by omega)).2.2 hj
 have hS := less_shk m g.shk hp x hx hr
 have hll := less_len m x hxl
 have hen := fun i hi j => less_en m g.2.1 x hxl i hi j
 have hS2 := hS.2.1
 generalize impl_Matrix_shrunk.less m x = s at hS hll hen hS2
 have hwE : ∀ i j, i ≤ s.length → j ≤ s.length → wEn s x i j = en m i j := by {
 intro i j hi hj
 unfold wEn
 by_cases c1 : i = x
 · {
 rw [if_pos c1, c1]
 by_cases c2 : j = s.length
 · rw [if_pos c2, c2, hll, hone]
 · rw [if_neg c2, hrow j (by omega) (by omega)]}
 · {
 rw [if_neg c1]
 by_cases c2 : i < x ∧ x < s.length
 · {
 rw [if_pos c2]
 by_cases c3 : j = s.length
 · rw [if_pos c3, c3, hll, hpre i c2.1]
 · {
 rw [if_neg c3]
 by_cases c4 : j = x
 · rw [if_pos c4, hen i (by omega), lessE, show upx x i = i from if_pos c2.1, show upx x (s.length - 1) = m.length - 1 from by unfold upx; rw [if_neg (by omega)]; omega, if_pos ⟨c2.1, by omega, rfl⟩, c4]
 · rw [if_neg c4, hen i (by omega), lessE, show upx x i = i from if_pos c2.1, upx_dnx c4, if_neg (by omega)]}}
 · {
 rw [if_neg c2]
 by_cases c4 : j = x
 · {
 rw [if_pos c4, c4]
 by_cases c5 : x < i
 · exact (hlow i x (by omega) c5).symm
 · {
 have : x = m.length - 1 := by omega
 have h6 := hpre i (by omega)
 rw [← this] at h6; exact h6.symm}}
 · {
 have hd1 : dnx x i < m.length - 1 := by unfold dnx; split <;> omega
 rw [if_neg c4, hen _ hd1, lessE, upx_dnx c1, upx_dnx c4, if_neg (by omega)]}}}}
 have hall : allZ m = allZ s + 1 := by {
 have e1 : allZ m = sumZ (s.length + 1) (fun i => if i = x then 1 else rowZ s (dnx x i)) := by {
 unfold allZ
 rw [show m.length = s.length + 1 from by omega]
 refine sumZ_congr (fun i hi => ?_)
 have e2 : rowZ m i = sumZ (s.length + 1) (fun j => wEn s x i j) := by {
 unfold rowZ
 rw [show m.length = s.length + 1 from by omega]
 exact sumZ_congr (fun j hj => (hwE i j (by omega) (by omega)).symm)}
 rw [e2]
 by_cases c1 : i = x
 · {
 rw [if_pos c1]
 refine (sumZ_congr (fun j hj => ?_)).trans (sum_ind (s.length + 1) s.length (by omega) 1)
 rw [wEn, if_pos c1]}
 · {
 rw [if_neg c1]
 have hd1 : dnx x i < s.length := by unfold dnx; split <;> omega
 by_cases c2 : i < x ∧ x < s.length
 · {
 have hp2 : 0 < s.length := by omega
 have e3 : ∀ j, j < s.length + 1 → wEn s x i j = (fun q => if q = s.length then 0 else (fun q => if q = x then en s i (s.length - 1) else en s i (dnx x q)) q) j := fun j hj => by rw [wEn, if_neg c1, if_pos c2]
 rw [sumZ_congr e3, sumZ, if_pos rfl, Int.add_zero]
 have e4 : sumZ s.length (fun q => if q = s.length then 0 else (fun q => if q = x then en s i (s.length - 1) else en s i (dnx x q)) q) = sumZ (s.length - 1 + 1) (fun q => if q = x then en s i (s.length - 1) else en s i (dnx x q)) := by {
 rw [show s.length - 1 + 1 = s.length from by omega]
 exact sumZ_congr (fun q hq => by rw [if_neg (by omega)])}
 rw [e4, sum_ins (s.length - 1) x (by omega) _ (fun q => en s i q), dnx_lt c2.1]
 unfold rowZ
 obtain ⟨n, hn⟩ : ∃ n, s.length = n + 1 := ⟨s.length - 1, by omega⟩
 rw [hn, sumZ]; rfl}
 · {
 have e3 : ∀ j, j < s.length + 1 → wEn s x i j = (fun q => if q = x then 0 else en s (dnx x i) (dnx x q)) j := fun j hj => by rw [wEn, if_neg c1, if_neg c2]
 rw [sumZ_congr e3, sum_ins s.length x (by omega) 0 (fun q => en s (dnx x i) q), Int.add_zero]; rfl}}}
 rw [e1, sum_ins s.length x (by omega) 1 (fun i => rowZ s i)]; rfl}
 have gs : isMat s := shk_isMat hS (by have := g.2.2.2.2; omega)
 refine ⟨gs, by omega, ?_⟩
 have hnt : ¬ (x : Int) ≤ topI s := by {
 have htl2 := topI_lt s
 by_cases c : x < s.length
 · {
 obtain ⟨i, hi, hne⟩ := g.shk.2.2.2 x hxl
 have hix : i < x := by {
 apply Classical.byContradiction; intro h
 by_cases e : i = x
 · rw [e] at hne; exact hne (hrow x hxl (by omega))
 · exact hne (hlow i x hi (by omega))}
 have h7 : en s i (s.length - 1) ≠ 0 := by {
 rw [hen i (by omega), lessE, show upx x i = i from if_pos hix, show upx x (s.length - 1) = m.length - 1 from by unfold upx; rw [if_neg (by omega)]; omega, if_pos ⟨hix, by omega, rfl⟩]
 exact hne}
 have := topI_lt_of (m := s) x i hix (by omega) h7
 omega}
 · omega}
 rw [growM, if_neg hnt]
 have hxs : x ≤ s.length := by omega
 refine mat_ext (by rw [List.length_map, List.length_range]; omega) (fun i hi => ?_) (fun i j hi hj => ?_)
 · {
 rw [List.length_map, List.length_range] at hi
 rw [getD_map_range _ _ hi, gRow_len s gs.2.1.sq' x hxs i (by omega), (g.2.1 i (by omega)).1]; omega}
 · {
 rw [List.length_map, List.length_range] at hi
 rw [getD_map_range _ _ hi, gRow_len s gs.2.1.sq' x hxs i (by omega)] at hj
 rw [en, getD_map_range _ _ hi, gRow_en s gs.2.1 x hxs i j (by omega) (by omega)]
 exact hwE i j (by omega) (by omega)}
theorem grow_shrink (m : List (List Int)) (g : isMat m) (hp : 0 < m.length) :
    isMat (shrinkM m).1 ∧ allZ (shrinkM m).1 = allZ m - 1 ∧ growM (shrinkM m).1 (shrinkM m).2.toNat = m ∧ 0 ≤ (shrinkM m).2 ∧ (shrinkM m).2 ≤ ((shrinkM m).1.length : Int) := by
 have htl := topI_lt m
 have htn := topI_nn m g.shk hp
 obtain ⟨x, hx⟩ : ∃ x : Nat, topI m = (x : Int) := ⟨(topI m).toNat, by omega⟩
 have hxl : x < m.length := by omega
 unfold shrinkM
 rw [hx, Int.toNat_natCast]
 by_cases hr : 1 < rowZ m x
 · {
 rw [if_pos hr]
 simp only [Int.toNat_natCast]
 have hS := (dec_shk m g.shk hp x hx hr).1
 have ha := dec_all m g.2.1 x hxl
 have hl := dec_len m x
 have gs : isMat (impl_Matrix_shrunk.dec m x) := shk_isMat hS (by have := g.2.2.2.2; omega)
 refine ⟨gs, ha, ?_, by omega, by omega⟩
 have ht : (x : Int) ≤ topI (impl_Matrix_shrunk.dec m x) := topI_ge hS (by omega) x (fun j hj => by
  rw [hl, dec_en m g.2.1 x hxl, if_neg (fun h => by omega)]
  exact seekTop_pre m m.length 0 j (Nat.zero_le _) (by show (j : Int) < topI m; omega))
 rw [growM, if_pos ht]
 refine mat_ext (by rw [inc_len, hl]) (fun i hi => ?_) (fun i j hi hj => ?_)
 · {
 rw [inc_len, hl] at hi
 rw [inc_row _ x (by omega), (gs.2.1 i (by omega)).1, (g.2.1 i hi).1, hl]}
 · {
 rw [inc_len, hl] at hi
 rw [inc_en _ gs.2.1 x (by omega), hl, dec_en m g.2.1 x hxl]
 by_cases e2 : i = x ∧ j = m.length - 1
 · rw [if_pos e2, if_pos e2, e2.1, e2.2]; omega
 · rw [if_neg e2, if_neg e2]; omega}}
 · {
 rw [if_neg hr]
 simp only [Int.toNat_natCast]
 obtain ⟨h1, h2, h3⟩ := less_back m g hp x hx hr
 exact ⟨h1, h2, h3, by omega, by rw [less_len m x hxl]; omega⟩}
def TJ (sep : ByteArray) (ws : List ByteArray) : ByteArray := ⟨(Go.Lib.join (ws.map (·.data.toList)) sep.data.toList).toArray⟩
theorem ba_ext {a b : ByteArray} (h : a.data.toList = b.data.toList) : a = b := by
  cases a with
  | mk x => cases b with
    | mk y =>
      have : x = y := by
        apply Array.ext'
        exact h
      rw [this]
theorem TJ_data (sep : ByteArray) (ws : List ByteArray) : (TJ sep ws).data.toList = Go.Lib.join (ws.map (·.data.toList)) sep.data.toList := rfl
theorem TJ_size (sep : ByteArray) (hs : sep.size = 1) (B : Nat) : ∀ ws : List ByteArray, (∀ w ∈ ws, w.size ≤ B) → (TJ sep ws).size ≤ ws.length * (B + 1)
  | [], _ => Nat.zero_le _
  | x :: r, h => by
    have e : (TJ sep (x :: r)).size = ((TJ sep (x :: r)).data.toList).length := by rw [Array.length_toList]; rfl
    have ex : (x.data.toList).length = x.size := by rw [Array.length_toList]; rfl
    have es : (sep.data.toList).length = 1 := by rw [Array.length_toList]; exact hs
    rw [e, TJ_data, List.map_cons, Go.Lib.join_cons, List.length_append, ex]
    have h1 := h x (by simp)
    have ht : ∀ l : List ByteArray, (∀ w ∈ l, w.size ≤ B) → (Go.Lib.joinTail sep.data.toList (l.map (·.data.toList))).length ≤ l.length * (B + 1) := by
      intro l
      induction l with
      | nil => intro _; simp [Go.Lib.joinTail]
      | cons y l ih =>
        intro hl
        have h2 := ih (fun w hw => hl w (by simp [hw]))
        have h3 := hl y (by simp)
        have ey : (y.data.toList).length = y.size := by rw [Array.length_toList]; rfl
        have e2 : (Go.Lib.joinTail sep.data.toList ((y :: l).map (·.data.toList))).length = 1 + y.size + (Go.Lib.joinTail sep.data.toList (l.map (·.data.toList))).length := by
          unfold Go.Lib.joinTail
          rw [List.map_cons, List.map_cons, List.flatten_cons, List.length_append, List.length_append, es, ey]
        rw [e2, List.length_cons, Nat.succ_mul]
        omega
    have h4 := ht r (fun w hw => h w (by simp [hw]))
    rw [List.length_cons, Nat.succ_mul]
    omega
theorem join_ok (sep : ByteArray) (hsep : sep.size = 1) (ws : List ByteArray) (B : Nat) (hB : B ≤ 1000000) (h : ∀ w ∈ ws, w.size ≤ B) (hn : ws.length ≤ 1000) : strings_Join.f ws sep = some (TJ sep ws) := by
 unfold strings_Join.f strings_Join.v
 have h1 := TJ_size sep hsep B ws h
 have e : (TJ sep ws).size = (Go.Lib.join (ws.map (·.data.toList)) sep.data.toList).length := by rw [← TJ_data, Array.length_toList]; rfl
 have hmul : ws.length * (B + 1) ≤ 1000 * 1000001 := Nat.mul_le_mul (by omega) (by omega)
 rw [if_pos ⟨by omega, by rw [← e]; omega⟩]
 rfl
theorem words_ev {β : Type} (f : Nat → List ByteArray → List β → Int → Int → Option ByteArray) (G : Nat → β → Option ByteArray) (rb : List β → Int → β) (sep : ByteArray) (hsep : sep.size = 1)
    (hf : ∀ k x3 x7 x8 x9, f (k + 1) x3 x7 x8 x9 = if x9 < x8 then (if 0 ≤ x9 then (if x9 < (x7.length : Int) then ((G k (rb x7 x9)).bind fun t => (if x3.length < 8796093022208 then (f k (x3 ++ [t]) x7 x8 (wrap64 (x9 + 1))) else (none))) else (none)) else (none)) else ((strings_Join.f x3 sep).bind fun t => (some t)))
    (L : List β) (hrb : ∀ (i : Nat) (h : i < L.length), rb L (i : Int) = L[i]) (W : β → ByteArray) (B : Nat) (hB : B ≤ 1000000) (hW : ∀ x ∈ L, Ev (fun k => G k x) (W x) ∧ (W x).size ≤ B) (hn : L.length ≤ 1000) :
    Ev (fun k => f k [] L (L.length : Int) 0) (TJ sep (L.map W)) := by
 have hws : ∀ w ∈ L.map W, w.size ≤ B := by {
 intro w hw
 obtain ⟨x, hx, rfl⟩ := List.mem_map.1 hw
 exact (hW x hx).2}
 have main : ∀ (d i : Nat), L.length - i = d → i ≤ L.length → Ev (fun k => f k ((L.take i).map W) L (L.length : Int) (i : Int)) (TJ sep (L.map W)) := by {
 intro d
 induction d with
 | zero => {
 intro i hd hi
 obtain rfl : i = L.length := by omega
 refine Ev.step (fun k => hf k _ _ _ _) (Ev_neg (by omega) ?_)
 rw [List.take_length]
 exact Ev_val (join_ok sep hsep _ B hB hws (by rw [List.length_map]; exact hn)) (Ev_some rfl)}
 | succ d ih => {
 intro i hd hi
 have hlt : i < L.length := by omega
 obtain ⟨g1, g2⟩ := hW L[i] (List.getElem_mem hlt)
 refine Ev.step (fun k => hf k _ _ _ _) (Ev_pos (by omega) (Ev_pos (by omega) (Ev_pos (by omega) ?_)))
 rw [hrb i hlt, wrap_succ (by omega)]
 refine Ev.bind g1 (Ev_pos (by rw [List.length_map, List.length_take]; omega) ?_)
 have h1 := ih (i + 1) (by omega) (by omega)
 rw [List.take_succ_eq_append_getElem hlt, List.map_append] at h1
 exact h1}}
 exact main _ 0 rfl (Nat.zero_le _)
def nm (x : Int) : ByteArray := if x < 10 then ⟨#[UInt8.ofNat (48 + x.toNat)]⟩ else ⟨#[49, UInt8.ofNat (48 + (x - 10).toNat)]⟩
theorem nm_size (x : Int) : (nm x).size ≤ 2 := by
 unfold nm; split
 · exact Nat.le_succ 1
 · exact Nat.le_refl 2
theorem itoa_nm (x : Int) (h0 : 0 ≤ x) (h1 : x < 20) : strconv_Itoa.f x = some (nm x) := by
 unfold strconv_Itoa.f nm
 rw [if_pos ⟨h0, by omega⟩]
 by_cases c : x < 10
 · rw [if_pos c, Go.Lib.decDigits, dif_pos (by omega)]
 · {
 rw [if_neg c, Go.Lib.decDigits, dif_neg (by omega), Go.Lib.decDigits, dif_pos (by omega), show x.toNat / 10 = 1 from by omega, show x.toNat % 10 = (x - 10).toNat from by omega]
 rfl}
def comma : ByteArray := ⟨#[44]⟩
def slash : ByteArray := ⟨#[47]⟩
def rowT (r : List Int) : ByteArray := TJ comma (r.map nm)
def matT (m : List (List Int)) : ByteArray := TJ slash (m.map rowT)
def Few (r : List Int) : Prop := r.length ≤ 12 ∧ ∀ x ∈ r, 0 ≤ x ∧ x < 13
theorem rowT_size {r : List Int} (h : Few r) : (rowT r).size ≤ 36 := by
 have h1 := TJ_size comma rfl 2 (r.map nm) (fun w hw => by obtain ⟨x, _, rfl⟩ := List.mem_map.1 hw; exact nm_size x)
 rw [List.length_map] at h1
 have := h.1
 unfold rowT; omega
theorem rd_at (L : List Int) (i : Nat) (h : i < L.length) : rd L (i : Int) = L[i] := by rw [rd_nat, getD_lt _ _ _ h]
theorem rdL_at (L : List (List Int)) (i : Nat) (h : i < L.length) : rd_L2 L (i : Int) = L[i] := by rw [rdL_nat, getD_lt _ _ _ h]
theorem ascentText_ev (r : List Int) (h : Few r) : Ev (fun k => impl_ascentText.f k r) (rowT r) := by
 unfold impl_ascentText.f
 exact words_ev (fun k => impl_ascentText.l0 k) (fun _ => strconv_Itoa.f) rd comma rfl (fun _ _ _ _ _ => rfl) r (rd_at r) nm 2 (by omega) (fun x hx => ⟨⟨0, fun _ _ => itoa_nm x (h.2 x hx).1 (by have := (h.2 x hx).2; omega)⟩, nm_size x⟩) (by have := h.1; omega)
theorem matrixText_ev (m : List (List Int)) (hl : m.length ≤ 12) (h : ∀ r ∈ m, Few r) : Ev (fun k => impl_matrixText.f k m) (matT m) := by
 unfold impl_matrixText.f
 exact words_ev (fun k => impl_matrixText.l0 k) (fun k => impl_ascentText.f k) rd_L2 slash rfl (fun _ _ _ _ _ => rfl) m (rdL_at m) rowT 36 (by omega) (fun x hx => ⟨ascentText_ev x (h x hx), rowT_size (h x hx)⟩) (by omega)
theorem isMat_few {m : List (List Int)} (g : isMat m) : ∀ r ∈ m, Few r := by
 intro r hr
 obtain ⟨i, hi, rfl⟩ := List.mem_iff_getElem.1 hr
 have h1 := g.2.1 i hi
 have e : m.getD i [] = m[i] := getD_lt _ _ _ hi
 have hl : m[i].length = m.length := by rw [← e]; exact h1.1
 refine ⟨by have := g.1; omega, fun x hx => ?_⟩
 obtain ⟨j, hj, rfl⟩ := List.mem_iff_getElem.1 hx
 have h2 := h1.2 j (by omega)
 have e2 : en m i j = m[i][j] := by {
 show (m.getD i []).getD j 0 = _
 rw [e, getD_lt _ _ _ hj]}
 rw [← e2]
 have := h2.1; have := h2.2.1
 omega
def cut (c : UInt8) : List UInt8 → List (List UInt8)
  | [] => [[]]
  | b :: l => if b = c then [] :: cut c l else (match cut c l with | [] => [[b]] | q :: qs => (b :: q) :: qs)
def onto (p : List UInt8) : List (List UInt8) → List (List UInt8)
  | [] => [p]
  | q :: qs => (p ++ q) :: qs
theorem cut_ne (c : UInt8) (l : List UInt8) : cut c l ≠ [] := by
 cases l with
 | nil => simp [cut]
 | cons b l => {
 unfold cut
 split
 · simp
 · split <;> simp}
theorem cut_eq {c b : UInt8} (l : List UInt8) (h : b = c) : cut c (b :: l) = [] :: cut c l := by
 rw [cut, if_pos h]
theorem cut_miss {c b : UInt8} (l : List UInt8) (h : b ≠ c) : cut c (b :: l) = onto [b] (cut c l) := by
 rw [cut, if_neg h]
 cases cut c l with
 | nil => rfl
 | cons q qs => rfl
theorem onto_onto (p r : List UInt8) (L : List (List UInt8)) (h : L ≠ []) : onto p (onto r L) = onto (p ++ r) L := by
 cases L with
 | nil => exact absurd rfl h
 | cons q qs => simp [onto]
theorem onto_nil (L : List (List UInt8)) (h : L ≠ []) : onto [] L = L := by
 cases L with
 | nil => exact absurd rfl h
 | cons q qs => rfl
theorem join_onto (c : UInt8) (p : List UInt8) (L : List (List UInt8)) (h : L ≠ []) : Go.Lib.join (onto p L) [c] = p ++ Go.Lib.join L [c] := by
 cases L with
 | nil => exact absurd rfl h
 | cons q qs => rw [onto, Go.Lib.join_cons, Go.Lib.join_cons, List.append_assoc]
theorem join_cut (c : UInt8) : ∀ l : List UInt8, Go.Lib.join (cut c l) [c] = l
  | [] => by rw [cut, Go.Lib.join_one]
  | b :: l => by
    by_cases h : b = c
    · rw [cut_eq l h]
      have ih := join_cut c l
      cases hc : cut c l with
      | nil => exact absurd hc (cut_ne c l)
      | cons q qs =>
        rw [hc, Go.Lib.join_cons] at ih
        rw [Go.Lib.join_cons, List.nil_append]
        have e : Go.Lib.joinTail [c] (q :: qs) = c :: (q ++ Go.Lib.joinTail [c] qs) := by simp [Go.Lib.joinTail]
        rw [e, ih, h]
    · rw [cut_miss l h, join_onto _ _ _ (cut_ne c l), join_cut c l]
      rfl
theorem cut_free (c : UInt8) : ∀ p : List UInt8, (∀ b ∈ p, b ≠ c) → cut c p = [p]
  | [], _ => rfl
  | b :: p, h => by rw [cut_miss p (h b (by simp)), cut_free c p (fun x hx => h x (by simp [hx]))]; rfl
theorem cut_app (c : UInt8) (l : List UInt8) : ∀ p : List UInt8, (∀ b ∈ p, b ≠ c) → cut c (p ++ l) = onto p (cut c l)
  | [], _ => by rw [onto_nil _ (cut_ne c l)]; rfl
  | b :: p, h => by
    rw [List.cons_append, cut_miss _ (h b (by simp)), cut_app c l p (fun x hx => h x (by simp [hx])), onto_onto _ _ _ (cut_ne c l)]
    rfl
theorem cut_join (c : UInt8) : ∀ ws : List (List UInt8), ws ≠ [] → (∀ w ∈ ws, ∀ b ∈ w, b ≠ c) → cut c (Go.Lib.join ws [c]) = ws
  | [], h, _ => absurd rfl h
  | [w], _, h => by rw [Go.Lib.join_one]; exact cut_free c w (h w (by simp))
  | w :: v :: r, _, h => by
    have ih := cut_join c (v :: r) (by simp) (fun x hx => h x (by simp [hx]))
    rw [Go.Lib.join_cons]
    have e : Go.Lib.joinTail [c] (v :: r) = c :: Go.Lib.join (v :: r) [c] := by rw [Go.Lib.join_cons]; simp [Go.Lib.joinTail]
    rw [e, cut_app c _ w (h w (by simp)), cut_eq _ rfl, ih]
    simp [onto]
theorem cut_sizes (c : UInt8) : ∀ (l : List UInt8), ∀ p ∈ cut c l, p.length ≤ l.length
  | [], p, h => by
    have : p = [] := by simpa [cut] using h
    rw [this]; exact Nat.le_refl _
  | b :: l, p, h => by
    by_cases e : b = c
    · rw [cut_eq l e] at h
      rcases List.mem_cons.1 h with rfl | h
      · exact Nat.zero_le _
      · have := cut_sizes c l p h
        rw [List.length_cons]; omega
    · rw [cut_miss l e] at h
      have ih := cut_sizes c l
      cases hc : cut c l with
      | nil => exact absurd hc (cut_ne c l)
      | cons q qs =>
        rw [hc] at h ih
        rcases List.mem_cons.1 h with rfl | h
        · have := ih q (by simp)
          rw [List.length_append, List.length_cons, List.length_cons, List.length_nil]; omega
        · have := ih p (by simp [h])
          rw [List.length_cons]; omega
theorem index_hit (c : UInt8) (l : List UInt8) : Go.Lib.index (c :: l) [c] = 0 := by rw [Go.Lib.index]; simp [List.isPrefixOf]
theorem index_miss {b c : UInt8} (l : List UInt8) (h : b ≠ c) : Go.Lib.index (b :: l) [c] = if Go.Lib.index l [c] == -1 then -1 else Go.Lib.index l [c] + 1 := by
 have hp : ([c] : List UInt8).isPrefixOf (b :: l) = false := by simp [List.isPrefixOf, Ne.symm h]
 rw [Go.Lib.index, hp]; simp
theorem splitK_miss {b c : UInt8} (h : b ≠ c) : ∀ (k : Nat) (l : List UInt8), Go.Lib.splitK [c] 0 k (b :: l) = onto [b] (Go.Lib.splitK [c] 0 k l)
  | 0, l => rfl
  | k + 1, l => by
    have hge := Go.Lib.index_ge l [c]
    by_cases e : Go.Lib.index l [c] = -1
    · have hix : Go.Lib.index (b :: l) [c] = -1 := by rw [index_miss l h, if_pos (by rw [e]; rfl)]
      unfold Go.Lib.splitK
      rw [hix, e]
      rfl
    · have e1 : (Go.Lib.index l [c] == -1) = false := by rw [beq_eq_false_iff_ne]; exact e
      have e2 : (Go.Lib.index l [c] + 1 == -1) = false := by rw [beq_eq_false_iff_ne]; omega
      have hix : Go.Lib.index (b :: l) [c] = Go.Lib.index l [c] + 1 := by rw [index_miss l h, if_neg (by rw [e1]; simp)]
      unfold Go.Lib.splitK
      rw [hix, e1, e2, if_neg Bool.false_ne_true, if_neg Bool.false_ne_true]
      obtain ⟨j, hj⟩ : ∃ j : Nat, Go.Lib.index l [c] = j := ⟨(Go.Lib.index l [c]).toNat, by omega⟩
      rw [hj, show ((j : Int) + 1).toNat = j + 1 from by omega, Int.toNat_natCast]
      simp only [onto, Nat.add_zero, List.length_cons, List.length_nil, Nat.zero_add, List.take_succ_cons, List.drop_succ_cons, List.cons_append, List.nil_append]
theorem splitK_cut (c : UInt8) : ∀ l : List UInt8, Go.Lib.splitK [c] 0 (l.count c) l = cut c l
  | [] => rfl
  | b :: l => by
    by_cases h : b = c
    · subst h
      rw [cut_eq l rfl, List.count_cons_self, Go.Lib.splitK, index_hit, if_neg (by simp), ← splitK_cut b l]
      simp
    · rw [cut_miss l h, List.count_cons_of_ne (by simpa using h), splitK_miss h, splitK_cut c l]
def cutB (c : UInt8) (s : ByteArray) : List ByteArray := (cut c s.data.toList).map fun l => ⟨l.toArray⟩
theorem cutB_data (c : UInt8) (s : ByteArray) : (cutB c s).map (·.data.toList) = cut c s.data.toList := by
 unfold cutB; rw [List.map_map]
 have : ((fun x : ByteArray => x.data.toList) ∘ fun l : List UInt8 => (⟨l.toArray⟩ : ByteArray)) = id := by funext l; rfl
 rw [this, List.map_id]
theorem map_inj_data : ∀ {a b : List ByteArray}, a.map (·.data.toList) = b.map (·.data.toList) → a = b
  | [], [], _ => rfl
  | [], y :: b, h => by simp at h
  | x :: a, [], h => by simp at h
  | x :: a, y :: b, h => by
    rw [List.map_cons, List.map_cons] at h
    have h1 := List.cons.inj h
    rw [ba_ext h1.1, map_inj_data h1.2]
theorem count_B (s : ByteArray) (c : UInt8) : Go.Lib.countB s ⟨#[c]⟩ = s.data.toList.count c := by
 have h1 := Go.Lib.count_one c s.data.toList
 exact h1.symm ▸ rfl
theorem split_cut (s : ByteArray) (c : UInt8) : strings_Split.v s ⟨#[c]⟩ = cutB c s := by
 apply map_inj_data
 rw [cutB_data]
 unfold strings_Split.v
 rw [Go.Lib.splitB_data, count_B]
 exact splitK_cut c s.data.toList
theorem data_len (s : ByteArray) : s.data.toList.length = s.size := by rw [Array.length_toList]; rfl
theorem bt_data (s : ByteArray) (i : Nat) (h : i < s.data.toList.length) : bt s (i : Int) = ((s.data.toList[i]).toNat : Int) := by
 have hs : i < s.size := by rw [← data_len]; exact h
 have e := bt_at s (i : Int) (by rw [Int.toNat_natCast]; exact hs)
 rw [← e]
 simp only [Int.toNat_natCast]
 congr 1
def rdl : List UInt8 → Int → Int
  | [], n => n
  | b :: l, n => if (b.toNat : Int) < 48 then -1 else if (b.toNat : Int) > 57 then -1 else rdl l (10 * n + ((b.toNat : Int) - 48))
def readV (s : ByteArray) : Int := if 1 ≤ s.size ∧ s.size ≤ 6 then (if bt s 0 = 48 ∧ s.size > 1 then -1 else rdl s.data.toList 0) else -1
theorem rdl_ge : ∀ (l : List UInt8) (n : Int), 0 ≤ n → rdl l n = -1 ∨ n ≤ rdl l n
  | [], n, _ => .inr (Int.le_refl _)
  | b :: l, n, h => by
    unfold rdl
    split
    · exact .inl rfl
    · split
      · exact .inl rfl
      · rcases rdl_ge l (10 * n + ((b.toNat : Int) - 48)) (by omega) with e | e
        · exact .inl e
        · exact .inr (by omega)
theorem byte_of {b : UInt8} {n : Nat} (h : b.toNat = n) (hn : n < 256) : b = UInt8.ofNat n := by
 apply UInt8.toNat_inj.1
 rw [h, UInt8.toNat_ofNat', Nat.mod_eq_of_lt (by omega)]
theorem readV_nm (s : ByteArray) (h0 : 0 ≤ readV s) (h1 : readV s < 13) : s = nm (readV s) := by
 have hlen := data_len s
 have hd : ∀ c1 : 1 ≤ s.size ∧ s.size ≤ 6, readV s = (if bt s 0 = 48 ∧ s.size > 1 then -1 else rdl s.data.toList 0) := fun c1 => by unfold readV; rw [if_pos c1]
 by_cases c : 1 ≤ s.size ∧ s.size ≤ 6
 · {
 have hv := hd c
 by_cases c2 : bt s 0 = 48 ∧ s.size > 1
 · rw [if_pos c2] at hv; omega
 · {
 rw [if_neg c2] at hv
 have hb0 := bt_data s 0 (by omega)
 apply ba_ext
 generalize readV s = v at h0 h1 hv ⊢
 cases hl : s.data.toList with
 | nil => rw [hl] at hlen; simp only [List.length_nil] at hlen; omega
 | cons a l => {
 rw [hl] at hv hlen
 have ea : bt s 0 = (a.toNat : Int) := by {
 rw [show (0 : Int) = ((0 : Nat) : Int) from rfl, hb0]
 simp [hl]}
 unfold rdl at hv
 by_cases a1 : (a.toNat : Int) < 48
 · rw [if_pos a1] at hv; omega
 · {
 by_cases a2 : (a.toNat : Int) > 57
 · rw [if_neg a1, if_pos a2] at hv; omega
 · {
 rw [if_neg a1, if_neg a2] at hv
 cases l with
 | nil => {
 simp only [rdl] at hv
 unfold nm
 rw [if_pos (by omega), byte_of (b := a) (n := 48 + v.toNat) (by omega) (by omega)]}
 | cons b l => {
 have hgt : s.size > 1 := by simp only [List.length_cons] at hlen; omega
 have ha48 : (a.toNat : Int) ≠ 48 := fun h => c2 ⟨by rw [ea]; exact h, hgt⟩
 unfold rdl at hv
 by_cases b1 : (b.toNat : Int) < 48
 · rw [if_pos b1] at hv; omega
 · {
 by_cases b2 : (b.toNat : Int) > 57
 · rw [if_neg b1, if_pos b2] at hv; omega
 · {
 rw [if_neg b1, if_neg b2] at hv
 cases l with
 | nil => {
 simp only [rdl] at hv
 unfold nm
 rw [if_neg (by omega), byte_of (b := a) (n := 49) (by omega) (by omega), byte_of (b := b) (n := 48 + (v - 10).toNat) (by omega) (by omega)]
 rfl}
 | cons d l => {
 unfold rdl at hv
 by_cases d1 : (d.toNat : Int) < 48
 · rw [if_pos d1] at hv; omega
 · {
 by_cases d2 : (d.toNat : Int) > 57
 · rw [if_neg d1, if_pos d2] at hv; omega
 · {
 rw [if_neg d1, if_neg d2] at hv
 rcases rdl_ge l (10 * (10 * (10 * 0 + ((a.toNat : Int) - 48)) + ((b.toNat : Int) - 48)) + ((d.toNat : Int) - 48)) (by omega) with e | e <;> omega}}}}}}}}}}}
 · {
 have : readV s = -1 := by unfold readV; rw [if_neg c]
 omega}
theorem nm_facts : (List.range 13).all (fun n => decide (readV (nm (n : Int)) = (n : Int)) && decide (numV (nm (n : Int)) = some (n : Int)) && (nm (n : Int)).data.toList.all (fun b => decide (b ≠ 44) && decide (b ≠ 47))) = true := by decide +kernel
theorem nm_read (x : Int) (h0 : 0 ≤ x) (h1 : x < 13) : readV (nm x) = x ∧ numV (nm x) = some x ∧ ∀ b ∈ (nm x).data.toList, b ≠ 44 ∧ b ≠ 47 := by
 obtain ⟨n, rfl⟩ : ∃ n : Nat, x = (n : Int) := ⟨x.toNat, by omega⟩
 have h := List.all_eq_true.1 nm_facts n (List.mem_range.2 (by omega))
 simp only [Bool.and_eq_true, List.all_eq_true, decide_eq_true_eq] at h
 exact ⟨h.1.1, h.1.2, fun b hb => h.2 b hb⟩
def rowV (r : ByteArray) : List Int := (cutB 44 r).map readV
def matV (s : ByteArray) : List (List Int) := (cutB 47 s).map rowV
def endS (m : List (List Int)) : List (List Int) × Bool := if isMat m then (m, true) else ([], false)
theorem cutB_size (c : UInt8) (s : ByteArray) : ∀ x ∈ cutB c s, x.size ≤ s.size := by
 intro x hx
 obtain ⟨l, hl, rfl⟩ := List.mem_map.1 hx
 have := cut_sizes c _ l hl
 rw [data_len] at this
 exact this
theorem cutB_ne (c : UInt8) (s : ByteArray) : cutB c s ≠ [] := by
 intro h
 have := congrArg List.length h
 unfold cutB at this
 rw [List.length_map] at this
 exact cut_ne c _ (List.length_eq_zero_iff.1 this)
theorem TJ_cut (c : UInt8) (s : ByteArray) : TJ ⟨#[c]⟩ (cutB c s) = s := by
 apply ba_ext
 rw [TJ_data, cutB_data]
 exact join_cut c _
theorem rdOf_at (L : List ByteArray) (i : Nat) (h : i < L.length) : rdOf ByteArray.empty L (i : Int) = L[i] := by
 unfold rdOf
 rw [Int.toNat_natCast, getD_lt _ _ _ h]
def rowN (r : ByteArray) : List Int × Bool := impl_numbersOf.g (cutB 44 r)
def endI (s : ByteArray) (m : List (List Int)) : List (List Int) × Bool := if isMat m ∧ (matT m).toList = s.toList then (m, true) else ([], false)
theorem numbersOf_eq (r : ByteArray) (h : r.size ≤ 1048576) : impl_numbersOf.f r = some (rowN r) := by
 unfold impl_numbersOf.f strings_Split.f
 rw [if_pos ⟨h, Nat.le_refl 1⟩]
 show some (impl_numbersOf.g (strings_Split.v r ⟨#[44]⟩)) = _
 rw [split_cut]; rfl
theorem rowN_len (r : ByteArray) : (rowN r).1.length ≤ 12 := by
 unfold rowN impl_numbersOf.g
 by_cases c : 12 < (cutB 44 r).length
 · rw [if_pos c]; simp
 · {
 rw [if_neg c]
 by_cases d : numsOk (cutB 44 r) = true
 · rw [if_pos d]; unfold numsW; rw [List.length_map]; omega
 · rw [if_neg d]; simp}
theorem implP_l0 (s : ByteArray) (rows : List ByteArray) (hr : rows.length ≤ 12) (hs : ∀ x ∈ rows, x.size ≤ 1048576) : ∀ (d i : Nat), rows.length - i = d → i ≤ rows.length →
    Ev (fun k => impl_ParseMatrix.l0 k s rows (rows.length : Int) (i : Int) ((rows.take i).map fun r => (rowN r).1)) (if (rows.drop i).all (fun r => (rowN r).2) = true then endI s (rows.map fun r => (rowN r).1) else ([], false)) := by
 intro d
 induction d with
 | zero => {
 intro i hd hi
 obtain rfl : i = rows.length := by omega
 refine Ev.step (fun k => by rw [impl_ParseMatrix.l0]) (Ev_neg (by omega) ?_)
 rw [List.take_length, List.drop_length, List.all_nil, if_pos rfl]
 have hsm : Small (rows.map fun r => (rowN r).1) := by {
 refine ⟨by rw [List.length_map]; omega, fun r hr2 => ?_⟩
 obtain ⟨x, hx, rfl⟩ := List.mem_map.1 hr2
 have := rowN_len x
 omega}
 refine Ev.bind (implIsMatrix_ev _ hsm) ?_
 unfold endI
 by_cases g : isMat (rows.map fun r => (rowN r).1)
 · {
 refine Ev_pos (decide_eq_true g) (Ev.bind (matrixText_ev _ g.1 (isMat_few g)) ?_)
 by_cases e : (matT (rows.map fun r => (rowN r).1)).toList = s.toList
 · exact Ev_eq (Ev_pos e (Ev_some rfl)) (if_pos ⟨g, e⟩).symm
 · exact Ev_eq (Ev_neg e (Ev_some rfl)) (if_neg (fun h => e h.2)).symm}
 · exact Ev_eq (Ev_neg (by simpa using g) (Ev_some rfl)) (if_neg (fun h => g h.1)).symm}
 | succ d ih => {
 intro i hd hi
 have hlt : i < rows.length := by omega
 have hx := hs _ (List.getElem_mem hlt)
 refine Ev.step (fun k => by rw [impl_ParseMatrix.l0]) (Ev_pos (by omega) (Ev_pos (by omega) (Ev_pos (by omega) ?_)))
 rw [rdOf_at rows i hlt]
 refine Ev_val (numbersOf_eq rows[i] hx) ?_
 rw [List.drop_eq_getElem_cons hlt, List.all_cons]
 by_cases c : (rowN rows[i]).2 = true
 · {
 refine Ev_pos c (Ev_pos (by rw [List.length_map, List.length_take]; omega) ?_)
 rw [c, Bool.true_and, wrap_succ (by omega)]
 have h1 := ih (i + 1) (by omega) (by omega)
 rw [List.take_succ_eq_append_getElem hlt, List.map_append] at h1
 exact h1}
 · {
 have c2 : (rowN rows[i]).2 = false := by simpa using c
 rw [c2, Bool.false_and, if_neg Bool.false_ne_true]
 exact Ev_neg Bool.false_ne_true (Ev_some rfl)}}
def implRes (s : ByteArray) : List (List Int) × Bool := if (cutB 47 s).length ≤ 12 ∧ (cutB 47 s).all (fun r => (rowN r).2) = true then endI s ((cutB 47 s).map fun r => (rowN r).1) else ([], false)
theorem implP_ev (s : ByteArray) (hs : s.size ≤ 1048576) : Ev (fun k => impl_ParseMatrix.f k s) (if s.toList = [] then ([], true) else implRes s) := by
 unfold impl_ParseMatrix.f
 by_cases c : s.toList = []
 · rw [if_pos c]; exact Ev_pos c (Ev_some rfl)
 · {
 rw [if_neg c]
 refine Ev_neg c ?_
 have hsp : strings_Split.f s (⟨#[47]⟩ : ByteArray) = some (cutB 47 s) := by {
 unfold strings_Split.f
 rw [if_pos ⟨hs, Nat.le_refl 1⟩, split_cut]}
 refine Ev_val hsp ?_
 unfold implRes
 by_cases g : (cutB 47 s).length ≤ 12
 · {
 refine Ev_neg (by omega) ?_
 have h := implP_l0 s (cutB 47 s) g (fun x hx => by have := cutB_size 47 s x hx; omega) _ 0 rfl (Nat.zero_le _)
 refine Ev_eq h ?_
 rw [List.drop_zero]
 by_cases e : (cutB 47 s).all (fun r => (rowN r).2) = true
 · rw [if_pos e, if_pos ⟨g, e⟩]
 · rw [if_neg e, if_neg (fun h => e h.2)]}
 · {
 rw [if_neg (fun h => g h.1)]
 exact Ev_pos (by omega) (Ev_some rfl)}}
theorem few_nums {ws : List ByteArray} (h : ∀ x ∈ ws, 0 ≤ readV x ∧ readV x < 13) : numsOk ws = true ∧ numsW ws = ws.map readV ∧ (ws.map readV).map nm = ws := by
 have h1 : ∀ x ∈ ws, numV x = some (readV x) := fun x hx => by {
 have e := readV_nm x (h x hx).1 (h x hx).2
 have := (nm_read (readV x) (h x hx).1 (h x hx).2).2.1
 rw [← e] at this
 exact this}
 refine ⟨?_, ?_, ?_⟩
 · {
 unfold numsOk
 rw [List.all_eq_true]
 intro x hx
 rw [h1 x hx]; rfl}
 · {
 unfold numsW
 apply List.map_congr_left
 intro x hx
 rw [h1 x hx]; rfl}
 · {
 rw [List.map_map]
 conv => rhs; rw [← List.map_id ws]
 apply List.map_congr_left
 intro x hx
 exact (readV_nm x (h x hx).1 (h x hx).2).symm}
theorem rowN_few {r : ByteArray} (h : Few (rowV r)) : rowN r = (rowV r, true) ∧ rowT (rowV r) = r := by
 have hw : ∀ x ∈ cutB 44 r, 0 ≤ readV x ∧ readV x < 13 := fun x hx => h.2 _ (List.mem_map.2 ⟨x, hx, rfl⟩)
 obtain ⟨h1, h2, h3⟩ := few_nums hw
 have hl : (cutB 44 r).length ≤ 12 := by have := h.1; unfold rowV at this; rwa [List.length_map] at this
 refine ⟨?_, ?_⟩
 · {
 unfold rowN impl_numbersOf.g
 rw [if_neg (by omega), if_pos h1, h2]; rfl}
 · {
 unfold rowT rowV
 rw [h3]
 exact TJ_cut 44 r}
theorem join_mem (c : UInt8) : ∀ ws : List (List UInt8), ∀ b ∈ Go.Lib.join ws [c], b = c ∨ ∃ w ∈ ws, b ∈ w
  | [], b, h => by
    have : b ∈ ([] : List UInt8) := h
    simp at this
  | x :: r, b, h => by
    rw [Go.Lib.join_cons] at h
    rcases List.mem_append.1 h with h | h
    · exact .inr ⟨x, by simp, h⟩
    · unfold Go.Lib.joinTail at h
      obtain ⟨l, hl, hb⟩ := List.mem_flatten.1 h
      obtain ⟨w, hw, rfl⟩ := List.mem_map.1 hl
      rcases List.mem_append.1 hb with hb | hb
      · exact .inl (by simpa using hb)
      · exact .inr ⟨w, by simp [hw], hb⟩
theorem cutB_TJ (c : UInt8) (ws : List ByteArray) (hne : ws ≠ []) (h : ∀ w ∈ ws, ∀ b ∈ w.data.toList, b ≠ c) : cutB c (TJ ⟨#[c]⟩ ws) = ws := by
 apply map_inj_data
 rw [cutB_data, TJ_data]
 exact cut_join c _ (by simpa using hne) (fun w hw => by obtain ⟨x, hx, rfl⟩ := List.mem_map.1 hw; exact h x hx)
theorem rowT_back {r : List Int} (h : Few r) (hne : r ≠ []) : rowV (rowT r) = r ∧ ∀ b ∈ (rowT r).data.toList, b ≠ 47 := by
 have h1 : ∀ w ∈ r.map nm, ∀ b ∈ w.data.toList, b ≠ 44 ∧ b ≠ 47 := fun w hw => by {
 obtain ⟨x, hx, rfl⟩ := List.mem_map.1 hw
 exact (nm_read x (h.2 x hx).1 (h.2 x hx).2).2.2}
 refine ⟨?_, ?_⟩
 · {
 unfold rowV rowT
 rw [show comma = ⟨#[44]⟩ from rfl, cutB_TJ 44 (r.map nm) (by simpa using hne) (fun w hw b hb => (h1 w hw b hb).1), List.map_map]
 conv => rhs; rw [← List.map_id r]
 apply List.map_congr_left
 intro x hx
 exact (nm_read x (h.2 x hx).1 (h.2 x hx).2).1}
 · {
 intro b hb
 unfold rowT at hb
 rw [TJ_data] at hb
 rcases join_mem 44 _ b hb with rfl | ⟨w, hw, hbw⟩
 · decide
 · {
 obtain ⟨x, hx, rfl⟩ := List.mem_map.1 hw
 exact (h1 x hx b hbw).2}}
theorem isMat_row_ne {m : List (List Int)} (g : isMat m) : ∀ r ∈ m, r ≠ [] := by
 intro r hr e
 obtain ⟨i, hi, rfl⟩ := List.mem_iff_getElem.1 hr
 have h1 := (g.2.1 i hi).1
 rw [getD_lt _ _ _ hi, e] at h1
 simp only [List.length_nil] at h1
 omega
theorem toList_inj {a b : ByteArray} (h : a.toList = b.toList) : a = b := by
 rw [ByteArray.toList_eq, ByteArray.toList_eq] at h
 exact ba_ext h
theorem both (s : ByteArray) : endS (matV s) = implRes s := by
 by_cases g : isMat (matV s)
 · {
 have hf := isMat_few g
 have hrow : ∀ r ∈ cutB 47 s, rowN r = (rowV r, true) ∧ rowT (rowV r) = r := fun r hr => rowN_few (hf _ (List.mem_map.2 ⟨r, hr, rfl⟩))
 have hl : (cutB 47 s).length ≤ 12 := by have := g.1; unfold matV at this; rwa [List.length_map] at this
 have hall : (cutB 47 s).all (fun r => (rowN r).2) = true := by {
 rw [List.all_eq_true]
 intro r hr
 rw [(hrow r hr).1]}
 have hm : ((cutB 47 s).map fun r => (rowN r).1) = matV s := by {
 unfold matV
 apply List.map_congr_left
 intro r hr
 rw [(hrow r hr).1]}
 have ht : matT (matV s) = s := by {
 unfold matT matV
 rw [List.map_map]
 have : (cutB 47 s).map (rowT ∘ rowV) = cutB 47 s := by {
 conv => rhs; rw [← List.map_id (cutB 47 s)]
 apply List.map_congr_left
 intro r hr
 exact (hrow r hr).2}
 rw [this]
 exact TJ_cut 47 s}
 unfold endS implRes endI
 rw [if_pos g, if_pos ⟨hl, hall⟩, hm, if_pos ⟨g, by rw [ht]⟩]}
 · {
 unfold endS implRes
 rw [if_neg g]
 by_cases c : (cutB 47 s).length ≤ 12 ∧ (cutB 47 s).all (fun r => (rowN r).2) = true
 · {
 rw [if_pos c]
 unfold endI
 by_cases d : isMat ((cutB 47 s).map fun r => (rowN r).1) ∧ (matT ((cutB 47 s).map fun r => (rowN r).1)).toList = s.toList
 · {
 exfalso
 obtain ⟨g2, e⟩ := d
 have es := toList_inj e
 revert g2 es
 generalize hm : ((cutB 47 s).map fun r => (rowN r).1) = m
 intro g2 es
 have hmne : m ≠ [] := by {
 intro h0
 rw [h0] at hm
 exact cutB_ne 47 s (List.map_eq_nil_iff.1 hm)}
 have hf := isMat_few g2
 have hr := isMat_row_ne g2
 have hP : cutB 47 s = m.map rowT := by {
 rw [← es]
 unfold matT
 exact cutB_TJ 47 (m.map rowT) (by simpa using hmne) (fun w hw => by obtain ⟨r, hr1, rfl⟩ := List.mem_map.1 hw; exact (rowT_back (hf r hr1) (hr r hr1)).2)}
 have hV : matV s = m := by {
 unfold matV
 rw [hP, List.map_map]
 conv => rhs; rw [← List.map_id m]
 apply List.map_congr_left
 intro r hr1
 exact (rowT_back (hf r hr1) (hr r hr1)).1}
 exact g (hV ▸ g2)}
 · rw [if_neg d]}
 · rw [if_neg c]}
def flatM (m : List (List Int)) : List (List Int) := m.map impl_FlattenMatrix.flatRow
theorem implFlat_ev (m : List (List Int)) (hs : Small m) : Ev (fun k => impl_FlattenMatrix.f k m) (if isMat m then (flatM m, true) else ([], false)) := by
 unfold impl_FlattenMatrix.f
 refine Ev.bind (implIsMatrix_ev m hs) ?_
 by_cases g : isMat m
 · rw [if_pos g]; exact Ev_pos (decide_eq_true g) (Ev.bind (own_ev m hs) (Ev_pos hs (Ev_some rfl)))
 · rw [if_neg g]; exact Ev_neg (by simpa using g) (Ev_some rfl)
theorem ascN_app (l : List Int) (x : Int) : ∀ i, i ≤ l.length → ascN (l ++ [x]) i = ascN l i
  | 0, _ => rfl
  | i + 1, h => by
    rw [ascN, ascN, ascN_app l x i (by omega)]
    have e : ∀ j, j < l.length → (l ++ [x]).getD j 0 = l.getD j 0 := fun j hj => by
      rw [List.getD_eq_getElem?_getD, List.getElem?_append_left hj, List.getD_eq_getElem?_getD]
    by_cases c : 0 < i
    · rw [e i (by omega), e (i - 1) (by omega)]
    · rw [if_neg (fun h => c h.1), if_neg (fun h => c h.1)]
theorem app_getD (l : List Int) (x : Int) (j : Nat) (hj : j < l.length) : (l ++ [x]).getD j 0 = l.getD j 0 := by
 rw [List.getD_eq_getElem?_getD, List.getElem?_append_left hj, List.getD_eq_getElem?_getD]
theorem app_last (l : List Int) (x : Int) : (l ++ [x]).getD l.length 0 = x := by
 rw [List.getD_eq_getElem?_getD, List.getElem?_append_right (Nat.le_refl _), Nat.sub_self]; rfl
theorem matA_app (l : List Int) (x : Int) : ∀ i, i ≤ l.length → matA (l ++ [x]) i = matA l i
  | 0, _ => rfl
  | i + 1, h => by rw [matA, matA, matA_app l x i (by omega), app_getD l x i (by omega)]
theorem back_mat : ∀ (n : Nat) (m : List (List Int)), isMat m → allZ m = (n : Int) → ∃ L : List Int, AscOk L ∧ L.length = n ∧ matA L L.length = m
  | 0, m, g, hz => by
    by_cases c : 0 < m.length
    · obtain ⟨h1, h2, _⟩ := grow_shrink m g c
      have := (allZ_bd _ h1.shk).1
      omega
    · have : m = [] := List.eq_nil_of_length_eq_zero (by omega)
      subst this
      exact ⟨[], ⟨by decide, fun i hi => absurd hi (Nat.not_lt_zero _)⟩, rfl, rfl⟩
  | n + 1, m, g, hz => by
    have c : 0 < m.length := by
      apply Classical.byContradiction; intro h
      have : m = [] := List.eq_nil_of_length_eq_zero (by omega)
      subst this
      have : allZ ([] : List (List Int)) = 0 := rfl
      omega
    obtain ⟨h1, h2, h3, h4, h5⟩ := grow_shrink m g c
    obtain ⟨L, i1, i2, i3⟩ := back_mat n (shrinkM m).1 h1 (by omega)
    have h12 := g.2.2.2.2
    obtain ⟨_, k2, _⟩ := matA_inv L i1 L.length (Nat.le_refl _)
    rw [i3] at k2
    have hgl : ∀ i, i < L.length → ascN (L ++ [(shrinkM m).2]) i = ascN L i := fun i hi => ascN_app L _ i (by omega)
    refine ⟨L ++ [(shrinkM m).2], ⟨by rw [List.length_append, List.length_singleton]; omega, fun i hi => ?_⟩, by rw [List.length_append, List.length_singleton]; omega, ?_⟩
    · rw [List.length_append, List.length_singleton] at hi
      by_cases e : i < L.length
      · have := i1.2 i e
        rw [app_getD L _ i e, bndA, hgl i e]
        exact this
      · obtain rfl : i = L.length := by omega
        rw [app_last, bndA, ascN_app L _ _ (Nat.le_refl _)]
        refine ⟨h4, ?_⟩
        rw [k2] at h5
        by_cases e2 : L.length = 0
        · rw [if_pos e2] at h5 ⊢; exact h5
        · rw [if_neg e2] at h5 ⊢; omega
    · rw [List.length_append, List.length_singleton, matA, app_last, matA_app L _ _ (Nat.le_refl _), i3]
      exact h3
theorem read_back {m : List (List Int)} (g : isMat m) : Ev (fun k => impl_ParseMatrix.f k (matT m)) (m, true) := by
 have hf := isMat_few g
 have hl := g.1
 have hsz := TJ_size slash rfl 36 (m.map rowT) (fun w hw => by obtain ⟨r, hr, rfl⟩ := List.mem_map.1 hw; exact rowT_size (hf r hr))
 rw [List.length_map] at hsz
 have h := implP_ev (matT m) (by show (TJ slash (m.map rowT)).size ≤ _; omega)
 refine Ev_eq h ?_
 by_cases hm : m = []
 · {
 subst hm
 have e0 : (matT []).toList = [] := by rw [ByteArray.toList_eq]; rfl
 rw [if_pos e0]}
 have hr := isMat_row_ne g
 have hP : cutB 47 (matT m) = m.map rowT := cutB_TJ 47 (m.map rowT) (by simpa using hm) (fun w hw => by obtain ⟨r, hr1, rfl⟩ := List.mem_map.1 hw; exact (rowT_back (hf r hr1) (hr r hr1)).2)
 have hV : matV (matT m) = m := by {
 unfold matV
 rw [hP, List.map_map]
 conv => rhs; rw [← List.map_id m]
 apply List.map_congr_left
 intro r hr1
 exact (rowT_back (hf r hr1) (hr r hr1)).1}
 have hne : ¬ (matT m).toList = [] := by {
 intro h0
 have e : matT m = ⟨#[]⟩ := toList_inj (h0.trans (by rw [ByteArray.toList_eq]))
 rw [e] at hV
 have e2 : matV (⟨#[]⟩ : ByteArray) = [[-1]] := by decide +kernel
 rw [e2] at hV
 have := (hf [-1] (by rw [← hV]; simp)).2 (-1) (by simp)
 omega}
 rw [if_neg hne, ← both, hV, endS, if_pos g]
theorem flat_en (m : List (List Int)) (i j : Nat) : en (flatM m) i j = if 1 < en m i j then 1 else en m i j := by
 unfold en flatM
 rw [List.getD_eq_getElem?_getD, List.getD_eq_getElem?_getD, List.getElem?_map, List.getD_eq_getElem?_getD, List.getD_eq_getElem?_getD]
 cases m[i]? with
 | none => rfl
 | some r => {
 show ((impl_FlattenMatrix.flatRow r)[j]?).getD 0 = if 1 < (r[j]?).getD 0 then 1 else (r[j]?).getD 0
 unfold impl_FlattenMatrix.flatRow
 rw [List.getElem?_map]
 cases r[j]? with
 | none => rfl
 | some x => rfl}
theorem flat_isMat {m : List (List Int)} (g : isMat m) : isMat (flatM m) := by
 have hlen : (flatM m).length = m.length := List.length_map ..
 have hs := g.shk
 have hrow : ∀ i, i < m.length → ((flatM m).getD i []).length = m.length := fun i hi => by {
 unfold flatM
 rw [getD_lt _ _ _ (by rw [List.length_map]; exact hi), List.getElem_map, impl_FlattenMatrix.flatRow, List.length_map, ← getD_lt m i [] hi]
 exact (g.2.1 i hi).1}
 have hC : Cells (flatM m) := fun i hi => by {
 rw [hlen] at hi ⊢
 refine ⟨hrow i hi, fun j hj => ?_⟩
 obtain ⟨a, b, c⟩ := (g.2.1 i hi).2 j hj
 rw [flat_en]
 refine ⟨by split <;> omega, by split <;> omega, fun h => ?_⟩
 rw [c h]; rfl}
 have hne : ∀ i j, en m i j ≠ 0 → en (flatM m) i j ≠ 0 := fun i j h => by rw [flat_en]; split <;> omega
 refine shk_isMat ⟨by rw [hlen]; exact g.1, hC, fun i hi => ?_, fun j hj => ?_⟩ ?_
 · {
 rw [hlen] at hi ⊢
 obtain ⟨j, h1, h2⟩ := hs.2.2.1 i hi
 exact ⟨j, h1, hne i j h2⟩}
 · {
 rw [hlen] at hj ⊢
 obtain ⟨i, h1, h2⟩ := hs.2.2.2 j hj
 exact ⟨i, h1, hne i j h2⟩}
 · {
 refine Int.le_trans ?_ g.2.2.2.2
 unfold allZ
 rw [hlen]
 refine sum_le (fun i hi => ?_)
 unfold rowZ
 rw [hlen]
 refine sum_le (fun j hj => ?_)
 rw [flat_en]; split <;> omega}
theorem flat_flat (m : List (List Int)) : flatM (flatM m) = flatM m := by
 unfold flatM
 rw [List.map_map]
 apply List.map_congr_left
 intro r _
 show impl_FlattenMatrix.flatRow (impl_FlattenMatrix.flatRow r) = impl_FlattenMatrix.flatRow r
 unfold impl_FlattenMatrix.flatRow
 rw [List.map_map]
 apply List.map_congr_left
 intro x _
 show (if 1 < (if 1 < x then 1 else x) then 1 else (if 1 < x then 1 else x)) = _
 split <;> simp_all
theorem Ev_same {α : Type} {f : Nat → Option α} {a b : α} (h : Ev f a) (g : Ev f b) : a = b := by
 obtain ⟨k1, h1⟩ := h
 obtain ⟨k2, h2⟩ := g
 have e1 := h1 (k1 + k2) (by omega)
 rw [h2 (k1 + k2) (by omega)] at e1
 exact (Option.some.inj e1).symm
theorem aom_both (m : List (List Int)) (hs : Small m) : ∃ R : List Int × Bool, R.1.length ≤ 1048576 ∧ Ev (fun k => spec_AscentOfMatrix.f k m) R ∧ Ev (fun k => impl_AscentOfMatrix.f k m) R := by
 by_cases g : isMat m
 · {
 have hz := allZ_bd m g.shk
 have hl := g.1
 obtain ⟨L, h1, h2, h3⟩ := ascM_both 200000 m g.shk (by rw [muM]; omega) (by omega)
 refine ⟨(L.reverse, true), by simp; omega, ?_, ?_⟩
 · {
 unfold spec_AscentOfMatrix.f spec_maAscent.f
 refine Ev.bind (maGood_ev m hs) (Ev_pos (decide_eq_true g) (Ev.bind (h2 [] (by simp)) (Ev_some (by simp))))}
 · {
 unfold impl_AscentOfMatrix.f impl_Matrix_ascent.f
 refine Ev.bind (implIsMatrix_ev m hs) (Ev_pos (decide_eq_true g) (Ev.bind (h3 [] (by simp)) (Ev_some (by simp))))}}
 · {
 refine ⟨([], false), by simp, ?_, ?_⟩
 · {
 unfold spec_AscentOfMatrix.f
 exact Ev.bind (maGood_ev m hs) (Ev_neg (by simpa using g) (Ev_some rfl))}
 · {
 unfold impl_AscentOfMatrix.f
 exact Ev.bind (implIsMatrix_ev m hs) (Ev_neg (by simpa using g) (Ev_some rfl))}}
theorem implText_ev (m : List (List Int)) (hs : Small m) : Ev (fun k => impl_MatrixText.f k m) (if isMat m then (matT m, true) else (⟨#[]⟩, false)) := by
 unfold impl_MatrixText.f
 refine Ev.bind (implIsMatrix_ev m hs) ?_
 by_cases g : isMat m
 · rw [if_pos g]; exact Ev_pos (decide_eq_true g) (Ev.bind (matrixText_ev m g.1 (isMat_few g)) (Ev_some rfl))
 · rw [if_neg g]; exact Ev_neg (by simpa using g) (Ev_some rfl)
theorem maa_row (m : List (List Int)) (g : isMat m) : (m.length ≤ 1000 ∧ (flatM m).length = m.length) ∧ ∀ i, i < m.length → (m.getD i []).length ≤ 1000 ∧ ((flatM m).getD i []).length = (m.getD i []).length ∧ ∀ j, j < (m.getD i []).length → decide ((m.getD i []).getD j 0 > 0) = (((flatM m).getD i []).getD j 0 == 1) := by
 have hl := g.1
 refine ⟨⟨by omega, List.length_map ..⟩, fun i hi => ?_⟩
 have hr := (g.2.1 i hi).1
 have hfr : ((flatM m).getD i []).length = m.length := by {
 unfold flatM
 rw [getD_lt _ _ _ (by rw [List.length_map]; exact hi), List.getElem_map, impl_FlattenMatrix.flatRow, List.length_map, ← getD_lt m i [] hi]
 exact hr}
 refine ⟨by omega, by omega, fun j hj => ?_⟩
 have e := flat_en m i j
 have h0 := ((g.2.1 i hi).2 j (by omega)).1
 unfold en at e h0
 rw [e]
 generalize (m.getD i []).getD j 0 = x at h0 ⊢
 by_cases c : x > 0
 · {
 have h1 : (if 1 < x then (1 : Int) else x) = 1 := by split <;> omega
 rw [decide_eq_true c, h1]; rfl}
 · {
 have e0 : x = 0 := by omega
 subst e0; rfl}
theorem maa_yes (m : List (List Int)) (g : isMat m) (L : List Int) (gL : AscOk L) (hm : matA L L.length = m) : ∃ k0, ∀ k, k0 ≤ k → ∃ (bk rd fl ag : List (List Int)) (tx : ByteArray), impl_MatrixOfAscent.f k L = some (bk, true) ∧ impl_MatrixText.f k m = some (tx, true) ∧ impl_ParseMatrix.f k tx = some (rd, true) ∧ impl_FlattenMatrix.f k m = some (fl, true) ∧ impl_FlattenMatrix.f k fl = some (ag, true) ∧
      impl_IsAscent.f k L = some true ∧ laws_pSameMatrix.f k bk m = some true ∧ laws_pSameMatrix.f k rd m = some true ∧ laws_pSameMatrix.f k ag fl = some true ∧ impl_IsMatrix.f k fl = some true ∧
      (m.length ≤ 1000 ∧ fl.length = m.length) ∧ ∀ i, i < m.length → (m.getD i []).length ≤ 1000 ∧ (fl.getD i []).length = (m.getD i []).length ∧ ∀ j, j < (m.getD i []).length → decide ((m.getD i []).getD j 0 > 0) = ((fl.getD i []).getD j 0 == 1) := by
 have hs := g.shk.small
 have gf := flat_isMat g
 have hfs := gf.shk.small
 have hL := gL.1
 have e1 := implMOA_ev L (by omega)
 rw [moaR, if_pos gL, hm] at e1
 have e2 := implText_ev m hs
 rw [if_pos g] at e2
 have e4 := implFlat_ev m hs
 rw [if_pos g] at e4
 have e5 := implFlat_ev (flatM m) hfs
 rw [if_pos gf, flat_flat] at e5
 have e6 := isAscent_ev L (by omega)
 rw [decide_eq_true gL] at e6
 have e7 := implIsMatrix_ev (flatM m) hfs
 rw [decide_eq_true gf] at e7
 obtain ⟨k1, h1⟩ := e1
 obtain ⟨k2, h2⟩ := e2
 obtain ⟨k3, h3⟩ := read_back g
 obtain ⟨k4, h4⟩ := e4
 obtain ⟨k5, h5⟩ := e5
 obtain ⟨k6, h6⟩ := e6
 obtain ⟨k7, h7⟩ := pSameMatrix_refl m hs
 obtain ⟨k8, h8⟩ := pSameMatrix_refl (flatM m) hfs
 obtain ⟨k9, h9⟩ := e7
 exact ⟨k1 + k2 + k3 + k4 + k5 + k6 + k7 + k8 + k9, fun k hk => ⟨m, m, flatM m, flatM m, matT m, h1 k (by omega), h2 k (by omega), h3 k (by omega), h4 k (by omega), h5 k (by omega), h6 k (by omega), h7 k (by omega), h7 k (by omega), h8 k (by omega), h9 k (by omega), maa_row m g⟩⟩
theorem FnMatricesAreAscents : laws_FnMatricesAreAscents.Pure := by
 intro c0 c1 _ _ w0 _ _ w1
 by_cases z0 : (c0.length : Int) > 1048576
 · exact ⟨0, .inl (by unfold laws_big.f; rw [if_pos z0])⟩
 have hw : wrap64 (1048576 - (c0.length : Int)) = 1048576 - (c0.length : Int) := wrap_small (by omega) (by omega)
 by_cases z1 : (c1.length : Int) > wrap64 (1048576 - (c0.length : Int))
 · exact ⟨0, .inl (by unfold laws_big.f; rw [if_neg z0, decide_eq_true z1])⟩
 have hbig : laws_big.f c0 c1 = some false := by unfold laws_big.f; rw [if_neg z0, decide_eq_false z1]
 have h0 : BytesOk c0 := ⟨by omega, fun x hx => wf_byte (w0 x hx)⟩
 obtain ⟨S, hS, m2, _, _⟩ := matrix_ok c0 h0 9 (by decide) (by decide)
 have hs := m2.small
 have hD : Ev (fun k => spec_DrawAscentOfMatrix.f k c0) S.1 := Ev.bind hS (Ev_some rfl)
 obtain ⟨R, hB, hSp, hIm⟩ := aom_both S.1 hs
 have hIs := implIsMatrix_ev S.1 hs
 have hps := pSame_refl R.1 hB
 by_cases g : isMat S.1
 · {
 obtain ⟨n, hn⟩ : ∃ n : Nat, allZ S.1 = (n : Int) := ⟨(allZ S.1).toNat, by have := (allZ_bd _ g.shk).1; omega⟩
 obtain ⟨L, gL, hLn, hm⟩ := back_mat n S.1 g hn
 have hL := gL.1
 have hI2 : Ev (fun k => impl_AscentOfMatrix.f k S.1) (L, true) := by {
 unfold impl_AscentOfMatrix.f impl_Matrix_ascent.f
 have := ascent_matA L gL L.length (Nat.le_refl _) [] (by simp; omega)
 rw [List.take_length, List.reverse_nil, List.append_nil, hm] at this
 exact Ev.bind hIs (Ev_pos (decide_eq_true g) (Ev.bind this (Ev_some rfl)))}
 obtain rfl := Ev_same hIm hI2
 rw [decide_eq_true g] at hIs
 obtain ⟨k1, d1⟩ := hD
 obtain ⟨k2, d2⟩ := hIm
 obtain ⟨k3, d3⟩ := hSp
 obtain ⟨k4, d4⟩ := hps
 obtain ⟨k5, d5⟩ := hIs
 obtain ⟨k6, d6⟩ := maa_yes S.1 g L gL hm
 generalize hK : k1 + k2 + k3 + k4 + k5 + k6 = K
 exact ⟨K, .inr ⟨hbig, S.1, _, _, _, d1 K (by omega), d2 K (by omega), d3 K (by omega), d4 K (by omega), d5 K (by omega), fun _ => d6 K (by omega)⟩⟩}
 · {
 have hI2 : Ev (fun k => impl_AscentOfMatrix.f k S.1) ([], false) := by {
 unfold impl_AscentOfMatrix.f
 exact Ev.bind hIs (Ev_neg (by simpa using g) (Ev_some rfl))}
 obtain rfl := Ev_same hIm hI2
 rw [decide_eq_false g] at hIs
 obtain ⟨k1, d1⟩ := hD
 obtain ⟨k2, d2⟩ := hIm
 obtain ⟨k3, d3⟩ := hSp
 obtain ⟨k4, d4⟩ := hps
 obtain ⟨k5, d5⟩ := hIs
 generalize hK : k1 + k2 + k3 + k4 + k5 = K
 exact ⟨K, .inr ⟨hbig, S.1, _, _, _, d1 K (by omega), d2 K (by omega), d3 K (by omega), d4 K (by omega), d5 K (by omega), fun h => absurd h (by simp)⟩⟩}
end Go.Proofs.YtcodionjhcmfhaaGreatDoor.Pure
