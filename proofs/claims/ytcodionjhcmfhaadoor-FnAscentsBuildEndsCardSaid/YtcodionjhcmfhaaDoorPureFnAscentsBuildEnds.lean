/- The intervals that an ascent sequence builds are the ends of their order; levels are one more than ascents, and zeros are what nothing is below. -/
import Derived.Test.YtcodionjhcmfhaaDoorBe23
import Derived.Test.YtcodionjhcmfhaaDoorBeWSized
namespace Go.Proofs.YtcodionjhcmfhaaDoor.PrintWords
open Go.RowKit
theorem sized_ints {H : Type} {enc : TypeId × Value → H} {P : Program} {W : World} {base : Nat} {spare : Nat → Bool} {held : Bool} {t e : TypeId} {k : IntKind} {a : Option Addr} {len cap : Nat} {d : DataW H} {ps : List MemPlace} {ts : List TypeId} {ds : List (DataW H)} {j : Nat}
    (g0 : (DataW.weightsEach P ts ds).all (· ≤ reachBytes) = true) (g1 : ts[j]? = some t) (g2 : ds[j]? = some d) (g3 : P.underlying t = some (.slice e)) (g4 : P.underlying e = some (.int k)) (g5 : P.cellsOf e = 1) {B : Nat} (g6 : P.bytesOf e = B)
    (g7 : DataW.Trod enc P W base spare held t (.slice a len cap) d ps) : len * B ≤ 140737488351232 := Go.Proofs.YtcodionjhcmfhaaDoorW.PrintWords.sized_ints g0 g1 g2 g3 g4 g5 g6 g7
end Go.Proofs.YtcodionjhcmfhaaDoor.PrintWords
set_option linter.unusedVariables false
namespace Go.Proofs.YtcodionjhcmfhaaDoor.Pure
open Go.RowKit Go.Proofs.YtcodionjhcmfhaaDoor.Be Go.Proofs.YtcodionjhcmfhaaDoorW.PrintWords Go.Proofs.YtcodionjhcmfhaaDoorW.PrintLast Go.Proofs.YtcodionjhcmfhaaDoorW.PrintMore Go.Proofs.YtcodionjhcmfhaaDoor.Sq
section Prelude
theorem Ev_pos {α : Type} {c : Prop} [Decidable c] {f g : Nat → Option α} {r : α} (h : c) (k : Ev f r) : Ev (fun n => if c then f n else g n) r :=
  Ev.congr (fun _ => if_pos h) k
theorem Ev_neg {α : Type} {c : Prop} [Decidable c] {f g : Nat → Option α} {r : α} (h : ¬ c) (k : Ev g r) : Ev (fun n => if c then f n else g n) r :=
  Ev.congr (fun _ => if_neg h) k
theorem Ev_val {α β : Type} {g : Option α} {f : Nat → α → Option β} {a : α} {r : β} (h : g = some a) (k : Ev (fun n => f n a) r) : Ev (fun n => g.bind (f n)) r :=
  Ev.congr (fun _ => by rw [h]; rfl) k
theorem Ev_some {α : Type} {a r : α} (h : a = r) : Ev (fun _ => some a) r := ⟨0, fun _ _ => by rw [h]⟩
theorem Ev_eq {α : Type} {g : Nat → Option α} {a r : α} (h : Ev g a) (e : a = r) : Ev g r := e ▸ h
theorem wrap_small {x : Int} (h0 : -4611686018427387904 ≤ x) (h1 : x ≤ 4611686018427387904) : wrap64 x = x := by unfold wrap64; omega
theorem wrap_succ {i : Nat} (h : i ≤ 4611686018427387900) : wrap64 ((i : Int) + 1) = ((i + 1 : Nat) : Int) := by unfold wrap64; omega
theorem wrap_pred {i : Nat} (h : i ≤ 4611686018427387900) : wrap64 ((i + 1 : Nat) - 1 : Int) = (i : Int) := by unfold wrap64; omega
theorem rd_nat (xs : List Int) (i : Nat) : rd xs (i : Int) = xs.getD i 0 := by simp [rd]
theorem getD_lt {α : Type} (xs : List α) (i : Nat) (z : α) (h : i < xs.length) : xs.getD i z = xs[i] := by simp [List.getD_eq_getElem?_getD, h]
theorem wf_range {x : Int} (h : (Lit.int .i64 x).wf = true) : -9223372036854775808 ≤ x ∧ x ≤ 9223372036854775807 := by
 simp [Lit.wf] at h
 exact h
theorem ext_getD {xs ys : List Int} (hl : xs.length = ys.length) (h : ∀ i, i < xs.length → xs.getD i 0 = ys.getD i 0) : xs = ys := by
 apply List.ext_getElem hl
 intro i h1 h2
 have := h i h1
 rwa [getD_lt _ _ _ h1, getD_lt _ _ _ h2] at this
theorem dec_eq {a b : Prop} [Decidable a] [Decidable b] (h : a ↔ b) : decide a = decide b := by simp [h]
def foldFrom {σ : Type} (n : Nat) (step : σ → Nat → σ) (s : σ) (i : Nat) : σ := (List.range' i (n - i)).foldl step s
theorem foldFrom_lt {σ : Type} {n : Nat} {step : σ → Nat → σ} {s : σ} {i : Nat} (h : i < n) : foldFrom n step s i = foldFrom n step (step s i) (i + 1) := by
 unfold foldFrom
 rw [show n - i = (n - (i + 1)) + 1 from by omega, List.range'_succ, List.foldl_cons]
theorem foldFrom_ge {σ : Type} {n : Nat} {step : σ → Nat → σ} {s : σ} {i : Nat} (h : n ≤ i) : foldFrom n step s i = s := by
 unfold foldFrom
 rw [show n - i = 0 from by omega]; rfl
theorem Ev_for {σ ρ : Type} {l : Nat → σ → Nat → Option ρ} (n : Nat) (step : σ → Nat → σ) (fin : σ → ρ) (Inv : σ → Nat → Prop)
    (hinv : ∀ i s, i < n → Inv s i → Inv (step s i) (i + 1))
    (hstep : ∀ i s, i < n → Inv s i → ∀ r, Ev (fun k => l k (step s i) (i + 1)) r → Ev (fun k => l k s i) r)
    (hend : ∀ s, Inv s n → Ev (fun k => l k s n) (fin s)) :
    ∀ i s, i ≤ n → Inv s i → Ev (fun k => l k s i) (fin (foldFrom n step s i)) ∧ Inv (foldFrom n step s i) n := by
 have main : ∀ d i s, n - i = d → i ≤ n → Inv s i → Ev (fun k => l k s i) (fin (foldFrom n step s i)) ∧ Inv (foldFrom n step s i) n := by {
 intro d
 induction d with
 | zero => {
 intro i s hd hi h
 obtain rfl : i = n := by omega
 rw [foldFrom_ge (Nat.le_refl _)]
 exact ⟨hend s h, h⟩}
 | succ d ih => {
 intro i s hd hi h
 rw [foldFrom_lt (by omega)]
 obtain ⟨h1, h2⟩ := ih (i + 1) (step s i) (by omega) (by omega) (hinv i s (by omega) h)
 exact ⟨hstep i s (by omega) h _ h1, h2⟩}}
 exact fun i s hi h => main _ i s rfl hi h
theorem Ev_all (l : Nat → Nat → Option Bool) (n : Nat) (P : Nat → Bool) (r : Bool)
    (hgo : ∀ i, i < n → (∀ j, j < i → P j = true) → P i = true → ∀ q, Ev (fun k => l k (i + 1)) q → Ev (fun k => l k i) q)
    (hno : ∀ i, i < n → (∀ j, j < i → P j = true) → P i = false → Ev (fun k => l k i) false)
    (hend : (∀ j, j < n → P j = true) → Ev (fun k => l k n) r) : Ev (fun k => l k 0) (decide (∀ j, j < n → P j = true) && r) := by
 have main : ∀ d i, n - i = d → i ≤ n → (∀ j, j < i → P j = true) → Ev (fun k => l k i) (decide (∀ j, j < n → P j = true) && r) := by {
 intro d
 induction d with
 | zero => {
 intro i hd hi h
 obtain rfl : i = n := by omega
 rw [decide_eq_true h, Bool.true_and]
 exact hend h}
 | succ d ih => {
 intro i hd hi h
 by_cases c : P i = true
 · {
 refine hgo i (by omega) h c _ (ih (i + 1) (by omega) (by omega) (fun j hj => ?_))
 by_cases e : j = i
 · rw [e]; exact c
 · exact h j (by omega)}
 · {
 refine Ev_eq (hno i (by omega) h (by simpa using c)) ?_
 rw [decide_eq_false (fun hh => c (hh i (by omega))), Bool.false_and]}}}
 exact main _ 0 rfl (by omega) (fun j hj => by omega)
end Prelude
theorem foldI {σ : Type} {n : Nat} {step : σ → Nat → σ} (Inv : σ → Nat → Prop) (h : ∀ i s, i < n → Inv s i → Inv (step s i) (i + 1)) : ∀ (d i : Nat) (s : σ), n - i = d → i ≤ n → Inv s i → Inv (foldFrom n step s i) n
  | 0, i, s, hd, hi, hs => by
    rw [foldFrom_ge (by omega)]
    have e : i = n := by omega
    exact e ▸ hs
  | d + 1, i, s, hd, hi, hs => by
    rw [foldFrom_lt (by omega)]
    exact foldI Inv h d (i + 1) _ (by omega) (by omega) (h i s (by omega) hs)
theorem rdL_nat (xs : List (List Int)) (i : Nat) : rd_L2 xs (i : Int) = xs.getD i [] := by unfold rd_L2; rw [Int.toNat_natCast]
theorem getD_mem {α : Type} {xs : List α} {i : Nat} {z : α} (h : i < xs.length) : xs.getD i z ∈ xs := by rw [getD_lt _ _ _ h]; exact List.getElem_mem h
theorem ext_getL {xs ys : List (List Int)} (hl : xs.length = ys.length) (h : ∀ i, i < xs.length → xs.getD i [] = ys.getD i []) : xs = ys := by
 apply List.ext_getElem hl
 intro i h1 h2
 have := h i h1
 rwa [getD_lt _ _ _ h1, getD_lt _ _ _ h2] at this
def Small (l : List (List Int)) : Prop := l.length ≤ 1048576 ∧ ∀ r ∈ l, r.length ≤ 1048576
def sumZ : Nat → (Nat → Int) → Int
  | 0, _ => 0
  | n + 1, f => sumZ n f + f n
theorem sumZ_congr {n : Nat} {f g : Nat → Int} (h : ∀ i, i < n → f i = g i) : sumZ n f = sumZ n g := by
 induction n with
 | zero => rfl
 | succ n ih => rw [sumZ, sumZ, ih (fun i hi => h i (by omega)), h n (by omega)]
theorem sumZ_bound {n : Nat} {f : Nat → Int} {B : Int} (hB : 0 ≤ B) (h : ∀ i, i < n → 0 ≤ f i ∧ f i ≤ B) : 0 ≤ sumZ n f ∧ sumZ n f ≤ n * B := by
 induction n with
 | zero => simp [sumZ]
 | succ n ih => {
 have h1 := ih (fun i hi => h i (by omega))
 have h2 := h n (by omega)
 rw [sumZ, show ((n + 1 : Nat) : Int) * B = n * B + B from by rw [Int.natCast_add, Int.add_mul]; simp]
 omega}
theorem sumZ_nonneg {n : Nat} {f : Nat → Int} (h : ∀ i, i < n → 0 ≤ f i) : 0 ≤ sumZ n f := by
 induction n with
 | zero => simp [sumZ]
 | succ n ih => have := ih (fun i hi => h i (by omega)); have := h n (by omega); rw [sumZ]; omega
theorem sumZ_term {n : Nat} {f : Nat → Int} (h : ∀ i, i < n → 0 ≤ f i) {i : Nat} (hi : i < n) : f i ≤ sumZ n f := by
 induction n with
 | zero => omega
 | succ n ih => {
 have h0 := sumZ_nonneg (n := n) (fun j hj => h j (by omega))
 rw [sumZ]
 by_cases e : i = n
 · rw [e]; omega
 · have := ih (fun j hj => h j (by omega)) (by omega); have := h n (by omega); omega}
theorem sumZ_zero {n : Nat} {f : Nat → Int} (h : ∀ i, i < n → 0 ≤ f i) : sumZ n f = 0 ↔ ∀ i, i < n → f i = 0 := by
 refine ⟨fun h0 i hi => ?_, fun h0 => ?_⟩
 · have := sumZ_term h hi; have := h i hi; omega
 · {
 rw [sumZ_congr (g := fun _ => 0) h0]
 clear h h0
 induction n with
 | zero => rfl
 | succ n ih => rw [sumZ, ih]; rfl}
theorem sumZ_add (n : Nat) (f g : Nat → Int) : sumZ n (fun i => f i + g i) = sumZ n f + sumZ n g := by
 induction n with
 | zero => rfl
 | succ n ih => simp only [sumZ, ih]; omega
theorem sumZ_swap (n m : Nat) (f : Nat → Nat → Int) : sumZ n (fun i => sumZ m (fun j => f i j)) = sumZ m (fun j => sumZ n (fun i => f i j)) := by
 induction n with
 | zero => exact ((sumZ_zero (n := m) (f := fun j => sumZ 0 fun i => f i j) (fun _ _ => Int.le_refl _)).2 (fun _ _ => rfl)).symm
 | succ n ih => {
 rw [sumZ, ih, ← sumZ_add]
 exact sumZ_congr (fun j _ => rfl)}
def en (m : List (List Int)) (i j : Nat) : Int := (m.getD i []).getD j 0
def Cells (m : List (List Int)) : Prop := ∀ i, i < m.length → (m.getD i []).length = m.length ∧ ∀ j, j < m.length → 0 ≤ en m i j ∧ en m i j ≤ 12 ∧ (j < i → en m i j = 0)
def rowZ (m : List (List Int)) (i : Nat) : Int := sumZ m.length (fun j => en m i j)
def colZ (m : List (List Int)) (j : Nat) : Int := sumZ m.length (fun i => en m i j)
def allZ (m : List (List Int)) : Int := sumZ m.length (fun i => rowZ m i)
def isMat (m : List (List Int)) : Prop := m.length ≤ 12 ∧ Cells m ∧ (∀ i, i < m.length → rowZ m i ≠ 0) ∧ (∀ j, j < m.length → colZ m j ≠ 0) ∧ allZ m ≤ 12
instance (m : List (List Int)) : Decidable (Cells m) := inferInstanceAs (Decidable (∀ i, i < m.length → _))
instance (m : List (List Int)) : Decidable (isMat m) := inferInstanceAs (Decidable (_ ∧ _))
theorem Cells.row {m : List (List Int)} (h : Cells m) {i : Nat} (hi : i < m.length) : 0 ≤ rowZ m i ∧ rowZ m i ≤ m.length * 12 := sumZ_bound (by decide) (fun j hj => ⟨((h i hi).2 j hj).1, ((h i hi).2 j hj).2.1⟩)
theorem Cells.nn {m : List (List Int)} (h : Cells m) {i j : Nat} (hi : i < m.length) (hj : j < m.length) : 0 ≤ en m i j := ((h i hi).2 j hj).1
theorem Cells.le {m : List (List Int)} (h : Cells m) {i j : Nat} (hi : i < m.length) (hj : j < m.length) : en m i j ≤ 12 := ((h i hi).2 j hj).2.1
def rowsL (m : List (List Int)) : List Int := (List.range m.length).map fun (i : Nat) => rowZ m i
def colsL (m : List (List Int)) : List Int := (List.range m.length).map fun (j : Nat) => colZ m j
theorem mapR_length (n : Nat) (f : Nat → Int) : ((List.range n).map f).length = n := by simp
theorem mapR_getD (n : Nat) (f : Nat → Int) {i : Nat} (h : i < n) : ((List.range n).map f).getD i 0 = f i := by rw [getD_lt _ _ _ (by simpa using h)]; simp
theorem within_eq (a b c : Int) : impl_within.f a b c = some (decide (b ≤ a ∧ a ≤ c)) := by
 unfold impl_within.f
 by_cases h : a ≥ b
 · rw [if_pos h]; have : b ≤ a := h; simp [this]
 · rw [if_neg h]; simp; omega
theorem allWithin_l0 (l : List Int) (lo hi : Int) (hs : l.length ≤ 4611686018427387000) : ∀ (d i : Nat), l.length - i = d → i ≤ l.length →
    Ev (fun k => impl_allWithin.l0 k lo hi l (l.length : Int) (i : Int)) (decide (∀ j, j < l.length → i ≤ j → lo ≤ l.getD j 0 ∧ l.getD j 0 ≤ hi)) := by
 intro d
 induction d with
 | zero => {
 intro i hd hi
 refine Ev.step (fun k => by rw [impl_allWithin.l0]) ?_
 refine Ev_neg (by omega) (Ev_some ?_)
 symm; rw [decide_eq_true_iff]; intro j hj hij; omega}
 | succ d ih => {
 intro i hd hi'
 refine Ev.step (fun k => by rw [impl_allWithin.l0]) ?_
 refine Ev_pos (by omega) (Ev_pos (by omega) (Ev_pos (by omega) ?_))
 rw [rd_nat, wrap_succ (by omega), within_eq]
 refine Ev_val rfl ?_
 by_cases c : lo ≤ l.getD i 0 ∧ l.getD i 0 ≤ hi
 · {
 refine Ev_pos (decide_eq_true c) (Ev_eq (ih (i + 1) (by omega) (by omega)) (dec_eq ?_))
 refine ⟨fun hh j hj hij => ?_, fun hh j hj hij => hh j hj (by omega)⟩
 by_cases e : j = i
 · subst e; exact c
 · exact hh j hj (by omega)}
 · {
 refine Ev_neg (by simpa using c) (Ev_some ?_)
 symm; rw [decide_eq_false_iff_not]
 intro hh; exact c (hh i (by omega) (by omega))}}
theorem allWithin_ev (l : List Int) (lo hi : Int) (hs : l.length ≤ 4611686018427387000) : Ev (fun k => impl_allWithin.f k l lo hi) (decide (∀ j, j < l.length → lo ≤ l.getD j 0 ∧ l.getD j 0 ≤ hi)) := by
 unfold impl_allWithin.f
 refine Ev_eq (allWithin_l0 l lo hi hs _ 0 rfl (by omega)) (dec_eq ?_)
 exact ⟨fun h j hj => h j hj (by omega), fun h j hj _ => h j hj⟩
theorem setR (n : Nat) (f g : Nat → Int) (i : Nat) (hi : i < n) (h : ∀ j, j < n → j ≠ i → g j = f j) : ((List.range n).map f).set i (g i) = (List.range n).map g := by
 apply List.ext_getElem (by simp)
 intro j h1 h2
 simp only [List.length_map, List.length_range] at h2
 by_cases e : j = i
 · subst e; simp
 · rw [List.getElem_set_ne (fun x => e x.symm)]; simp [h j h2 e]
theorem replR (n : Nat) : List.replicate n (0 : Int) = (List.range n).map (fun _ => 0) := by
 apply List.ext_getElem (by simp); intro j h1 h2; simp
theorem sums_l1 (m : List (List Int)) (hd : m.length ≤ 12) (h : Cells m) (i : Nat) (hi : i < m.length) (R : List Int × List Int)
    (hR : Ev (fun k => impl_Matrix_sums.l0 k ((List.range m.length).map fun (a : Nat) => if a < i + 1 then rowZ m a else 0) ((List.range m.length).map fun (b : Nat) => sumZ (i + 1) (fun a => en m a b)) m (m.length : Int) ((i + 1 : Nat) : Int)) R) :
    ∀ (d j : Nat), m.length - j = d → j ≤ m.length → Ev (fun k => impl_Matrix_sums.l1 k ((List.range m.length).map fun (a : Nat) => if a < i then rowZ m a else if a = i then sumZ j (fun b => en m i b) else 0)
      ((List.range m.length).map fun (b : Nat) => sumZ i (fun a => en m a b) + if b < j then en m i b else 0) (i : Int) m (m.length : Int) (i : Int) (m.getD i []) (m.length : Int) (j : Int)) R := by
  intro d
  induction d with
  | zero =>
    intro j hdj hj
    obtain rfl : j = m.length := by omega
    refine Ev.step (fun _ => rfl) (Ev_neg (by omega) ?_)
    rw [wrap_succ (by omega)]
    refine (Ev_eq hR rfl).congr (fun k => ?_)
    congr 1
    · apply List.map_congr_left; intro a ha
      by_cases c : a < i
      · rw [if_pos c, if_pos (by omega)]
      · rw [if_neg c]
        by_cases e : a = i
        · rw [if_pos e, if_pos (by omega), e]; rfl
        · rw [if_neg e, if_neg (by omega)]
    · apply List.map_congr_left; intro b hb
      have : b < m.length := by simpa using hb
      rw [if_pos this]; rfl
  | succ d ih =>
    intro j hdj hj
    have hl := (h i hi).1
    have h1 := h.nn hi (show j < m.length by omega)
    have h2 := h.le hi (show j < m.length by omega)
    have h3 := sumZ_bound (n := j) (f := fun b => en m i b) (B := 12) (by decide) (fun b hb => ⟨h.nn hi (by omega), h.le hi (by omega)⟩)
    have h4 := sumZ_bound (n := i) (f := fun a => en m a j) (B := 12) (by decide) (fun a ha => ⟨h.nn (by omega) (show j < m.length by omega), h.le (by omega) (show j < m.length by omega)⟩)
    refine Ev.step (fun _ => rfl) (Ev_pos (by omega) (Ev_pos (by omega) (Ev_pos (by omega) (Ev_pos (by omega) (Ev_pos (by rw [mapR_length]; omega) (Ev_pos (by rw [mapR_length]; omega) ?_))))))
    rw [rd_nat, rd_nat, rd_nat, mapR_getD _ _ hi, mapR_getD _ _ (show j < m.length by omega), if_neg (Nat.lt_irrefl _), if_pos rfl, if_neg (Nat.lt_irrefl _), wrap_succ (by omega), Int.toNat_natCast, Int.toNat_natCast,
      show (m.getD i []).getD j 0 = en m i j from rfl, wrap_small (by omega) (by omega), wrap_small (by omega) (by omega)]
    refine (ih (j + 1) (by omega) (by omega)).congr (fun k => ?_)
    congr 1
    · have := setR m.length (fun a => if a < i then rowZ m a else if a = i then sumZ j (fun b => en m i b) else 0) (fun a => if a < i then rowZ m a else if a = i then sumZ (j + 1) (fun b => en m i b) else 0) i hi (fun a _ hne => by
        by_cases c : a < i
        · rw [if_pos c, if_pos c]
        · rw [if_neg c, if_neg c, if_neg hne, if_neg hne])
      rw [← this, if_neg (Nat.lt_irrefl _), if_pos rfl]; rfl
    · have := setR m.length (fun b => sumZ i (fun a => en m a b) + if b < j then en m i b else 0) (fun b => sumZ i (fun a => en m a b) + if b < j + 1 then en m i b else 0) j (by omega) (fun b _ hne => by
        by_cases c : b < j
        · rw [if_pos c, if_pos (by omega)]
        · rw [if_neg c, if_neg (by omega)])
      rw [← this, if_pos (by omega), Int.add_zero]
theorem sums_ev (m : List (List Int)) (hd : m.length ≤ 12) (h : Cells m) : Ev (fun k => impl_Matrix_sums.f k m) (rowsL m, colsL m) := by
 unfold impl_Matrix_sums.f impl_Matrix_size.f
 refine Ev_val rfl (Ev_pos (by omega) (Ev_pos (by omega) (Ev_val rfl (Ev_pos (by omega) (Ev_pos (by omega) ?_)))))
 rw [Int.toNat_natCast, replR]
 have main : ∀ (d i : Nat), m.length - i = d → i ≤ m.length → Ev (fun k => impl_Matrix_sums.l0 k ((List.range m.length).map fun (a : Nat) => if a < i then rowZ m a else 0) ((List.range m.length).map fun (b : Nat) => sumZ i (fun a => en m a b)) m (m.length : Int) (i : Int)) (rowsL m, colsL m) := by {
 intro d
 induction d with
 | zero => {
 intro i hdi hi
 obtain rfl : i = m.length := by omega
 refine Ev.step (fun _ => rfl) (Ev_neg (by omega) (Ev_some ?_))
 unfold rowsL colsL
 congr 1
 apply List.map_congr_left; intro a ha
 rw [if_pos (by simpa using ha)]}
 | succ d ih => {
 intro i hdi hi
 refine Ev.step (fun _ => rfl) (Ev_pos (by omega) (Ev_pos (by omega) (Ev_pos (by omega) ?_)))
 rw [rdL_nat, (h i (by omega)).1]
 refine (sums_l1 m hd h i (by omega) _ (ih (i + 1) (by omega) (by omega)) _ 0 rfl (by omega)).congr (fun k => ?_)
 congr 1
 · {
 apply List.map_congr_left; intro a ha
 by_cases c : a < i
 · rw [if_pos c, if_pos c]
 · rw [if_neg c, if_neg c]; split <;> rfl}
 · {
 apply List.map_congr_left; intro b hb
 rw [if_neg (by omega), Int.add_zero]}}}
 refine (main _ 0 rfl (by omega)).congr (fun k => ?_)
 congr 1
 all_goals (apply List.map_congr_left; intro a ha)
def rowOk' (m : List (List Int)) (i : Nat) : Prop := (m.getD i []).length = m.length ∧ (∀ j, j < m.length → 0 ≤ en m i j ∧ en m i j ≤ 12) ∧ ∀ j, j < m.length → j < i → en m i j = 0
instance (m : List (List Int)) (i : Nat) : Decidable (rowOk' m i) := inferInstanceAs (Decidable (_ ∧ _ ∧ ∀ j, j < m.length → _))
def rowOk (m : List (List Int)) (i : Nat) : Prop := (m.getD i []).length = m.length ∧ (∀ j, j < m.length → 0 ≤ en m i j ∧ en m i j ≤ 12) ∧ rowZ m i ≠ 0 ∧ ∀ j, j < m.length → j < i → en m i j = 0
instance (m : List (List Int)) (i : Nat) : Decidable (rowOk m i) := inferInstanceAs (Decidable (_ ∧ _ ∧ _ ∧ ∀ j, j < m.length → _))
def Sq (m : List (List Int)) : Prop := ∀ i, i < m.length → (m.getD i []).length = m.length ∧ ∀ j, j < m.length → 0 ≤ en m i j
theorem Sq.nn {m : List (List Int)} (h : Sq m) {i j : Nat} (hi : i < m.length) (hj : j < m.length) : 0 ≤ en m i j := (h i hi).2 j hj
def Bd (B : Int) (m : List (List Int)) : Prop := ∀ r ∈ m, r.length = m.length ∧ ∀ v ∈ r, 0 ≤ v ∧ v ≤ B
theorem Bd.sq {B : Int} {m : List (List Int)} (h : Bd B m) : Sq m := fun i hi => by
  have h1 := h _ (getD_mem (z := []) hi)
  exact ⟨h1.1, fun j hj => (h1.2 _ (getD_mem (z := 0) (by rw [h1.1]; exact hj))).1⟩
def seekTop (m : List (List Int)) : Nat → Nat → Int
  | 0, _ => -1
  | n + 1, i => if en m i (m.length - 1) ≠ 0 then (i : Int) else seekTop m n (i + 1)
def topI (m : List (List Int)) : Int := seekTop m m.length 0
theorem top_eq (m : List (List Int)) (hd : m.length ≤ 12) (h : Sq m) : impl_Matrix_top.f m = some (topI m) := by
 unfold impl_Matrix_top.f slices_IndexFunc_int_int.f topI
 have main : ∀ (n i : Nat), m.length - i = n → i ≤ m.length → slices_IndexFunc_int_int.seek (m.drop i) (i : Int) = some (seekTop m n i) := by {
 intro n
 induction n with
 | zero => {
 intro i hn hi
 rw [List.drop_eq_nil_of_le (by omega)]; rfl}
 | succ n ih => {
 intro i hn hi
 have hl := (h i (by omega)).1
 have e := getD_lt m i [] (by omega)
 rw [List.drop_eq_getElem_cons (by omega), slices_IndexFunc_int_int.seek, ← e]
 unfold impl_Matrix_top_1.f
 rw [hl, show (m.length : Int) - 1 = ((m.length - 1 : Nat) : Int) from by omega, wrap_small (by omega) (by omega), rd_nat, if_pos (by omega), if_pos (by omega), Option.bind_some, seekTop]
 by_cases c : en m i (m.length - 1) ≠ 0
 · rw [if_pos c, if_pos (by simpa [en] using c)]
 · {
 rw [if_neg c, if_neg (by simpa [en] using c)]
 exact ih (i + 1) (by omega) (by omega)}}}
 have := main _ 0 rfl (by omega)
 rw [List.drop_zero] at this
 rw [show ((0 : Nat) : Int) = 0 from rfl] at this
 rw [this]; rfl
theorem own_ev (m : List (List Int)) (hs : Small m) : Ev (fun k => impl_Matrix_own.f k m) m := by
 unfold impl_Matrix_own.f
 have hl := hs.1
 have main : ∀ (d i : Nat), m.length - i = d → i ≤ m.length → Ev (fun k => impl_Matrix_own.l0 k m (m.length : Int) (i : Int) (m.take i)) m := by {
 intro d
 induction d with
 | zero => {
 intro i hd hi
 obtain rfl : i = m.length := by omega
 exact Ev.step (fun _ => rfl) (Ev_neg (by omega) (Ev_some (by simp)))}
 | succ d ih => {
 intro i hd hi
 have hi' : i < m.length := by omega
 refine Ev.step (fun _ => rfl) (Ev_pos (by omega) (Ev_pos (by omega) (Ev_pos (by omega) ?_)))
 rw [rdL_nat, wrap_succ (by omega)]
 have hr := hs.2 _ (getD_mem (z := []) hi')
 refine Ev_val (show slices_Clone_int_int.f (m.getD i []) = some (m.getD i []) from if_pos (by omega)) (Ev_pos (by rw [List.length_take]; omega) ?_)
 have := ih (i + 1) (by omega) (by omega)
 rw [List.take_succ_eq_append_getElem hi', ← getD_lt m i [] hi'] at this
 exact this}}
 have := main _ 0 rfl (by omega)
 simpa using this
def gD.fix (x d : Nat) (r : List Int) : List Int := (r.set x (r.getD d 0)).set d 0
def gD.last (m q : List (List Int)) (x : Nat) : List (List Int) := q.set x ((q.getD x []).set m.length 1)
def gD.inc (m : List (List Int)) (x : Nat) : List (List Int) := m.set x ((m.getD x []).set (m.length - 1) (wrap64 ((m.getD x []).getD (m.length - 1) 0 + 1)))
def gD.Ok (m : List (List Int)) (x : Int) : Prop := m.length ≤ 100 ∧ (∀ r ∈ m, r.length = m.length) ∧ 0 ≤ x ∧ x ≤ (m.length : Int)
instance gD.instOk (m : List (List Int)) (x : Int) : Decidable (gD.Ok m x) := inferInstanceAs (Decidable (_ ∧ _))
theorem insertIdx_cut {β : Type} : ∀ (l : List β) (x : Nat) (z : β), x ≤ l.length → l.insertIdx x z = l.take x ++ [z] ++ l.drop x
  | _, 0, _, _ => by simp
  | [], _ + 1, _, h => by simp at h
  | a :: l, x + 1, z, h => by
    rw [List.insertIdx_succ_cons, insertIdx_cut l x z (by simp at h; omega)]; simp
theorem insGet {β : Type} (xs : List β) (i j : Nat) (x : β) (hi : i ≤ xs.length) : (xs.insertIdx i x)[j]? = if j < i then xs[j]? else if j = i then some x else xs[j - 1]? := by
 rw [List.getElem?_insertIdx]
 by_cases c : j < i
 · rw [if_pos c, if_pos c]
 · {
 rw [if_neg c, if_neg c]
 by_cases c2 : j = i
 · rw [if_pos c2, if_pos c2, if_pos (by omega)]
 · rw [if_neg c2, if_neg c2]}
def gRow (m : List (List Int)) (x d i : Nat) : List Int := if i = x then (List.replicate (d + 1) (0 : Int)).set d 1 else if x < i then (m.getD (i - 1) []).insertIdx x 0 else if x < d then gD.fix x d ((m.getD i []).insertIdx x 0) else (m.getD i []).insertIdx x 0
def growM (m : List (List Int)) (x : Nat) : List (List Int) := if (x : Int) ≤ topI m then gD.inc m x else (List.range (m.length + 1)).map (gRow m x m.length)
theorem seekTop_lt (m : List (List Int)) : ∀ (n i : Nat), seekTop m n i < ((i + n : Nat) : Int) ∧ -1 ≤ seekTop m n i
  | 0, i => by rw [seekTop]; omega
  | n + 1, i => by
    rw [seekTop]
    have := seekTop_lt m n (i + 1)
    by_cases c : en m i (m.length - 1) ≠ 0
    · rw [if_pos c]; omega
    · rw [if_neg c]; omega
theorem topI_lt (m : List (List Int)) : topI m < (m.length : Int) ∧ -1 ≤ topI m := by have := seekTop_lt m m.length 0; rw [topI]; omega
theorem gRow_len (m : List (List Int)) (h : Sq m) (x : Nat) (hx : x ≤ m.length) (i : Nat) (hi : i ≤ m.length) : (gRow m x m.length i).length = m.length + 1 := by
 have hin : ∀ j, j < m.length → ((m.getD j []).insertIdx x 0).length = m.length + 1 := fun j hj => by {
 have := (h j hj).1
 rw [List.length_insertIdx, if_pos (by omega), this]}
 unfold gRow
 by_cases c : i = x
 · rw [if_pos c]; simp
 · {
 rw [if_neg c]
 by_cases c2 : x < i
 · rw [if_pos c2]; exact hin _ (by omega)
 · {
 rw [if_neg c2]
 by_cases c3 : x < m.length
 · rw [if_pos c3, gD.fix, List.length_set, List.length_set]; exact hin _ (by omega)
 · rw [if_neg c3]; exact hin _ (by omega)}}
theorem seekTop_pre (m : List (List Int)) : ∀ (n i j : Nat), i ≤ j → (j : Int) < seekTop m n i → en m j (m.length - 1) = 0
  | 0, i, j, h1, h2 => by rw [seekTop] at h2; omega
  | n + 1, i, j, h1, h2 => by
    rw [seekTop] at h2
    by_cases c : en m i (m.length - 1) ≠ 0
    · rw [if_pos c] at h2; omega
    · rw [if_neg c] at h2
      by_cases e : j = i
      · rw [e]; simpa using c
      · exact seekTop_pre m n (i + 1) j (by omega) h2
theorem seekTop_is (m : List (List Int)) (x : Nat) (hx : en m x (m.length - 1) ≠ 0) (h0 : ∀ j, j < x → en m j (m.length - 1) = 0) : ∀ (n i : Nat), i ≤ x → x < i + n → seekTop m n i = (x : Int)
  | 0, i, h1, h2 => by omega
  | n + 1, i, h1, h2 => by
    rw [seekTop]
    by_cases e : i = x
    · rw [e, if_pos hx]
    · rw [if_neg (by rw [h0 i (by omega)]; simp)]
      exact seekTop_is m x hx h0 n (i + 1) (by omega) (by omega)
theorem mem_ins {r : List Int} {x : Nat} {v : Int} (h : v ∈ r.insertIdx x 0) : v ∈ r ∨ v = 0 := by
 by_cases c : x ≤ r.length
 · {
 rw [insertIdx_cut r x 0 c] at h
 rcases List.mem_append.1 h with h | h
 · {
 rcases List.mem_append.1 h with h | h
 · exact .inl (List.mem_of_mem_take h)
 · exact .inr (by simpa using h)}
 · exact .inl (List.mem_of_mem_drop h)}
 · rw [List.insertIdx_of_length_lt (by omega)] at h; exact .inl h
theorem gRow_bd (m : List (List Int)) (B : Int) (hB : 0 ≤ B) (h : Bd B m) (x : Nat) (hx : x ≤ m.length) (i : Nat) (hi : i ≤ m.length) : ∀ v ∈ gRow m x m.length i, 0 ≤ v ∧ v ≤ B + 1 := by
 have hr : ∀ j, j < m.length → ∀ v ∈ (m.getD j []).insertIdx x 0, 0 ≤ v ∧ v ≤ B + 1 := fun j hj v hv => by {
 rcases mem_ins hv with h1 | h1
 · have := (h _ (getD_mem (z := []) hj)).2 v h1; omega
 · omega}
 have hd : ∀ j, j < m.length → ∀ q, 0 ≤ ((m.getD j []).insertIdx x 0).getD q 0 ∧ ((m.getD j []).insertIdx x 0).getD q 0 ≤ B + 1 := fun j hj q => by {
 by_cases c : q < ((m.getD j []).insertIdx x 0).length
 · exact hr j hj _ (getD_mem (z := 0) c)
 · rw [List.getD_eq_getElem?_getD, List.getElem?_eq_none (by omega)]; show (0 : Int) ≤ 0 ∧ (0 : Int) ≤ B + 1; omega}
 intro v hv
 unfold gRow at hv
 by_cases c : i = x
 · {
 rw [if_pos c] at hv
 rcases List.mem_or_eq_of_mem_set hv with h1 | h1
 · have := List.eq_of_mem_replicate h1; omega
 · omega}
 · {
 rw [if_neg c] at hv
 by_cases c2 : x < i
 · rw [if_pos c2] at hv; exact hr _ (by omega) v hv
 · {
 rw [if_neg c2] at hv
 by_cases c3 : x < m.length
 · {
 rw [if_pos c3, gD.fix] at hv
 rcases List.mem_or_eq_of_mem_set hv with h1 | h1
 · {
 rcases List.mem_or_eq_of_mem_set h1 with h1 | h1
 · exact hr _ (by omega) v h1
 · rw [h1]; exact hd _ (by omega) _}
 · omega}
 · rw [if_neg c3] at hv; exact hr _ (by omega) v hv}}
theorem getD_map_range (n : Nat) (f : Nat → List Int) {i : Nat} (h : i < n) : ((List.range n).map f).getD i [] = f i := by rw [getD_lt _ _ _ (by simpa using h)]; simp
theorem grow_inv (m : List (List Int)) (B : Int) (hB : 0 ≤ B) (hB2 : B ≤ 1000) (h : Bd B m) (hd : m.length ≤ 100) (x : Nat) (hx : x ≤ m.length) :
    Bd (B + 1) (growM m x) ∧ topI (growM m x) = (x : Int) ∧ (growM m x).length = if (x : Int) ≤ topI m then m.length else m.length + 1 := by
 have ht := topI_lt m
 by_cases c : (x : Int) ≤ topI m
 · {
 have hxl : x < m.length := by omega
 have hrow := h _ (getD_mem (z := []) hxl)
 have hlen : (growM m x).length = m.length := by rw [growM, if_pos c, gD.inc, List.length_set]
 have hv := hrow.2 ((m.getD x []).getD (m.length - 1) 0) (getD_mem (z := 0) (by rw [hrow.1]; omega))
 have hw : wrap64 ((m.getD x []).getD (m.length - 1) 0 + 1) = (m.getD x []).getD (m.length - 1) 0 + 1 := wrap_small (by omega) (by omega)
 have hx0 : en (growM m x) x ((growM m x).length - 1) ≠ 0 := by {
 rw [hlen, growM, if_pos c, gD.inc, hw, en, List.getD_eq_getElem?_getD (l := m.set _ _), List.getElem?_set_self hxl, Option.getD_some, List.getD_eq_getElem?_getD (l := List.set _ _ _), List.getElem?_set_self (by rw [hrow.1]; omega), Option.getD_some]
 omega}
 have hj0 : ∀ j, j < x → en (growM m x) j ((growM m x).length - 1) = 0 := fun j hj => by {
 have := seekTop_pre m m.length 0 j (by omega) (by rw [topI] at c; omega)
 rw [hlen, growM, if_pos c, gD.inc, en, List.getD_eq_getElem?_getD (l := m.set _ _), List.getElem?_set_ne (by omega), ← List.getD_eq_getElem?_getD]
 exact this}
 refine ⟨fun r hr => ?_, ?_, by rw [hlen, if_pos c]⟩
 · {
 rw [hlen]
 rw [growM, if_pos c, gD.inc] at hr
 rcases List.mem_or_eq_of_mem_set hr with h1 | h1
 · exact ⟨(h r h1).1, fun v hv => by have := (h r h1).2 v hv; omega⟩
 · {
 rw [h1, List.length_set]
 refine ⟨hrow.1, fun v hv2 => ?_⟩
 rcases List.mem_or_eq_of_mem_set hv2 with h2 | h2
 · have := hrow.2 v h2; omega
 · rw [h2, hw]; omega}}
 · {
 rw [topI]
 exact seekTop_is _ x hx0 hj0 _ 0 (by omega) (by rw [hlen]; omega)}}
 · {
 have hG : growM m x = (List.range (m.length + 1)).map (gRow m x m.length) := by rw [growM, if_neg c]
 have hlen : (growM m x).length = m.length + 1 := by rw [hG]; simp
 have hrl := gRow_len m h.sq x hx
 have hx0 : en (growM m x) x ((growM m x).length - 1) ≠ 0 := by {
 rw [hlen, hG, en, getD_map_range _ _ (by omega), gRow, if_pos rfl, show m.length + 1 - 1 = m.length from rfl, List.getD_eq_getElem?_getD, List.getElem?_set_self (by simp)]
 simp}
 have hj0 : ∀ j, j < x → en (growM m x) j ((growM m x).length - 1) = 0 := fun j hj => by {
 have hil := (h.sq j (by omega)).1
 rw [hlen, hG, en, getD_map_range _ _ (by omega), gRow, if_neg (by omega), if_neg (by omega), show m.length + 1 - 1 = m.length from rfl]
 by_cases c3 : x < m.length
 · rw [if_pos c3, gD.fix, List.getD_eq_getElem?_getD, List.getElem?_set_self (by rw [List.length_set, List.length_insertIdx, if_pos (by omega)]; omega)]; rfl
 · rw [if_neg c3, List.getD_eq_getElem?_getD, insGet _ _ _ _ (by omega), if_neg (by omega), if_pos (by omega)]; rfl}
 refine ⟨fun r hr => ?_, ?_, by rw [hlen, if_neg c]⟩
 · {
 rw [hG] at hr
 obtain ⟨i, hi, rfl⟩ := List.mem_map.1 hr
 have hi' := List.mem_range.1 hi
 exact ⟨by rw [hlen]; exact hrl i (by omega), gRow_bd m B hB h x hx i (by omega)⟩}
 · {
 rw [topI]
 exact seekTop_is _ x hx0 hj0 _ 0 (by omega) (by rw [hlen]; omega)}}
def ascN (l : List Int) : Nat → Nat
  | 0 => 0
  | i + 1 => ascN l i + if 0 < i ∧ l.getD (i - 1) 0 < l.getD i 0 then 1 else 0
theorem ascN_le (l : List Int) : ∀ i, ascN l i ≤ i
  | 0 => Nat.le_refl _
  | i + 1 => by rw [ascN]; have := ascN_le l i; split <;> omega
def bndA (l : List Int) (i : Nat) : Int := if i = 0 then 0 else (ascN l i : Int) + 1
def AscOk (l : List Int) : Prop := l.length ≤ 12 ∧ ∀ i, i < l.length → 0 ≤ l.getD i 0 ∧ l.getD i 0 ≤ bndA l i
instance (l : List Int) : Decidable (AscOk l) := inferInstanceAs (Decidable (_ ∧ _))
theorem take_getD (l : List Int) (n j : Nat) (h : j < n) : (l.take n).getD j 0 = l.getD j 0 := by
 rw [List.getD_eq_getElem?_getD, List.getElem?_take, if_pos h, ← List.getD_eq_getElem?_getD]
theorem asc_main (f : Nat → List Int → Int → Int → Option Int)
    (hf : ∀ k (x0 : List Int) (x3 x4 : Int), f (k + 1) x0 x3 x4 = if x4 < (x0.length : Int) then (if 0 ≤ (wrap64 (x4 - 1)) then (if (wrap64 (x4 - 1)) < (x0.length : Int) then (if 0 ≤ x4 then (if (rd x0 (wrap64 (x4 - 1))) < (rd x0 x4) then (f k x0 (wrap64 (x3 + 1)) (wrap64 (x4 + 1))) else (f k x0 x3 (wrap64 (x4 + 1)))) else (none)) else (none)) else (none)) else (some x3))
    (l : List Int) (n : Nat) (hn : n ≤ l.length) (hl : n ≤ 1000) : Ev (fun k => f k (l.take n) 0 1) (ascN l n : Int) := by
 have hlen : (l.take n).length = n := by rw [List.length_take]; omega
 have main : ∀ (d i : Nat), n - i = d → 1 ≤ i → i ≤ n → Ev (fun k => f k (l.take n) (ascN l i : Int) (i : Int)) (ascN l n : Int) := by {
 intro d
 induction d with
 | zero => {
 intro i hd h1 hi
 obtain rfl : i = n := by omega
 exact Ev.step (fun k => hf k _ _ _) (Ev_neg (by omega) (Ev_some rfl))}
 | succ d ih => {
 intro i hd h1 hi
 have ha := ascN_le l i
 have next := ih (i + 1) (by omega) (by omega) (by omega)
 refine Ev.step (fun k => hf k _ _ _) (Ev_pos (by omega) ?_)
 rw [show (i : Int) - 1 = ((i - 1 : Nat) : Int) from by omega, wrap_small (x := ((i - 1 : Nat) : Int)) (by omega) (by omega), wrap_succ (i := i) (by omega), wrap_succ (i := ascN l i) (by omega), rd_nat, rd_nat, take_getD _ _ _ (by omega), take_getD _ _ _ (by omega)]
 refine Ev_pos (by omega) (Ev_pos (by omega) (Ev_pos (by omega) ?_))
 rw [ascN] at next
 by_cases c : l.getD (i - 1) 0 < l.getD i 0
 · rw [if_pos ⟨by omega, c⟩] at next; exact Ev_pos c next
 · rw [if_neg (fun h => c h.2)] at next; exact Ev_neg c next}}
 by_cases c : 1 ≤ n
 · exact main _ 1 rfl (by omega) c
 · {
 obtain rfl : n = 0 := by omega
 exact Ev.step (fun k => hf k _ _ _) (Ev_neg (by omega) (Ev_some rfl))}
theorem specAsc_ev (l : List Int) (n : Nat) (hn : n ≤ l.length) (hl : n ≤ 1000) : Ev (fun k => spec_asAscents.f k (l.take n)) (ascN l n : Int) := asc_main (fun k => spec_asAscents.l0 k) (fun _ _ _ _ => rfl) l n hn hl
theorem implAsc_ev (l : List Int) (n : Nat) (hn : n ≤ l.length) (hl : n ≤ 1000) : Ev (fun k => impl_ascents.f k (l.take n)) (ascN l n : Int) := asc_main (fun k => impl_ascents.l0 k) (fun _ _ _ _ => rfl) l n hn hl
theorem specBound_ev (l : List Int) (n : Nat) (hn : n ≤ l.length) (hl : n ≤ 1000) : Ev (fun k => spec_asBound.f k (l.take n)) (bndA l n) := by
 have hlen : (l.take n).length = n := by rw [List.length_take]; omega
 have ha := ascN_le l n
 unfold spec_asBound.f bndA
 by_cases c : n = 0
 · rw [if_pos c]; exact Ev_pos (by omega) (Ev_some rfl)
 · {
 rw [if_neg c]
 refine Ev_neg (by omega) (Ev.bind (specAsc_ev l n hn hl) (Ev_some (wrap_small (by omega) (by omega))))}
theorem in_eq (a b c : Int) : spec_l1In.f a b c = some (decide (b ≤ a ∧ a ≤ c)) := by
 unfold spec_l1In.f
 by_cases h : a ≥ b
 · rw [if_pos h]; congr 1; exact dec_eq ⟨fun h2 => ⟨h, h2⟩, fun h2 => h2.2⟩
 · rw [if_neg h]; congr 1; rw [eq_comm, decide_eq_false_iff_not]; exact fun h2 => h h2.1
theorem win_eq (a b c : Int) : impl_within.f a b c = some (decide (b ≤ a ∧ a ≤ c)) := by
 unfold impl_within.f
 by_cases h : a ≥ b
 · rw [if_pos h]; congr 1; exact dec_eq ⟨fun h2 => ⟨h, h2⟩, fun h2 => h2.2⟩
 · rw [if_neg h]; congr 1; rw [eq_comm, decide_eq_false_iff_not]; exact fun h2 => h h2.1
def OkFrom (l : List Int) (i : Nat) : Prop := ∀ j, i ≤ j → j < l.length → 0 ≤ l.getD j 0 ∧ l.getD j 0 ≤ bndA l j
open Classical in
theorem asGood_ev (l : List Int) (hs : l.length ≤ 1048576) : Ev (fun k => spec_asGood.f k l) (decide (AscOk l)) := by
 unfold spec_asGood.f
 by_cases c : (l.length : Int) > 12
 · {
 refine Ev_pos c (Ev_some ?_)
 rw [eq_comm, decide_eq_false_iff_not]; exact fun h => by have := h.1; omega}
 · {
 refine Ev_neg c ?_
 have main : ∀ (d i : Nat), l.length - i = d → i ≤ l.length → Ev (fun k => spec_asGood.l0 k l l (l.length : Int) (i : Int)) (decide (OkFrom l i)) := by {
 intro d
 induction d with
 | zero => {
 intro i hd hi
 obtain rfl : i = l.length := by omega
 exact Ev.step (fun _ => rfl) (Ev_neg (by omega) (Ev_some (by rw [eq_comm, decide_eq_true_iff]; exact fun j h1 h2 => by omega)))}
 | succ d ih => {
 intro i hd hi
 refine Ev.step (fun _ => rfl) (Ev_pos (by omega) (Ev_pos (by omega) (Ev_pos (by omega) (Ev_pos (by omega) ?_))))
 rw [Int.toNat_natCast, rd_nat, wrap_succ (i := i) (by omega)]
 refine Ev.bind (specBound_ev l i (by omega) (by omega)) (Ev_val (in_eq _ _ _) ?_)
 by_cases g : 0 ≤ l.getD i 0 ∧ l.getD i 0 ≤ bndA l i
 · {
 refine Ev_pos (decide_eq_true g) (Ev_eq (ih (i + 1) (by omega) (by omega)) (dec_eq ⟨fun h j h1 h2 => ?_, fun h j h1 h2 => h j (by omega) h2⟩))
 by_cases e : j = i
 · rw [e]; exact g
 · exact h j (by omega) h2}
 · {
 refine Ev_neg (by simpa using g) (Ev_some ?_)
 rw [eq_comm, decide_eq_false_iff_not]; exact fun h => g (h i (Nat.le_refl _) (by omega))}}}
 exact Ev_eq (main _ 0 rfl (by omega)) (dec_eq ⟨fun h => ⟨by omega, fun i hi => h i (by omega) hi⟩, fun h j _ h2 => h.2 j h2⟩)}
open Classical in
theorem isAscent_ev (l : List Int) (hs : l.length ≤ 1048576) : Ev (fun k => impl_IsAscent.f k l) (decide (AscOk l)) := by
 unfold impl_IsAscent.f
 by_cases c : (l.length : Int) > 12
 · {
 refine Ev_pos c (Ev_some ?_)
 rw [eq_comm, decide_eq_false_iff_not]; exact fun h => by have := h.1; omega}
 · {
 refine Ev_neg c ?_
 have main : ∀ (d i : Nat), l.length - i = d → i ≤ l.length → Ev (fun k => impl_IsAscent.l0 k l l (l.length : Int) (i : Int)) (decide (OkFrom l i)) := by {
 intro d
 induction d with
 | zero => {
 intro i hd hi
 obtain rfl : i = l.length := by omega
 exact Ev.step (fun _ => rfl) (Ev_neg (by omega) (Ev_some (by rw [eq_comm, decide_eq_true_iff]; exact fun j h1 h2 => by omega)))}
 | succ d ih => {
 intro i hd hi
 have ha := ascN_le l i
 have yes : (0 ≤ l.getD i 0 ∧ l.getD i 0 ≤ bndA l i) → Ev (fun k => impl_IsAscent.l0 k l l (l.length : Int) ((i + 1 : Nat) : Int)) (decide (OkFrom l i)) := fun g => by {
 refine Ev_eq (ih (i + 1) (by omega) (by omega)) (dec_eq ⟨fun h j h1 h2 => ?_, fun h j h1 h2 => h j (by omega) h2⟩)
 by_cases e : j = i
 · rw [e]; exact g
 · exact h j (by omega) h2}
 have no : ¬ (0 ≤ l.getD i 0 ∧ l.getD i 0 ≤ bndA l i) → false = decide (OkFrom l i) := fun g => by rw [eq_comm, decide_eq_false_iff_not]; exact fun h => g (h i (Nat.le_refl _) (by omega))
 refine Ev.step (fun _ => rfl) (Ev_pos (by omega) (Ev_pos (by omega) (Ev_pos (by omega) ?_)))
 rw [Int.toNat_natCast, rd_nat, wrap_succ (i := i) (by omega)]
 by_cases e : i = 0
 · {
 have hb : bndA l i = 0 := by rw [bndA, if_pos e]
 refine Ev_pos (by omega) ?_
 by_cases z : l.getD i 0 = 0
 · exact Ev_pos z (Ev_neg (by omega) (yes (by rw [hb]; omega)))
 · exact Ev_neg z (Ev_some (no (by rw [hb]; omega)))}
 · {
 have hb : bndA l i = (ascN l i : Int) + 1 := by rw [bndA, if_neg e]
 refine Ev_neg (by omega) (Ev_pos (by omega) (Ev_pos (by omega) (Ev.bind (implAsc_ev l i (by omega) (by omega)) ?_)))
 rw [wrap_small (x := (ascN l i : Int) + 1) (by omega) (by omega), ← hb]
 refine Ev_val (win_eq _ _ _) ?_
 by_cases g : 0 ≤ l.getD i 0 ∧ l.getD i 0 ≤ bndA l i
 · exact Ev_pos (decide_eq_true g) (yes g)
 · exact Ev_neg (by simpa using g) (Ev_some (no g))}}}
 exact Ev_eq (main _ 0 rfl (by omega)) (dec_eq ⟨fun h => ⟨by omega, fun i hi => h i (by omega) hi⟩, fun h j _ h2 => h.2 j h2⟩)}
def matA (l : List Int) : Nat → List (List Int)
  | 0 => []
  | i + 1 => growM (matA l i) (l.getD i 0).toNat
theorem matA_inv (l : List Int) (g : AscOk l) : ∀ i, i ≤ l.length → Bd (i : Int) (matA l i) ∧ (matA l i).length = (if i = 0 then 0 else ascN l i + 1) ∧ (0 < i → topI (matA l i) = l.getD (i - 1) 0)
  | 0, _ => ⟨fun r hr => by simp [matA] at hr, rfl, fun h => absurd h (by decide)⟩
  | i + 1, hi => by
    obtain ⟨h1, h2, h3⟩ := matA_inv l g i (by omega)
    have hl := g.1
    have hg := g.2 i (by omega)
    have ha := ascN_le l i
    obtain ⟨x, hx⟩ : ∃ x : Nat, l.getD i 0 = (x : Int) := ⟨(l.getD i 0).toNat, by omega⟩
    have hxl : x ≤ (matA l i).length := by
      rw [h2]
      by_cases e : i = 0
      · have := hg.2; rw [bndA, if_pos e] at this; rw [if_pos e]; omega
      · have := hg.2; rw [bndA, if_neg e] at this; rw [if_neg e]; omega
    have hd : (matA l i).length ≤ 100 := by rw [h2]; split <;> omega
    obtain ⟨k1, k2, k3⟩ := grow_inv (matA l i) (i : Int) (by omega) (by omega) h1 hd x hxl
    have ht := topI_lt (matA l i)
    rw [matA, hx, Int.toNat_natCast]
    refine ⟨by rw [Int.natCast_add]; exact k1, ?_, fun _ => by rw [k2, show i + 1 - 1 = i from rfl, hx]⟩
    rw [k3, if_neg (show ¬ (i + 1 = 0) by omega), ascN]
    by_cases e : i = 0
    · subst e
      rw [if_neg (by rw [h2, if_pos rfl] at ht; omega), h2, if_pos rfl, if_neg (fun h => absurd h.1 (by decide))]; rfl
    · rw [if_neg e] at h2
      have h3 := h3 (by omega)
      rw [h3, h2, ← hx]
      by_cases c : l.getD (i - 1) 0 < l.getD i 0
      · rw [if_neg (by omega), if_pos ⟨by omega, c⟩]
      · rw [if_pos (by omega), if_neg (fun h => c h.2)]
theorem Bd.small {B : Int} {m : List (List Int)} (h : Bd B m) (hd : m.length ≤ 1000) : Small m := ⟨by omega, fun r hr => by have := (h r hr).1; omega⟩
theorem matA_step (l : List Int) (g : AscOk l) (i : Nat) (hi : i < l.length) : (matA l i).length ≤ 12 ∧ ∃ x : Nat, l.getD i 0 = (x : Int) ∧ x ≤ (matA l i).length ∧ matA l (i + 1) = growM (matA l i) x := by
 obtain ⟨h1, h2, h3⟩ := matA_inv l g i (by omega)
 have hl := g.1
 have hg := g.2 i hi
 have ha := ascN_le l i
 refine ⟨by rw [h2]; split <;> omega, (l.getD i 0).toNat, by omega, ?_, rfl⟩
 rw [h2]
 by_cases e : i = 0
 · have := hg.2; rw [bndA, if_pos e] at this; rw [if_pos e]; omega
 · have := hg.2; rw [bndA, if_neg e] at this; rw [if_neg e]; omega
theorem seekTop_none (m : List (List Int)) : ∀ (n i : Nat), seekTop m n i < 0 → ∀ j, i ≤ j → j < i + n → en m j (m.length - 1) = 0
  | 0, i, _, j, h1, h2 => by omega
  | n + 1, i, h, j, h1, h2 => by
    rw [seekTop] at h
    by_cases c : en m i (m.length - 1) ≠ 0
    · rw [if_pos c] at h; omega
    · rw [if_neg c] at h
      by_cases e : j = i
      · rw [e]; simpa using c
      · exact seekTop_none m n (i + 1) h j (by omega) (by omega)
theorem seekTop_hit (m : List (List Int)) : ∀ (n i x : Nat), seekTop m n i = (x : Int) → en m x (m.length - 1) ≠ 0
  | 0, i, x, h => by rw [seekTop] at h; omega
  | n + 1, i, x, h => by
    rw [seekTop] at h
    by_cases c : en m i (m.length - 1) ≠ 0
    · rw [if_pos c] at h; rw [show x = i from by omega]; exact c
    · rw [if_neg c] at h; exact seekTop_hit m n (i + 1) x h
def Shk (m : List (List Int)) : Prop := m.length ≤ 12 ∧ Cells m ∧ (∀ i, i < m.length → ∃ j, j < m.length ∧ en m i j ≠ 0) ∧ (∀ j, j < m.length → ∃ i, i < m.length ∧ en m i j ≠ 0)
theorem some_of_sum {n : Nat} {f : Nat → Int} (h : ∀ i, i < n → 0 ≤ f i) (hs : sumZ n f ≠ 0) : ∃ j, j < n ∧ f j ≠ 0 := by
 by_cases c : ∃ j, j < n ∧ f j ≠ 0
 · exact c
 · {
 refine absurd ((sumZ_zero h).2 (fun i hi => ?_)) hs
 by_cases e : f i = 0
 · exact e
 · exact absurd ⟨i, hi, e⟩ c}
theorem isMat.shk {m : List (List Int)} (g : isMat m) : Shk m := ⟨g.1, g.2.1, fun i hi => some_of_sum (fun j hj => g.2.1.nn hi hj) (g.2.2.1 i hi), fun j hj => some_of_sum (fun i hi => g.2.1.nn hi hj) (g.2.2.2.1 j hj)⟩
theorem topI_nn (m : List (List Int)) (g : Shk m) (hp : 0 < m.length) : 0 ≤ topI m := by
 have ht := topI_lt m
 by_cases c : topI m < 0
 · {
 have hz := seekTop_none m m.length 0 c
 obtain ⟨i, hi, hc⟩ := g.2.2.2 (m.length - 1) (by omega)
 exact absurd (hz i (by omega) (by omega)) hc}
 · omega
theorem Cells.sq' {m : List (List Int)} (h : Cells m) : Sq m := fun i hi => ⟨(h i hi).1, fun j hj => ((h i hi).2 j hj).1⟩
theorem mapErase {β γ : Type} (g : β → γ) : ∀ (l : List β) (j : Nat), (l.eraseIdx j).map g = (l.map g).eraseIdx j
  | [], _ => rfl
  | _ :: _, 0 => rfl
  | a :: l, j + 1 => by simp only [List.eraseIdx_cons_succ, List.map_cons]; rw [mapErase g l j]
def sRow (m : List (List Int)) (x i : Nat) : List Int := if i < x ∧ x < m.length - 1 then impl_Matrix_shrunk.cp x (m.length - 1) (m.getD i []) else m.getD i []
def sBase (m : List (List Int)) (x : Nat) : List (List Int) := (List.range m.length).map fun (i : Nat) => (sRow m x i).eraseIdx x
theorem get?_lt2 {α : Type} (xs : List α) (i : Nat) (z : α) (h : i < xs.length) : xs[i]? = some (xs.getD i z) := by rw [getD_lt xs i z h, List.getElem?_eq_getElem h]
theorem less_eq (m : List (List Int)) (x : Nat) (hx : x < m.length) : impl_Matrix_shrunk.less m x = (sBase m x).eraseIdx x := by
 rw [impl_Matrix_shrunk.less, impl_Matrix_shrunk.cut2, mapErase]
 congr 1
 apply List.ext_getElem?
 intro j
 rw [sBase, List.getElem?_map, List.getElem?_map]
 by_cases hj : j < m.length
 · {
 rw [List.getElem?_eq_getElem (l := List.range m.length) (by simpa using hj), List.getElem_range, Option.map_some]
 by_cases c : x < m.length - 1
 · {
 rw [if_pos c, impl_Matrix_shrunk.cut1]
 by_cases c1 : j < x
 · rw [List.getElem?_append_left (by rw [List.length_map, List.length_take]; omega), List.getElem?_map, List.getElem?_take, if_pos c1, get?_lt2 m j [] hj, sRow, if_pos ⟨c1, c⟩]; rfl
 · rw [List.getElem?_append_right (by rw [List.length_map, List.length_take]; omega), List.getElem?_drop, List.length_map, List.length_take, show x + (j - min x m.length) = j from by omega, get?_lt2 m j [] hj, sRow, if_neg (fun h => c1 h.1)]; rfl}
 · rw [if_neg c, get?_lt2 m j [] hj, sRow, if_neg (fun h => c h.2)]; rfl}
 · {
 rw [List.getElem?_eq_none (l := List.range m.length) (by simp; omega), List.getElem?_eq_none (by
  split
  · rw [impl_Matrix_shrunk.cut1, List.length_append, List.length_map, List.length_take, List.length_drop]; omega
  · omega)]; rfl}
def shrinkM (m : List (List Int)) : List (List Int) × Int := if 1 < rowZ m (topI m).toNat then (impl_Matrix_shrunk.dec m (topI m).toNat, topI m) else (impl_Matrix_shrunk.less m (topI m).toNat, topI m)
theorem shrunk_ev (m : List (List Int)) (g : Shk m) (hs : Small m) (hp : 0 < m.length) : Ev (fun k => impl_Matrix_shrunk.f k m) (shrinkM m) := by
 have hd := g.1
 have h := g.2.1
 have ht := topI_lt m
 have hn := topI_nn m g hp
 unfold impl_Matrix_shrunk.f
 refine Ev.bind (own_ev m hs) (Ev.bind (sums_ev m hd h) (Ev_val (top_eq m hd h.sq') ?_))
 refine Ev_pos ⟨rfl, by omega, fun r hr => ?_, hn, ht.1, by simp [rowsL]⟩ ⟨0, fun _ _ => ?_⟩
 · {
 obtain ⟨i, hi, rfl⟩ := List.getElem_of_mem hr
 rw [← getD_lt m i [] hi]; exact (h i hi).1}
 · {
 unfold impl_Matrix_shrunk.go shrinkM
 rw [rowsL, mapR_getD _ _ (by omega)]}
theorem sum_le {n : Nat} {f g : Nat → Int} (h : ∀ i, i < n → f i ≤ g i) : sumZ n f ≤ sumZ n g := by
 induction n with
 | zero => exact Int.le_refl _
 | succ n ih => rw [sumZ, sumZ]; have := ih (fun i hi => h i (by omega)); have := h n (by omega); omega
theorem getD_setG {α : Type} (l : List α) (x i : Nat) (v z : α) (hx : x < l.length) : (l.set x v).getD i z = if i = x then v else l.getD i z := by
 rw [List.getD_eq_getElem?_getD, List.getElem?_set]
 by_cases e : x = i
 · rw [if_pos e, if_pos hx, if_pos e.symm]; rfl
 · rw [if_neg e, if_neg (fun h => e h.symm), List.getD_eq_getElem?_getD]
theorem getD_era {α : Type} (l : List α) (x j : Nat) (z : α) : (l.eraseIdx x).getD j z = l.getD (if j < x then j else j + 1) z := by
 rw [List.getD_eq_getElem?_getD, List.getElem?_eraseIdx, List.getD_eq_getElem?_getD]
 by_cases e : j < x
 · rw [if_pos e, if_pos e]
 · rw [if_neg e, if_neg e]
theorem dec_len (m : List (List Int)) (x : Nat) : (impl_Matrix_shrunk.dec m x).length = m.length := by rw [impl_Matrix_shrunk.dec, List.length_set]
theorem dec_en (m : List (List Int)) (h : Cells m) (x : Nat) (hx : x < m.length) (i j : Nat) : en (impl_Matrix_shrunk.dec m x) i j = if i = x ∧ j = m.length - 1 then en m x (m.length - 1) - 1 else en m i j := by
 have hl := (h x hx).1
 have hb := (h x hx).2 (m.length - 1) (by omega)
 rw [en, impl_Matrix_shrunk.dec, getD_setG _ _ _ _ _ hx]
 by_cases e : i = x
 · {
 rw [if_pos e, getD_setG _ _ _ _ _ (by omega)]
 by_cases e2 : j = m.length - 1
 · rw [if_pos e2, if_pos ⟨e, e2⟩, wrap_small (by simp only [en] at hb; omega) (by simp only [en] at hb; omega)]; rfl
 · rw [if_neg e2, if_neg (fun h => e2 h.2), e]; rfl}
 · rw [if_neg e, if_neg (fun h => e h.1)]; rfl
def upx (x j : Nat) : Nat := if j < x then j else j + 1
def lessE (m : List (List Int)) (x i q : Nat) : Int := if i < x ∧ x < m.length - 1 ∧ q = m.length - 1 then en m i x else en m i q
theorem less_len (m : List (List Int)) (x : Nat) (hx : x < m.length) : (impl_Matrix_shrunk.less m x).length = m.length - 1 := by
 rw [less_eq m x hx, List.length_eraseIdx, if_pos (by simp [sBase]; exact hx)]; simp [sBase]
theorem sRow_len (m : List (List Int)) (h : Cells m) (x i : Nat) (hi : i < m.length) : (sRow m x i).length = m.length := by
 rw [sRow]; split
 · rw [impl_Matrix_shrunk.cp, List.length_set]; exact (h i hi).1
 · exact (h i hi).1
theorem less_row (m : List (List Int)) (x : Nat) (hx : x < m.length) (i : Nat) (hi : i < m.length - 1) : (impl_Matrix_shrunk.less m x).getD i [] = (sRow m x (upx x i)).eraseIdx x := by
 have hu : upx x i < m.length := by rw [upx]; split <;> omega
 rw [less_eq m x hx, getD_era, ← upx, sBase, getD_lt _ _ _ (by simpa using hu)]; simp
theorem less_en (m : List (List Int)) (h : Cells m) (x : Nat) (hx : x < m.length) (i : Nat) (hi : i < m.length - 1) (j : Nat) : en (impl_Matrix_shrunk.less m x) i j = lessE m x (upx x i) (upx x j) := by
 have hu : upx x i < m.length := by rw [upx]; split <;> omega
 have hl := (h _ hu).1
 rw [en, less_row m x hx i hi, getD_era, ← upx, lessE, sRow]
 by_cases c : upx x i < x ∧ x < m.length - 1
 · {
 rw [if_pos c, impl_Matrix_shrunk.cp, getD_setG _ _ _ _ _ (by omega)]
 by_cases e : upx x j = m.length - 1
 · rw [if_pos e, if_pos ⟨c.1, c.2, e⟩]; rfl
 · rw [if_neg e, if_neg (fun h => e h.2.2)]; rfl}
 · rw [if_neg c, if_neg (fun h => c ⟨h.1, h.2.1⟩)]; rfl
theorem rev_getD (l : List Int) (p : Nat) (h : p < l.length) : l.reverse.getD p 0 = l.getD (l.length - 1 - p) 0 := by
 rw [getD_lt _ _ _ (by simpa using h), getD_lt _ _ _ (by omega), List.getElem_reverse]
theorem reverse_ev (l : List Int) (hl : l.length ≤ 2000000) : Ev (fun k => slices_Reverse_int_int.f k l) l.reverse := by
  unfold slices_Reverse_int_int.f
  have main : ∀ (d i : Nat) (q : List Int), l.length - 2 * i = d → 2 * i ≤ l.length + 1 → q.length = l.length → (∀ p, p < l.length → q.getD p 0 = if p < i ∨ l.length ≤ p + i then l.getD (l.length - 1 - p) 0 else l.getD p 0) → Ev (fun k => slices_Reverse_int_int.l0 k q (i : Int) ((l.length : Int) - 1 - (i : Int))) l.reverse := by
    intro d
    induction d using Nat.strongRecOn with
    | ind d ih =>
      intro i q hd hi hq hp
      refine Ev.step (fun _ => rfl) ?_
      by_cases c : 2 * i + 1 < l.length
      · refine Ev_pos (by omega) (Ev_pos (by omega) (Ev_pos (by omega) (Ev_pos (by omega) (Ev_pos (by omega) ?_))))
        rw [wrap_succ (i := i) (by omega), wrap_small (x := (l.length : Int) - 1 - (i : Int) - 1) (by omega) (by omega), show (l.length : Int) - 1 - (i : Int) - 1 = (l.length : Int) - 1 - ((i + 1 : Nat) : Int) from by omega,
          show (l.length : Int) - 1 - (i : Int) = ((l.length - 1 - i : Nat) : Int) from by omega, rd_nat, rd_nat, Int.toNat_natCast, Int.toNat_natCast]
        refine ih (l.length - 2 * (i + 1)) (by omega) (i + 1) _ rfl (by omega) (by simpa using hq) (fun p hpl => ?_)
        have hi1 : q.getD i 0 = l.getD i 0 := by rw [hp i (by omega), if_neg (by omega)]
        have hi2 : q.getD (l.length - 1 - i) 0 = l.getD (l.length - 1 - i) 0 := by rw [hp _ (by omega), if_neg (by omega)]
        rw [getD_setG _ _ _ _ _ (by rw [List.length_set]; omega), getD_setG _ _ _ _ _ (by omega), hi1, hi2]
        by_cases e1 : p = l.length - 1 - i
        · rw [if_pos e1, if_pos (by omega), show l.length - 1 - p = i from by omega]
        · rw [if_neg e1]
          by_cases e2 : p = i
          · rw [if_pos e2, if_pos (by omega), e2]
          · rw [if_neg e2, hp p hpl]
            by_cases e3 : p < i ∨ l.length ≤ p + i
            · rw [if_pos e3, if_pos (by omega)]
            · rw [if_neg e3, if_neg (by omega)]
      · refine Ev_neg (by omega) (Ev_some ?_)
        refine ext_getD (by simpa using hq) (fun p hpl => ?_)
        rw [hq] at hpl
        rw [rev_getD l p hpl, hp p hpl]
        by_cases e3 : p < i ∨ l.length ≤ p + i
        · rw [if_pos e3]
        · rw [if_neg e3, show l.length - 1 - p = p from by omega]
  rw [wrap_small (by omega) (by omega)]
  have := main _ 0 l rfl (by omega) rfl (fun p hp => by rw [if_neg (by omega)])
  simpa using this
def dnx (x j : Nat) : Nat := if j < x then j else j - 1
theorem dnx_lt {x j : Nat} (h : j < x) : dnx x j = j := if_pos h
theorem dnx_ge {x j : Nat} (h : x ≤ j) : dnx x j = j - 1 := if_neg (by omega)
theorem dnx_upx (x k : Nat) : dnx x (upx x k) = k := by
 unfold upx
 by_cases q : k < x
 · rw [if_pos q, dnx_lt q]
 · rw [if_neg q, dnx_ge (by omega)]; rfl
theorem sum_ins (n x : Nat) (hx : x ≤ n) (v : Int) (f : Nat → Int) : sumZ (n + 1) (fun i => if i = x then v else f (dnx x i)) = sumZ n f + v := by
 induction n with
 | zero => {
 obtain rfl : x = 0 := by omega
 simp [sumZ]}
 | succ n ih => {
 by_cases e : x = n + 1
 · {
 subst e
 rw [sumZ, if_pos rfl]
 congr 1
 exact sumZ_congr (fun i hi => by rw [if_neg (by omega), dnx_lt hi])}
 · {
 rw [sumZ, ih (by omega), if_neg (by omega), dnx_ge (by omega), show n + 1 - 1 = n from rfl, sumZ]
 omega}}
theorem sum_ind (n a : Nat) (ha : a < n) (v : Int) : sumZ n (fun i => if i = a then v else 0) = v := by
 obtain ⟨n, rfl⟩ : ∃ k, n = k + 1 := ⟨n - 1, by omega⟩
 have h := sum_ins n a (by omega) v (fun _ => 0)
 have z : sumZ n (fun _ => (0 : Int)) = 0 := (sumZ_zero (fun _ _ => Int.le_refl _)).2 (fun _ _ => rfl)
 rw [z] at h
 omega
theorem mat_ext {A B : List (List Int)} (hl : A.length = B.length) (hr : ∀ i, i < A.length → (A.getD i []).length = (B.getD i []).length) (he : ∀ i j, i < A.length → j < (A.getD i []).length → en A i j = en B i j) : A = B := ext_getL hl (fun i hi => ext_getD (hr i hi) (fun j hj => he i j hi hj))
theorem Cells.bd {m : List (List Int)} (h : Cells m) : Bd 12 m := fun r hr => by
  obtain ⟨i, hi, rfl⟩ := List.getElem_of_mem hr
  have h1 := h i hi
  rw [getD_lt m i [] hi] at h1
  refine ⟨h1.1, fun v hv => ?_⟩
  obtain ⟨j, hj, rfl⟩ := List.getElem_of_mem hv
  have h2 := h1.2 j (by omega)
  unfold en at h2
  rw [getD_lt m i [] hi, getD_lt _ j 0 hj] at h2
  exact ⟨h2.1, h2.2.1⟩
theorem isMat.le_all {m : List (List Int)} (g : isMat m) : (m.length : Int) ≤ allZ m := by
 have h := sum_le (n := m.length) (f := fun _ => 1) (g := fun i => rowZ m i) (fun i hi => by
  have := (g.2.1.row hi).1
  have := g.2.2.1 i hi
  omega)
 have : ∀ n : Nat, sumZ n (fun _ => (1 : Int)) = n := fun n => by {
 induction n with
 | zero => rfl
 | succ n ih => rw [sumZ, ih]; omega}
 rw [this] at h
 exact h
theorem isMat.en_all {m : List (List Int)} (g : isMat m) {i j : Nat} (hi : i < m.length) (hj : j < m.length) : en m i j ≤ allZ m := by
 have h1 := sumZ_term (n := m.length) (f := fun j => en m i j) (fun j hj => g.2.1.nn hi hj) hj
 have h2 := sumZ_term (n := m.length) (f := fun i => rowZ m i) (fun i hi => (g.2.1.row hi).1) hi
 unfold allZ rowZ at *
 omega
theorem sum_ne {n : Nat} {f : Nat → Int} (h : ∀ i, i < n → 0 ≤ f i) {a : Nat} (ha : a < n) (hne : f a ≠ 0) : sumZ n f ≠ 0 := fun e => hne ((sumZ_zero h).1 e a ha)
theorem inc_len (m : List (List Int)) (x : Nat) : (gD.inc m x).length = m.length := by rw [gD.inc, List.length_set]
theorem inc_row (m : List (List Int)) (x : Nat) (hx : x < m.length) (i : Nat) : ((gD.inc m x).getD i []).length = (m.getD i []).length := by
 rw [gD.inc, getD_setG _ _ _ _ _ hx]
 by_cases e : i = x
 · rw [if_pos e, List.length_set, e]
 · rw [if_neg e]
theorem inc_en (m : List (List Int)) (h : Cells m) (x : Nat) (hx : x < m.length) (i j : Nat) : en (gD.inc m x) i j = en m i j + if i = x ∧ j = m.length - 1 then 1 else 0 := by
 have hl := (h x hx).1
 have hb := (h x hx).2 (m.length - 1) (by omega)
 rw [en, gD.inc, getD_setG _ _ _ _ _ hx]
 by_cases e : i = x
 · {
 rw [if_pos e, getD_setG _ _ _ _ _ (by omega)]
 by_cases e2 : j = m.length - 1
 · rw [if_pos e2, if_pos ⟨e, e2⟩, wrap_small (by simp only [en] at hb; omega) (by simp only [en] at hb; omega), e, e2]; rfl
 · rw [if_neg e2, if_neg (fun h => e2 h.2), e, Int.add_zero]; rfl}
 · rw [if_neg e, if_neg (fun h => e h.1), Int.add_zero]; rfl
theorem inc_isMat (m : List (List Int)) (g : isMat m) (hz : allZ m ≤ 11) (x : Nat) (hx : x < m.length) :
    isMat (gD.inc m x) ∧ allZ (gD.inc m x) = allZ m + 1 ∧ ∀ i, i < m.length → rowZ (gD.inc m x) i = rowZ m i + if i = x then 1 else 0 := by
 have hlen := inc_len m x
 have hE := inc_en m g.2.1 x hx
 have hrow : ∀ i, i < m.length → rowZ (gD.inc m x) i = rowZ m i + if i = x then 1 else 0 := fun i hi => by {
 have e1 : rowZ (gD.inc m x) i = sumZ m.length (fun j => en m i j + if i = x ∧ j = m.length - 1 then 1 else 0) := by unfold rowZ; rw [hlen]; exact sumZ_congr (fun j _ => hE i j)
 rw [e1, sumZ_add]
 congr 1
 by_cases e : i = x
 · {
 rw [if_pos e]
 rw [sumZ_congr (g := fun j => if j = m.length - 1 then 1 else 0) (fun j _ => by by_cases c : j = m.length - 1 <;> simp [e, c])]
 exact sum_ind _ _ (by omega) 1}
 · {
 rw [if_neg e]
 exact (sumZ_zero (fun j _ => by rw [if_neg (fun h => e h.1)]; exact Int.le_refl _)).2 (fun j _ => by rw [if_neg (fun h => e h.1)])}}
 have hall : allZ (gD.inc m x) = allZ m + 1 := by {
 have e1 : allZ (gD.inc m x) = sumZ m.length (fun i => rowZ m i + if i = x then 1 else 0) := by unfold allZ; rw [hlen]; exact sumZ_congr (fun i hi => hrow i hi)
 rw [e1, sumZ_add, sum_ind _ _ hx 1]; rfl}
 have hnn : ∀ i j, i < m.length → j < m.length → 0 ≤ en (gD.inc m x) i j := fun i j hi hj => by {
 have := g.2.1.nn hi hj
 rw [hE]; split <;> omega}
 refine ⟨⟨by rw [hlen]; exact g.1, fun i hi => ?_, fun i hi => ?_, fun j hj => ?_, by omega⟩, hall, hrow⟩
 · {
 rw [hlen] at hi
 refine ⟨by rw [inc_row m x hx, hlen]; exact (g.2.1 i hi).1, fun j hj => ?_⟩
 rw [hlen] at hj
 have h1 := (g.2.1 i hi).2 j hj
 have h2 := g.en_all hi hj
 refine ⟨hnn i j hi hj, by rw [hE]; split <;> omega, fun hji => ?_⟩
 rw [hE, h1.2.2 hji, if_neg (fun h => by omega)]; rfl}
 · {
 rw [hlen] at hi
 have := (g.2.1.row hi).1
 have := g.2.2.1 i hi
 rw [hrow i hi]; split <;> omega}
 · {
 rw [hlen] at hj
 obtain ⟨i, hi, hne⟩ := g.shk.2.2.2 j hj
 have h0 := g.2.1.nn hi hj
 unfold colZ
 rw [hlen]
 exact sum_ne (fun i hi => hnn i j hi hj) hi (by rw [hE]; split <;> omega)}
theorem ins_getD (r : List Int) (x : Nat) (hx : x ≤ r.length) (j : Nat) : (r.insertIdx x 0).getD j 0 = if j = x then 0 else r.getD (dnx x j) 0 := by
 rw [List.getD_eq_getElem?_getD, insGet _ _ _ _ hx]
 by_cases c : j < x
 · rw [if_pos c, if_neg (by omega), dnx_lt c, List.getD_eq_getElem?_getD]
 · {
 rw [if_neg c]
 by_cases c2 : j = x
 · rw [if_pos c2, if_pos c2]; rfl
 · rw [if_neg c2, if_neg c2, dnx_ge (by omega), List.getD_eq_getElem?_getD]}
def wEn (m : List (List Int)) (x i j : Nat) : Int := if i = x then (if j = m.length then 1 else 0) else if i < x ∧ x < m.length then (if j = m.length then 0 else if j = x then en m i (m.length - 1) else en m i (dnx x j)) else if j = x then 0 else en m (dnx x i) (dnx x j)
theorem gRow_en (m : List (List Int)) (h : Cells m) (x : Nat) (hx : x ≤ m.length) (i j : Nat) (hi : i ≤ m.length) (hj : j ≤ m.length) : (gRow m x m.length i).getD j 0 = wEn m x i j := by
 unfold gRow wEn
 by_cases e : i = x
 · {
 rw [if_pos e, if_pos e, getD_setG _ _ _ _ _ (by simp)]
 by_cases c : j = m.length
 · rw [if_pos c, if_pos c]
 · rw [if_neg c, if_neg c, List.getD_eq_getElem?_getD, List.getElem?_replicate, if_pos (by omega)]; rfl}
 · {
 rw [if_neg e, if_neg e]
 by_cases c : x < i
 · {
 have hl := (h (i - 1) (by omega)).1
 rw [if_pos c, if_neg (by omega), ins_getD _ _ (by omega), dnx_ge (show x ≤ i by omega)]; rfl}
 · {
 have hil : i < m.length := by omega
 have hl := (h i hil).1
 rw [if_neg c]
 by_cases c2 : x < m.length
 · {
 rw [if_pos c2, if_pos ⟨by omega, c2⟩, gD.fix]
 have hl2 : ((m.getD i []).insertIdx x 0).length = m.length + 1 := by rw [List.length_insertIdx, if_pos (by omega), hl]
 rw [getD_setG _ _ _ _ _ (by rw [List.length_set]; omega), getD_setG _ _ _ _ _ (by omega), ins_getD _ _ (by omega), ins_getD _ _ (by omega)]
 by_cases c3 : j = m.length
 · rw [if_pos c3, if_pos c3]
 · {
 rw [if_neg c3, if_neg c3]
 by_cases c4 : j = x
 · rw [if_pos c4, if_pos c4, if_neg (by omega), dnx_ge (by omega)]; rfl
 · rw [if_neg c4, if_neg c4, if_neg c4]; rfl}}
 · rw [if_neg c2, if_neg (fun h => c2 h.2), ins_getD _ _ (by omega), dnx_lt (show i < x by omega)]; rfl}}
theorem wide_isMat (m : List (List Int)) (g : isMat m) (hz : allZ m ≤ 11) (x : Nat) (hx : x ≤ m.length) (ht : ¬ (x : Int) ≤ topI m) :
    (growM m x).length = m.length + 1 ∧ (∀ i j, i ≤ m.length → j ≤ m.length → en (growM m x) i j = wEn m x i j) ∧ isMat (growM m x) ∧ allZ (growM m x) = allZ m + 1 ∧ ∀ i, i ≤ m.length → rowZ (growM m x) i = if i = x then 1 else rowZ m (dnx x i) := by
 have hG : growM m x = (List.range (m.length + 1)).map (gRow m x m.length) := by rw [growM, if_neg ht]
 have hlen : (growM m x).length = m.length + 1 := by rw [hG]; simp
 have hgr : ∀ i, i ≤ m.length → (growM m x).getD i [] = gRow m x m.length i := fun i hi => by rw [hG, getD_map_range _ _ (by omega)]
 have hE : ∀ i j, i ≤ m.length → j ≤ m.length → en (growM m x) i j = wEn m x i j := fun i j hi hj => by rw [en, hgr i hi, gRow_en m g.2.1 x hx i j hi hj]
 have hd11 := g.le_all
 have hrow : ∀ i, i ≤ m.length → rowZ (growM m x) i = if i = x then 1 else rowZ m (dnx x i) := fun i hi => by {
 have e1 : rowZ (growM m x) i = sumZ (m.length + 1) (fun j => wEn m x i j) := by unfold rowZ; rw [hlen]; exact sumZ_congr (fun j hj => hE i j hi (by omega))
 rw [e1]
 unfold wEn
 by_cases e : i = x
 · simp only [if_pos e]; exact sum_ind _ _ (by omega) 1
 · {
 simp only [if_neg e]
 by_cases c : i < x ∧ x < m.length
 · {
 simp only [if_pos c]
 rw [sumZ, if_pos rfl, Int.add_zero, dnx_lt c.1]
 rw [sumZ_congr (g := fun j => if j = x then en m i (m.length - 1) else en m i (dnx x j)) (fun j hj => by rw [if_neg (by omega)])]
 have h1 := sum_ins (m.length - 1) x (by omega) (en m i (m.length - 1)) (fun j => en m i j)
 have h2 : rowZ m i = sumZ (m.length - 1) (fun j => en m i j) + en m i (m.length - 1) := by {
 unfold rowZ
 obtain ⟨d, hd⟩ : ∃ d, m.length = d + 1 := ⟨m.length - 1, by omega⟩
 rw [hd]; rfl}
 rw [show m.length - 1 + 1 = m.length from by omega] at h1
 rw [h1, h2]}
 · {
 simp only [if_neg c]
 have h1 := sum_ins m.length x hx 0 (fun j => en m (dnx x i) j)
 rw [h1, Int.add_zero]; rfl}}}
 have hall : allZ (growM m x) = allZ m + 1 := by {
 have e1 : allZ (growM m x) = sumZ (m.length + 1) (fun i => if i = x then 1 else rowZ m (dnx x i)) := by unfold allZ; rw [hlen]; exact sumZ_congr (fun i hi => hrow i (by omega))
 rw [e1, sum_ins m.length x hx 1 (fun i => rowZ m i)]; rfl}
 have hdi : ∀ i, i ≤ m.length → i ≠ x → dnx x i < m.length := fun i hi hne => by unfold dnx; split <;> omega
 have hsrc : ∀ i j, i ≤ m.length → j ≤ m.length → (0 ≤ wEn m x i j ∧ wEn m x i j ≤ 12) ∧ (j < i → wEn m x i j = 0) := fun i j hi hj => by {
 unfold wEn
 by_cases e : i = x
 · {
 rw [if_pos e]
 refine ⟨by split <;> omega, fun hji => by rw [if_neg (by omega)]⟩}
 · {
 rw [if_neg e]
 by_cases c : i < x ∧ x < m.length
 · {
 rw [if_pos c]
 by_cases c2 : j = m.length
 · rw [if_pos c2]; exact ⟨by omega, fun _ => rfl⟩
 · {
 rw [if_neg c2]
 by_cases c3 : j = x
 · {
 rw [if_pos c3]
 have h1 := (g.2.1 i (by omega)).2 (m.length - 1) (by omega)
 exact ⟨⟨h1.1, h1.2.1⟩, fun h => by omega⟩}
 · {
 rw [if_neg c3]
 have h1 := (g.2.1 i (by omega)).2 (dnx x j) (hdi j hj c3)
 exact ⟨⟨h1.1, h1.2.1⟩, fun h => h1.2.2 (by rw [dnx_lt (by omega)]; exact h)⟩}}}
 · {
 rw [if_neg c]
 by_cases c3 : j = x
 · rw [if_pos c3]; exact ⟨by omega, fun _ => rfl⟩
 · {
 rw [if_neg c3]
 have h1 := (g.2.1 (dnx x i) (hdi i hi e)).2 (dnx x j) (hdi j hj c3)
 exact ⟨⟨h1.1, h1.2.1⟩, fun h => h1.2.2 (by unfold dnx; split <;> split <;> omega)⟩}}}}
 refine ⟨hlen, hE, ⟨by rw [hlen]; omega, fun i hi => ?_, fun i hi => ?_, fun j hj => ?_, by omega⟩, hall, hrow⟩
 · {
 rw [hlen] at hi
 refine ⟨by rw [hgr i (by omega), hlen]; exact gRow_len m g.2.1.bd.sq x hx i (by omega), fun j hj => ?_⟩
 rw [hlen] at hj
 rw [hE i j (by omega) (by omega)]
 have := hsrc i j (by omega) (by omega)
 exact ⟨this.1.1, this.1.2, this.2⟩}
 · {
 rw [hlen] at hi
 rw [hrow i (by omega)]
 by_cases e : i = x
 · rw [if_pos e]; decide
 · rw [if_neg e]; exact g.2.2.1 _ (hdi i (by omega) e)}
 · {
 rw [hlen] at hj
 unfold colZ
 rw [hlen]
 have hnn : ∀ i, i < m.length + 1 → 0 ≤ en (growM m x) i j := fun i hi => by rw [hE i j (by omega) (by omega)]; exact (hsrc i j (by omega) (by omega)).1.1
 by_cases c : j = m.length
 · {
 refine sum_ne hnn (show x < m.length + 1 by omega) ?_
 rw [hE x j hx (by omega), wEn, if_pos rfl, if_pos c]; decide}
 · {
 by_cases c2 : j = x
 · {
 have hp : 0 < m.length := by omega
 have htn := topI_nn m g.shk hp
 obtain ⟨t, ht1⟩ : ∃ t : Nat, topI m = (t : Int) := ⟨(topI m).toNat, by omega⟩
 have hit := seekTop_hit m m.length 0 t ht1
 refine sum_ne hnn (show t < m.length + 1 by omega) ?_
 rw [hE t j (by omega) (by omega), wEn, if_neg (by omega), if_pos ⟨by omega, by omega⟩, if_neg c, if_pos c2]; exact hit}
 · {
 obtain ⟨i, hi, hne⟩ := g.shk.2.2.2 (dnx x j) (hdi j (by omega) c2)
 by_cases c3 : i < x
 · {
 refine sum_ne hnn (show i < m.length + 1 by omega) ?_
 rw [hE i j (by omega) (by omega), wEn, if_neg (by omega)]
 by_cases c4 : x < m.length
 · rw [if_pos ⟨c3, c4⟩, if_neg c, if_neg c2]; exact hne
 · rw [if_neg (fun h => c4 h.2), if_neg c2, dnx_lt c3]; exact hne}
 · {
 refine sum_ne hnn (show i + 1 < m.length + 1 by omega) ?_
 rw [hE (i + 1) j (by omega) (by omega), wEn, if_neg (by omega), if_neg (by omega), if_neg c2, dnx_ge (by omega)]; exact hne}}}}
theorem grow_isMat (m : List (List Int)) (g : isMat m) (hz : allZ m ≤ 11) (x : Nat) (hx : x ≤ m.length) :
    isMat (growM m x) ∧ allZ (growM m x) = allZ m + 1 ∧ topI (growM m x) = (x : Int) ∧ (growM m x).length = (if (x : Int) ≤ topI m then m.length else m.length + 1) ∧ rowZ (growM m x) 0 = (if m.length = 0 then 0 else rowZ m 0) + if x = 0 then 1 else 0 := by
 have hd := g.1
 obtain ⟨_, i2, i3⟩ := grow_inv m 12 (by decide) (by decide) g.2.1.bd (by omega) x hx
 have ht := topI_lt m
 by_cases c : (x : Int) ≤ topI m
 · {
 obtain ⟨h1, h2, h3⟩ := inc_isMat m g hz x (by omega)
 have e : growM m x = gD.inc m x := by rw [growM, if_pos c]
 refine ⟨by rw [e]; exact h1, by rw [e]; exact h2, i2, i3, ?_⟩
 have hne : m.length ≠ 0 := by omega
 rw [e, h3 0 (by omega), if_neg hne]
 congr 1
 by_cases c2 : x = 0
 · rw [if_pos c2.symm, if_pos c2]
 · rw [if_neg (fun h => c2 h.symm), if_neg c2]}
 · {
 obtain ⟨_, _, h1, h2, h3⟩ := wide_isMat m g hz x hx c
 refine ⟨h1, h2, i2, i3, ?_⟩
 rw [h3 0 (by omega)]
 by_cases c2 : x = 0
 · {
 rw [if_pos c2.symm, if_pos c2]
 have : m.length = 0 := by {
 apply Classical.byContradiction; intro hne
 have := topI_nn m g.shk (by omega)
 omega}
 rw [if_pos this]; rfl}
 · rw [if_neg (fun h => c2 h.symm), if_neg c2, dnx_lt (by omega), if_neg (by omega), Int.add_zero]}
theorem shrink_grow (m : List (List Int)) (g : isMat m) (hz : allZ m ≤ 11) (x : Nat) (hx : x ≤ m.length) : shrinkM (growM m x) = (m, (x : Int)) := by
 obtain ⟨k1, k2, k3, k4, _⟩ := grow_isMat m g hz x hx
 have ht := topI_lt m
 rw [shrinkM, k3, Int.toNat_natCast]
 by_cases c : (x : Int) ≤ topI m
 · {
 have hxl : x < m.length := by omega
 obtain ⟨h1, h2, h3⟩ := inc_isMat m g hz x hxl
 have e : growM m x = gD.inc m x := by rw [growM, if_pos c]
 have hr0 := (g.2.1.row hxl).1
 have hr1 := g.2.2.1 x hxl
 rw [e, h3 x hxl, if_pos rfl, if_pos (by omega)]
 congr 1
 have hl := inc_len m x
 refine mat_ext (by rw [dec_len, hl]) (fun i hi => ?_) (fun i j hi hj => ?_)
 · {
 rw [impl_Matrix_shrunk.dec, getD_setG _ _ _ _ _ (by omega)]
 by_cases e2 : i = x
 · rw [if_pos e2, List.length_set, inc_row m x hxl, e2]
 · rw [if_neg e2, inc_row m x hxl]}
 · {
 rw [dec_en _ h1.2.1 x (by omega), hl, inc_en m g.2.1 x hxl, inc_en m g.2.1 x hxl, if_pos (show x = x ∧ m.length - 1 = m.length - 1 from ⟨rfl, rfl⟩)]
 by_cases e2 : i = x ∧ j = m.length - 1
 · rw [if_pos e2, e2.1, e2.2]; omega
 · rw [if_neg e2, if_neg e2]; omega}}
 · {
 obtain ⟨h0, hE, h1, h2, h3⟩ := wide_isMat m g hz x hx c
 rw [h3 x hx, if_pos rfl, if_neg (by decide)]
 congr 1
 have hll := less_len (growM m x) x (by omega)
 refine mat_ext (by rw [hll, h0]; rfl) (fun i hi => ?_) (fun i j hi hj => ?_)
 · {
 rw [hll, h0] at hi
 rw [less_row _ x (by omega) i (by rw [h0]; exact hi), List.length_eraseIdx, if_pos (by rw [sRow_len _ h1.2.1 x _ (by rw [h0]; unfold upx; split <;> omega)]; omega), sRow_len _ h1.2.1 x _ (by rw [h0]; unfold upx; split <;> omega), h0, (g.2.1 i (by omega)).1]; rfl}
 · {
 rw [hll, h0] at hi
 have hjl : j < m.length := by {
 rw [less_row _ x (by omega) i (by rw [h0]; exact hi), List.length_eraseIdx, if_pos (by rw [sRow_len _ h1.2.1 x _ (by rw [h0]; unfold upx; split <;> omega)]; omega), sRow_len _ h1.2.1 x _ (by rw [h0]; unfold upx; split <;> omega), h0] at hj
 exact hj}
 rw [less_en _ h1.2.1 x (by omega) i (by rw [h0]; exact hi), lessE, h0, show m.length + 1 - 1 = m.length from rfl]
 have hui : upx x i ≤ m.length := by unfold upx; split <;> omega
 have huj : upx x j ≤ m.length := by unfold upx; split <;> omega
 have hdi : dnx x (upx x i) = i := dnx_upx x i
 have hdj : dnx x (upx x j) = j := dnx_upx x j
 have hnx : ∀ k, upx x k ≠ x := fun k => by unfold upx; split <;> omega
 by_cases c1 : upx x i < x ∧ x < m.length ∧ upx x j = m.length
 · {
 have ej : j = m.length - 1 := by rw [← hdj, c1.2.2, dnx_ge (by omega)]
 have ei : upx x i = i := by {
 have := c1.1
 unfold upx at this ⊢; split at this <;> split <;> omega}
 rw [if_pos c1, hE _ _ hui hx, wEn, if_neg (hnx i), if_pos ⟨c1.1, c1.2.1⟩, if_neg (by omega), if_pos rfl, ei, ej]}
 · {
 rw [if_neg c1, hE _ _ hui huj, wEn, if_neg (hnx i)]
 by_cases c2 : upx x i < x ∧ x < m.length
 · {
 have ei : upx x i = i := by {
 have := c2.1
 unfold upx at this ⊢; split at this <;> split <;> omega}
 rw [if_pos c2, if_neg (fun h => c1 ⟨c2.1, c2.2, h⟩), if_neg (hnx j), hdj, ei]}
 · rw [if_neg c2, if_neg (hnx j), hdi, hdj]}}}
def matF (d : Nat) (f : Nat → Nat → Int) : List (List Int) := (List.range d).map fun (i : Nat) => (List.range d).map fun (j : Nat) => f i j
theorem matF_length (d : Nat) (f : Nat → Nat → Int) : (matF d f).length = d := by simp [matF]
theorem matF_row (d : Nat) (f : Nat → Nat → Int) {i : Nat} (h : i < d) : (matF d f).getD i [] = (List.range d).map fun (j : Nat) => f i j := by
 rw [getD_lt _ _ _ (by simpa [matF] using h)]; simp [matF]
theorem matF_congr (d : Nat) {f g : Nat → Nat → Int} (h : ∀ i, i < d → ∀ j, j < d → f i j = g i j) : matF d f = matF d g := by
 unfold matF
 apply List.map_congr_left; intro i hi
 apply List.map_congr_left; intro j hj
 exact h i (by simpa using hi) j (by simpa using hj)
theorem matF_set (d : Nat) (f g : Nat → Nat → Int) (a b : Nat) (ha : a < d) (hb : b < d) (h : ∀ i, i < d → ∀ j, j < d → ¬ (i = a ∧ j = b) → g i j = f i j) :
    (matF d f).set a (((matF d f).getD a []).set b (g a b)) = matF d g := by
 apply List.ext_getElem (by simp [matF])
 intro i h1 h2
 have hi : i < d := by simpa [matF] using h1
 by_cases e : i = a
 · {
 subst e
 rw [List.getElem_set_self, matF_row _ _ hi]
 simp only [matF, List.getElem_map, List.getElem_range]
 apply List.ext_getElem (by simp)
 intro j h3 h4
 rw [List.length_set, List.length_map, List.length_range] at h3
 by_cases ej : j = b
 · subst ej; simp
 · rw [List.getElem_set_ne (fun x => ej x.symm)]; simp [h i hi j h3 (fun q => ej q.2)]}
 · {
 rw [List.getElem_set_ne (fun x => e x.symm)]
 simp only [matF, List.getElem_map, List.getElem_range]
 apply List.map_congr_left; intro j hj
 exact (h i hi j (by simpa using hj) (fun q => e q.1)).symm}
def elems (n : Nat) : List Int := ((List.range 10).filter fun (i : Nat) => n.testBit i).map fun (i : Nat) => (i : Int)
theorem mem_all : (List.range 1024).all (fun n => decide (impl_members.mem (n + 1) n = elems n)) = true := by decide +kernel
theorem mem_elems (n : Nat) (h : n < 1024) : impl_members.mem (n + 1) n = elems n := of_decide_eq_true (List.all_eq_true.1 mem_all n (List.mem_range.2 h))
theorem members_eq (n : Nat) (h : n < 1024) : impl_members.f (n : Int) = some (elems n) := by
 unfold impl_members.f
 rw [if_pos ⟨by omega, by omega⟩, Int.toNat_natCast, mem_elems n h]
theorem elems_mem (n : Nat) (x : Int) : x ∈ elems n ↔ ∃ i : Nat, i < 10 ∧ n.testBit i = true ∧ x = (i : Int) := by
 unfold elems
 simp only [List.mem_map, List.mem_filter, List.mem_range]
 constructor
 · rintro ⟨i, ⟨h1, h2⟩, rfl⟩; exact ⟨i, h1, h2, rfl⟩
 · rintro ⟨i, h1, h2, rfl⟩; exact ⟨i, ⟨h1, h2⟩, rfl⟩
theorem better_all : (List.range 1024).all (fun n => (List.range 10).all fun i => decide (((Go.bits .and .i64 (shr .i64 (n : Int) (i : Int)) 1) == 1) = n.testBit i)) = true := by decide +kernel
theorem better_bit (n i : Nat) (h : n < 1024) (hi : i < 10) : ((Go.bits .and .i64 (shr .i64 (n : Int) (i : Int)) 1) == 1) = n.testBit i := of_decide_eq_true (List.all_eq_true.1 (List.all_eq_true.1 better_all n (List.mem_range.2 h)) i (List.mem_range.2 hi))
def setOf (p : Nat → Bool) : Nat → Nat
  | 0 => 0
  | j + 1 => if p j = true then setOf p j + 2 ^ j else setOf p j
theorem setOf_lt (p : Nat → Bool) : ∀ n, setOf p n < 2 ^ n
  | 0 => by simp [setOf]
  | n + 1 => by
    have := setOf_lt p n
    rw [setOf, Nat.pow_succ]
    split <;> omega
theorem setOf_bit (p : Nat → Bool) : ∀ n i, (setOf p n).testBit i = (decide (i < n) && p i)
  | 0, i => by simp [setOf]
  | n + 1, i => by
    have hl := setOf_lt p n
    have ih := setOf_bit p n
    rw [setOf]
    by_cases c : p n = true
    · rw [if_pos c, Nat.add_comm]
      by_cases e : i = n
      · subst e
        rw [Nat.testBit_two_pow_add_eq, ih]
        simp [c]
      · by_cases e2 : i < n
        · rw [Nat.testBit_two_pow_add_gt e2, ih]
          simp [e2, Nat.lt_succ_of_lt e2]
        · have h1 : 2 ^ n + setOf p n < 2 ^ i := by
            have : 2 ^ (n + 1) ≤ 2 ^ i := Nat.pow_le_pow_right (by decide) (by omega)
            rw [Nat.pow_succ] at this
            omega
          rw [Nat.testBit_lt_two_pow h1]
          simp; intro h; omega
    · rw [if_neg c, ih]
      by_cases e : i = n
      · subst e; simp at c; simp [c]
      · have : (i < n + 1) = (i < n) := by apply propext; omega
        simp only [this]
theorem or_all : (List.range 10).all (fun j => (List.range (2 ^ j)).all fun s => decide (Go.bits .or .i64 (s : Int) (shl .i64 1 (j : Int)) = ((s + 2 ^ j : Nat) : Int))) = true := by decide +kernel
theorem or_bit (s j : Nat) (hj : j < 10) (hs : s < 2 ^ j) : Go.bits .or .i64 (s : Int) (shl .i64 1 (j : Int)) = ((s + 2 ^ j : Nat) : Int) := of_decide_eq_true (List.all_eq_true.1 (List.all_eq_true.1 or_all j (List.mem_range.2 hj)) s (List.mem_range.2 hs))
theorem relRow_set (p : Nat → Nat → Bool) (i : Nat) : ∀ n, n ≤ 10 → impl_Order_mirror.rel.relRow p i n = (setOf (p i) n : Int)
  | 0, _ => rfl
  | n + 1, h => by
    rw [impl_Order_mirror.rel.relRow, setOf, relRow_set p i n (by omega)]
    by_cases c : p i n = true
    · rw [if_pos c, if_pos c, or_bit _ n (by omega) (setOf_lt _ _)]
    · rw [if_neg c, if_neg c]
theorem setOf_congr {p q : Nat → Bool} : ∀ n, (∀ j, j < n → p j = q j) → setOf p n = setOf q n
  | 0, _ => rfl
  | n + 1, h => by rw [setOf, setOf, setOf_congr n (fun j hj => h j (by omega)), h n (by omega)]
def Rel (l : List Int) : Prop := l.length ≤ 10 ∧ ∀ x ∈ l, 0 ≤ x ∧ x < 2 ^ l.length
def ab (l : List Int) (i : Nat) : Nat := (l.getD i 0).toNat
def bel (l : List Int) (j : Nat) : Nat := setOf (fun i => (ab l i).testBit j) l.length
theorem Rel.ab_lt {l : List Int} (h : Rel l) (i : Nat) : ab l i < 1024 := by
 unfold ab
 by_cases c : i < l.length
 · {
 have h1 := h.2 (l.getD i 0) (by rw [List.getD_eq_getElem?_getD, List.getElem?_eq_getElem c]; exact List.getElem_mem _)
 have h2 : (2 : Int) ^ l.length ≤ 2 ^ 10 := by {
 have := Nat.pow_le_pow_right (n := 2) (by decide) h.1
 exact_mod_cast this}
 omega}
 · rw [List.getD_eq_getElem?_getD, List.getElem?_eq_none (by omega)]; decide
theorem Rel.get {l : List Int} (h : Rel l) (i : Nat) : l.getD i 0 = (ab l i : Int) := by
 unfold ab
 by_cases c : i < l.length
 · {
 have h1 := h.2 (l.getD i 0) (by rw [List.getD_eq_getElem?_getD, List.getElem?_eq_getElem c]; exact List.getElem_mem _)
 omega}
 · rw [List.getD_eq_getElem?_getD, List.getElem?_eq_none (by omega)]; rfl
theorem mirror_eq {l : List Int} (h : Rel l) : impl_Order_mirror.f (l.length : Int) l = some ((l.length : Int), (List.range l.length).map fun j => (bel l j : Int)) := by
 unfold impl_Order_mirror.f
 have hl := h.1
 rw [if_pos ⟨by omega, by omega, rfl⟩]
 have : (List.range l.length).map (fun a => impl_Order_mirror.rel.relRow (impl_Order_mirror.before l) a l.length) = (List.range l.length).map fun j => (bel l j : Int) := by {
 apply List.map_congr_left
 intro j hj
 have hj' := List.mem_range.1 hj
 rw [relRow_set _ _ _ hl]
 unfold bel
 rw [setOf_congr (p := impl_Order_mirror.before l j) (q := fun i => (ab l i).testBit j) l.length (fun i hi => by
  unfold impl_Order_mirror.before
  have e : rd l (i : Int) = (ab l i : Int) := by rw [← h.get i]; rfl
  rw [e]
  exact better_bit _ _ (h.ab_lt i) (by omega))]}
 rw [this]
theorem rd_getD (l : List Int) (i : Nat) : rd l (i : Int) = l.getD i 0 := rfl
theorem andNot_zero (a b : Nat) (ha : a < 1024) (hb : b < 1024) : Go.bits .andNot .i64 (a : Int) (b : Int) = 0 ↔ ∀ i, i < 10 → a.testBit i = true → b.testBit i = true := by
 have h1 : (BitVec.ofInt 64 (a : Int)).toNat = a := by rw [BitVec.ofInt_natCast, BitVec.toNat_ofNat]; exact Nat.mod_eq_of_lt (by omega)
 have h2 : (BitVec.ofInt 64 (b : Int)).toNat = b := by rw [BitVec.ofInt_natCast, BitVec.toNat_ofNat]; exact Nat.mod_eq_of_lt (by omega)
 have hv : Go.bits .andNot .i64 (a : Int) (b : Int) = ((BitVec.ofInt 64 (a : Int) &&& ~~~BitVec.ofInt 64 (b : Int)).toNat : Int) := by {
 show IntKind.i64.wrap ((BitVec.ofInt 64 (a : Int) &&& ~~~BitVec.ofInt 64 (b : Int)).toNat : Int) = _
 have hle : (BitVec.ofInt 64 (a : Int) &&& ~~~BitVec.ofInt 64 (b : Int)).toNat ≤ a := by rw [BitVec.toNat_and, h1]; exact Nat.and_le_left
 rw [i64_w]
 exact wrap_small (by omega) (by omega)}
 have hbit : ∀ i, (BitVec.ofInt 64 (a : Int) &&& ~~~BitVec.ofInt 64 (b : Int)).toNat.testBit i = (a.testBit i && (decide (i < 64) && !b.testBit i)) := fun i => by rw [BitVec.testBit_toNat, BitVec.getLsbD_and, BitVec.getLsbD_not, ← BitVec.testBit_toNat, ← BitVec.testBit_toNat, h1, h2]
 rw [hv]
 constructor
 · {
 intro h0 i hi ha1
 have hz : (BitVec.ofInt 64 (a : Int) &&& ~~~BitVec.ofInt 64 (b : Int)).toNat = 0 := by omega
 have hq := hbit i
 rw [hz, Nat.zero_testBit, ha1, decide_eq_true (by omega : i < 64)] at hq
 simpa using hq.symm}
 · {
 intro h0
 have hz : (BitVec.ofInt 64 (a : Int) &&& ~~~BitVec.ofInt 64 (b : Int)).toNat = 0 := by {
 apply Nat.eq_of_testBit_eq
 intro i
 rw [hbit, Nat.zero_testBit]
 by_cases c : a.testBit i = true
 · {
 by_cases d : i < 10
 · rw [h0 i d c]; simp
 · {
 exfalso
 have : a < 2 ^ i := Nat.lt_of_lt_of_le ha (by have := Nat.pow_le_pow_right (n := 2) (by decide) (show 10 ≤ i by omega); omega)
 rw [Nat.testBit_lt_two_pow this] at c
 exact absurd c (by decide)}}
 · simp at c; rw [c]; rfl}
 omega}
theorem setOf_le {p q : Nat → Bool} : ∀ n, (∀ i, i < n → p i = true → q i = true) → setOf p n ≤ setOf q n
  | 0, _ => Nat.le_refl _
  | n + 1, h => by
    have ih := setOf_le n (fun i hi => h i (by omega))
    rw [setOf, setOf]
    by_cases c : p n = true
    · rw [if_pos c, if_pos (h n (by omega) c)]; omega
    · rw [if_neg c]; split
      · exact Nat.le_trans ih (Nat.le_add_right _ _)
      · exact ih
theorem setOf_inj {p q : Nat → Bool} {n : Nat} (h : setOf p n = setOf q n) : ∀ i, i < n → p i = q i := by
 intro i hi
 have h1 := setOf_bit p n i
 have h2 := setOf_bit q n i
 rw [h, h2, decide_eq_true hi, Bool.true_and, Bool.true_and] at h1
 exact h1.symm
theorem setOf_lt_of {p q : Nat → Bool} {n : Nat} (h : ∀ i, i < n → p i = true → q i = true) {i : Nat} (hi : i < n) (hp : p i = false) (hq : q i = true) : setOf p n < setOf q n := by
 have h1 := setOf_le n h
 have h2 : setOf p n ≠ setOf q n := fun e => by {
 have := setOf_inj e i hi
 rw [hp, hq] at this
 exact absurd this (by decide)}
 omega
theorem setOf_1024 (p : Nat → Bool) {n : Nat} (h : n ≤ 10) : setOf p n < 1024 := by
 have h1 := setOf_lt p n
 have h2 : 2 ^ n ≤ 2 ^ 10 := Nat.pow_le_pow_right (by decide) h
 omega
def sub (a b : Nat) : Prop := ∀ i, i < 10 → a.testBit i = true → b.testBit i = true
theorem setOf_sub {p q : Nat → Bool} {n : Nat} (hn : n ≤ 10) : sub (setOf p n) (setOf q n) ↔ ∀ i, i < n → p i = true → q i = true := by
 constructor
 · {
 intro h i hi hp
 have := h i (by omega) (by rw [setOf_bit, hp, decide_eq_true hi]; rfl)
 rw [setOf_bit] at this
 simp at this
 exact this.2}
 · {
 intro h i hi hp
 rw [setOf_bit] at hp ⊢
 simp at hp ⊢
 exact ⟨hp.1, h i hp.1 hp.2⟩}
structure Comp (l : List Int) (m : Nat) (L R : Nat → Nat) : Prop where
  rel : Rel l
  le : ∀ i, i < l.length → L i ≤ R i
  lt : ∀ i, i < l.length → R i < m
  onL : ∀ t, t < m → ∃ i, i < l.length ∧ L i = t
  onR : ∀ t, t < m → ∃ i, i < l.length ∧ R i = t
  bit : ∀ i j, i < l.length → j < l.length → (ab l i).testBit j = decide (R i < L j)
def upS (n : Nat) (R : Nat → Nat) (t : Nat) : Nat := setOf (fun i => decide (R i < t)) n
section Comp
variable {l : List Int} {m : Nat} {L R : Nat → Nat}
theorem Comp.bel_eq (g : Comp l m L R) {j : Nat} (hj : j < l.length) : bel l j = upS l.length R (L j) := by
 unfold bel upS
 exact setOf_congr _ (fun i hi => g.bit i j hi hj)
theorem Comp.up_lt (g : Comp l m L R) {s t : Nat} (h : s < t) (ht : t ≤ m) : upS l.length R s < upS l.length R t := by
 obtain ⟨i, hi, e⟩ := g.onR s (by omega)
 refine setOf_lt_of (fun j hj h1 => ?_) hi ?_ ?_
 · simp at h1 ⊢; omega
 · simp; omega
 · simp; omega
theorem Comp.up_inj (g : Comp l m L R) {s t : Nat} (hs : s ≤ m) (ht : t ≤ m) : upS l.length R s = upS l.length R t ↔ s = t := by
 constructor
 · {
 intro h
 by_cases c : s < t
 · have := g.up_lt c ht; omega
 · {
 by_cases c2 : t < s
 · have := g.up_lt c2 hs; omega
 · omega}}
 · intro h; rw [h]
theorem Comp.up_sub (g : Comp l m L R) {s t : Nat} (hs : s ≤ m) (ht : t ≤ m) : sub (upS l.length R s) (upS l.length R t) ↔ s ≤ t := by
 unfold upS
 rw [setOf_sub g.rel.1]
 constructor
 · {
 intro h
 by_cases c : s ≤ t
 · exact c
 · {
 obtain ⟨i, hi, e⟩ := g.onR t (by omega)
 have := h i hi (by simp; omega)
 simp at this
 omega}}
 · {
 intro h i hi h1
 simp at h1 ⊢; omega}
theorem Comp.Llt (g : Comp l m L R) {j : Nat} (hj : j < l.length) : L j < m := by have := g.le j hj; have := g.lt j hj; omega
end Comp
theorem rise_unique : ∀ {a b : List Int}, a.Pairwise (· < ·) → b.Pairwise (· < ·) → (∀ x, x ∈ a ↔ x ∈ b) → a = b
  | [], [], _, _, _ => rfl
  | [], y :: b, _, _, h => absurd ((h y).2 (List.mem_cons_self ..)) (by simp)
  | x :: a, [], _, _, h => absurd ((h x).1 (List.mem_cons_self ..)) (by simp)
  | x :: a, y :: b, ha, hb, h => by
    rw [List.pairwise_cons] at ha hb
    have e : x = y := by
      rcases List.mem_cons.1 ((h x).1 (List.mem_cons_self ..)) with e | hx
      · exact e
      · rcases List.mem_cons.1 ((h y).2 (List.mem_cons_self ..)) with e | hy
        · exact e.symm
        · have h1 := hb.1 x hx; have h2 := ha.1 y hy; omega
    subst e
    congr 1
    refine rise_unique ha.2 hb.2 (fun z => ?_)
    have hz := h z
    rw [List.mem_cons, List.mem_cons] at hz
    constructor
    · intro hz1
      have h1 := ha.1 z hz1
      rcases hz.1 (.inr hz1) with e | h2
      · omega
      · exact h2
    · intro hz1
      have h1 := hb.1 z hz1
      rcases hz.2 (.inr hz1) with e | h2
      · omega
      · exact h2
def lowL (l : List Int) : List Int := (List.range l.length).map fun j => (bel l j : Int)
def setsL (n m : Nat) (R : Nat → Nat) : List Int := (List.range m).map fun t => (upS n R t : Int)
theorem Comp.sets_rise {l : List Int} {m : Nat} {L R : Nat → Nat} (g : Comp l m L R) : (setsL l.length m R).Pairwise (· < ·) := by
 unfold setsL
 rw [List.pairwise_map]
 refine List.Pairwise.imp_of_mem (R := fun a b => a < b) ?_ List.pairwise_lt_range
 intro a b ha hb h
 rw [List.mem_range] at ha hb
 have := g.up_lt h (by omega)
 omega
theorem Comp.sets_mem {l : List Int} {m : Nat} {L R : Nat → Nat} (g : Comp l m L R) (x : Int) : x ∈ setsL l.length m R ↔ x ∈ lowL l := by
 unfold setsL lowL
 rw [List.mem_map, List.mem_map]
 constructor
 · {
 rintro ⟨t, ht, rfl⟩
 obtain ⟨i, hi, e⟩ := g.onL t (List.mem_range.1 ht)
 exact ⟨i, List.mem_range.2 hi, by rw [g.bel_eq hi, e]⟩}
 · {
 rintro ⟨i, hi, rfl⟩
 have hi' := List.mem_range.1 hi
 exact ⟨L i, List.mem_range.2 (g.Llt hi'), by rw [g.bel_eq hi']⟩}
structure IsIv (l : List Int) : Prop where
  rel : Rel l
  irr : ∀ i, i < l.length → (ab l i).testBit i = false
  four : ∀ a b c d, a < l.length → b < l.length → c < l.length → d < l.length → (ab l a).testBit b = true → (ab l c).testBit d = true → (ab l c).testBit b = true ∨ (ab l a).testBit d = true
theorem Comp.isIv {l : List Int} {m : Nat} {L R : Nat → Nat} (g : Comp l m L R) : IsIv l := by
 refine ⟨g.rel, fun i hi => ?_, fun a b c d ha hb hc hd h1 h2 => ?_⟩
 · rw [g.bit i i hi hi]; have := g.le i hi; simp; omega
 · {
 rw [g.bit a b ha hb] at h1
 rw [g.bit c d hc hd] at h2
 rw [g.bit c b hc hb, g.bit a d ha hd]
 simp at h1 h2 ⊢
 omega}
theorem bel_bit {l : List Int} (i j : Nat) (hi : i < l.length) : (bel l j).testBit i = (ab l i).testBit j := by
 unfold bel
 rw [setOf_bit, decide_eq_true hi, Bool.true_and]
def cntM (n : Nat) (L R : Nat → Nat) (a b : Nat) : Int := sumZ n (fun i => if L i = a ∧ R i = b then 1 else 0)
def matO (m n : Nat) (L R : Nat → Nat) : List (List Int) := matF m (cntM n L R)
theorem matF_en (d : Nat) (f : Nat → Nat → Int) {i j : Nat} (hi : i < d) (hj : j < d) : en (matF d f) i j = f i j := by
 unfold en
 rw [matF_row _ _ hi, mapR_getD _ _ hj]
theorem sumZ_one (m r : Nat) (P : Prop) [Decidable P] (h : r < m) : sumZ m (fun b => if P ∧ r = b then 1 else 0) = if P then 1 else 0 := by
 induction m with
 | zero => omega
 | succ m ih => {
 rw [sumZ]
 by_cases e : r = m
 · {
 subst e
 have h0 : sumZ r (fun b => if P ∧ r = b then (1 : Int) else 0) = 0 := by {
 rw [sumZ_zero (fun i _ => by split <;> decide)]
 intro i hi
 rw [if_neg (fun hh => by omega)]}
 rw [h0]
 by_cases c : P
 · rw [if_pos ⟨c, rfl⟩, if_pos c]; rfl
 · rw [if_neg (fun hh => c hh.1), if_neg c]; rfl}
 · {
 have h2 : (if P ∧ r = m then (1 : Int) else 0) = 0 := if_neg (fun hh => e hh.2)
 rw [ih (by omega), h2, Int.add_zero]}}
theorem cnt_row (m n : Nat) (L R : Nat → Nat) (hR : ∀ i, i < n → R i < m) (a : Nat) : sumZ m (fun b => cntM n L R a b) = sumZ n (fun i => if L i = a then 1 else 0) := by
 unfold cntM
 rw [sumZ_swap]
 exact sumZ_congr (fun i hi => sumZ_one m (R i) (L i = a) (hR i hi))
theorem cnt_col (m n : Nat) (L R : Nat → Nat) (hL : ∀ i, i < n → L i < m) (b : Nat) : sumZ m (fun a => cntM n L R a b) = sumZ n (fun i => if R i = b then 1 else 0) := by
 unfold cntM
 rw [sumZ_swap]
 refine sumZ_congr (fun i hi => ?_)
 have := sumZ_one m (L i) (R i = b) (hL i hi)
 rw [← this]
 exact sumZ_congr (fun j _ => by simp only [And.comm])
theorem sumZ_pos {n : Nat} {f : Nat → Int} (h : ∀ i, i < n → 0 ≤ f i) {i : Nat} (hi : i < n) (hp : 0 < f i) : 0 < sumZ n f := by
 have := sumZ_term h hi
 omega
theorem sumZ_const (n : Nat) : sumZ n (fun _ => 1) = (n : Int) := by
 induction n with
 | zero => rfl
 | succ n ih => rw [sumZ, ih]; omega
theorem sumZ_leM {n : Nat} {f g : Nat → Int} (h : ∀ i, i < n → f i ≤ g i) : sumZ n f ≤ sumZ n g := by
 induction n with
 | zero => exact Int.le_refl _
 | succ n ih => {
 have h1 := ih (fun i hi => h i (by omega))
 have h2 := h n (by omega)
 rw [sumZ, sumZ]
 omega}
section
variable {l : List Int} {m : Nat} {L R : Nat → Nat}
theorem ones_nn (n : Nat) (p : Nat → Prop) [DecidablePred p] : ∀ i, i < n → (0 : Int) ≤ (if p i then 1 else 0) := fun i _ => by split <;> decide
theorem Comp.row (g : Comp l m L R) {a : Nat} (ha : a < m) : rowZ (matO m l.length L R) a = sumZ l.length (fun i => if L i = a then 1 else 0) := by
 unfold rowZ
 unfold matO
 rw [matF_length, ← cnt_row m l.length L R (fun i hi => g.lt i hi) a]
 exact sumZ_congr (fun b hb => matF_en _ _ ha hb)
theorem Comp.col (g : Comp l m L R) {b : Nat} (hb : b < m) : colZ (matO m l.length L R) b = sumZ l.length (fun i => if R i = b then 1 else 0) := by
 unfold colZ
 unfold matO
 rw [matF_length, ← cnt_col m l.length L R (fun i hi => g.Llt hi) b]
 exact sumZ_congr (fun a ha => matF_en _ _ ha hb)
theorem Comp.all (g : Comp l m L R) : allZ (matO m l.length L R) = (l.length : Int) := by
 unfold allZ
 rw [show (matO m l.length L R).length = m from matF_length _ _]
 rw [sumZ_congr (g := fun a => sumZ l.length (fun i => if L i = a then 1 else 0)) (fun a ha => g.row ha), sumZ_swap]
 rw [← sumZ_const l.length]
 refine sumZ_congr (fun i hi => ?_)
 have := sumZ_one m (L i) True (g.Llt hi)
 simpa using this
theorem Comp.m_le (g : Comp l m L R) : m ≤ l.length := by
 have h := g.all
 unfold allZ at h
 rw [show (matO m l.length L R).length = m from matF_length _ _] at h
 have h1 : sumZ m (fun _ => 1) ≤ sumZ m (fun i => rowZ (matO m l.length L R) i) := sumZ_leM (fun i hi => by
  obtain ⟨j, hj, e⟩ := g.onL i hi
  rw [g.row hi]
  have := sumZ_pos (ones_nn l.length (fun q => L q = i)) hj (by rw [if_pos e]; decide)
  omega)
 rw [sumZ_const] at h1
 omega
theorem Comp.isMat (g : Comp l m L R) : isMat (matO m l.length L R) := by
 have hm := g.m_le
 have hn := g.rel.1
 have hlen : (matO m l.length L R).length = m := matF_length _ _
 refine ⟨by omega, fun i hi => ⟨?_, fun j hj => ?_⟩, fun i hi => ?_, fun j hj => ?_, ?_⟩
 · {
 rw [hlen] at hi ⊢
 unfold matO
 rw [matF_row _ _ hi]; simp}
 · {
 rw [hlen] at hi hj
 unfold matO
 rw [matF_en _ _ hi hj]
 unfold cntM
 have h1 := sumZ_bound (n := l.length) (f := fun q => if L q = i ∧ R q = j then (1 : Int) else 0) (B := 1) (by decide) (fun q _ => by split <;> decide)
 refine ⟨h1.1, by omega, fun hji => ?_⟩
 rw [sumZ_zero (ones_nn l.length (fun q => L q = i ∧ R q = j))]
 intro q hq
 have := g.le q hq
 rw [if_neg (fun hh => by omega)]}
 · {
 rw [hlen] at hi
 obtain ⟨q, hq, e⟩ := g.onL i hi
 rw [g.row hi]
 have := sumZ_pos (ones_nn l.length (fun q => L q = i)) hq (by rw [if_pos e]; decide)
 omega}
 · {
 rw [hlen] at hj
 obtain ⟨q, hq, e⟩ := g.onR j hj
 rw [g.col hj]
 have := sumZ_pos (ones_nn l.length (fun q => R q = j)) hq (by rw [if_pos e]; decide)
 omega}
 · rw [g.all]; omega
end
theorem lowL_len (l : List Int) : (lowL l).length = l.length := by simp [lowL]
theorem lowL_ab {l : List Int} {j : Nat} (hj : j < l.length) : ab (lowL l) j = bel l j := by
 unfold ab lowL
 rw [getD_lt _ _ _ (by simpa using hj)]
 simp
theorem lowL_rel {l : List Int} (h : l.length ≤ 10) : Rel (lowL l) := by
 refine ⟨by rw [lowL_len]; exact h, fun x hx => ?_⟩
 obtain ⟨j, _, rfl⟩ := List.mem_map.1 hx
 rw [lowL_len]
 have : bel l j < 2 ^ l.length := setOf_lt _ _
 refine ⟨by omega, ?_⟩
 exact_mod_cast this
theorem Comp.mirror {l : List Int} {m : Nat} {L R : Nat → Nat} (g : Comp l m L R) : Comp (lowL l) m (fun i => m - 1 - R i) (fun i => m - 1 - L i) := by
 have hl := lowL_len l
 refine ⟨lowL_rel g.rel.1, fun i hi => ?_, fun i hi => ?_, fun t ht => ?_, fun t ht => ?_, fun i j hi hj => ?_⟩
 · {
 rw [hl] at hi
 have := g.le i hi
 omega}
 · {
 rw [hl] at hi
 have := g.lt i hi
 omega}
 · {
 obtain ⟨i, hi, e⟩ := g.onR (m - 1 - t) (by omega)
 exact ⟨i, by rw [hl]; exact hi, by rw [e]; omega⟩}
 · {
 obtain ⟨i, hi, e⟩ := g.onL (m - 1 - t) (by omega)
 exact ⟨i, by rw [hl]; exact hi, by rw [e]; omega⟩}
 · {
 rw [hl] at hi hj
 rw [lowL_ab hi, bel_bit j i hj, g.bit j i hj hi]
 have h1 := g.lt j hj
 have h2 := g.Llt hi
 show decide (R j < L i) = decide (m - 1 - L i < m - 1 - R j)
 exact dec_eq ⟨fun _ => by omega, fun _ => by omega⟩}
theorem shl_pow : ∀ n : Nat, n ≤ 10 → wrap64 (shl .i64 1 (n : Int) - 1) = 2 ^ n - 1 := by decide +kernel
theorem rel_iff {z : Int} {l : List Int} (hz : z = l.length) (h10 : l.length ≤ 10) : (∀ j, j < l.length → 0 ≤ l.getD j 0 ∧ l.getD j 0 ≤ 2 ^ l.length - 1) ↔ Rel l := by
 constructor
 · {
 intro h
 refine ⟨h10, fun x hx => ?_⟩
 obtain ⟨j, hj, rfl⟩ := List.getElem_of_mem hx
 have := h j hj
 rw [getD_lt _ _ _ hj] at this
 omega}
 · {
 intro h j hj
 have := h.2 _ (List.getElem_mem hj)
 rw [getD_lt _ _ _ hj]
 omega}
theorem Ev_some' {α : Type} {g : Option α} {a : α} (h : g = some a) : Ev (fun _ => g) a := ⟨0, fun _ _ => h⟩
instance instRel (l : List Int) : Decidable (Rel l) := inferInstanceAs (Decidable (_ ∧ _))
theorem isRelation_ev (z : Int) (l : List Int) : Ev (fun k => impl_IsRelation.f k z l) (decide (z = l.length ∧ Rel l)) := by
 unfold impl_IsRelation.f
 rw [within_eq]
 by_cases c : 0 ≤ z ∧ z ≤ 10
 · {
 refine Ev_val rfl (Ev_pos (decide_eq_true c) ?_)
 by_cases e : (l.length : Int) = z
 · {
 refine Ev_pos e (Ev_pos c.1 ?_)
 obtain rfl := e
 rw [shl_pow _ (by omega)]
 refine Ev_eq (Ev.bind (allWithin_ev l 0 _ (by omega)) (Ev_some rfl)) (dec_eq ?_)
 rw [rel_iff rfl (by omega)]
 exact ⟨fun h => ⟨rfl, h⟩, fun h => h.2⟩}
 · {
 refine Ev_neg e (Ev_some ?_)
 rw [decide_eq_false (fun h => e h.1.symm)]}}
 · {
 refine Ev_val rfl (Ev_neg (by simpa using c) (Ev_some ?_))
 rw [decide_eq_false (fun h => c (by have := h.2.1; omega))]}
theorem betterO {l : List Int} (h : Rel l) (z : Int) (i j : Nat) (hi : i < l.length) (hj : j < 10) : impl_Order_better.f z l (i : Int) (j : Int) = some ((ab l i).testBit j) := by
 unfold impl_Order_better.f
 rw [if_pos (by omega), if_pos (by omega), if_pos (by omega), rd_getD, h.get i, better_bit _ _ (h.ab_lt i) hj]
instance instO0 (a b : Nat) : Decidable (sub a b) := inferInstanceAs (Decidable (∀ i, i < 10 → _))
def OrdAt (l : List Int) (i : Nat) : Prop := ∀ j, j < l.length → (ab l i).testBit j = true → sub (ab l j) (ab l i)
instance instO1 (l : List Int) (i : Nat) : Decidable (OrdAt l i) := inferInstanceAs (Decidable (∀ j, j < l.length → _))
def Ord (l : List Int) : Prop := ∀ i, i < l.length → (ab l i).testBit i = false ∧ OrdAt l i
instance instO2 (l : List Int) : Decidable (Ord l) := inferInstanceAs (Decidable (∀ i, i < l.length → _))
theorem Rel.bit_lt {l : List Int} (h : Rel l) (i j : Nat) (hb : (ab l i).testBit j = true) : j < l.length := by
 apply Classical.byContradiction
 intro c
 by_cases ci : i < l.length
 · {
 have h1 := h.2 _ (List.getElem_mem ci)
 have h2 : ab l i < 2 ^ l.length := by {
 have e := h.get i
 rw [getD_lt _ _ _ ci] at e
 rw [e] at h1
 exact_mod_cast h1.2}
 have h3 : ab l i < 2 ^ j := Nat.lt_of_lt_of_le h2 (Nat.pow_le_pow_right (by decide) (by omega))
 rw [Nat.testBit_lt_two_pow h3] at hb
 exact absurd hb (by decide)}
 · {
 have : ab l i = 0 := by {
 unfold ab
 rw [List.getD_eq_getElem?_getD, List.getElem?_eq_none (by omega)]; rfl}
 rw [this, Nat.zero_testBit] at hb
 exact absurd hb (by decide)}
theorem ord_in (f1 : Nat → Int → List Int → Int → Int → List Int → Int → Int → Int → List Int → Option Bool) (g : Nat → List Int → Int → Int → Int → List Int → Option Bool)
    (hf : ∀ k x4 x11 x12 x13 x23 x24 x25 z l, f1 (k + 1) x4 x11 x12 x13 x23 x24 x25 z l = if x25 < x24 then (if 0 ≤ x25 then (if x25 < (x23.length : Int) then (if 0 ≤ (rd x23 x25) then (if (rd x23 x25) < (l.length : Int) then (if (Go.bits .andNot .i64 (rd l (rd x23 x25)) x4) = 0 then (f1 k x4 x11 x12 x13 x23 x24 (wrap64 (x25 + 1)) z l) else (some false)) else (none)) else (none)) else (none)) else (none)) else (g k x11 x12 (wrap64 (x13 + 1)) z l))
    {l : List Int} (h : Rel l) (z : Int) (i : Nat) (hi : i < l.length) (q : Bool) (hq : OrdAt l i → Ev (fun k => g k l (l.length : Int) ((i + 1 : Nat) : Int) z l) q) :
    Ev (fun k => f1 k (ab l i : Int) l (l.length : Int) (i : Int) (elems (ab l i)) ((elems (ab l i)).length : Int) 0 z l) (decide (OrdAt l i) && q) := by
 have hn := h.1
 obtain ⟨E, hE⟩ : ∃ E, E = elems (ab l i) := ⟨_, rfl⟩
 have hmem : ∀ e, e < E.length → ∃ j : Nat, j < l.length ∧ (ab l i).testBit j = true ∧ E.getD e 0 = (j : Int) := by {
 intro e he
 have : E.getD e 0 ∈ E := by rw [getD_lt _ _ _ he]; exact List.getElem_mem _
 rw [hE, elems_mem] at this
 obtain ⟨j, _, h2, h3⟩ := this
 rw [hE]
 exact ⟨j, h.bit_lt i j h2, h2, h3⟩}
 have hlen : E.length ≤ 10 := by {
 rw [hE]; unfold elems; rw [List.length_map]
 exact Nat.le_trans (List.length_filter_le _ _) (by simp)}
 rw [← hE]
 have hall : (∀ e, e < E.length → decide (sub (ab l (E.getD e 0).toNat) (ab l i)) = true) → OrdAt l i := by {
 intro hh j hj hb
 have : (j : Int) ∈ E := by rw [hE, elems_mem]; exact ⟨j, by omega, hb, rfl⟩
 obtain ⟨e, he, e2⟩ := List.getElem_of_mem this
 have := hh e he
 rw [getD_lt _ _ _ he, e2, Int.toNat_natCast, decide_eq_true_eq] at this
 exact this}
 refine Ev_eq (Ev_all (fun k e => f1 k (ab l i : Int) l (l.length : Int) (i : Int) E (E.length : Int) (e : Int) z l) E.length (fun e => decide (sub (ab l (E.getD e 0).toNat) (ab l i))) q ?_ ?_ ?_) ?_
 · {
 intro e he _ hp r hr
 obtain ⟨j, hj, hb, e2⟩ := hmem e he
 rw [decide_eq_true_eq, e2, Int.toNat_natCast] at hp
 refine Ev.step (fun k => hf k _ _ _ _ _ _ _ _ _) (Ev_pos (by omega) (Ev_pos (by omega) (Ev_pos (by omega) ?_)))
 rw [rd_nat E, e2]
 refine Ev_pos (by omega) (Ev_pos (by omega) (Ev_pos ?_ ?_))
 · rw [rd_getD, h.get j, andNot_zero _ _ (h.ab_lt j) (h.ab_lt i)]; exact hp
 · rw [wrap_succ (by omega)]; exact hr}
 · {
 intro e he _ hp
 obtain ⟨j, hj, hb, e2⟩ := hmem e he
 rw [decide_eq_false_iff_not, e2, Int.toNat_natCast] at hp
 refine Ev.step (fun k => hf k _ _ _ _ _ _ _ _ _) (Ev_pos (by omega) (Ev_pos (by omega) (Ev_pos (by omega) ?_)))
 rw [rd_nat E, e2]
 refine Ev_pos (by omega) (Ev_pos (by omega) (Ev_neg ?_ (Ev_some rfl)))
 rw [rd_getD, h.get j, andNot_zero _ _ (h.ab_lt j) (h.ab_lt i)]; exact hp}
 · {
 intro hh
 refine Ev.step (fun k => hf k _ _ _ _ _ _ _ _ _) (Ev_neg (by omega) ?_)
 rw [wrap_succ (by omega)]; exact hq (hall hh)}
 · {
 congr 1
 refine dec_eq ⟨hall, fun hh e he => ?_⟩
 · {
 obtain ⟨j, hj, hb, e2⟩ := hmem e he
 rw [decide_eq_true_eq, e2, Int.toNat_natCast]
 exact hh j hj hb}}
theorem ord_out (f0 : Nat → List Int → Int → Int → Int → List Int → Option Bool) (f1 : Nat → Int → List Int → Int → Int → List Int → Int → Int → Int → List Int → Option Bool) (B : Int → List Int → List Int → Int → Option Bool) (M : Nat → Int → Option (List Int))
    (hf0 : ∀ k x11 x12 x13 z l, f0 (k + 1) x11 x12 x13 z l = if x13 < x12 then (if 0 ≤ x13 then (if x13 < (x11.length : Int) then ((B z l x11 x13).bind fun t => (if t = true then (some false) else ((M k (rd x11 x13)).bind fun t2 => (f1 k (rd x11 x13) x11 x12 x13 t2 (t2.length : Int) 0 z l)))) else (none)) else (none)) else (some true))
    (hf : ∀ k x4 x11 x12 x13 x23 x24 x25 z l, f1 (k + 1) x4 x11 x12 x13 x23 x24 x25 z l = if x25 < x24 then (if 0 ≤ x25 then (if x25 < (x23.length : Int) then (if 0 ≤ (rd x23 x25) then (if (rd x23 x25) < (l.length : Int) then (if (Go.bits .andNot .i64 (rd l (rd x23 x25)) x4) = 0 then (f1 k x4 x11 x12 x13 x23 x24 (wrap64 (x25 + 1)) z l) else (some false)) else (none)) else (none)) else (none)) else (none)) else (f0 k x11 x12 (wrap64 (x13 + 1)) z l))
    {l : List Int} (h : Rel l) (z : Int) (hB : ∀ i : Nat, i < l.length → B z l l (i : Int) = some ((ab l i).testBit i)) (hM : ∀ n : Nat, n < 1024 → Ev (fun k => M k (n : Int)) (elems n)) :
    Ev (fun k => f0 k l (l.length : Int) 0 z l) (decide (Ord l)) := by
 have hn := h.1
 refine Ev_eq (Ev_all (fun k i => f0 k l (l.length : Int) (i : Int) z l) l.length (fun i => decide ((ab l i).testBit i = false ∧ OrdAt l i)) true ?_ ?_ ?_) ?_
 · {
 intro i hi _ hp r hr
 rw [decide_eq_true_eq] at hp
 refine Ev.step (fun k => hf0 k _ _ _ _ _) (Ev_pos (by omega) (Ev_pos (by omega) (Ev_pos (by omega) (Ev_val (hB i hi) (Ev_neg (by rw [hp.1]; decide) ?_)))))
 rw [rd_getD, h.get i]
 refine Ev.bind (hM _ (h.ab_lt i)) ?_
 exact Ev_eq (ord_in f1 f0 hf h z i hi r (fun _ => hr)) (by rw [decide_eq_true hp.2, Bool.true_and])}
 · {
 intro i hi _ hp
 rw [decide_eq_false_iff_not] at hp
 by_cases c : (ab l i).testBit i = true
 · exact Ev.step (fun k => hf0 k _ _ _ _ _) (Ev_pos (by omega) (Ev_pos (by omega) (Ev_pos (by omega) (Ev_val (hB i hi) (Ev_pos c (Ev_some rfl))))))
 · {
 refine Ev.step (fun k => hf0 k _ _ _ _ _) (Ev_pos (by omega) (Ev_pos (by omega) (Ev_pos (by omega) (Ev_val (hB i hi) (Ev_neg c ?_)))))
 have hno : ¬ OrdAt l i := fun hh => hp ⟨by simpa using c, hh⟩
 rw [rd_getD, h.get i]
 refine Ev.bind (hM _ (h.ab_lt i)) ?_
 exact Ev_eq (ord_in f1 f0 hf h z i hi true (fun hh => absurd hh hno)) (by rw [decide_eq_false hno, Bool.false_and])}}
 · {
 intro _
 exact Ev.step (fun k => hf0 k _ _ _ _ _) (Ev_neg (by omega) (Ev_some rfl))}
 · {
 rw [Bool.and_true]
 exact dec_eq ⟨fun hh i hi => of_decide_eq_true (hh i hi), fun hh i hi => decide_eq_true (hh i hi)⟩}
theorem isOrder_ev (z : Int) (l : List Int) : Ev (fun k => impl_IsOrder.f k z l) (decide (z = l.length ∧ Rel l ∧ Ord l)) := by
 unfold impl_IsOrder.f
 refine Ev.bind (isRelation_ev z l) ?_
 by_cases g : z = l.length ∧ Rel l
 · refine Ev_pos (decide_eq_true g) (Ev_eq (ord_out (fun k => impl_IsOrder.l0 k) (fun k => impl_IsOrder.l1 k) (fun z l _ i => impl_Order_better.f z l i i) (fun _ x => impl_members.f x) (fun _ _ _ _ _ _ => rfl) (fun _ _ _ _ _ _ _ _ _ _ => rfl) g.2 z (fun i hi => betterO g.2 z i i hi (by have := g.2.1; omega)) (fun n hn => Ev_some' (members_eq n hn))) (dec_eq ⟨fun h => ⟨g.1, g.2, h⟩, fun h => h.2.2⟩))
 · {
 refine Ev_neg (by simpa using g) (Ev_some ?_)
 rw [decide_eq_false (fun h => g ⟨h.1, h.2.1⟩)]}
theorem Ex_for {ρ : Type} {l : Nat → Nat → Option ρ} (n : Nat) (P : Nat → Prop) (Res : ρ → Prop)
    (hstep : ∀ i, i < n → (P i → ∃ r, Ev (fun k => l k (i + 1)) r ∧ Res r) → ∃ r, Ev (fun k => l k i) r ∧ Res r)
    (hend : (∀ i, i < n → P i) → ∃ r, Ev (fun k => l k n) r ∧ Res r) : ∃ r, Ev (fun k => l k 0) r ∧ Res r := by
 have main : ∀ d i, n - i = d → i ≤ n → (∀ q, q < i → P q) → ∃ r, Ev (fun k => l k i) r ∧ Res r := by {
 intro d
 induction d with
 | zero => {
 intro i hd hi h
 obtain rfl : i = n := by omega
 exact hend h}
 | succ d ih => {
 intro i hd hi h
 exact hstep i (by omega) (fun hp => ih (i + 1) (by omega) (by omega) (fun q hq => by
  by_cases e : q = i
  · rw [e]; exact hp
  · exact h q (by omega)))}}
 exact main _ 0 rfl (Nat.zero_le _) (fun q hq => by omega)
theorem Ex_map {ρ : Type} {f g : Nat → Option ρ} {Res : ρ → Prop} (h : ∀ r, Ev f r → Ev g r) : (∃ r, Ev f r ∧ Res r) → ∃ r, Ev g r ∧ Res r := fun ⟨r, h1, h2⟩ => ⟨r, h r h1, h2⟩
def Ref (l : List Int) (a b c d : Nat) : Prop := (ab l a).testBit b = true ∧ (ab l c).testBit d = true ∧ (ab l c).testBit b = false ∧ (ab l a).testBit d = false
instance instO3 (l : List Int) (a b c d : Nat) : Decidable (Ref l a b c d) := inferInstanceAs (Decidable (_ ∧ _))
def Four (l : List Int) : Prop := ∀ a, a < l.length → ∀ b, b < l.length → ∀ c, c < l.length → ∀ d, d < l.length → ¬ Ref l a b c d
instance instO4 (l : List Int) : Decidable (Four l) := inferInstanceAs (Decidable (∀ a, a < l.length → _))
theorem four_loops {ρ : Type} (f0 : Nat → Nat → Option ρ) (f1 : Nat → Nat → Nat → Option ρ) (f2 : Nat → Nat → Nat → Nat → Option ρ) (f3 : Nat → Nat → Nat → Nat → Nat → Option ρ) (l : List Int) (Res : ρ → Prop)
    (e0 : ∀ r, Res r → True) (no : ρ) (hno : Four l → Res no) (yes : Nat → Nat → Nat → Nat → ρ) (hyes : ¬ Four l → ∀ a b c d, Res (yes a b c d))
    (h0 : ∀ a, a < l.length → ∀ r, Ev (fun k => f1 k a 0) r → Ev (fun k => f0 k a) r) (h0e : Ev (fun k => f0 k l.length) no)
    (h1 : ∀ a b, a < l.length → b < l.length → ∀ r, Ev (fun k => f2 k a b 0) r → Ev (fun k => f1 k a b) r) (h1e : ∀ a, a < l.length → ∀ r, Ev (fun k => f0 k (a + 1)) r → Ev (fun k => f1 k a l.length) r)
    (h2 : ∀ a b c, a < l.length → b < l.length → c < l.length → ∀ r, Ev (fun k => f3 k a b c 0) r → Ev (fun k => f2 k a b c) r) (h2e : ∀ a b, a < l.length → b < l.length → ∀ r, Ev (fun k => f1 k a (b + 1)) r → Ev (fun k => f2 k a b l.length) r)
    (h3y : ∀ a b c d, a < l.length → b < l.length → c < l.length → d < l.length → Ref l a b c d → Ev (fun k => f3 k a b c d) (yes a b c d))
    (h3n : ∀ a b c d, a < l.length → b < l.length → c < l.length → d < l.length → ¬ Ref l a b c d → ∀ r, Ev (fun k => f3 k a b c (d + 1)) r → Ev (fun k => f3 k a b c d) r)
    (h3e : ∀ a b c, a < l.length → b < l.length → c < l.length → ∀ r, Ev (fun k => f2 k a b (c + 1)) r → Ev (fun k => f3 k a b c l.length) r) :
    ∃ r, Ev (fun k => f0 k 0) r ∧ Res r := by
 refine Ex_for l.length (fun a => ∀ b, b < l.length → ∀ c, c < l.length → ∀ d, d < l.length → ¬ Ref l a b c d) Res (fun a ha n0 => Ex_map (h0 a ha) ?_) (fun hall => ⟨no, h0e, hno hall⟩)
 refine Ex_for l.length (fun b => ∀ c, c < l.length → ∀ d, d < l.length → ¬ Ref l a b c d) Res (fun b hb n1 => Ex_map (h1 a b ha hb) ?_) (fun hall => Ex_map (h1e a ha) (n0 hall))
 refine Ex_for l.length (fun c => ∀ d, d < l.length → ¬ Ref l a b c d) Res (fun c hc n2 => Ex_map (h2 a b c ha hb hc) ?_) (fun hall => Ex_map (h2e a b ha hb) (n1 hall))
 refine Ex_for l.length (fun d => ¬ Ref l a b c d) Res (fun d hd n3 => ?_) (fun hall => Ex_map (h3e a b c ha hb hc) (n2 hall))
 by_cases hr : Ref l a b c d
 · exact ⟨_, h3y a b c d ha hb hc hd hr, hyes (fun hf => hf a ha b hb c hc d hd hr) a b c d⟩
 · exact Ex_map (h3n a b c d ha hb hc hd hr) (n3 hr)
theorem twoTwo_ev {l : List Int} (h : Rel l) : ∃ s, Ev (fun k => impl_Order_twoTwo.f k (l.length : Int) l) s ∧ s.isEmpty = decide (Four l) := by
  have hn := h.1
  unfold impl_Order_twoTwo.f
  refine four_loops (fun k a => impl_Order_twoTwo.l0 k (l.length : Int) (a : Int) (l.length : Int) l) (fun k a b => impl_Order_twoTwo.l1 k (a : Int) (l.length : Int) (a : Int) (l.length : Int) (b : Int) (l.length : Int) l)
    (fun k a b c => impl_Order_twoTwo.l2 k (a : Int) (b : Int) (l.length : Int) (a : Int) (l.length : Int) (b : Int) (l.length : Int) (c : Int) (l.length : Int) l)
    (fun k a b c d => impl_Order_twoTwo.l3 k (a : Int) (b : Int) (c : Int) (l.length : Int) (a : Int) (l.length : Int) (b : Int) (l.length : Int) (c : Int) (l.length : Int) (d : Int) (l.length : Int) l) l _ (fun _ _ => trivial) [] (fun hf => by rw [decide_eq_true hf]; rfl) (fun a b c d => [(a : Int), b, c, d]) (fun hf a b c d => by rw [decide_eq_false hf]; rfl) ?_ ?_ ?_ ?_ ?_ ?_ ?_ ?_ ?_
  · exact fun a ha r hr => Ev.step (fun _ => rfl) (Ev_pos (by omega) hr)
  · exact Ev.step (fun _ => rfl) (Ev_neg (by omega) (Ev_some rfl))
  · exact fun a b ha hb r hr => Ev.step (fun _ => rfl) (Ev_pos (by omega) hr)
  · intro a ha r hr
    refine Ev.step (fun _ => rfl) (Ev_neg (by omega) ?_)
    rw [wrap_succ (by omega)]; exact hr
  · exact fun a b c ha hb hc r hr => Ev.step (fun _ => rfl) (Ev_pos (by omega) hr)
  · intro a b ha hb r hr
    refine Ev.step (fun _ => rfl) (Ev_neg (by omega) ?_)
    rw [wrap_succ (by omega)]; exact hr
  · intro a b c d ha hb hc hd hr
    refine Ev.step (fun _ => rfl) (Ev_pos (by omega) ?_)
    exact Ev_val (betterO h _ a b ha (by omega)) (Ev_pos hr.1 (Ev_val (betterO h _ c d hc (by omega)) (Ev_pos hr.2.1 (Ev_val (betterO h _ c b hc (by omega)) (Ev_neg (by rw [hr.2.2.1]; decide) (Ev_val (betterO h _ a d ha (by omega)) (Ev_neg (by rw [hr.2.2.2]; decide) (Ev_some rfl))))))))
  · intro a b c d ha hb hc hd hr r hn2
    refine Ev.step (fun _ => rfl) (Ev_pos (by omega) ?_)
    rw [wrap_succ (by omega)]
    refine Ev_val (betterO h _ a b ha (by omega)) ?_
    by_cases c1 : (ab l a).testBit b = true
    · refine Ev_pos c1 (Ev_val (betterO h _ c d hc (by omega)) ?_)
      by_cases c2 : (ab l c).testBit d = true
      · refine Ev_pos c2 (Ev_val (betterO h _ c b hc (by omega)) ?_)
        by_cases c3 : (ab l c).testBit b = true
        · exact Ev_pos c3 hn2
        · refine Ev_neg c3 (Ev_val (betterO h _ a d ha (by omega)) ?_)
          by_cases c4 : (ab l a).testBit d = true
          · exact Ev_pos c4 hn2
          · exact absurd ⟨c1, c2, by simpa using c3, by simpa using c4⟩ hr
      · exact Ev_neg c2 hn2
    · exact Ev_neg c1 hn2
  · intro a b c ha hb hc r hr
    refine Ev.step (fun _ => rfl) (Ev_neg (by omega) ?_)
    rw [wrap_succ (by omega)]; exact hr
def IvOrd (z : Int) (l : List Int) : Prop := (z = l.length ∧ Rel l ∧ Ord l) ∧ Four l
instance instO5 (z : Int) (l : List Int) : Decidable (IvOrd z l) := inferInstanceAs (Decidable (_ ∧ _))
theorem isInterval_ev (z : Int) (l : List Int) : Ev (fun k => impl_isInterval.f k z l) (decide (IvOrd z l)) := by
 unfold impl_isInterval.f
 refine Ev.bind (isOrder_ev z l) ?_
 by_cases g : z = l.length ∧ Rel l ∧ Ord l
 · {
 obtain ⟨rfl, g2, g3⟩ := g
 obtain ⟨s, hs, e⟩ := twoTwo_ev g2
 refine Ev_pos (decide_eq_true ⟨rfl, g2, g3⟩) (Ev.bind hs (Ev_some ?_))
 rw [e]
 exact dec_eq ⟨fun h => ⟨⟨rfl, g2, g3⟩, h⟩, fun h => h.2⟩}
 · {
 refine Ev_neg (by simpa using g) (Ev_some ?_)
 rw [decide_eq_false (fun h => g h.1)]}
theorem IvOrd.isIv {z : Int} {l : List Int} (h : IvOrd z l) : IsIv l := by
 obtain ⟨⟨_, h1, h2⟩, h3⟩ := h
 refine ⟨h1, fun i hi => (h2 i hi).1, fun a b c d ha hb hc hd e1 e2 => ?_⟩
 apply Classical.byContradiction
 intro hn
 rw [not_or] at hn
 exact h3 a ha b hb c hc d hd ⟨e1, e2, by simpa using hn.1, by simpa using hn.2⟩
theorem Comp.ivOrd {l : List Int} {m : Nat} {L R : Nat → Nat} (g : Comp l m L R) : IvOrd (l.length : Int) l := by
 refine ⟨⟨rfl, g.rel, fun i hi => ⟨g.isIv.irr i hi, fun j hj hb q hq hb2 => ?_⟩⟩, fun a ha b hb c hc d hd hr => ?_⟩
 · {
 rw [g.bit i j hi hj, decide_eq_true_eq] at hb
 have hq2 := g.rel.bit_lt j q hb2
 rw [g.bit j q hj hq2, decide_eq_true_eq] at hb2
 rw [g.bit i q hi hq2, decide_eq_true_eq]
 have := g.le j hj
 omega}
 · {
 obtain ⟨r1, r2, r3, r4⟩ := hr
 rcases g.isIv.four a b c d ha hb hc hd r1 r2 with h | h
 · rw [r3] at h; exact absurd h (by decide)
 · rw [r4] at h; exact absurd h (by decide)}
theorem comp_inv (d : Array Int) (hs : ∀ i j, i ≤ j → j < d.size → d[i]! ≤ d[j]!) : ∀ m, m ≤ d.size → (Lib.compactUpTo d m).Pairwise (· < ·) ∧ (∀ x, x ∈ Lib.compactUpTo d m ↔ ∃ j, j < m ∧ d[j]! = x)
  | 0, _ => ⟨by simp [Lib.compactUpTo], fun x => by simp [Lib.compactUpTo]⟩
  | m + 1, h => by
    obtain ⟨h1, h2⟩ := comp_inv d hs m (by omega)
    rw [Lib.compactUpTo_succ]
    by_cases c : m = 0 ∨ d[m]! ≠ d[m - 1]!
    · have hk : Lib.keeps d m = true := by unfold Lib.keeps; exact decide_eq_true c
      rw [if_pos hk]
      refine ⟨List.pairwise_append.2 ⟨h1, List.pairwise_singleton _ _, fun x hx y hy => ?_⟩, fun x => ?_⟩
      · obtain ⟨j, hj, rfl⟩ := (h2 x).1 hx
        rw [List.mem_singleton.1 hy]
        have h3 := hs j (m - 1) (by omega) (by omega)
        have h4 := hs (m - 1) m (by omega) (by omega)
        have h5 : d[m]! ≠ d[m - 1]! := c.resolve_left (by omega)
        omega
      · rw [List.mem_append, h2, List.mem_singleton]
        refine ⟨fun hh => ?_, fun ⟨j, hj, e⟩ => ?_⟩
        · rcases hh with ⟨j, hj, e⟩ | e
          · exact ⟨j, by omega, e⟩
          · exact ⟨m, by omega, e.symm⟩
        · by_cases e2 : j = m
          · exact .inr (by rw [← e, e2])
          · exact .inl ⟨j, by omega, e⟩
    · have hk : Lib.keeps d m = false := by unfold Lib.keeps; exact decide_eq_false c
      rw [if_neg (by rw [hk]; simp), List.append_nil]
      refine ⟨h1, fun x => ?_⟩
      rw [h2]
      refine ⟨fun ⟨j, hj, e⟩ => ⟨j, by omega, e⟩, fun ⟨j, hj, e⟩ => ?_⟩
      by_cases e2 : j = m
      · have h5 : d[m]! = d[m - 1]! := Classical.byContradiction fun hh => c (.inr hh)
        exact ⟨m - 1, by omega, by rw [← e, e2, h5]⟩
      · exact ⟨j, by omega, e⟩
theorem dif_inv (L : List Int) : (impl_different.dif L).Pairwise (· < ·) ∧ ∀ x, x ∈ impl_different.dif L ↔ x ∈ L := by
 unfold impl_different.dif Lib.compact
 have hp := List.mergeSort_perm L (fun x y => decide (x ≤ y))
 have hsrt := List.pairwise_mergeSort (le := fun x y : Int => decide (x ≤ y)) (fun a b c h1 h2 => by simp at h1 h2 ⊢; omega) (fun a b => by simp; omega) L
 revert hp hsrt
 generalize (L.mergeSort fun x y => decide (x ≤ y)) = M
 intro hp hsrt
 have hs : ∀ i j, i ≤ j → j < M.toArray.size → M.toArray[i]! ≤ M.toArray[j]! := by {
 intro i j hij hj
 have hj' : j < M.length := by simpa using hj
 by_cases e : i = j
 · rw [e]; exact Int.le_refl _
 · {
 have := List.pairwise_iff_getElem.1 hsrt i j (by omega) hj' (by omega)
 simp only [decide_eq_true_eq] at this
 have e1 : M.toArray[i]! = M[i] := by simp [getElem!_pos, show i < M.length by omega]
 have e2 : M.toArray[j]! = M[j] := by simp [getElem!_pos, hj']
 rw [e1, e2]; exact this}}
 obtain ⟨h1, h2⟩ := comp_inv M.toArray hs M.length (by simp)
 refine ⟨h1, fun x => ?_⟩
 rw [h2, ← hp.mem_iff]
 refine ⟨fun ⟨j, hj, e⟩ => ?_, fun hx => ?_⟩
 · {
 have e1 : M.toArray[j]! = M[j] := by simp [getElem!_pos, hj]
 rw [← e, e1]; exact List.getElem_mem hj}
 · {
 obtain ⟨j, hj, rfl⟩ := List.getElem_of_mem hx
 exact ⟨j, hj, by simp [getElem!_pos, hj]⟩}
theorem dif_len (L : List Int) (K : Nat) (h : ∀ x : Int, x ∈ L ↔ 0 ≤ x ∧ x < (K : Int)) : (impl_different.dif L).length = K := by
 obtain ⟨h1, h2⟩ := dif_inv L
 have hn : (impl_different.dif L).Nodup := h1.imp (fun hlt he => by omega)
 have hr : ((List.range K).map fun (i : Nat) => (i : Int)).Nodup := List.Pairwise.map _ (fun a b hab => by omega) List.nodup_range
 have hperm := (List.perm_ext_iff_of_nodup hn hr).2 (fun x => by
  rw [h2, h, List.mem_map]
  refine ⟨fun ⟨a, b⟩ => ⟨x.toNat, List.mem_range.2 (by omega), by omega⟩, fun ⟨n, hn, e⟩ => ?_⟩
  rw [List.mem_range] at hn
  omega)
 rw [hperm.length_eq, List.length_map, List.length_range]
theorem ofSize_ev (d : Nat) (hd : d ≤ 1048576) : Ev (fun k => impl_ofSize.f k (d : Int)) (matF d fun _ _ => 0) := by
 unfold impl_ofSize.f
 have main : ∀ (n i : Nat), d - i = n → i ≤ d → Ev (fun k => impl_ofSize.l0 k (d : Int) (d : Int) (i : Int) ((List.range i).map fun (i : Nat) => (List.range d).map fun (j : Nat) => (0 : Int))) (matF d fun _ _ => 0) := by {
 intro n
 induction n with
 | zero => {
 intro i hn hi
 obtain rfl : i = d := by omega
 exact Ev.step (fun _ => rfl) (Ev_neg (by omega) (Ev_some rfl))}
 | succ n ih => {
 intro i hn hi
 refine Ev.step (fun _ => rfl) (Ev_pos (by omega) (Ev_pos (by omega) (Ev_pos (by omega) (Ev_pos (by simp; omega) ?_))))
 rw [Int.toNat_natCast, replR, wrap_succ (by omega)]
 have := ih (i + 1) (by omega) (by omega)
 rw [List.range_succ, List.map_append] at this
 exact this}}
 exact main _ 0 rfl (by omega)
section OrdV
variable {l : List Int} {m : Nat} {L R : Nat → Nat}
theorem dif_ev (D : List Int) (h : D.length ≤ 100000) : impl_different.f D = some (impl_different.dif D) := if_pos h
theorem Comp.dif (g : Comp l m L R) : impl_different.dif (lowL l) = setsL l.length m R := by
 obtain ⟨h1, h2⟩ := dif_inv (lowL l)
 exact rise_unique h1 g.sets_rise (fun x => by rw [h2, g.sets_mem])
theorem setsL_len (n m : Nat) (R : Nat → Nat) : (setsL n m R).length = m := by simp [setsL]
theorem setsL_at (n m : Nat) (R : Nat → Nat) {t : Nat} (h : t < m) : rd (setsL n m R) (t : Int) = (upS n R t : Int) := by
 rw [rd_nat, setsL, mapR_getD _ _ h]
theorem lowL_at {j : Nat} (hj : j < l.length) : rd (lowL l) (j : Int) = (bel l j : Int) := by
 rw [rd_nat, lowL, mapR_getD _ _ hj]
def lvL (n : Nat) (L : Nat → Nat) : List Int := (List.range n).map fun i => (L i : Int)
theorem lvL_len (n : Nat) (L : Nat → Nat) : (lvL n L).length = n := by simp [lvL]
theorem lvL_at (n : Nat) (L : Nat → Nat) {i : Nat} (h : i < n) : rd (lvL n L) (i : Int) = (L i : Int) := by
 rw [rd_nat, lvL, mapR_getD _ _ h]
theorem lvL_succ (n : Nat) (L : Nat → Nat) : lvL (n + 1) L = lvL n L ++ [(L n : Int)] := by simp [lvL, List.range_succ]
theorem up_1024 (g : Comp l m L R) (t : Nat) : upS l.length R t < 1024 := setOf_1024 _ g.rel.1
theorem Comp.test (g : Comp l m L R) {s t : Nat} (hs : s ≤ m) (ht : t ≤ m) : ((upS l.length R t : Int) = (upS l.length R s : Int) ↔ t = s) ∧ (Go.bits .andNot .i64 (upS l.length R t : Int) (upS l.length R s : Int) = 0 ↔ t ≤ s) := by
 constructor
 · rw [← g.up_inj ht hs]; omega
 · {
 rw [andNot_zero _ _ (up_1024 g t) (up_1024 g s)]
 exact g.up_sub ht hs}
theorem Comp.levels (g : Comp l m L R) : Ev (fun k => impl_Order_levels.f k (l.length : Int) l) (lvL l.length L) := by
  have hn := g.rel.1
  have hm := g.m_le
  unfold impl_Order_levels.f
  refine Ev_val (mirror_eq g.rel) ?_
  show Ev (fun k => (impl_different.f (lowL l)).bind fun t300 => (impl_Order_levels.l0 k (([] : List Int)) t300 (lowL l) ((lowL l).length : Int) 0)) _
  refine Ev_val (dif_ev _ (by rw [lowL_len]; omega)) ?_
  rw [g.dif, lowL_len]
  have inner : ∀ (i : Nat) (_ : i < l.length) (x3 : List Int) (r : List Int), Ev (fun k => if x3.length < 17592186044416 then (impl_Order_levels.l0 k (x3 ++ [(L i : Int)]) (setsL l.length m R) (lowL l) (l.length : Int) ((i + 1 : Nat) : Int)) else none) r →
      ∀ (d t : Nat), m - t = d → t ≤ m → Ev (fun k => impl_Order_levels.l1 k x3 (setsL l.length m R) (bel l i : Int) ((min t (L i) : Nat) : Int) (lowL l) (l.length : Int) (i : Int) (setsL l.length m R) (m : Int) (t : Int)) r := by
    intro i hi x3 r hr d
    have hL := g.Llt hi
    have hb := g.bel_eq hi
    induction d with
    | zero =>
      intro t hd ht
      obtain rfl : t = m := by omega
      refine Ev.step (fun _ => rfl) (Ev_neg (by omega) ?_)
      rw [wrap_succ (by omega), Nat.min_eq_right (by omega)]
      exact hr
    | succ d ih =>
      intro t hd ht
      have next := ih (t + 1) (by omega) (by omega)
      obtain ⟨t1, t2⟩ := g.test (s := L i) (t := t) (by omega) (by omega)
      refine Ev.step (fun _ => rfl) (Ev_pos (by omega) (Ev_pos (by omega) (Ev_pos (by rw [setsL_len]; omega) ?_)))
      rw [setsL_at _ _ _ (by omega), hb, wrap_succ (i := t) (by omega)]
      rw [hb] at next
      by_cases c : t = L i
      · refine Ev_pos (t1.2 c) ?_
        rw [show min (t + 1) (L i) = min t (L i) by omega] at next
        exact next
      · refine Ev_neg (fun h => c (t1.1 h)) ?_
        by_cases c2 : t ≤ L i
        · refine Ev_pos (t2.2 c2) ?_
          rw [wrap_succ (i := min t (L i)) (by omega)]
          rw [show min (t + 1) (L i) = min t (L i) + 1 by omega] at next
          exact next
        · refine Ev_neg (fun h => c2 (t2.1 h)) ?_
          rw [show min (t + 1) (L i) = min t (L i) by omega] at next
          exact next
  have main : ∀ (d i : Nat), l.length - i = d → i ≤ l.length → Ev (fun k => impl_Order_levels.l0 k (lvL i L) (setsL l.length m R) (lowL l) (l.length : Int) (i : Int)) (lvL l.length L) := by
    intro d
    induction d with
    | zero =>
      intro i hd hi
      obtain rfl : i = l.length := by omega
      exact Ev.step (fun _ => rfl) (Ev_neg (by omega) (Ev_some rfl))
    | succ d ih =>
      intro i hd hi
      have next := ih (i + 1) (by omega) (by omega)
      refine Ev.step (fun _ => rfl) (Ev_pos (by omega) (Ev_pos (by omega) (Ev_pos (by rw [lowL_len]; omega) ?_)))
      rw [lowL_at (by omega), setsL_len]
      have := inner i (by omega) (lvL i L) _ (Ev_pos (by rw [lvL_len]; omega) (by rw [← lvL_succ]; exact next)) m 0 (by omega) (by omega)
      rw [show min 0 (L i) = 0 by omega] at this
      exact this
  exact main _ 0 rfl (by omega)
def endR (L R : Nat → Nat) (i : Nat) : Nat → Nat
  | 0 => L i
  | j + 1 => if R i < L j then endR L R i j else max (endR L R i j) (L j)
theorem endR_le (L R : Nat → Nat) (i : Nat) (h : L i ≤ R i) : ∀ j, endR L R i j ≤ R i
  | 0 => h
  | j + 1 => by
    rw [endR]
    have := endR_le L R i h j
    split <;> omega
theorem endR_ge (L R : Nat → Nat) (i : Nat) : ∀ j q, q < j → L q ≤ R i → L q ≤ endR L R i j
  | 0, q, hq, _ => by omega
  | j + 1, q, hq, hl => by
    rw [endR]
    by_cases e : q = j
    · subst e
      rw [if_neg (by omega)]; omega
    · have := endR_ge L R i j q (by omega) hl
      split <;> omega
theorem Comp.endR_eq (g : Comp l m L R) {i : Nat} (hi : i < l.length) : endR L R i l.length = R i := by
 obtain ⟨q, hq, e⟩ := g.onL (R i) (g.lt i hi)
 have h1 := endR_le L R i (g.le i hi) l.length
 have h2 := endR_ge L R i l.length q hq (by omega)
 omega
def endL (n : Nat) (L R : Nat → Nat) : List S76 := (List.range n).map fun i => (⟨(L i : Int), (R i : Int)⟩ : S76)
theorem endL_len (n : Nat) (L R : Nat → Nat) : (endL n L R).length = n := by simp [endL]
theorem endL_at (n : Nat) (L R : Nat → Nat) {i : Nat} (h : i < n) : rd_T76 (endL n L R) (i : Int) = ⟨(L i : Int), (R i : Int)⟩ := by
 unfold rd_T76
 rw [Int.toNat_natCast, getD_lt _ _ _ (by rw [endL_len]; exact h)]
 simp [endL]
theorem endL_succ (n : Nat) (L R : Nat → Nat) : endL (n + 1) L R = endL n L R ++ [(⟨(L n : Int), (R n : Int)⟩ : S76)] := by simp [endL, List.range_succ]
theorem mxO (a b : Nat) : mx (a : Int) (b : Int) = ((max a b : Nat) : Int) := by unfold mx; split <;> omega
theorem Comp.ends (g : Comp l m L R) : Ev (fun k => impl_Order_ends.f k (l.length : Int) l) (endL l.length L R) := by
  have hn := g.rel.1
  unfold impl_Order_ends.f
  refine Ev.bind g.levels ?_
  rw [lvL_len]
  have inner : ∀ (i : Nat) (_ : i < l.length) (x3 : List S76) (r : List S76), Ev (fun k => if x3.length < 8796093022208 then (impl_Order_ends.l0 k (x3 ++ [(⟨(L i : Int), (R i : Int)⟩ : S76)]) (lvL l.length L) (lvL l.length L) (l.length : Int) ((i + 1 : Nat) : Int) (l.length : Int) l) else none) r →
      ∀ (d j : Nat), l.length - j = d → j ≤ l.length → Ev (fun k => impl_Order_ends.l1 k x3 (lvL l.length L) (i : Int) (L i : Int) (endR L R i j : Int) (lvL l.length L) (l.length : Int) (i : Int) (lvL l.length L) (l.length : Int) (j : Int) (l.length : Int) l) r := by
    intro i hi x3 r hr d
    induction d with
    | zero =>
      intro j hd hj
      obtain rfl : j = l.length := by omega
      refine Ev.step (fun _ => rfl) (Ev_neg (by omega) ?_)
      rw [g.endR_eq hi, wrap_succ (by omega)]
      exact hr
    | succ d ih =>
      intro j hd hj
      have next := ih (j + 1) (by omega) (by omega)
      refine Ev.step (fun _ => rfl) (Ev_pos (by omega) (Ev_pos (by omega) (Ev_pos (by rw [lvL_len]; omega) (Ev_val (betterO g.rel _ i j hi (by omega)) ?_))))
      rw [wrap_succ (by omega), lvL_at _ _ (by omega), mxO, g.bit i j hi (by omega)]
      rw [endR] at next
      by_cases c : R i < L j
      · rw [if_pos c] at next
        exact Ev_pos (decide_eq_true c) next
      · rw [if_neg c] at next
        exact Ev_neg (by simpa using c) next
  have main : ∀ (d i : Nat), l.length - i = d → i ≤ l.length → Ev (fun k => impl_Order_ends.l0 k (endL i L R) (lvL l.length L) (lvL l.length L) (l.length : Int) (i : Int) (l.length : Int) l) (endL l.length L R) := by
    intro d
    induction d with
    | zero =>
      intro i hd hi
      obtain rfl : i = l.length := by omega
      exact Ev.step (fun _ => rfl) (Ev_neg (by omega) (Ev_some rfl))
    | succ d ih =>
      intro i hd hi
      have next := ih (i + 1) (by omega) (by omega)
      refine Ev.step (fun _ => rfl) (Ev_pos (by omega) (Ev_pos (by omega) (Ev_pos (by rw [lvL_len]; omega) ?_)))
      rw [lvL_at _ _ (by omega), lvL_len]
      exact inner i (by omega) _ _ (Ev_pos (by rw [endL_len]; omega) (by rw [← endL_succ]; exact next)) l.length 0 (by omega) (by omega)
  exact main _ 0 rfl (by omega)
theorem lvL_mem (g : Comp l m L R) (x : Int) : x ∈ lvL l.length L ↔ 0 ≤ x ∧ x < (m : Int) := by
 unfold lvL
 rw [List.mem_map]
 constructor
 · {
 rintro ⟨i, hi, rfl⟩
 have := g.Llt (List.mem_range.1 hi)
 omega}
 · {
 intro hx
 obtain ⟨i, hi, e⟩ := g.onL x.toNat (by omega)
 exact ⟨i, List.mem_range.2 hi, by rw [e]; omega⟩}
theorem Comp.magnitude (g : Comp l m L R) : Ev (fun k => impl_Order_magnitude.f k (l.length : Int) l) (m : Int) := by
 have hn := g.rel.1
 unfold impl_Order_magnitude.f
 refine Ev.bind g.levels (Ev_val (dif_ev _ (by rw [lvL_len]; omega)) (Ev_some ?_))
 rw [dif_len _ m (lvL_mem g)]
theorem cnt_le (n : Nat) (L R : Nat → Nat) (a b : Nat) : 0 ≤ cntM n L R a b ∧ cntM n L R a b ≤ n := by
 have := sumZ_bound (n := n) (f := fun q => if L q = a ∧ R q = b then (1 : Int) else 0) (B := 1) (by decide) (fun q _ => by split <;> decide)
 unfold cntM
 omega
theorem cnt_succ (n : Nat) (L R : Nat → Nat) (a b : Nat) : cntM (n + 1) L R a b = cntM n L R a b + (if L n = a ∧ R n = b then 1 else 0) := rfl
theorem Comp.matrix (g : Comp l m L R) : Ev (fun k => impl_Order_matrix.f k (l.length : Int) l) (matO m l.length L R) := by
 have hn := g.rel.1
 have hm := g.m_le
 unfold impl_Order_matrix.f
 refine Ev.bind g.magnitude (Ev.bind (ofSize_ev m (by omega)) (Ev.bind g.ends ?_))
 rw [endL_len]
 have main : ∀ (d i : Nat), l.length - i = d → i ≤ l.length → Ev (fun k => impl_Order_matrix.l0 k (endL l.length L R) (l.length : Int) (i : Int) (matO m i L R)) (matO m l.length L R) := by {
 intro d
 induction d with
 | zero => {
 intro i hd hi
 obtain rfl : i = l.length := by omega
 exact Ev.step (fun _ => rfl) (Ev_neg (by omega) (Ev_some rfl))}
 | succ d ih => {
 intro i hd hi
 have next := ih (i + 1) (by omega) (by omega)
 have hil : i < l.length := by omega
 have h1 := g.Llt hil
 have h2 := g.lt i hil
 have hlen : (matO m i L R).length = m := matF_length _ _
 have hrow : (rd_L2 (matO m i L R) (L i : Int)) = (List.range m).map fun (b : Nat) => cntM i L R (L i) b := by {
 rw [show rd_L2 (matO m i L R) (L i : Int) = (matO m i L R).getD (L i) [] from rdL_nat _ _]
 exact matF_row _ _ h1}
 refine Ev.step (fun _ => rfl) (Ev_pos (by omega) (Ev_pos (by omega) (Ev_pos (by rw [endL_len]; omega) ?_)))
 rw [endL_at _ _ _ hil]
 refine Ev_pos (by simp only []; omega) (Ev_pos (by simp only []; omega) (Ev_pos (by simp only []; omega) (Ev_pos (by simp only []; rw [hrow]; simp; omega) ?_)))
 rw [wrap_succ (i := i) (by omega)]
 simp only [Int.toNat_natCast]
 have hc := cnt_le i L R (L i) (R i)
 have hv : wrap64 (rd (rd_L2 (matO m i L R) (L i : Int)) (R i : Int) + 1) = cntM (i + 1) L R (L i) (R i) := by rw [hrow, rd_nat, mapR_getD _ _ h2, wrap_small (by omega) (by omega), cnt_succ, if_pos ⟨rfl, rfl⟩]
 have hs := matF_set m (cntM i L R) (cntM (i + 1) L R) (L i) (R i) h1 h2 (fun a _ b _ hh => by
  rw [cnt_succ, if_neg (fun h3 => hh ⟨h3.1.symm, h3.2.symm⟩), Int.add_zero])
 rw [hv, show rd_L2 (matO m i L R) (L i : Int) = (matO m i L R).getD (L i) [] from rdL_nat _ _]
 unfold matO at next ⊢
 rw [hs]
 exact next}}
 have h0 : matO m 0 L R = matF m fun _ _ => 0 := matF_congr m (fun _ _ _ _ => rfl)
 rw [← h0]
 exact main _ 0 rfl (by omega)
end OrdV
theorem and255 (x : Int) (h0 : 0 ≤ x) (h1 : x < 9223372036854775808) : 0 ≤ wrap64 (Go.bits .and .u64 x 255) ∧ wrap64 (Go.bits .and .u64 x 255) ≤ 255 := by
 have hm := Go.bits_mask .u64 63 (by decide) (fun n a b => by rw [IntKind.wrap_u64]; omega) 8 (by decide) x h0 (by omega)
 have e : ((2 : Int) ^ 8 - 1) = 255 := by decide
 have e2 : ((2 : Int) ^ 8) = 256 := by decide
 rw [e, e2] at hm
 rw [hm, wrap_small (by omega) (by omega)]; omega
def BytesOk (c : List Int) : Prop := c.length ≤ 1048576 ∧ ∀ x ∈ c, 0 ≤ x ∧ x ≤ 255
theorem BytesOk.at_ {c : List Int} (h : BytesOk c) (i : Nat) : 0 ≤ c.getD i 0 ∧ c.getD i 0 ≤ 255 := by
 by_cases e : i < c.length
 · rw [getD_lt _ _ _ e]; exact h.2 _ (List.getElem_mem e)
 · rw [List.getD_eq_getElem?_getD, List.getElem?_eq_none (by omega)]; exact ⟨Int.le_refl _, by decide⟩
theorem next_ok (c : List Int) (h : BytesOk c) (a s : Int) (h0 : 0 ≤ a) (h1 : a ≤ 4611686018427387000) : ∃ b s', spec_l1Cur_next.f c a s = some (b, a + 1, s') ∧ 0 ≤ b ∧ b ≤ 255 := by
 have hw : wrap64 (a + 1) = a + 1 := wrap_small (by omega) (by omega)
 have hand : ∀ y : Int, 0 ≤ wrap64 (Go.bits .and .u64 (IntKind.u64.wrap y / 1099511627776) 255) ∧ wrap64 (Go.bits .and .u64 (IntKind.u64.wrap y / 1099511627776) 255) ≤ 255 := fun y => and255 _ (by rw [IntKind.wrap_u64]; omega) (by rw [IntKind.wrap_u64]; omega)
 unfold spec_l1Cur_next.f
 rw [hw]
 by_cases c1 : a < (c.length : Int)
 · {
 obtain ⟨i, rfl⟩ : ∃ i : Nat, a = (i : Int) := ⟨a.toNat, by omega⟩
 have hb := h.at_ i
 rw [if_pos c1, if_pos h0, if_pos (by omega), rd_nat, wrap_small (x := c.getD i 0) (by omega) (by omega)]
 exact ⟨_, _, rfl, hb.1, hb.2⟩}
 · {
 rw [if_neg c1]
 by_cases c2 : a + 1 ≤ (c.length : Int)
 · rw [if_pos c2]; exact ⟨_, _, rfl, Int.le_refl _, by decide⟩
 · {
 rw [if_neg c2]
 have := hand ((IntKind.u64.wrap ((IntKind.u64.wrap (s * 6364136223846793005)) + 0)) + 1442695040888963407)
 exact ⟨_, _, rfl, this.1, this.2⟩}}
theorem pick_ok (c : List Int) (h : BytesOk c) (a s n : Int) (h0 : 0 ≤ a) (h1 : a ≤ 4611686018427380000) (hn : n ≤ 4611686018427387000) : ∃ r a' s', spec_l1Cur_pick.f c a s n = some (r, a', s') ∧ 0 ≤ r ∧ (1 ≤ n → r < n) ∧ 0 ≤ a' ∧ a' ≤ a + 2 := by
 unfold spec_l1Cur_pick.f
 by_cases c1 : n ≤ 1
 · rw [if_pos c1]; exact ⟨_, _, _, rfl, Int.le_refl _, fun _ => by omega, h0, by omega⟩
 · {
 rw [if_neg c1]
 obtain ⟨b, s', e, hb0, hb1⟩ := next_ok c h a s h0 (by omega)
 rw [e, Option.bind_some]
 by_cases c2 : n > 200
 · {
 rw [if_pos c2]
 obtain ⟨b2, s2, e2, hc0, hc1⟩ := next_ok c h (a + 1) s' (by omega) (by omega)
 simp only []
 rw [e2, Option.bind_some, if_neg (by omega)]
 have w1 : wrap64 (b * 256) = b * 256 := wrap_small (by omega) (by omega)
 have w2 : wrap64 (b * 256 + b2) = b * 256 + b2 := wrap_small (by omega) (by omega)
 simp only [w1, w2]
 refine ⟨_, _, _, rfl, Int.tmod_nonneg _ (by omega), fun _ => Int.tmod_lt_of_pos _ (by omega), by omega, by omega⟩}
 · {
 rw [if_neg c2, if_neg (by omega)]
 refine ⟨_, _, _, rfl, Int.tmod_nonneg _ hb0, fun _ => Int.tmod_lt_of_pos _ (by omega), by simp only []; omega, by simp only []; omega⟩}}
theorem one_ok (c : List Int) (h : BytesOk c) (a s n : Int) (h0 : 0 ≤ a) (h1 : a ≤ 4611686018427380000) (hn : n ≤ 4611686018427387000) : ∃ b a' s', spec_l1Cur_one.f c a s n = some (b, a', s') ∧ 0 ≤ a' ∧ a' ≤ a + 2 := by
 obtain ⟨r, a', s', e, _, _, e2, e3⟩ := pick_ok c h a s n h0 h1 hn
 exact ⟨r == 0, a', s', by unfold spec_l1Cur_one.f; rw [e]; rfl, e2, e3⟩
theorem pSame_refl (l : List Int) (hl : l.length ≤ 1048576) : Ev (fun k => laws_pSame.f k l l) true := by
 unfold laws_pSame.f
 refine Ev_pos rfl ?_
 have main : ∀ (d i : Nat), l.length - i = d → i ≤ l.length → Ev (fun k => laws_pSame.l0 k l l (l.length : Int) (i : Int)) true := by {
 intro d
 induction d with
 | zero => intro i hd hi; exact Ev.step (fun _ => rfl) (Ev_neg (by omega) (Ev_some rfl))
 | succ d ih => {
 intro i hd hi
 refine Ev.step (fun _ => rfl) (Ev_pos (by omega) (Ev_pos (by omega) (Ev_pos (by omega) (Ev_pos (by omega) (Ev_pos rfl ?_)))))
 rw [wrap_succ (i := i) (by omega)]
 exact ih (i + 1) (by omega) (by omega)}}
 exact main _ 0 rfl (by omega)
theorem bound_all (l : List Int) (h : l.length ≤ 1000) : Ev (fun k => spec_asBound.f k l) (bndA l l.length) := by
 have := specBound_ev l l.length (Nat.le_refl _) h
 rw [List.take_length] at this
 exact this
theorem bndA_rng (l : List Int) (i : Nat) : 0 ≤ bndA l i ∧ bndA l i ≤ (i : Int) + 1 := by
 have := ascN_le l i
 unfold bndA; split <;> omega
theorem ascent_l0 (c : List Int) (h : BytesOk c) (n : Nat) (hn : n ≤ 20) : ∀ (d : Nat) (l : List Int) (a s : Int), n - l.length = d → l.length ≤ n → 0 ≤ a → a + 10 * d ≤ 60000 → ∃ R, Ev (fun k => spec_l1Cur_ascent.l0 k (n : Int) l c a s) R ∧ R.1.length ≤ n + 1 ∧ 0 ≤ R.2.1 ∧ R.2.1 ≤ a + 10 * d + 10 := by
 intro d
 induction d with
 | zero => {
 intro l a s hd hl ha hb
 have hln : l.length = n := by omega
 obtain ⟨r, a1, s1, e1, r0, _, f0, f1⟩ := pick_ok c h a s 14 ha (by omega) (by decide)
 have hle : ¬ (l.length : Int) < (n : Int) := by omega
 by_cases z : r = 0
 · {
 by_cases p : (l.length : Int) > 0
 · {
 obtain ⟨i, a2, s2, e2, i0, i1, g0, g1⟩ := pick_ok c h a1 s1 (l.length : Int) f0 (by omega) (by omega)
 obtain ⟨u, a3, s3, e3, _, _, k0, k1⟩ := pick_ok c h a2 s2 7 g0 (by omega) (by decide)
 have i1 := i1 (by omega)
 refine ⟨(l.set i.toNat (wrap64 (u - 1)), a3, s3), ?_, by show (l.set _ _).length ≤ _; rw [List.length_set]; omega, k0, by show a3 ≤ _; omega⟩
 refine Ev.step (fun k => by rw [spec_l1Cur_ascent.l0]) (Ev_neg hle (Ev_val e1 (Ev_pos z (Ev_pos p (Ev_val e2 (Ev_val e3 (Ev_pos i0 (Ev_pos i1 (Ev_some rfl)))))))))}
 · {
 refine ⟨(l, a1, s1), ?_, by show l.length ≤ _; omega, f0, by show a1 ≤ _; omega⟩
 exact Ev.step (fun k => by rw [spec_l1Cur_ascent.l0]) (Ev_neg hle (Ev_val e1 (Ev_pos z (Ev_neg p (Ev_some rfl)))))}}
 · {
 by_cases z1 : r = 1
 · {
 obtain ⟨u, a2, s2, e2, _, _, g0, g1⟩ := pick_ok c h a1 s1 2 f0 (by omega) (by decide)
 have hsm : l.length < 17592186044416 := by omega
 refine ⟨(l ++ [wrap64 (bndA l l.length + u)], a2, s2), ?_, by show (l ++ [_]).length ≤ _; rw [List.length_append, List.length_singleton]; omega, g0, by show a2 ≤ _; omega⟩
 exact Ev.step (fun k => by rw [spec_l1Cur_ascent.l0]) (Ev_neg hle (Ev_val e1 (Ev_neg z (Ev_pos z1 (Ev.bind (bound_all l (by omega)) (Ev_val e2 (Ev_pos hsm (Ev_some rfl))))))))}
 · {
 refine ⟨(l, a1, s1), ?_, by show l.length ≤ _; omega, f0, by show a1 ≤ _; omega⟩
 exact Ev.step (fun k => by rw [spec_l1Cur_ascent.l0]) (Ev_neg hle (Ev_val e1 (Ev_neg z (Ev_neg z1 (Ev_some rfl)))))}}}
 | succ d ih => {
 intro l a s hd hl ha hb
 have hlt : (l.length : Int) < (n : Int) := by omega
 have hsm : l.length < 17592186044416 := by omega
 have hbd := bndA_rng l l.length
 obtain ⟨r, a1, s1, e1, _, _, f0, f1⟩ := pick_ok c h a s (bndA l l.length + 1) ha (by omega) (by omega)
 obtain ⟨b, a2, s2, e2, g0, g1⟩ := one_ok c h a1 s1 3 f0 (by omega) (by decide)
 have w : wrap64 (bndA l l.length + 1) = bndA l l.length + 1 := wrap_small (by omega) (by omega)
 rw [← w] at e1
 cases b with
 | true => {
 obtain ⟨R, hR, q1, q2, q3⟩ := ih (l ++ [bndA l l.length]) a2 s2 (by rw [List.length_append, List.length_singleton]; omega) (by rw [List.length_append, List.length_singleton]; omega) g0 (by omega)
 exact ⟨R, Ev.step (fun k => by rw [spec_l1Cur_ascent.l0]) (Ev_pos hlt (Ev.bind (bound_all l (by omega)) (Ev_val e1 (Ev_val e2 (Ev_pos rfl (Ev_pos hsm hR)))))), q1, q2, by omega⟩}
 | false => {
 obtain ⟨R, hR, q1, q2, q3⟩ := ih (l ++ [r]) a2 s2 (by rw [List.length_append, List.length_singleton]; omega) (by rw [List.length_append, List.length_singleton]; omega) g0 (by omega)
 exact ⟨R, Ev.step (fun k => by rw [spec_l1Cur_ascent.l0]) (Ev_pos hlt (Ev.bind (bound_all l (by omega)) (Ev_val e1 (Ev_val e2 (Ev_neg Bool.false_ne_true (Ev_pos hsm hR)))))), q1, q2, by omega⟩}}
theorem ascent_j0 (c : List Int) (h : BytesOk c) (n a s : Int) (h0 : 0 ≤ n) (hn : n ≤ 20) (ha : 0 ≤ a) (hb : a ≤ 50000) : ∃ R, Ev (fun k => spec_l1Cur_ascent.j0 k n c a s) R ∧ R.1.length ≤ 21 ∧ 0 ≤ R.2.1 ∧ R.2.1 ≤ a + 300 := by
 obtain ⟨n, rfl⟩ := Int.eq_ofNat_of_zero_le h0
 obtain ⟨R, hR, q1, q2, q3⟩ := ascent_l0 c h n (by omega) n [] a s (by simp) (by simp) ha (by omega)
 exact ⟨R, Ev.step (fun k => by rw [spec_l1Cur_ascent.j0]) hR, by omega, q2, by omega⟩
theorem ascent_ok (c : List Int) (h : BytesOk c) (m : Int) (hm0 : 0 ≤ m) (hm : m ≤ 15) (a s : Int) (ha : 0 ≤ a) (hb : a ≤ 40000) : ∃ R, Ev (fun k => spec_l1Cur_ascent.f k c a s m) R ∧ R.1.length ≤ 21 ∧ 0 ≤ R.2.1 ∧ R.2.1 ≤ a + 400 := by
 have w : wrap64 (m + 1) = m + 1 := wrap_small (by omega) (by omega)
 obtain ⟨r, a1, s1, e1, r0, r1, f0, f1⟩ := pick_ok c h a s (m + 1) ha (by omega) (by omega)
 have r1 := r1 (by omega)
 obtain ⟨b, a2, s2, e2, g0, g1⟩ := one_ok c h a1 s1 10 f0 (by omega) (by decide)
 cases b with
 | true => {
 obtain ⟨u, a3, s3, e3, u0, u1, k0, k1⟩ := pick_ok c h a2 s2 2 g0 (by omega) (by decide)
 have u1 := u1 (by decide)
 have w2 : wrap64 (12 + u) = 12 + u := wrap_small (by omega) (by omega)
 obtain ⟨R, hR, q1, q2, q3⟩ := ascent_j0 c h (12 + u) a3 s3 (by omega) (by omega) k0 (by omega)
 refine ⟨R, ?_, q1, q2, by omega⟩
 unfold spec_l1Cur_ascent.f
 rw [w]
 refine Ev_val e1 (Ev_val e2 (Ev_pos rfl (Ev_val e3 ?_)))
 simp only [w2]; exact hR}
 | false => {
 obtain ⟨R, hR, q1, q2, q3⟩ := ascent_j0 c h r a2 s2 r0 (by omega) g0 (by omega)
 refine ⟨R, ?_, q1, q2, by omega⟩
 unfold spec_l1Cur_ascent.f
 rw [w]
 exact Ev_val e1 (Ev_val e2 (Ev_neg Bool.false_ne_true hR))}
theorem wf_byte {x : Int} (h : (Lit.int .u8 x).wf = true) : 0 ≤ x ∧ x ≤ 255 := by
 simp [Lit.wf] at h
 have a : IntKind.u8.min = 0 := by decide
 have b : IntKind.u8.max = 255 := by decide
 rw [a, b] at h; exact h
def mv (l : List Int) : Nat → Nat → Int
  | 0 => fun k => l.getD k 0
  | i + 1 => fun k => if 0 < i ∧ l.getD (i - 1) 0 < l.getD i 0 ∧ k < i ∧ l.getD i 0 ≤ mv l i k then mv l i k + 1 else mv l i k
theorem mv_top (l : List Int) (k : Nat) : ∀ i, i ≤ k + 1 → mv l i k = l.getD k 0
  | 0, _ => rfl
  | i + 1, h => by
    rw [mv]
    simp only []
    rw [if_neg (fun hh => by omega), mv_top l k i (by omega)]
theorem AscOk.at_ {l : List Int} (g : AscOk l) {i : Nat} (hi : i < l.length) : 0 ≤ l.getD i 0 ∧ l.getD i 0 ≤ 13 := by
 obtain ⟨h0, h1⟩ := g.2 i hi
 have := ascN_le l i
 have := g.1
 refine ⟨h0, ?_⟩
 unfold bndA at h1
 split at h1 <;> omega
theorem mv_bd {l : List Int} (g : AscOk l) {k : Nat} (hk : k < l.length) : ∀ i, 0 ≤ mv l i k ∧ mv l i k ≤ 13 + (i : Int)
  | 0 => by have := g.at_ hk; exact ⟨this.1, by show l.getD k 0 ≤ _; omega⟩
  | i + 1 => by
    obtain ⟨a, b⟩ := mv_bd g hk i
    rw [mv]
    simp only []
    split <;> omega
theorem mv_le {l : List Int} (g : AscOk l) : ∀ i, i ≤ l.length → ∀ k, k < i → mv l i k ≤ (ascN l i : Int)
  | 0, _, k, hk => by omega
  | i + 1, hi, k, hk => by
    have hb := (g.2 i (by omega)).2
    by_cases c : 0 < i ∧ l.getD (i - 1) 0 < l.getD i 0
    · rw [ascN, if_pos c, mv]
      simp only []
      by_cases e : k = i
      · rw [if_neg (fun hh => by omega), e, mv_top l i i (by omega)]
        unfold bndA at hb; rw [if_neg (by omega)] at hb; omega
      · have := mv_le g i (by omega) k (by omega)
        split <;> omega
    · rw [ascN, if_neg c, mv]
      simp only []
      rw [if_neg (fun hh => c ⟨hh.1, hh.2.1⟩)]
      by_cases e : k = i
      · rw [e, mv_top l i i (by omega)]
        by_cases e2 : i = 0
        · unfold bndA at hb; rw [if_pos e2] at hb; omega
        · have h3 := mv_le g i (by omega) (i - 1) (by omega)
          rw [mv_top l (i - 1) i (by omega)] at h3
          omega
      · have := mv_le g i (by omega) k (by omega); omega
theorem mv_all {l : List Int} (g : AscOk l) : ∀ i, 0 < i → i ≤ l.length → ∀ x : Int, (∃ k, k < i ∧ mv l i k = x) ↔ 0 ≤ x ∧ x ≤ (ascN l i : Int)
  | 0, h, _, _ => absurd h (by omega)
  | i + 1, _, hi, x => by
    have hb := g.2 i (by omega)
    refine ⟨fun ⟨k, hk, e⟩ => ?_, fun ⟨h0, h1⟩ => ?_⟩
    · have := mv_le g (i + 1) hi k hk
      have := (mv_bd g (k := k) (by omega) (i + 1)).1
      omega
    · by_cases e0 : i = 0
      · subst e0
        have : l.getD 0 0 = 0 := by have := hb.2; unfold bndA at this; rw [if_pos rfl] at this; omega
        have h2 : ascN l (0 + 1) = 0 := by rw [ascN, if_neg (fun hh => absurd hh.1 (by omega))]; rfl
        exact ⟨0, by omega, by rw [mv_top l 0 1 (by omega)]; omega⟩
      · have ih := mv_all g i (by omega) (by omega)
        have hb2 := hb.2
        unfold bndA at hb2; rw [if_neg e0] at hb2
        by_cases c : l.getD (i - 1) 0 < l.getD i 0
        · rw [ascN, if_pos ⟨by omega, c⟩] at h1
          by_cases e1 : x = l.getD i 0
          · exact ⟨i, by omega, by rw [mv_top l i (i + 1) (by omega), e1]⟩
          · by_cases e2 : x < l.getD i 0
            · obtain ⟨k, hk, e⟩ := (ih x).2 ⟨h0, by omega⟩
              refine ⟨k, by omega, ?_⟩
              rw [mv]; simp only []
              rw [if_neg (fun hh => by omega), e]
            · obtain ⟨k, hk, e⟩ := (ih (x - 1)).2 ⟨by omega, by omega⟩
              refine ⟨k, by omega, ?_⟩
              rw [mv]; simp only []
              rw [if_pos ⟨by omega, c, hk, by omega⟩, e]; omega
        · rw [ascN, if_neg (fun hh => c hh.2)] at h1
          obtain ⟨k, hk, e⟩ := (ih x).2 ⟨h0, by omega⟩
          refine ⟨k, by omega, ?_⟩
          rw [mv]; simp only []
          rw [if_neg (fun hh => c hh.2.1), e]
def ordL (xs : List S76) : List Int := (List.range xs.length).map fun a => impl_orderOf.rel.relRow (impl_orderOf.before xs) a xs.length
theorem ivOrder_l1 (xs : List S76) (hs : xs.length ≤ 60) (i : Nat) (hi : i < xs.length) (X : List Int) (hX : X.length ≤ 60) (R : Int × List Int)
    (hR : Ev (fun k => spec_ivOrder.l0 k xs xs (xs.length : Int) ((i + 1 : Nat) : Int) (xs.length : Int) (X ++ [impl_orderOf.rel.relRow (impl_orderOf.before xs) i xs.length])) R) :
    ∀ (d j : Nat), xs.length - j = d → j ≤ xs.length → Ev (fun k => spec_ivOrder.l1 k xs (impl_orderOf.rel.relRow (impl_orderOf.before xs) i j) xs (xs.length : Int) (i : Int) xs (xs.length : Int) (j : Int) (xs.length : Int) X (rd_T76 xs (i : Int)).f0 (rd_T76 xs (i : Int)).f1) R := by
 intro d
 induction d with
 | zero => {
 intro j hd hj
 obtain rfl : j = xs.length := by omega
 refine Ev.step (fun _ => rfl) (Ev_neg (by omega) (Ev_pos (by omega) ?_))
 rw [wrap_succ (by omega)]; exact hR}
 | succ d ih => {
 intro j hd hj
 have := ih (j + 1) (by omega) (by omega)
 refine Ev.step (fun _ => rfl) (Ev_pos (by omega) (Ev_pos (by omega) (Ev_pos (by omega) ?_)))
 rw [wrap_succ (by omega)]
 by_cases c : (rd_T76 xs (i : Int)).f1 < (rd_T76 xs (j : Int)).f0
 · {
 rw [impl_orderOf.rel.relRow, if_pos (show impl_orderOf.before xs i j = true from decide_eq_true c)] at this
 exact Ev_pos c this}
 · {
 rw [impl_orderOf.rel.relRow, if_neg (show ¬ impl_orderOf.before xs i j = true from by unfold impl_orderOf.before; simpa using c)] at this
 exact Ev_neg c this}}
theorem ivOrder_ev (xs : List S76) (hs : xs.length ≤ 60) : Ev (fun k => spec_ivOrder.f k xs) ((xs.length : Int), ordL xs) := by
 unfold spec_ivOrder.f
 have main : ∀ (d i : Nat), xs.length - i = d → i ≤ xs.length → Ev (fun k => spec_ivOrder.l0 k xs xs (xs.length : Int) (i : Int) (xs.length : Int) ((ordL xs).take i)) ((xs.length : Int), ordL xs) := by {
 intro d
 induction d with
 | zero => {
 intro i hd hi
 obtain rfl : i = xs.length := by omega
 exact Ev.step (fun _ => rfl) (Ev_neg (by omega) (Ev_some (by rw [List.take_of_length_le (by simp [ordL])])))}
 | succ d ih => {
 intro i hd hi
 have hi' : i < xs.length := by omega
 have := ih (i + 1) (by omega) (by omega)
 rw [List.take_succ_eq_append_getElem (by simp [ordL]; omega)] at this
 refine Ev.step (fun _ => rfl) (Ev_pos (by omega) (Ev_pos (by omega) (Ev_pos (by omega) ?_)))
 refine ivOrder_l1 xs hs i hi' _ (by simp [ordL]; omega) _ ?_ _ 0 rfl (by omega)
 simpa [ordL] using this}}
 have := main _ 0 rfl (by omega)
 simpa using this
theorem orderOf_val (xs : List S76) (hs : xs.length ≤ 60) : impl_orderOf.f xs = some ((xs.length : Int), ordL xs) := if_pos hs
structure IvInv (a : List Int) (i : Nat) (I : List S76) : Prop where
  len : I.length = i
  left : ∀ j, j < i → (rd_T76 I (j : Int)).f0 = mv a i j
  right : ∀ j, j < i → (rd_T76 I (j : Int)).f1 ≤ (ascN a i : Int)
  low : ∀ j, j < i → 0 ≤ (rd_T76 I (j : Int)).f1
  last : 0 < i → (rd_T76 I ((i - 1 : Nat) : Int)).f1 = (ascN a i : Int)
  least : ∀ j, j < i → (rd_T76 I (j : Int)).f1 = (ascN a i : Int) → a.getD (i - 1) 0 ≤ (rd_T76 I (j : Int)).f0
theorem rdT_nat (I : List S76) (j : Nat) : rd_T76 I (j : Int) = I.getD j z76 := by unfold rd_T76; rw [Int.toNat_natCast]
theorem getD_app {α : Type} (l : List α) (x z : α) (j : Nat) : (l ++ [x]).getD j z = if j < l.length then l.getD j z else if j = l.length then x else z := by
 rw [List.getD_eq_getElem?_getD, List.getD_eq_getElem?_getD, List.getElem?_append]
 by_cases c : j < l.length
 · rw [if_pos c, if_pos c]
 · {
 rw [if_neg c, if_neg c]
 by_cases c2 : j = l.length
 · rw [if_pos c2, c2, Nat.sub_self]; rfl
 · {
 rw [if_neg c2]
 rw [List.getElem?_eq_none (by simp; omega)]; rfl}}
theorem getD_put {α : Type} (l : List α) (x z : α) (q j : Nat) (hq : q < l.length) : (l.set q x).getD j z = if j = q then x else l.getD j z := by
 rw [List.getD_eq_getElem?_getD, List.getElem?_set]
 by_cases c : q = j
 · rw [if_pos c, if_pos hq, if_pos c.symm]; rfl
 · rw [if_neg c, if_neg (fun h => c h.symm), ← List.getD_eq_getElem?_getD]
def lefts (I : List S76) (q : Nat) : List Int := (List.range q).map fun (j : Nat) => (rd_T76 I (j : Int)).f0
theorem lefts_succ (I : List S76) (q : Nat) : lefts I (q + 1) = lefts I q ++ [(rd_T76 I (q : Int)).f0] := by simp [lefts, List.range_succ]
theorem lefts_len (I : List S76) (q : Nat) : (lefts I q).length = q := by simp [lefts]
def rgt (m K : Int) (x : S76) : Int := if x.f1 < m then x.f1 else if x.f1 = K - 1 ∧ x.f0 < m then m else x.f1 + 1
def bld (m K : Int) (x : S76) : S76 := ⟨if x.f0 ≥ m then x.f0 + 1 else x.f0, rgt m K x⟩
theorem build_l2 (I : List S76) (m K : Int) (hI : I.length ≤ 20) (hK : 0 ≤ K ∧ K ≤ 100) (hm : 0 ≤ m ∧ m ≤ 100) (hb : ∀ j, j < I.length → 0 ≤ (rd_T76 I (j : Int)).f0 ∧ (rd_T76 I (j : Int)).f0 ≤ 100 ∧ 0 ≤ (rd_T76 I (j : Int)).f1 ∧ (rd_T76 I (j : Int)).f1 ≤ 100) :
    ∀ (d q : Nat) (O : List S76), I.length - q = d → q ≤ I.length → O.length = I.length → (∀ j, j < I.length → O.getD j z76 = if j < q then bld m K (I.getD j z76) else I.getD j z76) →
      ∃ O', Ev (fun k => impl_build.l2 k m K O I (I.length : Int) (q : Int)) (O' ++ [(⟨m, K⟩ : S76)]) ∧ O'.length = I.length ∧ ∀ j, j < I.length → O'.getD j z76 = bld m K (I.getD j z76) := by
  intro d
  induction d with
  | zero =>
    intro q O hd hq hO hg
    obtain rfl : q = I.length := by omega
    refine ⟨O, Ev.step (fun k => by rw [impl_build.l2]) (Ev_neg (by omega) (Ev_pos (by omega) (Ev_some rfl))), hO, fun j hj => by rw [hg j hj, if_pos hj]⟩
  | succ d ih =>
    intro q O hd hq hO hg
    have hql : q < I.length := by omega
    have hx := hb q hql
    have hOq : rd_T76 O (q : Int) = rd_T76 I (q : Int) := by rw [rdT_nat, rdT_nat, hg q hql, if_neg (Nat.lt_irrefl q)]
    obtain ⟨x, hxe⟩ : ∃ x, x = rd_T76 I (q : Int) := ⟨_, rfl⟩
    have hxi : I.getD q z76 = x := by rw [hxe, rdT_nat]
    rw [← hxe] at hx hOq
    have hw := wrap_succ (i := q) (by omega)
    have wK : wrap64 (K - 1) = K - 1 := wrap_small (by omega) (by omega)
    have w0 : wrap64 (x.f0 + 1) = x.f0 + 1 := wrap_small (by omega) (by omega)
    have w1 : wrap64 (x.f1 + 1) = x.f1 + 1 := wrap_small (by omega) (by omega)
    have step : ∀ y : S76, y = bld m K x → ∃ O', Ev (fun k => impl_build.l2 k m K (O.set q y) I (I.length : Int) ((q + 1 : Nat) : Int)) (O' ++ [(⟨m, K⟩ : S76)]) ∧ O'.length = I.length ∧ ∀ j, j < I.length → O'.getD j z76 = bld m K (I.getD j z76) := by
      intro y hy
      refine ih (q + 1) (O.set q y) (by omega) (by omega) (by rw [List.length_set]; exact hO) (fun j hj => ?_)
      rw [getD_put O y z76 q j (by omega)]
      by_cases c : j = q
      · rw [if_pos c, c, if_pos (by omega), hxi, hy]
      · rw [if_neg c, hg j hj]
        by_cases c2 : j < q
        · rw [if_pos c2, if_pos (by omega)]
        · rw [if_neg c2, if_neg (by omega)]
    have stay : x = bld m K x → ∃ O', Ev (fun k => impl_build.l2 k m K O I (I.length : Int) ((q + 1 : Nat) : Int)) (O' ++ [(⟨m, K⟩ : S76)]) ∧ O'.length = I.length ∧ ∀ j, j < I.length → O'.getD j z76 = bld m K (I.getD j z76) := by
      intro hy
      refine ih (q + 1) O (by omega) (by omega) hO (fun j hj => ?_)
      rw [hg j hj]
      by_cases c : j = q
      · rw [c, if_neg (Nat.lt_irrefl q), if_pos (by omega), hxi]; exact hy
      · by_cases c2 : j < q
        · rw [if_pos c2, if_pos (by omega)]
        · rw [if_neg c2, if_neg (by omega)]
    have head : ∀ (O' : List S76), (Ev (fun k => if x.f1 < m then (if x.f0 ≥ m then (if (q : Int) < (O.length : Int) then (impl_build.l2 k m K (O.set q (⟨x.f0 + 1, x.f1⟩ : S76)) I (I.length : Int) ((q + 1 : Nat) : Int)) else (none)) else (impl_build.l2 k m K O I (I.length : Int) ((q + 1 : Nat) : Int))) else (if x.f1 = K - 1 then (impl_build.j3 k m K O (q : Int) I (I.length : Int) (q : Int) (decide (x.f0 < m)) x.f0 x.f1) else (impl_build.j3 k m K O (q : Int) I (I.length : Int) (q : Int) false x.f0 x.f1))) (O' ++ [(⟨m, K⟩ : S76)])) →
        Ev (fun k => impl_build.l2 k m K O I (I.length : Int) (q : Int)) (O' ++ [(⟨m, K⟩ : S76)]) := by
      intro O' h
      refine Ev.step (fun k => by rw [impl_build.l2]) (Ev_pos (by omega) (Ev_pos (by omega) (Ev_pos (by omega) ?_)))
      rw [← hxe, hOq, hw, wK, w0, Int.toNat_natCast]
      exact h
    by_cases c1 : x.f1 < m
    · by_cases c2 : x.f0 ≥ m
      · obtain ⟨O', h1, h2, h3⟩ := step ⟨x.f0 + 1, x.f1⟩ (by unfold bld rgt; rw [if_pos c2, if_pos c1])
        exact ⟨O', head O' (Ev_pos c1 (Ev_pos c2 (Ev_pos (by omega) h1))), h2, h3⟩
      · obtain ⟨O', h1, h2, h3⟩ := stay (by unfold bld rgt; rw [if_neg c2, if_pos c1])
        exact ⟨O', head O' (Ev_pos c1 (Ev_neg c2 h1)), h2, h3⟩
    · have put : ∀ (b : Bool), (if b = true then m else x.f1 + 1) = rgt m K x → ∃ O', Ev (fun k => impl_build.j3 k m K O (q : Int) I (I.length : Int) (q : Int) b x.f0 x.f1) (O' ++ [(⟨m, K⟩ : S76)]) ∧ O'.length = I.length ∧ ∀ j, j < I.length → O'.getD j z76 = bld m K (I.getD j z76) := by
        intro b hr
        have put1 : ∃ O', Ev (fun k => (some (O.set q (⟨x.f0, rgt m K x⟩ : S76) : List S76)).bind fun y278 => (if x.f0 ≥ m then (impl_build.l2 k m K (y278.set q (⟨wrap64 ((rd_T76 y278 (q : Int)).f0 + 1), (rd_T76 y278 (q : Int)).f1⟩ : S76)) I (I.length : Int) ((q + 1 : Nat) : Int)) else (impl_build.l2 k m K y278 I (I.length : Int) ((q + 1 : Nat) : Int)))) (O' ++ [(⟨m, K⟩ : S76)]) ∧ O'.length = I.length ∧ ∀ j, j < I.length → O'.getD j z76 = bld m K (I.getD j z76) := by
          have hrd : rd_T76 (O.set q (⟨x.f0, rgt m K x⟩ : S76)) (q : Int) = ⟨x.f0, rgt m K x⟩ := by rw [rdT_nat, getD_put O _ _ q q (by omega), if_pos rfl]
          by_cases c2 : x.f0 ≥ m
          · obtain ⟨O', h1, h2, h3⟩ := step ⟨x.f0 + 1, rgt m K x⟩ (by unfold bld; rw [if_pos c2])
            refine ⟨O', Ev_val rfl (Ev_pos c2 ?_), h2, h3⟩
            rw [hrd]
            simp only []
            rw [w0, List.set_set]
            exact h1
          · obtain ⟨O', h1, h2, h3⟩ := step ⟨x.f0, rgt m K x⟩ (by unfold bld; rw [if_neg c2])
            exact ⟨O', Ev_val rfl (Ev_neg c2 h1), h2, h3⟩
        obtain ⟨O', h, h2, h3⟩ := put1
        refine ⟨O', ?_, h2, h3⟩
        cases b with
        | true =>
          rw [if_pos rfl] at hr
          refine Ev.step (fun k => by rw [impl_build.j3]) (Ev_pos (show true = true from rfl) (Ev_pos (by omega) (Ev_pos (by omega) ?_)))
          rw [hOq, hw, Int.toNat_natCast]; rw [← hr] at h; exact h
        | false =>
          rw [if_neg Bool.false_ne_true] at hr
          refine Ev.step (fun k => by rw [impl_build.j3]) (Ev_neg Bool.false_ne_true (Ev_pos (by omega) (Ev_pos (by omega) ?_)))
          rw [hOq, hw, w1, Int.toNat_natCast]; rw [← hr] at h; exact h
      by_cases c2 : x.f1 = K - 1
      · obtain ⟨O', h1, h2, h3⟩ := put (decide (x.f0 < m)) (by
          unfold rgt
          rw [if_neg c1]
          by_cases c3 : x.f0 < m
          · rw [decide_eq_true c3, if_pos rfl, if_pos ⟨c2, c3⟩]
          · rw [decide_eq_false c3, if_neg Bool.false_ne_true, if_neg (fun h => c3 h.2)])
        exact ⟨O', head O' (Ev_neg c1 (Ev_pos c2 h1)), h2, h3⟩
      · obtain ⟨O', h1, h2, h3⟩ := put false (by unfold rgt; rw [if_neg c1, if_neg Bool.false_ne_true, if_neg (fun h => c2 h.1)])
        exact ⟨O', head O' (Ev_neg c1 (Ev_neg c2 h1)), h2, h3⟩
def stp (a : List Int) (i : Nat) (I : List S76) (j : Nat) : S76 := if i = 0 then ⟨0, 0⟩ else if j < i then (if a.getD i 0 ≤ a.getD (i - 1) 0 then rd_T76 I (j : Int) else bld (a.getD i 0) ((ascN a i : Int) + 1) (rd_T76 I (j : Int))) else ⟨a.getD i 0, if a.getD i 0 ≤ a.getD (i - 1) 0 then (ascN a i : Int) else (ascN a i : Int) + 1⟩
theorem IvInv.bds {a : List Int} (g : AscOk a) {i : Nat} (hi : i ≤ a.length) {I : List S76} (h : IvInv a i I) : ∀ j, j < I.length → 0 ≤ (rd_T76 I (j : Int)).f0 ∧ (rd_T76 I (j : Int)).f0 ≤ 100 ∧ 0 ≤ (rd_T76 I (j : Int)).f1 ∧ (rd_T76 I (j : Int)).f1 ≤ 100 := by
 intro j hj
 rw [h.len] at hj
 have h1 := mv_bd g (k := j) (by omega) i
 have := g.1
 have := ascN_le a i
 have h2 := h.right j hj
 have h3 := h.low j hj
 rw [h.left j hj]
 omega
theorem build_invX (a : List Int) (g : AscOk a) (i : Nat) (hi : i < a.length) (I : List S76) (h : IvInv a i I) : ∃ I', Ev (fun k => impl_build.f k I (a.getD i 0)) I' ∧ IvInv a (i + 1) I' ∧ ∀ j, j < i + 1 → rd_T76 I' (j : Int) = stp a i I j := by
  have hl := g.1
  have hlen := h.len
  have hbd := h.bds g (by omega)
  obtain ⟨m, hm⟩ : ∃ m, m = a.getD i 0 := ⟨_, rfl⟩
  have hm0 := g.at_ hi
  have hmb := (g.2 i hi).2
  have hasc := ascN_le a i
  rw [← hm] at hm0 hmb ⊢
  -- the levels are counted
  have l0 : ∀ (R : List S76), Ev (fun k => (impl_different.f (lefts I I.length)).bind fun t257 => (if (t257.length : Int) = 0 then (some (([(⟨0, 0⟩ : S76)] : List S76))) else (impl_build.l1 k I m (t257.length : Int) (t257.length : Int) I (I.length : Int) 0))) R →
      ∀ (d q : Nat), I.length - q = d → q ≤ I.length → Ev (fun k => impl_build.l0 k I m (lefts I q) I (I.length : Int) (q : Int)) R := by
    intro R hR d
    induction d with
    | zero =>
      intro q hd hq
      obtain rfl : q = I.length := by omega
      exact Ev.step (fun k => by rw [impl_build.l0]) (Ev_neg (by omega) hR)
    | succ d ih =>
      intro q hd hq
      have next := ih (q + 1) (by omega) (by omega)
      refine Ev.step (fun k => by rw [impl_build.l0]) (Ev_pos (by omega) (Ev_pos (by omega) (Ev_pos (by omega) (Ev_pos (by rw [lefts_len]; omega) ?_))))
      rw [wrap_succ (i := q) (by omega), ← lefts_succ]
      exact next
  have hdf : impl_different.f (lefts I I.length) = some (impl_different.dif (lefts I I.length)) := by
    unfold impl_different.f
    rw [if_pos (by rw [lefts_len]; omega)]
  by_cases e0 : i = 0
  · subst e0
    have hz : I = [] := List.eq_nil_of_length_eq_zero hlen
    have ha0 : m = 0 := by unfold bndA at hmb; rw [if_pos rfl] at hmb; omega
    have hd0 : (impl_different.dif (lefts I I.length)).length = 0 := dif_len _ 0 (fun x => by rw [hz]; simp [lefts])
    have hn : ascN a (0 + 1) = 0 := by rw [ascN, if_neg (fun hh => absurd hh.1 (by omega))]; rfl
    refine ⟨[⟨0, 0⟩], ?_, ⟨rfl, fun j hj => ?_, fun j hj => ?_, fun j hj => ?_, fun _ => ?_, fun j hj _ => ?_⟩, fun j hj => ?_⟩
    · unfold impl_build.f
      exact l0 _ (Ev_val hdf (Ev_pos (by omega) (Ev_some rfl))) I.length 0 (by omega) (by omega)
    all_goals (try obtain rfl : j = 0 := by omega)
    · rw [mv_top a 0 1 (by omega), ← hm, ha0]; rfl
    · rw [hn]; exact Int.le_refl _
    · exact Int.le_refl _
    · rw [hn]; rfl
    · show a.getD 0 0 ≤ 0; rw [← hm, ha0]; exact Int.le_refl _
    · rfl
  have hmb2 : m ≤ (ascN a i : Int) + 1 := by unfold bndA at hmb; rw [if_neg e0] at hmb; exact hmb
  obtain ⟨p, hp⟩ : ∃ p, p = a.getD (i - 1) 0 := ⟨_, rfl⟩
  obtain ⟨K, hK⟩ : ∃ K : Int, K = (ascN a i : Int) + 1 := ⟨_, rfl⟩
  have hdl : ((impl_different.dif (lefts I I.length)).length : Int) = K := by
    have hd1 := dif_len (lefts I I.length) (ascN a i + 1) (fun x => by
      have h2 := mv_all g i (by omega) (by omega) x
      rw [lefts, List.mem_map]
      constructor
      · rintro ⟨j, hj, e⟩
        rw [List.mem_range, hlen] at hj
        have := h2.1 ⟨j, hj, by rw [← e]; exact (h.left j hj).symm⟩
        omega
      · intro hx
        obtain ⟨j, hj, e⟩ := h2.2 (by omega)
        exact ⟨j, List.mem_range.2 (by omega), by rw [h.left j hj]; exact e⟩)
    rw [hd1, hK]; rfl
  have hpl : (rd_T76 I ((i - 1 : Nat) : Int)).f0 = p := by rw [h.left (i - 1) (by omega), mv_top a (i - 1) i (by omega), hp]
  have hpr := h.last (by omega)
  have hpK : p ≤ (ascN a i : Int) := by
    have := mv_le g i (by omega) (i - 1) (by omega)
    rw [mv_top a (i - 1) i (by omega), ← hp] at this; exact this
  have hp0 := (g.at_ (show i - 1 < a.length by omega)).1
  rw [← hp] at hp0
  have wK : wrap64 (K - 1) = K - 1 := wrap_small (by omega) (by omega)
  have hlow := h.least
  rw [← hp] at hlow
  have l1 : ∀ (R : List S76), Ev (fun k => (impl_Interval.f I).bind fun t265 => (if m ≤ p then (if t265.length < 8796093022208 then (some (t265 ++ [(⟨m, K - 1⟩ : S76)])) else (none)) else (impl_build.l2 k m K t265 I (I.length : Int) 0))) R →
      ∀ (d q : Nat) (c : Int), I.length - q = d → q ≤ I.length → p ≤ c → (i - 1 < q → c ≤ p) → Ev (fun k => impl_build.l1 k I m c K I (I.length : Int) (q : Int)) R := by
    intro R hR d
    induction d with
    | zero =>
      intro q c hd hq hc1 hc2
      obtain rfl : q = I.length := by omega
      obtain rfl : c = p := by have := hc2 (by omega); omega
      refine Ev.step (fun k => by rw [impl_build.l1]) (Ev_neg (by omega) ?_)
      rw [wK]
      exact hR
    | succ d ih =>
      intro q c hd hq hc1 hc2
      refine Ev.step (fun k => by rw [impl_build.l1]) (Ev_pos (by omega) (Ev_pos (by omega) (Ev_pos (by omega) ?_)))
      rw [wK, wrap_succ (i := q) (by omega)]
      by_cases c3 : (rd_T76 I (q : Int)).f1 = K - 1
      · refine Ev_pos c3 ?_
        have h4 := hlow q (by omega) (by omega)
        refine ih (q + 1) _ (by omega) (by omega) ?_ (fun hh => ?_)
        · unfold mn; split <;> omega
        · by_cases e : q = i - 1
          · rw [e, hpl]; unfold mn; split <;> omega
          · have := hc2 (by omega); unfold mn; split <;> omega
      · refine Ev_neg c3 (ih (q + 1) c (by omega) (by omega) hc1 (fun hh => ?_))
        by_cases e : q = i - 1
        · rw [e] at c3; omega
        · exact hc2 (by omega)
  have hcl : impl_Interval.f I = some I := by unfold impl_Interval.f; rw [if_pos (by omega)]
  have start : ∀ R, Ev (fun k => (impl_Interval.f I).bind fun t265 => (if m ≤ p then (if t265.length < 8796093022208 then (some (t265 ++ [(⟨m, K - 1⟩ : S76)])) else (none)) else (impl_build.l2 k m K t265 I (I.length : Int) 0))) R → Ev (fun k => impl_build.f k I m) R := by
    intro R hR
    unfold impl_build.f
    refine l0 _ (Ev_val hdf (Ev_neg (by omega) ?_)) I.length 0 (by omega) (by omega)
    rw [hdl]
    exact l1 R hR I.length 0 K (by omega) (by omega) (by omega) (fun hh => by omega)
  by_cases c : m ≤ p
  · have hcn : ¬ (0 < i ∧ a.getD (i - 1) 0 < a.getD i 0) := fun hh => by have := hh.2; omega
    have hn : ascN a (i + 1) = ascN a i := by rw [ascN, if_neg hcn]; rfl
    have hmv : ∀ j, j < i → mv a (i + 1) j = mv a i j := fun j hj => by rw [mv]; simp only []; rw [if_neg (fun hh => hcn ⟨hh.1, hh.2.1⟩)]
    have hg : ∀ j, j < i + 1 → rd_T76 (I ++ [⟨m, K - 1⟩]) (j : Int) = if j < i then rd_T76 I (j : Int) else ⟨m, K - 1⟩ := fun j hj => by
      rw [rdT_nat, rdT_nat, getD_app, hlen]
      by_cases e : j < i
      · rw [if_pos e, if_pos e]
      · rw [if_neg e, if_neg e, if_pos (by omega)]
    refine ⟨I ++ [⟨m, K - 1⟩], start _ (Ev_val hcl (Ev_pos c (Ev_pos (by omega) (Ev_some rfl)))), ⟨by rw [List.length_append, hlen]; rfl, fun j hj => ?_, fun j hj => ?_, fun j hj => ?_, fun _ => ?_, fun j hj => ?_⟩, fun j hj => ?_⟩
    · rw [hg j hj]
      by_cases e : j < i
      · rw [if_pos e, hmv j e, h.left j e]
      · obtain rfl : j = i := by omega
        rw [if_neg e, mv_top a j (j + 1) (by omega), ← hm]
    · rw [hg j hj, hn]
      by_cases e : j < i
      · rw [if_pos e]; exact h.right j e
      · rw [if_neg e]; show K - 1 ≤ _; omega
    · rw [hg j hj]
      by_cases e : j < i
      · rw [if_pos e]; exact h.low j e
      · rw [if_neg e]; show 0 ≤ K - 1; omega
    · rw [show i + 1 - 1 = i from rfl, hg i (by omega), if_neg (Nat.lt_irrefl i), hn]; show K - 1 = _; omega
    · rw [hg j hj, hn, show i + 1 - 1 = i from rfl, ← hm]
      by_cases e : j < i
      · rw [if_pos e]; intro hh; have := hlow j e hh; omega
      · rw [if_neg e]; intro _; exact Int.le_refl _
    · rw [hg j hj]
      unfold stp
      rw [if_neg e0, ← hm, ← hp, if_pos c, if_pos c, show K - 1 = (ascN a i : Int) by omega]
  · have hcn : 0 < i ∧ a.getD (i - 1) 0 < a.getD i 0 := ⟨by omega, by omega⟩
    have hn : (ascN a (i + 1) : Int) = K := by rw [ascN, if_pos hcn, hK]; rfl
    obtain ⟨O', h1, h2, h3⟩ := build_l2 I m K (by omega) (by omega) (by omega) hbd I.length 0 I (by omega) (by omega) rfl (fun j hj => by rw [if_neg (Nat.not_lt_zero j)])
    have hg : ∀ j, j < i + 1 → rd_T76 (O' ++ [⟨m, K⟩]) (j : Int) = if j < i then bld m K (rd_T76 I (j : Int)) else ⟨m, K⟩ := fun j hj => by
      rw [rdT_nat, rdT_nat, getD_app, h2, hlen]
      by_cases e : j < i
      · rw [if_pos e, if_pos e, h3 j (by omega)]
      · rw [if_neg e, if_neg e, if_pos (by omega)]
    refine ⟨O' ++ [⟨m, K⟩], start _ (Ev_val hcl (Ev_neg c h1)), ⟨by rw [List.length_append, h2, hlen]; rfl, fun j hj => ?_, fun j hj => ?_, fun j hj => ?_, fun _ => ?_, fun j hj => ?_⟩, fun j hj => ?_⟩
    · rw [hg j hj]
      by_cases e : j < i
      · rw [if_pos e, mv]
        simp only []
        show (if (rd_T76 I (j : Int)).f0 ≥ m then (rd_T76 I (j : Int)).f0 + 1 else (rd_T76 I (j : Int)).f0) = _
        rw [h.left j e]
        by_cases c2 : mv a i j ≥ m
        · rw [if_pos c2, if_pos ⟨hcn.1, hcn.2, e, by omega⟩]
        · rw [if_neg c2, if_neg (fun hh => c2 (by have := hh.2.2.2; omega))]
      · obtain rfl : j = i := by omega
        rw [if_neg e, mv_top a j (j + 1) (by omega), ← hm]
    · rw [hg j hj, hn]
      by_cases e : j < i
      · rw [if_pos e]
        have := h.right j e
        show rgt m K _ ≤ K
        unfold rgt
        split
        · omega
        · split <;> omega
      · rw [if_neg e]; exact Int.le_refl _
    · rw [hg j hj]
      by_cases e : j < i
      · rw [if_pos e]
        have := h.low j e
        show 0 ≤ rgt m K _
        unfold rgt
        split
        · omega
        · split <;> omega
      · rw [if_neg e]; show 0 ≤ K; omega
    · rw [show i + 1 - 1 = i from rfl, hg i (by omega), if_neg (Nat.lt_irrefl i), hn]
    · rw [hg j hj, hn, show i + 1 - 1 = i from rfl, ← hm]
      by_cases e : j < i
      · rw [if_pos e]
        have h4 := h.right j e
        intro hh
        have hh2 : rgt m K (rd_T76 I (j : Int)) = K := hh
        show m ≤ (if (rd_T76 I (j : Int)).f0 ≥ m then (rd_T76 I (j : Int)).f0 + 1 else (rd_T76 I (j : Int)).f0)
        unfold rgt at hh2
        by_cases c5 : (rd_T76 I (j : Int)).f1 < m
        · rw [if_pos c5] at hh2; omega
        · rw [if_neg c5] at hh2
          by_cases c6 : (rd_T76 I (j : Int)).f1 = K - 1 ∧ (rd_T76 I (j : Int)).f0 < m
          · rw [if_pos c6] at hh2; omega
          · rw [if_neg c6] at hh2
            rw [if_pos (by omega)]; omega
      · rw [if_neg e]; intro _; exact Int.le_refl _
    · rw [hg j hj]
      unfold stp
      rw [if_neg e0, ← hm, ← hp, if_neg c, if_neg c, ← hK]
def bldN (m K : Nat) (x : Nat × Nat) : Nat × Nat := (if m ≤ x.1 then x.1 + 1 else x.1, if x.2 < m then x.2 else if x.2 = K - 1 ∧ x.1 < m then m else x.2 + 1)
def ivN (a : List Int) : Nat → Nat → Nat × Nat
  | 0, _ => (0, 0)
  | i + 1, j => if i = 0 then (0, 0) else if j < i then (if (a.getD i 0).toNat ≤ (a.getD (i - 1) 0).toNat then ivN a i j else bldN (a.getD i 0).toNat (ascN a i + 1) (ivN a i j)) else ((a.getD i 0).toNat, if (a.getD i 0).toNat ≤ (a.getD (i - 1) 0).toNat then ascN a i else ascN a i + 1)
def toS (x : Nat × Nat) : S76 := ⟨(x.1 : Int), (x.2 : Int)⟩
def ivL (a : List Int) (i : Nat) : List S76 := endL i (fun j => (ivN a i j).1) (fun j => (ivN a i j).2)
theorem ivL_len (a : List Int) (i : Nat) : (ivL a i).length = i := endL_len _ _ _
theorem ivL_at (a : List Int) (i j : Nat) (h : j < i) : rd_T76 (ivL a i) (j : Int) = toS (ivN a i j) := endL_at _ _ _ h
theorem bld_toS (m K : Nat) (hK : 0 < K) (x : Nat × Nat) : bld (m : Int) (K : Int) (toS x) = toS (bldN m K x) := by
 obtain ⟨l, r⟩ := x
 unfold bld rgt toS bldN
 simp only [S76.mk.injEq]
 constructor
 · {
 by_cases c : m ≤ l
 · rw [if_pos (show (l : Int) ≥ (m : Int) by omega), if_pos c]; omega
 · rw [if_neg (show ¬ (l : Int) ≥ (m : Int) by omega), if_neg c]}
 · {
 by_cases c : r < m
 · rw [if_pos (show (r : Int) < (m : Int) by omega), if_pos c]
 · {
 rw [if_neg (show ¬ (r : Int) < (m : Int) by omega), if_neg c]
 by_cases c2 : r = K - 1 ∧ l < m
 · rw [if_pos (show (r : Int) = (K : Int) - 1 ∧ (l : Int) < (m : Int) by omega), if_pos c2]
 · rw [if_neg (show ¬ ((r : Int) = (K : Int) - 1 ∧ (l : Int) < (m : Int)) by omega), if_neg c2]; omega}}
theorem stp_toS (a : List Int) (g : AscOk a) (i : Nat) (hi : i < a.length) (j : Nat) (hj : j < i + 1) : stp a i (ivL a i) j = toS (ivN a (i + 1) j) := by
 unfold stp
 rw [ivN]
 by_cases e0 : i = 0
 · rw [if_pos e0, if_pos e0]; rfl
 · {
 rw [if_neg e0, if_neg e0]
 have h1 := (g.at_ hi).1
 have h2 := (g.at_ (show i - 1 < a.length by omega)).1
 obtain ⟨m, hm⟩ : ∃ m : Nat, a.getD i 0 = (m : Int) := ⟨(a.getD i 0).toNat, by omega⟩
 obtain ⟨p, hp⟩ : ∃ p : Nat, a.getD (i - 1) 0 = (p : Int) := ⟨(a.getD (i - 1) 0).toNat, by omega⟩
 rw [hm, hp, Int.toNat_natCast, Int.toNat_natCast]
 by_cases e : j < i
 · {
 rw [if_pos e, if_pos e, ivL_at a i j e]
 by_cases c : m ≤ p
 · rw [if_pos (by omega), if_pos c]
 · rw [if_neg (by omega), if_neg c, show (ascN a i : Int) + 1 = ((ascN a i + 1 : Nat) : Int) by omega, bld_toS _ _ (by omega)]}
 · {
 rw [if_neg e, if_neg e]
 by_cases c : m ≤ p
 · rw [if_pos (by omega), if_pos c]; rfl
 · rw [if_neg (by omega), if_neg c]; rfl}}
theorem ext_rdT {xs ys : List S76} (hl : xs.length = ys.length) (h : ∀ i, i < xs.length → rd_T76 xs (i : Int) = rd_T76 ys (i : Int)) : xs = ys := by
 apply List.ext_getElem hl
 intro i h1 h2
 have := h i h1
 rw [rdT_nat, rdT_nat, getD_lt _ _ _ h1, getD_lt _ _ _ h2] at this
 exact this
theorem build_ivL (a : List Int) (g : AscOk a) (i : Nat) (hi : i < a.length) (h : IvInv a i (ivL a i)) : Ev (fun k => impl_build.f k (ivL a i) (a.getD i 0)) (ivL a (i + 1)) ∧ IvInv a (i + 1) (ivL a (i + 1)) := by
 obtain ⟨I', h1, h2, h3⟩ := build_invX a g i hi _ h
 have e : I' = ivL a (i + 1) := ext_rdT (by rw [h2.len, ivL_len]) (fun j hj => by
  rw [h2.len] at hj
  rw [h3 j hj, stp_toS a g i hi j hj, ivL_at _ _ _ hj])
 rw [← e]
 exact ⟨h1, h2⟩
theorem ivInv0 (a : List Int) : IvInv a 0 (ivL a 0) := ⟨rfl, fun j hj => by omega, fun j hj => by omega, fun j hj => by omega, fun h => by omega, fun j hj => by omega⟩
theorem ivInvL (a : List Int) (g : AscOk a) : ∀ i, i ≤ a.length → IvInv a i (ivL a i)
  | 0, _ => ivInv0 a
  | i + 1, hi => (build_ivL a g i (by omega) (ivInvL a g i (by omega))).2
theorem intervalsOf_ev (a : List Int) (g : AscOk a) : Ev (fun k => impl_intervalsOf.f k a) (ivL a a.length) := by
 have hl := g.1
 have main : ∀ (d i : Nat), a.length - i = d → i ≤ a.length → Ev (fun k => impl_intervalsOf.l0 k (ivL a i) a (a.length : Int) (i : Int)) (ivL a a.length) := by {
 intro d
 induction d with
 | zero => {
 intro i hd hi
 obtain rfl : i = a.length := by omega
 exact Ev.step (fun k => by rw [impl_intervalsOf.l0]) (Ev_neg (by omega) (Ev_some rfl))}
 | succ d ih => {
 intro i hd hi
 have next := ih (i + 1) (by omega) (by omega)
 refine Ev.step (fun k => by rw [impl_intervalsOf.l0]) (Ev_pos (by omega) (Ev_pos (by omega) (Ev_pos (by omega) ?_)))
 rw [rd_nat, wrap_succ (i := i) (by omega)]
 exact Ev.bind (build_ivL a g i (by omega) (ivInvL a g i (by omega))).1 next}}
 exact main _ 0 rfl (by omega)
structure CI (a : List Int) (i : Nat) : Prop where
  le : ∀ j, j < i → (ivN a i j).1 ≤ (ivN a i j).2
  lt : ∀ j, j < i → (ivN a i j).2 < ascN a i + 1
  onL : ∀ t, t < ascN a i + 1 → ∃ j, j < i ∧ (ivN a i j).1 = t
  onR : ∀ t, t < ascN a i + 1 → ∃ j, j < i ∧ (ivN a i j).2 = t
  last : ivN a i (i - 1) = ((a.getD (i - 1) 0).toNat, ascN a i)
  least : ∀ j, j < i → (ivN a i j).2 = ascN a i → (a.getD (i - 1) 0).toNat ≤ (ivN a i j).1
theorem ivN_old (a : List Int) (i j : Nat) (h0 : i ≠ 0) (hj : j < i) : ivN a (i + 1) j = if (a.getD i 0).toNat ≤ (a.getD (i - 1) 0).toNat then ivN a i j else bldN (a.getD i 0).toNat (ascN a i + 1) (ivN a i j) := by rw [ivN, if_neg h0, if_pos hj]
theorem ivN_new (a : List Int) (i : Nat) (h0 : i ≠ 0) : ivN a (i + 1) i = ((a.getD i 0).toNat, if (a.getD i 0).toNat ≤ (a.getD (i - 1) 0).toNat then ascN a i else ascN a i + 1) := by rw [ivN, if_neg h0, if_neg (Nat.lt_irrefl i)]
theorem ci_step (a : List Int) (g : AscOk a) (i : Nat) (h0 : 0 < i) (hi : i < a.length) (h : CI a i) : CI a (i + 1) := by
 have hm0 := (g.at_ hi).1
 have hp0 := (g.at_ (show i - 1 < a.length by omega)).1
 have hmb := (g.2 i hi).2
 rw [bndA, if_neg (by omega)] at hmb
 obtain ⟨m, hm⟩ : ∃ m, m = (a.getD i 0).toNat := ⟨_, rfl⟩
 obtain ⟨p, hp⟩ : ∃ p, p = (a.getD (i - 1) 0).toNat := ⟨_, rfl⟩
 have hlast := h.last
 have hleast := h.least
 rw [← hp] at hlast hleast
 have hold := fun j hj => ivN_old a i j (by omega) hj
 have hnew := ivN_new a i (by omega)
 rw [← hm, ← hp] at hold hnew
 have hL := h.le (i - 1) (by omega)
 rw [hlast] at hL
 simp only [] at hL
 by_cases c : m ≤ p
 · {
 have hn : ascN a (i + 1) = ascN a i := by rw [ascN, if_neg (fun hh => by have := hh.2; omega)]; rfl
 rw [if_pos c] at hnew
 have hold : ∀ j, j < i → ivN a (i + 1) j = ivN a i j := fun j hj => by rw [hold j hj, if_pos c]
 refine ⟨fun j hj => ?_, fun j hj => ?_, fun t ht => ?_, fun t ht => ?_, ?_, fun j hj => ?_⟩
 · {
 by_cases e : j < i
 · rw [hold j e]; exact h.le j e
 · {
 obtain rfl : j = i := by omega
 rw [hnew]; show m ≤ ascN a j; omega}}
 · {
 rw [hn]
 by_cases e : j < i
 · rw [hold j e]; exact h.lt j e
 · {
 obtain rfl : j = i := by omega
 rw [hnew]; show ascN a j < _; omega}}
 · {
 rw [hn] at ht
 obtain ⟨j, hj, e⟩ := h.onL t ht
 exact ⟨j, by omega, by rw [hold j hj]; exact e⟩}
 · {
 rw [hn] at ht
 obtain ⟨j, hj, e⟩ := h.onR t ht
 exact ⟨j, by omega, by rw [hold j hj]; exact e⟩}
 · rw [show i + 1 - 1 = i from rfl, hnew, hn, ← hm]
 · {
 rw [hn, show i + 1 - 1 = i from rfl, ← hm]
 by_cases e : j < i
 · rw [hold j e]; intro hh; have := hleast j e hh; omega
 · {
 obtain rfl : j = i := by omega
 rw [hnew]; intro _; exact Nat.le_refl _}}}
 · {
 have hn : ascN a (i + 1) = ascN a i + 1 := by rw [ascN, if_pos ⟨h0, by omega⟩]
 rw [if_neg c] at hnew
 have hold : ∀ j, j < i → ivN a (i + 1) j = bldN m (ascN a i + 1) (ivN a i j) := fun j hj => by rw [hold j hj, if_neg c]
 have hmK : m ≤ ascN a i + 1 := by omega
 refine ⟨fun j hj => ?_, fun j hj => ?_, fun t ht => ?_, fun t ht => ?_, ?_, fun j hj => ?_⟩
 · {
 by_cases e : j < i
 · {
 rw [hold j e]
 have h1 := h.le j e
 unfold bldN
 simp only []
 split <;> split <;> (try split) <;> omega}
 · {
 obtain rfl : j = i := by omega
 rw [hnew]; exact hmK}}
 · {
 rw [hn]
 by_cases e : j < i
 · {
 rw [hold j e]
 have h1 := h.lt j e
 unfold bldN
 simp only []
 split
 · omega
 · split <;> omega}
 · {
 obtain rfl : j = i := by omega
 rw [hnew]; show ascN a j + 1 < _; omega}}
 · {
 rw [hn] at ht
 by_cases e : t < m
 · {
 obtain ⟨j, hj, e2⟩ := h.onL t (by omega)
 exact ⟨j, by omega, by rw [hold j hj]; unfold bldN; simp only []; rw [e2, if_neg (by omega)]⟩}
 · {
 by_cases e1 : t = m
 · exact ⟨i, by omega, by rw [hnew]; exact e1.symm⟩
 · {
 obtain ⟨j, hj, e2⟩ := h.onL (t - 1) (by omega)
 exact ⟨j, by omega, by rw [hold j hj]; unfold bldN; simp only []; rw [e2, if_pos (by omega)]; omega⟩}}}
 · {
 rw [hn] at ht
 by_cases e : t < m
 · {
 obtain ⟨j, hj, e2⟩ := h.onR t (by omega)
 exact ⟨j, by omega, by rw [hold j hj]; unfold bldN; simp only []; rw [e2, if_pos e]⟩}
 · {
 by_cases e1 : t = ascN a i + 1
 · exact ⟨i, by omega, by rw [hnew]; exact e1.symm⟩
 · {
 by_cases e3 : t = m
 · {
 refine ⟨i - 1, by omega, ?_⟩
 rw [hold _ (by omega), hlast]
 unfold bldN
 simp only []
 rw [if_neg (by omega), if_pos ⟨by omega, by omega⟩]
 exact e3.symm}
 · {
 obtain ⟨j, hj, e2⟩ := h.onR (t - 1) (by omega)
 refine ⟨j, by omega, ?_⟩
 rw [hold j hj]
 unfold bldN
 simp only []
 rw [e2, if_neg (by omega), if_neg (fun hh => by omega)]
 omega}}}}
 · rw [show i + 1 - 1 = i from rfl, hnew, hn, ← hm]
 · {
 rw [hn, show i + 1 - 1 = i from rfl, ← hm]
 by_cases e : j < i
 · {
 rw [hold j e]
 have h1 := h.lt j e
 have h2 := hleast j e
 unfold bldN
 simp only []
 by_cases c5 : (ivN a i j).2 < m
 · rw [if_pos c5]; intro hh; omega
 · {
 rw [if_neg c5]
 by_cases c6 : (ivN a i j).2 = ascN a i + 1 - 1 ∧ (ivN a i j).1 < m
 · rw [if_pos c6]; intro hh; omega
 · {
 rw [if_neg c6]
 intro hh
 rw [if_pos (by omega)]
 omega}}}
 · {
 obtain rfl : j = i := by omega
 rw [hnew]; intro _; exact Nat.le_refl _}}}
theorem ci_all (a : List Int) (g : AscOk a) : ∀ i, 0 < i → i ≤ a.length → CI a i
  | 0, h, _ => absurd h (by decide)
  | 1, _, hi => by
    have h1 := (g.at_ (show 0 < a.length by omega)).1
    have hb := (g.2 0 (by omega)).2
    rw [bndA, if_pos rfl] at hb
    have hz : a.getD 0 0 = 0 := by omega
    have hn : ascN a 1 = 0 := by rw [ascN, if_neg (fun hh => absurd hh.1 (by decide))]; rfl
    have hv : ∀ j, ivN a 1 j = (0, 0) := fun j => by rw [ivN, if_pos rfl]
    refine ⟨fun j _ => by rw [hv]; exact Nat.le_refl _, fun j _ => by rw [hv, hn]; decide, fun t ht => ⟨0, by decide, by rw [hv]; omega⟩, fun t ht => ⟨0, by decide, by rw [hv]; omega⟩, ?_, fun j _ _ => ?_⟩
    · rw [hv, hn]; show (0, 0) = ((a.getD 0 0).toNat, 0); rw [hz]; rfl
    · show (a.getD 0 0).toNat ≤ _; rw [hz]; exact Nat.zero_le _
  | i + 2, _, hi => ci_step a g (i + 1) (by omega) (by omega) (ci_all a g (i + 1) (by omega) (by omega))
theorem relRowO (p : Nat → Nat → Bool) (i : Nat) : ∀ n, n ≤ 10 → impl_orderOf.rel.relRow p i n = (setOf (p i) n : Int)
  | 0, _ => rfl
  | n + 1, h => by
    rw [impl_orderOf.rel.relRow, setOf, relRowO p i n (by omega)]
    by_cases c : p i n = true
    · rw [if_pos c, if_pos c, or_bit _ n (by omega) (setOf_lt _ _)]
    · rw [if_neg c, if_neg c]
theorem ordL_get (n : Nat) (hn : n ≤ 10) (L R : Nat → Nat) (i : Nat) (hi : i < n) : (ordL (endL n L R)).getD i 0 = (setOf (fun j => decide (R i < L j)) n : Int) := by
 have hl : (endL n L R).length = n := endL_len n L R
 rw [getD_lt _ _ _ (by simp [ordL, hl]; exact hi)]
 simp only [ordL, List.getElem_map, List.getElem_range]
 rw [hl, relRowO _ _ _ hn]
 congr 1
 refine setOf_congr _ (fun j hj => ?_)
 unfold impl_orderOf.before
 rw [endL_at _ _ _ hi, endL_at _ _ _ hj]
 exact dec_eq ⟨fun h => by simp only [] at h; omega, fun h => by simp only []; omega⟩
theorem ordL_len (n : Nat) (L R : Nat → Nat) : (ordL (endL n L R)).length = n := by simp [ordL, endL_len]
theorem Comp.of_iv (n m : Nat) (hn : n ≤ 10) (L R : Nat → Nat) (le : ∀ i, i < n → L i ≤ R i) (lt : ∀ i, i < n → R i < m) (onL : ∀ t, t < m → ∃ i, i < n ∧ L i = t) (onR : ∀ t, t < m → ∃ i, i < n ∧ R i = t) : Comp (ordL (endL n L R)) m L R := by
 have hl := ordL_len n L R
 refine ⟨⟨by omega, fun x hx => ?_⟩, by rw [hl]; exact le, by rw [hl]; exact lt, by rw [hl]; exact onL, by rw [hl]; exact onR, fun i j hi hj => ?_⟩
 · {
 obtain ⟨i, hi, rfl⟩ := List.getElem_of_mem hx
 rw [hl] at hi
 have := ordL_get n hn L R i hi
 rw [getD_lt _ _ _ (by rw [hl]; exact hi)] at this
 rw [this, hl]
 have h2 := setOf_lt (fun j => decide (R i < L j)) n
 refine ⟨by omega, ?_⟩
 exact_mod_cast h2}
 · {
 rw [hl] at hi hj
 unfold ab
 rw [ordL_get n hn L R i hi, Int.toNat_natCast, setOf_bit, decide_eq_true hj, Bool.true_and]}
theorem built_comp0 (a : List Int) (h0 : a.length = 0) : Comp (ordL (ivL a a.length)) 0 (fun j => (ivN a a.length j).1) (fun j => (ivN a a.length j).2) := by
 unfold ivL
 rw [h0]
 exact Comp.of_iv 0 0 (by decide) _ _ (fun i hi => by omega) (fun i hi => by omega) (fun i hi => by omega) (fun i hi => by omega)
theorem ivN_zero (a : List Int) (g : AscOk a) : ∀ i, i ≤ a.length → ∀ j, j < i → ((ivN a i j).1 = 0 ↔ a.getD j 0 = 0)
  | 0, _, j, hj => by omega
  | i + 1, hi, j, hj => by
    have hm0 := (g.at_ (show i < a.length by omega)).1
    by_cases e0 : i = 0
    · subst e0
      obtain rfl : j = 0 := by omega
      have hb := (g.2 0 (by omega)).2
      rw [bndA, if_pos rfl] at hb
      rw [ivN, if_pos rfl]
      exact ⟨fun _ => by omega, fun _ => rfl⟩
    · by_cases e : j < i
      · have ih := ivN_zero a g i (by omega) j e
        have hp0 := (g.at_ (show i - 1 < a.length by omega)).1
        rw [ivN_old a i j e0 e]
        by_cases c : (a.getD i 0).toNat ≤ (a.getD (i - 1) 0).toNat
        · rw [if_pos c]; exact ih
        · rw [if_neg c]
          unfold bldN
          simp only []
          rw [← ih]
          by_cases c2 : (a.getD i 0).toNat ≤ (ivN a i j).1
          · rw [if_pos c2]; omega
          · rw [if_neg c2]
      · obtain rfl : j = i := by omega
        rw [ivN_new a j e0]
        show (a.getD j 0).toNat = 0 ↔ _
        omega
theorem bldN_spec (m K l r : Nat) (hlr : l ≤ r) (hr : r < K) : (l < m ∧ r < m ∧ bldN m K (l, r) = (l, r)) ∨ (l < m ∧ m ≤ r ∧ r = K - 1 ∧ bldN m K (l, r) = (l, m)) ∨ (l < m ∧ m ≤ r ∧ r < K - 1 ∧ bldN m K (l, r) = (l, r + 1)) ∨ (m ≤ l ∧ bldN m K (l, r) = (l + 1, r + 1)) := by
 unfold bldN
 simp only [Prod.mk.injEq]
 by_cases c : m ≤ l
 · {
 refine .inr (.inr (.inr ⟨c, ?_, ?_⟩))
 · rw [if_pos c]
 · rw [if_neg (by omega), if_neg (fun h => by omega)]}
 · {
 by_cases c2 : r < m
 · exact .inl ⟨by omega, c2, by rw [if_neg c], by rw [if_pos c2]⟩
 · {
 by_cases c3 : r = K - 1
 · exact .inr (.inl ⟨by omega, by omega, c3, by rw [if_neg c], by rw [if_neg c2, if_pos ⟨c3, by omega⟩]⟩)
 · exact .inr (.inr (.inl ⟨by omega, by omega, by omega, by rw [if_neg c], by rw [if_neg c2, if_neg (fun h => c3 h.1)]⟩))}}
def Lf (a : List Int) (i j : Nat) : Nat := (ivN a i j).1
def Rf (a : List Int) (i j : Nat) : Nat := (ivN a i j).2
theorem built_at (a : List Int) (g : AscOk a) (i : Nat) (h0 : 0 < i) (hi : i ≤ a.length) (h10 : i ≤ 10) : Comp (ordL (ivL a i)) (ascN a i + 1) (Lf a i) (Rf a i) := by
 have h := ci_all a g i h0 hi
 exact Comp.of_iv _ _ h10 _ _ h.le h.lt h.onL h.onR
theorem ite_iff {P Q : Prop} [Decidable P] [Decidable Q] (h : P ↔ Q) : (if P then (1 : Int) else 0) = if Q then 1 else 0 := by
 by_cases c : P
 · rw [if_pos c, if_pos (h.1 c)]
 · rw [if_neg c, if_neg (fun q => c (h.2 q))]
theorem cnt_zero {n : Nat} {L R : Nat → Nat} {b c : Nat} (h : ∀ j, j < n → ¬ (L j = b ∧ R j = c)) : cntM n L R b c = 0 := by
 unfold cntM
 rw [sumZ_zero (ones_nn n (fun q => L q = b ∧ R q = c))]
 exact fun j hj => if_neg (h j hj)
theorem cnt_iff {n : Nat} {L R L' R' : Nat → Nat} {b c b' c' : Nat} (h : ∀ j, j < n → (L j = b ∧ R j = c ↔ L' j = b' ∧ R' j = c')) : cntM n L R b c = cntM n L' R' b' c' := sumZ_congr (fun j hj => ite_iff (h j hj))
theorem matA_built (a : List Int) (g : AscOk a) (h10 : a.length ≤ 10) : ∀ i, i ≤ a.length → matA a i = matO (if i = 0 then 0 else ascN a i + 1) i (Lf a i) (Rf a i)
  | 0, _ => rfl
  | i + 1, hi => by
    have ih := matA_built a g h10 i (by omega)
    have hm0 := (g.at_ (show i < a.length by omega)).1
    have hmb := (g.2 i (by omega)).2
    obtain ⟨m, hm⟩ : ∃ m, m = (a.getD i 0).toNat := ⟨_, rfl⟩
    rw [matA, if_neg (show ¬ (i + 1 = 0) by omega), ← hm]
    by_cases e0 : i = 0
    · subst e0
      rw [bndA, if_pos rfl] at hmb
      have hz : m = 0 := by omega
      have hn : ascN a 1 = 0 := by rw [ascN, if_neg (fun hh => absurd hh.1 (by decide))]; rfl
      have hv : ∀ j, ivN a 1 j = (0, 0) := fun j => by rw [ivN, if_pos rfl]
      have h1 : Lf a 1 = fun _ => 0 := funext fun j => by unfold Lf; rw [hv]
      have h2 : Rf a 1 = fun _ => 0 := funext fun j => by unfold Rf; rw [hv]
      rw [hz, show 0 + 1 = 1 from rfl, hn, h1, h2]
      rfl
    · rw [if_neg e0] at ih
      have hci := ci_all a g i (by omega) (by omega)
      have hcp := built_at a g i (by omega) (by omega) (by omega)
      have hM := hcp.isMat
      have hlen : (ordL (ivL a i)).length = i := ordL_len _ _ _
      rw [hlen, ← ih] at hM
      have hML : (matA a i).length = ascN a i + 1 := by rw [ih]; exact matF_length _ _
      have hen : ∀ b c, b < ascN a i + 1 → c < ascN a i + 1 → en (matA a i) b c = cntM i (Lf a i) (Rf a i) b c := fun b c hb hc => by rw [ih]; exact matF_en _ _ hb hc
      have htop := (matA_inv a g i (by omega)).2.2 (by omega)
      have hp0 := (g.at_ (show i - 1 < a.length by omega)).1
      obtain ⟨p, hp⟩ : ∃ p, p = (a.getD (i - 1) 0).toNat := ⟨_, rfl⟩
      rw [bndA, if_neg e0] at hmb
      have hnew := ivN_new a i e0
      have hold := fun j hj => ivN_old a i j e0 hj
      rw [← hm, ← hp] at hnew hold
      have hsucc : ∀ b c, cntM (i + 1) (Lf a (i + 1)) (Rf a (i + 1)) b c = cntM i (Lf a (i + 1)) (Rf a (i + 1)) b c + if Lf a (i + 1) i = b ∧ Rf a (i + 1) i = c then 1 else 0 := fun b c => rfl
      obtain ⟨K, hK⟩ : ∃ K, K = ascN a i + 1 := ⟨_, rfl⟩
      by_cases c : m ≤ p
      · have hn : ascN a (i + 1) = ascN a i := by rw [ascN, if_neg (fun hh => by have := hh.2; omega)]; rfl
        have hLn : Lf a (i + 1) i = m := by unfold Lf; rw [hnew]
        have hRn : Rf a (i + 1) i = ascN a i := by unfold Rf; rw [hnew, if_pos c]
        have hmK : m < (matA a i).length := by
          have := (topI_lt (matA a i)).1
          omega
        have e : growM (matA a i) m = gD.inc (matA a i) m := by rw [growM, if_pos (by omega)]
        rw [e, hn]
        refine mat_ext (by rw [inc_len, hML]; exact (matF_length _ _).symm) (fun b hb => ?_) (fun b d hb hd => ?_)
        · rw [inc_len, hML] at hb
          rw [inc_row _ _ hmK, (hM.2.1 b (by omega)).1, hML]
          unfold matO
          rw [matF_row _ _ hb]; simp
        · rw [inc_len, hML] at hb
          rw [inc_row _ _ hmK, (hM.2.1 b (by omega)).1, hML] at hd
          rw [inc_en _ hM.2.1 _ hmK, hen b d hb hd]
          unfold matO
          rw [matF_en _ _ hb hd, hsucc, hLn, hRn]
          congr 1
          · refine cnt_iff (fun j hj => ?_)
            unfold Lf Rf
            rw [hold j hj, if_pos c]
          · exact ite_iff (by rw [hML]; omega)
      · have hn : ascN a (i + 1) = K := by rw [ascN, if_pos ⟨by omega, by omega⟩, hK]
        have hLn : Lf a (i + 1) i = m := by unfold Lf; rw [hnew]
        have hRn : Rf a (i + 1) i = K := by unfold Rf; rw [hnew, if_neg c, hK]
        have hmK : m ≤ K := by omega
        have hG : growM (matA a i) m = (List.range ((matA a i).length + 1)).map (gRow (matA a i) m (matA a i).length) := by rw [growM, if_neg (by omega)]
        rw [← hK] at hML hen hold
        have hcell : ∀ j, j < i → (Lf a i j < m ∧ Rf a i j < m ∧ Lf a (i + 1) j = Lf a i j ∧ Rf a (i + 1) j = Rf a i j) ∨ (Lf a i j < m ∧ m ≤ Rf a i j ∧ Rf a i j = K - 1 ∧ Lf a (i + 1) j = Lf a i j ∧ Rf a (i + 1) j = m) ∨ (Lf a i j < m ∧ m ≤ Rf a i j ∧ Rf a i j < K - 1 ∧ Lf a (i + 1) j = Lf a i j ∧ Rf a (i + 1) j = Rf a i j + 1) ∨ (m ≤ Lf a i j ∧ Lf a (i + 1) j = Lf a i j + 1 ∧ Rf a (i + 1) j = Rf a i j + 1) := by
          intro j hj
          have h1 := hci.le j hj
          have h2 := hci.lt j hj
          have h3 := bldN_spec m K (ivN a i j).1 (ivN a i j).2 h1 (by omega)
          have h4 := hold j hj
          rw [if_neg c] at h4
          unfold Lf Rf
          rw [h4]
          rcases h3 with ⟨x1, x2, x3⟩ | ⟨x1, x2, x3, x4⟩ | ⟨x1, x2, x3, x4⟩ | ⟨x1, x2⟩
          · rw [x3]; exact .inl ⟨x1, x2, rfl, rfl⟩
          · rw [x4]; exact .inr (.inl ⟨x1, x2, x3, rfl, rfl⟩)
          · rw [x4]; exact .inr (.inr (.inl ⟨x1, x2, x3, rfl, rfl⟩))
          · rw [x2]; exact .inr (.inr (.inr ⟨x1, rfl, rfl⟩))
        have hlr : ∀ j, j < i → Lf a i j ≤ Rf a i j ∧ Rf a i j < K := fun j hj => ⟨hci.le j hj, by have := hci.lt j hj; unfold Rf; omega⟩
        rw [hG, hn, hML]
        refine mat_ext (by simp [matO, matF]) (fun b hb => ?_) (fun b d hb hd => ?_)
        · rw [List.length_map, List.length_range] at hb
          rw [getD_map_range _ _ hb]
          unfold matO
          rw [matF_row _ _ hb, List.length_map, List.length_range]
          have hx : m ≤ (matA a i).length := by omega
          unfold gRow
          by_cases e1 : b = m
          · rw [if_pos e1]; simp
          · rw [if_neg e1]
            by_cases e2 : m < b
            · rw [if_pos e2, List.length_insertIdx, (hM.2.1 (b - 1) (by omega)).1, if_pos (by omega), hML]
            · rw [if_neg e2]
              have hr := (hM.2.1 b (by omega)).1
              by_cases e3 : m < K
              · rw [if_pos e3, gD.fix, List.length_set, List.length_set, List.length_insertIdx, hr, if_pos (by omega), hML]
              · rw [if_neg e3, List.length_insertIdx, hr, if_pos (by omega), hML]
        · rw [List.length_map, List.length_range] at hb
          have hd' : d < K + 1 := by
            rw [getD_map_range _ _ hb] at hd
            have hx : m ≤ (matA a i).length := by omega
            unfold gRow at hd
            by_cases e1 : b = m
            · rw [if_pos e1] at hd; simp at hd; omega
            · rw [if_neg e1] at hd
              by_cases e2 : m < b
              · rw [if_pos e2, List.length_insertIdx, (hM.2.1 (b - 1) (by omega)).1, if_pos (by omega), hML] at hd; exact hd
              · rw [if_neg e2] at hd
                have hr := (hM.2.1 b (by omega)).1
                by_cases e3 : m < K
                · rw [if_pos e3, gD.fix, List.length_set, List.length_set, List.length_insertIdx, hr, if_pos (by omega), hML] at hd; exact hd
                · rw [if_neg e3, List.length_insertIdx, hr, if_pos (by omega), hML] at hd; exact hd
          have e1 : en ((List.range (K + 1)).map (gRow (matA a i) m K)) b d = wEn (matA a i) m b d := by
            unfold en
            rw [getD_map_range _ _ hb, ← hML]
            exact gRow_en _ hM.2.1 m (by omega) b d (by omega) (by omega)
          rw [e1]
          unfold matO
          rw [matF_en _ _ hb hd', hsucc, hLn, hRn]
          unfold wEn
          rw [hML]
          by_cases f1 : b = m
          · rw [if_pos f1, cnt_zero (fun j hj hh => by rcases hcell j hj with h | h | h | h <;> omega), Int.zero_add]
            exact ite_iff (by omega)
          · rw [if_neg f1, if_neg (show ¬ (m = b ∧ K = d) by omega), Int.add_zero]
            by_cases f2 : b < m ∧ m < K
            · rw [if_pos f2]
              by_cases f3 : d = K
              · rw [if_pos f3, cnt_zero (fun j hj hh => by rcases hcell j hj with h | h | h | h <;> omega)]
              · rw [if_neg f3]
                by_cases f4 : d = m
                · rw [if_pos f4, hen b (K - 1) (by omega) (by omega)]
                  exact cnt_iff (fun j hj => by have := hlr j hj; rcases hcell j hj with h | h | h | h <;> omega)
                · rw [if_neg f4]
                  by_cases f5 : d < m
                  · rw [dnx_lt f5, hen b d (by omega) (by omega)]
                    exact cnt_iff (fun j hj => by have := hlr j hj; rcases hcell j hj with h | h | h | h <;> omega)
                  · rw [dnx_ge (by omega), hen b (d - 1) (by omega) (by omega)]
                    exact cnt_iff (fun j hj => by have := hlr j hj; rcases hcell j hj with h | h | h | h <;> omega)
            · rw [if_neg f2]
              by_cases f4 : d = m
              · rw [if_pos f4, cnt_zero (fun j hj hh => by have := hlr j hj; rcases hcell j hj with h | h | h | h <;> omega)]
              · rw [if_neg f4]
                by_cases f5 : d < m
                · rw [dnx_lt f5]
                  by_cases f6 : b < m
                  · rw [dnx_lt f6, hen b d (by omega) (by omega)]
                    exact cnt_iff (fun j hj => by have := hlr j hj; rcases hcell j hj with h | h | h | h <;> omega)
                  · rw [dnx_ge (by omega), hen (b - 1) d (by omega) (by omega)]
                    exact cnt_iff (fun j hj => by have := hlr j hj; rcases hcell j hj with h | h | h | h <;> omega)
                · rw [dnx_ge (x := m) (j := d) (by omega)]
                  by_cases f6 : b < m
                  · omega
                  · rw [dnx_ge (by omega), hen (b - 1) (d - 1) (by omega) (by omega)]
                    exact cnt_iff (fun j hj => by have := hlr j hj; rcases hcell j hj with h | h | h | h <;> omega)
theorem ivL_succ (a : List Int) (i : Nat) : ivL a (i + 1) = ((List.range i).map fun (j : Nat) => toS (ivN a (i + 1) j)) ++ [toS (ivN a (i + 1) i)] := by
 unfold ivL endL toS
 rw [List.range_succ, List.map_append]
 rfl
theorem ivL_map (a : List Int) (i : Nat) : ivL a i = (List.range i).map fun (j : Nat) => toS (ivN a i j) := rfl
def kx (a : List Int) (i : Nat) : Nat := if i = 0 then 0 else ascN a i + 1
theorem least_eq (a b : Int) : spec_l1Least.f a b = some (if a < b then a else b) := by
 unfold spec_l1Least.f
 by_cases h : a < b
 · rw [if_pos h, if_pos h]
 · rw [if_neg h, if_neg h]
theorem asGrow_l1 (a : List Int) (g : AscOk a) (i : Nat) (h0 : 0 < i) (hi : i < a.length) (m : Nat) (hm : a.getD i 0 = (m : Int)) (c : ¬ m ≤ (a.getD (i - 1) 0).toNat) (hmK : m ≤ ascN a i + 1) :
    ∀ (d q : Nat), i - q = d → q ≤ i → Ev (fun k => spec_asGrow.l1 k (m : Int) ((ascN a i + 1 : Nat) : Int) ((List.range q).map fun (j : Nat) => toS (ivN a (i + 1) j)) (ivL a i) (i : Int) (q : Int)) (ivL a (i + 1), ((ascN a i + 1 + 1 : Nat) : Int)) := by
 have hci := ci_all a g i h0 (by omega)
 have hl := g.1
 have hasc := ascN_le a i
 have hmn : (a.getD i 0).toNat = m := by rw [hm]; rfl
 intro d
 induction d with
 | zero => {
 intro q hd hq
 obtain rfl : q = i := by omega
 refine Ev.step (fun k => by rw [spec_asGrow.l1]) (Ev_neg (by omega) (Ev_pos (by simp; omega) (Ev_some ?_)))
 rw [wrap_succ (by omega), ivL_succ, ivN_new a q (by omega), hmn, if_neg c]
 rfl}
 | succ d ih => {
 intro q hd hq
 have next := ih (q + 1) (by omega) (by omega)
 rw [List.range_succ, List.map_append] at next
 have h1 := hci.le q (by omega)
 have h2 := hci.lt q (by omega)
 have hold := ivN_old a i q (by omega) (by omega)
 rw [hmn, if_neg c] at hold
 have hsp := bldN_spec m (ascN a i + 1) (ivN a i q).1 (ivN a i q).2 h1 h2
 have hL : (ivN a i q) = ((ivN a i q).1, (ivN a i q).2) := rfl
 rw [← hL] at hsp
 rw [List.map_cons, List.map_nil, hold] at next
 refine Ev.step (fun k => by rw [spec_asGrow.l1]) (Ev_pos (by omega) (Ev_pos (by omega) (Ev_pos (by rw [ivL_len]; omega) ?_)))
 rw [ivL_at a i q (by omega), wrap_succ (i := q) (by omega)]
 have hlen : ((List.range q).map fun (j : Nat) => toS (ivN a (i + 1) j)).length < 8796093022208 := by simp; omega
 generalize ivN a i q = x at h1 h2 hsp next ⊢
 generalize ((List.range q).map fun (j : Nat) => toS (ivN a (i + 1) j)) = P at hlen next ⊢
 generalize ivL a (i + 1) = Z at next ⊢
 generalize ivL a i = Y at next ⊢
 obtain ⟨l, r⟩ := x
 simp only [] at h1 h2 hsp
 have w1 : wrap64 ((l : Int) + 1) = ((l + 1 : Nat) : Int) := wrap_succ (by omega)
 have w2 : wrap64 ((r : Int) + 1) = ((r + 1 : Nat) : Int) := wrap_succ (by omega)
 have w3 : wrap64 (((ascN a i + 1 : Nat) : Int) - 1) = (ascN a i : Int) := by rw [wrap_small (by omega) (by omega)]; omega
 have w4 := wrap_succ (i := q) (by omega)
 simp only [toS] at next ⊢
 rw [w1, w2, w3]
 have j3t : ∀ (u v : Int) (R : List S76 × Int), Ev (fun k => if (l : Int) ≥ (m : Int) then (if P.length < 8796093022208 then (spec_asGrow.l1 k (m : Int) ((ascN a i + 1 : Nat) : Int) (P ++ [(⟨wrap64 ((l : Int) + 1), (m : Int)⟩ : S76)]) Y (i : Int) (wrap64 ((q : Int) + 1))) else none) else (if P.length < 8796093022208 then (spec_asGrow.l1 k (m : Int) ((ascN a i + 1 : Nat) : Int) (P ++ [(⟨u, (m : Int)⟩ : S76)]) Y (i : Int) (wrap64 ((q : Int) + 1))) else none)) R → Ev (fun k => spec_asGrow.j3 k (m : Int) ((ascN a i + 1 : Nat) : Int) P Y (i : Int) (q : Int) true (l : Int) (r : Int) u v) R := fun u v R h => Ev.step (fun k => by rw [spec_asGrow.j3]) (Ev_pos rfl h)
 have j3f : ∀ (u v : Int) (R : List S76 × Int), Ev (fun k => if (l : Int) ≥ (m : Int) then (if P.length < 8796093022208 then (spec_asGrow.l1 k (m : Int) ((ascN a i + 1 : Nat) : Int) (P ++ [(⟨wrap64 ((l : Int) + 1), v⟩ : S76)]) Y (i : Int) (wrap64 ((q : Int) + 1))) else none) else (if P.length < 8796093022208 then (spec_asGrow.l1 k (m : Int) ((ascN a i + 1 : Nat) : Int) (P ++ [(⟨u, v⟩ : S76)]) Y (i : Int) (wrap64 ((q : Int) + 1))) else none)) R → Ev (fun k => spec_asGrow.j3 k (m : Int) ((ascN a i + 1 : Nat) : Int) P Y (i : Int) (q : Int) false (l : Int) (r : Int) u v) R := fun u v R h => Ev.step (fun k => by rw [spec_asGrow.j3]) (Ev_neg Bool.false_ne_true h)
 rw [w1, w4] at j3t j3f
 clear w1 w2 w3 w4 hasc hmn hl hci hold hL hmK hm hi
 rcases hsp with ⟨x1, x2, x3⟩ | ⟨x1, x2, x3, x4⟩ | ⟨x1, x2, x3, x4⟩ | ⟨x1, x2⟩
 · {
 rw [x3] at next
 have y1 : ¬ (r : Int) ≥ (m : Int) := by omega
 have y2 : ¬ (l : Int) ≥ (m : Int) := by omega
 exact Ev_neg y1 (Ev_neg y2 (Ev_pos hlen next))}
 · {
 rw [x4] at next
 have y1 : (r : Int) ≥ (m : Int) := by omega
 have y2 : ¬ (l : Int) ≥ (m : Int) := by omega
 have y3 : (r : Int) = (ascN a i : Int) := by omega
 refine Ev_pos y1 (Ev_pos y3 ?_)
 have hd : @decide ((l : Int) < (m : Int)) ((toS (l, r)).f0.decLt (m : Int)) = true := decide_eq_true (by omega)
 rw [hd]
 exact j3t _ _ _ (Ev_neg y2 (Ev_pos hlen next))}
 · {
 rw [x4] at next
 have y1 : (r : Int) ≥ (m : Int) := by omega
 have y2 : ¬ (l : Int) ≥ (m : Int) := by omega
 have y3 : ¬ (r : Int) = (ascN a i : Int) := by omega
 exact Ev_pos y1 (Ev_neg y3 (j3f _ _ _ (Ev_neg y2 (Ev_pos hlen next))))}
 · {
 rw [x2] at next
 have y1 : (r : Int) ≥ (m : Int) := by omega
 have y2 : (l : Int) ≥ (m : Int) := by omega
 refine Ev_pos y1 ?_
 by_cases f : (r : Int) = (ascN a i : Int)
 · {
 refine Ev_pos f ?_
 have hd : @decide ((l : Int) < (m : Int)) ((toS (l, r)).f0.decLt (m : Int)) = false := decide_eq_false (by omega)
 rw [hd]
 exact j3f _ _ _ (Ev_pos y2 (Ev_pos hlen next))}
 · exact Ev_neg f (j3f _ _ _ (Ev_pos y2 (Ev_pos hlen next)))}}
theorem asGrow_ev (a : List Int) (g : AscOk a) (i : Nat) (hi : i < a.length) : Ev (fun k => spec_asGrow.f k (ivL a i) (a.getD i 0) (kx a i : Int)) (ivL a (i + 1), (kx a (i + 1) : Int)) := by
  have hl := g.1
  have hasc := ascN_le a i
  have hm0 := (g.at_ hi).1
  have hmb := (g.2 i hi).2
  unfold spec_asGrow.f
  rw [ivL_len]
  by_cases e0 : i = 0
  · subst e0
    rw [bndA, if_pos rfl] at hmb
    have hz : a.getD 0 0 = 0 := by omega
    have hn : ascN a 1 = 0 := by rw [ascN, if_neg (fun hh => absurd hh.1 (by decide))]; rfl
    have hk1 : kx a (0 + 1) = 1 := by unfold kx; rw [if_neg (by decide), hn]
    have hk0 : kx a 0 = 0 := rfl
    have hv : ivL a (0 + 1) = [(⟨0, 0⟩ : S76)] := by
      rw [ivL_succ, ivN, if_pos rfl]; rfl
    rw [hz, hk0, hk1, hv]
    refine Ev.step (fun k => by rw [spec_asGrow.l0]) (Ev_neg (by omega) (Ev_pos (by omega) (Ev.step (fun k => by rw [spec_asGrow.j1]) (Ev_neg (by decide) (Ev.step (fun k => by rw [spec_asGrow.l1]) (Ev_neg (by rw [ivL_len]; decide) (Ev_pos (by decide) (Ev_some ?_))))))))
    rw [show wrap64 (((0 : Nat) : Int) + 1) = ((1 : Nat) : Int) from wrap_succ (by omega)]
    rfl
  · have hci := ci_all a g i (by omega) (by omega)
    rw [bndA, if_neg e0] at hmb
    have hp0 := (g.at_ (show i - 1 < a.length by omega)).1
    obtain ⟨m, hm⟩ : ∃ m : Nat, a.getD i 0 = (m : Int) := ⟨(a.getD i 0).toNat, by omega⟩
    obtain ⟨p, hp⟩ : ∃ p : Nat, a.getD (i - 1) 0 = (p : Int) := ⟨(a.getD (i - 1) 0).toNat, by omega⟩
    have hlast := hci.last
    have hleast := hci.least
    rw [hp, Int.toNat_natCast] at hlast hleast
    have hLL := hci.le (i - 1) (by omega)
    rw [hlast] at hLL
    simp only [] at hLL
    have hkx : kx a i = ascN a i + 1 := if_neg e0
    rw [hm, hkx]
    have l0 : ∀ (R : List S76 × Int), Ev (fun k => if (m : Int) ≤ (p : Int) then (spec_asGrow.j1 k (ivL a i) (m : Int) ((ascN a i + 1 : Nat) : Int) (decide (((ascN a i + 1 : Nat) : Int) > 0))) else (spec_asGrow.j1 k (ivL a i) (m : Int) ((ascN a i + 1 : Nat) : Int) false)) R →
        ∀ (d q : Nat) (s : Int), i - q = d → q ≤ i → (p : Int) ≤ s → (i - 1 < q → s ≤ (p : Int)) → Ev (fun k => spec_asGrow.l0 k (ivL a i) (m : Int) ((ascN a i + 1 : Nat) : Int) s (ivL a i) (i : Int) (q : Int)) R := by
      intro R hR d
      induction d with
      | zero =>
        intro q s hd hq h1 h2
        obtain rfl : q = i := by omega
        obtain rfl : s = (p : Int) := by have := h2 (by omega); omega
        exact Ev.step (fun k => by rw [spec_asGrow.l0]) (Ev_neg (by omega) hR)
      | succ d ih =>
        intro q s hd hq h1 h2
        refine Ev.step (fun k => by rw [spec_asGrow.l0]) (Ev_pos (by omega) (Ev_pos (by omega) (Ev_pos (by rw [ivL_len]; omega) ?_)))
        rw [ivL_at a i q (by omega), wrap_succ (i := q) (by omega), show wrap64 (((ascN a i + 1 : Nat) : Int) - 1) = (ascN a i : Int) by rw [wrap_small (by omega) (by omega)]; omega]
        simp only [toS]
        by_cases c3 : (ivN a i q).2 = ascN a i
        · have h4 := hleast q (by omega) c3
          refine Ev_pos (by omega) ?_
          rw [least_eq]
          refine Ev_val rfl (ih (q + 1) _ (by omega) (by omega) (by split <;> omega) (fun hh => ?_))
          by_cases e : q = i - 1
          · rw [e, hlast]; simp only []; split <;> omega
          · have := h2 (by omega); split <;> omega
        · refine Ev_neg (by omega) (ih (q + 1) s (by omega) (by omega) h1 (fun hh => ?_))
          by_cases e : q = i - 1
          · rw [e, hlast] at c3; exact absurd rfl c3
          · exact h2 (by omega)
    refine l0 _ ?_ i 0 _ (by omega) (by omega) (by omega) (fun hh => by omega)
    have hmn : (a.getD i 0).toNat = m := by rw [hm]; rfl
    have hpn : (a.getD (i - 1) 0).toNat = p := by rw [hp]; rfl
    by_cases c : m ≤ p
    · have hn : ascN a (i + 1) = ascN a i := by rw [ascN, if_neg (fun hh => by have := hh.2; omega)]; rfl
      have hk2 : kx a (i + 1) = ascN a i + 1 := by unfold kx; rw [if_neg (by omega), hn]
      have hA : ([] : List S76).length + (ivL a i).length < 8796093022208 := by rw [ivL_len]; simp; omega
      have hB : (([] : List S76) ++ ivL a i).length < 8796093022208 := by rw [List.nil_append, ivL_len]; omega
      have j1v : Ev (fun k => spec_asGrow.j1 k (ivL a i) (m : Int) ((ascN a i + 1 : Nat) : Int) true) (([] ++ ivL a i) ++ [(⟨(m : Int), wrap64 (((ascN a i + 1 : Nat) : Int) - 1)⟩ : S76)], ((ascN a i + 1 : Nat) : Int)) := by
        refine Ev.step (f := fun _ => some _) (fun k => ?_) (Ev_some rfl)
        rw [spec_asGrow.j1, if_pos rfl, Option.bind_some, if_pos hA, Option.bind_some, if_pos hB]
      refine Ev_eq (Ev_pos (show (m : Int) ≤ (p : Int) by omega) (by rw [decide_eq_true (show ((ascN a i + 1 : Nat) : Int) > 0 by omega)]; exact j1v)) ?_
      rw [hk2, List.nil_append, ivL_succ, ivN_new a i e0, hmn, hpn, if_pos c, show wrap64 (((ascN a i + 1 : Nat) : Int) - 1) = (ascN a i : Int) by rw [wrap_small (by omega) (by omega)]; omega]
      congr 2
      rw [ivL_map]
      refine List.map_congr_left (fun j hj => ?_)
      rw [ivN_old a i j e0 (List.mem_range.1 hj), hmn, hpn, if_pos c]
    · have hn : ascN a (i + 1) = ascN a i + 1 := by rw [ascN, if_pos ⟨by omega, by omega⟩]
      have hk2 : kx a (i + 1) = ascN a i + 1 + 1 := by unfold kx; rw [if_neg (by omega), hn]
      rw [hk2]
      refine Ev_neg (by omega) (Ev.step (fun k => by rw [spec_asGrow.j1]) (Ev_neg (by decide) ?_))
      rw [ivL_len]
      exact asGrow_l1 a g i (by omega) hi m hm (by rw [hpn]; exact c) (by omega) i 0 (by omega) (by omega)
theorem asIntervals_ev (a : List Int) (g : AscOk a) : Ev (fun k => spec_asIntervals.f k a) (ivL a a.length) := by
 have hl := g.1
 unfold spec_asIntervals.f
 have main : ∀ (d i : Nat), a.length - i = d → i ≤ a.length → Ev (fun k => spec_asIntervals.l0 k (ivL a i) (kx a i : Int) a (a.length : Int) (i : Int)) (ivL a a.length) := by {
 intro d
 induction d with
 | zero => {
 intro i hd hi
 obtain rfl : i = a.length := by omega
 exact Ev.step (fun k => by rw [spec_asIntervals.l0]) (Ev_neg (by omega) (Ev_some rfl))}
 | succ d ih => {
 intro i hd hi
 have next := ih (i + 1) (by omega) (by omega)
 refine Ev.step (fun k => by rw [spec_asIntervals.l0]) (Ev_pos (by omega) (Ev_pos (by omega) (Ev_pos (by omega) ?_)))
 rw [rd_nat, wrap_succ (i := i) (by omega)]
 exact Ev.bind (asGrow_ev a g i (by omega)) next}}
 exact main _ 0 rfl (by omega)
def zeroN (l : List Int) : Nat → Nat
  | 0 => 0
  | i + 1 => zeroN l i + if l.getD i 0 = 0 then 1 else 0
theorem isMat_nil : isMat [] := ⟨by decide, fun i hi => absurd hi (Nat.not_lt_zero _), fun i hi => absurd hi (Nat.not_lt_zero _), fun i hi => absurd hi (Nat.not_lt_zero _), by decide⟩
theorem matA_all (l : List Int) (g : AscOk l) : ∀ i, i ≤ l.length → isMat (matA l i) ∧ allZ (matA l i) = (i : Int) ∧ (if (matA l i).length = 0 then 0 else rowZ (matA l i) 0) = (zeroN l i : Int)
  | 0, _ => ⟨isMat_nil, rfl, rfl⟩
  | i + 1, hi => by
    obtain ⟨h1, h2, h3⟩ := matA_all l g i (by omega)
    obtain ⟨_, x, hx, hxl, hm⟩ := matA_step l g i (by omega)
    have hl := g.1
    obtain ⟨k1, k2, _, k4, k5⟩ := grow_isMat (matA l i) h1 (by omega) x hxl
    rw [← hm] at k1 k2 k4 k5
    refine ⟨k1, by omega, ?_⟩
    have hne : (matA l (i + 1)).length ≠ 0 := by
      have := topI_lt (matA l i)
      rw [k4]; split <;> omega
    rw [if_neg hne, k5, h3, zeroN, hx]
    by_cases c : x = 0
    · rw [if_pos c, if_pos (by omega)]; rfl
    · rw [if_neg c, if_neg (by omega)]; rfl
theorem Shk.small {m : List (List Int)} (g : Shk m) : Small m := ⟨by have := g.1; omega, fun r hr => by
  obtain ⟨i, hi, rfl⟩ := List.getElem_of_mem hr
  rw [← getD_lt m i [] hi, (g.2.1 i hi).1]; have := g.1; omega⟩
theorem ascent_matA (l : List Int) (g : AscOk l) : ∀ i, i ≤ l.length → ∀ acc : List Int, acc.length + i ≤ 1000 → Ev (fun k => impl_Matrix_ascent.l0 k acc (matA l i)) (l.take i ++ acc.reverse)
  | 0, _, acc, ha => by
    refine Ev.step (fun _ => rfl) (Ev_val (show impl_Matrix_size.f (matA l 0) = some ((matA l 0).length : Int) from rfl) (Ev_neg (show ¬ (((matA l 0).length : Nat) : Int) > 0 by rw [matA]; decide) (Ev.bind (reverse_ev acc (by omega)) (Ev_some (by simp)))))
  | i + 1, hi, acc, ha => by
    obtain ⟨h1, h2, h3⟩ := matA_all l g i (by omega)
    obtain ⟨k1, k2, k3⟩ := matA_all l g (i + 1) hi
    obtain ⟨_, x, hx, hxl, hm⟩ := matA_step l g i (by omega)
    have hl := g.1
    have hp : 0 < (matA l (i + 1)).length := by
      apply Classical.byContradiction; intro hn
      have hz : (matA l (i + 1)).length = 0 := by omega
      have : allZ (matA l (i + 1)) = 0 := by unfold allZ; rw [hz]; rfl
      omega
    have hs := shrink_grow (matA l i) h1 (by omega) x hxl
    rw [← hm] at hs
    have he := shrunk_ev (matA l (i + 1)) k1.shk k1.shk.small hp
    rw [hs] at he
    have next := ascent_matA l g i (by omega) (acc ++ [(x : Int)]) (by rw [List.length_append, List.length_singleton]; omega)
    have hlen : acc.length < 17592186044416 := by omega
    refine Ev_eq (Ev.step (fun _ => rfl) (Ev_val (show impl_Matrix_size.f (matA l (i + 1)) = some ((matA l (i + 1)).length : Int) from rfl) (Ev_pos (by omega) (Ev.bind he (Ev_pos hlen next))))) ?_
    rw [List.reverse_append, List.take_add_one, List.getElem?_eq_getElem (by omega), ← getD_lt l i 0 (by omega), hx]
    simp
theorem pSameIv_refl (I : List S76) (h : I.length ≤ 1000000) : Ev (fun k => laws_pSameIntervals.f k I I) true := by
 unfold laws_pSameIntervals.f
 refine Ev_pos rfl ?_
 have main : ∀ (d i : Nat), I.length - i = d → i ≤ I.length → Ev (fun k => laws_pSameIntervals.l0 k I I (I.length : Int) (i : Int)) true := by {
 intro d
 induction d with
 | zero => {
 intro i hd hi
 obtain rfl : i = I.length := by omega
 exact Ev.step (fun k => by rw [laws_pSameIntervals.l0]) (Ev_neg (by omega) (Ev_some rfl))}
 | succ d ih => {
 intro i hd hi
 have next := ih (i + 1) (by omega) (by omega)
 refine Ev.step (fun k => by rw [laws_pSameIntervals.l0]) (Ev_pos (by omega) (Ev_pos (by omega) (Ev_pos (by omega) (Ev_pos (by omega) (Ev_neg (by simp) ?_)))))
 rw [wrap_succ (i := i) (by omega)]; exact next}}
 exact main _ 0 rfl (by omega)
theorem pSameOrd_refl (z : Int) (l : List Int) (h : l.length ≤ 1048576) : Ev (fun k => laws_pSameOrder.f k z l z l) true := by
 unfold laws_pSameOrder.f
 exact Ev_pos rfl (Ev.bind (pSame_refl l h) (Ev_some rfl))
def okA (a : List Int) : Prop := AscOk a ∧ a.length ≤ 10
instance instOkA (a : List Int) : Decidable (okA a) := inferInstanceAs (Decidable (_ ∧ _))
def ivR (a : List Int) : List S76 × Bool := if okA a then (ivL a a.length, true) else ([], false)
def ordR (a : List Int) : Int × List Int × Bool := if okA a then ((a.length : Int), ordL (ivL a a.length), true) else (0, [], false)
theorem small_ev (a : List Int) (h : a.length ≤ 1048576) : Ev (fun k => impl_isSmallAscent.f k a) (decide (okA a)) := by
 unfold impl_isSmallAscent.f
 refine Ev.bind (isAscent_ev a h) ?_
 by_cases g : AscOk a
 · refine Ev_pos (decide_eq_true g) (Ev_some (dec_eq ⟨fun hh => ⟨g, by omega⟩, fun hh => by have := hh.2; omega⟩))
 · {
 refine Ev_neg (by simpa using g) (Ev_some ?_)
 rw [decide_eq_false (fun hh : okA a => g hh.1)]}
theorem implIv_ev (a : List Int) (h : a.length ≤ 1048576) : Ev (fun k => impl_IntervalsOfAscent.f k a) (ivR a) := by
 unfold impl_IntervalsOfAscent.f ivR
 refine Ev.bind (small_ev a h) ?_
 by_cases g : okA a
 · rw [if_pos g]; exact Ev_pos (decide_eq_true g) (Ev.bind (intervalsOf_ev a g.1) (Ev_some rfl))
 · rw [if_neg g]; exact Ev_neg (by simpa using g) (Ev_some rfl)
theorem specIv_ev (a : List Int) (h : a.length ≤ 1048576) : Ev (fun k => spec_IntervalsOfAscent.f k a) (ivR a) := by
 unfold spec_IntervalsOfAscent.f ivR
 refine Ev.bind (asGood_ev a h) ?_
 by_cases g : AscOk a
 · {
 refine Ev_pos (decide_eq_true g) ?_
 by_cases c : a.length ≤ 10
 · rw [if_pos ⟨g, c⟩]; exact Ev_neg (by omega) (Ev.bind (asIntervals_ev a g) (Ev_some rfl))
 · rw [if_neg (fun hh => c hh.2)]; exact Ev_pos (by omega) (Ev_some rfl)}
 · rw [if_neg (fun hh => g hh.1)]; exact Ev_neg (by simpa using g) (Ev_some rfl)
theorem implOrd_ev (a : List Int) (h : a.length ≤ 1048576) : Ev (fun k => impl_OrderOfAscent.f k a) (ordR a) := by
 unfold impl_OrderOfAscent.f ordR
 refine Ev.bind (small_ev a h) ?_
 by_cases g : okA a
 · {
 rw [if_pos g]
 have h10 := g.2
 have := orderOf_val (ivL a a.length) (by rw [ivL_len]; omega)
 rw [ivL_len] at this
 exact Ev_pos (decide_eq_true g) (Ev.bind (intervalsOf_ev a g.1) (Ev_val this (Ev_some rfl)))}
 · rw [if_neg g]; exact Ev_neg (by simpa using g) (Ev_some rfl)
theorem specOrd_ev (a : List Int) (h : a.length ≤ 1048576) : Ev (fun k => spec_OrderOfAscent.f k a) (ordR a) := by
 unfold spec_OrderOfAscent.f ordR
 refine Ev.bind (asGood_ev a h) ?_
 by_cases g : AscOk a
 · {
 refine Ev_pos (decide_eq_true g) (Ev.step (fun k => by rw [spec_OrderOfAscent.j0]) ?_)
 by_cases c : a.length ≤ 10
 · {
 rw [if_pos ⟨g, c⟩]
 have := ivOrder_ev (ivL a a.length) (by rw [ivL_len]; omega)
 rw [ivL_len] at this
 exact Ev_neg (by simp; omega) (Ev.bind (asIntervals_ev a g) (Ev.bind this (Ev_some rfl)))}
 · rw [if_neg (fun hh => c hh.2)]; exact Ev_pos (by simp; omega) (Ev_some rfl)}
 · {
 rw [if_neg (fun hh => g hh.1)]
 exact Ev_neg (by simpa using g) (Ev.step (fun k => by rw [spec_OrderOfAscent.j0]) (Ev_pos rfl (Ev_some rfl)))}
theorem built_any (a : List Int) (g : okA a) : Comp (ordL (ivL a a.length)) (kx a a.length) (Lf a a.length) (Rf a a.length) := by
 by_cases e : a.length = 0
 · {
 have := built_comp0 a e
 unfold kx
 rw [if_pos e]
 exact this}
 · {
 unfold kx
 rw [if_neg e]
 exact built_at a g.1 a.length (by omega) (Nat.le_refl _) g.2}
theorem setOf_none (p : Nat → Bool) : ∀ n, (∀ i, i < n → p i = false) → setOf p n = 0
  | 0, _ => rfl
  | n + 1, h => by rw [setOf, if_neg (by rw [h n (by omega)]; decide), setOf_none p n (fun i hi => h i (by omega))]
theorem Comp.bel_zero {l : List Int} {m : Nat} {L R : Nat → Nat} (g : Comp l m L R) {j : Nat} (hj : j < l.length) : bel l j = 0 ↔ L j = 0 := by
 rw [g.bel_eq hj, ← g.up_inj (show L j ≤ m by have := g.Llt hj; omega) (Nat.zero_le m)]
 rw [show upS l.length R 0 = 0 from setOf_none _ _ (fun i _ => by simp)]
theorem belowOf_ev (l : List Int) (h : Rel l) (i : Nat) (hi : i < l.length) : Ev (fun k => impl_BelowOf.f k (l.length : Int) l (i : Int)) ((bel l i : Int), true) := by
 have hn := h.1
 unfold impl_BelowOf.f
 refine Ev.bind (isRelation_ev _ l) (Ev_pos (decide_eq_true ⟨rfl, h⟩) ?_)
 refine Ev.bind (a := true) ?_ (Ev_pos rfl (Ev_val (mirror_eq h) (Ev_pos (by omega) (Ev_pos (by simp; omega) (Ev_some ?_)))))
 · {
 unfold impl_Order_has.f
 refine Ev.bind (allWithin_ev [(i : Int)] 0 _ (by simp)) (Ev_some ?_)
 rw [decide_eq_true_eq]
 intro j hj
 simp at hj
 subst hj
 rw [wrap_small (by omega) (by omega)]
 show 0 ≤ (i : Int) ∧ (i : Int) ≤ _
 omega}
 · {
 show (rd (lowL l) (i : Int), true) = _
 rw [lowL_at hi]}
theorem asc_back (a : List Int) (g : okA a) : Ev (fun k => impl_AscentOfOrder.f k (a.length : Int) (ordL (ivL a a.length))) (a, true) := by
 have hc := built_any a g
 have hlen : (ordL (ivL a a.length)).length = a.length := ordL_len _ _ _
 have hI := hc.ivOrd
 have hM := hc.matrix
 rw [hlen] at hI hM
 unfold impl_AscentOfOrder.f
 refine Ev.bind (isInterval_ev _ _) (Ev_pos (decide_eq_true hI) (Ev.bind hM ?_))
 have e := matA_built a g.1 g.2 a.length (Nat.le_refl _)
 rw [show matO (kx a a.length) a.length (Lf a a.length) (Rf a a.length) = matA a a.length from e.symm]
 have := ascent_matA a g.1 a.length (Nat.le_refl _) [] (by have := g.2; simp; omega)
 rw [List.take_length, List.reverse_nil, List.append_nil] at this
 unfold impl_Matrix_ascent.f
 exact Ev.bind this (Ev_some rfl)
theorem abe_loop (a : List Int) (g : okA a) : ∀ (d i c : Nat), a.length - i = d → i ≤ a.length → c ≤ i → Ev (fun k => lw.l0 k a (c : Int) (c : Int) a (a.length : Int) (i : Int) (a.length : Int) (ordL (ivL a a.length))) true := by
 have hc := built_any a g
 have hlen : (ordL (ivL a a.length)).length = a.length := ordL_len _ _ _
 have h10 := g.2
 intro d
 induction d with
 | zero => {
 intro i c hd hi hci
 obtain rfl : i = a.length := by omega
 refine Ev.step (fun k => by rw [lw.l0]) (Ev_neg (by omega) (Ev_pos rfl ?_))
 by_cases e : a.length = 0
 · exact Ev_pos (by omega) (Ev_some rfl)
 · exact Ev_neg (by omega) (Ev.bind (asc_back a g) (Ev_pos rfl (Ev.bind (pSame_refl a (by omega)) (Ev_some rfl))))}
 | succ d ih => {
 intro i c hd hi hci
 have n0 := ih (i + 1) c (by omega) (by omega) (by omega)
 have n1 := ih (i + 1) (c + 1) (by omega) (by omega) (by omega)
 have hb := belowOf_ev (ordL (ivL a a.length)) hc.rel i (by rw [hlen]; omega)
 rw [hlen] at hb
 have hz := hc.bel_zero (j := i) (by rw [hlen]; omega)
 have hz2 := ivN_zero a g.1 a.length (Nat.le_refl _) i (by omega)
 refine Ev.step (fun k => by rw [lw.l0]) (Ev_pos (by omega) (Ev_pos (by omega) (Ev_pos (by omega) (Ev.bind hb (Ev_pos rfl ?_)))))
 rw [rd_nat, wrap_succ (i := i) (by omega), wrap_succ (i := c) (by omega)]
 have hq : bel (ordL (ivL a a.length)) i = 0 ↔ a.getD i 0 = 0 := by {
 rw [hz]
 exact hz2}
 generalize bel (ordL (ivL a a.length)) i = B at hq ⊢
 by_cases e : a.getD i 0 = 0
 · {
 have hB := hq.2 e
 exact Ev_pos e (Ev_pos (by simp only []; omega) n1)}
 · {
 have hB : ¬ B = 0 := fun hh => e (hq.1 hh)
 exact Ev_neg e (Ev_neg (by simp only []; omega) n0)}}
theorem abe_yes (a : List Int) (g : okA a) : Ev (fun k => lw.j1 k a (ivL a a.length) true false (a.length : Int) (ordL (ivL a a.length))) true := by
 have hc := built_any a g
 have hlen : (ordL (ivL a a.length)).length = a.length := ordL_len _ _ _
 have h10 := g.2
 have hasc := ascN_le a a.length
 have hI := hc.ivOrd
 have hE := hc.ends
 have hM := hc.magnitude
 rw [hlen] at hI hE hM
 have e1 : Ev (fun k => impl_EndsOf.f k (a.length : Int) (ordL (ivL a a.length))) (ivL a a.length, true) := by {
 unfold impl_EndsOf.f
 exact Ev.bind (isInterval_ev _ _) (Ev_pos (decide_eq_true hI) (Ev.bind hE (Ev_some rfl)))}
 have e2 : Ev (fun k => impl_MagnitudeOf.f k (a.length : Int) (ordL (ivL a a.length))) ((kx a a.length : Int), true) := by {
 unfold impl_MagnitudeOf.f
 exact Ev.bind (isInterval_ev _ _) (Ev_pos (decide_eq_true hI) (Ev.bind hM (Ev_some rfl)))}
 have e3 : Ev (fun k => impl_AscentsOf.f k a) ((ascN a a.length : Int), true) := by {
 unfold impl_AscentsOf.f
 have := implAsc_ev a a.length (Nat.le_refl _) (by omega)
 rw [List.take_length] at this
 exact Ev.bind (isAscent_ev a (by omega)) (Ev_pos (decide_eq_true g.1) (Ev.bind this (Ev_some rfl)))}
 have hl := abe_loop a g a.length 0 0 (by omega) (by omega) (by omega)
 refine Ev.step (fun k => by rw [lw.j1]) (Ev_neg (by decide) (Ev_pos rfl (Ev.bind e1 (Ev.bind e2 (Ev.bind e3 (Ev_pos rfl (Ev_pos rfl (Ev_pos rfl (Ev.bind (pSameIv_refl (ivL a a.length) (by rw [ivL_len]; omega)) (Ev_pos rfl ?_))))))))))
 have j2f : ∀ (b : Bool), b = false → Ev (fun k => lw.j2 k a b (a.length : Int) (ordL (ivL a a.length))) true := by {
 intro b hb
 subst hb
 refine Ev.step (fun k => by rw [lw.j2]) ?_
 exact Ev_neg Bool.false_ne_true hl}
 by_cases e : a.length = 0
 · exact Ev_neg (by omega) (j2f _ rfl)
 · {
 refine Ev_pos (by omega) (j2f _ ?_)
 have : kx a a.length = ascN a a.length + 1 := if_neg e
 simp only []
 rw [this, wrap_succ (by omega)]
 simp}
theorem FnAscentsBuildEnds : laws_FnAscentsBuildEnds.Pure := by
 intro c0 c1 _ _ w0 _ _ w1
 refine Ev.rounds ?_
 unfold laws_FnAscentsBuildEnds.f laws_big.f
 by_cases z0 : (c0.length : Int) > 1048576
 · exact Ev_val (if_pos z0) (Ev_pos rfl (Ev_some rfl))
 · {
 have hw : wrap64 (1048576 - (c0.length : Int)) = 1048576 - (c0.length : Int) := wrap_small (by omega) (by omega)
 refine Ev_val (if_neg z0) ?_
 by_cases z1 : (c1.length : Int) > wrap64 (1048576 - (c0.length : Int))
 · exact Ev_pos (decide_eq_true z1) (Ev_some rfl)
 · {
 have h0 : BytesOk c0 := ⟨by omega, fun x hx => wf_byte (w0 x hx)⟩
 obtain ⟨R, hR, hl, _, _⟩ := ascent_ok c0 h0 9 (by decide) (by decide) 0 0 (Int.le_refl _) (by decide)
 have hD : Ev (fun k => spec_DrawIntervalsOfAscent.f k c0) R.1 := Ev.bind hR (Ev_some rfl)
 revert hl hD
 generalize R.1 = a
 intro hl hD
 have hla : a.length ≤ 1048576 := by omega
 refine Ev_neg (by simpa using z1) (Ev.bind hD (Ev.bind (implIv_ev a hla) (Ev.bind (specIv_ev a hla) (Ev_neg (by simp) ?_))))
 have hlen : (ivR a).1.length ≤ 1000000 := by {
 unfold ivR
 by_cases g : okA a
 · rw [if_pos g]; show (ivL a a.length).length ≤ _; rw [ivL_len]; omega
 · rw [if_neg g]; simp}
 have hlen2 : (ordR a).2.1.length ≤ 1048576 := by {
 unfold ordR
 by_cases g : okA a
 · rw [if_pos g]; show (ordL (ivL a a.length)).length ≤ _; rw [show (ordL (ivL a a.length)).length = a.length from ordL_len _ _ _]; omega
 · rw [if_neg g]; simp}
 have hne : ¬ (((ordR a).2.2 != (ordR a).2.2) = true) := by simp
 refine Ev.bind (pSameIv_refl _ hlen) (Ev.step (fun k => by rw [lw.j0]) (Ev_neg (by decide) (Ev.bind (implOrd_ev a hla) (Ev.bind (specOrd_ev a hla) (Ev_neg hne (Ev.bind (pSameOrd_refl _ _ hlen2) (Ev_pos rfl ?_)))))))
 by_cases g : okA a
 · {
 have e1 : ivR a = (ivL a a.length, true) := if_pos g
 have e2 : ordR a = ((a.length : Int), ordL (ivL a a.length), true) := if_pos g
 rw [e1, e2]
 exact abe_yes a g}
 · {
 have e1 : ivR a = ([], false) := if_neg g
 have e2 : ordR a = (0, [], false) := if_neg g
 rw [e1, e2]
 exact Ev.step (fun k => by rw [lw.j1]) (Ev_neg (by decide) (Ev_neg (by decide) (Ev_some rfl)))}}}
end Go.Proofs.YtcodionjhcmfhaaDoor.Pure
