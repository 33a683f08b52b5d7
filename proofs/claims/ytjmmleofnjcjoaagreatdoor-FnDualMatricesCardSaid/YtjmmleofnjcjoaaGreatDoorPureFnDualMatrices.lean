/- The matrix of the mirrored order is the dual one; duals undo themselves and exchange rows and columns. -/
import Derived.Test.YtjmmleofnjcjoaaGreatDoorDu30
import Derived.Test.YtjmmleofnjcjoaaGreatDoorDuWSized
namespace Go.Proofs.YtjmmleofnjcjoaaGreatDoor.PrintWords
open Go.RowKit
theorem sized_ints {H : Type} {enc : TypeId × Value → H} {P : Program} {W : World} {base : Nat} {spare : Nat → Bool} {held : Bool} {t e : TypeId} {k : IntKind} {a : Option Addr} {len cap : Nat} {d : DataW H} {ps : List MemPlace} {ts : List TypeId} {ds : List (DataW H)} {j : Nat}
    (g0 : (DataW.weightsEach P ts ds).all (· ≤ reachBytes) = true) (g1 : ts[j]? = some t) (g2 : ds[j]? = some d) (g3 : P.underlying t = some (.slice e)) (g4 : P.underlying e = some (.int k)) (g5 : P.cellsOf e = 1) {B : Nat} (g6 : P.bytesOf e = B)
    (g7 : DataW.Trod enc P W base spare held t (.slice a len cap) d ps) : len * B ≤ 140737488351232 := Go.Proofs.YtjmmleofnjcjoaaGreatDoorW.PrintWords.sized_ints g0 g1 g2 g3 g4 g5 g6 g7
end Go.Proofs.YtjmmleofnjcjoaaGreatDoor.PrintWords
set_option linter.unusedVariables false
namespace Go.Proofs.YtjmmleofnjcjoaaGreatDoor.Pure
open Go.RowKit Go.Proofs.YtjmmleofnjcjoaaGreatDoor.Du Go.Proofs.YtjmmleofnjcjoaaGreatDoorW.PrintWords Go.Proofs.YtjmmleofnjcjoaaGreatDoorW.PrintLast Go.Proofs.YtjmmleofnjcjoaaGreatDoorW.PrintMore Go.Proofs.YtjmmleofnjcjoaaGreatDoor.Sq
section Prelude
theorem Ev_pos {α : Type} {c : Prop} [Decidable c] {f g : Nat → Option α} {r : α} (h : c) (k : Ev f r) : Ev (fun n => if c then f n else g n) r :=
  Ev.congr (fun _ => if_pos h) k
theorem Ev_neg {α : Type} {c : Prop} [Decidable c] {f g : Nat → Option α} {r : α} (h : ¬ c) (k : Ev g r) : Ev (fun n => if c then f n else g n) r :=
  Ev.congr (fun _ => if_neg h) k
theorem Ev_val {α β : Type} {g : Option α} {f : Nat → α → Option β} {a : α} {r : β} (h : g = some a) (k : Ev (fun n => f n a) r) : Ev (fun n => g.bind (f n)) r :=
  Ev.congr (fun _ => by rw [h]; rfl) k
theorem Ev_some {α : Type} {a r : α} (h : a = r) : Ev (fun _ => some a) r := ⟨0, fun _ _ => by rw [h]⟩
theorem Ev_eq {α : Type} {g : Nat → Option α} {a r : α} (h : Ev g a) (e : a = r) : Ev g r := e ▸ h
theorem wrap_small {x : Int} (h0 : -4611686018427387904 ≤ x) (h1 : x ≤ 4611686018427387904) : wrap64 x = x := by unfold wrap64; omega
theorem wrap_succ {i : Nat} (h : i ≤ 4611686018427387900) : wrap64 ((i : Int) + 1) = ((i + 1 : Nat) : Int) := by unfold wrap64; omega
theorem wrap_pred {i : Nat} (h : i ≤ 4611686018427387900) : wrap64 ((i + 1 : Nat) - 1 : Int) = (i : Int) := by unfold wrap64; omega
theorem rd_nat (xs : List Int) (i : Nat) : rd xs (i : Int) = xs.getD i 0 := by simp [rd]
theorem getD_lt {α : Type} (xs : List α) (i : Nat) (z : α) (h : i < xs.length) : xs.getD i z = xs[i] := by simp [List.getD_eq_getElem?_getD, h]
theorem wf_range {x : Int} (h : (Lit.int .i64 x).wf = true) : -9223372036854775808 ≤ x ∧ x ≤ 9223372036854775807 := by
 simp [Lit.wf] at h
 exact h
theorem ext_getD {xs ys : List Int} (hl : xs.length = ys.length) (h : ∀ i, i < xs.length → xs.getD i 0 = ys.getD i 0) : xs = ys := by
 apply List.ext_getElem hl
 intro i h1 h2
 have := h i h1
 rwa [getD_lt _ _ _ h1, getD_lt _ _ _ h2] at this
theorem dec_eq {a b : Prop} [Decidable a] [Decidable b] (h : a ↔ b) : decide a = decide b := by simp [h]
def foldFrom {σ : Type} (n : Nat) (step : σ → Nat → σ) (s : σ) (i : Nat) : σ := (List.range' i (n - i)).foldl step s
theorem foldFrom_lt {σ : Type} {n : Nat} {step : σ → Nat → σ} {s : σ} {i : Nat} (h : i < n) : foldFrom n step s i = foldFrom n step (step s i) (i + 1) := by
 unfold foldFrom
 rw [show n - i = (n - (i + 1)) + 1 from by omega, List.range'_succ, List.foldl_cons]
theorem foldFrom_ge {σ : Type} {n : Nat} {step : σ → Nat → σ} {s : σ} {i : Nat} (h : n ≤ i) : foldFrom n step s i = s := by
 unfold foldFrom
 rw [show n - i = 0 from by omega]; rfl
theorem Ev_for {σ ρ : Type} {l : Nat → σ → Nat → Option ρ} (n : Nat) (step : σ → Nat → σ) (fin : σ → ρ) (Inv : σ → Nat → Prop)
    (hinv : ∀ i s, i < n → Inv s i → Inv (step s i) (i + 1))
    (hstep : ∀ i s, i < n → Inv s i → ∀ r, Ev (fun k => l k (step s i) (i + 1)) r → Ev (fun k => l k s i) r)
    (hend : ∀ s, Inv s n → Ev (fun k => l k s n) (fin s)) :
    ∀ i s, i ≤ n → Inv s i → Ev (fun k => l k s i) (fin (foldFrom n step s i)) ∧ Inv (foldFrom n step s i) n := by
 have main : ∀ d i s, n - i = d → i ≤ n → Inv s i → Ev (fun k => l k s i) (fin (foldFrom n step s i)) ∧ Inv (foldFrom n step s i) n := by {
 intro d
 induction d with
 | zero => {
 intro i s hd hi h
 obtain rfl : i = n := by omega
 rw [foldFrom_ge (Nat.le_refl _)]
 exact ⟨hend s h, h⟩}
 | succ d ih => {
 intro i s hd hi h
 rw [foldFrom_lt (by omega)]
 obtain ⟨h1, h2⟩ := ih (i + 1) (step s i) (by omega) (by omega) (hinv i s (by omega) h)
 exact ⟨hstep i s (by omega) h _ h1, h2⟩}}
 exact fun i s hi h => main _ i s rfl hi h
theorem Ev_all (l : Nat → Nat → Option Bool) (n : Nat) (P : Nat → Bool) (r : Bool)
    (hgo : ∀ i, i < n → (∀ j, j < i → P j = true) → P i = true → ∀ q, Ev (fun k => l k (i + 1)) q → Ev (fun k => l k i) q)
    (hno : ∀ i, i < n → (∀ j, j < i → P j = true) → P i = false → Ev (fun k => l k i) false)
    (hend : (∀ j, j < n → P j = true) → Ev (fun k => l k n) r) : Ev (fun k => l k 0) (decide (∀ j, j < n → P j = true) && r) := by
 have main : ∀ d i, n - i = d → i ≤ n → (∀ j, j < i → P j = true) → Ev (fun k => l k i) (decide (∀ j, j < n → P j = true) && r) := by {
 intro d
 induction d with
 | zero => {
 intro i hd hi h
 obtain rfl : i = n := by omega
 rw [decide_eq_true h, Bool.true_and]
 exact hend h}
 | succ d ih => {
 intro i hd hi h
 by_cases c : P i = true
 · {
 refine hgo i (by omega) h c _ (ih (i + 1) (by omega) (by omega) (fun j hj => ?_))
 by_cases e : j = i
 · rw [e]; exact c
 · exact h j (by omega)}
 · {
 refine Ev_eq (hno i (by omega) h (by simpa using c)) ?_
 rw [decide_eq_false (fun hh => c (hh i (by omega))), Bool.false_and]}}}
 exact main _ 0 rfl (by omega) (fun j hj => by omega)
end Prelude
theorem foldI {σ : Type} {n : Nat} {step : σ → Nat → σ} (Inv : σ → Nat → Prop) (h : ∀ i s, i < n → Inv s i → Inv (step s i) (i + 1)) : ∀ (d i : Nat) (s : σ), n - i = d → i ≤ n → Inv s i → Inv (foldFrom n step s i) n
  | 0, i, s, hd, hi, hs => by
    rw [foldFrom_ge (by omega)]
    have e : i = n := by omega
    exact e ▸ hs
  | d + 1, i, s, hd, hi, hs => by
    rw [foldFrom_lt (by omega)]
    exact foldI Inv h d (i + 1) _ (by omega) (by omega) (h i s (by omega) hs)
theorem rdL_nat (xs : List (List Int)) (i : Nat) : rd_L4 xs (i : Int) = xs.getD i [] := by unfold rd_L4; rw [Int.toNat_natCast]
theorem getD_mem {α : Type} {xs : List α} {i : Nat} {z : α} (h : i < xs.length) : xs.getD i z ∈ xs := by rw [getD_lt _ _ _ h]; exact List.getElem_mem h
def Small (l : List (List Int)) : Prop := l.length ≤ 1048576 ∧ ∀ r ∈ l, r.length ≤ 1048576
def sumZ : Nat → (Nat → Int) → Int
  | 0, _ => 0
  | n + 1, f => sumZ n f + f n
theorem sumZ_congr {n : Nat} {f g : Nat → Int} (h : ∀ i, i < n → f i = g i) : sumZ n f = sumZ n g := by
 induction n with
 | zero => rfl
 | succ n ih => rw [sumZ, sumZ, ih (fun i hi => h i (by omega)), h n (by omega)]
theorem sumZ_bound {n : Nat} {f : Nat → Int} {B : Int} (hB : 0 ≤ B) (h : ∀ i, i < n → 0 ≤ f i ∧ f i ≤ B) : 0 ≤ sumZ n f ∧ sumZ n f ≤ n * B := by
 induction n with
 | zero => simp [sumZ]
 | succ n ih => {
 have h1 := ih (fun i hi => h i (by omega))
 have h2 := h n (by omega)
 rw [sumZ, show ((n + 1 : Nat) : Int) * B = n * B + B from by rw [Int.natCast_add, Int.add_mul]; simp]
 omega}
theorem sumZ_nonneg {n : Nat} {f : Nat → Int} (h : ∀ i, i < n → 0 ≤ f i) : 0 ≤ sumZ n f := by
 induction n with
 | zero => simp [sumZ]
 | succ n ih => have := ih (fun i hi => h i (by omega)); have := h n (by omega); rw [sumZ]; omega
theorem sumZ_term {n : Nat} {f : Nat → Int} (h : ∀ i, i < n → 0 ≤ f i) {i : Nat} (hi : i < n) : f i ≤ sumZ n f := by
 induction n with
 | zero => omega
 | succ n ih => {
 have h0 := sumZ_nonneg (n := n) (fun j hj => h j (by omega))
 rw [sumZ]
 by_cases e : i = n
 · rw [e]; omega
 · have := ih (fun j hj => h j (by omega)) (by omega); have := h n (by omega); omega}
theorem sumZ_zero {n : Nat} {f : Nat → Int} (h : ∀ i, i < n → 0 ≤ f i) : sumZ n f = 0 ↔ ∀ i, i < n → f i = 0 := by
 refine ⟨fun h0 i hi => ?_, fun h0 => ?_⟩
 · have := sumZ_term h hi; have := h i hi; omega
 · {
 rw [sumZ_congr (g := fun _ => 0) h0]
 clear h h0
 induction n with
 | zero => rfl
 | succ n ih => rw [sumZ, ih]; rfl}
theorem sumZ_add (n : Nat) (f g : Nat → Int) : sumZ n (fun i => f i + g i) = sumZ n f + sumZ n g := by
 induction n with
 | zero => rfl
 | succ n ih => simp only [sumZ, ih]; omega
theorem sumZ_swap (n m : Nat) (f : Nat → Nat → Int) : sumZ n (fun i => sumZ m (fun j => f i j)) = sumZ m (fun j => sumZ n (fun i => f i j)) := by
 induction n with
 | zero => exact ((sumZ_zero (n := m) (f := fun j => sumZ 0 fun i => f i j) (fun _ _ => Int.le_refl _)).2 (fun _ _ => rfl)).symm
 | succ n ih => {
 rw [sumZ, ih, ← sumZ_add]
 exact sumZ_congr (fun j _ => rfl)}
def en (m : List (List Int)) (i j : Nat) : Int := (m.getD i []).getD j 0
def Cells (m : List (List Int)) : Prop := ∀ i, i < m.length → (m.getD i []).length = m.length ∧ ∀ j, j < m.length → 0 ≤ en m i j ∧ en m i j ≤ 12 ∧ (j < i → en m i j = 0)
def rowZ (m : List (List Int)) (i : Nat) : Int := sumZ m.length (fun j => en m i j)
def colZ (m : List (List Int)) (j : Nat) : Int := sumZ m.length (fun i => en m i j)
def allZ (m : List (List Int)) : Int := sumZ m.length (fun i => rowZ m i)
def isMat (m : List (List Int)) : Prop := m.length ≤ 12 ∧ Cells m ∧ (∀ i, i < m.length → rowZ m i ≠ 0) ∧ (∀ j, j < m.length → colZ m j ≠ 0) ∧ allZ m ≤ 12
instance (m : List (List Int)) : Decidable (Cells m) := inferInstanceAs (Decidable (∀ i, i < m.length → _))
instance (m : List (List Int)) : Decidable (isMat m) := inferInstanceAs (Decidable (_ ∧ _))
theorem Cells.row {m : List (List Int)} (h : Cells m) {i : Nat} (hi : i < m.length) : 0 ≤ rowZ m i ∧ rowZ m i ≤ m.length * 12 := sumZ_bound (by decide) (fun j hj => ⟨((h i hi).2 j hj).1, ((h i hi).2 j hj).2.1⟩)
theorem Cells.nn {m : List (List Int)} (h : Cells m) {i j : Nat} (hi : i < m.length) (hj : j < m.length) : 0 ≤ en m i j := ((h i hi).2 j hj).1
theorem Cells.le {m : List (List Int)} (h : Cells m) {i j : Nat} (hi : i < m.length) (hj : j < m.length) : en m i j ≤ 12 := ((h i hi).2 j hj).2.1
def rowsL (m : List (List Int)) : List Int := (List.range m.length).map fun (i : Nat) => rowZ m i
def colsL (m : List (List Int)) : List Int := (List.range m.length).map fun (j : Nat) => colZ m j
theorem mapR_length (n : Nat) (f : Nat → Int) : ((List.range n).map f).length = n := by simp
theorem mapR_getD (n : Nat) (f : Nat → Int) {i : Nat} (h : i < n) : ((List.range n).map f).getD i 0 = f i := by rw [getD_lt _ _ _ (by simpa using h)]; simp
theorem within_eq (a b c : Int) : Y39.f a b c = some (decide (b ≤ a ∧ a ≤ c)) := by
 unfold Y39.f
 by_cases h : a ≥ b
 · rw [if_pos h]; have : b ≤ a := h; simp [this]
 · rw [if_neg h]; simp; omega
theorem allWithin_l0 (l : List Int) (lo hi : Int) (hs : l.length ≤ 4611686018427387000) : ∀ (d i : Nat), l.length - i = d → i ≤ l.length →
    Ev (fun k => Y24.l0 k lo hi l (l.length : Int) (i : Int)) (decide (∀ j, j < l.length → i ≤ j → lo ≤ l.getD j 0 ∧ l.getD j 0 ≤ hi)) := by
 intro d
 induction d with
 | zero => {
 intro i hd hi
 refine Ev.step (fun k => by rw [Y24.l0]) ?_
 refine Ev_neg (by omega) (Ev_some ?_)
 symm; rw [decide_eq_true_iff]; intro j hj hij; omega}
 | succ d ih => {
 intro i hd hi'
 refine Ev.step (fun k => by rw [Y24.l0]) ?_
 refine Ev_pos (by omega) (Ev_pos (by omega) (Ev_pos (by omega) ?_))
 rw [rd_nat, wrap_succ (by omega), within_eq]
 refine Ev_val rfl ?_
 by_cases c : lo ≤ l.getD i 0 ∧ l.getD i 0 ≤ hi
 · {
 refine Ev_pos (decide_eq_true c) (Ev_eq (ih (i + 1) (by omega) (by omega)) (dec_eq ?_))
 refine ⟨fun hh j hj hij => ?_, fun hh j hj hij => hh j hj (by omega)⟩
 by_cases e : j = i
 · subst e; exact c
 · exact hh j hj (by omega)}
 · {
 refine Ev_neg (by simpa using c) (Ev_some ?_)
 symm; rw [decide_eq_false_iff_not]
 intro hh; exact c (hh i (by omega) (by omega))}}
theorem allWithin_ev (l : List Int) (lo hi : Int) (hs : l.length ≤ 4611686018427387000) : Ev (fun k => Y24.f k l lo hi) (decide (∀ j, j < l.length → lo ≤ l.getD j 0 ∧ l.getD j 0 ≤ hi)) := by
 unfold Y24.f
 refine Ev_eq (allWithin_l0 l lo hi hs _ 0 rfl (by omega)) (dec_eq ?_)
 exact ⟨fun h j hj => h j hj (by omega), fun h j hj _ => h j hj⟩
theorem setR (n : Nat) (f g : Nat → Int) (i : Nat) (hi : i < n) (h : ∀ j, j < n → j ≠ i → g j = f j) : ((List.range n).map f).set i (g i) = (List.range n).map g := by
 apply List.ext_getElem (by simp)
 intro j h1 h2
 simp only [List.length_map, List.length_range] at h2
 by_cases e : j = i
 · subst e; simp
 · rw [List.getElem_set_ne (fun x => e x.symm)]; simp [h j h2 e]
theorem replR (n : Nat) : List.replicate n (0 : Int) = (List.range n).map (fun _ => 0) := by
 apply List.ext_getElem (by simp); intro j h1 h2; simp
theorem sums_l1 (m : List (List Int)) (hd : m.length ≤ 12) (h : Cells m) (i : Nat) (hi : i < m.length) (R : List Int × List Int)
    (hR : Ev (fun k => Y10.l0 k ((List.range m.length).map fun (a : Nat) => if a < i + 1 then rowZ m a else 0) ((List.range m.length).map fun (b : Nat) => sumZ (i + 1) (fun a => en m a b)) m (m.length : Int) ((i + 1 : Nat) : Int)) R) :
    ∀ (d j : Nat), m.length - j = d → j ≤ m.length → Ev (fun k => Y10.l1 k ((List.range m.length).map fun (a : Nat) => if a < i then rowZ m a else if a = i then sumZ j (fun b => en m i b) else 0)
      ((List.range m.length).map fun (b : Nat) => sumZ i (fun a => en m a b) + if b < j then en m i b else 0) (i : Int) m (m.length : Int) (i : Int) (m.getD i []) (m.length : Int) (j : Int)) R := by
  intro d
  induction d with
  | zero =>
    intro j hdj hj
    obtain rfl : j = m.length := by omega
    refine Ev.step (fun _ => rfl) (Ev_neg (by omega) ?_)
    rw [wrap_succ (by omega)]
    refine (Ev_eq hR rfl).congr (fun k => ?_)
    congr 1
    · apply List.map_congr_left; intro a ha
      by_cases c : a < i
      · rw [if_pos c, if_pos (by omega)]
      · rw [if_neg c]
        by_cases e : a = i
        · rw [if_pos e, if_pos (by omega), e]; rfl
        · rw [if_neg e, if_neg (by omega)]
    · apply List.map_congr_left; intro b hb
      have : b < m.length := by simpa using hb
      rw [if_pos this]; rfl
  | succ d ih =>
    intro j hdj hj
    have hl := (h i hi).1
    have h1 := h.nn hi (show j < m.length by omega)
    have h2 := h.le hi (show j < m.length by omega)
    have h3 := sumZ_bound (n := j) (f := fun b => en m i b) (B := 12) (by decide) (fun b hb => ⟨h.nn hi (by omega), h.le hi (by omega)⟩)
    have h4 := sumZ_bound (n := i) (f := fun a => en m a j) (B := 12) (by decide) (fun a ha => ⟨h.nn (by omega) (show j < m.length by omega), h.le (by omega) (show j < m.length by omega)⟩)
    refine Ev.step (fun _ => rfl) (Ev_pos (by omega) (Ev_pos (by omega) (Ev_pos (by omega) (Ev_pos (by omega) (Ev_pos (by rw [mapR_length]; omega) (Ev_pos (by rw [mapR_length]; omega) ?_))))))
    rw [rd_nat, rd_nat, rd_nat, mapR_getD _ _ hi, mapR_getD _ _ (show j < m.length by omega), if_neg (Nat.lt_irrefl _), if_pos rfl, if_neg (Nat.lt_irrefl _), wrap_succ (by omega), Int.toNat_natCast, Int.toNat_natCast,
      show (m.getD i []).getD j 0 = en m i j from rfl, wrap_small (by omega) (by omega), wrap_small (by omega) (by omega)]
    refine (ih (j + 1) (by omega) (by omega)).congr (fun k => ?_)
    congr 1
    · have := setR m.length (fun a => if a < i then rowZ m a else if a = i then sumZ j (fun b => en m i b) else 0) (fun a => if a < i then rowZ m a else if a = i then sumZ (j + 1) (fun b => en m i b) else 0) i hi (fun a _ hne => by
        by_cases c : a < i
        · rw [if_pos c, if_pos c]
        · rw [if_neg c, if_neg c, if_neg hne, if_neg hne])
      rw [← this, if_neg (Nat.lt_irrefl _), if_pos rfl]; rfl
    · have := setR m.length (fun b => sumZ i (fun a => en m a b) + if b < j then en m i b else 0) (fun b => sumZ i (fun a => en m a b) + if b < j + 1 then en m i b else 0) j (by omega) (fun b _ hne => by
        by_cases c : b < j
        · rw [if_pos c, if_pos (by omega)]
        · rw [if_neg c, if_neg (by omega)])
      rw [← this, if_pos (by omega), Int.add_zero]
theorem sums_ev (m : List (List Int)) (hd : m.length ≤ 12) (h : Cells m) : Ev (fun k => Y10.f k m) (rowsL m, colsL m) := by
 unfold Y10.f Y32.f
 refine Ev_val rfl (Ev_pos (by omega) (Ev_pos (by omega) (Ev_val rfl (Ev_pos (by omega) (Ev_pos (by omega) ?_)))))
 rw [Int.toNat_natCast, replR]
 have main : ∀ (d i : Nat), m.length - i = d → i ≤ m.length → Ev (fun k => Y10.l0 k ((List.range m.length).map fun (a : Nat) => if a < i then rowZ m a else 0) ((List.range m.length).map fun (b : Nat) => sumZ i (fun a => en m a b)) m (m.length : Int) (i : Int)) (rowsL m, colsL m) := by {
 intro d
 induction d with
 | zero => {
 intro i hdi hi
 obtain rfl : i = m.length := by omega
 refine Ev.step (fun _ => rfl) (Ev_neg (by omega) (Ev_some ?_))
 unfold rowsL colsL
 congr 1
 apply List.map_congr_left; intro a ha
 rw [if_pos (by simpa using ha)]}
 | succ d ih => {
 intro i hdi hi
 refine Ev.step (fun _ => rfl) (Ev_pos (by omega) (Ev_pos (by omega) (Ev_pos (by omega) ?_)))
 rw [rdL_nat, (h i (by omega)).1]
 refine (sums_l1 m hd h i (by omega) _ (ih (i + 1) (by omega) (by omega)) _ 0 rfl (by omega)).congr (fun k => ?_)
 congr 1
 · {
 apply List.map_congr_left; intro a ha
 by_cases c : a < i
 · rw [if_pos c, if_pos c]
 · rw [if_neg c, if_neg c]; split <;> rfl}
 · {
 apply List.map_congr_left; intro b hb
 rw [if_neg (by omega), Int.add_zero]}}}
 refine (main _ 0 rfl (by omega)).congr (fun k => ?_)
 congr 1
 all_goals (apply List.map_congr_left; intro a ha)
theorem Index_ev (l : List Int) (a : Int) (hl : l.length ≤ 1000000) : Ev (fun k => slices_Contains_int_int.f k l a) (decide (a ∈ l)) := by
 unfold slices_Contains_int_int.f slices_Index_int_int.f
 have main : ∀ (d i : Nat), l.length - i = d → i ≤ l.length → ∃ q : Int, Ev (fun k => slices_Index_int_int.l0 k l a (l.length : Int) (i : Int)) q ∧ (0 ≤ q ↔ ∃ j, i ≤ j ∧ j < l.length ∧ l.getD j 0 = a) := by {
 intro d
 induction d with
 | zero => {
 intro i hd hi
 exact ⟨-1, Ev.step (fun _ => rfl) (Ev_neg (by omega) (Ev_some rfl)), ⟨fun h => absurd h (by decide), fun ⟨j, h1, h2, _⟩ => by omega⟩⟩}
 | succ d ih => {
 intro i hd hi
 by_cases c : a = l.getD i 0
 · exact ⟨i, Ev.step (fun _ => rfl) (Ev_pos (by omega) (Ev_pos (by omega) (Ev_pos (by omega) (Ev_pos (by rw [rd_nat]; exact c) (Ev_some rfl))))), ⟨fun _ => ⟨i, Nat.le_refl _, by omega, c.symm⟩, fun _ => by omega⟩⟩
 · {
 obtain ⟨q, h1, h2⟩ := ih (i + 1) (by omega) (by omega)
 refine ⟨q, Ev.step (fun _ => rfl) (Ev_pos (by omega) (Ev_pos (by omega) (Ev_pos (by omega) (Ev_neg (by rw [rd_nat]; exact c) ?_)))), ?_⟩
 · rw [wrap_succ (by omega)]; exact h1
 · {
 rw [h2]
 refine ⟨fun ⟨j, h3, h4⟩ => ⟨j, by omega, h4⟩, fun ⟨j, h3, h4, h5⟩ => ⟨j, ?_, h4, h5⟩⟩
 by_cases e : j = i
 · rw [e] at h5; exact absurd h5.symm c
 · omega}}}}
 obtain ⟨q, h1, h2⟩ := main _ 0 rfl (by omega)
 refine Ev.bind h1 (Ev_some (dec_eq ?_))
 rw [ge_iff_le, h2, List.mem_iff_getElem]
 exact ⟨fun ⟨j, _, h4, h5⟩ => ⟨j, h4, by rwa [getD_lt _ _ _ h4] at h5⟩, fun ⟨j, h4, h5⟩ => ⟨j, by omega, h4, by rwa [getD_lt _ _ _ h4]⟩⟩
theorem sumOf_ev (m : List (List Int)) (hd : m.length ≤ 12) (h : Cells m) : Ev (fun k => Y40.f k m) (allZ m) := by
 unfold Y40.f
 refine Ev.bind (sums_ev m hd h) ?_
 have hl : (rowsL m).length = m.length := by simp [rowsL]
 have main : ∀ (d i : Nat), m.length - i = d → i ≤ m.length → Ev (fun k => Y40.l0 k (sumZ i (fun i => rowZ m i)) (rowsL m) ((rowsL m).length : Int) (i : Int)) (allZ m) := by {
 rw [hl]
 intro d
 induction d with
 | zero => {
 intro i hd hi
 obtain rfl : i = m.length := by omega
 exact Ev.step (fun _ => rfl) (Ev_neg (by omega) (Ev_some rfl))}
 | succ d ih => {
 intro i hd' hi
 refine Ev.step (fun _ => rfl) (Ev_pos (by omega) (Ev_pos (by omega) (Ev_pos (by omega) ?_)))
 have h1 := sumZ_bound (n := i) (f := fun i => rowZ m i) (B := 144) (by decide) (fun j hj => by have := h.row (show j < m.length by omega); omega)
 have h2 := h.row (show i < m.length by omega)
 rw [rd_nat, show (rowsL m).getD i 0 = rowZ m i from mapR_getD _ _ (by omega), wrap_succ (by omega), wrap_small (by omega) (by omega)]
 exact ih (i + 1) (by omega) (by omega)}}
 exact main _ 0 rfl (by omega)
theorem mem_rowsL {m : List (List Int)} : (0 : Int) ∈ rowsL m ↔ ¬ ∀ i, i < m.length → rowZ m i ≠ 0 := by
 unfold rowsL
 rw [List.mem_map]
 refine ⟨fun ⟨i, h1, h2⟩ h => h i (by simpa using h1) h2, fun h => ?_⟩
 refine Classical.byContradiction (fun hn => h (fun i hi h0 => hn ⟨i, by simpa using hi, h0⟩))
theorem mem_colsL {m : List (List Int)} : (0 : Int) ∈ colsL m ↔ ¬ ∀ i, i < m.length → colZ m i ≠ 0 := by
 unfold colsL
 rw [List.mem_map]
 refine ⟨fun ⟨i, h1, h2⟩ h => h i (by simpa using h1) h2, fun h => ?_⟩
 refine Classical.byContradiction (fun hn => h (fun i hi h0 => hn ⟨i, by simpa using hi, h0⟩))
theorem containsFunc_eq (m : List (List Int)) (i : Nat) (hi : i < m.length) (hl : (m.getD i []).length = m.length) : slices_ContainsFunc_int_int.f ((m.getD i []).take i) = some (decide (¬ ∀ j, j < m.length → j < i → en m i j = 0)) := by
 unfold slices_ContainsFunc_int_int.f
 congr 1
 rw [Bool.eq_iff_iff, List.any_eq_true, decide_eq_true_iff]
 refine ⟨fun ⟨x, h1, h2⟩ h => ?_, fun h => ?_⟩
 · {
 obtain ⟨j, hj, rfl⟩ := List.getElem_of_mem h1
 rw [List.length_take] at hj
 have := h j (by omega) (by omega)
 rw [List.getElem_take] at h2
 rw [en, getD_lt _ _ _ (by omega)] at this
 rw [this] at h2
 exact absurd h2 (by decide)}
 · {
 refine Classical.byContradiction (fun hn => h (fun j hj hji => Classical.byContradiction (fun h0 => hn ⟨en m i j, ?_, by simpa using h0⟩)))
 have e : en m i j = (m.getD i [])[j]'(by omega) := getD_lt _ _ _ (by omega)
 rw [e, List.mem_iff_getElem]
 exact ⟨j, by rw [List.length_take]; omega, by rw [List.getElem_take]⟩}
def rowOk' (m : List (List Int)) (i : Nat) : Prop := (m.getD i []).length = m.length ∧ (∀ j, j < m.length → 0 ≤ en m i j ∧ en m i j ≤ 12) ∧ ∀ j, j < m.length → j < i → en m i j = 0
instance (m : List (List Int)) (i : Nat) : Decidable (rowOk' m i) := inferInstanceAs (Decidable (_ ∧ _ ∧ ∀ j, j < m.length → _))
theorem implIsMatrix_ev (m : List (List Int)) (hs : Small m) : Ev (fun k => Y33.f k m) (decide (isMat m)) := by
 unfold Y33.f Y32.f
 refine Ev_val rfl ?_
 by_cases hd : m.length ≤ 12
 · {
 refine Ev_neg (by omega) ?_
 refine Ev_eq (Ev_all (fun k i => Y33.l0 k m (m.length : Int) (i : Int) m) m.length (fun i => decide (rowOk' m i)) (decide ((∀ i, i < m.length → rowZ m i ≠ 0) ∧ (∀ j, j < m.length → colZ m j ≠ 0) ∧ allZ m ≤ 12)) ?_ ?_ ?_) ?_
 · {
 intro i hi _ hP q hq
 obtain ⟨h1, h2, h3⟩ := of_decide_eq_true hP
 refine Ev.step (fun _ => rfl) (Ev_pos (by omega) (Ev_pos (by omega) (Ev_pos (by omega) (Ev_val rfl ?_))))
 rw [rdL_nat, Int.toNat_natCast, containsFunc_eq m i hi h1, wrap_succ (by omega)]
 refine Ev_pos (by omega) (Ev.bind (allWithin_ev _ 0 12 (by omega)) (Ev_pos (decide_eq_true (fun j hj => h2 j (by omega))) (Ev_pos (by omega) (Ev_val rfl (Ev_neg ?_ hq)))))
 rw [decide_eq_true_iff]; exact fun hn => hn h3}
 · {
 intro i hi _ hP
 have hP := of_decide_eq_false hP
 refine Ev.step (fun _ => rfl) (Ev_pos (by omega) (Ev_pos (by omega) (Ev_pos (by omega) (Ev_val rfl ?_))))
 have hsm := hs.2 _ (getD_mem (z := []) (show i < m.length by omega))
 rw [rdL_nat]
 by_cases c1 : (m.getD i []).length = m.length
 · {
 refine Ev_pos (by omega) (Ev.bind (allWithin_ev _ 0 12 (by omega)) ?_)
 by_cases c2 : ∀ j, j < (m.getD i []).length → 0 ≤ (m.getD i []).getD j 0 ∧ (m.getD i []).getD j 0 ≤ 12
 · {
 refine Ev_pos (decide_eq_true c2) (Ev_pos (by omega) ?_)
 rw [Int.toNat_natCast, containsFunc_eq m i hi c1]
 exact Ev_val rfl (Ev_pos (decide_eq_true (fun h3 => hP ⟨c1, fun j hj => c2 j (by omega), h3⟩)) (Ev_some rfl))}
 · exact Ev_neg (by simpa using c2) (Ev_some rfl)}
 · exact Ev_neg (by omega) (Ev_some rfl)}
 · {
 intro h
 have hC : Cells m := fun i hi => by {
 obtain ⟨h1, h2, h3⟩ := of_decide_eq_true (h i hi)
 exact ⟨h1, fun j hj => ⟨(h2 j hj).1, (h2 j hj).2, h3 j hj⟩⟩}
 refine Ev.step (fun _ => rfl) (Ev_neg (by omega) (Ev.bind (sums_ev m hd hC) (Ev.bind (Index_ev _ 0 (by simp [rowsL]; omega)) ?_)))
 by_cases c1 : ∀ i, i < m.length → rowZ m i ≠ 0
 · {
 refine Ev_neg (by rw [decide_eq_true_iff, mem_rowsL]; exact fun hn => hn c1) (Ev.bind (Index_ev _ 0 (by simp [colsL]; omega)) ?_)
 by_cases c2 : ∀ i, i < m.length → colZ m i ≠ 0
 · exact Ev_neg (by rw [decide_eq_true_iff, mem_colsL]; exact fun hn => hn c2) (Ev.bind (sumOf_ev m hd hC) (Ev_some (dec_eq ⟨fun h => ⟨c1, c2, h⟩, fun h => h.2.2⟩)))
 · {
 refine Ev_pos (by rw [decide_eq_true_iff, mem_colsL]; exact c2) (Ev_some ?_)
 symm; rw [decide_eq_false_iff_not]; exact fun h => c2 h.2.1}}
 · {
 refine Ev_pos (by rw [decide_eq_true_iff, mem_rowsL]; exact c1) (Ev_some ?_)
 symm; rw [decide_eq_false_iff_not]; exact fun h => c1 h.1}}
 · {
 rw [← Bool.decide_and]
 refine dec_eq ⟨fun ⟨h, h1, h2, h3⟩ => ⟨hd, fun i hi => ?_, h1, h2, h3⟩, fun ⟨_, h, h1, h2, h3⟩ => ⟨fun i hi => decide_eq_true ⟨(h i hi).1, fun j hj => ⟨h.nn hi hj, h.le hi hj⟩, fun j hj hji => ((h i hi).2 j hj).2.2 hji⟩, h1, h2, h3⟩⟩
 obtain ⟨h4, h5, h6⟩ := of_decide_eq_true (h i hi)
 exact ⟨h4, fun j hj => ⟨(h5 j hj).1, (h5 j hj).2, h6 j hj⟩⟩}}
 · {
 refine Ev_pos (by omega) (Ev_some ?_)
 symm; rw [decide_eq_false_iff_not]; exact fun h => hd h.1}
theorem maTotal_ev (row : List Int) (hl : row.length ≤ 1000000) (hb : ∀ j, j < row.length → 0 ≤ row.getD j 0 ∧ row.getD j 0 ≤ 1000000) : Ev (fun k => Y42.f k row) (sumZ row.length (fun j => row.getD j 0)) := by
 unfold Y42.f
 have main : ∀ (d i : Nat), row.length - i = d → i ≤ row.length → Ev (fun k => Y42.l0 k (sumZ i (fun j => row.getD j 0)) row (row.length : Int) (i : Int)) (sumZ row.length (fun j => row.getD j 0)) := by {
 intro d
 induction d with
 | zero => {
 intro i hd hi
 obtain rfl : i = row.length := by omega
 exact Ev.step (fun _ => rfl) (Ev_neg (by omega) (Ev_some rfl))}
 | succ d ih => {
 intro i hd hi
 refine Ev.step (fun _ => rfl) (Ev_pos (by omega) (Ev_pos (by omega) (Ev_pos (by omega) ?_)))
 have h1 := sumZ_bound (n := i) (f := fun j => row.getD j 0) (B := 1000000) (by decide) (fun j hj => hb j (by omega))
 have h2 := hb i (by omega)
 rw [rd_nat, wrap_succ (by omega), wrap_small (by omega) (by omega)]
 exact ih (i + 1) (by omega) (by omega)}}
 exact main _ 0 rfl (by omega)
theorem Cells.rowTot {m : List (List Int)} (h : Cells m) (hd : m.length ≤ 12) {i : Nat} (hi : i < m.length) : Ev (fun k => Y42.f k (m.getD i [])) (rowZ m i) := by
 have hl := (h i hi).1
 have := maTotal_ev (m.getD i []) (by omega) (fun j hj => ⟨h.nn hi (by omega), by have := h.le hi (show j < m.length by omega); simp only [en] at this; omega⟩)
 rw [hl] at this
 exact this
theorem maSum_ev (m : List (List Int)) (hd : m.length ≤ 12) (h : Cells m) : Ev (fun k => Y44.f k m) (allZ m) := by
 unfold Y44.f
 have main : ∀ (d i : Nat), m.length - i = d → i ≤ m.length → Ev (fun k => Y44.l0 k (sumZ i (fun i => rowZ m i)) m (m.length : Int) (i : Int)) (allZ m) := by {
 intro d
 induction d with
 | zero => {
 intro i hd hi
 obtain rfl : i = m.length := by omega
 exact Ev.step (fun _ => rfl) (Ev_neg (by omega) (Ev_some rfl))}
 | succ d ih => {
 intro i hd' hi
 refine Ev.step (fun _ => rfl) (Ev_pos (by omega) (Ev_pos (by omega) (Ev_pos (by omega) ?_)))
 have h1 := sumZ_bound (n := i) (f := fun i => rowZ m i) (B := 144) (by decide) (fun j hj => by have := h.row (show j < m.length by omega); omega)
 have h2 := h.row (show i < m.length by omega)
 rw [rdL_nat, wrap_succ (by omega)]
 refine Ev.bind (h.rowTot hd (by omega)) ?_
 rw [wrap_small (by omega) (by omega)]
 exact ih (i + 1) (by omega) (by omega)}}
 exact main _ 0 rfl (by omega)
def colL (m : List (List Int)) (j : Nat) : List Int := (List.range m.length).map fun (i : Nat) => en m i j
theorem maColumn_ev (m : List (List Int)) (hd : m.length ≤ 12) (h : Cells m) (j : Nat) (hj : j < m.length) : Ev (fun k => Y41.f k m (j : Int)) (colL m j) := by
 unfold Y41.f
 have main : ∀ (d i : Nat), m.length - i = d → i ≤ m.length → Ev (fun k => Y41.l0 k (j : Int) ((List.range i).map fun (i : Nat) => en m i j) m (m.length : Int) (i : Int)) (colL m j) := by {
 intro d
 induction d with
 | zero => {
 intro i hd hi
 obtain rfl : i = m.length := by omega
 exact Ev.step (fun _ => rfl) (Ev_neg (by omega) (Ev_some rfl))}
 | succ d ih => {
 intro i hd' hi
 refine Ev.step (fun _ => rfl) (Ev_pos (by omega) (Ev_pos (by omega) (Ev_pos (by omega) ?_)))
 have hl := (h i (by omega)).1
 rw [rdL_nat, rd_nat, wrap_succ (by omega)]
 refine Ev_pos (by omega) (Ev_pos (by omega) (Ev_pos (by simp; omega) ?_))
 have := ih (i + 1) (by omega) (by omega)
 rw [List.range_succ, List.map_append] at this
 exact this}}
 exact main _ 0 rfl (by omega)
def mostL (row : List Int) : Int := foldFrom row.length (fun s i => if row.getD i 0 > s then row.getD i 0 else s) (-1) 0
theorem l1Most_eq (a b : Int) : Y47.f a b = some (if b > a then b else a) := by
 unfold Y47.f
 by_cases h : a > b
 · rw [if_pos h, if_neg (by omega)]
 · {
 rw [if_neg h]
 by_cases h2 : b > a
 · rw [if_pos h2]
 · rw [if_neg h2, show a = b from by omega]}
theorem ivMost_ev (row : List Int) (hl : row.length ≤ 1000000) : Ev (fun k => Y28.f k row) (mostL row) := by
 unfold Y28.f
 refine (Ev_for (l := fun k s i => Y28.l0 k s row (row.length : Int) (i : Int)) row.length (fun s i => if row.getD i 0 > s then row.getD i 0 else s) id (fun _ _ => True) (fun _ _ _ _ => trivial) ?_ ?_ 0 (-1) (by omega) trivial).1
 · {
 intro i s hi _ r hr
 refine Ev.step (fun _ => rfl) (Ev_pos (by omega) (Ev_pos (by omega) (Ev_pos (by omega) ?_)))
 rw [rd_nat, wrap_succ (by omega), l1Most_eq]
 exact Ev_val rfl hr}
 · {
 intro s _
 exact Ev.step (fun _ => rfl) (Ev_neg (by omega) (Ev_some rfl))}
theorem mostL_zero {row : List Int} (hp : 0 < row.length) (h : ∀ j, j < row.length → 0 ≤ row.getD j 0) : mostL row = 0 ↔ ∀ j, j < row.length → row.getD j 0 = 0 := by
 have main : ∀ (d i : Nat) (s : Int), row.length - i = d → i ≤ row.length → (s = -1 ∧ i = 0 ∨ 0 ≤ s) → (foldFrom row.length (fun s i => if row.getD i 0 > s then row.getD i 0 else s) s i = 0 ↔ (s ≤ 0 ∧ ∀ j, i ≤ j → j < row.length → row.getD j 0 = 0)) := by {
 intro d
 induction d with
 | zero => {
 intro i s hd hi hs
 rw [foldFrom_ge (by omega)]
 exact ⟨fun h0 => ⟨by omega, fun j hij hj => by omega⟩, fun h0 => by omega⟩}
 | succ d ih => {
 intro i s hd hi hs
 have h1 := h i (by omega)
 rw [foldFrom_lt (by omega)]
 by_cases c : row.getD i 0 > s
 · {
 rw [if_pos c, ih (i + 1) _ (by omega) (by omega) (.inr h1)]
 refine ⟨fun ⟨h2, h3⟩ => ⟨by omega, fun j hij hj => ?_⟩, fun ⟨h2, h3⟩ => ⟨by have := h3 i (by omega) (by omega); omega, fun j hij hj => h3 j (by omega) hj⟩⟩
 by_cases e : j = i
 · rw [e]; omega
 · exact h3 j (by omega) hj}
 · {
 rw [if_neg c, ih (i + 1) _ (by omega) (by omega) (.inr (by omega))]
 refine ⟨fun ⟨h2, h3⟩ => ⟨by omega, fun j hij hj => ?_⟩, fun ⟨h2, h3⟩ => ⟨h2, fun j hij hj => h3 j (by omega) hj⟩⟩
 by_cases e : j = i
 · rw [e]; omega
 · exact h3 j (by omega) hj}}}
 unfold mostL
 rw [main _ 0 (-1) rfl (by omega) (.inl ⟨rfl, rfl⟩)]
 exact ⟨fun h0 j hj => h0.2 j (by omega) hj, fun h0 => ⟨by omega, fun j _ hj => h0 j hj⟩⟩
theorem l1In_eq (a b c : Int) : Y30.f a b c = some (decide (b ≤ a ∧ a ≤ c)) := by
 unfold Y30.f
 by_cases h : a ≥ b
 · rw [if_pos h]; have : b ≤ a := h; simp [this]
 · rw [if_neg h]; simp; omega
theorem l1All_ev (l : List Int) (lo hi : Int) (hs : l.length ≤ 4611686018427387000) : Ev (fun k => Y31.f k l lo hi) (decide (∀ j, j < l.length → lo ≤ l.getD j 0 ∧ l.getD j 0 ≤ hi)) := by
 unfold Y31.f
 refine Ev_eq (Ev_all (fun k i => Y31.l0 k lo hi l (l.length : Int) (i : Int)) l.length (fun j => decide (lo ≤ l.getD j 0 ∧ l.getD j 0 ≤ hi)) true ?_ ?_ ?_) ?_
 · {
 intro i hi' _ hP q hq
 refine Ev.step (fun _ => rfl) (Ev_pos (by omega) (Ev_pos (by omega) (Ev_pos (by omega) ?_)))
 rw [rd_nat, wrap_succ (by omega), l1In_eq]
 exact Ev_val rfl (Ev_pos hP hq)}
 · {
 intro i hi' _ hP
 refine Ev.step (fun _ => rfl) (Ev_pos (by omega) (Ev_pos (by omega) (Ev_pos (by omega) ?_)))
 rw [rd_nat, l1In_eq]
 exact Ev_val rfl (Ev_neg (by rw [hP]; decide) (Ev_some rfl))}
 · {
 intro _
 exact Ev.step (fun _ => rfl) (Ev_neg (by omega) (Ev_some rfl))}
 · rw [Bool.and_true]; exact dec_eq ⟨fun h j hj => of_decide_eq_true (h j hj), fun h j hj => decide_eq_true (h j hj)⟩
def rowOk (m : List (List Int)) (i : Nat) : Prop := (m.getD i []).length = m.length ∧ (∀ j, j < m.length → 0 ≤ en m i j ∧ en m i j ≤ 12) ∧ rowZ m i ≠ 0 ∧ ∀ j, j < m.length → j < i → en m i j = 0
instance (m : List (List Int)) (i : Nat) : Decidable (rowOk m i) := inferInstanceAs (Decidable (_ ∧ _ ∧ _ ∧ ∀ j, j < m.length → _))
theorem cells_of_rows {m : List (List Int)} (h : ∀ i, i < m.length → rowOk m i) : Cells m := fun i hi => ⟨(h i hi).1, fun j hj => ⟨((h i hi).2.1 j hj).1, ((h i hi).2.1 j hj).2, fun hji => (h i hi).2.2.2 j hj hji⟩⟩
theorem rowMost (m : List (List Int)) (i : Nat) (hi : i < m.length) (hl : (m.getD i []).length = m.length) (hw : ∀ j, j < m.length → 0 ≤ en m i j ∧ en m i j ≤ 12) : mostL (m.getD i []) = 0 ↔ rowZ m i = 0 := by
 rw [mostL_zero (by omega) (fun j hj => (hw j (by omega)).1), rowZ, sumZ_zero (fun j hj => (hw j hj).1), hl]
 exact Iff.rfl
theorem maGood_l1 (m : List (List Int)) (hd : m.length ≤ 12) (i : Nat) (hi : i < m.length) (hl : (m.getD i []).length = m.length) (hw : ∀ j, j < m.length → 0 ≤ en m i j ∧ en m i j ≤ 12) (q : Bool)
    (hq : (∀ j, j < m.length → j < i → en m i j = 0) → Ev (fun k => Y6.l0 k (m.length : Int) m (m.length : Int) ((i + 1 : Nat) : Int) m) q) :
    Ev (fun k => Y6.l1 k (m.length : Int) (i : Int) m (m.length : Int) (i : Int) (m.getD i []) ((m.getD i []).length : Int) 0 m) (decide (∀ j, j < m.length → j < i → en m i j = 0) && q) := by
 rw [hl]
 refine Ev_eq (Ev_all (fun k j => Y6.l1 k (m.length : Int) (i : Int) m (m.length : Int) (i : Int) (m.getD i []) (m.length : Int) (j : Int) m) m.length (fun j => decide (j < i → en m i j = 0)) q ?_ ?_ ?_) ?_
 · {
 intro j hj _ hP r hr
 refine Ev.step (fun _ => rfl) (Ev_pos (by omega) (Ev_pos (by omega) (Ev_pos (by omega) ?_)))
 rw [rd_nat, wrap_succ (by omega)]
 have hP := of_decide_eq_true hP
 by_cases c : j < i
 · exact Ev_pos (by omega) (Ev_neg (by have := hP c; simp only [en] at this; omega) hr)
 · exact Ev_neg (by omega) hr}
 · {
 intro j hj _ hP
 refine Ev.step (fun _ => rfl) (Ev_pos (by omega) (Ev_pos (by omega) (Ev_pos (by omega) ?_)))
 rw [rd_nat]
 have hP := of_decide_eq_false hP
 have h1 := hw j hj
 have h2 : en m i j ≠ 0 := fun h => hP (fun _ => h)
 have h3 : j < i := by {
 by_cases c : j < i
 · exact c
 · exact absurd (fun h => absurd h c) hP}
 exact Ev_pos (by omega) (Ev_pos (by simp only [en] at h1 h2; omega) (Ev_some rfl))}
 · {
 intro h
 refine Ev.step (fun _ => rfl) (Ev_neg (by omega) ?_)
 rw [wrap_succ (by omega)]
 exact hq (fun j hj => of_decide_eq_true (h j hj))}
 · congr 1; exact dec_eq ⟨fun h j hj => of_decide_eq_true (h j hj), fun h j hj => decide_eq_true (h j hj)⟩
theorem maGood_l2 (m : List (List Int)) (hd : m.length ≤ 12) (h : Cells m) : Ev (fun k => Y6.l2 k (m.length : Int) 0 m) (decide ((∀ j, j < m.length → colZ m j ≠ 0) ∧ allZ m ≤ 12)) := by
  refine Ev_eq (Ev_all (fun k j => Y6.l2 k (m.length : Int) (j : Int) m) m.length (fun j => decide (colZ m j ≠ 0)) (decide (allZ m ≤ 12)) ?_ ?_ ?_) ?_
  all_goals first
    | (intro j hj _ hP r hr
       refine Ev.step (fun _ => rfl) (Ev_pos (by omega) (Ev.bind (maColumn_ev m hd h j hj) (Ev.bind (ivMost_ev _ (by simp [colL]; omega)) ?_)))
       have hP := of_decide_eq_true hP
       have e : mostL (colL m j) = 0 ↔ colZ m j = 0 := by
         rw [mostL_zero (by simp [colL]; omega) (fun i hi => by rw [colL, mapR_getD _ _ (by simpa [colL] using hi)]; exact h.nn (by simpa [colL] using hi) hj), colZ, sumZ_zero (fun i hi => h.nn hi hj)]
         simp only [colL, mapR_length]
         exact ⟨fun h2 i hi => by have := h2 i hi; rwa [mapR_getD _ _ hi] at this, fun h2 i hi => by rw [mapR_getD _ _ hi]; exact h2 i hi⟩
       rw [wrap_succ (by omega)]
       exact Ev_neg (fun hh => hP (e.1 hh)) hr)
    | (intro j hj _ hP
       refine Ev.step (fun _ => rfl) (Ev_pos (by omega) (Ev.bind (maColumn_ev m hd h j hj) (Ev.bind (ivMost_ev _ (by simp [colL]; omega)) ?_)))
       have hP := of_decide_eq_false hP
       have e : mostL (colL m j) = 0 ↔ colZ m j = 0 := by
         rw [mostL_zero (by simp [colL]; omega) (fun i hi => by rw [colL, mapR_getD _ _ (by simpa [colL] using hi)]; exact h.nn (by simpa [colL] using hi) hj), colZ, sumZ_zero (fun i hi => h.nn hi hj)]
         simp only [colL, mapR_length]
         exact ⟨fun h2 i hi => by have := h2 i hi; rwa [mapR_getD _ _ hi] at this, fun h2 i hi => by rw [mapR_getD _ _ hi]; exact h2 i hi⟩
       exact Ev_pos (e.2 (Decidable.of_not_not hP)) (Ev_some rfl))
    | (intro _
       exact Ev.step (fun _ => rfl) (Ev_neg (by omega) (Ev.bind (maSum_ev m hd h) (Ev_some rfl))))
    | skip
  rw [Bool.decide_and]; congr 1; exact dec_eq ⟨fun h j hj => of_decide_eq_true (h j hj), fun h j hj => decide_eq_true (h j hj)⟩
theorem maGood_ev (m : List (List Int)) (hs : Small m) : Ev (fun k => Y6.f k m) (decide (isMat m)) := by
 unfold Y6.f
 by_cases hd : m.length ≤ 12
 · {
 refine Ev_neg (by omega) ?_
 by_cases hC : Cells m ∧ ∀ i, i < m.length → rowZ m i ≠ 0
 · {
 have key : ∀ (d i : Nat), m.length - i = d → i ≤ m.length → Ev (fun k => Y6.l0 k (m.length : Int) m (m.length : Int) (i : Int) m) (decide ((∀ j, j < m.length → colZ m j ≠ 0) ∧ allZ m ≤ 12)) := by {
 intro d
 induction d with
 | zero => {
 intro i hdi hi
 exact Ev.step (fun _ => rfl) (Ev_neg (by omega) (maGood_l2 m hd hC.1))}
 | succ d ih => {
 intro i hdi hi
 have hl := (hC.1 i (by omega)).1
 have hw : ∀ j, j < m.length → 0 ≤ en m i j ∧ en m i j ≤ 12 := fun j hj => ⟨hC.1.nn (by omega) hj, hC.1.le (by omega) hj⟩
 refine Ev.step (fun _ => rfl) (Ev_pos (by omega) (Ev_pos (by omega) (Ev_pos (by omega) ?_)))
 rw [rdL_nat]
 refine Ev_pos (by omega) (Ev.bind (l1All_ev _ 0 12 (by omega)) (Ev_pos (decide_eq_true (fun j hj => hw j (by omega))) (Ev.bind (ivMost_ev _ (by omega)) ?_)))
 refine Ev.step (fun _ => rfl) (Ev_neg ?_ ?_)
 · rw [beq_iff_eq, rowMost m i (by omega) hl hw]; exact hC.2 i (by omega)
 · {
 refine Ev_eq (maGood_l1 m hd i (by omega) hl hw _ (fun _ => ih (i + 1) (by omega) (by omega))) ?_
 rw [decide_eq_true (fun j hj hji => ((hC.1 i (by omega)).2 j hj).2.2 hji), Bool.true_and]}}}
 refine Ev_eq (key _ 0 rfl (by omega)) (dec_eq ⟨fun h => ⟨hd, hC.1, hC.2, h.1, h.2⟩, fun h => ⟨h.2.2.2.1, h.2.2.2.2⟩⟩)}
 · {
 have key : ∀ (d i : Nat), m.length - i = d → i ≤ m.length → (∀ j, j < i → rowOk m j) → Ev (fun k => Y6.l0 k (m.length : Int) m (m.length : Int) (i : Int) m) false := by {
 intro d
 induction d with
 | zero => {
 intro i hdi hi h
 exact absurd ⟨cells_of_rows (fun j hj => h j (by omega)), fun j hj => (h j (by omega)).2.2.1⟩ hC}
 | succ d ih => {
 intro i hdi hi h
 have hout : ∀ (b : Bool), b = true → Ev (fun k => Y6.j1 k (m.length : Int) (i : Int) (m.getD i []) m (m.length : Int) (i : Int) b m) false := fun b hb => Ev.step (fun _ => rfl) (Ev_pos hb (Ev_some rfl))
 refine Ev.step (fun _ => rfl) (Ev_pos (by omega) (Ev_pos (by omega) (Ev_pos (by omega) ?_)))
 rw [rdL_nat]
 have hsm := hs.2 _ (getD_mem (z := []) (show i < m.length by omega))
 by_cases c1 : (m.getD i []).length = m.length
 · {
 refine Ev_pos (by omega) (Ev.bind (l1All_ev _ 0 12 (by omega)) ?_)
 by_cases c2 : ∀ j, j < (m.getD i []).length → 0 ≤ (m.getD i []).getD j 0 ∧ (m.getD i []).getD j 0 ≤ 12
 · {
 have hw : ∀ j, j < m.length → 0 ≤ en m i j ∧ en m i j ≤ 12 := fun j hj => c2 j (by omega)
 refine Ev_pos (decide_eq_true c2) (Ev.bind (ivMost_ev _ (by omega)) ?_)
 by_cases c3 : rowZ m i = 0
 · exact hout _ (by rw [beq_iff_eq, rowMost m i (by omega) c1 hw]; exact c3)
 · {
 refine Ev.step (fun _ => rfl) (Ev_neg (by rw [beq_iff_eq, rowMost m i (by omega) c1 hw]; exact c3) ?_)
 refine Ev_eq (maGood_l1 m hd i (by omega) c1 hw false (fun h4 => ih (i + 1) (by omega) (by omega) (fun j hj => ?_))) (by simp)
 by_cases e : j = i
 · rw [e]; exact ⟨c1, hw, c3, h4⟩
 · exact h j (by omega)}}
 · exact Ev_neg (by simpa using c2) (hout _ rfl)}
 · exact Ev_neg (by omega) (hout _ rfl)}}
 refine Ev_eq (key _ 0 rfl (by omega) (fun j hj => by omega)) ?_
 symm; rw [decide_eq_false_iff_not]; exact fun h => hC ⟨h.2.1, h.2.2.1⟩}}
 · {
 refine Ev_pos (by omega) (Ev_some ?_)
 symm; rw [decide_eq_false_iff_not]; exact fun h => hd h.1}
def matF (d : Nat) (f : Nat → Nat → Int) : List (List Int) := (List.range d).map fun (i : Nat) => (List.range d).map fun (j : Nat) => f i j
theorem matF_length (d : Nat) (f : Nat → Nat → Int) : (matF d f).length = d := by simp [matF]
theorem matF_row (d : Nat) (f : Nat → Nat → Int) {i : Nat} (h : i < d) : (matF d f).getD i [] = (List.range d).map fun (j : Nat) => f i j := by
 rw [getD_lt _ _ _ (by simpa [matF] using h)]; simp [matF]
theorem matF_congr (d : Nat) {f g : Nat → Nat → Int} (h : ∀ i, i < d → ∀ j, j < d → f i j = g i j) : matF d f = matF d g := by
 unfold matF
 apply List.map_congr_left; intro i hi
 apply List.map_congr_left; intro j hj
 exact h i (by simpa using hi) j (by simpa using hj)
theorem matF_set (d : Nat) (f g : Nat → Nat → Int) (a b : Nat) (ha : a < d) (hb : b < d) (h : ∀ i, i < d → ∀ j, j < d → ¬ (i = a ∧ j = b) → g i j = f i j) :
    (matF d f).set a (((matF d f).getD a []).set b (g a b)) = matF d g := by
 apply List.ext_getElem (by simp [matF])
 intro i h1 h2
 have hi : i < d := by simpa [matF] using h1
 by_cases e : i = a
 · {
 subst e
 rw [List.getElem_set_self, matF_row _ _ hi]
 simp only [matF, List.getElem_map, List.getElem_range]
 apply List.ext_getElem (by simp)
 intro j h3 h4
 rw [List.length_set, List.length_map, List.length_range] at h3
 by_cases ej : j = b
 · subst ej; simp
 · rw [List.getElem_set_ne (fun x => ej x.symm)]; simp [h i hi j h3 (fun q => ej q.2)]}
 · {
 rw [List.getElem_set_ne (fun x => e x.symm)]
 simp only [matF, List.getElem_map, List.getElem_range]
 apply List.map_congr_left; intro j hj
 exact (h i hi j (by simpa using hj) (fun q => e q.1)).symm}
def elems (n : Nat) : List Int := ((List.range 10).filter fun (i : Nat) => n.testBit i).map fun (i : Nat) => (i : Int)
theorem mem_all : (List.range 1024).all (fun n => decide (Y35.mem (n + 1) n = elems n)) = true := by decide +kernel
theorem mem_elems (n : Nat) (h : n < 1024) : Y35.mem (n + 1) n = elems n := of_decide_eq_true (List.all_eq_true.1 mem_all n (List.mem_range.2 h))
theorem members_eq (n : Nat) (h : n < 1024) : Y35.f (n : Int) = some (elems n) := by
 unfold Y35.f
 rw [if_pos ⟨by omega, by omega⟩, Int.toNat_natCast, mem_elems n h]
theorem orHas_all : (List.range 1024).all (fun n => (List.range 10).all fun i => decide (Y7.f (n : Int) (i : Int) = some (n.testBit i))) = true := by decide +kernel
theorem orHas_eq (n i : Nat) (h : n < 1024) (hi : i < 10) : Y7.f (n : Int) (i : Int) = some (n.testBit i) := of_decide_eq_true (List.all_eq_true.1 (List.all_eq_true.1 orHas_all n (List.mem_range.2 h)) i (List.mem_range.2 hi))
theorem orList_all : (List.range 1024).all (fun n => decide (Y12.f 12 (n : Int) = some (elems n))) = true := by decide +kernel
theorem orList_ev (n : Nat) (h : n < 1024) : ∃ k0, ∀ k, k0 ≤ k → Y12.f k (n : Int) = some (elems n) := by
 refine ⟨12, fun k hk => ?_⟩
 have h0 : Y12.f 12 (n : Int) = some (elems n) := of_decide_eq_true (List.all_eq_true.1 orList_all n (List.mem_range.2 h))
 obtain ⟨d, rfl⟩ : ∃ d, k = 12 + d := ⟨k - 12, by omega⟩
 clear hk
 induction d with
 | zero => exact h0
 | succ d ih => exact Y12.mono _ _ _ ih
theorem elems_mem (n : Nat) (x : Int) : x ∈ elems n ↔ ∃ i : Nat, i < 10 ∧ n.testBit i = true ∧ x = (i : Int) := by
 unfold elems
 simp only [List.mem_map, List.mem_filter, List.mem_range]
 constructor
 · rintro ⟨i, ⟨h1, h2⟩, rfl⟩; exact ⟨i, h1, h2, rfl⟩
 · rintro ⟨i, h1, h2, rfl⟩; exact ⟨i, ⟨h1, h2⟩, rfl⟩
theorem better_all : (List.range 1024).all (fun n => (List.range 10).all fun i => decide (((Go.bits .and .i64 (shr .i64 (n : Int) (i : Int)) 1) == 1) = n.testBit i)) = true := by decide +kernel
theorem better_bit (n i : Nat) (h : n < 1024) (hi : i < 10) : ((Go.bits .and .i64 (shr .i64 (n : Int) (i : Int)) 1) == 1) = n.testBit i := of_decide_eq_true (List.all_eq_true.1 (List.all_eq_true.1 better_all n (List.mem_range.2 h)) i (List.mem_range.2 hi))
def setOf (p : Nat → Bool) : Nat → Nat
  | 0 => 0
  | j + 1 => if p j = true then setOf p j + 2 ^ j else setOf p j
theorem setOf_lt (p : Nat → Bool) : ∀ n, setOf p n < 2 ^ n
  | 0 => by simp [setOf]
  | n + 1 => by
    have := setOf_lt p n
    rw [setOf, Nat.pow_succ]
    split <;> omega
theorem setOf_bit (p : Nat → Bool) : ∀ n i, (setOf p n).testBit i = (decide (i < n) && p i)
  | 0, i => by simp [setOf]
  | n + 1, i => by
    have hl := setOf_lt p n
    have ih := setOf_bit p n
    rw [setOf]
    by_cases c : p n = true
    · rw [if_pos c, Nat.add_comm]
      by_cases e : i = n
      · subst e
        rw [Nat.testBit_two_pow_add_eq, ih]
        simp [c]
      · by_cases e2 : i < n
        · rw [Nat.testBit_two_pow_add_gt e2, ih]
          simp [e2, Nat.lt_succ_of_lt e2]
        · have h1 : 2 ^ n + setOf p n < 2 ^ i := by
            have : 2 ^ (n + 1) ≤ 2 ^ i := Nat.pow_le_pow_right (by decide) (by omega)
            rw [Nat.pow_succ] at this
            omega
          rw [Nat.testBit_lt_two_pow h1]
          simp; intro h; omega
    · rw [if_neg c, ih]
      by_cases e : i = n
      · subst e; simp at c; simp [c]
      · have : (i < n + 1) = (i < n) := by apply propext; omega
        simp only [this]
theorem or_all : (List.range 10).all (fun j => (List.range (2 ^ j)).all fun s => decide (Go.bits .or .i64 (s : Int) (shl .i64 1 (j : Int)) = ((s + 2 ^ j : Nat) : Int))) = true := by decide +kernel
theorem or_bit (s j : Nat) (hj : j < 10) (hs : s < 2 ^ j) : Go.bits .or .i64 (s : Int) (shl .i64 1 (j : Int)) = ((s + 2 ^ j : Nat) : Int) := of_decide_eq_true (List.all_eq_true.1 (List.all_eq_true.1 or_all j (List.mem_range.2 hj)) s (List.mem_range.2 hs))
theorem relRow_set (p : Nat → Nat → Bool) (i : Nat) : ∀ n, n ≤ 10 → Y3.rel.relRow p i n = (setOf (p i) n : Int)
  | 0, _ => rfl
  | n + 1, h => by
    rw [Y3.rel.relRow, setOf, relRow_set p i n (by omega)]
    by_cases c : p i n = true
    · rw [if_pos c, if_pos c, or_bit _ n (by omega) (setOf_lt _ _)]
    · rw [if_neg c, if_neg c]
theorem setOf_congr {p q : Nat → Bool} : ∀ n, (∀ j, j < n → p j = q j) → setOf p n = setOf q n
  | 0, _ => rfl
  | n + 1, h => by rw [setOf, setOf, setOf_congr n (fun j hj => h j (by omega)), h n (by omega)]
def Rel (l : List Int) : Prop := l.length ≤ 10 ∧ ∀ x ∈ l, 0 ≤ x ∧ x < 2 ^ l.length
def ab (l : List Int) (i : Nat) : Nat := (l.getD i 0).toNat
def bel (l : List Int) (j : Nat) : Nat := setOf (fun i => (ab l i).testBit j) l.length
theorem Rel.ab_lt {l : List Int} (h : Rel l) (i : Nat) : ab l i < 1024 := by
 unfold ab
 by_cases c : i < l.length
 · {
 have h1 := h.2 (l.getD i 0) (by rw [List.getD_eq_getElem?_getD, List.getElem?_eq_getElem c]; exact List.getElem_mem _)
 have h2 : (2 : Int) ^ l.length ≤ 2 ^ 10 := by {
 have := Nat.pow_le_pow_right (n := 2) (by decide) h.1
 exact_mod_cast this}
 omega}
 · rw [List.getD_eq_getElem?_getD, List.getElem?_eq_none (by omega)]; decide
theorem Rel.get {l : List Int} (h : Rel l) (i : Nat) : l.getD i 0 = (ab l i : Int) := by
 unfold ab
 by_cases c : i < l.length
 · {
 have h1 := h.2 (l.getD i 0) (by rw [List.getD_eq_getElem?_getD, List.getElem?_eq_getElem c]; exact List.getElem_mem _)
 omega}
 · rw [List.getD_eq_getElem?_getD, List.getElem?_eq_none (by omega)]; rfl
theorem mirror_eq {l : List Int} (h : Rel l) : Y3.f (l.length : Int) l = some ((l.length : Int), (List.range l.length).map fun j => (bel l j : Int)) := by
 unfold Y3.f
 have hl := h.1
 rw [if_pos ⟨by omega, by omega, rfl⟩]
 have : (List.range l.length).map (fun a => Y3.rel.relRow (Y3.before l) a l.length) = (List.range l.length).map fun j => (bel l j : Int) := by {
 apply List.map_congr_left
 intro j hj
 have hj' := List.mem_range.1 hj
 rw [relRow_set _ _ _ hl]
 unfold bel
 rw [setOf_congr (p := Y3.before l j) (q := fun i => (ab l i).testBit j) l.length (fun i hi => by
  unfold Y3.before
  have e : rd l (i : Int) = (ab l i : Int) := by rw [← h.get i]; rfl
  rw [e]
  exact better_bit _ _ (h.ab_lt i) (by omega))]}
 rw [this]
theorem rd_getD (l : List Int) (i : Nat) : rd l (i : Int) = l.getD i 0 := rfl
theorem setOf_succ (p : Nat → Bool) (n : Nat) : setOf p (n + 1) = if p n = true then setOf p n + 2 ^ n else setOf p n := rfl
theorem orBelow_ev {l : List Int} (h : Rel l) (j : Nat) (hj : j < 10) (n : Int) : Ev (fun k => Y17.f k n l (j : Int)) (bel l j : Int) := by
 unfold Y17.f bel
 have hl := h.1
 have main : ∀ (d i : Nat), l.length - i = d → i ≤ l.length → Ev (fun k => Y17.l0 k (j : Int) (setOf (fun i => (ab l i).testBit j) i : Int) l (l.length : Int) (i : Int)) (setOf (fun i => (ab l i).testBit j) l.length : Int) := by {
 intro d
 induction d with
 | zero => {
 intro i hd hi
 obtain rfl : i = l.length := by omega
 exact Ev.step (fun k => by rw [Y17.l0]) (Ev_neg (by omega) (Ev_some rfl))}
 | succ d ih => {
 intro i hd hi
 have next := ih (i + 1) (by omega) (by omega)
 refine Ev.step (fun k => by rw [Y17.l0]) (Ev_pos (by omega) (Ev_pos (by omega) (Ev_pos (by omega) ?_)))
 rw [rd_getD, h.get i, wrap_succ (by omega)]
 refine Ev_val (orHas_eq (ab l i) j (h.ab_lt i) hj) ?_
 rw [setOf_succ] at next
 by_cases c : (ab l i).testBit j = true
 · {
 rw [if_pos c] at next
 refine Ev_pos c ?_
 rw [or_bit _ i (by omega) (setOf_lt _ _)]
 exact next}
 · {
 rw [if_neg c] at next
 exact Ev_neg c next}}}
 exact main _ 0 rfl (Nat.zero_le _)
theorem andNot_zero (a b : Nat) (ha : a < 1024) (hb : b < 1024) : Go.bits .andNot .i64 (a : Int) (b : Int) = 0 ↔ ∀ i, i < 10 → a.testBit i = true → b.testBit i = true := by
 have h1 : (BitVec.ofInt 64 (a : Int)).toNat = a := by rw [BitVec.ofInt_natCast, BitVec.toNat_ofNat]; exact Nat.mod_eq_of_lt (by omega)
 have h2 : (BitVec.ofInt 64 (b : Int)).toNat = b := by rw [BitVec.ofInt_natCast, BitVec.toNat_ofNat]; exact Nat.mod_eq_of_lt (by omega)
 have hv : Go.bits .andNot .i64 (a : Int) (b : Int) = ((BitVec.ofInt 64 (a : Int) &&& ~~~BitVec.ofInt 64 (b : Int)).toNat : Int) := by {
 show IntKind.i64.wrap ((BitVec.ofInt 64 (a : Int) &&& ~~~BitVec.ofInt 64 (b : Int)).toNat : Int) = _
 have hle : (BitVec.ofInt 64 (a : Int) &&& ~~~BitVec.ofInt 64 (b : Int)).toNat ≤ a := by rw [BitVec.toNat_and, h1]; exact Nat.and_le_left
 rw [i64_w]
 exact wrap_small (by omega) (by omega)}
 have hbit : ∀ i, (BitVec.ofInt 64 (a : Int) &&& ~~~BitVec.ofInt 64 (b : Int)).toNat.testBit i = (a.testBit i && (decide (i < 64) && !b.testBit i)) := fun i => by rw [BitVec.testBit_toNat, BitVec.getLsbD_and, BitVec.getLsbD_not, ← BitVec.testBit_toNat, ← BitVec.testBit_toNat, h1, h2]
 rw [hv]
 constructor
 · {
 intro h0 i hi ha1
 have hz : (BitVec.ofInt 64 (a : Int) &&& ~~~BitVec.ofInt 64 (b : Int)).toNat = 0 := by omega
 have hq := hbit i
 rw [hz, Nat.zero_testBit, ha1, decide_eq_true (by omega : i < 64)] at hq
 simpa using hq.symm}
 · {
 intro h0
 have hz : (BitVec.ofInt 64 (a : Int) &&& ~~~BitVec.ofInt 64 (b : Int)).toNat = 0 := by {
 apply Nat.eq_of_testBit_eq
 intro i
 rw [hbit, Nat.zero_testBit]
 by_cases c : a.testBit i = true
 · {
 by_cases d : i < 10
 · rw [h0 i d c]; simp
 · {
 exfalso
 have : a < 2 ^ i := Nat.lt_of_lt_of_le ha (by have := Nat.pow_le_pow_right (n := 2) (by decide) (show 10 ≤ i by omega); omega)
 rw [Nat.testBit_lt_two_pow this] at c
 exact absurd c (by decide)}}
 · simp at c; rw [c]; rfl}
 omega}
theorem setOf_le {p q : Nat → Bool} : ∀ n, (∀ i, i < n → p i = true → q i = true) → setOf p n ≤ setOf q n
  | 0, _ => Nat.le_refl _
  | n + 1, h => by
    have ih := setOf_le n (fun i hi => h i (by omega))
    rw [setOf, setOf]
    by_cases c : p n = true
    · rw [if_pos c, if_pos (h n (by omega) c)]; omega
    · rw [if_neg c]; split
      · exact Nat.le_trans ih (Nat.le_add_right _ _)
      · exact ih
theorem setOf_inj {p q : Nat → Bool} {n : Nat} (h : setOf p n = setOf q n) : ∀ i, i < n → p i = q i := by
 intro i hi
 have h1 := setOf_bit p n i
 have h2 := setOf_bit q n i
 rw [h, h2, decide_eq_true hi, Bool.true_and, Bool.true_and] at h1
 exact h1.symm
theorem setOf_lt_of {p q : Nat → Bool} {n : Nat} (h : ∀ i, i < n → p i = true → q i = true) {i : Nat} (hi : i < n) (hp : p i = false) (hq : q i = true) : setOf p n < setOf q n := by
 have h1 := setOf_le n h
 have h2 : setOf p n ≠ setOf q n := fun e => by {
 have := setOf_inj e i hi
 rw [hp, hq] at this
 exact absurd this (by decide)}
 omega
theorem setOf_1024 (p : Nat → Bool) {n : Nat} (h : n ≤ 10) : setOf p n < 1024 := by
 have h1 := setOf_lt p n
 have h2 : 2 ^ n ≤ 2 ^ 10 := Nat.pow_le_pow_right (by decide) h
 omega
def sub (a b : Nat) : Prop := ∀ i, i < 10 → a.testBit i = true → b.testBit i = true
theorem setOf_sub {p q : Nat → Bool} {n : Nat} (hn : n ≤ 10) : sub (setOf p n) (setOf q n) ↔ ∀ i, i < n → p i = true → q i = true := by
 constructor
 · {
 intro h i hi hp
 have := h i (by omega) (by rw [setOf_bit, hp, decide_eq_true hi]; rfl)
 rw [setOf_bit] at this
 simp at this
 exact this.2}
 · {
 intro h i hi hp
 rw [setOf_bit] at hp ⊢
 simp at hp ⊢
 exact ⟨hp.1, h i hp.1 hp.2⟩}
structure Comp (l : List Int) (m : Nat) (L R : Nat → Nat) : Prop where
  rel : Rel l
  le : ∀ i, i < l.length → L i ≤ R i
  lt : ∀ i, i < l.length → R i < m
  onL : ∀ t, t < m → ∃ i, i < l.length ∧ L i = t
  onR : ∀ t, t < m → ∃ i, i < l.length ∧ R i = t
  bit : ∀ i j, i < l.length → j < l.length → (ab l i).testBit j = decide (R i < L j)
def upS (n : Nat) (R : Nat → Nat) (t : Nat) : Nat := setOf (fun i => decide (R i < t)) n
section Comp
variable {l : List Int} {m : Nat} {L R : Nat → Nat}
theorem Comp.bel_eq (g : Comp l m L R) {j : Nat} (hj : j < l.length) : bel l j = upS l.length R (L j) := by
 unfold bel upS
 exact setOf_congr _ (fun i hi => g.bit i j hi hj)
theorem Comp.up_lt (g : Comp l m L R) {s t : Nat} (h : s < t) (ht : t ≤ m) : upS l.length R s < upS l.length R t := by
 obtain ⟨i, hi, e⟩ := g.onR s (by omega)
 refine setOf_lt_of (fun j hj h1 => ?_) hi ?_ ?_
 · simp at h1 ⊢; omega
 · simp; omega
 · simp; omega
theorem Comp.up_inj (g : Comp l m L R) {s t : Nat} (hs : s ≤ m) (ht : t ≤ m) : upS l.length R s = upS l.length R t ↔ s = t := by
 constructor
 · {
 intro h
 by_cases c : s < t
 · have := g.up_lt c ht; omega
 · {
 by_cases c2 : t < s
 · have := g.up_lt c2 hs; omega
 · omega}}
 · intro h; rw [h]
theorem Comp.up_sub (g : Comp l m L R) {s t : Nat} (hs : s ≤ m) (ht : t ≤ m) : sub (upS l.length R s) (upS l.length R t) ↔ s ≤ t := by
 unfold upS
 rw [setOf_sub g.rel.1]
 constructor
 · {
 intro h
 by_cases c : s ≤ t
 · exact c
 · {
 obtain ⟨i, hi, e⟩ := g.onR t (by omega)
 have := h i hi (by simp; omega)
 simp at this
 omega}}
 · {
 intro h i hi h1
 simp at h1 ⊢; omega}
theorem Comp.Llt (g : Comp l m L R) {j : Nat} (hj : j < l.length) : L j < m := by have := g.le j hj; have := g.lt j hj; omega
end Comp
theorem rise_unique : ∀ {a b : List Int}, a.Pairwise (· < ·) → b.Pairwise (· < ·) → (∀ x, x ∈ a ↔ x ∈ b) → a = b
  | [], [], _, _, _ => rfl
  | [], y :: b, _, _, h => absurd ((h y).2 (List.mem_cons_self ..)) (by simp)
  | x :: a, [], _, _, h => absurd ((h x).1 (List.mem_cons_self ..)) (by simp)
  | x :: a, y :: b, ha, hb, h => by
    rw [List.pairwise_cons] at ha hb
    have e : x = y := by
      rcases List.mem_cons.1 ((h x).1 (List.mem_cons_self ..)) with e | hx
      · exact e
      · rcases List.mem_cons.1 ((h y).2 (List.mem_cons_self ..)) with e | hy
        · exact e.symm
        · have h1 := hb.1 x hx; have h2 := ha.1 y hy; omega
    subst e
    congr 1
    refine rise_unique ha.2 hb.2 (fun z => ?_)
    have hz := h z
    rw [List.mem_cons, List.mem_cons] at hz
    constructor
    · intro hz1
      have h1 := ha.1 z hz1
      rcases hz.1 (.inr hz1) with e | h2
      · omega
      · exact h2
    · intro hz1
      have h1 := hb.1 z hz1
      rcases hz.2 (.inr hz1) with e | h2
      · omega
      · exact h2
def lowL (l : List Int) : List Int := (List.range l.length).map fun j => (bel l j : Int)
def setsL (n m : Nat) (R : Nat → Nat) : List Int := (List.range m).map fun t => (upS n R t : Int)
theorem Comp.sets_rise {l : List Int} {m : Nat} {L R : Nat → Nat} (g : Comp l m L R) : (setsL l.length m R).Pairwise (· < ·) := by
 unfold setsL
 rw [List.pairwise_map]
 refine List.Pairwise.imp_of_mem (R := fun a b => a < b) ?_ List.pairwise_lt_range
 intro a b ha hb h
 rw [List.mem_range] at ha hb
 have := g.up_lt h (by omega)
 omega
theorem Comp.sets_mem {l : List Int} {m : Nat} {L R : Nat → Nat} (g : Comp l m L R) (x : Int) : x ∈ setsL l.length m R ↔ x ∈ lowL l := by
 unfold setsL lowL
 rw [List.mem_map, List.mem_map]
 constructor
 · {
 rintro ⟨t, ht, rfl⟩
 obtain ⟨i, hi, e⟩ := g.onL t (List.mem_range.1 ht)
 exact ⟨i, List.mem_range.2 hi, by rw [g.bel_eq hi, e]⟩}
 · {
 rintro ⟨i, hi, rfl⟩
 have hi' := List.mem_range.1 hi
 exact ⟨L i, List.mem_range.2 (g.Llt hi'), by rw [g.bel_eq hi']⟩}
structure IsIv (l : List Int) : Prop where
  rel : Rel l
  irr : ∀ i, i < l.length → (ab l i).testBit i = false
  four : ∀ a b c d, a < l.length → b < l.length → c < l.length → d < l.length → (ab l a).testBit b = true → (ab l c).testBit d = true → (ab l c).testBit b = true ∨ (ab l a).testBit d = true
theorem Comp.isIv {l : List Int} {m : Nat} {L R : Nat → Nat} (g : Comp l m L R) : IsIv l := by
 refine ⟨g.rel, fun i hi => ?_, fun a b c d ha hb hc hd h1 h2 => ?_⟩
 · rw [g.bit i i hi hi]; have := g.le i hi; simp; omega
 · {
 rw [g.bit a b ha hb] at h1
 rw [g.bit c d hc hd] at h2
 rw [g.bit c b hc hb, g.bit a d ha hd]
 simp at h1 h2 ⊢
 omega}
theorem bel_bit {l : List Int} (i j : Nat) (hi : i < l.length) : (bel l j).testBit i = (ab l i).testBit j := by
 unfold bel
 rw [setOf_bit, decide_eq_true hi, Bool.true_and]
theorem IsIv.chain {l : List Int} (g : IsIv l) {j k : Nat} (hj : j < l.length) (hk : k < l.length) : (∀ i, i < l.length → (bel l j).testBit i = true → (bel l k).testBit i = true) ∨ (∀ i, i < l.length → (bel l k).testBit i = true → (bel l j).testBit i = true) := by
 by_cases h : ∀ i, i < l.length → (bel l j).testBit i = true → (bel l k).testBit i = true
 · exact .inl h
 · {
 refine .inr (fun i hi h2 => ?_)
 obtain ⟨a, ha⟩ := Classical.not_forall.1 h
 obtain ⟨ha1, ha2⟩ := Classical.not_imp.1 ha
 obtain ⟨ha3, ha4⟩ := Classical.not_imp.1 ha2
 rw [bel_bit a j ha1] at ha3
 rw [bel_bit a k ha1] at ha4
 rw [bel_bit i k hi] at h2
 rw [bel_bit i j hi]
 rcases g.four a j i k ha1 hj hi hk ha3 h2 with h5 | h5
 · exact h5
 · exact absurd h5 ha4}
theorem bel_le {l : List Int} {j k : Nat} (h : ∀ i, i < l.length → (bel l j).testBit i = true → (bel l k).testBit i = true) : bel l j ≤ bel l k := by
 unfold bel
 refine setOf_le _ (fun i hi h1 => ?_)
 have := h i hi (by rw [bel_bit i j hi]; exact h1)
 rw [bel_bit i k hi] at this
 exact this
theorem IsIv.sub_of_le {l : List Int} (g : IsIv l) {j k : Nat} (hj : j < l.length) (hk : k < l.length) (h : bel l j ≤ bel l k) : ∀ i, i < l.length → (bel l j).testBit i = true → (bel l k).testBit i = true := by
 rcases g.chain hj hk with h1 | h1
 · exact h1
 · {
 have h2 := bel_le h1
 intro i hi h3
 rw [show bel l k = bel l j by omega]
 exact h3}
def lastT (p : Nat → Bool) : Nat → Nat
  | 0 => 0
  | m + 1 => if p m = true then m else lastT p m
theorem lastT_is (p : Nat → Bool) : ∀ m, (∃ t, t < m ∧ p t = true) → lastT p m < m ∧ p (lastT p m) = true ∧ ∀ t, lastT p m < t → t < m → p t = false
  | 0, h => by obtain ⟨t, ht, _⟩ := h; omega
  | m + 1, h => by
    rw [lastT]
    by_cases c : p m = true
    · rw [if_pos c]
      exact ⟨by omega, c, fun t h1 h2 => by omega⟩
    · rw [if_neg c]
      obtain ⟨t, ht, hp⟩ := h
      have : t < m := by
        by_cases e : t = m
        · rw [e] at hp; exact absurd hp c
        · omega
      obtain ⟨h1, h2, h3⟩ := lastT_is p m ⟨t, this, hp⟩
      refine ⟨by omega, h2, fun s hs1 hs2 => ?_⟩
      by_cases e : s = m
      · rw [e]; simpa using c
      · exact h3 s hs1 (by omega)
theorem IsIv.comp {l : List Int} (g : IsIv l) (D : List Int) (hD : D.Pairwise (· < ·)) (hM : ∀ x, x ∈ D ↔ x ∈ lowL l) : ∃ L R, Comp l D.length L R := by
 have h1 : ∀ j, j < l.length → ∃ t, ∃ h : t < D.length, D[t] = (bel l j : Int) := by {
 intro j hj
 have : (bel l j : Int) ∈ D := (hM _).2 (List.mem_map.2 ⟨j, List.mem_range.2 hj, rfl⟩)
 obtain ⟨t, ht, e⟩ := List.getElem_of_mem this
 exact ⟨t, ht, e⟩}
 have h2 : ∀ t, t < D.length → ∃ j, j < l.length ∧ D.getD t 0 = (bel l j : Int) := by {
 intro t ht
 obtain ⟨j, hj, e⟩ := List.mem_map.1 ((hM D[t]).1 (List.getElem_mem ht))
 exact ⟨j, List.mem_range.1 hj, by rw [getD_lt _ _ _ ht]; exact e.symm⟩}
 have hlt : ∀ s t, s < t → t < D.length → D.getD s 0 < D.getD t 0 := by {
 intro s t hst ht
 rw [getD_lt _ _ _ (by omega), getD_lt _ _ _ ht]
 exact List.pairwise_iff_getElem.1 hD s t (by omega) ht hst}
 have hle : ∀ s t, s ≤ t → t < D.length → D.getD s 0 ≤ D.getD t 0 := by {
 intro s t hst ht
 by_cases e : s = t
 · rw [e]; exact Int.le_refl _
 · have := hlt s t (by omega) ht; omega}
 let L : Nat → Nat := fun j => lastT (fun t => decide (D.getD t 0 = (bel l j : Int))) D.length
 have hL : ∀ j, j < l.length → L j < D.length ∧ D.getD (L j) 0 = (bel l j : Int) := by {
 intro j hj
 obtain ⟨t, ht, e⟩ := h1 j hj
 obtain ⟨a, b, _⟩ := lastT_is (fun t => decide (D.getD t 0 = (bel l j : Int))) D.length ⟨t, ht, by simp only [decide_eq_true_eq]; rw [getD_lt _ _ _ ht]; exact e⟩
 exact ⟨a, of_decide_eq_true b⟩}
 let S : Nat → Nat := fun t => (D.getD t 0).toNat
 have hS : ∀ t, t < D.length → ∃ j, j < l.length ∧ S t = bel l j ∧ D.getD t 0 = (bel l j : Int) := by {
 intro t ht
 obtain ⟨j, hj, e⟩ := h2 t ht
 refine ⟨j, hj, ?_, e⟩
 show (D.getD t 0).toNat = _
 rw [e]; rfl}
 have hSL : ∀ j, j < l.length → S (L j) = bel l j := by {
 intro j hj
 show (D.getD (L j) 0).toNat = _
 rw [(hL j hj).2]; rfl}
 have hSsub : ∀ s t, s ≤ t → t < D.length → ∀ i, i < l.length → (S s).testBit i = true → (S t).testBit i = true := by {
 intro s t hst ht i hi
 obtain ⟨j, hj, e1, e2⟩ := hS s (by omega)
 obtain ⟨k, hk, e3, e4⟩ := hS t ht
 rw [e1, e3]
 have := hle s t hst ht
 exact g.sub_of_le hj hk (by omega) i hi}
 let R : Nat → Nat := fun i => lastT (fun t => !(S t).testBit i) D.length
 have hR0 : ∀ i, i < l.length → (S (L i)).testBit i = false := by {
 intro i hi
 rw [hSL i hi, bel_bit i i hi]
 exact g.irr i hi}
 have hR : ∀ i, i < l.length → R i < D.length ∧ (S (R i)).testBit i = false ∧ ∀ t, R i < t → t < D.length → (S t).testBit i = true := by {
 intro i hi
 obtain ⟨a, b, c⟩ := lastT_is (fun t => !(S t).testBit i) D.length ⟨L i, (hL i hi).1, by simp only [hR0 i hi]; rfl⟩
 refine ⟨a, by simpa using b, fun t h3 h4 => by simpa using c t h3 h4⟩}
 have hge : ∀ i t, i < l.length → t < D.length → (S t).testBit i = false → t ≤ R i := by {
 intro i t hi ht h3
 by_cases c : t ≤ R i
 · exact c
 · {
 have := (hR i hi).2.2 t (by omega) ht
 rw [h3] at this; exact absurd this (by decide)}}
 refine ⟨L, R, g.rel, fun i hi => hge i _ hi (hL i hi).1 (hR0 i hi), fun i hi => (hR i hi).1, fun t ht => ?_, fun t ht => ?_, fun i j hi hj => ?_⟩
 · {
 obtain ⟨j, hj, e1, e2⟩ := hS t ht
 refine ⟨j, hj, ?_⟩
 obtain ⟨a, b⟩ := hL j hj
 by_cases c : L j < t
 · have := hlt _ _ c ht; omega
 · {
 by_cases c2 : t < L j
 · have := hlt _ _ c2 a; omega
 · omega}}
 · {
 by_cases c : t + 1 < D.length
 · {
 obtain ⟨j, hj, e1, e2⟩ := hS t ht
 obtain ⟨k, hk, e3, e4⟩ := hS (t + 1) c
 have hl := hlt t (t + 1) (by omega) c
 have : ∃ i, i < l.length ∧ (S (t + 1)).testBit i = true ∧ (S t).testBit i = false := by {
 apply Classical.byContradiction
 intro hn
 have : bel l k ≤ bel l j := bel_le (fun i hi h3 => by
  apply Classical.byContradiction
  intro h4
  exact hn ⟨i, hi, by rw [e3]; exact h3, by rw [e1]; simpa using h4⟩)
 omega}
 obtain ⟨i, hi, h3, h4⟩ := this
 refine ⟨i, hi, ?_⟩
 have h5 := hge i t hi ht h4
 by_cases e : R i = t
 · exact e
 · {
 have h6 := hSsub (t + 1) (R i) (by omega) (hR i hi).1 i hi h3
 rw [(hR i hi).2.1] at h6; exact absurd h6 (by decide)}}
 · {
 obtain ⟨j, hj, e1, e2⟩ := hS t ht
 refine ⟨j, hj, ?_⟩
 have h3 : (S t).testBit j = false := by rw [e1, bel_bit j j hj]; exact g.irr j hj
 have := hge j t hj ht h3
 have := (hR j hj).1
 omega}}
 · {
 rw [← bel_bit i j hi, ← hSL j hj]
 by_cases c : R i < L j
 · rw [decide_eq_true c]; exact (hR i hi).2.2 _ c (hL j hj).1
 · {
 rw [decide_eq_false c]
 have := (hR i hi).2.1
 by_cases h3 : (S (L j)).testBit i = true
 · {
 have h4 := hSsub (L j) (R i) (by omega) (hR i hi).1 i hi h3
 rw [this] at h4; exact absurd h4 (by decide)}
 · simpa using h3}}
def cntM (n : Nat) (L R : Nat → Nat) (a b : Nat) : Int := sumZ n (fun i => if L i = a ∧ R i = b then 1 else 0)
def matO (m n : Nat) (L R : Nat → Nat) : List (List Int) := matF m (cntM n L R)
theorem matF_en (d : Nat) (f : Nat → Nat → Int) {i j : Nat} (hi : i < d) (hj : j < d) : en (matF d f) i j = f i j := by
 unfold en
 rw [matF_row _ _ hi, mapR_getD _ _ hj]
theorem sumZ_one (m r : Nat) (P : Prop) [Decidable P] (h : r < m) : sumZ m (fun b => if P ∧ r = b then 1 else 0) = if P then 1 else 0 := by
 induction m with
 | zero => omega
 | succ m ih => {
 rw [sumZ]
 by_cases e : r = m
 · {
 subst e
 have h0 : sumZ r (fun b => if P ∧ r = b then (1 : Int) else 0) = 0 := by {
 rw [sumZ_zero (fun i _ => by split <;> decide)]
 intro i hi
 rw [if_neg (fun hh => by omega)]}
 rw [h0]
 by_cases c : P
 · rw [if_pos ⟨c, rfl⟩, if_pos c]; rfl
 · rw [if_neg (fun hh => c hh.1), if_neg c]; rfl}
 · {
 have h2 : (if P ∧ r = m then (1 : Int) else 0) = 0 := if_neg (fun hh => e hh.2)
 rw [ih (by omega), h2, Int.add_zero]}}
theorem cnt_row (m n : Nat) (L R : Nat → Nat) (hR : ∀ i, i < n → R i < m) (a : Nat) : sumZ m (fun b => cntM n L R a b) = sumZ n (fun i => if L i = a then 1 else 0) := by
 unfold cntM
 rw [sumZ_swap]
 exact sumZ_congr (fun i hi => sumZ_one m (R i) (L i = a) (hR i hi))
theorem cnt_col (m n : Nat) (L R : Nat → Nat) (hL : ∀ i, i < n → L i < m) (b : Nat) : sumZ m (fun a => cntM n L R a b) = sumZ n (fun i => if R i = b then 1 else 0) := by
 unfold cntM
 rw [sumZ_swap]
 refine sumZ_congr (fun i hi => ?_)
 have := sumZ_one m (L i) (R i = b) (hL i hi)
 rw [← this]
 exact sumZ_congr (fun j _ => by simp only [And.comm])
theorem sumZ_pos {n : Nat} {f : Nat → Int} (h : ∀ i, i < n → 0 ≤ f i) {i : Nat} (hi : i < n) (hp : 0 < f i) : 0 < sumZ n f := by
 have := sumZ_term h hi
 omega
theorem sumZ_const (n : Nat) : sumZ n (fun _ => 1) = (n : Int) := by
 induction n with
 | zero => rfl
 | succ n ih => rw [sumZ, ih]; omega
theorem sumZ_leM {n : Nat} {f g : Nat → Int} (h : ∀ i, i < n → f i ≤ g i) : sumZ n f ≤ sumZ n g := by
 induction n with
 | zero => exact Int.le_refl _
 | succ n ih => {
 have h1 := ih (fun i hi => h i (by omega))
 have h2 := h n (by omega)
 rw [sumZ, sumZ]
 omega}
section
variable {l : List Int} {m : Nat} {L R : Nat → Nat}
theorem ones_nn (n : Nat) (p : Nat → Prop) [DecidablePred p] : ∀ i, i < n → (0 : Int) ≤ (if p i then 1 else 0) := fun i _ => by split <;> decide
theorem Comp.row (g : Comp l m L R) {a : Nat} (ha : a < m) : rowZ (matO m l.length L R) a = sumZ l.length (fun i => if L i = a then 1 else 0) := by
 unfold rowZ
 unfold matO
 rw [matF_length, ← cnt_row m l.length L R (fun i hi => g.lt i hi) a]
 exact sumZ_congr (fun b hb => matF_en _ _ ha hb)
theorem Comp.col (g : Comp l m L R) {b : Nat} (hb : b < m) : colZ (matO m l.length L R) b = sumZ l.length (fun i => if R i = b then 1 else 0) := by
 unfold colZ
 unfold matO
 rw [matF_length, ← cnt_col m l.length L R (fun i hi => g.Llt hi) b]
 exact sumZ_congr (fun a ha => matF_en _ _ ha hb)
theorem Comp.all (g : Comp l m L R) : allZ (matO m l.length L R) = (l.length : Int) := by
 unfold allZ
 rw [show (matO m l.length L R).length = m from matF_length _ _]
 rw [sumZ_congr (g := fun a => sumZ l.length (fun i => if L i = a then 1 else 0)) (fun a ha => g.row ha), sumZ_swap]
 rw [← sumZ_const l.length]
 refine sumZ_congr (fun i hi => ?_)
 have := sumZ_one m (L i) True (g.Llt hi)
 simpa using this
theorem Comp.m_le (g : Comp l m L R) : m ≤ l.length := by
 have h := g.all
 unfold allZ at h
 rw [show (matO m l.length L R).length = m from matF_length _ _] at h
 have h1 : sumZ m (fun _ => 1) ≤ sumZ m (fun i => rowZ (matO m l.length L R) i) := sumZ_leM (fun i hi => by
  obtain ⟨j, hj, e⟩ := g.onL i hi
  rw [g.row hi]
  have := sumZ_pos (ones_nn l.length (fun q => L q = i)) hj (by rw [if_pos e]; decide)
  omega)
 rw [sumZ_const] at h1
 omega
theorem Comp.isMat (g : Comp l m L R) : isMat (matO m l.length L R) := by
 have hm := g.m_le
 have hn := g.rel.1
 have hlen : (matO m l.length L R).length = m := matF_length _ _
 refine ⟨by omega, fun i hi => ⟨?_, fun j hj => ?_⟩, fun i hi => ?_, fun j hj => ?_, ?_⟩
 · {
 rw [hlen] at hi ⊢
 unfold matO
 rw [matF_row _ _ hi]; simp}
 · {
 rw [hlen] at hi hj
 unfold matO
 rw [matF_en _ _ hi hj]
 unfold cntM
 have h1 := sumZ_bound (n := l.length) (f := fun q => if L q = i ∧ R q = j then (1 : Int) else 0) (B := 1) (by decide) (fun q _ => by split <;> decide)
 refine ⟨h1.1, by omega, fun hji => ?_⟩
 rw [sumZ_zero (ones_nn l.length (fun q => L q = i ∧ R q = j))]
 intro q hq
 have := g.le q hq
 rw [if_neg (fun hh => by omega)]}
 · {
 rw [hlen] at hi
 obtain ⟨q, hq, e⟩ := g.onL i hi
 rw [g.row hi]
 have := sumZ_pos (ones_nn l.length (fun q => L q = i)) hq (by rw [if_pos e]; decide)
 omega}
 · {
 rw [hlen] at hj
 obtain ⟨q, hq, e⟩ := g.onR j hj
 rw [g.col hj]
 have := sumZ_pos (ones_nn l.length (fun q => R q = j)) hq (by rw [if_pos e]; decide)
 omega}
 · rw [g.all]; omega
end
theorem lowL_len (l : List Int) : (lowL l).length = l.length := by simp [lowL]
theorem lowL_ab {l : List Int} {j : Nat} (hj : j < l.length) : ab (lowL l) j = bel l j := by
 unfold ab lowL
 rw [getD_lt _ _ _ (by simpa using hj)]
 simp
theorem lowL_rel {l : List Int} (h : l.length ≤ 10) : Rel (lowL l) := by
 refine ⟨by rw [lowL_len]; exact h, fun x hx => ?_⟩
 obtain ⟨j, _, rfl⟩ := List.mem_map.1 hx
 rw [lowL_len]
 have : bel l j < 2 ^ l.length := setOf_lt _ _
 refine ⟨by omega, ?_⟩
 exact_mod_cast this
theorem Comp.mirror {l : List Int} {m : Nat} {L R : Nat → Nat} (g : Comp l m L R) : Comp (lowL l) m (fun i => m - 1 - R i) (fun i => m - 1 - L i) := by
 have hl := lowL_len l
 refine ⟨lowL_rel g.rel.1, fun i hi => ?_, fun i hi => ?_, fun t ht => ?_, fun t ht => ?_, fun i j hi hj => ?_⟩
 · {
 rw [hl] at hi
 have := g.le i hi
 omega}
 · {
 rw [hl] at hi
 have := g.lt i hi
 omega}
 · {
 obtain ⟨i, hi, e⟩ := g.onR (m - 1 - t) (by omega)
 exact ⟨i, by rw [hl]; exact hi, by rw [e]; omega⟩}
 · {
 obtain ⟨i, hi, e⟩ := g.onL (m - 1 - t) (by omega)
 exact ⟨i, by rw [hl]; exact hi, by rw [e]; omega⟩}
 · {
 rw [hl] at hi hj
 rw [lowL_ab hi, bel_bit j i hj, g.bit j i hj hi]
 have h1 := g.lt j hj
 have h2 := g.Llt hi
 show decide (R j < L i) = decide (m - 1 - L i < m - 1 - R j)
 exact dec_eq ⟨fun _ => by omega, fun _ => by omega⟩}
theorem cnt_mirror {n m : Nat} {L R : Nat → Nat} (hL : ∀ i, i < n → L i < m) (hR : ∀ i, i < n → R i < m) {a b : Nat} (ha : a < m) (hb : b < m) : cntM n (fun i => m - 1 - R i) (fun i => m - 1 - L i) a b = cntM n L R (m - 1 - b) (m - 1 - a) := by
 unfold cntM
 refine sumZ_congr (fun i hi => ?_)
 have h1 := hL i hi
 have h2 := hR i hi
 show (if m - 1 - R i = a ∧ m - 1 - L i = b then (1 : Int) else 0) = _
 by_cases c : L i = m - 1 - b ∧ R i = m - 1 - a
 · rw [if_pos c, if_pos ⟨by omega, by omega⟩]
 · rw [if_neg c, if_neg (fun hh => c ⟨by omega, by omega⟩)]
theorem shl_pow : ∀ n : Nat, n ≤ 10 → wrap64 (shl .i64 1 (n : Int) - 1) = 2 ^ n - 1 := by decide +kernel
theorem rel_iff {z : Int} {l : List Int} (hz : z = l.length) (h10 : l.length ≤ 10) : (∀ j, j < l.length → 0 ≤ l.getD j 0 ∧ l.getD j 0 ≤ 2 ^ l.length - 1) ↔ Rel l := by
 constructor
 · {
 intro h
 refine ⟨h10, fun x hx => ?_⟩
 obtain ⟨j, hj, rfl⟩ := List.getElem_of_mem hx
 have := h j hj
 rw [getD_lt _ _ _ hj] at this
 omega}
 · {
 intro h j hj
 have := h.2 _ (List.getElem_mem hj)
 rw [getD_lt _ _ _ hj]
 omega}
theorem Ev_some' {α : Type} {g : Option α} {a : α} (h : g = some a) : Ev (fun _ => g) a := ⟨0, fun _ _ => h⟩
instance instRel (l : List Int) : Decidable (Rel l) := inferInstanceAs (Decidable (_ ∧ _))
theorem isRelation_ev (z : Int) (l : List Int) : Ev (fun k => Y49.f k z l) (decide (z = l.length ∧ Rel l)) := by
 unfold Y49.f
 rw [within_eq]
 by_cases c : 0 ≤ z ∧ z ≤ 10
 · {
 refine Ev_val rfl (Ev_pos (decide_eq_true c) ?_)
 by_cases e : (l.length : Int) = z
 · {
 refine Ev_pos e (Ev_pos c.1 ?_)
 obtain rfl := e
 rw [shl_pow _ (by omega)]
 refine Ev_eq (Ev.bind (allWithin_ev l 0 _ (by omega)) (Ev_some rfl)) (dec_eq ?_)
 rw [rel_iff rfl (by omega)]
 exact ⟨fun h => ⟨rfl, h⟩, fun h => h.2⟩}
 · {
 refine Ev_neg e (Ev_some ?_)
 rw [decide_eq_false (fun h => e h.1.symm)]}}
 · {
 refine Ev_val rfl (Ev_neg (by simpa using c) (Ev_some ?_))
 rw [decide_eq_false (fun h => c (by have := h.2.1; omega))]}
theorem in_eqO (a b c : Int) : Y30.f a b c = some (decide (b ≤ a ∧ a ≤ c)) := by
 unfold Y30.f
 by_cases h : a ≥ b
 · rw [if_pos h]; have : b ≤ a := h; simp [this]
 · rw [if_neg h]; simp; omega
theorem orRelation_ev (z : Int) (l : List Int) : Ev (fun k => Y48.f k z l) (decide (z = l.length ∧ Rel l)) := by
 unfold Y48.f
 rw [in_eqO]
 by_cases c : 0 ≤ z ∧ z ≤ 10
 · {
 refine Ev_val rfl (Ev_pos (decide_eq_true c) ?_)
 by_cases e : (l.length : Int) = z
 · {
 refine Ev_pos e (Ev_pos c.1 ?_)
 obtain rfl := e
 rw [shl_pow _ (by omega)]
 refine Ev_eq (Ev.bind (l1All_ev l 0 _ (by omega)) (Ev_some rfl)) (dec_eq ?_)
 rw [rel_iff rfl (by omega)]
 exact ⟨fun h => ⟨rfl, h⟩, fun h => h.2⟩}
 · {
 refine Ev_neg e (Ev_some ?_)
 rw [decide_eq_false (fun h => e h.1.symm)]}}
 · {
 refine Ev_val rfl (Ev_neg (by simpa using c) (Ev_some ?_))
 rw [decide_eq_false (fun h => c (by have := h.2.1; omega))]}
theorem betterO {l : List Int} (h : Rel l) (z : Int) (i j : Nat) (hi : i < l.length) (hj : j < 10) : Y9.f z l (i : Int) (j : Int) = some ((ab l i).testBit j) := by
 unfold Y9.f
 rw [if_pos (by omega), if_pos (by omega), if_pos (by omega), rd_getD, h.get i, better_bit _ _ (h.ab_lt i) hj]
theorem hasO {l : List Int} (h : Rel l) (i j : Nat) (hj : j < 10) : Y7.f (rd l (i : Int)) (j : Int) = some ((ab l i).testBit j) := by
 rw [rd_getD, h.get i]
 exact orHas_eq _ _ (h.ab_lt i) hj
instance instO0 (a b : Nat) : Decidable (sub a b) := inferInstanceAs (Decidable (∀ i, i < 10 → _))
def OrdAt (l : List Int) (i : Nat) : Prop := ∀ j, j < l.length → (ab l i).testBit j = true → sub (ab l j) (ab l i)
instance instO1 (l : List Int) (i : Nat) : Decidable (OrdAt l i) := inferInstanceAs (Decidable (∀ j, j < l.length → _))
def Ord (l : List Int) : Prop := ∀ i, i < l.length → (ab l i).testBit i = false ∧ OrdAt l i
instance instO2 (l : List Int) : Decidable (Ord l) := inferInstanceAs (Decidable (∀ i, i < l.length → _))
theorem Rel.bit_lt {l : List Int} (h : Rel l) (i j : Nat) (hb : (ab l i).testBit j = true) : j < l.length := by
 apply Classical.byContradiction
 intro c
 by_cases ci : i < l.length
 · {
 have h1 := h.2 _ (List.getElem_mem ci)
 have h2 : ab l i < 2 ^ l.length := by {
 have e := h.get i
 rw [getD_lt _ _ _ ci] at e
 rw [e] at h1
 exact_mod_cast h1.2}
 have h3 : ab l i < 2 ^ j := Nat.lt_of_lt_of_le h2 (Nat.pow_le_pow_right (by decide) (by omega))
 rw [Nat.testBit_lt_two_pow h3] at hb
 exact absurd hb (by decide)}
 · {
 have : ab l i = 0 := by {
 unfold ab
 rw [List.getD_eq_getElem?_getD, List.getElem?_eq_none (by omega)]; rfl}
 rw [this, Nat.zero_testBit] at hb
 exact absurd hb (by decide)}
theorem ord_in (f1 : Nat → Int → List Int → Int → Int → List Int → Int → Int → Int → List Int → Option Bool) (g : Nat → List Int → Int → Int → Int → List Int → Option Bool)
    (hf : ∀ k x4 x11 x12 x13 x23 x24 x25 z l, f1 (k + 1) x4 x11 x12 x13 x23 x24 x25 z l = if x25 < x24 then (if 0 ≤ x25 then (if x25 < (x23.length : Int) then (if 0 ≤ (rd x23 x25) then (if (rd x23 x25) < (l.length : Int) then (if (Go.bits .andNot .i64 (rd l (rd x23 x25)) x4) = 0 then (f1 k x4 x11 x12 x13 x23 x24 (wrap64 (x25 + 1)) z l) else (some false)) else (none)) else (none)) else (none)) else (none)) else (g k x11 x12 (wrap64 (x13 + 1)) z l))
    {l : List Int} (h : Rel l) (z : Int) (i : Nat) (hi : i < l.length) (q : Bool) (hq : OrdAt l i → Ev (fun k => g k l (l.length : Int) ((i + 1 : Nat) : Int) z l) q) :
    Ev (fun k => f1 k (ab l i : Int) l (l.length : Int) (i : Int) (elems (ab l i)) ((elems (ab l i)).length : Int) 0 z l) (decide (OrdAt l i) && q) := by
 have hn := h.1
 obtain ⟨E, hE⟩ : ∃ E, E = elems (ab l i) := ⟨_, rfl⟩
 have hmem : ∀ e, e < E.length → ∃ j : Nat, j < l.length ∧ (ab l i).testBit j = true ∧ E.getD e 0 = (j : Int) := by {
 intro e he
 have : E.getD e 0 ∈ E := by rw [getD_lt _ _ _ he]; exact List.getElem_mem _
 rw [hE, elems_mem] at this
 obtain ⟨j, _, h2, h3⟩ := this
 rw [hE]
 exact ⟨j, h.bit_lt i j h2, h2, h3⟩}
 have hlen : E.length ≤ 10 := by {
 rw [hE]; unfold elems; rw [List.length_map]
 exact Nat.le_trans (List.length_filter_le _ _) (by simp)}
 rw [← hE]
 have hall : (∀ e, e < E.length → decide (sub (ab l (E.getD e 0).toNat) (ab l i)) = true) → OrdAt l i := by {
 intro hh j hj hb
 have : (j : Int) ∈ E := by rw [hE, elems_mem]; exact ⟨j, by omega, hb, rfl⟩
 obtain ⟨e, he, e2⟩ := List.getElem_of_mem this
 have := hh e he
 rw [getD_lt _ _ _ he, e2, Int.toNat_natCast, decide_eq_true_eq] at this
 exact this}
 refine Ev_eq (Ev_all (fun k e => f1 k (ab l i : Int) l (l.length : Int) (i : Int) E (E.length : Int) (e : Int) z l) E.length (fun e => decide (sub (ab l (E.getD e 0).toNat) (ab l i))) q ?_ ?_ ?_) ?_
 · {
 intro e he _ hp r hr
 obtain ⟨j, hj, hb, e2⟩ := hmem e he
 rw [decide_eq_true_eq, e2, Int.toNat_natCast] at hp
 refine Ev.step (fun k => hf k _ _ _ _ _ _ _ _ _) (Ev_pos (by omega) (Ev_pos (by omega) (Ev_pos (by omega) ?_)))
 rw [rd_nat E, e2]
 refine Ev_pos (by omega) (Ev_pos (by omega) (Ev_pos ?_ ?_))
 · rw [rd_getD, h.get j, andNot_zero _ _ (h.ab_lt j) (h.ab_lt i)]; exact hp
 · rw [wrap_succ (by omega)]; exact hr}
 · {
 intro e he _ hp
 obtain ⟨j, hj, hb, e2⟩ := hmem e he
 rw [decide_eq_false_iff_not, e2, Int.toNat_natCast] at hp
 refine Ev.step (fun k => hf k _ _ _ _ _ _ _ _ _) (Ev_pos (by omega) (Ev_pos (by omega) (Ev_pos (by omega) ?_)))
 rw [rd_nat E, e2]
 refine Ev_pos (by omega) (Ev_pos (by omega) (Ev_neg ?_ (Ev_some rfl)))
 rw [rd_getD, h.get j, andNot_zero _ _ (h.ab_lt j) (h.ab_lt i)]; exact hp}
 · {
 intro hh
 refine Ev.step (fun k => hf k _ _ _ _ _ _ _ _ _) (Ev_neg (by omega) ?_)
 rw [wrap_succ (by omega)]; exact hq (hall hh)}
 · {
 congr 1
 refine dec_eq ⟨hall, fun hh e he => ?_⟩
 · {
 obtain ⟨j, hj, hb, e2⟩ := hmem e he
 rw [decide_eq_true_eq, e2, Int.toNat_natCast]
 exact hh j hj hb}}
theorem ord_out (f0 : Nat → List Int → Int → Int → Int → List Int → Option Bool) (f1 : Nat → Int → List Int → Int → Int → List Int → Int → Int → Int → List Int → Option Bool) (B : Int → List Int → List Int → Int → Option Bool) (M : Nat → Int → Option (List Int))
    (hf0 : ∀ k x11 x12 x13 z l, f0 (k + 1) x11 x12 x13 z l = if x13 < x12 then (if 0 ≤ x13 then (if x13 < (x11.length : Int) then ((B z l x11 x13).bind fun t => (if t = true then (some false) else ((M k (rd x11 x13)).bind fun t2 => (f1 k (rd x11 x13) x11 x12 x13 t2 (t2.length : Int) 0 z l)))) else (none)) else (none)) else (some true))
    (hf : ∀ k x4 x11 x12 x13 x23 x24 x25 z l, f1 (k + 1) x4 x11 x12 x13 x23 x24 x25 z l = if x25 < x24 then (if 0 ≤ x25 then (if x25 < (x23.length : Int) then (if 0 ≤ (rd x23 x25) then (if (rd x23 x25) < (l.length : Int) then (if (Go.bits .andNot .i64 (rd l (rd x23 x25)) x4) = 0 then (f1 k x4 x11 x12 x13 x23 x24 (wrap64 (x25 + 1)) z l) else (some false)) else (none)) else (none)) else (none)) else (none)) else (f0 k x11 x12 (wrap64 (x13 + 1)) z l))
    {l : List Int} (h : Rel l) (z : Int) (hB : ∀ i : Nat, i < l.length → B z l l (i : Int) = some ((ab l i).testBit i)) (hM : ∀ n : Nat, n < 1024 → Ev (fun k => M k (n : Int)) (elems n)) :
    Ev (fun k => f0 k l (l.length : Int) 0 z l) (decide (Ord l)) := by
 have hn := h.1
 refine Ev_eq (Ev_all (fun k i => f0 k l (l.length : Int) (i : Int) z l) l.length (fun i => decide ((ab l i).testBit i = false ∧ OrdAt l i)) true ?_ ?_ ?_) ?_
 · {
 intro i hi _ hp r hr
 rw [decide_eq_true_eq] at hp
 refine Ev.step (fun k => hf0 k _ _ _ _ _) (Ev_pos (by omega) (Ev_pos (by omega) (Ev_pos (by omega) (Ev_val (hB i hi) (Ev_neg (by rw [hp.1]; decide) ?_)))))
 rw [rd_getD, h.get i]
 refine Ev.bind (hM _ (h.ab_lt i)) ?_
 exact Ev_eq (ord_in f1 f0 hf h z i hi r (fun _ => hr)) (by rw [decide_eq_true hp.2, Bool.true_and])}
 · {
 intro i hi _ hp
 rw [decide_eq_false_iff_not] at hp
 by_cases c : (ab l i).testBit i = true
 · exact Ev.step (fun k => hf0 k _ _ _ _ _) (Ev_pos (by omega) (Ev_pos (by omega) (Ev_pos (by omega) (Ev_val (hB i hi) (Ev_pos c (Ev_some rfl))))))
 · {
 refine Ev.step (fun k => hf0 k _ _ _ _ _) (Ev_pos (by omega) (Ev_pos (by omega) (Ev_pos (by omega) (Ev_val (hB i hi) (Ev_neg c ?_)))))
 have hno : ¬ OrdAt l i := fun hh => hp ⟨by simpa using c, hh⟩
 rw [rd_getD, h.get i]
 refine Ev.bind (hM _ (h.ab_lt i)) ?_
 exact Ev_eq (ord_in f1 f0 hf h z i hi true (fun hh => absurd hh hno)) (by rw [decide_eq_false hno, Bool.false_and])}}
 · {
 intro _
 exact Ev.step (fun k => hf0 k _ _ _ _ _) (Ev_neg (by omega) (Ev_some rfl))}
 · {
 rw [Bool.and_true]
 exact dec_eq ⟨fun hh i hi => of_decide_eq_true (hh i hi), fun hh i hi => decide_eq_true (hh i hi)⟩}
theorem isOrder_ev (z : Int) (l : List Int) : Ev (fun k => Y29.f k z l) (decide (z = l.length ∧ Rel l ∧ Ord l)) := by
 unfold Y29.f
 refine Ev.bind (isRelation_ev z l) ?_
 by_cases g : z = l.length ∧ Rel l
 · refine Ev_pos (decide_eq_true g) (Ev_eq (ord_out (fun k => Y29.l0 k) (fun k => Y29.l1 k) (fun z l _ i => Y9.f z l i i) (fun _ x => Y35.f x) (fun _ _ _ _ _ _ => rfl) (fun _ _ _ _ _ _ _ _ _ _ => rfl) g.2 z (fun i hi => betterO g.2 z i i hi (by have := g.2.1; omega)) (fun n hn => Ev_some' (members_eq n hn))) (dec_eq ⟨fun h => ⟨g.1, g.2, h⟩, fun h => h.2.2⟩))
 · {
 refine Ev_neg (by simpa using g) (Ev_some ?_)
 rw [decide_eq_false (fun h => g ⟨h.1, h.2.1⟩)]}
theorem orGood_ev (z : Int) (l : List Int) : Ev (fun k => Y27.f k z l) (decide (z = l.length ∧ Rel l ∧ Ord l)) := by
 unfold Y27.f
 refine Ev.bind (orRelation_ev z l) ?_
 by_cases g : z = l.length ∧ Rel l
 · refine Ev_pos (decide_eq_true g) (Ev_eq (ord_out (fun k => Y27.l0 k) (fun k => Y27.l1 k) (fun _ _ x i => Y7.f (rd x i) i) (fun k x => Y12.f k x) (fun _ _ _ _ _ _ => rfl) (fun _ _ _ _ _ _ _ _ _ _ => rfl) g.2 z (fun i hi => hasO g.2 i i (by have := g.2.1; omega)) (fun n hn => orList_ev n hn)) (dec_eq ⟨fun h => ⟨g.1, g.2, h⟩, fun h => h.2.2⟩))
 · {
 refine Ev_neg (by simpa using g) (Ev_some ?_)
 rw [decide_eq_false (fun h => g ⟨h.1, h.2.1⟩)]}
theorem Ex_for {ρ : Type} {l : Nat → Nat → Option ρ} (n : Nat) (P : Nat → Prop) (Res : ρ → Prop)
    (hstep : ∀ i, i < n → (P i → ∃ r, Ev (fun k => l k (i + 1)) r ∧ Res r) → ∃ r, Ev (fun k => l k i) r ∧ Res r)
    (hend : (∀ i, i < n → P i) → ∃ r, Ev (fun k => l k n) r ∧ Res r) : ∃ r, Ev (fun k => l k 0) r ∧ Res r := by
 have main : ∀ d i, n - i = d → i ≤ n → (∀ q, q < i → P q) → ∃ r, Ev (fun k => l k i) r ∧ Res r := by {
 intro d
 induction d with
 | zero => {
 intro i hd hi h
 obtain rfl : i = n := by omega
 exact hend h}
 | succ d ih => {
 intro i hd hi h
 exact hstep i (by omega) (fun hp => ih (i + 1) (by omega) (by omega) (fun q hq => by
  by_cases e : q = i
  · rw [e]; exact hp
  · exact h q (by omega)))}}
 exact main _ 0 rfl (Nat.zero_le _) (fun q hq => by omega)
theorem Ex_map {ρ : Type} {f g : Nat → Option ρ} {Res : ρ → Prop} (h : ∀ r, Ev f r → Ev g r) : (∃ r, Ev f r ∧ Res r) → ∃ r, Ev g r ∧ Res r := fun ⟨r, h1, h2⟩ => ⟨r, h r h1, h2⟩
def Ref (l : List Int) (a b c d : Nat) : Prop := (ab l a).testBit b = true ∧ (ab l c).testBit d = true ∧ (ab l c).testBit b = false ∧ (ab l a).testBit d = false
instance instO3 (l : List Int) (a b c d : Nat) : Decidable (Ref l a b c d) := inferInstanceAs (Decidable (_ ∧ _))
def Four (l : List Int) : Prop := ∀ a, a < l.length → ∀ b, b < l.length → ∀ c, c < l.length → ∀ d, d < l.length → ¬ Ref l a b c d
instance instO4 (l : List Int) : Decidable (Four l) := inferInstanceAs (Decidable (∀ a, a < l.length → _))
theorem four_loops {ρ : Type} (f0 : Nat → Nat → Option ρ) (f1 : Nat → Nat → Nat → Option ρ) (f2 : Nat → Nat → Nat → Nat → Option ρ) (f3 : Nat → Nat → Nat → Nat → Nat → Option ρ) (l : List Int) (Res : ρ → Prop)
    (e0 : ∀ r, Res r → True) (no : ρ) (hno : Four l → Res no) (yes : Nat → Nat → Nat → Nat → ρ) (hyes : ¬ Four l → ∀ a b c d, Res (yes a b c d))
    (h0 : ∀ a, a < l.length → ∀ r, Ev (fun k => f1 k a 0) r → Ev (fun k => f0 k a) r) (h0e : Ev (fun k => f0 k l.length) no)
    (h1 : ∀ a b, a < l.length → b < l.length → ∀ r, Ev (fun k => f2 k a b 0) r → Ev (fun k => f1 k a b) r) (h1e : ∀ a, a < l.length → ∀ r, Ev (fun k => f0 k (a + 1)) r → Ev (fun k => f1 k a l.length) r)
    (h2 : ∀ a b c, a < l.length → b < l.length → c < l.length → ∀ r, Ev (fun k => f3 k a b c 0) r → Ev (fun k => f2 k a b c) r) (h2e : ∀ a b, a < l.length → b < l.length → ∀ r, Ev (fun k => f1 k a (b + 1)) r → Ev (fun k => f2 k a b l.length) r)
    (h3y : ∀ a b c d, a < l.length → b < l.length → c < l.length → d < l.length → Ref l a b c d → Ev (fun k => f3 k a b c d) (yes a b c d))
    (h3n : ∀ a b c d, a < l.length → b < l.length → c < l.length → d < l.length → ¬ Ref l a b c d → ∀ r, Ev (fun k => f3 k a b c (d + 1)) r → Ev (fun k => f3 k a b c d) r)
    (h3e : ∀ a b c, a < l.length → b < l.length → c < l.length → ∀ r, Ev (fun k => f2 k a b (c + 1)) r → Ev (fun k => f3 k a b c l.length) r) :
    ∃ r, Ev (fun k => f0 k 0) r ∧ Res r := by
 refine Ex_for l.length (fun a => ∀ b, b < l.length → ∀ c, c < l.length → ∀ d, d < l.length → ¬ Ref l a b c d) Res (fun a ha n0 => Ex_map (h0 a ha) ?_) (fun hall => ⟨no, h0e, hno hall⟩)
 refine Ex_for l.length (fun b => ∀ c, c < l.length → ∀ d, d < l.length → ¬ Ref l a b c d) Res (fun b hb n1 => Ex_map (h1 a b ha hb) ?_) (fun hall => Ex_map (h1e a ha) (n0 hall))
 refine Ex_for l.length (fun c => ∀ d, d < l.length → ¬ Ref l a b c d) Res (fun c hc n2 => Ex_map (h2 a b c ha hb hc) ?_) (fun hall => Ex_map (h2e a b ha hb) (n1 hall))
 refine Ex_for l.length (fun d => ¬ Ref l a b c d) Res (fun d hd n3 => ?_) (fun hall => Ex_map (h3e a b c ha hb hc) (n2 hall))
 by_cases hr : Ref l a b c d
 · exact ⟨_, h3y a b c d ha hb hc hd hr, hyes (fun hf => hf a ha b hb c hc d hd hr) a b c d⟩
 · exact Ex_map (h3n a b c d ha hb hc hd hr) (n3 hr)
theorem twoTwo_ev {l : List Int} (h : Rel l) : ∃ s, Ev (fun k => Y4.f k (l.length : Int) l) s ∧ s.isEmpty = decide (Four l) := by
  have hn := h.1
  unfold Y4.f
  refine four_loops (fun k a => Y4.l0 k (l.length : Int) (a : Int) (l.length : Int) l) (fun k a b => Y4.l1 k (a : Int) (l.length : Int) (a : Int) (l.length : Int) (b : Int) (l.length : Int) l)
    (fun k a b c => Y4.l2 k (a : Int) (b : Int) (l.length : Int) (a : Int) (l.length : Int) (b : Int) (l.length : Int) (c : Int) (l.length : Int) l)
    (fun k a b c d => Y4.l3 k (a : Int) (b : Int) (c : Int) (l.length : Int) (a : Int) (l.length : Int) (b : Int) (l.length : Int) (c : Int) (l.length : Int) (d : Int) (l.length : Int) l) l _ (fun _ _ => trivial) [] (fun hf => by rw [decide_eq_true hf]; rfl) (fun a b c d => [(a : Int), b, c, d]) (fun hf a b c d => by rw [decide_eq_false hf]; rfl) ?_ ?_ ?_ ?_ ?_ ?_ ?_ ?_ ?_
  · exact fun a ha r hr => Ev.step (fun _ => rfl) (Ev_pos (by omega) hr)
  · exact Ev.step (fun _ => rfl) (Ev_neg (by omega) (Ev_some rfl))
  · exact fun a b ha hb r hr => Ev.step (fun _ => rfl) (Ev_pos (by omega) hr)
  · intro a ha r hr
    refine Ev.step (fun _ => rfl) (Ev_neg (by omega) ?_)
    rw [wrap_succ (by omega)]; exact hr
  · exact fun a b c ha hb hc r hr => Ev.step (fun _ => rfl) (Ev_pos (by omega) hr)
  · intro a b ha hb r hr
    refine Ev.step (fun _ => rfl) (Ev_neg (by omega) ?_)
    rw [wrap_succ (by omega)]; exact hr
  · intro a b c d ha hb hc hd hr
    refine Ev.step (fun _ => rfl) (Ev_pos (by omega) ?_)
    exact Ev_val (betterO h _ a b ha (by omega)) (Ev_pos hr.1 (Ev_val (betterO h _ c d hc (by omega)) (Ev_pos hr.2.1 (Ev_val (betterO h _ c b hc (by omega)) (Ev_neg (by rw [hr.2.2.1]; decide) (Ev_val (betterO h _ a d ha (by omega)) (Ev_neg (by rw [hr.2.2.2]; decide) (Ev_some rfl))))))))
  · intro a b c d ha hb hc hd hr r hn2
    refine Ev.step (fun _ => rfl) (Ev_pos (by omega) ?_)
    rw [wrap_succ (by omega)]
    refine Ev_val (betterO h _ a b ha (by omega)) ?_
    by_cases c1 : (ab l a).testBit b = true
    · refine Ev_pos c1 (Ev_val (betterO h _ c d hc (by omega)) ?_)
      by_cases c2 : (ab l c).testBit d = true
      · refine Ev_pos c2 (Ev_val (betterO h _ c b hc (by omega)) ?_)
        by_cases c3 : (ab l c).testBit b = true
        · exact Ev_pos c3 hn2
        · refine Ev_neg c3 (Ev_val (betterO h _ a d ha (by omega)) ?_)
          by_cases c4 : (ab l a).testBit d = true
          · exact Ev_pos c4 hn2
          · exact absurd ⟨c1, c2, by simpa using c3, by simpa using c4⟩ hr
      · exact Ev_neg c2 hn2
    · exact Ev_neg c1 hn2
  · intro a b c ha hb hc r hr
    refine Ev.step (fun _ => rfl) (Ev_neg (by omega) ?_)
    rw [wrap_succ (by omega)]; exact hr
theorem refuses_ev {l : List Int} (h : Rel l) (z : Int) (a b c d : Nat) (ha : a < l.length) (hb : b < l.length) (hc : c < l.length) (hd : d < l.length) : Y55.f z l (a : Int) (b : Int) (c : Int) (d : Int) = some (decide (Ref l a b c d)) := by
 have hn := h.1
 unfold Y55.f
 rw [if_pos (by omega), if_pos (by omega), hasO h a b (by omega), hasO h c d (by omega), hasO h c b (by omega), hasO h a d (by omega)]
 unfold Ref
 simp only [Option.bind_some]
 rw [if_pos (show (0 : Int) ≤ (c : Int) by omega), if_pos (show (c : Int) < (l.length : Int) by omega)]
 rcases Bool.eq_false_or_eq_true ((ab l a).testBit b) with e1 | e1 <;> rcases Bool.eq_false_or_eq_true ((ab l c).testBit d) with e2 | e2 <;> rcases Bool.eq_false_or_eq_true ((ab l c).testBit b) with e3 | e3 <;> rcases Bool.eq_false_or_eq_true ((ab l a).testBit d) with e4 | e4 <;> simp [e1, e2, e3, e4]
theorem ivTwoTwo_ev {l : List Int} (h : Rel l) : ∃ s, Ev (fun k => Y11.f k (l.length : Int) l) s ∧ (!s.2) = decide (Four l) := by
  have hn := h.1
  unfold Y11.f
  refine four_loops (fun k a => Y11.l0 k (a : Int) (l.length : Int) l) (fun k a b => Y11.l1 k (a : Int) (b : Int) (l.length : Int) l)
    (fun k a b c => Y11.l2 k (a : Int) (b : Int) (c : Int) (l.length : Int) l)
    (fun k a b c d => Y11.l3 k (a : Int) (b : Int) (c : Int) (d : Int) (l.length : Int) l) l _ (fun _ _ => trivial) ([], false) (fun hf => by rw [decide_eq_true hf]; rfl) (fun a b c d => ([(a : Int), b, c, d], true)) (fun hf a b c d => by rw [decide_eq_false hf]; rfl) ?_ ?_ ?_ ?_ ?_ ?_ ?_ ?_ ?_
  · exact fun a ha r hr => Ev.step (fun _ => rfl) (Ev_pos (by omega) hr)
  · exact Ev.step (fun _ => rfl) (Ev_neg (by omega) (Ev_some rfl))
  · exact fun a b ha hb r hr => Ev.step (fun _ => rfl) (Ev_pos (by omega) hr)
  · intro a ha r hr
    refine Ev.step (fun _ => rfl) (Ev_neg (by omega) ?_)
    rw [wrap_succ (by omega)]; exact hr
  · exact fun a b c ha hb hc r hr => Ev.step (fun _ => rfl) (Ev_pos (by omega) hr)
  · intro a b ha hb r hr
    refine Ev.step (fun _ => rfl) (Ev_neg (by omega) ?_)
    rw [wrap_succ (by omega)]; exact hr
  · intro a b c d ha hb hc hd hr
    exact Ev.step (fun _ => rfl) (Ev_pos (by omega) (Ev_val (refuses_ev h _ a b c d ha hb hc hd) (Ev_pos (decide_eq_true hr) (Ev_some rfl))))
  · intro a b c d ha hb hc hd hr r hn2
    refine Ev.step (fun _ => rfl) (Ev_pos (by omega) (Ev_val (refuses_ev h _ a b c d ha hb hc hd) (Ev_neg (by simpa using hr) ?_)))
    rw [wrap_succ (by omega)]; exact hn2
  · intro a b c ha hb hc r hr
    refine Ev.step (fun _ => rfl) (Ev_neg (by omega) ?_)
    rw [wrap_succ (by omega)]; exact hr
def IvOrd (z : Int) (l : List Int) : Prop := (z = l.length ∧ Rel l ∧ Ord l) ∧ Four l
instance instO5 (z : Int) (l : List Int) : Decidable (IvOrd z l) := inferInstanceAs (Decidable (_ ∧ _))
theorem isInterval_ev (z : Int) (l : List Int) : Ev (fun k => Y54.f k z l) (decide (IvOrd z l)) := by
 unfold Y54.f
 refine Ev.bind (isOrder_ev z l) ?_
 by_cases g : z = l.length ∧ Rel l ∧ Ord l
 · {
 obtain ⟨rfl, g2, g3⟩ := g
 obtain ⟨s, hs, e⟩ := twoTwo_ev g2
 refine Ev_pos (decide_eq_true ⟨rfl, g2, g3⟩) (Ev.bind hs (Ev_some ?_))
 rw [e]
 exact dec_eq ⟨fun h => ⟨⟨rfl, g2, g3⟩, h⟩, fun h => h.2⟩}
 · {
 refine Ev_neg (by simpa using g) (Ev_some ?_)
 rw [decide_eq_false (fun h => g h.1)]}
theorem ivGoodOrder_ev (z : Int) (l : List Int) : Ev (fun k => Y57.f k z l) (decide (IvOrd z l)) := by
 unfold Y57.f
 refine Ev.bind (orGood_ev z l) ?_
 by_cases g : z = l.length ∧ Rel l ∧ Ord l
 · {
 obtain ⟨rfl, g2, g3⟩ := g
 obtain ⟨s, hs, e⟩ := ivTwoTwo_ev g2
 refine Ev_pos (decide_eq_true ⟨rfl, g2, g3⟩) ?_
 refine Ev.bind (a := !s.2) ?_ (Ev_some ?_)
 · {
 unfold Y60.f
 exact Ev.bind hs (Ev_some rfl)}
 · {
 rw [e]
 exact dec_eq ⟨fun h => ⟨⟨rfl, g2, g3⟩, h⟩, fun h => h.2⟩}}
 · {
 refine Ev_neg (by simpa using g) (Ev_some ?_)
 rw [decide_eq_false (fun h => g h.1)]}
theorem IvOrd.isIv {z : Int} {l : List Int} (h : IvOrd z l) : IsIv l := by
 obtain ⟨⟨_, h1, h2⟩, h3⟩ := h
 refine ⟨h1, fun i hi => (h2 i hi).1, fun a b c d ha hb hc hd e1 e2 => ?_⟩
 apply Classical.byContradiction
 intro hn
 rw [not_or] at hn
 exact h3 a ha b hb c hc d hd ⟨e1, e2, by simpa using hn.1, by simpa using hn.2⟩
theorem Comp.ivOrd {l : List Int} {m : Nat} {L R : Nat → Nat} (g : Comp l m L R) : IvOrd (l.length : Int) l := by
 refine ⟨⟨rfl, g.rel, fun i hi => ⟨g.isIv.irr i hi, fun j hj hb q hq hb2 => ?_⟩⟩, fun a ha b hb c hc d hd hr => ?_⟩
 · {
 rw [g.bit i j hi hj, decide_eq_true_eq] at hb
 have hq2 := g.rel.bit_lt j q hb2
 rw [g.bit j q hj hq2, decide_eq_true_eq] at hb2
 rw [g.bit i q hi hq2, decide_eq_true_eq]
 have := g.le j hj
 omega}
 · {
 obtain ⟨r1, r2, r3, r4⟩ := hr
 rcases g.isIv.four a b c d ha hb hc hd r1 r2 with h | h
 · rw [r3] at h; exact absurd h (by decide)
 · rw [r4] at h; exact absurd h (by decide)}
theorem comp_inv (d : Array Int) (hs : ∀ i j, i ≤ j → j < d.size → d[i]! ≤ d[j]!) : ∀ m, m ≤ d.size → (Lib.compactUpTo d m).Pairwise (· < ·) ∧ (∀ x, x ∈ Lib.compactUpTo d m ↔ ∃ j, j < m ∧ d[j]! = x)
  | 0, _ => ⟨by simp [Lib.compactUpTo], fun x => by simp [Lib.compactUpTo]⟩
  | m + 1, h => by
    obtain ⟨h1, h2⟩ := comp_inv d hs m (by omega)
    rw [Lib.compactUpTo_succ]
    by_cases c : m = 0 ∨ d[m]! ≠ d[m - 1]!
    · have hk : Lib.keeps d m = true := by unfold Lib.keeps; exact decide_eq_true c
      rw [if_pos hk]
      refine ⟨List.pairwise_append.2 ⟨h1, List.pairwise_singleton _ _, fun x hx y hy => ?_⟩, fun x => ?_⟩
      · obtain ⟨j, hj, rfl⟩ := (h2 x).1 hx
        rw [List.mem_singleton.1 hy]
        have h3 := hs j (m - 1) (by omega) (by omega)
        have h4 := hs (m - 1) m (by omega) (by omega)
        have h5 : d[m]! ≠ d[m - 1]! := c.resolve_left (by omega)
        omega
      · rw [List.mem_append, h2, List.mem_singleton]
        refine ⟨fun hh => ?_, fun ⟨j, hj, e⟩ => ?_⟩
        · rcases hh with ⟨j, hj, e⟩ | e
          · exact ⟨j, by omega, e⟩
          · exact ⟨m, by omega, e.symm⟩
        · by_cases e2 : j = m
          · exact .inr (by rw [← e, e2])
          · exact .inl ⟨j, by omega, e⟩
    · have hk : Lib.keeps d m = false := by unfold Lib.keeps; exact decide_eq_false c
      rw [if_neg (by rw [hk]; simp), List.append_nil]
      refine ⟨h1, fun x => ?_⟩
      rw [h2]
      refine ⟨fun ⟨j, hj, e⟩ => ⟨j, by omega, e⟩, fun ⟨j, hj, e⟩ => ?_⟩
      by_cases e2 : j = m
      · have h5 : d[m]! = d[m - 1]! := Classical.byContradiction fun hh => c (.inr hh)
        exact ⟨m - 1, by omega, by rw [← e, e2, h5]⟩
      · exact ⟨j, by omega, e⟩
theorem dif_inv (L : List Int) : (Y2.dif L).Pairwise (· < ·) ∧ ∀ x, x ∈ Y2.dif L ↔ x ∈ L := by
 unfold Y2.dif Lib.compact
 have hp := List.mergeSort_perm L (fun x y => decide (x ≤ y))
 have hsrt := List.pairwise_mergeSort (le := fun x y : Int => decide (x ≤ y)) (fun a b c h1 h2 => by simp at h1 h2 ⊢; omega) (fun a b => by simp; omega) L
 revert hp hsrt
 generalize (L.mergeSort fun x y => decide (x ≤ y)) = M
 intro hp hsrt
 have hs : ∀ i j, i ≤ j → j < M.toArray.size → M.toArray[i]! ≤ M.toArray[j]! := by {
 intro i j hij hj
 have hj' : j < M.length := by simpa using hj
 by_cases e : i = j
 · rw [e]; exact Int.le_refl _
 · {
 have := List.pairwise_iff_getElem.1 hsrt i j (by omega) hj' (by omega)
 simp only [decide_eq_true_eq] at this
 have e1 : M.toArray[i]! = M[i] := by simp [getElem!_pos, show i < M.length by omega]
 have e2 : M.toArray[j]! = M[j] := by simp [getElem!_pos, hj']
 rw [e1, e2]; exact this}}
 obtain ⟨h1, h2⟩ := comp_inv M.toArray hs M.length (by simp)
 refine ⟨h1, fun x => ?_⟩
 rw [h2, ← hp.mem_iff]
 refine ⟨fun ⟨j, hj, e⟩ => ?_, fun hx => ?_⟩
 · {
 have e1 : M.toArray[j]! = M[j] := by simp [getElem!_pos, hj]
 rw [← e, e1]; exact List.getElem_mem hj}
 · {
 obtain ⟨j, hj, rfl⟩ := List.getElem_of_mem hx
 exact ⟨j, hj, by simp [getElem!_pos, hj]⟩}
theorem dif_len (L : List Int) (K : Nat) (h : ∀ x : Int, x ∈ L ↔ 0 ≤ x ∧ x < (K : Int)) : (Y2.dif L).length = K := by
 obtain ⟨h1, h2⟩ := dif_inv L
 have hn : (Y2.dif L).Nodup := h1.imp (fun hlt he => by omega)
 have hr : ((List.range K).map fun (i : Nat) => (i : Int)).Nodup := List.Pairwise.map _ (fun a b hab => by omega) List.nodup_range
 have hperm := (List.perm_ext_iff_of_nodup hn hr).2 (fun x => by
  rw [h2, h, List.mem_map]
  refine ⟨fun ⟨a, b⟩ => ⟨x.toNat, List.mem_range.2 (by omega), by omega⟩, fun ⟨n, hn, e⟩ => ?_⟩
  rw [List.mem_range] at hn
  omega)
 rw [hperm.length_eq, List.length_map, List.length_range]
theorem ofSize_ev (d : Nat) (hd : d ≤ 1048576) : Ev (fun k => Y19.f k (d : Int)) (matF d fun _ _ => 0) := by
 unfold Y19.f
 have main : ∀ (n i : Nat), d - i = n → i ≤ d → Ev (fun k => Y19.l0 k (d : Int) (d : Int) (i : Int) ((List.range i).map fun (i : Nat) => (List.range d).map fun (j : Nat) => (0 : Int))) (matF d fun _ _ => 0) := by {
 intro n
 induction n with
 | zero => {
 intro i hn hi
 obtain rfl : i = d := by omega
 exact Ev.step (fun _ => rfl) (Ev_neg (by omega) (Ev_some rfl))}
 | succ n ih => {
 intro i hn hi
 refine Ev.step (fun _ => rfl) (Ev_pos (by omega) (Ev_pos (by omega) (Ev_pos (by omega) (Ev_pos (by simp; omega) ?_))))
 rw [Int.toNat_natCast, replR, wrap_succ (by omega)]
 have := ih (i + 1) (by omega) (by omega)
 rw [List.range_succ, List.map_append] at this
 exact this}}
 exact main _ 0 rfl (by omega)
section OrdV
variable {l : List Int} {m : Nat} {L R : Nat → Nat}
theorem dif_ev (D : List Int) (h : D.length ≤ 100000) : Y2.f D = some (Y2.dif D) := if_pos h
theorem Comp.dif (g : Comp l m L R) : Y2.dif (lowL l) = setsL l.length m R := by
 obtain ⟨h1, h2⟩ := dif_inv (lowL l)
 exact rise_unique h1 g.sets_rise (fun x => by rw [h2, g.sets_mem])
theorem setsL_len (n m : Nat) (R : Nat → Nat) : (setsL n m R).length = m := by simp [setsL]
theorem setsL_at (n m : Nat) (R : Nat → Nat) {t : Nat} (h : t < m) : rd (setsL n m R) (t : Int) = (upS n R t : Int) := by
 rw [rd_nat, setsL, mapR_getD _ _ h]
theorem lowL_at {j : Nat} (hj : j < l.length) : rd (lowL l) (j : Int) = (bel l j : Int) := by
 rw [rd_nat, lowL, mapR_getD _ _ hj]
def lvL (n : Nat) (L : Nat → Nat) : List Int := (List.range n).map fun i => (L i : Int)
theorem lvL_len (n : Nat) (L : Nat → Nat) : (lvL n L).length = n := by simp [lvL]
theorem lvL_at (n : Nat) (L : Nat → Nat) {i : Nat} (h : i < n) : rd (lvL n L) (i : Int) = (L i : Int) := by
 rw [rd_nat, lvL, mapR_getD _ _ h]
theorem lvL_succ (n : Nat) (L : Nat → Nat) : lvL (n + 1) L = lvL n L ++ [(L n : Int)] := by simp [lvL, List.range_succ]
theorem up_1024 (g : Comp l m L R) (t : Nat) : upS l.length R t < 1024 := setOf_1024 _ g.rel.1
theorem Comp.test (g : Comp l m L R) {s t : Nat} (hs : s ≤ m) (ht : t ≤ m) : ((upS l.length R t : Int) = (upS l.length R s : Int) ↔ t = s) ∧ (Go.bits .andNot .i64 (upS l.length R t : Int) (upS l.length R s : Int) = 0 ↔ t ≤ s) := by
 constructor
 · rw [← g.up_inj ht hs]; omega
 · {
 rw [andNot_zero _ _ (up_1024 g t) (up_1024 g s)]
 exact g.up_sub ht hs}
theorem Comp.levels (g : Comp l m L R) : Ev (fun k => Y16.f k (l.length : Int) l) (lvL l.length L) := by
  have hn := g.rel.1
  have hm := g.m_le
  unfold Y16.f
  refine Ev_val (mirror_eq g.rel) ?_
  show Ev (fun k => (Y2.f (lowL l)).bind fun t300 => (Y16.l0 k (([] : List Int)) t300 (lowL l) ((lowL l).length : Int) 0)) _
  refine Ev_val (dif_ev _ (by rw [lowL_len]; omega)) ?_
  rw [g.dif, lowL_len]
  have inner : ∀ (i : Nat) (_ : i < l.length) (x3 : List Int) (r : List Int), Ev (fun k => if x3.length < 17592186044416 then (Y16.l0 k (x3 ++ [(L i : Int)]) (setsL l.length m R) (lowL l) (l.length : Int) ((i + 1 : Nat) : Int)) else none) r →
      ∀ (d t : Nat), m - t = d → t ≤ m → Ev (fun k => Y16.l1 k x3 (setsL l.length m R) (bel l i : Int) ((min t (L i) : Nat) : Int) (lowL l) (l.length : Int) (i : Int) (setsL l.length m R) (m : Int) (t : Int)) r := by
    intro i hi x3 r hr d
    have hL := g.Llt hi
    have hb := g.bel_eq hi
    induction d with
    | zero =>
      intro t hd ht
      obtain rfl : t = m := by omega
      refine Ev.step (fun _ => rfl) (Ev_neg (by omega) ?_)
      rw [wrap_succ (by omega), Nat.min_eq_right (by omega)]
      exact hr
    | succ d ih =>
      intro t hd ht
      have next := ih (t + 1) (by omega) (by omega)
      obtain ⟨t1, t2⟩ := g.test (s := L i) (t := t) (by omega) (by omega)
      refine Ev.step (fun _ => rfl) (Ev_pos (by omega) (Ev_pos (by omega) (Ev_pos (by rw [setsL_len]; omega) ?_)))
      rw [setsL_at _ _ _ (by omega), hb, wrap_succ (i := t) (by omega)]
      rw [hb] at next
      by_cases c : t = L i
      · refine Ev_pos (t1.2 c) ?_
        rw [show min (t + 1) (L i) = min t (L i) by omega] at next
        exact next
      · refine Ev_neg (fun h => c (t1.1 h)) ?_
        by_cases c2 : t ≤ L i
        · refine Ev_pos (t2.2 c2) ?_
          rw [wrap_succ (i := min t (L i)) (by omega)]
          rw [show min (t + 1) (L i) = min t (L i) + 1 by omega] at next
          exact next
        · refine Ev_neg (fun h => c2 (t2.1 h)) ?_
          rw [show min (t + 1) (L i) = min t (L i) by omega] at next
          exact next
  have main : ∀ (d i : Nat), l.length - i = d → i ≤ l.length → Ev (fun k => Y16.l0 k (lvL i L) (setsL l.length m R) (lowL l) (l.length : Int) (i : Int)) (lvL l.length L) := by
    intro d
    induction d with
    | zero =>
      intro i hd hi
      obtain rfl : i = l.length := by omega
      exact Ev.step (fun _ => rfl) (Ev_neg (by omega) (Ev_some rfl))
    | succ d ih =>
      intro i hd hi
      have next := ih (i + 1) (by omega) (by omega)
      refine Ev.step (fun _ => rfl) (Ev_pos (by omega) (Ev_pos (by omega) (Ev_pos (by rw [lowL_len]; omega) ?_)))
      rw [lowL_at (by omega), setsL_len]
      have := inner i (by omega) (lvL i L) _ (Ev_pos (by rw [lvL_len]; omega) (by rw [← lvL_succ]; exact next)) m 0 (by omega) (by omega)
      rw [show min 0 (L i) = 0 by omega] at this
      exact this
  exact main _ 0 rfl (by omega)
theorem put_ev (s : List Int) (x : Int) (hs : s.Pairwise (· < ·)) (hl : s.length ≤ 1000) : ∃ r, Ev (fun k => Y45.f k s x) r ∧ (r.Pairwise (· < ·) ∧ (∀ y, y ∈ r ↔ y ∈ s ∨ y = x) ∧ r.length ≤ s.length + 1) := by
 unfold Y45.f
 have hp := List.pairwise_iff_getElem.1 hs
 have main : ∀ (d i : Nat), s.length - i = d → i ≤ s.length → (∀ q (h : q < s.length), q < i → s[q] < x) → ∃ r, Ev (fun k => Y45.l0 k s x (i : Int)) r ∧ (r.Pairwise (· < ·) ∧ (∀ y, y ∈ r ↔ y ∈ s ∨ y = x) ∧ r.length ≤ s.length + 1) := by {
 intro d
 have fin : ∀ i, i ≤ s.length → (∀ q (h : q < s.length), q < i → s[q] < x) → (∀ q (h : q < s.length), i ≤ q → x < s[q]) → ((s.take i ++ [x] ++ s.drop i).Pairwise (· < ·) ∧ (∀ y, y ∈ s.take i ++ [x] ++ s.drop i ↔ y ∈ s ∨ y = x) ∧ (s.take i ++ [x] ++ s.drop i).length ≤ s.length + 1) := by {
 intro i hi h1 h2
 refine ⟨?_, fun y => ?_, by simp; omega⟩
 · {
 rw [List.pairwise_append]
 refine ⟨?_, hs.sublist (List.drop_sublist _ _), fun a ha b hb => ?_⟩
 · {
 rw [List.pairwise_append]
 refine ⟨hs.sublist (List.take_sublist _ _), List.pairwise_singleton _ _, fun a ha b hb => ?_⟩
 rw [List.mem_singleton.1 hb]
 obtain ⟨q, hq, rfl⟩ := List.getElem_of_mem ha
 rw [List.length_take] at hq
 rw [List.getElem_take]
 exact h1 q (by omega) (by omega)}
 · {
 obtain ⟨q, hq, rfl⟩ := List.getElem_of_mem hb
 rw [List.length_drop] at hq
 rw [List.getElem_drop]
 have hx := h2 (i + q) (by omega) (by omega)
 rcases List.mem_append.1 ha with ha | ha
 · {
 obtain ⟨p, hp1, rfl⟩ := List.getElem_of_mem ha
 rw [List.length_take] at hp1
 rw [List.getElem_take]
 exact hp p (i + q) (by omega) (by omega) (by omega)}
 · rw [List.mem_singleton.1 ha]; exact hx}}
 · {
 rw [List.mem_append, List.mem_append, List.mem_singleton]
 have : y ∈ s ↔ y ∈ s.take i ∨ y ∈ s.drop i := by rw [← List.mem_append, List.take_append_drop]
 rw [this]
 constructor
 · {
 rintro ((h | h) | h)
 · exact .inl (.inl h)
 · exact .inr h
 · exact .inl (.inr h)}
 · {
 rintro ((h | h) | h)
 · exact .inl (.inl h)
 · exact .inr h
 · exact .inl (.inr h)}}}
 induction d with
 | zero => {
 intro i hd hi h
 obtain rfl : i = s.length := by omega
 refine ⟨_, Ev.step (fun _ => rfl) (Ev_neg (by omega) (Ev_val rfl (Ev_pos (by omega) (Ev_pos (by omega) (Ev_val rfl (Ev_pos (by simp; omega) (Ev_val rfl (Ev_pos (by simp; omega) (Ev_val rfl (Ev_val rfl (Ev_pos (by simp; omega) (Ev_some rfl)))))))))))), ?_⟩
 simp only [List.nil_append, Int.toNat_natCast]
 exact fin _ (Nat.le_refl _) h (fun q h1 h2 => by omega)}
 | succ d ih => {
 intro i hd hi h
 have hil : i < s.length := by omega
 by_cases c : s[i] < x
 · {
 obtain ⟨r, h1, h2⟩ := ih (i + 1) (by omega) (by omega) (fun q hq hqi => by
  by_cases e : q = i
  · subst e; exact c
  · exact h q hq (by omega))
 refine ⟨r, Ev.step (fun _ => rfl) (Ev_pos (by omega) (Ev_pos (by omega) ?_)), h2⟩
 rw [rd_nat, getD_lt _ _ _ hil, wrap_succ (by omega)]
 exact Ev_pos c h1}
 · {
 by_cases e : s[i] = x
 · {
 refine ⟨s, Ev.step (fun _ => rfl) (Ev_pos (by omega) (Ev_pos (by omega) ?_)), hs, fun y => ?_, by omega⟩
 · {
 rw [rd_nat, getD_lt _ _ _ hil]
 exact Ev_neg c (Ev_pos e (Ev_some rfl))}
 · exact ⟨.inl, fun hy => hy.elim id (fun e2 => by rw [e2, ← e]; exact List.getElem_mem _)⟩}
 · {
 refine ⟨_, Ev.step (fun _ => rfl) (Ev_pos (by omega) (Ev_pos (by omega) ?_)), fin i (by omega) h (fun q hq hqi => ?_)⟩
 · {
 rw [rd_nat, getD_lt _ _ _ hil]
 refine Ev_neg c (Ev_neg e (Ev_val rfl (Ev_pos (by omega) (Ev_val rfl (Ev_pos (by simp; omega) (Ev_val rfl (Ev_pos (by simp; omega) (Ev_val rfl (Ev_val rfl (Ev_pos (by simp; omega) (Ev_some (by simp))))))))))))}
 · {
 by_cases e2 : q = i
 · subst e2; omega
 · {
 have := hp i q (by omega) hq (by omega)
 omega}}}}}}
 exact main _ 0 rfl (by omega) (fun q _ h => by omega)
theorem Comp.levelsS (g : Comp l m L R) : Ev (fun k => Y13.f k (l.length : Int) l) (lvL l.length L) := by
  have hn := g.rel.1
  have hm := g.m_le
  unfold Y13.f
  have inner : ∀ (i : Nat) (_ : i < l.length) (x5 : List Int) (r : List Int), Ev (fun k => if x5.length < 17592186044416 then (Y13.l1 k (setsL l.length m R) (x5 ++ [(L i : Int)]) (l.length : Int) ((i + 1 : Nat) : Int) (l.length : Int) l) else none) r →
      ∀ (d t : Nat), m - t = d → t ≤ m → Ev (fun k => Y13.l2 k (setsL l.length m R) x5 (i : Int) ((min t (L i) : Nat) : Int) (l.length : Int) (i : Int) (setsL l.length m R) (m : Int) (t : Int) (l.length : Int) l) r := by
    intro i hi x5 r hr d
    have hL := g.Llt hi
    have hb := g.bel_eq hi
    have hbel : ∀ z, Ev (fun k => Y17.f k z l (i : Int)) (bel l i : Int) := fun z => orBelow_ev g.rel i (by omega) z
    induction d with
    | zero =>
      intro t hd ht
      obtain rfl : t = m := by omega
      refine Ev.step (fun _ => rfl) (Ev_neg (by omega) ?_)
      rw [wrap_succ (by omega), Nat.min_eq_right (by omega)]
      exact hr
    | succ d ih =>
      intro t hd ht
      have next := ih (t + 1) (by omega) (by omega)
      obtain ⟨t1, t2⟩ := g.test (s := L i) (t := t) (by omega) (by omega)
      refine Ev.step (fun _ => rfl) (Ev_pos (by omega) (Ev_pos (by omega) (Ev_pos (by rw [setsL_len]; omega) (Ev.bind (hbel _) ?_))))
      rw [setsL_at _ _ _ (by omega), wrap_succ (i := t) (by omega), hb]
      by_cases c : t = L i
      · refine Ev_pos (t1.2 c) ?_
        rw [show min (t + 1) (L i) = min t (L i) by omega] at next
        exact next
      · refine Ev_neg (fun h => c (t1.1 h)) (Ev.bind (hbel _) ?_)
        rw [hb]
        by_cases c2 : t ≤ L i
        · refine Ev_pos (t2.2 c2) ?_
          rw [wrap_succ (i := min t (L i)) (by omega)]
          rw [show min (t + 1) (L i) = min t (L i) + 1 by omega] at next
          exact next
        · refine Ev_neg (fun h => c2 (t2.1 h)) ?_
          rw [show min (t + 1) (L i) = min t (L i) by omega] at next
          exact next
  have main1 : ∀ (d i : Nat), l.length - i = d → i ≤ l.length → Ev (fun k => Y13.l1 k (setsL l.length m R) (lvL i L) (l.length : Int) (i : Int) (l.length : Int) l) (lvL l.length L) := by
    intro d
    induction d with
    | zero =>
      intro i hd hi
      obtain rfl : i = l.length := by omega
      exact Ev.step (fun _ => rfl) (Ev_neg (by omega) (Ev_some rfl))
    | succ d ih =>
      intro i hd hi
      have next := ih (i + 1) (by omega) (by omega)
      refine Ev.step (fun _ => rfl) (Ev_pos (by omega) ?_)
      rw [setsL_len]
      have := inner i (by omega) (lvL i L) _ (Ev_pos (by rw [lvL_len]; omega) (by rw [← lvL_succ]; exact next)) m 0 (by omega) (by omega)
      rw [show min 0 (L i) = 0 by omega] at this
      exact this
  have main0 : ∀ (d j : Nat) (s : List Int), l.length - j = d → j ≤ l.length → s.Pairwise (· < ·) → s.length ≤ j → (∀ y, y ∈ s ↔ ∃ q, q < j ∧ y = (bel l q : Int)) → Ev (fun k => Y13.l0 k s (l.length : Int) (j : Int) (l.length : Int) l) (lvL l.length L) := by
    intro d
    induction d with
    | zero =>
      intro j s hd hj h1 h2 h3
      obtain rfl : j = l.length := by omega
      have e : s = setsL l.length m R := rise_unique h1 g.sets_rise (fun x => by
        rw [h3, g.sets_mem, lowL, List.mem_map]
        exact ⟨fun ⟨q, hq, e⟩ => ⟨q, List.mem_range.2 hq, e.symm⟩, fun ⟨q, hq, e⟩ => ⟨q, List.mem_range.1 hq, e.symm⟩⟩)
      subst e
      exact Ev.step (fun _ => rfl) (Ev_neg (by omega) (main1 _ 0 rfl (by omega)))
    | succ d ih =>
      intro j s hd hj h1 h2 h3
      obtain ⟨r, r1, r2, r3, r4⟩ := put_ev s (bel l j : Int) h1 (by omega)
      refine Ev.step (fun _ => rfl) (Ev_pos (by omega) (Ev.bind (orBelow_ev g.rel j (by omega) _) (Ev.bind r1 ?_)))
      rw [wrap_succ (i := j) (by omega)]
      refine ih (j + 1) r (by omega) (by omega) r2 (by omega) (fun y => ?_)
      rw [r3, h3]
      constructor
      · rintro (⟨q, hq, e⟩ | e)
        · exact ⟨q, by omega, e⟩
        · exact ⟨j, by omega, e⟩
      · rintro ⟨q, hq, e⟩
        by_cases c : q = j
        · exact .inr (by rw [e, c])
        · exact .inl ⟨q, by omega, e⟩
  exact main0 _ 0 [] rfl (by omega) List.Pairwise.nil (by simp) (fun y => by simp)
def endR (L R : Nat → Nat) (i : Nat) : Nat → Nat
  | 0 => L i
  | j + 1 => if R i < L j then endR L R i j else max (endR L R i j) (L j)
theorem endR_le (L R : Nat → Nat) (i : Nat) (h : L i ≤ R i) : ∀ j, endR L R i j ≤ R i
  | 0 => h
  | j + 1 => by
    rw [endR]
    have := endR_le L R i h j
    split <;> omega
theorem endR_ge (L R : Nat → Nat) (i : Nat) : ∀ j q, q < j → L q ≤ R i → L q ≤ endR L R i j
  | 0, q, hq, _ => by omega
  | j + 1, q, hq, hl => by
    rw [endR]
    by_cases e : q = j
    · subst e
      rw [if_neg (by omega)]; omega
    · have := endR_ge L R i j q (by omega) hl
      split <;> omega
theorem Comp.endR_eq (g : Comp l m L R) {i : Nat} (hi : i < l.length) : endR L R i l.length = R i := by
 obtain ⟨q, hq, e⟩ := g.onL (R i) (g.lt i hi)
 have h1 := endR_le L R i (g.le i hi) l.length
 have h2 := endR_ge L R i l.length q hq (by omega)
 omega
def endL (n : Nat) (L R : Nat → Nat) : List S130 := (List.range n).map fun i => (⟨(L i : Int), (R i : Int)⟩ : S130)
theorem endL_len (n : Nat) (L R : Nat → Nat) : (endL n L R).length = n := by simp [endL]
theorem endL_at (n : Nat) (L R : Nat → Nat) {i : Nat} (h : i < n) : rd_T130 (endL n L R) (i : Int) = ⟨(L i : Int), (R i : Int)⟩ := by
 unfold rd_T130
 rw [Int.toNat_natCast, getD_lt _ _ _ (by rw [endL_len]; exact h)]
 simp [endL]
theorem endL_succ (n : Nat) (L R : Nat → Nat) : endL (n + 1) L R = endL n L R ++ [(⟨(L n : Int), (R n : Int)⟩ : S130)] := by simp [endL, List.range_succ]
theorem mxO (a b : Nat) : mx (a : Int) (b : Int) = ((max a b : Nat) : Int) := by unfold mx; split <;> omega
theorem l1MostO (a b : Nat) : Y47.f (a : Int) (b : Int) = some ((max a b : Nat) : Int) := by
 unfold Y47.f
 by_cases h : (a : Int) > (b : Int)
 · rw [if_pos h]; congr 1; omega
 · rw [if_neg h]; congr 1; omega
theorem Comp.ends (g : Comp l m L R) : Ev (fun k => Y20.f k (l.length : Int) l) (endL l.length L R) := by
  have hn := g.rel.1
  unfold Y20.f
  refine Ev.bind g.levels ?_
  rw [lvL_len]
  have inner : ∀ (i : Nat) (_ : i < l.length) (x3 : List S130) (r : List S130), Ev (fun k => if x3.length < 8796093022208 then (Y20.l0 k (x3 ++ [(⟨(L i : Int), (R i : Int)⟩ : S130)]) (lvL l.length L) (lvL l.length L) (l.length : Int) ((i + 1 : Nat) : Int) (l.length : Int) l) else none) r →
      ∀ (d j : Nat), l.length - j = d → j ≤ l.length → Ev (fun k => Y20.l1 k x3 (lvL l.length L) (i : Int) (L i : Int) (endR L R i j : Int) (lvL l.length L) (l.length : Int) (i : Int) (lvL l.length L) (l.length : Int) (j : Int) (l.length : Int) l) r := by
    intro i hi x3 r hr d
    induction d with
    | zero =>
      intro j hd hj
      obtain rfl : j = l.length := by omega
      refine Ev.step (fun _ => rfl) (Ev_neg (by omega) ?_)
      rw [g.endR_eq hi, wrap_succ (by omega)]
      exact hr
    | succ d ih =>
      intro j hd hj
      have next := ih (j + 1) (by omega) (by omega)
      refine Ev.step (fun _ => rfl) (Ev_pos (by omega) (Ev_pos (by omega) (Ev_pos (by rw [lvL_len]; omega) (Ev_val (betterO g.rel _ i j hi (by omega)) ?_))))
      rw [wrap_succ (by omega), lvL_at _ _ (by omega), mxO, g.bit i j hi (by omega)]
      rw [endR] at next
      by_cases c : R i < L j
      · rw [if_pos c] at next
        exact Ev_pos (decide_eq_true c) next
      · rw [if_neg c] at next
        exact Ev_neg (by simpa using c) next
  have main : ∀ (d i : Nat), l.length - i = d → i ≤ l.length → Ev (fun k => Y20.l0 k (endL i L R) (lvL l.length L) (lvL l.length L) (l.length : Int) (i : Int) (l.length : Int) l) (endL l.length L R) := by
    intro d
    induction d with
    | zero =>
      intro i hd hi
      obtain rfl : i = l.length := by omega
      exact Ev.step (fun _ => rfl) (Ev_neg (by omega) (Ev_some rfl))
    | succ d ih =>
      intro i hd hi
      have next := ih (i + 1) (by omega) (by omega)
      refine Ev.step (fun _ => rfl) (Ev_pos (by omega) (Ev_pos (by omega) (Ev_pos (by rw [lvL_len]; omega) ?_)))
      rw [lvL_at _ _ (by omega), lvL_len]
      exact inner i (by omega) _ _ (Ev_pos (by rw [endL_len]; omega) (by rw [← endL_succ]; exact next)) l.length 0 (by omega) (by omega)
  exact main _ 0 rfl (by omega)
theorem Comp.endsS (g : Comp l m L R) : Ev (fun k => Y22.f k (l.length : Int) l) (endL l.length L R) := by
  have hn := g.rel.1
  unfold Y22.f
  refine Ev.bind g.levelsS ?_
  rw [lvL_len]
  have inner : ∀ (i : Nat) (_ : i < l.length) (x4 : List S130) (r : List S130), Ev (fun k => if x4.length < 8796093022208 then (Y22.l0 k (lvL l.length L) (x4 ++ [(⟨(L i : Int), (R i : Int)⟩ : S130)]) (lvL l.length L) (l.length : Int) ((i + 1 : Nat) : Int) (l.length : Int) l) else none) r →
      ∀ (d j : Nat), l.length - j = d → j ≤ l.length → Ev (fun k => Y22.l1 k (lvL l.length L) x4 (i : Int) (lvL l.length L) (l.length : Int) (i : Int) (lvL l.length L) (l.length : Int) (j : Int) (l.length : Int) l (L i : Int) (endR L R i j : Int)) r := by
    intro i hi x4 r hr d
    induction d with
    | zero =>
      intro j hd hj
      obtain rfl : j = l.length := by omega
      refine Ev.step (fun _ => rfl) (Ev_neg (by omega) ?_)
      rw [g.endR_eq hi, wrap_succ (by omega)]
      exact hr
    | succ d ih =>
      intro j hd hj
      have next := ih (j + 1) (by omega) (by omega)
      refine Ev.step (fun _ => rfl) (Ev_pos (by omega) (Ev_pos (by omega) (Ev_pos (by rw [lvL_len]; omega) (Ev_pos (by omega) (Ev_pos (by omega) (Ev_val (hasO g.rel i j (by omega)) ?_))))))
      rw [wrap_succ (by omega), lvL_at _ _ (by omega), l1MostO, g.bit i j hi (by omega)]
      rw [endR] at next
      by_cases c : R i < L j
      · rw [if_pos c] at next
        exact Ev_pos (decide_eq_true c) next
      · rw [if_neg c] at next
        exact Ev_neg (by simpa using c) (Ev_val rfl next)
  have main : ∀ (d i : Nat), l.length - i = d → i ≤ l.length → Ev (fun k => Y22.l0 k (lvL l.length L) (endL i L R) (lvL l.length L) (l.length : Int) (i : Int) (l.length : Int) l) (endL l.length L R) := by
    intro d
    induction d with
    | zero =>
      intro i hd hi
      obtain rfl : i = l.length := by omega
      exact Ev.step (fun _ => rfl) (Ev_neg (by omega) (Ev_some rfl))
    | succ d ih =>
      intro i hd hi
      have next := ih (i + 1) (by omega) (by omega)
      refine Ev.step (fun _ => rfl) (Ev_pos (by omega) (Ev_pos (by omega) (Ev_pos (by rw [lvL_len]; omega) ?_)))
      rw [lvL_at _ _ (by omega), lvL_len]
      exact inner i (by omega) _ _ (Ev_pos (by rw [endL_len]; omega) (by rw [← endL_succ]; exact next)) l.length 0 (by omega) (by omega)
  exact main _ 0 rfl (by omega)
theorem lvL_mem (g : Comp l m L R) (x : Int) : x ∈ lvL l.length L ↔ 0 ≤ x ∧ x < (m : Int) := by
 unfold lvL
 rw [List.mem_map]
 constructor
 · {
 rintro ⟨i, hi, rfl⟩
 have := g.Llt (List.mem_range.1 hi)
 omega}
 · {
 intro hx
 obtain ⟨i, hi, e⟩ := g.onL x.toNat (by omega)
 exact ⟨i, List.mem_range.2 hi, by rw [e]; omega⟩}
theorem Comp.magnitude (g : Comp l m L R) : Ev (fun k => Y59.f k (l.length : Int) l) (m : Int) := by
 have hn := g.rel.1
 unfold Y59.f
 refine Ev.bind g.levels (Ev_val (dif_ev _ (by rw [lvL_len]; omega)) (Ev_some ?_))
 rw [dif_len _ m (lvL_mem g)]
theorem Comp.mostS (g : Comp l m L R) : Ev (fun k => Y28.f k (lvL l.length L)) ((m : Int) - 1) := by
 have hn := g.rel.1
 unfold Y28.f
 rw [lvL_len]
 have main : ∀ (d i : Nat) (s : Int), l.length - i = d → i ≤ l.length → -1 ≤ s → s < m → (∀ q, q < i → (L q : Int) ≤ s) → Ev (fun k => Y28.l0 k s (lvL l.length L) (l.length : Int) (i : Int)) ((m : Int) - 1) := by {
 intro d
 induction d with
 | zero => {
 intro i s hd hi h0 h1 h2
 obtain rfl : i = l.length := by omega
 refine Ev.step (fun _ => rfl) (Ev_neg (by omega) (Ev_some ?_))
 by_cases c : m = 0
 · omega
 · {
 obtain ⟨q, hq, e⟩ := g.onL (m - 1) (by omega)
 have := h2 q hq
 omega}}
 | succ d ih => {
 intro i s hd hi h0 h1 h2
 have hL := g.Llt (show i < l.length by omega)
 refine Ev.step (fun _ => rfl) (Ev_pos (by omega) (Ev_pos (by omega) (Ev_pos (by rw [lvL_len]; omega) ?_)))
 rw [lvL_at _ _ (by omega), wrap_succ (by omega)]
 unfold Y47.f
 by_cases c : s > (L i : Int)
 · {
 rw [if_pos c]
 refine Ev_val rfl (ih (i + 1) s (by omega) (by omega) h0 h1 (fun q hq => ?_))
 by_cases e : q = i
 · rw [e]; omega
 · exact h2 q (by omega)}
 · {
 rw [if_neg c]
 refine Ev_val rfl (ih (i + 1) _ (by omega) (by omega) (by omega) (by omega) (fun q hq => ?_))
 by_cases e : q = i
 · rw [e]; omega
 · have := h2 q (by omega); omega}}}
 exact main _ 0 (-1) rfl (by omega) (by omega) (by omega) (fun q hq => by omega)
theorem cnt_le (n : Nat) (L R : Nat → Nat) (a b : Nat) : 0 ≤ cntM n L R a b ∧ cntM n L R a b ≤ n := by
 have := sumZ_bound (n := n) (f := fun q => if L q = a ∧ R q = b then (1 : Int) else 0) (B := 1) (by decide) (fun q _ => by split <;> decide)
 unfold cntM
 omega
theorem cnt_succ (n : Nat) (L R : Nat → Nat) (a b : Nat) : cntM (n + 1) L R a b = cntM n L R a b + (if L n = a ∧ R n = b then 1 else 0) := rfl
theorem Comp.matrix (g : Comp l m L R) : Ev (fun k => Y26.f k (l.length : Int) l) (matO m l.length L R) := by
 have hn := g.rel.1
 have hm := g.m_le
 unfold Y26.f
 refine Ev.bind g.magnitude (Ev.bind (ofSize_ev m (by omega)) (Ev.bind g.ends ?_))
 rw [endL_len]
 have main : ∀ (d i : Nat), l.length - i = d → i ≤ l.length → Ev (fun k => Y26.l0 k (endL l.length L R) (l.length : Int) (i : Int) (matO m i L R)) (matO m l.length L R) := by {
 intro d
 induction d with
 | zero => {
 intro i hd hi
 obtain rfl : i = l.length := by omega
 exact Ev.step (fun _ => rfl) (Ev_neg (by omega) (Ev_some rfl))}
 | succ d ih => {
 intro i hd hi
 have next := ih (i + 1) (by omega) (by omega)
 have hil : i < l.length := by omega
 have h1 := g.Llt hil
 have h2 := g.lt i hil
 have hlen : (matO m i L R).length = m := matF_length _ _
 have hrow : (rd_L4 (matO m i L R) (L i : Int)) = (List.range m).map fun (b : Nat) => cntM i L R (L i) b := by {
 rw [show rd_L4 (matO m i L R) (L i : Int) = (matO m i L R).getD (L i) [] from rdL_nat _ _]
 exact matF_row _ _ h1}
 refine Ev.step (fun _ => rfl) (Ev_pos (by omega) (Ev_pos (by omega) (Ev_pos (by rw [endL_len]; omega) ?_)))
 rw [endL_at _ _ _ hil]
 refine Ev_pos (by simp only []; omega) (Ev_pos (by simp only []; omega) (Ev_pos (by simp only []; omega) (Ev_pos (by simp only []; rw [hrow]; simp; omega) ?_)))
 rw [wrap_succ (i := i) (by omega)]
 simp only [Int.toNat_natCast]
 have hc := cnt_le i L R (L i) (R i)
 have hv : wrap64 (rd (rd_L4 (matO m i L R) (L i : Int)) (R i : Int) + 1) = cntM (i + 1) L R (L i) (R i) := by rw [hrow, rd_nat, mapR_getD _ _ h2, wrap_small (by omega) (by omega), cnt_succ, if_pos ⟨rfl, rfl⟩]
 have hs := matF_set m (cntM i L R) (cntM (i + 1) L R) (L i) (R i) h1 h2 (fun a _ b _ hh => by
  rw [cnt_succ, if_neg (fun h3 => hh ⟨h3.1.symm, h3.2.symm⟩), Int.add_zero])
 rw [hv, show rd_L4 (matO m i L R) (L i : Int) = (matO m i L R).getD (L i) [] from rdL_nat _ _]
 unfold matO at next ⊢
 rw [hs]
 exact next}}
 have h0 : matO m 0 L R = matF m fun _ _ => 0 := matF_congr m (fun _ _ _ _ => rfl)
 rw [← h0]
 exact main _ 0 rfl (by omega)
theorem Comp.matrixS (g : Comp l m L R) : Ev (fun k => Y25.f k (l.length : Int) l) (matO m l.length L R) := by
  have hn := g.rel.1
  have hm := g.m_le
  unfold Y25.f
  refine Ev.bind g.endsS (Ev.bind g.levelsS (Ev.bind g.mostS ?_))
  rw [show wrap64 ((m : Int) - 1 + 1) = (m : Int) by rw [wrap_small (by omega) (by omega)]; omega]
  have inner : ∀ (a : Nat) (_ : a < m) (x : List (List Int)) (r : List (List Int)), Ev (fun k => if x.length < 5864062014805 then (Y25.l0 k (endL l.length L R) (m : Int) ((a + 1 : Nat) : Int) (x ++ [(List.range m).map fun (b : Nat) => cntM l.length L R a b])) else none) r →
      ∀ (d i : Nat), l.length - i = d → i ≤ l.length → Ev (fun k => Y25.l1 k (endL l.length L R) (m : Int) (a : Int) ((List.range m).map fun (b : Nat) => cntM i L R a b) (endL l.length L R) (l.length : Int) (i : Int) x) r := by
    intro a ha x r hr d
    induction d with
    | zero =>
      intro i hd hi
      obtain rfl : i = l.length := by omega
      refine Ev.step (fun _ => rfl) (Ev_neg (by omega) ?_)
      rw [wrap_succ (by omega)]; exact hr
    | succ d ih =>
      intro i hd hi
      have next := ih (i + 1) (by omega) (by omega)
      have hil : i < l.length := by omega
      have h2 := g.lt i hil
      refine Ev.step (fun _ => rfl) (Ev_pos (by omega) (Ev_pos (by omega) (Ev_pos (by rw [endL_len]; omega) ?_)))
      rw [endL_at _ _ _ hil, wrap_succ (i := i) (by omega)]
      by_cases c : L i = a
      · refine Ev_pos (by simp only []; omega) (Ev_pos (by simp only []; omega) (Ev_pos (by simp; omega) ?_))
        simp only [Int.toNat_natCast]
        have hc := cnt_le i L R a (R i)
        rw [rd_nat, mapR_getD _ _ h2, wrap_small (by omega) (by omega)]
        have e : ((List.range m).map fun (b : Nat) => cntM i L R a b).set (R i) (cntM i L R a (R i) + 1) = (List.range m).map fun (b : Nat) => cntM (i + 1) L R a b := by
          apply List.ext_getElem (by simp)
          intro j h3 h4
          rw [List.getElem_set]
          simp only [List.getElem_map, List.getElem_range]
          rw [cnt_succ]
          by_cases e2 : R i = j
          · rw [if_pos e2, if_pos ⟨c, e2⟩, e2]
          · rw [if_neg e2, if_neg (fun h5 => e2 h5.2), Int.add_zero]
        rw [e]; exact next
      · refine Ev_neg (by simp only []; omega) ?_
        have e : ((List.range m).map fun (b : Nat) => cntM i L R a b) = (List.range m).map fun (b : Nat) => cntM (i + 1) L R a b := by
          apply List.map_congr_left
          intro b _
          rw [cnt_succ, if_neg (fun h5 => c h5.1), Int.add_zero]
        rw [e]; exact next
  have main : ∀ (d a : Nat), m - a = d → a ≤ m → Ev (fun k => Y25.l0 k (endL l.length L R) (m : Int) (a : Int) ((List.range a).map fun (a : Nat) => (List.range m).map fun (b : Nat) => cntM l.length L R a b)) (matO m l.length L R) := by
    intro d
    induction d with
    | zero =>
      intro a hd ha
      obtain rfl : a = m := by omega
      exact Ev.step (fun _ => rfl) (Ev_neg (by omega) (Ev_some rfl))
    | succ d ih =>
      intro a hd ha
      have next := ih (a + 1) (by omega) (by omega)
      refine Ev.step (fun _ => rfl) (Ev_pos (by omega) (Ev_pos (by omega) (Ev_pos (by omega) ?_)))
      rw [endL_len]
      have h0 : (List.replicate (m : Int).toNat (0 : Int)) = (List.range m).map fun (b : Nat) => cntM 0 L R a b := by
        rw [Int.toNat_natCast]
        apply List.ext_getElem (by simp)
        intro j h3 h4
        simp [cntM, sumZ]
      rw [h0]
      refine inner a (by omega) _ _ (Ev_pos (by simp; omega) ?_) l.length 0 (by omega) (by omega)
      rw [List.range_succ, List.map_append] at next
      exact next
  exact main _ 0 rfl (by omega)
theorem IvOrd.ex {z : Int} {l : List Int} (h : IvOrd z l) : z = (l.length : Int) ∧ ∃ m L R, Comp l m L R := by
 refine ⟨h.1.1, ?_⟩
 obtain ⟨h1, h2⟩ := dif_inv (lowL l)
 obtain ⟨L, R, g⟩ := h.isIv.comp (Y2.dif (lowL l)) h1 h2
 exact ⟨_, L, R, g⟩
end OrdV
theorem and255 (x : Int) (h0 : 0 ≤ x) (h1 : x < 9223372036854775808) : 0 ≤ wrap64 (Go.bits .and .u64 x 255) ∧ wrap64 (Go.bits .and .u64 x 255) ≤ 255 := by
 have hm := Go.bits_mask .u64 63 (by decide) (fun n a b => by rw [IntKind.wrap_u64]; omega) 8 (by decide) x h0 (by omega)
 have e : ((2 : Int) ^ 8 - 1) = 255 := by decide
 have e2 : ((2 : Int) ^ 8) = 256 := by decide
 rw [e, e2] at hm
 rw [hm, wrap_small (by omega) (by omega)]; omega
def BytesOk (c : List Int) : Prop := c.length ≤ 1048576 ∧ ∀ x ∈ c, 0 ≤ x ∧ x ≤ 255
theorem BytesOk.at_ {c : List Int} (h : BytesOk c) (i : Nat) : 0 ≤ c.getD i 0 ∧ c.getD i 0 ≤ 255 := by
 by_cases e : i < c.length
 · rw [getD_lt _ _ _ e]; exact h.2 _ (List.getElem_mem e)
 · rw [List.getD_eq_getElem?_getD, List.getElem?_eq_none (by omega)]; exact ⟨Int.le_refl _, by decide⟩
theorem next_ok (c : List Int) (h : BytesOk c) (a s : Int) (h0 : 0 ≤ a) (h1 : a ≤ 4611686018427387000) : ∃ b s', Y51.f c a s = some (b, a + 1, s') ∧ 0 ≤ b ∧ b ≤ 255 := by
 have hw : wrap64 (a + 1) = a + 1 := wrap_small (by omega) (by omega)
 have hand : ∀ y : Int, 0 ≤ wrap64 (Go.bits .and .u64 (IntKind.u64.wrap y / 1099511627776) 255) ∧ wrap64 (Go.bits .and .u64 (IntKind.u64.wrap y / 1099511627776) 255) ≤ 255 := fun y => and255 _ (by rw [IntKind.wrap_u64]; omega) (by rw [IntKind.wrap_u64]; omega)
 unfold Y51.f
 rw [hw]
 by_cases c1 : a < (c.length : Int)
 · {
 obtain ⟨i, rfl⟩ : ∃ i : Nat, a = (i : Int) := ⟨a.toNat, by omega⟩
 have hb := h.at_ i
 rw [if_pos c1, if_pos h0, if_pos (by omega), rd_nat, wrap_small (x := c.getD i 0) (by omega) (by omega)]
 exact ⟨_, _, rfl, hb.1, hb.2⟩}
 · {
 rw [if_neg c1]
 by_cases c2 : a + 1 ≤ (c.length : Int)
 · rw [if_pos c2]; exact ⟨_, _, rfl, Int.le_refl _, by decide⟩
 · {
 rw [if_neg c2]
 have := hand ((IntKind.u64.wrap ((IntKind.u64.wrap (s * 6364136223846793005)) + 0)) + 1442695040888963407)
 exact ⟨_, _, rfl, this.1, this.2⟩}}
theorem pick_ok (c : List Int) (h : BytesOk c) (a s n : Int) (h0 : 0 ≤ a) (h1 : a ≤ 4611686018427380000) (hn : n ≤ 4611686018427387000) : ∃ r a' s', Y8.f c a s n = some (r, a', s') ∧ 0 ≤ r ∧ (1 ≤ n → r < n) ∧ 0 ≤ a' ∧ a' ≤ a + 2 := by
 unfold Y8.f
 by_cases c1 : n ≤ 1
 · rw [if_pos c1]; exact ⟨_, _, _, rfl, Int.le_refl _, fun _ => by omega, h0, by omega⟩
 · {
 rw [if_neg c1]
 obtain ⟨b, s', e, hb0, hb1⟩ := next_ok c h a s h0 (by omega)
 rw [e, Option.bind_some]
 by_cases c2 : n > 200
 · {
 rw [if_pos c2]
 obtain ⟨b2, s2, e2, hc0, hc1⟩ := next_ok c h (a + 1) s' (by omega) (by omega)
 simp only []
 rw [e2, Option.bind_some, if_neg (by omega)]
 have w1 : wrap64 (b * 256) = b * 256 := wrap_small (by omega) (by omega)
 have w2 : wrap64 (b * 256 + b2) = b * 256 + b2 := wrap_small (by omega) (by omega)
 simp only [w1, w2]
 refine ⟨_, _, _, rfl, Int.tmod_nonneg _ (by omega), fun _ => Int.tmod_lt_of_pos _ (by omega), by omega, by omega⟩}
 · {
 rw [if_neg c2, if_neg (by omega)]
 refine ⟨_, _, _, rfl, Int.tmod_nonneg _ hb0, fun _ => Int.tmod_lt_of_pos _ (by omega), by simp only []; omega, by simp only []; omega⟩}}
theorem one_ok (c : List Int) (h : BytesOk c) (a s n : Int) (h0 : 0 ≤ a) (h1 : a ≤ 4611686018427380000) (hn : n ≤ 4611686018427387000) : ∃ b a' s', Y38.f c a s n = some (b, a', s') ∧ 0 ≤ a' ∧ a' ≤ a + 2 := by
 obtain ⟨r, a', s', e, _, _, e2, e3⟩ := pick_ok c h a s n h0 h1 hn
 exact ⟨r == 0, a', s', by unfold Y38.f; rw [e]; rfl, e2, e3⟩
theorem pSame_refl (l : List Int) (hl : l.length ≤ 1048576) : Ev (fun k => laws_pSame.f k l l) true := by
 unfold laws_pSame.f
 refine Ev_pos rfl ?_
 have main : ∀ (d i : Nat), l.length - i = d → i ≤ l.length → Ev (fun k => laws_pSame.l0 k l l (l.length : Int) (i : Int)) true := by {
 intro d
 induction d with
 | zero => intro i hd hi; exact Ev.step (fun _ => rfl) (Ev_neg (by omega) (Ev_some rfl))
 | succ d ih => {
 intro i hd hi
 refine Ev.step (fun _ => rfl) (Ev_pos (by omega) (Ev_pos (by omega) (Ev_pos (by omega) (Ev_pos (by omega) (Ev_pos rfl ?_)))))
 rw [wrap_succ (i := i) (by omega)]
 exact ih (i + 1) (by omega) (by omega)}}
 exact main _ 0 rfl (by omega)
theorem pSameMatrix_refl (m : List (List Int)) (hs : Small m) : Ev (fun k => laws_pSameMatrix.f k m m) true := by
 unfold laws_pSameMatrix.f
 have hl := hs.1
 refine Ev_pos rfl ?_
 have main : ∀ (d i : Nat), m.length - i = d → i ≤ m.length → Ev (fun k => laws_pSameMatrix.l0 k (m.length : Int) (i : Int) m m) true := by {
 intro d
 induction d with
 | zero => intro i hd hi; exact Ev.step (fun _ => rfl) (Ev_neg (by omega) (Ev_some rfl))
 | succ d ih => {
 intro i hd hi
 refine Ev.step (fun _ => rfl) (Ev_pos (by omega) (Ev_pos (by omega) (Ev_pos (by omega) (Ev_pos (by omega) ?_))))
 rw [rdL_nat, wrap_succ (by omega)]
 exact Ev.bind (pSame_refl _ (hs.2 _ (getD_mem (by omega)))) (Ev_pos rfl (ih (i + 1) (by omega) (by omega)))}}
 exact main _ 0 rfl (by omega)
theorem among_ok (c : List Int) (h : BytesOk c) (a s : Int) (L : List Int) (hl : 0 < L.length) (hl2 : L.length ≤ 1000) (h0 : 0 ≤ a) (h1 : a ≤ 4611686018427380000) : ∃ v a' s', Y46.f c a s L = some (v, a', s') ∧ 0 ≤ a' ∧ a' ≤ a + 2 := by
 obtain ⟨r, a', s', e, r0, r1, q0, q1⟩ := pick_ok c h a s (L.length : Int) h0 h1 (by omega)
 exact ⟨rd L r, a', s', by unfold Y46.f; rw [e]; show (if 0 ≤ r then (if r < (L.length : Int) then some (rd L r, a', s') else none) else none) = _; rw [if_pos r0, if_pos (r1 (by omega))], q0, q1⟩
theorem wf_byte {x : Int} (h : (Lit.int .u8 x).wf = true) : 0 ≤ x ∧ x ≤ 255 := by
 simp [Lit.wf] at h
 have a : IntKind.u8.min = 0 := by decide
 have b : IntKind.u8.max = 255 := by decide
 rw [a, b] at h; exact h
theorem matO_small {l : List Int} {m : Nat} {L R : Nat → Nat} (g : Comp l m L R) : Small (matO m l.length L R) := by
 have h := g.isMat
 refine ⟨by have := h.1; omega, fun r hr => ?_⟩
 obtain ⟨i, hi, rfl⟩ := List.getElem_of_mem hr
 have h1 := (h.2.1 i hi).1
 rw [getD_lt _ _ _ hi] at h1
 rw [h1]
 have := h.1
 omega
theorem ofSizeF_ev (d : Nat) (hd : d ≤ 1048576) : Ev (fun k => Y19.f k (d : Int)) (matF d fun _ _ => 0) := ofSize_ev d hd
def dualM (m : List (List Int)) : List (List Int) := matF m.length fun i j => en m (m.length - 1 - j) (m.length - 1 - i)
theorem specDual_ev (m : List (List Int)) (hs : Small m) : Ev (fun k => Y21.f k m) (if isMat m then (dualM m, true) else ([], false)) := by
  unfold Y21.f
  refine Ev.bind (maGood_ev m hs) ?_
  by_cases g : isMat m
  · rw [if_pos g]
    refine Ev_pos (decide_eq_true g) ?_
    obtain ⟨hd, h, _⟩ := g
    have inner : ∀ (i : Nat), i < m.length → ∀ (X : List (List Int)) (R : List (List Int) × Bool), X.length ≤ 12 → Ev (fun k => Y21.l0 k (m.length : Int) ((i + 1 : Nat) : Int) m (X ++ [(List.range m.length).map fun (j : Nat) => en m (m.length - 1 - j) (m.length - 1 - i)])) R →
        ∀ (d j : Nat), m.length - j = d → j ≤ m.length → Ev (fun k => Y21.l1 k (m.length : Int) (i : Int) ((List.range j).map fun (j : Nat) => en m (m.length - 1 - j) (m.length - 1 - i)) (j : Int) m X) R := by
      intro i hi X R hX hR d
      induction d with
      | zero =>
        intro j hdj hj
        obtain rfl : j = m.length := by omega
        refine Ev.step (fun _ => rfl) (Ev_neg (by omega) (Ev_pos (by omega) ?_))
        rw [wrap_succ (by omega)]; exact hR
      | succ d ih =>
        intro j hdj hj
        have e1 : wrap64 (wrap64 ((m.length : Int) - 1) - (j : Int)) = ((m.length - 1 - j : Nat) : Int) := by
          rw [wrap_small (x := (m.length : Int) - 1) (by omega) (by omega), wrap_small (by omega) (by omega)]; omega
        have e2 : wrap64 (wrap64 ((m.length : Int) - 1) - (i : Int)) = ((m.length - 1 - i : Nat) : Int) := by
          rw [wrap_small (x := (m.length : Int) - 1) (by omega) (by omega), wrap_small (by omega) (by omega)]; omega
        have hl := (h (m.length - 1 - j) (by omega)).1
        refine Ev.step (fun _ => rfl) (Ev_pos (by omega) ?_)
        rw [e1, e2, rdL_nat, rd_nat, wrap_succ (by omega)]
        refine Ev_pos (by omega) (Ev_pos (by omega) (Ev_pos (by omega) (Ev_pos (by omega) (Ev_pos (by simp; omega) ?_))))
        have := ih (j + 1) (by omega) (by omega)
        rw [List.range_succ, List.map_append] at this
        exact this
    have main : ∀ (d i : Nat), m.length - i = d → i ≤ m.length → Ev (fun k => Y21.l0 k (m.length : Int) (i : Int) m ((List.range i).map fun (i : Nat) => (List.range m.length).map fun (j : Nat) => en m (m.length - 1 - j) (m.length - 1 - i))) (dualM m, true) := by
      intro d
      induction d with
      | zero =>
        intro i hd' hi
        obtain rfl : i = m.length := by omega
        exact Ev.step (fun _ => rfl) (Ev_neg (by omega) (Ev_some rfl))
      | succ d ih =>
        intro i hd' hi
        refine Ev.step (fun _ => rfl) (Ev_pos (by omega) ?_)
        have := ih (i + 1) (by omega) (by omega)
        rw [List.range_succ, List.map_append] at this
        exact inner i (by omega) _ _ (by simp; omega) this _ 0 rfl (by omega)
    exact main _ 0 rfl (by omega)
  · rw [if_neg g]; exact Ev_neg (by simpa using g) (Ev_some rfl)
def dualP (m : List (List Int)) (i j : Nat) : Nat → Nat → Int := fun a b =>
  if m.length - 1 - b < i ∨ m.length - 1 - b = i ∧ m.length - 1 - a < j then en m (m.length - 1 - b) (m.length - 1 - a) else 0
theorem implDual_ev (m : List (List Int)) (hs : Small m) : Ev (fun k => Y15.f k m) (if isMat m then (dualM m, true) else ([], false)) := by
  unfold Y15.f Y32.f
  refine Ev.bind (implIsMatrix_ev m hs) ?_
  by_cases g : isMat m
  · rw [if_pos g]
    refine Ev_pos (decide_eq_true g) (Ev_val rfl ?_)
    obtain ⟨hd, h, _⟩ := g
    refine Ev.bind (ofSizeF_ev m.length (by omega)) ?_
    have inner : ∀ (i : Nat), i < m.length → ∀ (R : List (List Int) × Bool), Ev (fun k => Y15.l0 k (m.length : Int) m (m.length : Int) ((i + 1 : Nat) : Int) (matF m.length (dualP m i m.length))) R →
        ∀ (d j : Nat), m.length - j = d → j ≤ m.length → Ev (fun k => Y15.l1 k (m.length : Int) (i : Int) m (m.length : Int) (i : Int) (m.getD i []) (m.length : Int) (j : Int) (matF m.length (dualP m i j))) R := by
      intro i hi R hR d
      have hl := (h i hi).1
      induction d with
      | zero =>
        intro j hdj hj
        obtain rfl : j = m.length := by omega
        refine Ev.step (fun _ => rfl) (Ev_neg (by omega) ?_)
        rw [wrap_succ (by omega)]; exact hR
      | succ d ih =>
        intro j hdj hj
        have e1 : wrap64 (wrap64 ((m.length : Int) - 1) - (j : Int)) = ((m.length - 1 - j : Nat) : Int) := by
          rw [wrap_small (x := (m.length : Int) - 1) (by omega) (by omega), wrap_small (by omega) (by omega)]; omega
        have e2 : wrap64 (wrap64 ((m.length : Int) - 1) - (i : Int)) = ((m.length - 1 - i : Nat) : Int) := by
          rw [wrap_small (x := (m.length : Int) - 1) (by omega) (by omega), wrap_small (by omega) (by omega)]; omega
        refine Ev.step (fun _ => rfl) (Ev_pos (by omega) (Ev_pos (by omega) (Ev_pos (by omega) ?_)))
        rw [e1, e2, rdL_nat, rd_nat, wrap_succ (by omega), Int.toNat_natCast, Int.toNat_natCast]
        refine Ev_pos (by omega) (Ev_pos (by rw [matF_length]; omega) (Ev_pos (by omega) (Ev_pos (by rw [matF_row _ _ (by omega)]; simp; omega) ?_)))
        have e3 : (m.getD i []).getD j 0 = dualP m i (j + 1) (m.length - 1 - j) (m.length - 1 - i) := by
          unfold dualP
          rw [if_pos (.inr ⟨by omega, by omega⟩), show m.length - 1 - (m.length - 1 - i) = i from by omega, show m.length - 1 - (m.length - 1 - j) = j from by omega]; rfl
        rw [e3, matF_set m.length (dualP m i j) (dualP m i (j + 1)) _ _ (by omega) (by omega)]
        · exact ih (j + 1) (by omega) (by omega)
        · intro a ha b hb hne
          unfold dualP
          by_cases c : m.length - 1 - b < i ∨ m.length - 1 - b = i ∧ m.length - 1 - a < j
          · rw [if_pos c, if_pos (by omega)]
          · rw [if_neg c, if_neg (by omega)]
    have main : ∀ (d i : Nat), m.length - i = d → i ≤ m.length → Ev (fun k => Y15.l0 k (m.length : Int) m (m.length : Int) (i : Int) (matF m.length (dualP m i 0))) (dualM m, true) := by
      intro d
      induction d with
      | zero =>
        intro i hd' hi
        obtain rfl : i = m.length := by omega
        refine Ev.step (fun _ => rfl) (Ev_neg (by omega) (Ev_some ?_))
        congr 1
        refine matF_congr _ (fun a ha b hb => ?_)
        unfold dualP
        rw [if_pos (by omega)]
      | succ d ih =>
        intro i hd' hi
        refine Ev.step (fun _ => rfl) (Ev_pos (by omega) (Ev_pos (by omega) (Ev_pos (by omega) ?_)))
        rw [rdL_nat, (h i (by omega)).1]
        refine inner i (by omega) _ ?_ _ 0 rfl (by omega)
        rw [matF_congr m.length (f := dualP m i m.length) (g := dualP m (i + 1) 0) (fun a ha b hb => by
          unfold dualP
          by_cases c : m.length - 1 - b < i + 1
          · rw [if_pos (by omega), if_pos (by omega)]
          · rw [if_neg (by omega), if_neg (by omega)])]
        exact ih (i + 1) (by omega) (by omega)
    have := main _ 0 rfl (by omega)
    rw [matF_congr m.length (f := dualP m 0 0) (g := fun _ _ => 0) (fun a ha b hb => by unfold dualP; rw [if_neg (by omega)])] at this
    exact this
  · rw [if_neg g]; exact Ev_neg (by simpa using g) (Ev_some rfl)
theorem implRowSums_ev (m : List (List Int)) (hs : Small m) : Ev (fun k => Y50.f k m) (if isMat m then (rowsL m, colsL m, true) else ([], [], false)) := by
 unfold Y50.f
 refine Ev.bind (implIsMatrix_ev m hs) ?_
 by_cases g : isMat m
 · rw [if_pos g]; exact Ev_pos (decide_eq_true g) (Ev.bind (sums_ev m g.1 g.2.1) (Ev_some rfl))
 · rw [if_neg g]; exact Ev_neg (by simpa using g) (Ev_some rfl)
theorem orHas_any (x : Int) (i : Nat) : ∃ b, Y7.f x (i : Int) = some b := ⟨_, if_pos (by omega)⟩
theorem close_l1 (n : Nat) (hn : n ≤ 1000) (z : Int) (j : Nat) (hj : j < n) (P : Int × List Int × Bool → Prop) (hR : ∀ L : List Int, L.length = n → ∃ R, Ev (fun k => Y5.l0 k (n : Int) ((j + 1 : Nat) : Int) z L) R ∧ P R) :
    ∀ (d i : Nat) (L : List Int), n - i = d → i ≤ n → L.length = n → ∃ R, Ev (fun k => Y5.l1 k (j : Int) (n : Int) (j : Int) (n : Int) (i : Int) z L) R ∧ P R := by
 intro d
 induction d with
 | zero => {
 intro i L hd hi hl
 obtain ⟨R, h1, h2⟩ := hR L hl
 refine ⟨R, ?_, h2⟩
 refine Ev.step (fun k => by rw [Y5.l1]) ?_
 refine Ev_neg (by omega) ?_
 rw [wrap_succ (by omega)]; exact h1}
 | succ d ih => {
 intro i L hd hi hl
 obtain ⟨b, hb⟩ := orHas_any (rd L (i : Int)) j
 cases b with
 | true => {
 obtain ⟨R, h1, h2⟩ := ih (i + 1) (L.set (i : Int).toNat (Go.bits .or .i64 (rd L (i : Int)) (rd L (j : Int)))) (by omega) (by omega) (by rw [List.length_set]; exact hl)
 refine ⟨R, ?_, h2⟩
 refine Ev.step (fun k => by rw [Y5.l1]) ?_
 refine Ev_pos (by omega) (Ev_pos (by omega) (Ev_pos (by omega) (Ev_val hb (Ev_pos rfl (Ev_pos (by omega) (Ev_pos (by omega) ?_))))))
 rw [wrap_succ (by omega)]; exact h1}
 | false => {
 obtain ⟨R, h1, h2⟩ := ih (i + 1) L (by omega) (by omega) hl
 refine ⟨R, ?_, h2⟩
 refine Ev.step (fun k => by rw [Y5.l1]) ?_
 refine Ev_pos (by omega) (Ev_pos (by omega) (Ev_pos (by omega) (Ev_val hb (Ev_neg Bool.false_ne_true ?_))))
 rw [wrap_succ (by omega)]; exact h1}}
theorem close_l0 (n : Nat) (hn : n ≤ 1000) (z : Int) : ∀ (d j : Nat) (L : List Int), n - j = d → j ≤ n → L.length = n → ∃ R, Ev (fun k => Y5.l0 k (n : Int) (j : Int) z L) R ∧ (R.1 = z ∧ R.2.1.length = n) := by
 intro d
 induction d with
 | zero => {
 intro j L hd hj hl
 refine ⟨(z, L, true), ?_, rfl, hl⟩
 refine Ev.step (fun k => by rw [Y5.l0]) ?_
 exact Ev_neg (by omega) (Ev_some rfl)}
 | succ d ih => {
 intro j L hd hj hl
 obtain ⟨R, h1, h2⟩ := close_l1 n hn z j (by omega) _ (fun L' hl' => ih (j + 1) L' (by omega) (by omega) hl') n 0 L (by omega) (by omega) hl
 refine ⟨R, ?_, h2⟩
 refine Ev.step (fun k => by rw [Y5.l0]) ?_
 refine Ev_pos (by omega) ?_
 rw [hl]; exact h1}
theorem close_ok (z : Int) (L : List Int) (hz : 0 ≤ z) (hl : L.length ≤ 1000) : ∃ R, Ev (fun k => Y5.f k z L) R ∧ 0 ≤ R.1 ∧ R.2.1.length ≤ L.length := by
 have ho : Y53.f L = some L := by unfold Y53.f; simp; omega
 by_cases c : z = L.length ∧ Rel L
 · {
 obtain ⟨R, h1, h2, h3⟩ := close_l0 L.length (by omega) z L.length 0 L (by omega) (by omega) rfl
 refine ⟨R, ?_, by omega, by omega⟩
 unfold Y5.f
 exact Ev.bind (orRelation_ev z L) (Ev_pos (decide_eq_true c) (Ev_val ho h1))}
 · {
 refine ⟨(0, [], false), ?_, by decide, by simp⟩
 unfold Y5.f
 exact Ev.bind (orRelation_ev z L) (Ev_neg (by simpa using c) (Ev_some rfl))}
def OrdOut (n : Nat) (A : Int) (R : Int × List Int × Int × Int) : Prop := 0 ≤ R.1 ∧ R.2.1.length ≤ n ∧ 0 ≤ R.2.2.1 ∧ R.2.2.1 ≤ A
theorem order_l2 (c : List Int) (h : BytesOk c) (n : Nat) (hn : n ≤ 10) (kind : Int) (x y : List Int) (hx : x.length = n) (hy : y.length = n) (i : Nat) (hi : i < n) (z A : Int) (hA : A ≤ 3000000) (P : Int × List Int × Int × Int → Prop) (q : Int)
    (hR : ∀ (a s : Int) (L : List Int), L.length = n → 0 ≤ a → a + q ≤ A → ∃ R, Ev (fun k => Y1.l1 k (n : Int) kind x y ((i + 1 : Nat) : Int) c a s z L) R ∧ P R) (hq : 0 ≤ q) :
    ∀ (d j : Nat) (a s : Int) (L : List Int), n - j = d → j ≤ n → L.length = n → 0 ≤ a → a + 2 * d + q ≤ A → ∃ R, Ev (fun k => Y1.l2 k (n : Int) kind x y (i : Int) (j : Int) c a s z L) R ∧ P R := by
 intro d
 induction d with
 | zero => {
 intro j a s L hd hj hl ha hb
 obtain ⟨R, h1, h2⟩ := hR a s L hl ha (by omega)
 refine ⟨R, ?_, h2⟩
 refine Ev.step (fun _ => rfl) ?_
 refine Ev_neg (by omega) ?_
 rw [wrap_succ (by omega)]; exact h1}
 | succ d ih => {
 intro j a s L hd hj hl ha hb
 have next := fun (a' s' : Int) (L' : List Int) (hl' : L'.length = n) (h0 : 0 ≤ a') (h1 : a' ≤ a + 2) => ih (j + 1) a' s' L' (by omega) (by omega) hl' h0 (by omega)
 have hs : (L.set (i : Int).toNat (Go.bits .or .i64 (rd L (i : Int)) (shl .i64 1 (j : Int)))).length = n := by rw [List.length_set]; exact hl
 by_cases k0 : kind > 0
 · {
 have k1 : ¬ kind = 0 := by omega
 by_cases e : rd y (i : Int) < rd x (j : Int)
 · {
 obtain ⟨R, h1, h2⟩ := next a s _ hs ha (by omega)
 refine ⟨R, ?_, h2⟩
 refine Ev.step (fun _ => rfl) ?_
 refine Ev_pos (by omega) (Ev_pos k0 (Ev_pos (by omega) (Ev_pos (by omega) (Ev_pos (by omega) (Ev_pos (by omega) (Ev_pos e (Ev_pos (by omega) ?_)))))))
 rw [wrap_succ (i := j) (by omega)]; exact h1}
 · {
 obtain ⟨R, h1, h2⟩ := next a s L hl ha (by omega)
 refine ⟨R, ?_, h2⟩
 refine Ev.step (fun _ => rfl) ?_
 refine Ev_pos (by omega) (Ev_pos k0 (Ev_pos (by omega) (Ev_pos (by omega) (Ev_pos (by omega) (Ev_pos (by omega) (Ev_neg e (Ev_neg k1 ?_)))))))
 rw [wrap_succ (i := j) (by omega)]; exact h1}}
 · {
 by_cases k1 : kind = 0
 · {
 by_cases e : (i : Int) < (j : Int)
 · {
 obtain ⟨b, a', s', e1, f0, f1⟩ := one_ok c h a s 3 ha (by omega) (by decide)
 cases b with
 | true => {
 obtain ⟨R, h1, h2⟩ := next a' s' _ hs f0 f1
 refine ⟨R, ?_, h2⟩
 refine Ev.step (fun _ => rfl) ?_
 refine Ev_pos (by omega) (Ev_neg k0 (Ev_pos k1 (Ev_pos e (Ev_val e1 (Ev_pos rfl (Ev_pos (by omega) (Ev_pos (by omega) (Ev_pos (by omega) ?_))))))))
 rw [wrap_succ (i := j) (by omega)]; exact h1}
 | false => {
 obtain ⟨R, h1, h2⟩ := next a' s' L hl f0 f1
 refine ⟨R, ?_, h2⟩
 refine Ev.step (fun _ => rfl) ?_
 refine Ev_pos (by omega) (Ev_neg k0 (Ev_pos k1 (Ev_pos e (Ev_val e1 (Ev_neg Bool.false_ne_true ?_)))))
 rw [wrap_succ (i := j) (by omega)]; exact h1}}
 · {
 obtain ⟨R, h1, h2⟩ := next a s L hl ha (by omega)
 refine ⟨R, ?_, h2⟩
 refine Ev.step (fun _ => rfl) ?_
 refine Ev_pos (by omega) (Ev_neg k0 (Ev_pos k1 (Ev_neg e ?_)))
 rw [wrap_succ (i := j) (by omega)]; exact h1}}
 · {
 obtain ⟨R, h1, h2⟩ := next a s L hl ha (by omega)
 refine ⟨R, ?_, h2⟩
 refine Ev.step (fun _ => rfl) ?_
 refine Ev_pos (by omega) (Ev_neg k0 (Ev_neg k1 ?_))
 rw [wrap_succ (i := j) (by omega)]; exact h1}}}
theorem order_l1 (c : List Int) (h : BytesOk c) (n : Nat) (hn : n ≤ 10) (kind : Int) (x y : List Int) (hx : x.length = n) (hy : y.length = n) (z A : Int) (hz : 0 ≤ z) (hA : A ≤ 3000000) :
    ∀ (d i : Nat) (a s : Int) (L : List Int), n - i = d → i ≤ n → L.length = n → 0 ≤ a → a + 20 * d ≤ A → ∃ R, Ev (fun k => Y1.l1 k (n : Int) kind x y (i : Int) c a s z L) R ∧ OrdOut n A R := by
 intro d
 induction d with
 | zero => {
 intro i a s L hd hi hl ha hb
 by_cases k0 : kind > 0
 · {
 refine ⟨(z, L, a, s), ?_, hz, by show L.length ≤ n; omega, ha, by show a ≤ A; omega⟩
 refine Ev.step (fun _ => rfl) ?_
 exact Ev_neg (by omega) (Ev_pos k0 (Ev_some rfl))}
 · {
 obtain ⟨R, h1, h2, h3⟩ := close_ok z L hz (by omega)
 refine ⟨(R.1, R.2.1, a, s), ?_, h2, by show R.2.1.length ≤ n; omega, ha, by show a ≤ A; omega⟩
 refine Ev.step (fun _ => rfl) ?_
 exact Ev_neg (by omega) (Ev_neg k0 (Ev.bind h1 (Ev_some rfl)))}}
 | succ d ih => {
 intro i a s L hd hi hl ha hb
 obtain ⟨R, h1, h2⟩ := order_l2 c h n hn kind x y hx hy i (by omega) z A hA _ (20 * (d : Int)) (fun a' s' L' hl' h0 hq' => ih (i + 1) a' s' L' (by omega) (by omega) hl' h0 hq') (by omega) n 0 a s L (by omega) (by omega) hl ha (by omega)
 refine ⟨R, ?_, h2⟩
 refine Ev.step (fun _ => rfl) ?_
 exact Ev_pos (by omega) h1}
theorem order_l0 (c : List Int) (h : BytesOk c) (n : Nat) (hn : n ≤ 10) (kind : Int) (z A : Int) (hz : 0 ≤ z) (hA : A ≤ 3000000) (L : List Int) (hl : L.length = n) :
    ∀ (d i : Nat) (a s : Int) (x y : List Int), n - i = d → i ≤ n → x.length = i → y.length = i → 0 ≤ a → a + 4 * d + 200 ≤ A → ∃ R, Ev (fun k => Y1.l0 k (n : Int) kind x y (i : Int) c a s z L) R ∧ OrdOut n A R := by
 intro d
 induction d with
 | zero => {
 intro i a s x y hd hi hx hy ha hb
 obtain rfl : i = n := by omega
 obtain ⟨R, h1, h2⟩ := order_l1 c h i hn kind x y hx hy z A hz hA i 0 a s L (by omega) (by omega) hl ha (by omega)
 refine ⟨R, ?_, h2⟩
 refine Ev.step (fun _ => rfl) ?_
 exact Ev_neg (by omega) h1}
 | succ d ih => {
 intro i a s x y hd hi hx hy ha hb
 obtain ⟨r, a1, s1, e1, _, _, f0, f1⟩ := pick_ok c h a s 8 ha (by omega) (by decide)
 by_cases k1 : kind = 1
 · {
 obtain ⟨u, a2, s2, e2, _, _, g0, g1⟩ := pick_ok c h a1 s1 4 f0 (by omega) (by decide)
 obtain ⟨R, h1, h2⟩ := ih (i + 1) a2 s2 (x ++ [r]) (y ++ [wrap64 (r + u)]) (by omega) (by omega) (by simp; omega) (by simp; omega) g0 (by omega)
 refine ⟨R, ?_, h2⟩
 refine Ev.step (fun _ => rfl) ?_
 refine Ev_pos (by omega) (Ev_val e1 (Ev_pos (by omega) (Ev_val rfl (Ev_pos k1 (Ev_val e2 (Ev_pos (by omega) ?_))))))
 rw [wrap_succ (by omega)]; exact h1}
 · {
 obtain ⟨R, h1, h2⟩ := ih (i + 1) a1 s1 (x ++ [r]) (y ++ [wrap64 (r + 2)]) (by omega) (by omega) (by simp; omega) (by simp; omega) f0 (by omega)
 refine ⟨R, ?_, h2⟩
 refine Ev.step (fun _ => rfl) ?_
 refine Ev_pos (by omega) (Ev_val e1 (Ev_pos (by omega) (Ev_val rfl (Ev_neg k1 (Ev_pos (by omega) ?_)))))
 rw [wrap_succ (by omega)]; exact h1}}
theorem order_ok (c : List Int) (h : BytesOk c) (m : Nat) (hm : m ≤ 10) (a s : Int) (ha : 0 ≤ a) (hb : a ≤ 1000000) : ∃ R, Ev (fun k => Y1.f k c a s (m : Int)) R ∧ OrdOut 10 (a + 300) R := by
 obtain ⟨r, a1, s1, e1, r0, r1, f0, f1⟩ := pick_ok c h a s ((m : Int) + 1) ha (by omega) (by omega)
 have r1 := r1 (by omega)
 obtain ⟨n, rfl⟩ := Int.eq_ofNat_of_zero_le r0
 obtain ⟨kd, a2, s2, e2, _, _, g0, g1⟩ := pick_ok c h a1 s1 3 f0 (by omega) (by decide)
 obtain ⟨R, h1, h2⟩ := order_l0 c h n (by omega) kd (n : Int) (a + 300) (by omega) (by omega) (List.replicate (n : Int).toNat 0) (by simp) n 0 a2 s2 [] [] (by omega) (by omega) rfl rfl g0 (by omega)
 refine ⟨R, ?_, h2.1, by have := h2.2.1; omega, h2.2.2⟩
 unfold Y1.f
 rw [wrap_small (x := (m : Int) + 1) (by omega) (by omega)]
 exact Ev_val e1 (Ev_pos r0 (Ev_pos (show ((n : Int)).toNat ≤ 35184372088832 by omega) (Ev_val e2 h1)))
theorem relation_l0 (c : List Int) (h : BytesOk c) (n : Nat) (hn : n ≤ 20) (A : Int) (hA : A ≤ 3000000) : ∀ (d : Nat) (L : List Int) (a s : Int), n - L.length = d → L.length ≤ n → 0 ≤ a → a + 40 * d ≤ A → ∃ R, Ev (fun k => Y23.l0 k c a s (n : Int) L) R ∧ OrdOut n A R := by
 intro d
 induction d with
 | zero => {
 intro L a s hd hl ha hb
 refine ⟨((n : Int), L, a, s), ?_, by show (0 : Int) ≤ n; omega, by show L.length ≤ n; omega, ha, by show a ≤ A; omega⟩
 refine Ev.step (fun _ => rfl) ?_
 exact Ev_neg (by omega) (Ev_some rfl)}
 | succ d ih => {
 intro L a s hd hl ha hb
 have e := fun (a' s' v : Int) (h0 : 0 ≤ a') (h1 : a' + 40 * (d : Int) ≤ A) => ih (L ++ [v]) a' s' (by simp; omega) (by simp; omega) h0 h1
 have main : ∀ (d2 j : Nat) (v a s : Int), n - j = d2 → j ≤ n → 0 ≤ a → a + 2 * d2 + 40 * d ≤ A → ∃ R, Ev (fun k => Y23.l1 k v (j : Int) c a s (n : Int) L) R ∧ OrdOut n A R := by {
 intro d2
 induction d2 with
 | zero => {
 intro j v a s hd hj ha hb
 obtain ⟨R, h1, h2⟩ := e a s v ha (by omega)
 refine ⟨R, ?_, h2⟩
 refine Ev.step (fun _ => rfl) ?_
 exact Ev_neg (by omega) (Ev_pos (by omega) h1)}
 | succ d2 ih2 => {
 intro j v a s hd hj ha hb
 obtain ⟨b, a', s', e1, f0, f1⟩ := one_ok c h a s 4 ha (by omega) (by decide)
 cases b with
 | true => {
 obtain ⟨R, h1, h2⟩ := ih2 (j + 1) (Go.bits .or .i64 v (shl .i64 1 (j : Int))) a' s' (by omega) (by omega) f0 (by omega)
 refine ⟨R, ?_, h2⟩
 refine Ev.step (fun _ => rfl) ?_
 refine Ev_pos (by omega) (Ev_val e1 (Ev_pos rfl (Ev_pos (by omega) ?_)))
 rw [wrap_succ (i := j) (by omega)]; exact h1}
 | false => {
 obtain ⟨R, h1, h2⟩ := ih2 (j + 1) v a' s' (by omega) (by omega) f0 (by omega)
 refine ⟨R, ?_, h2⟩
 refine Ev.step (fun _ => rfl) ?_
 refine Ev_pos (by omega) (Ev_val e1 (Ev_neg Bool.false_ne_true ?_))
 rw [wrap_succ (i := j) (by omega)]; exact h1}}}
 obtain ⟨R, h1, h2⟩ := main n 0 0 a s (by omega) (by omega) ha (by omega)
 refine ⟨R, ?_, h2⟩
 refine Ev.step (fun _ => rfl) ?_
 exact Ev_pos (by omega) h1}
theorem relation_ok (c : List Int) (h : BytesOk c) (m : Nat) (hm : m ≤ 10) (a s : Int) (ha : 0 ≤ a) (hb : a ≤ 2000000) : ∃ R, Ev (fun k => Y23.f k c a s (m : Int)) R ∧ OrdOut 10 (a + 500) R := by
 obtain ⟨r, a1, s1, e1, r0, r1, f0, f1⟩ := pick_ok c h a s ((m : Int) + 1) ha (by omega) (by omega)
 have r1 := r1 (by omega)
 obtain ⟨n, rfl⟩ := Int.eq_ofNat_of_zero_le r0
 obtain ⟨R, h1, h2⟩ := relation_l0 c h n (by omega) (a + 500) (by omega) n [] a1 s1 (by simp) (by simp) f0 (by omega)
 refine ⟨R, ?_, h2.1, by have := h2.2.1; omega, h2.2.2⟩
 unfold Y23.f
 rw [wrap_small (x := (m : Int) + 1) (by omega) (by omega)]
 exact Ev_val e1 h1
theorem anyOrder_ok (c : List Int) (h : BytesOk c) (m : Nat) (hm : m ≤ 10) (a s : Int) (ha : 0 ≤ a) (hb : a ≤ 500000) : ∃ R, Ev (fun k => Y37.f k c a s (m : Int)) R ∧ R.2.1.length ≤ 10 ∧ 0 ≤ R.2.2.1 ∧ R.2.2.1 ≤ a + 1000 := by
 obtain ⟨⟨z, L, a1, s1⟩, h1, q1, q2, q3, q4⟩ := order_ok c h m hm a s ha (by omega)
 simp only [] at q1 q2 q3 q4
 obtain ⟨r, a2, s2, e2, _, _, f0, f1⟩ := pick_ok c h a1 s1 14 q3 (by omega) (by decide)
 unfold Y37.f
 by_cases c0 : r = 0
 · {
 obtain ⟨R, g1, g2, g3, g4, g5⟩ := relation_ok c h m hm a2 s2 f0 (by omega)
 refine ⟨(R.1, R.2.1, R.2.2.1, R.2.2.2), ?_, g3, g4, by show R.2.2.1 ≤ _; omega⟩
 exact Ev.bind h1 (Ev_val e2 (Ev_pos c0 (Ev.bind g1 (Ev_some rfl))))}
 · {
 by_cases c1 : r = 1
 · {
 obtain ⟨v, a3, s3, e3, g0, g1⟩ := among_ok c h a2 s2 [-1, 0, 10, 11] (by decide) (by decide) f0 (by omega)
 refine ⟨(v, L, a3, s3), ?_, q2, g0, by show a3 ≤ _; omega⟩
 exact Ev.bind h1 (Ev_val e2 (Ev_neg c0 (Ev_pos c1 (Ev_val e3 (Ev_some rfl)))))}
 · {
 by_cases c2 : r = 2
 · {
 by_cases p : (L.length : Int) > 0
 · {
 obtain ⟨i, a3, s3, e3, i0, i1, g0, g1⟩ := pick_ok c h a2 s2 (L.length : Int) f0 (by omega) (by omega)
 have i1 := i1 (by omega)
 obtain ⟨v, a4, s4, e4, k0, k1⟩ := among_ok c h a3 s3 [-1, 0, 1, shl .i64 1 z] (by simp) (by simp) g0 (by omega)
 refine ⟨(z, L.set i.toNat v, a4, s4), ?_, by show (L.set _ _).length ≤ 10; rw [List.length_set]; exact q2, k0, by show a4 ≤ _; omega⟩
 exact Ev.bind h1 (Ev_val e2 (Ev_neg c0 (Ev_neg c1 (Ev_pos c2 (Ev_pos p (Ev_val e3 (Ev_pos q1 (Ev_val e4 (Ev_pos i0 (Ev_pos i1 (Ev_some rfl)))))))))))}
 · {
 refine ⟨(z, L, a2, s2), ?_, q2, f0, by show a2 ≤ _; omega⟩
 exact Ev.bind h1 (Ev_val e2 (Ev_neg c0 (Ev_neg c1 (Ev_pos c2 (Ev_neg p (Ev_some rfl))))))}}
 · {
 by_cases c3 : r = 3
 · {
 obtain ⟨R, g1, g2, g3, g4, g5⟩ := order_ok c h 10 (by decide) a2 s2 f0 (by omega)
 refine ⟨(R.1, R.2.1, R.2.2.1, R.2.2.2), ?_, g3, g4, by show R.2.2.1 ≤ _; omega⟩
 exact Ev.bind h1 (Ev_val e2 (Ev_neg c0 (Ev_neg c1 (Ev_neg c2 (Ev_pos c3 (Ev.bind g1 (Ev_some rfl)))))))}
 · {
 refine ⟨(z, L, a2, s2), ?_, q2, f0, by show a2 ≤ _; omega⟩
 exact Ev.bind h1 (Ev_val e2 (Ev_neg c0 (Ev_neg c1 (Ev_neg c2 (Ev_neg c3 (Ev_some rfl))))))}}}}
theorem intervals_l1 (c : List Int) (h : BytesOk c) : ∀ (d : Nat) (xs : List S130) (a s : Int), 11 - xs.length = d → xs.length ≤ 11 → 0 ≤ a → a + 2 * d + 2 ≤ 900000 → ∃ R, Ev (fun k => Y18.l1 k xs c a s) R ∧ R.1.length ≤ 11 ∧ 0 ≤ R.2.1 ∧ R.2.1 ≤ a + 2 * d + 2 := by
 intro d
 induction d with
 | zero => {
 intro xs a s hd hl ha hb
 obtain ⟨r, a1, s1, e1, r0, r1, f0, f1⟩ := pick_ok c h a s 2 ha (by omega) (by decide)
 have r1 := r1 (by decide)
 refine ⟨(xs, a1, s1), ?_, hl, f0, by show a1 ≤ _; omega⟩
 refine Ev.step (fun k => by rw [Y18.l1]) ?_
 exact Ev_val e1 (Ev_neg (show ¬ (xs.length : Int) < wrap64 (10 + r) by rw [wrap_small (x := 10 + r) (by omega) (by omega)]; omega) (Ev_some rfl))}
 | succ d ih => {
 intro xs a s hd hl ha hb
 obtain ⟨r, a1, s1, e1, r0, r1, f0, f1⟩ := pick_ok c h a s 2 ha (by omega) (by decide)
 have r1 := r1 (by decide)
 by_cases g : (xs.length : Int) < 10 + r
 · {
 obtain ⟨R, h1, h2, h3, h4⟩ := ih (xs ++ [(⟨wrap64 ((xs.length : Int) / 2), 3⟩ : S130)]) a1 s1 (by simp; omega) (by simp; omega) f0 (by omega)
 refine ⟨R, ?_, h2, h3, by omega⟩
 refine Ev.step (fun k => by rw [Y18.l1]) ?_
 exact Ev_val e1 (Ev_pos (show (xs.length : Int) < wrap64 (10 + r) by rw [wrap_small (x := 10 + r) (by omega) (by omega)]; exact g) (Ev_pos (by omega) h1))}
 · {
 refine ⟨(xs, a1, s1), ?_, hl, f0, by show a1 ≤ _; omega⟩
 refine Ev.step (fun k => by rw [Y18.l1]) ?_
 exact Ev_val e1 (Ev_neg (show ¬ (xs.length : Int) < wrap64 (10 + r) by rw [wrap_small (x := 10 + r) (by omega) (by omega)]; exact g) (Ev_some rfl))}}
theorem intervals_l0 (c : List Int) (h : BytesOk c) : ∀ (n : Nat) (xs : List S130) (a s : Int), xs.length + n ≤ 10 → 0 ≤ a → a + 4 * n + 40 ≤ 900000 → ∃ R, Ev (fun k => Y18.l0 k xs (n : Int) c a s) R ∧ R.1.length ≤ 11 ∧ 0 ≤ R.2.1 ∧ R.2.1 ≤ a + 4 * n + 40 := by
 intro n
 induction n with
 | zero => {
 intro xs a s hl ha hb
 obtain ⟨r, a1, s1, e1, r0, r1, f0, f1⟩ := pick_ok c h a s 14 ha (by omega) (by decide)
 by_cases c0 : r = 0
 · {
 obtain ⟨v, a2, s2, e2, g0, g1⟩ := among_ok c h a1 s1 [-1001, -1000, 1, 1000] (by decide) (by decide) f0 (by omega)
 obtain ⟨u, a3, s3, e3, k0, k1⟩ := among_ok c h a2 s2 [0, 1000, 1001] (by decide) (by decide) g0 (by omega)
 refine ⟨(xs ++ [(⟨v, u⟩ : S130)], a3, s3), ?_, by simp; omega, k0, by show a3 ≤ _; omega⟩
 refine Ev.step (fun k => by rw [Y18.l0]) ?_
 exact Ev_neg (by omega) (Ev_val e1 (Ev_pos c0 (Ev_val e2 (Ev_val e3 (Ev_pos (by omega) (Ev_some rfl))))))}
 · {
 by_cases c1 : r = 1
 · {
 obtain ⟨R, h1, h2, h3, h4⟩ := intervals_l1 c h 11 [] a1 s1 rfl (by simp) f0 (by omega)
 refine ⟨R, ?_, h2, h3, by omega⟩
 refine Ev.step (fun k => by rw [Y18.l0]) ?_
 exact Ev_neg (by omega) (Ev_val e1 (Ev_neg c0 (Ev_pos c1 h1)))}
 · {
 refine ⟨(xs, a1, s1), ?_, by show xs.length ≤ 11; omega, f0, by show a1 ≤ _; omega⟩
 refine Ev.step (fun k => by rw [Y18.l0]) ?_
 exact Ev_neg (by omega) (Ev_val e1 (Ev_neg c0 (Ev_neg c1 (Ev_some rfl))))}}}
 | succ n ih => {
 intro xs a s hl ha hb
 obtain ⟨r, a1, s1, e1, r0, r1, f0, f1⟩ := pick_ok c h a s 8 ha (by omega) (by decide)
 obtain ⟨u, a2, s2, e2, _, _, g0, g1⟩ := pick_ok c h a1 s1 4 f0 (by omega) (by decide)
 obtain ⟨R, h1, h2, h3, h4⟩ := ih (xs ++ [(⟨wrap64 (r - 1), wrap64 (wrap64 (r - 1) + u)⟩ : S130)]) a2 s2 (by simp; omega) g0 (by omega)
 refine ⟨R, ?_, h2, h3, by omega⟩
 refine Ev.step (fun k => by rw [Y18.l0]) ?_
 refine Ev_pos (by omega) (Ev_val e1 (Ev_val e2 (Ev_pos (by omega) ?_)))
 rw [wrap_small (x := ((n + 1 : Nat) : Int) - 1) (by omega) (by omega), show ((n + 1 : Nat) : Int) - 1 = (n : Int) from by omega]
 exact h1}
theorem intervals_ok (c : List Int) (h : BytesOk c) (m : Nat) (hm : m ≤ 10) (a s : Int) (ha : 0 ≤ a) (hb : a ≤ 400000) : ∃ R, Ev (fun k => Y18.f k c a s (m : Int)) R ∧ R.1.length ≤ 11 ∧ 0 ≤ R.2.1 ∧ R.2.1 ≤ a + 100 := by
 obtain ⟨r, a1, s1, e1, r0, r1, f0, f1⟩ := pick_ok c h a s ((m : Int) + 1) ha (by omega) (by omega)
 have r1 := r1 (by omega)
 obtain ⟨n, rfl⟩ := Int.eq_ofNat_of_zero_le r0
 obtain ⟨R, h1, h2, h3, h4⟩ := intervals_l0 c h n [] a1 s1 (by simp; omega) f0 (by omega)
 refine ⟨R, ?_, h2, h3, by omega⟩
 unfold Y18.f
 rw [wrap_small (x := (m : Int) + 1) (by omega) (by omega)]
 exact Ev_val e1 h1
theorem ivGood_any (xs : List S130) (hl : xs.length ≤ 1000) : ∃ b, Ev (fun k => Y34.f k xs) b := by
 unfold Y34.f
 have main : ∀ (d i : Nat), xs.length - i = d → i ≤ xs.length → ∃ b, Ev (fun k => Y34.l0 k xs xs (xs.length : Int) (i : Int)) b := by {
 intro d
 induction d with
 | zero => intro i hd hi; refine ⟨decide ((xs.length : Int) ≤ 10), ?_⟩; exact Ev.step (fun k => by rw [Y34.l0]) (Ev_neg (by omega) (Ev_some rfl))
 | succ d ih => {
 intro i hd hi
 by_cases c : decide (-1000 ≤ (rd_T130 xs (i : Int)).f0 ∧ (rd_T130 xs (i : Int)).f0 ≤ (rd_T130 xs (i : Int)).f1) = true
 · {
 by_cases e : (rd_T130 xs (i : Int)).f1 > 1000
 · {
 refine ⟨false, ?_⟩
 refine Ev.step (fun k => by rw [Y34.l0]) ?_
 exact Ev_pos (by omega) (Ev_pos (by omega) (Ev_pos (by omega) (Ev_val (in_eqO _ _ _) (Ev_pos c (Ev_pos e (Ev_some rfl))))))}
 · {
 obtain ⟨b, h⟩ := ih (i + 1) (by omega) (by omega)
 refine ⟨b, ?_⟩
 refine Ev.step (fun k => by rw [Y34.l0]) ?_
 refine Ev_pos (by omega) (Ev_pos (by omega) (Ev_pos (by omega) (Ev_val (in_eqO _ _ _) (Ev_pos c (Ev_neg e ?_)))))
 rw [wrap_succ (by omega)]; exact h}}
 · {
 refine ⟨false, ?_⟩
 refine Ev.step (fun k => by rw [Y34.l0]) ?_
 exact Ev_pos (by omega) (Ev_pos (by omega) (Ev_pos (by omega) (Ev_val (in_eqO _ _ _) (Ev_neg c (Ev_some rfl)))))}}}
 exact main _ 0 rfl (Nat.zero_le _)
theorem ivOrder_any (xs : List S130) (hs : xs.length ≤ 60) : ∃ R, Ev (fun k => Y14.f k xs) R ∧ R.2.length ≤ xs.length := by
  unfold Y14.f
  have inner : ∀ (i : Nat) (f0 f1 : Int) (X : List Int), i < xs.length → X.length = i → (∀ v, ∃ R, Ev (fun k => Y14.l0 k xs xs (xs.length : Int) ((i + 1 : Nat) : Int) (xs.length : Int) (X ++ [v])) R ∧ R.2.length ≤ xs.length) →
      ∀ (d j : Nat) (v : Int), xs.length - j = d → j ≤ xs.length → ∃ R, Ev (fun k => Y14.l1 k xs v xs (xs.length : Int) (i : Int) xs (xs.length : Int) (j : Int) (xs.length : Int) X f0 f1) R ∧ R.2.length ≤ xs.length := by
    intro i f0 f1 X hi hX hR d
    induction d with
    | zero =>
      intro j v hd hj
      obtain ⟨R, h1, h2⟩ := hR v
      refine ⟨R, ?_, h2⟩
      refine Ev.step (fun k => by rw [Y14.l1]) ?_
      refine Ev_neg (by omega) (Ev_pos (by omega) ?_)
      rw [wrap_succ (by omega)]; exact h1
    | succ d ih =>
      intro j v hd hj
      by_cases c : f1 < (rd_T130 xs (j : Int)).f0
      · obtain ⟨R, h1, h2⟩ := ih (j + 1) (Go.bits .or .i64 v (shl .i64 1 (j : Int))) (by omega) (by omega)
        refine ⟨R, ?_, h2⟩
        refine Ev.step (fun k => by rw [Y14.l1]) ?_
        refine Ev_pos (by omega) (Ev_pos (by omega) (Ev_pos (by omega) (Ev_pos c ?_)))
        rw [wrap_succ (i := j) (by omega)]; exact h1
      · obtain ⟨R, h1, h2⟩ := ih (j + 1) v (by omega) (by omega)
        refine ⟨R, ?_, h2⟩
        refine Ev.step (fun k => by rw [Y14.l1]) ?_
        refine Ev_pos (by omega) (Ev_pos (by omega) (Ev_pos (by omega) (Ev_neg c ?_)))
        rw [wrap_succ (i := j) (by omega)]; exact h1
  have main : ∀ (d i : Nat) (X : List Int), xs.length - i = d → i ≤ xs.length → X.length = i → ∃ R, Ev (fun k => Y14.l0 k xs xs (xs.length : Int) (i : Int) (xs.length : Int) X) R ∧ R.2.length ≤ xs.length := by
    intro d
    induction d with
    | zero =>
      intro i X hd hi hX
      refine ⟨((xs.length : Int), X), ?_, by show X.length ≤ _; omega⟩
      refine Ev.step (fun k => by rw [Y14.l0]) ?_
      exact Ev_neg (by omega) (Ev_some rfl)
    | succ d ih =>
      intro i X hd hi hX
      obtain ⟨R, h1, h2⟩ := inner i _ _ X (by omega) hX (fun v => ih (i + 1) (X ++ [v]) (by omega) (by omega) (by simp; omega)) xs.length 0 0 (by omega) (by omega)
      refine ⟨R, ?_, h2⟩
      refine Ev.step (fun k => by rw [Y14.l0]) ?_
      exact Ev_pos (by omega) (Ev_pos (by omega) (Ev_pos (by omega) h1))
  exact main xs.length 0 [] (by omega) (by omega) rfl
theorem ended_ok (c : List Int) (h : BytesOk c) (m : Nat) (hm : m ≤ 10) (hm2 : 0 ≤ m) (a s : Int) (ha : 0 ≤ a) (hb : a ≤ 400000) : ∃ R, Ev (fun k => Y36.f k c a s (m : Int)) R ∧ R.2.1.length ≤ 11 ∧ 0 ≤ R.2.2.1 ∧ R.2.2.1 ≤ a + 1200 := by
 obtain ⟨I, h1, i1, i2, i3⟩ := intervals_ok c h m hm a s ha hb
 obtain ⟨g, hg⟩ := ivGood_any I.1 (by omega)
 unfold Y36.f
 have hany := fun (a' s' : Int) (h0 : 0 ≤ a') (h1 : a' ≤ a + 110) => anyOrder_ok c h m hm a' s' h0 (by omega)
 cases g with
 | true => {
 obtain ⟨b, a1, s1, e1, f0, f1⟩ := one_ok c h I.2.1 I.2.2 4 i2 (by omega) (by decide)
 cases b with
 | true => {
 obtain ⟨R, q1, q2, q3, q4⟩ := hany a1 s1 f0 (by omega)
 refine ⟨_, Ev.bind h1 (Ev.bind hg (Ev_pos rfl (Ev_val e1 (Ev.step (fun k => by rw [Y36.j0]) (Ev_neg (show ¬ (!true) = true by decide) (Ev.bind q1 (Ev_some rfl))))))), by show R.2.1.length ≤ 11; omega, q3, by show R.2.2.1 ≤ _; omega⟩}
 | false => {
 obtain ⟨V, hv, hvl⟩ := ivOrder_any I.1 (by omega)
 refine ⟨_, Ev.bind h1 (Ev.bind hg (Ev_pos rfl (Ev_val e1 (Ev.step (fun k => by rw [Y36.j0]) (Ev_pos (show (!false) = true by decide) (Ev.bind hv (Ev_some rfl))))))), by show V.2.length ≤ 11; omega, f0, by show a1 ≤ _; omega⟩}}
 | false => {
 obtain ⟨R, q1, q2, q3, q4⟩ := hany I.2.1 I.2.2 i2 (by omega)
 refine ⟨_, Ev.bind h1 (Ev.bind hg (Ev_neg Bool.false_ne_true (Ev.step (fun k => by rw [Y36.j0]) (Ev_neg Bool.false_ne_true (Ev.bind q1 (Ev_some rfl)))))), by show R.2.1.length ≤ 11; omega, q3, by show R.2.2.1 ≤ _; omega⟩}
theorem dual_matO {l : List Int} {m : Nat} {L R : Nat → Nat} (g : Comp l m L R) : dualM (matO m l.length L R) = matO m l.length (fun i => m - 1 - R i) (fun i => m - 1 - L i) := by
 unfold dualM
 rw [show (matO m l.length L R).length = m from matF_length _ _]
 unfold matO
 refine matF_congr _ (fun a ha b hb => ?_)
 rw [matF_en _ _ (by omega) (by omega)]
 exact (cnt_mirror (fun i hi => g.Llt hi) (fun i hi => g.lt i hi) ha hb).symm
theorem Comp.dualled {l : List Int} {m : Nat} {L R : Nat → Nat} (g : Comp l m L R) : matO m (lowL l).length (fun i => m - 1 - R i) (fun i => m - 1 - L i) = dualM (matO m l.length L R) := by
 rw [dual_matO g, lowL_len]
theorem Comp.dual_dual {l : List Int} {m : Nat} {L R : Nat → Nat} (g : Comp l m L R) : dualM (dualM (matO m l.length L R)) = matO m l.length L R := by
 rw [← g.dualled, dual_matO g.mirror, lowL_len]
 have e : ∀ (f h : Nat → Nat), (∀ i, i < l.length → f i = L i) → (∀ i, i < l.length → h i = R i) → matO m l.length f h = matO m l.length L R := by {
 intro f h hf hh
 unfold matO
 refine matF_congr _ (fun a _ b _ => ?_)
 unfold cntM
 exact sumZ_congr (fun i hi => by rw [hf i hi, hh i hi])}
 refine e _ _ (fun i hi => ?_) (fun i hi => ?_)
 · have := g.Llt hi; show m - 1 - (m - 1 - L i) = L i; omega
 · have := g.lt i hi; show m - 1 - (m - 1 - R i) = R i; omega
theorem mirrorOf_ev {l : List Int} (h : Rel l) : Ev (fun k => Y56.f k (l.length : Int) l) ((l.length : Int), lowL l, true) := by
 unfold Y56.f
 exact Ev.bind (isRelation_ev _ l) (Ev_pos (decide_eq_true ⟨rfl, h⟩) (Ev_val (mirror_eq h) (Ev_some rfl)))
theorem dm_yes {l : List Int} {m : Nat} {L R : Nat → Nat} (g : Comp l m L R) : ∃ k0, ∀ k, k0 ≤ k → ∃ (d d2 ot bk : List (List Int)) (zm : Int) (mu rw cl du tu : List Int), Y15.f k (matO m l.length L R) = some (d, true) ∧ Y21.f k (matO m l.length L R) = some (d2, true) ∧ Y56.f k (l.length : Int) l = some (zm, mu, true) ∧ Y43.f k zm mu = some (ot, true) ∧
      Y15.f k d = some (bk, true) ∧ Y50.f k (matO m l.length L R) = some (rw, cl, true) ∧ Y50.f k d = some (du, tu, true) ∧ laws_pSameMatrix.f k d d2 = some true ∧ laws_pSameMatrix.f k d ot = some true ∧ laws_pSameMatrix.f k bk (matO m l.length L R) = some true ∧
      cl.length = rw.length ∧ du.length = rw.length ∧ tu.length = rw.length ∧ rw.length < 2 ^ 31 ∧ ∀ i, i < rw.length → rw.getD i 0 = tu.getD (rw.length - 1 - i) 0 ∧ cl.getD i 0 = du.getD (rw.length - 1 - i) 0 := by
 have h1 := g.isMat
 have hs := matO_small g
 have hg := g.mirror
 have h2 : isMat (dualM (matO m l.length L R)) := by rw [← g.dualled]; exact hg.isMat
 have hs2 : Small (dualM (matO m l.length L R)) := by rw [← g.dualled]; exact matO_small hg
 have hl : (matO m l.length L R).length = m := matF_length _ _
 have hl2 : (dualM (matO m l.length L R)).length = m := by rw [← g.dualled]; exact matF_length _ _
 have hm := g.m_le
 have hn := g.rel.1
 have e1 := implDual_ev _ hs
 rw [if_pos h1] at e1
 have e2 := specDual_ev _ hs
 rw [if_pos h1] at e2
 have e3 := mirrorOf_ev g.rel
 have e4 : Ev (fun k => Y43.f k (l.length : Int) (lowL l)) (dualM (matO m l.length L R), true) := by {
 have hM := hg.matrix
 have hI := hg.ivOrd
 rw [g.dualled, lowL_len] at hM
 rw [lowL_len] at hI
 unfold Y43.f
 exact Ev.bind (isInterval_ev _ _) (Ev_pos (decide_eq_true hI) (Ev.bind hM (Ev_some rfl)))}
 have e5 := implDual_ev _ hs2
 rw [if_pos h2, g.dual_dual] at e5
 have e6 := implRowSums_ev _ hs
 rw [if_pos h1] at e6
 have e7 := implRowSums_ev _ hs2
 rw [if_pos h2] at e7
 obtain ⟨k1, h1⟩ := e1
 obtain ⟨k2, h2⟩ := e2
 obtain ⟨k3, h3⟩ := e3
 obtain ⟨k4, h4⟩ := e4
 obtain ⟨k5, h5⟩ := e5
 obtain ⟨k6, h6⟩ := e6
 obtain ⟨k7, h7⟩ := e7
 obtain ⟨k8, h8⟩ := pSameMatrix_refl _ hs
 obtain ⟨k9, h9⟩ := pSameMatrix_refl _ hs2
 refine ⟨k1 + k2 + k3 + k4 + k5 + k6 + k7 + k8 + k9, fun k hk => ⟨_, _, _, _, _, _, _, _, _, _, h1 k (by omega), h2 k (by omega), h3 k (by omega), h4 k (by omega), h5 k (by omega), h6 k (by omega), h7 k (by omega), h9 k (by omega), h9 k (by omega), h8 k (by omega), ?_, ?_, ?_, ?_, ?_⟩⟩
 · simp [rowsL, colsL]
 · simp only [rowsL, List.length_map, List.length_range, hl, hl2]
 · simp only [rowsL, colsL, List.length_map, List.length_range, hl, hl2]
 · simp only [rowsL, List.length_map, List.length_range, hl]; omega
 · {
 intro i hi
 simp only [rowsL, List.length_map, List.length_range, hl] at hi ⊢
 simp only [colsL, hl, hl2]
 rw [mapR_getD _ _ hi, mapR_getD _ _ hi, mapR_getD _ _ (by omega), mapR_getD _ _ (by omega), g.row hi, g.col hi, ← g.dualled, hg.row (by omega), hg.col (by omega), lowL_len]
 refine ⟨sumZ_congr (fun q hq => ?_), sumZ_congr (fun q hq => ?_)⟩
 · {
 have := g.Llt hq
 show _ = (if m - 1 - L q = m - 1 - i then (1 : Int) else 0)
 by_cases c : L q = i
 · rw [if_pos c, if_pos (by omega)]
 · rw [if_neg c, if_neg (by omega)]}
 · {
 have := g.lt q hq
 show _ = (if m - 1 - R q = m - 1 - i then (1 : Int) else 0)
 by_cases c : R q = i
 · rw [if_pos c, if_pos (by omega)]
 · rw [if_neg c, if_neg (by omega)]}}
theorem FnDualMatrices : laws_FnDualMatrices.Pure := by
 intro c0 c1 _ _ w0 _ _ w1
 by_cases z0 : (c0.length : Int) > 1048576
 · exact ⟨0, .inl (by unfold laws_big.f; rw [if_pos z0])⟩
 have hw : wrap64 (1048576 - (c0.length : Int)) = 1048576 - (c0.length : Int) := wrap_small (by omega) (by omega)
 by_cases z1 : (c1.length : Int) > wrap64 (1048576 - (c0.length : Int))
 · exact ⟨0, .inl (by unfold laws_big.f; rw [if_neg z0, decide_eq_true z1])⟩
 have hbig : laws_big.f c0 c1 = some false := by unfold laws_big.f; rw [if_neg z0, decide_eq_false z1]
 have h0 : BytesOk c0 := ⟨by omega, fun x hx => wf_byte (w0 x hx)⟩
 obtain ⟨S, hS, _⟩ := ended_ok c0 h0 8 (by decide) (Nat.zero_le _) 0 0 (by decide) (by decide)
 have hD : Ev (fun k => Y61.f k c0) (S.1, S.2.1) := Ev.bind hS (Ev_some rfl)
 revert hD
 generalize S.1 = z
 generalize S.2.1 = l
 intro hD
 obtain ⟨k1, d1⟩ := hD
 by_cases c : IvOrd z l
 · {
 obtain ⟨rfl, m, L, R, g⟩ := c.ex
 have hI := c
 have e2 : Ev (fun k => Y43.f k (l.length : Int) l) (matO m l.length L R, true) := by {
 unfold Y43.f
 exact Ev.bind (isInterval_ev _ l) (Ev_pos (decide_eq_true hI) (Ev.bind g.matrix (Ev_some rfl)))}
 have e3 : Ev (fun k => Y52.f k (l.length : Int) l) (matO m l.length L R, true) := by {
 unfold Y52.f
 exact Ev.bind (ivGoodOrder_ev _ l) (Ev_pos (decide_eq_true hI) (Ev.bind g.matrixS (Ev_some rfl)))}
 obtain ⟨k2, d2⟩ := e2
 obtain ⟨k3, d3⟩ := e3
 obtain ⟨k4, d4⟩ := pSameMatrix_refl _ (matO_small g)
 obtain ⟨k5, d5⟩ := dm_yes g
 generalize hK : k1 + k2 + k3 + k4 + k5 = K
 exact ⟨K, .inr ⟨hbig, _, _, _, _, _, d1 K (by omega), d2 K (by omega), d3 K (by omega), d4 K (by omega), fun _ => d5 K (by omega)⟩⟩}
 · {
 have e2 : Ev (fun k => Y43.f k z l) ([], false) := by {
 unfold Y43.f
 exact Ev.bind (isInterval_ev z l) (Ev_neg (by simpa using c) (Ev_some rfl))}
 have e3 : Ev (fun k => Y52.f k z l) ([], false) := by {
 unfold Y52.f
 exact Ev.bind (ivGoodOrder_ev z l) (Ev_neg (by simpa using c) (Ev_some rfl))}
 obtain ⟨k2, d2⟩ := e2
 obtain ⟨k3, d3⟩ := e3
 obtain ⟨k4, d4⟩ := pSameMatrix_refl [] ⟨by simp, by simp⟩
 generalize hK : k1 + k2 + k3 + k4 = K
 exact ⟨K, .inr ⟨hbig, _, _, _, _, _, d1 K (by omega), d2 K (by omega), d3 K (by omega), d4 K (by omega), fun h => absurd h (by simp)⟩⟩}
end Go.Proofs.YtjmmleofnjcjoaaGreatDoor.Pure
