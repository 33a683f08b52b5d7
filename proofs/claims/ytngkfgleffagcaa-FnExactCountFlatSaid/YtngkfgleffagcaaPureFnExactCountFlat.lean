/- CountFlat of the program and of the reference answer alike, for every number. -/
import Derived.Test.YtngkfgleffagcaaLx3
import Derived.Test.YtngkfgleffagcaaWSized
namespace Go.Proofs.Ytngkfgleffagcaa.PrintWords
open Go.RowKit
/-- The words' theorem, under the name by which the printed row calls it. -/
theorem sized_ints {H : Type} {enc : TypeId × Value → H} {P : Program} {W : World} {base : Nat} {spare : Nat → Bool} {held : Bool} {t e : TypeId} {k : IntKind} {a : Option Addr} {len cap : Nat} {d : DataW H} {ps : List MemPlace} {ts : List TypeId} {ds : List (DataW H)} {j : Nat}
    (g0 : (DataW.weightsEach P ts ds).all (· ≤ reachBytes) = true) (g1 : ts[j]? = some t) (g2 : ds[j]? = some d) (g3 : P.underlying t = some (.slice e)) (g4 : P.underlying e = some (.int k)) (g5 : P.cellsOf e = 1) {B : Nat} (g6 : P.bytesOf e = B)
    (g7 : DataW.Trod enc P W base spare held t (.slice a len cap) d ps) : len * B ≤ 140737488351232 := Go.Proofs.YtngkfgleffagcaaW.PrintWords.sized_ints g0 g1 g2 g3 g4 g5 g6 g7
end Go.Proofs.Ytngkfgleffagcaa.PrintWords
set_option linter.unusedVariables false
namespace Go.Proofs.Ytngkfgleffagcaa.Pure
open Go.RowKit Go.Proofs.Ytngkfgleffagcaa.Lx Go.Proofs.YtngkfgleffagcaaW.PrintWords Go.Proofs.YtngkfgleffagcaaW.PrintLast Go.Proofs.YtngkfgleffagcaaW.PrintMore
section Prelude
theorem Ev_pos {α : Type} {c : Prop} [Decidable c] {f g : Nat → Option α} {r : α} (h : c) (k : Ev f r) : Ev (fun n => if c then f n else g n) r :=
  Ev.congr (fun _ => if_pos h) k
theorem Ev_neg {α : Type} {c : Prop} [Decidable c] {f g : Nat → Option α} {r : α} (h : ¬ c) (k : Ev g r) : Ev (fun n => if c then f n else g n) r :=
  Ev.congr (fun _ => if_neg h) k
theorem Ev_val {α β : Type} {g : Option α} {f : Nat → α → Option β} {a : α} {r : β} (h : g = some a) (k : Ev (fun n => f n a) r) : Ev (fun n => g.bind (f n)) r :=
  Ev.congr (fun _ => by rw [h]; rfl) k
theorem Ev_some {α : Type} {a r : α} (h : a = r) : Ev (fun _ => some a) r := ⟨0, fun _ _ => by rw [h]⟩
theorem Ev_eq {α : Type} {g : Nat → Option α} {a r : α} (h : Ev g a) (e : a = r) : Ev g r := e ▸ h
theorem wrap_small {x : Int} (h0 : -4611686018427387904 ≤ x) (h1 : x ≤ 4611686018427387904) : wrap64 x = x := by unfold wrap64; omega
theorem wrap_succ {i : Nat} (h : i ≤ 4611686018427387900) : wrap64 ((i : Int) + 1) = ((i + 1 : Nat) : Int) := by unfold wrap64; omega
theorem wrap_pred {i : Nat} (h : i ≤ 4611686018427387900) : wrap64 ((i + 1 : Nat) - 1 : Int) = (i : Int) := by unfold wrap64; omega
theorem rd_nat (xs : List Int) (i : Nat) : rd xs (i : Int) = xs.getD i 0 := by simp [rd]
theorem getD_lt {α : Type} (xs : List α) (i : Nat) (z : α) (h : i < xs.length) : xs.getD i z = xs[i] := by simp [List.getD_eq_getElem?_getD, h]
theorem wf_range {x : Int} (h : (Lit.int .i64 x).wf = true) : -9223372036854775808 ≤ x ∧ x ≤ 9223372036854775807 := by
  simp [Lit.wf] at h
  exact h
theorem ext_getD {xs ys : List Int} (hl : xs.length = ys.length) (h : ∀ i, i < xs.length → xs.getD i 0 = ys.getD i 0) : xs = ys := by
  apply List.ext_getElem hl
  intro i h1 h2
  have := h i h1
  rwa [getD_lt _ _ _ h1, getD_lt _ _ _ h2] at this
theorem dec_eq {a b : Prop} [Decidable a] [Decidable b] (h : a ↔ b) : decide a = decide b := by simp [h]
/-- The rounds i, .., n - 1 of a loop. -/
def foldFrom {σ : Type} (n : Nat) (step : σ → Nat → σ) (s : σ) (i : Nat) : σ := (List.range' i (n - i)).foldl step s
theorem foldFrom_lt {σ : Type} {n : Nat} {step : σ → Nat → σ} {s : σ} {i : Nat} (h : i < n) : foldFrom n step s i = foldFrom n step (step s i) (i + 1) := by
  unfold foldFrom
  rw [show n - i = (n - (i + 1)) + 1 from by omega, List.range'_succ, List.foldl_cons]
theorem foldFrom_ge {σ : Type} {n : Nat} {step : σ → Nat → σ} {s : σ} {i : Nat} (h : n ≤ i) : foldFrom n step s i = s := by
  unfold foldFrom
  rw [show n - i = 0 from by omega]; rfl
/-- A loop that counts up to n: what a round does to the state, what holds of it, and what the end makes of it. -/
theorem Ev_for {σ ρ : Type} {l : Nat → σ → Nat → Option ρ} (n : Nat) (step : σ → Nat → σ) (fin : σ → ρ) (Inv : σ → Nat → Prop)
    (hinv : ∀ i s, i < n → Inv s i → Inv (step s i) (i + 1))
    (hstep : ∀ i s, i < n → Inv s i → ∀ r, Ev (fun k => l k (step s i) (i + 1)) r → Ev (fun k => l k s i) r)
    (hend : ∀ s, Inv s n → Ev (fun k => l k s n) (fin s)) :
    ∀ i s, i ≤ n → Inv s i → Ev (fun k => l k s i) (fin (foldFrom n step s i)) ∧ Inv (foldFrom n step s i) n := by
  have main : ∀ d i s, n - i = d → i ≤ n → Inv s i → Ev (fun k => l k s i) (fin (foldFrom n step s i)) ∧ Inv (foldFrom n step s i) n := by
    intro d
    induction d with
    | zero =>
      intro i s hd hi h
      obtain rfl : i = n := by omega
      rw [foldFrom_ge (Nat.le_refl _)]
      exact ⟨hend s h, h⟩
    | succ d ih =>
      intro i s hd hi h
      rw [foldFrom_lt (by omega)]
      obtain ⟨h1, h2⟩ := ih (i + 1) (step s i) (by omega) (by omega) (hinv i s (by omega) h)
      exact ⟨hstep i s (by omega) h _ h1, h2⟩
  exact fun i s hi h => main _ i s rfl hi h
/-- A loop that asks each round, and ends with 'no' at the first round that says no. -/
theorem Ev_all (l : Nat → Nat → Option Bool) (n : Nat) (P : Nat → Bool) (r : Bool)
    (hgo : ∀ i, i < n → (∀ j, j < i → P j = true) → P i = true → ∀ q, Ev (fun k => l k (i + 1)) q → Ev (fun k => l k i) q)
    (hno : ∀ i, i < n → (∀ j, j < i → P j = true) → P i = false → Ev (fun k => l k i) false)
    (hend : (∀ j, j < n → P j = true) → Ev (fun k => l k n) r) : Ev (fun k => l k 0) (decide (∀ j, j < n → P j = true) && r) := by
  have main : ∀ d i, n - i = d → i ≤ n → (∀ j, j < i → P j = true) → Ev (fun k => l k i) (decide (∀ j, j < n → P j = true) && r) := by
    intro d
    induction d with
    | zero =>
      intro i hd hi h
      obtain rfl : i = n := by omega
      rw [decide_eq_true h, Bool.true_and]
      exact hend h
    | succ d ih =>
      intro i hd hi h
      by_cases c : P i = true
      · refine hgo i (by omega) h c _ (ih (i + 1) (by omega) (by omega) (fun j hj => ?_))
        by_cases e : j = i
        · rw [e]; exact c
        · exact h j (by omega)
      · refine Ev_eq (hno i (by omega) h (by simpa using c)) ?_
        rw [decide_eq_false (fun hh => c (hh i (by omega))), Bool.false_and]
  exact main _ 0 rfl (by omega) (fun j hj => by omega)
end Prelude
def flT : Nat → List (List Int)
  | 0 => List.replicate 14 (List.replicate 15 1)
  | m + 1 => (List.range 14).map fun (a : Nat) => (List.range 15).map fun (l : Nat) => Memo.psum (fun k => Memo.fl ((k : Int) = (l : Int) - 1) (((flT m).getD (Memo.nxt ((l : Int) - 1) (a : Int) (k : Int)).toNat []).getD (k + 1) 0)) (Memo.top ((l : Int) - 1) (a : Int) + 1).toNat
theorem psum_congr (f g : Nat → Int) : ∀ n : Nat, (∀ k, k < n → f k = g k) → Memo.psum f n = Memo.psum g n
  | 0, _ => rfl
  | n + 1, h => by
    show Memo.psum f n + f n = Memo.psum g n + g n
    rw [psum_congr f g n (fun k hk => h k (by omega)), h n (by omega)]
theorem flT_eq : ∀ (m a l : Nat), a + m < 14 → l < 15 → ((flT m).getD a []).getD l 0 = Memo.Fl m ((l : Int) - 1) (a : Int)
  | 0, a, l, ha, hl => by
    have ha : a < 14 := by omega
    show ((List.replicate 14 (List.replicate 15 (1 : Int))).getD a []).getD l 0 = 1
    rw [List.getD_eq_getElem?_getD, List.getD_eq_getElem?_getD, List.getElem?_replicate, if_pos ha, Option.getD_some, List.getElem?_replicate, if_pos hl]
    rfl
  | m + 1, a, l, ha, hl => by
    have ha1 : a < 14 := by omega
    have e : ((flT (m + 1)).getD a []).getD l 0 = Memo.psum (fun k => Memo.fl ((k : Int) = (l : Int) - 1) (((flT m).getD (Memo.nxt ((l : Int) - 1) (a : Int) (k : Int)).toNat []).getD (k + 1) 0)) (Memo.top ((l : Int) - 1) (a : Int) + 1).toNat := by
      simp [flT, List.getD_eq_getElem?_getD, ha1, hl]
    rw [e]
    show _ = Memo.psum (fun k => Memo.fl ((k : Int) = (l : Int) - 1) (Memo.Fl m (k : Int) (Memo.nxt ((l : Int) - 1) (a : Int) (k : Int)))) (Memo.top ((l : Int) - 1) (a : Int) + 1).toNat
    apply psum_congr
    intro k hk
    have ht := Memo.top_le ((l : Int) - 1) (a : Int) (by omega)
    have hn := Memo.nxt_le ((l : Int) - 1) (a : Int) (k : Int)
    show Memo.fl _ _ = Memo.fl _ _
    rw [flT_eq m _ (k + 1) (by omega) (by omega)]
    rw [show (((Memo.nxt ((l : Int) - 1) (a : Int) (k : Int)).toNat : Nat) : Int) = Memo.nxt ((l : Int) - 1) (a : Int) (k : Int) from by omega, show ((k + 1 : Nat) : Int) - 1 = (k : Int) from by omega]
set_option maxRecDepth 100000 in
theorem tableF : (List.range 13).all (fun n => spec_CountFlat.f 150 (n : Int) == some (((flT n).getD 0 []).getD 0 0, true)) = true := by decide +kernel
theorem FnExactCountFlat : Lx.laws_FnExactCountFlat.Pure := by
  intro z _
  by_cases c : 0 ≤ z ∧ z ≤ 12
  · obtain ⟨n, rfl⟩ : ∃ n : Nat, z = (n : Int) := ⟨z.toNat, by omega⟩
    have h := List.all_eq_true.1 tableF n (List.mem_range.2 (by omega))
    have h1 : spec_CountFlat.f 150 (n : Int) = some (((flT n).getD 0 []).getD 0 0, true) := by simpa using h
    have h2 : impl_CountFlat.f (n : Int) = some (Memo.Fl n (-1) 0, true) := by
      show Memo.flatC (n : Int) = _
      unfold Memo.flatC
      rw [if_pos c, Int.toNat_natCast]
    have h3 := flT_eq n 0 0 (by omega) (by omega)
    refine ⟨150, ?_⟩
    unfold laws_FnExactCountFlat.f
    rw [h1, h2, h3]
    simp
  · have h2 : impl_CountFlat.f z = some (0, false) := by
      show Memo.flatC z = _
      unfold Memo.flatC
      rw [if_neg c]
    have h1 : spec_CountFlat.f 150 z = some (0, false) := by
      unfold spec_CountFlat.f spec_l1In.f
      by_cases d : z ≥ 0
      · rw [if_pos d, show decide (z ≤ 12) = false from decide_eq_false (by omega)]; rfl
      · rw [if_neg d]; rfl
    refine ⟨150, ?_⟩
    unfold laws_FnExactCountFlat.f
    rw [h1, h2]
    rfl
end Go.Proofs.Ytngkfgleffagcaa.Pure
