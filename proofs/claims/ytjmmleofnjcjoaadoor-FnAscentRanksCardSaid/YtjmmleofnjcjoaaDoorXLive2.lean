/- Elements put into a row of rows and taken out of it; one thing taken in by another. -/
import Derived.Test.YtjmmleofnjcjoaaDoorXLive
namespace Go.Proofs.YtjmmleofnjcjoaaDoor.Live
open Go.RowKit Go.Proofs.YtjmmleofnjcjoaaDoorW.PrintWords
set_option linter.unusedVariables false
section
variable {α : Type} {d : Kd α} {e base : Nat} {ok : Nat → Prop} {w w1 : World} {v v1 : Value} {xs : List α}
theorem R_open1 (h : d.R e w base ok v xs) (hs : d.sz = 1) : (∀ k, v.ownBlock = some k → ok k) ∧ ∃ inner : List Value, w.ownsRow base e 1 v xs.length inner ∧ inner.length = xs.length ∧ (∀ u ∈ inner, u.oneCell' = true) ∧
    ∀ (j : Nat) (x : α), xs[j]? = some x → ∃ u, inner[j]? = some u ∧ d.M w base (fun k => ok k ∧ some k ≠ v.ownBlock) x [u] := by
  obtain ⟨h0, inner, hown, hr⟩ := h
  rw [hs] at hown hr
  have hl : inner.length = xs.length := by have := hr.1; omega
  have each : ∀ j x, xs[j]? = some x → ∃ u, inner[j]? = some u ∧ d.M w base (fun k => ok k ∧ some k ≠ v.ownBlock) x [u] := fun j x hj => by
    have hM := hr.2 j x hj
    have hjl : j < inner.length := by rw [hl]; exact (List.getElem?_eq_some_iff.1 hj).1
    rw [Nat.mul_one, List.drop_eq_getElem_cons hjl, List.take_succ_cons, List.take_zero] at hM
    exact ⟨inner[j], List.getElem?_eq_getElem hjl, hM⟩
  refine ⟨h0, inner, hown, hl, fun u hu => ?_, each⟩
  obtain ⟨j, hj, rfl⟩ := List.getElem_of_mem hu
  obtain ⟨u, hu', hM⟩ := each j xs[j] (List.getElem?_eq_getElem (by omega))
  rw [List.getElem?_eq_getElem hj] at hu'
  injection hu' with hu'
  rw [hu']
  exact d.K_one (d.K_of_M hM) u (by simp)
theorem R_close1 {inner : List Value} (hs : d.sz = 1) (hown : w.ownsRow base e 1 v xs.length inner) (h0 : ∀ k, v.ownBlock = some k → ok k)
    (h : ∀ (j : Nat) (x : α), xs[j]? = some x → ∃ u, inner[j]? = some u ∧ d.M w base (fun k => ok k ∧ some k ≠ v.ownBlock) x [u]) : d.R e w base ok v xs := by
  have hl : inner.length = xs.length := by have := hown.1; omega
  refine ⟨h0, inner, by rw [hs]; exact hown, by rw [hs]; omega, fun j x hj => ?_⟩
  obtain ⟨u, hu, hM⟩ := h j x hj
  obtain ⟨hjl, rfl⟩ := List.getElem?_eq_some_iff.1 hu
  rw [hs, Nat.mul_one, List.drop_eq_getElem_cons hjl, List.take_succ_cons, List.take_zero]
  exact hM
theorem getElem?_ins {β : Type} (xs : List β) (i j : Nat) (x : β) (hi : i ≤ xs.length) : (xs.insertIdx i x)[j]? = if j < i then xs[j]? else if j = i then some x else xs[j - 1]? := by
  rw [List.getElem?_insertIdx]
  by_cases c : j < i
  · rw [if_pos c, if_pos c]
  · rw [if_neg c, if_neg c]
    by_cases c2 : j = i
    · rw [if_pos c2, if_pos c2, if_pos (by omega)]
    · rw [if_neg c2, if_neg c2]
/-- What a call has made of the row that holds the elements' cells: one put in. -/
theorem S_insert {okx : Nat → Prop} {x : α} {u : Value} {i : Nat} (h : Kd.S d e w base ok v xs) (hs : d.sz = 1) (hi : i ≤ xs.length) (hM : d.M w base okx x [u]) (hd : ∀ k, okx k → ¬ ok k) :
    ∃ inner : List Value, w.ownsRow base e 1 v xs.length inner ∧ (∀ q ∈ inner, q.oneCell' = true) ∧
      ∀ w1 v1, w1.ownsRow base e 1 v1 (xs.length + 1) (inner.insertIdx i u) → w.grownBy w1 v.ownBlock → (v1.ownBlock = v.ownBlock ∨ ∃ b, v1.ownBlock = some b ∧ w.heap.size ≤ b) →
        Kd.S d e w1 base (fun k => ok k ∨ okx k ∨ w.heap.size ≤ k) v1 (xs.insertIdx i x) := by
  obtain ⟨f, hR⟩ := h
  obtain ⟨h0, inner, hown, hl, hone, each⟩ := R_open1 hR (show (Kd.tag f d).sz = 1 from hs)
  rw [List.length_zipIdx] at hown hl
  refine ⟨inner, hown, hone, fun w1 v1 hown1 hg hat => ⟨fun k => open Classical in if okx k then i else if i ≤ f k then f k + 1 else f k, ?_⟩⟩
  have hlen : (xs.insertIdx i x).zipIdx.length = xs.length + 1 := by rw [List.length_zipIdx, List.length_insertIdx, if_pos hi]
  have hb1 : ∀ k, v.ownBlock = some k → k < w.heap.size := fun k hk => Kd.R_lt hR k hk
  have hv1 : ∀ k, k < w.heap.size → some k ≠ v.ownBlock → some k ≠ v1.ownBlock := fun k hk hn he => hat.elim (fun e => hn (he.trans e)) (fun ⟨b, hb, hle⟩ => by rw [hb] at he; injection he with he; omega)
  refine R_close1 (inner := inner.insertIdx i u) (show (Kd.tag _ d).sz = 1 from hs) (by rw [hlen]; exact hown1) (fun k hk => hat.elim (fun e => .inl (h0 k (e ▸ hk))) (fun ⟨b, hb, hle⟩ => by rw [hb] at hk; injection hk with hk; exact .inr (.inr (by omega)))) (fun j p hj => ?_)
  rw [List.getElem?_zipIdx, Nat.zero_add] at hj
  obtain ⟨q, hq, rfl⟩ := Option.map_eq_some_iff.1 hj
  rw [getElem?_ins _ _ _ _ hi] at hq
  rw [getElem?_ins _ _ _ _ (by omega)]
  by_cases c : j < i
  · rw [if_pos c] at hq ⊢
    obtain ⟨y, hy, hMy⟩ := each j (q, j) (Kd.zip_at hq)
    refine ⟨y, hy, ?_⟩
    have hMy' : d.M w base (fun k => (ok k ∧ some k ≠ v.ownBlock) ∧ f k = j) q [y] := hMy
    have h2 := Kd.M_step (w1 := w1) (d.M_bound hMy') (fun k hk hlt => hg.block k hlt hk.1.1.2)
    exact d.M_mono (fun k hk => ⟨⟨.inl hk.1.1.1, hv1 k hk.2.2.1 hk.1.1.2⟩, by simp only []; rw [if_neg (fun hh => hd k hh hk.1.1.1), if_neg (by omega)]; exact hk.1.2⟩) h2
  · rw [if_neg c] at hq ⊢
    by_cases c2 : j = i
    · rw [if_pos c2] at hq ⊢
      injection hq with hq
      subst hq; subst c2
      refine ⟨u, rfl, ?_⟩
      have h2 := Kd.M_step (w1 := w1) (d.M_bound hM) (fun k hk hlt => hg.block k hlt (fun he => hd k hk.1 (h0 k he.symm)))
      exact d.M_mono (fun k hk => ⟨⟨.inr (.inl hk.1), hv1 k hk.2.2.1 (fun he => hd k hk.1 (h0 k he.symm))⟩, by simp only []; rw [if_pos hk.1]⟩) h2
    · rw [if_neg c2] at hq ⊢
      obtain ⟨y, hy, hMy⟩ := each (j - 1) (q, j - 1) (Kd.zip_at hq)
      refine ⟨y, hy, ?_⟩
      have hMy' : d.M w base (fun k => (ok k ∧ some k ≠ v.ownBlock) ∧ f k = j - 1) q [y] := hMy
      have h2 := Kd.M_step (w1 := w1) (d.M_bound hMy') (fun k hk hlt => hg.block k hlt hk.1.1.2)
      exact d.M_mono (fun k hk => ⟨⟨.inl hk.1.1.1, hv1 k hk.2.2.1 hk.1.1.2⟩, by simp only []; rw [if_neg (fun hh => hd k hh hk.1.1.1), if_pos (by omega)]; omega⟩) h2
/-- .. one taken out. -/
theorem S_delete1 {i : Nat} (h : Kd.S d e w base ok v xs) (hs : d.sz = 1) (hi : i < xs.length) :
    ∃ inner : List Value, w.ownsRow base e 1 v xs.length inner ∧ (∀ q ∈ inner, q.oneCell' = true) ∧
      ∀ w1 v1, w1.ownsRow base e 1 v1 (xs.length - 1) (inner.eraseIdx i) → w.grownBy w1 v.ownBlock → v1.ownBlock = v.ownBlock → Kd.S d e w1 base ok v1 (xs.eraseIdx i) := by
  obtain ⟨f, hR⟩ := h
  obtain ⟨h0, inner, hown, hl, hone, each⟩ := R_open1 hR (show (Kd.tag f d).sz = 1 from hs)
  rw [List.length_zipIdx] at hown hl
  refine ⟨inner, hown, hone, fun w1 v1 hown1 hg hat => ?_⟩
  refine Kd.S_erase (f := f) (R_close1 (inner := inner.eraseIdx i) (show (Kd.tag _ d).sz = 1 from hs) (by rw [List.length_eraseIdx, List.length_zipIdx, if_pos hi]; exact hown1) (fun k hk => h0 k (hat ▸ hk)) (fun j p hj => ?_))
  rw [List.getElem?_eraseIdx] at hj ⊢
  have each' : ∀ q, xs.zipIdx[q]? = some p → ∃ u, inner[q]? = some u ∧ (Kd.tag f d).M w1 base (fun k => ok k ∧ some k ≠ v1.ownBlock) p [u] := fun q hq => by
    obtain ⟨y, hy, hMy⟩ := each q p hq
    exact ⟨y, hy, by rw [hat]; exact Kd.M_step (w1 := w1) hMy (fun k hk hlt => hg.block k hlt hk.2)⟩
  split
  · rename_i c; rw [if_pos c] at hj; exact each' _ hj
  · rename_i c; rw [if_neg c] at hj; exact each' _ hj
/-- .. one more at the end, or another value's row in its place: whatever was done to the row's cells alone. -/
theorem R_recell {xs' : List Int} {k : IntKind} {e : Nat} (hown : w1.ownsRow base e 1 v1 xs'.length (xs'.map (Value.int k))) (h0 : ∀ q, v1.ownBlock = some q → ok q) : (Kd.int k).R e w1 base ok v1 xs' := Kd.R_of_own (enc := Value.int k) hown h0
end
section
variable {w0 w w1 : World} {L : List Ob} {o p : Ob} {i l : Nat}
theorem bcell {W w1 : World} (hb : Below W.heap.size W w1) : (∀ b o, b < W.heap.size → w1.cell? ⟨b, o, none⟩ = W.cell? ⟨b, o, none⟩) ∧ (∀ b o, b < W.heap.size → w1.frozen? ⟨b, o, none⟩ = W.frozen? ⟨b, o, none⟩) :=
  ⟨fun b o h => hb.cell (p := ⟨b, o, none⟩) h, fun b o h => hb.frozen (p := ⟨b, o, none⟩) h⟩
theorem Live.swap {a b : Ob} (H : Live w0 w (L ++ [a, b])) : Live w0 w (L ++ [b, a]) := by
  obtain ⟨f, hf⟩ := H.has
  refine ⟨H.below, fun k => if f k = L.length then L.length + 1 else if f k = L.length + 1 then L.length else f k, fun i p hp => ?_⟩
  by_cases c : i < L.length
  · rw [List.getElem?_append_left c] at hp
    exact p.mono (hf i p (by rw [List.getElem?_append_left c]; exact hp)) (fun k hk => by simp only []; rw [if_neg (by omega), if_neg (by omega)]; exact hk)
  · rw [List.getElem?_append_right (by omega)] at hp
    by_cases e : i = L.length
    · subst e
      have : b = p := by simpa using hp
      subst this
      exact b.mono (hf (L.length + 1) b (by rw [List.getElem?_append_right (by omega)]; simp)) (fun k hk => by simp only []; rw [if_neg (by omega), if_pos hk])
    · by_cases e1 : i = L.length + 1
      · subst e1
        have : a = p := by simpa using hp
        subst this
        exact a.mono (hf L.length a (by rw [List.getElem?_append_right (by omega)]; simp)) (fun k hk => by simp only []; rw [if_pos hk])
      · rw [List.getElem?_eq_none (by simp; omega)] at hp; simp at hp
/-! For a region that draws its order: what lies there, told to what follows -/
theorem add_new_k {cs : Array Value} {t : Nat} {ok : Nat → Prop} {G : Prop} (H : Live w0 w L) (hb : Below (w.alloc (.cells cs t)).heap.size (w.alloc (.cells cs t)) w1) (h : o.P w1 (w.alloc (.cells cs t)).heap.size ok) (k : Live w0 w1 (L ++ [var w.heap.size cs t] ++ [o]) → G) : G := k ((H.new cs t).add hb h)
theorem add_newd_k {cs : Array Value} {t : Nat} {ok : Nat → Prop} {G : Prop} (H : Live w0 w L) (hb : Below (w.alloc (.cells cs t)).drew.heap.size (w.alloc (.cells cs t)).drew w1) (h : o.P w1 (w.alloc (.cells cs t)).drew.heap.size ok) (k : Live w0 w1 (L ++ [var w.heap.size cs t] ++ [o]) → G) : G := k ((H.new cs t).drew.add hb h)
theorem add_k {ok : Nat → Prop} {G : Prop} (H : Live w0 w L) (hb : Below w.heap.size w w1) (h : o.P w1 w.heap.size ok) (k : Live w0 w1 (L ++ [o]) → G) : G := k (H.add hb h)
theorem step_new_k {cs : Array Value} {t : Nat} {G : Prop} (H : Live w0 w L) (hb : Below (w.alloc (.cells cs t)).heap.size (w.alloc (.cells cs t)) w1) (k : Live w0 w1 (L ++ [var w.heap.size cs t]) → G) : G := k ((H.new cs t).step hb)
theorem step_newd_k {cs : Array Value} {t : Nat} {G : Prop} (H : Live w0 w L) (hb : Below (w.alloc (.cells cs t)).drew.heap.size (w.alloc (.cells cs t)).drew w1) (k : Live w0 w1 (L ++ [var w.heap.size cs t]) → G) : G := k ((H.new cs t).drew.step hb)
theorem step_k {G : Prop} (H : Live w0 w L) (hb : Below w.heap.size w w1) (k : Live w0 w1 L → G) : G := k (H.step hb)
/-- Two things by themselves, the second to be taken in by the first. -/
theorem Live.lend2 (H : Live w0 w L) (i l : Nat) (hi : L[i]? = some o) (hl : L[l]? = some p) (hne : i ≠ l) :
    ∃ ok okl : Nat → Prop, o.P w w0.heap.size ok ∧ p.P w w0.heap.size okl ∧ (∀ k, okl k → ¬ ok k) ∧ (∀ k, ok k ∨ okl k → w0.heap.size ≤ k ∧ k < w.heap.size) ∧
      ∀ w1 (o' : Ob), Below w0.heap.size w0 w1 → Kept w w1 (fun k => ok k ∨ okl k) → o'.P w1 w0.heap.size (fun k => ok k ∨ okl k ∨ w.heap.size ≤ k) → Live w0 w1 ((L.set i o').set l gone) := by
  obtain ⟨f, hf⟩ := H.has
  have hil : i < L.length := (List.getElem?_eq_some_iff.1 hi).1
  have hll : l < L.length := (List.getElem?_eq_some_iff.1 hl).1
  refine ⟨fun k => f k = i ∧ w0.heap.size ≤ k ∧ k < w.heap.size, fun k => f k = l ∧ w0.heap.size ≤ k ∧ k < w.heap.size, o.bound (hf i o hi), p.bound (hf l p hl), fun k h1 h2 => hne (h2.1.symm.trans h1.1), fun k hk => hk.elim (·.2) (·.2), fun w1 o' hB hk ho' => ?_⟩
  refine ⟨hB, fun k => if w.heap.size ≤ k then i else if f k = l then i else f k, fun j q hq => ?_⟩
  by_cases c1 : j = l
  · subst c1
    rw [List.getElem?_set_self (by rw [List.length_set]; exact hll)] at hq
    have : gone = q := by simpa using hq
    subst this
    trivial
  · rw [List.getElem?_set_ne (by omega)] at hq
    by_cases e : j = i
    · subst e
      rw [List.getElem?_set_self hil] at hq
      have : o' = q := by simpa using hq
      subst this
      refine o'.mono (o'.bound ho') (fun k h => ?_)
      simp only []
      by_cases c : w.heap.size ≤ k
      · rw [if_pos c]
      · rw [if_neg c]
        rcases h.1 with h2 | h2 | h2
        · rw [if_neg (fun h3 => hne (h2.1.symm.trans h3))]; exact h2.1
        · rw [if_pos h2.1]
        · exact absurd h2 c
    · rw [List.getElem?_set_ne (by omega)] at hq
      exact q.mono (q.st (q.bound (hf j q hq)) (fun k h h2 => hk.2 k h2 (fun h3 => h3.elim (fun h4 => e (h.1.symm.trans h4.1)) (fun h4 => c1 (h.1.symm.trans h4.1))))) (fun k h => by
        simp only []
        rw [if_neg (by omega), if_neg (fun h3 => c1 (h.1.symm.trans h3))]; exact h.1)
/-- Element j, a row that holds something: its own block, its cells, and what a store into it leaves. -/
theorem Live.inner {e f g n cap : Nat} {k : IntKind} {m : List (List Int)} (H : Live w0 w L) (i : Nat) (hi : L[i]? = some (rows (Kd.slice f (Kd.int k)) e (.slice (some ⟨g, 0, none⟩) n cap) m)) (j : Nat) (hj : j < m.length) :
    ∃ A c, w.cell? ⟨g, j, none⟩ = some (.slice A (m.getD j []).length c) ∧ w.frozen? ⟨g, j, none⟩ = false ∧ (m.getD j []).length ≤ c ∧ (Kd.int k).C w A (m.getD j []).length (m.getD j []) ∧
      (0 < (m.getD j []).length → ∃ g', A = some ⟨g', 0, none⟩ ∧ w0.heap.size ≤ g' ∧ g' < w.heap.size ∧ ∀ q, q < (m.getD j []).length → w.cell? ⟨g', q, none⟩ = some (.int k ((m.getD j []).getD q 0)) ∧ w.frozen? ⟨g', q, none⟩ = false ∧
        ∀ x, Live w0 (w.setCell ⟨g', q, none⟩ (.int k x)) (L.set i (rows (Kd.slice f (Kd.int k)) e (.slice (some ⟨g, 0, none⟩) n cap) (m.set j ((m.getD j []).set q x))))) := by
  obtain ⟨v, hc, hfz, HT⟩ := H.take i hi j hj
  have hil : i < L.length := (List.getElem?_eq_some_iff.1 hi).1
  have hl1 : (L.set i (hole (Kd.slice f (Kd.int k)) e (.slice (some ⟨g, 0, none⟩) n cap) m j [v]) ++ [row (Kd.int k) f v (m.getD j [])])[L.length]? = some (row (Kd.int k) f v (m.getD j [])) := by
    rw [List.getElem?_append_right (by rw [List.length_set]; omega), List.length_set, Nat.sub_self]; rfl
  have hl2 : (L.set i (hole (Kd.slice f (Kd.int k)) e (.slice (some ⟨g, 0, none⟩) n cap) m j [v]) ++ [row (Kd.int k) f v (m.getD j [])])[i]? = some (hole (Kd.slice f (Kd.int k)) e (.slice (some ⟨g, 0, none⟩) n cap) m j [v]) := by
    rw [List.getElem?_append_left (by rw [List.length_set]; exact hil), List.getElem?_set_self hil]
  obtain ⟨A, c, rfl, hle, hC⟩ := HT.form L.length hl1
  refine ⟨A, c, hc, hfz, hle, hC, fun hp => ?_⟩
  obtain ⟨g', c', e1, h1, h2⟩ := HT.form1 L.length hl1 hp
  injection e1 with ea eb ec
  subst ea
  refine ⟨g', rfl, h1, h2, fun q hq => ?_⟩
  obtain ⟨q1, q2⟩ := HT.cellI L.length hl1 q hq
  refine ⟨q1, q2, fun x => ?_⟩
  have HP := HT.putI L.length hl1 q x
  have HC := HP.close i L.length (by rw [List.getElem?_set_ne (by omega)]; exact hl2) (by rw [List.getElem?_set_self (by simp)]) (by omega)
  have HK := HC.keep L.length
  have e2 : (((((L.set i (hole (Kd.slice f (Kd.int k)) e (.slice (some ⟨g, 0, none⟩) n cap) m j [.slice (some ⟨g', 0, none⟩) (m.getD j []).length c]) ++ [row (Kd.int k) f (.slice (some ⟨g', 0, none⟩) (m.getD j []).length c) (m.getD j [])]).set L.length (row (Kd.int k) f (.slice (some ⟨g', 0, none⟩) (m.getD j []).length c) ((m.getD j []).set q x))).set i (rows (Kd.slice f (Kd.int k)) e (.slice (some ⟨g, 0, none⟩) n cap) (m.set j ((m.getD j []).set q x)))).set L.length gone)).take L.length = L.set i (rows (Kd.slice f (Kd.int k)) e (.slice (some ⟨g, 0, none⟩) n cap) (m.set j ((m.getD j []).set q x))) := by
    apply List.ext_getElem?
    intro t
    rw [List.getElem?_take]
    by_cases ct : t < L.length
    · rw [if_pos ct, List.getElem?_set_ne (by omega)]
      by_cases c3 : t = i
      · subst c3
        rw [List.getElem?_set_self (by simp; omega), List.getElem?_set_self hil]
      · rw [List.getElem?_set_ne (by omega), List.getElem?_set_ne (by omega), List.getElem?_append_left (by rw [List.length_set]; exact ct), List.getElem?_set_ne (by omega), List.getElem?_set_ne (by omega)]
    · rw [if_neg ct, List.getElem?_eq_none (by rw [List.length_set]; omega)]
  rw [e2] at HK
  exact HK
/-- Element j by itself: its block, and what becomes of all when the row there is another one. -/
theorem Live.atRow {e f g n cap : Nat} {k : IntKind} {m : List (List Int)} (H : Live w0 w L) (i : Nat) (hi : L[i]? = some (rows (Kd.slice f (Kd.int k)) e (.slice (some ⟨g, 0, none⟩) n cap) m)) (j : Nat) (hj : j < m.length) (hp : 0 < (m.getD j []).length) :
    ∃ g' c, w.cell? ⟨g, j, none⟩ = some (.slice (some ⟨g', 0, none⟩) (m.getD j []).length c) ∧ (m.getD j []).length ≤ c ∧ w0.heap.size ≤ g' ∧ ∃ L1 : List Ob, Live w0 w L1 ∧ L1[L.length]? = some (row (Kd.int k) f (.slice (some ⟨g', 0, none⟩) (m.getD j []).length c) (m.getD j [])) ∧
      ∀ w1 r, Live w0 w1 (L1.set L.length (row (Kd.int k) f (.slice (some ⟨g', 0, none⟩) (m.getD j []).length c) r)) → Live w0 w1 (L.set i (rows (Kd.slice f (Kd.int k)) e (.slice (some ⟨g, 0, none⟩) n cap) (m.set j r))) := by
  obtain ⟨v, hc, hfz, HT⟩ := H.take i hi j hj
  have hil : i < L.length := (List.getElem?_eq_some_iff.1 hi).1
  have hl1 : (L.set i (hole (Kd.slice f (Kd.int k)) e (.slice (some ⟨g, 0, none⟩) n cap) m j [v]) ++ [row (Kd.int k) f v (m.getD j [])])[L.length]? = some (row (Kd.int k) f v (m.getD j [])) := by
    rw [List.getElem?_append_right (by rw [List.length_set]; omega), List.length_set, Nat.sub_self]; rfl
  have hl2 : (L.set i (hole (Kd.slice f (Kd.int k)) e (.slice (some ⟨g, 0, none⟩) n cap) m j [v]) ++ [row (Kd.int k) f v (m.getD j [])])[i]? = some (hole (Kd.slice f (Kd.int k)) e (.slice (some ⟨g, 0, none⟩) n cap) m j [v]) := by
    rw [List.getElem?_append_left (by rw [List.length_set]; exact hil), List.getElem?_set_self hil]
  obtain ⟨g', c, rfl, h1, _⟩ := HT.form1 L.length hl1 hp
  refine ⟨g', c, hc, (HT.now L.length hl1).2.1, h1, _, HT, hl1, fun w1 r HP => ?_⟩
  have HK := (HP.close i L.length (by rw [List.getElem?_set_ne (by omega)]; exact hl2) (by rw [List.getElem?_set_self (by simp)]) (by omega)).keep L.length
  have e2 : (((((L.set i (hole (Kd.slice f (Kd.int k)) e (.slice (some ⟨g, 0, none⟩) n cap) m j [.slice (some ⟨g', 0, none⟩) (m.getD j []).length c]) ++ [row (Kd.int k) f (.slice (some ⟨g', 0, none⟩) (m.getD j []).length c) (m.getD j [])]).set L.length (row (Kd.int k) f (.slice (some ⟨g', 0, none⟩) (m.getD j []).length c) r)).set i (rows (Kd.slice f (Kd.int k)) e (.slice (some ⟨g, 0, none⟩) n cap) (m.set j r))).set L.length gone)).take L.length = L.set i (rows (Kd.slice f (Kd.int k)) e (.slice (some ⟨g, 0, none⟩) n cap) (m.set j r)) := by
    apply List.ext_getElem?
    intro t
    rw [List.getElem?_take]
    by_cases ct : t < L.length
    · rw [if_pos ct, List.getElem?_set_ne (by omega)]
      by_cases c3 : t = i
      · subst c3
        rw [List.getElem?_set_self (by simp; omega), List.getElem?_set_self hil]
      · rw [List.getElem?_set_ne (by omega), List.getElem?_set_ne (by omega), List.getElem?_append_left (by rw [List.length_set]; exact ct), List.getElem?_set_ne (by omega), List.getElem?_set_ne (by omega)]
    · rw [if_neg ct, List.getElem?_eq_none (by rw [List.length_set]; omega)]
  rw [e2] at HK
  exact HK
/-- Element j's elements q and s, written one behind the other. -/
theorem Live.at3 {e f g n cap : Nat} {k : IntKind} {m : List (List Int)} (H : Live w0 w L) (i : Nat) (hi : L[i]? = some (rows (Kd.slice f (Kd.int k)) e (.slice (some ⟨g, 0, none⟩) n cap) m)) (j q s : Nat) (hj : j < m.length) (hq : q < (m.getD j []).length) (hs : s < (m.getD j []).length) :
    ∃ g' c, w.cell? ⟨g, j, none⟩ = some (.slice (some ⟨g', 0, none⟩) (m.getD j []).length c) ∧ (m.getD j []).length ≤ c ∧ w.cell? ⟨g', q, none⟩ = some (.int k ((m.getD j []).getD q 0)) ∧ w.frozen? ⟨g', q, none⟩ = false ∧ w.cell? ⟨g', s, none⟩ = some (.int k ((m.getD j []).getD s 0)) ∧
      Aside0 (∀ x, (w.setCell ⟨g', q, none⟩ (.int k x)).cell? ⟨g', s, none⟩ = some (.int k (((m.getD j []).set q x).getD s 0)) ∧ (w.setCell ⟨g', q, none⟩ (.int k x)).frozen? ⟨g', s, none⟩ = false ∧
        ∀ y, Live w0 ((w.setCell ⟨g', q, none⟩ (.int k x)).setCell ⟨g', s, none⟩ (.int k y)) (L.set i (rows (Kd.slice f (Kd.int k)) e (.slice (some ⟨g, 0, none⟩) n cap) (m.set j (((m.getD j []).set q x).set s y))))) := by
  obtain ⟨g', c, h1, h2, _, L1, HL, hl, hback⟩ := H.atRow i hi j hj (by omega)
  have hll : L.length < L1.length := (List.getElem?_eq_some_iff.1 hl).1
  obtain ⟨a1, a2⟩ := HL.cellI L.length hl q hq
  obtain ⟨a3, _⟩ := HL.cellI L.length hl s hs
  refine ⟨g', c, h1, h2, a1, a2, a3, ⟨fun x => ?_⟩⟩
  have HP := HL.putI L.length hl q x
  have hl' := List.getElem?_set_self (a := row (Kd.int k) f (.slice (some ⟨g', 0, none⟩) (m.getD j []).length c) ((m.getD j []).set q x)) hll
  obtain ⟨a4, a5⟩ := HP.cellI L.length hl' s (by rw [List.length_set]; exact hs)
  refine ⟨a4, a5, fun y => hback _ _ ?_⟩
  have HP2 := HP.putI L.length hl' s y
  rw [List.set_set] at HP2
  exact HP2
/-- Element j's element q: where it lies, and what a store there leaves. -/
theorem Live.at2 {e f g n cap : Nat} {k : IntKind} {m : List (List Int)} (H : Live w0 w L) (i : Nat) (hi : L[i]? = some (rows (Kd.slice f (Kd.int k)) e (.slice (some ⟨g, 0, none⟩) n cap) m)) (j q : Nat) (hj : j < m.length) (hq : q < (m.getD j []).length) :
    ∃ g' c, w.cell? ⟨g, j, none⟩ = some (.slice (some ⟨g', 0, none⟩) (m.getD j []).length c) ∧ (m.getD j []).length ≤ c ∧ w.cell? ⟨g', q, none⟩ = some (.int k ((m.getD j []).getD q 0)) ∧ w.frozen? ⟨g', q, none⟩ = false ∧
      Aside0 (∀ x, Live w0 (w.setCell ⟨g', q, none⟩ (.int k x)) (L.set i (rows (Kd.slice f (Kd.int k)) e (.slice (some ⟨g, 0, none⟩) n cap) (m.set j ((m.getD j []).set q x))))) := by
  obtain ⟨A, c, h1, _, h2, _, h3⟩ := H.inner i hi j hj
  obtain ⟨g', rfl, _, _, h4⟩ := h3 (by omega)
  obtain ⟨h5, h6, h7⟩ := h4 q hq
  exact ⟨g', c, h1, h2, h5, h6, ⟨h7⟩⟩
theorem map_ins {β γ : Type} (g : β → γ) : ∀ (l : List β) (j : Nat) (x : β), (l.insertIdx j x).map g = (l.map g).insertIdx j (g x)
  | _, 0, _ => rfl
  | [], _ + 1, _ => rfl
  | a :: l, j + 1, x => by simp only [List.insertIdx_succ_cons, List.map_cons]; rw [map_ins g l j x]
theorem map_era {β γ : Type} (g : β → γ) : ∀ (l : List β) (j : Nat), (l.eraseIdx j).map g = (l.map g).eraseIdx j
  | [], _ => rfl
  | _ :: _, 0 => rfl
  | a :: l, j + 1 => by simp only [List.eraseIdx_cons_succ, List.map_cons]; rw [map_era g l j]
/-- A row of numbers, as the cells that it owns, and what becomes of all when a call has made them others. -/
theorem Live.ownOp {e : Nat} {k : IntKind} {v : Value} {m : List Int} (H : Live w0 w L) (i : Nat) (hi : L[i]? = some (row (Kd.int k) e v m)) :
    w.ownsRow w0.heap.size e 1 v m.length (m.map (Value.int k)) ∧ w0.heap.size ≤ w.heap.size ∧ (∀ b, v.ownBlock = some b → b < w.heap.size) ∧
      ∀ w1 v1 (m1 : List Int), w1.ownsRow w0.heap.size e 1 v1 m1.length (m1.map (Value.int k)) → w.grownBy w1 v.ownBlock → (v1.ownBlock = v.ownBlock ∨ ∃ b, v1.ownBlock = some b ∧ w.heap.size ≤ b) →
        Live w0 w1 (L.set i (row (Kd.int k) e v1 m1)) ∧ Below w0.heap.size w0 w1 := by
  obtain ⟨ok, ho, hok, _, hback⟩ := H.lend i hi
  have hown := Kd.own_of_R (enc := Value.int k) ho
  refine ⟨hown, H.below.size, fun b hb => Kd.R_lt ho b hb, fun w1 v1 m1 h1 hg hat => ?_⟩
  have hb : Below w0.heap.size w0 w1 := H.below.grown hg H.below.size (own_base hown)
  refine ⟨hback w1 _ hb (Kept.of_grown hg (Kept.refl w ok) (fun k hk => .inl (ho.1 k hk))) ?_, hb⟩
  exact Kd.R_of_own (enc := Value.int k) h1 (fun q hq => hat.elim (fun e => .inl (ho.1 q (e ▸ hq))) (fun ⟨b, hb, hle⟩ => by rw [hb] at hq; injection hq with hq; exact .inr (by omega)))
theorem Live.insI {e : Nat} {k : IntKind} {v : Value} {m : List Int} (H : Live w0 w L) (i : Nat) (hi : L[i]? = some (row (Kd.int k) e v m)) (j : Nat) (hj : j ≤ m.length) (x : Int) :
    w.ownsRow w0.heap.size e 1 v m.length (m.map (Value.int k)) ∧ w0.heap.size ≤ w.heap.size ∧ (∀ b, v.ownBlock = some b → b < w.heap.size) ∧ (∀ q ∈ m.map (Value.int k), q.oneCell' = true) ∧
      ∀ w1 v1, w1.ownsRow w0.heap.size e 1 v1 (m.length + 1) ((m.map (Value.int k)).insertIdx j (.int k x)) → w.grownBy w1 v.ownBlock → (v1.ownBlock = v.ownBlock ∨ ∃ b, v1.ownBlock = some b ∧ w.heap.size ≤ b) →
        Live w0 w1 (L.set i (row (Kd.int k) e v1 (m.insertIdx j x))) := by
  obtain ⟨h1, h2, h3, h4⟩ := H.ownOp i hi
  refine ⟨h1, h2, h3, fun q hq => by obtain ⟨z, _, rfl⟩ := List.mem_map.1 hq; rfl, fun w1 v1 ho hg hat => (h4 w1 v1 (m.insertIdx j x) ?_ hg hat).1⟩
  rw [List.length_insertIdx, if_pos hj, map_ins]; exact ho
theorem Live.delI {e : Nat} {k : IntKind} {v : Value} {m : List Int} (H : Live w0 w L) (i : Nat) (hi : L[i]? = some (row (Kd.int k) e v m)) (j : Nat) (hj : j < m.length) :
    w.ownsRow w0.heap.size e 1 v m.length (m.map (Value.int k)) ∧ (∀ q ∈ m.map (Value.int k), q.oneCell' = true) ∧
      ∀ w1 v1, w1.ownsRow w0.heap.size e 1 v1 (m.length - 1) ((m.map (Value.int k)).eraseIdx j) → w.grownBy w1 v.ownBlock → v1.ownBlock = v.ownBlock → Live w0 w1 (L.set i (row (Kd.int k) e v1 (m.eraseIdx j))) := by
  obtain ⟨h1, h2, h3, h4⟩ := H.ownOp i hi
  refine ⟨h1, fun q hq => by obtain ⟨z, _, rfl⟩ := List.mem_map.1 hq; rfl, fun w1 v1 ho hg hat => (h4 w1 v1 (m.eraseIdx j) ?_ hg (.inl hat)).1⟩
  rw [List.length_eraseIdx, if_pos hj, map_era]; exact ho
/-- A row put into a row of rows by a call. -/
theorem Live.insertRow {α : Type} {d : Kd α} {e f : Nat} {v u : Value} {m : List (List α)} {x : List α} (H : Live w0 w L) (i l : Nat) (hi : L[i]? = some (rows (Kd.slice f d) e v m)) (hl : L[l]? = some (row d f u x)) (hne : i ≠ l) (j : Nat) (hj : j ≤ m.length) :
    ∃ inner : List Value, w.ownsRow w0.heap.size e 1 v m.length inner ∧ (∀ q ∈ inner, q.oneCell' = true) ∧ w0.heap.size ≤ w.heap.size ∧ (∀ b, v.ownBlock = some b → b < w.heap.size) ∧ 
      ∀ w1 v1, w1.ownsRow w0.heap.size e 1 v1 (m.length + 1) (inner.insertIdx j u) → w.grownBy w1 v.ownBlock → (v1.ownBlock = v.ownBlock ∨ ∃ b, v1.ownBlock = some b ∧ w.heap.size ≤ b) →
        Live w0 w1 ((L.set i (rows (Kd.slice f d) e v1 (m.insertIdx j x))).set l gone) := by
  obtain ⟨ok, okl, ho, hp, hd, hok, hback⟩ := H.lend2 i l hi hl hne
  obtain ⟨inner, hown, hone, hS⟩ := S_insert (x := x) (u := u) (i := j) ho rfl hj ⟨u, rfl, hp⟩ hd
  have h0 : ∀ b, v.ownBlock = some b → ok b := (Kd.S_R ho).1
  refine ⟨inner, hown, hone, H.below.size, fun b hb => Kd.S_lt ho b hb, fun w1 v1 h1 hg hat => ?_⟩
  exact hback w1 _ (H.below.grown hg H.below.size (own_base hown)) (Kept.of_grown hg (Kept.refl w _) (fun k hk => .inl (.inl (h0 k hk)))) (hS w1 v1 h1 hg hat)
/-- .. taken out. -/
theorem Live.deleteRow {α : Type} {d : Kd α} {e f : Nat} {v : Value} {m : List (List α)} (H : Live w0 w L) (i : Nat) (hi : L[i]? = some (rows (Kd.slice f d) e v m)) (j : Nat) (hj : j < m.length) :
    ∃ inner : List Value, w.ownsRow w0.heap.size e 1 v m.length inner ∧ (∀ q ∈ inner, q.oneCell' = true) ∧
      ∀ w1 v1, w1.ownsRow w0.heap.size e 1 v1 (m.length - 1) (inner.eraseIdx j) → w.grownBy w1 v.ownBlock → v1.ownBlock = v.ownBlock → Live w0 w1 (L.set i (rows (Kd.slice f d) e v1 (m.eraseIdx j))) := by
  obtain ⟨ok, ho, hok, _, hback⟩ := H.lend i hi
  obtain ⟨inner, hown, hone, hS⟩ := S_delete1 (i := j) ho rfl hj
  have h0 : ∀ b, v.ownBlock = some b → ok b := (Kd.S_R ho).1
  refine ⟨inner, hown, hone, fun w1 v1 h1 hg hat => ?_⟩
  exact hback w1 _ (H.below.grown hg H.below.size (own_base hown)) (Kept.of_grown hg (Kept.refl w _) (fun k hk => .inl (h0 k hk))) (Kd.S_mono (hS w1 v1 h1 hg hat) (fun _ hk => .inl hk))
end
end Go.Proofs.YtjmmleofnjcjoaaDoor.Live
