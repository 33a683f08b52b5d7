-- Lessened by prune.py, a program of this session (wip/): the words that this claim names; Lean checks it.
/- Elements put into a row of rows and taken out of it; one thing taken in by another. -/
import Derived.Test.YtacdlipojhoilaaZxXLive
namespace Go.Proofs.Ytacdlipojhoilaa.Live
open Go.RowKit Go.Proofs.YtacdlipojhoilaaW.PrintWords
set_option linter.unusedVariables false
section
variable {α : Type} {d : Kd α} {e base : Nat} {ok : Nat → Prop} {w w1 : World} {v v1 : Value} {xs : List α}
end
section
variable {w0 w w1 : World} {L : List Ob} {o p : Ob} {i l : Nat}
theorem add_k {ok : Nat → Prop} {G : Prop} (H : Live w0 w L) (hb : Below w.heap.size w w1) (h : o.P w1 w.heap.size ok) (k : Live w0 w1 (L ++ [o]) → G) : G := k (H.add hb h)
theorem step_k {G : Prop} (H : Live w0 w L) (hb : Below w.heap.size w w1) (k : Live w0 w1 L → G) : G := k (H.step hb)
theorem Live.lend2 (H : Live w0 w L) (i l : Nat) (hi : L[i]? = some o) (hl : L[l]? = some p) (hne : i ≠ l) :
    ∃ ok okl : Nat → Prop, o.P w w0.heap.size ok ∧ p.P w w0.heap.size okl ∧ (∀ k, okl k → ¬ ok k) ∧ (∀ k, ok k ∨ okl k → w0.heap.size ≤ k ∧ k < w.heap.size) ∧
      ∀ w1 (o' : Ob), Below w0.heap.size w0 w1 → Kept w w1 (fun k => ok k ∨ okl k) → o'.P w1 w0.heap.size (fun k => ok k ∨ okl k ∨ w.heap.size ≤ k) → Live w0 w1 ((L.set i o').set l gone) := by
 obtain ⟨f, hf⟩ := H.has
 have hil : i < L.length := (List.getElem?_eq_some_iff.1 hi).1
 have hll : l < L.length := (List.getElem?_eq_some_iff.1 hl).1
 refine ⟨fun k => f k = i ∧ w0.heap.size ≤ k ∧ k < w.heap.size, fun k => f k = l ∧ w0.heap.size ≤ k ∧ k < w.heap.size, o.bound (hf i o hi), p.bound (hf l p hl), fun k h1 h2 => hne (h2.1.symm.trans h1.1), fun k hk => hk.elim (·.2) (·.2), fun w1 o' hB hk ho' => ?_⟩
 refine ⟨hB, fun k => if w.heap.size ≤ k then i else if f k = l then i else f k, fun j q hq => ?_⟩
 by_cases c1 : j = l
 · {
 subst c1
 rw [List.getElem?_set_self (by rw [List.length_set]; exact hll)] at hq
 have : gone = q := by simpa using hq
 subst this
 trivial}
 · {
 rw [List.getElem?_set_ne (by omega)] at hq
 by_cases e : j = i
 · {
 subst e
 rw [List.getElem?_set_self hil] at hq
 have : o' = q := by simpa using hq
 subst this
 refine o'.mono (o'.bound ho') (fun k h => ?_)
 simp only []
 by_cases c : w.heap.size ≤ k
 · rw [if_pos c]
 · {
 rw [if_neg c]
 rcases h.1 with h2 | h2 | h2
 · rw [if_neg (fun h3 => hne (h2.1.symm.trans h3))]; exact h2.1
 · rw [if_pos h2.1]
 · exact absurd h2 c}}
 · {
 rw [List.getElem?_set_ne (by omega)] at hq
 exact q.mono (q.st (q.bound (hf j q hq)) (fun k h h2 => hk.2 k h2 (fun h3 => h3.elim (fun h4 => e (h.1.symm.trans h4.1)) (fun h4 => c1 (h.1.symm.trans h4.1))))) (fun k h => by
  simp only []
  rw [if_neg (by omega), if_neg (fun h3 => c1 (h.1.symm.trans h3))]; exact h.1)}}
theorem Live.inner {e f g n cap : Nat} {k : IntKind} {m : List (List Int)} (H : Live w0 w L) (i : Nat) (hi : L[i]? = some (rows (Kd.slice f (Kd.int k)) e (.slice (some ⟨g, 0, none⟩) n cap) m)) (j : Nat) (hj : j < m.length) :
    ∃ A c, w.cell? ⟨g, j, none⟩ = some (.slice A (m.getD j []).length c) ∧ w.frozen? ⟨g, j, none⟩ = false ∧ (m.getD j []).length ≤ c ∧ (Kd.int k).C w A (m.getD j []).length (m.getD j []) ∧
      (0 < (m.getD j []).length → ∃ g', A = some ⟨g', 0, none⟩ ∧ w0.heap.size ≤ g' ∧ g' < w.heap.size ∧ ∀ q, q < (m.getD j []).length → w.cell? ⟨g', q, none⟩ = some (.int k ((m.getD j []).getD q 0)) ∧ w.frozen? ⟨g', q, none⟩ = false ∧
        ∀ x, Live w0 (w.setCell ⟨g', q, none⟩ (.int k x)) (L.set i (rows (Kd.slice f (Kd.int k)) e (.slice (some ⟨g, 0, none⟩) n cap) (m.set j ((m.getD j []).set q x))))) := by
 obtain ⟨v, hc, hfz, HT⟩ := H.take i hi j hj
 have hil : i < L.length := (List.getElem?_eq_some_iff.1 hi).1
 have hl1 : (L.set i (hole (Kd.slice f (Kd.int k)) e (.slice (some ⟨g, 0, none⟩) n cap) m j [v]) ++ [row (Kd.int k) f v (m.getD j [])])[L.length]? = some (row (Kd.int k) f v (m.getD j [])) := by rw [List.getElem?_append_right (by rw [List.length_set]; omega), List.length_set, Nat.sub_self]; rfl
 have hl2 : (L.set i (hole (Kd.slice f (Kd.int k)) e (.slice (some ⟨g, 0, none⟩) n cap) m j [v]) ++ [row (Kd.int k) f v (m.getD j [])])[i]? = some (hole (Kd.slice f (Kd.int k)) e (.slice (some ⟨g, 0, none⟩) n cap) m j [v]) := by rw [List.getElem?_append_left (by rw [List.length_set]; exact hil), List.getElem?_set_self hil]
 obtain ⟨A, c, rfl, hle, hC⟩ := HT.form L.length hl1
 refine ⟨A, c, hc, hfz, hle, hC, fun hp => ?_⟩
 obtain ⟨g', c', e1, h1, h2⟩ := HT.form1 L.length hl1 hp
 injection e1 with ea eb ec
 subst ea
 refine ⟨g', rfl, h1, h2, fun q hq => ?_⟩
 obtain ⟨q1, q2⟩ := HT.cellI L.length hl1 q hq
 refine ⟨q1, q2, fun x => ?_⟩
 have HP := HT.putI L.length hl1 q x
 have HC := HP.close i L.length (by rw [List.getElem?_set_ne (by omega)]; exact hl2) (by rw [List.getElem?_set_self (by simp)]) (by omega)
 have HK := HC.keep L.length
 have e2 : (((((L.set i (hole (Kd.slice f (Kd.int k)) e (.slice (some ⟨g, 0, none⟩) n cap) m j [.slice (some ⟨g', 0, none⟩) (m.getD j []).length c]) ++ [row (Kd.int k) f (.slice (some ⟨g', 0, none⟩) (m.getD j []).length c) (m.getD j [])]).set L.length (row (Kd.int k) f (.slice (some ⟨g', 0, none⟩) (m.getD j []).length c) ((m.getD j []).set q x))).set i (rows (Kd.slice f (Kd.int k)) e (.slice (some ⟨g, 0, none⟩) n cap) (m.set j ((m.getD j []).set q x)))).set L.length gone)).take L.length = L.set i (rows (Kd.slice f (Kd.int k)) e (.slice (some ⟨g, 0, none⟩) n cap) (m.set j ((m.getD j []).set q x))) := by {
 apply List.ext_getElem?
 intro t
 rw [List.getElem?_take]
 by_cases ct : t < L.length
 · {
 rw [if_pos ct, List.getElem?_set_ne (by omega)]
 by_cases c3 : t = i
 · {
 subst c3
 rw [List.getElem?_set_self (by simp; omega), List.getElem?_set_self hil]}
 · rw [List.getElem?_set_ne (by omega), List.getElem?_set_ne (by omega), List.getElem?_append_left (by rw [List.length_set]; exact ct), List.getElem?_set_ne (by omega), List.getElem?_set_ne (by omega)]}
 · rw [if_neg ct, List.getElem?_eq_none (by rw [List.length_set]; omega)]}
 rw [e2] at HK
 exact HK
theorem Live.atRow {e f g n cap : Nat} {k : IntKind} {m : List (List Int)} (H : Live w0 w L) (i : Nat) (hi : L[i]? = some (rows (Kd.slice f (Kd.int k)) e (.slice (some ⟨g, 0, none⟩) n cap) m)) (j : Nat) (hj : j < m.length) (hp : 0 < (m.getD j []).length) :
    ∃ g' c, w.cell? ⟨g, j, none⟩ = some (.slice (some ⟨g', 0, none⟩) (m.getD j []).length c) ∧ (m.getD j []).length ≤ c ∧ w0.heap.size ≤ g' ∧ ∃ L1 : List Ob, Live w0 w L1 ∧ L1[L.length]? = some (row (Kd.int k) f (.slice (some ⟨g', 0, none⟩) (m.getD j []).length c) (m.getD j [])) ∧
      ∀ w1 r, Live w0 w1 (L1.set L.length (row (Kd.int k) f (.slice (some ⟨g', 0, none⟩) (m.getD j []).length c) r)) → Live w0 w1 (L.set i (rows (Kd.slice f (Kd.int k)) e (.slice (some ⟨g, 0, none⟩) n cap) (m.set j r))) := by
 obtain ⟨v, hc, hfz, HT⟩ := H.take i hi j hj
 have hil : i < L.length := (List.getElem?_eq_some_iff.1 hi).1
 have hl1 : (L.set i (hole (Kd.slice f (Kd.int k)) e (.slice (some ⟨g, 0, none⟩) n cap) m j [v]) ++ [row (Kd.int k) f v (m.getD j [])])[L.length]? = some (row (Kd.int k) f v (m.getD j [])) := by rw [List.getElem?_append_right (by rw [List.length_set]; omega), List.length_set, Nat.sub_self]; rfl
 have hl2 : (L.set i (hole (Kd.slice f (Kd.int k)) e (.slice (some ⟨g, 0, none⟩) n cap) m j [v]) ++ [row (Kd.int k) f v (m.getD j [])])[i]? = some (hole (Kd.slice f (Kd.int k)) e (.slice (some ⟨g, 0, none⟩) n cap) m j [v]) := by rw [List.getElem?_append_left (by rw [List.length_set]; exact hil), List.getElem?_set_self hil]
 obtain ⟨g', c, rfl, h1, _⟩ := HT.form1 L.length hl1 hp
 refine ⟨g', c, hc, (HT.now L.length hl1).2.1, h1, _, HT, hl1, fun w1 r HP => ?_⟩
 have HK := (HP.close i L.length (by rw [List.getElem?_set_ne (by omega)]; exact hl2) (by rw [List.getElem?_set_self (by simp)]) (by omega)).keep L.length
 have e2 : (((((L.set i (hole (Kd.slice f (Kd.int k)) e (.slice (some ⟨g, 0, none⟩) n cap) m j [.slice (some ⟨g', 0, none⟩) (m.getD j []).length c]) ++ [row (Kd.int k) f (.slice (some ⟨g', 0, none⟩) (m.getD j []).length c) (m.getD j [])]).set L.length (row (Kd.int k) f (.slice (some ⟨g', 0, none⟩) (m.getD j []).length c) r)).set i (rows (Kd.slice f (Kd.int k)) e (.slice (some ⟨g, 0, none⟩) n cap) (m.set j r))).set L.length gone)).take L.length = L.set i (rows (Kd.slice f (Kd.int k)) e (.slice (some ⟨g, 0, none⟩) n cap) (m.set j r)) := by {
 apply List.ext_getElem?
 intro t
 rw [List.getElem?_take]
 by_cases ct : t < L.length
 · {
 rw [if_pos ct, List.getElem?_set_ne (by omega)]
 by_cases c3 : t = i
 · {
 subst c3
 rw [List.getElem?_set_self (by simp; omega), List.getElem?_set_self hil]}
 · rw [List.getElem?_set_ne (by omega), List.getElem?_set_ne (by omega), List.getElem?_append_left (by rw [List.length_set]; exact ct), List.getElem?_set_ne (by omega), List.getElem?_set_ne (by omega)]}
 · rw [if_neg ct, List.getElem?_eq_none (by rw [List.length_set]; omega)]}
 rw [e2] at HK
 exact HK
theorem Live.at3 {e f g n cap : Nat} {k : IntKind} {m : List (List Int)} (H : Live w0 w L) (i : Nat) (hi : L[i]? = some (rows (Kd.slice f (Kd.int k)) e (.slice (some ⟨g, 0, none⟩) n cap) m)) (j q s : Nat) (hj : j < m.length) (hq : q < (m.getD j []).length) (hs : s < (m.getD j []).length) :
    ∃ g' c, w.cell? ⟨g, j, none⟩ = some (.slice (some ⟨g', 0, none⟩) (m.getD j []).length c) ∧ (m.getD j []).length ≤ c ∧ w.cell? ⟨g', q, none⟩ = some (.int k ((m.getD j []).getD q 0)) ∧ w.frozen? ⟨g', q, none⟩ = false ∧ w.cell? ⟨g', s, none⟩ = some (.int k ((m.getD j []).getD s 0)) ∧
      Aside0 (∀ x, (w.setCell ⟨g', q, none⟩ (.int k x)).cell? ⟨g', s, none⟩ = some (.int k (((m.getD j []).set q x).getD s 0)) ∧ (w.setCell ⟨g', q, none⟩ (.int k x)).frozen? ⟨g', s, none⟩ = false ∧
        ∀ y, Live w0 ((w.setCell ⟨g', q, none⟩ (.int k x)).setCell ⟨g', s, none⟩ (.int k y)) (L.set i (rows (Kd.slice f (Kd.int k)) e (.slice (some ⟨g, 0, none⟩) n cap) (m.set j (((m.getD j []).set q x).set s y))))) := by
 obtain ⟨g', c, h1, h2, _, L1, HL, hl, hback⟩ := H.atRow i hi j hj (by omega)
 have hll : L.length < L1.length := (List.getElem?_eq_some_iff.1 hl).1
 obtain ⟨a1, a2⟩ := HL.cellI L.length hl q hq
 obtain ⟨a3, _⟩ := HL.cellI L.length hl s hs
 refine ⟨g', c, h1, h2, a1, a2, a3, ⟨fun x => ?_⟩⟩
 have HP := HL.putI L.length hl q x
 have hl' := List.getElem?_set_self (a := row (Kd.int k) f (.slice (some ⟨g', 0, none⟩) (m.getD j []).length c) ((m.getD j []).set q x)) hll
 obtain ⟨a4, a5⟩ := HP.cellI L.length hl' s (by rw [List.length_set]; exact hs)
 refine ⟨a4, a5, fun y => hback _ _ ?_⟩
 have HP2 := HP.putI L.length hl' s y
 rw [List.set_set] at HP2
 exact HP2
theorem Live.at2 {e f g n cap : Nat} {k : IntKind} {m : List (List Int)} (H : Live w0 w L) (i : Nat) (hi : L[i]? = some (rows (Kd.slice f (Kd.int k)) e (.slice (some ⟨g, 0, none⟩) n cap) m)) (j q : Nat) (hj : j < m.length) (hq : q < (m.getD j []).length) :
    ∃ g' c, w.cell? ⟨g, j, none⟩ = some (.slice (some ⟨g', 0, none⟩) (m.getD j []).length c) ∧ (m.getD j []).length ≤ c ∧ w.cell? ⟨g', q, none⟩ = some (.int k ((m.getD j []).getD q 0)) ∧ w.frozen? ⟨g', q, none⟩ = false ∧
      Aside0 (∀ x, Live w0 (w.setCell ⟨g', q, none⟩ (.int k x)) (L.set i (rows (Kd.slice f (Kd.int k)) e (.slice (some ⟨g, 0, none⟩) n cap) (m.set j ((m.getD j []).set q x))))) := by
 obtain ⟨A, c, h1, _, h2, _, h3⟩ := H.inner i hi j hj
 obtain ⟨g', rfl, _, _, h4⟩ := h3 (by omega)
 obtain ⟨h5, h6, h7⟩ := h4 q hq
 exact ⟨g', c, h1, h2, h5, h6, ⟨h7⟩⟩
theorem Live.ownOp {e : Nat} {k : IntKind} {v : Value} {m : List Int} (H : Live w0 w L) (i : Nat) (hi : L[i]? = some (row (Kd.int k) e v m)) :
    w.ownsRow w0.heap.size e 1 v m.length (m.map (Value.int k)) ∧ w0.heap.size ≤ w.heap.size ∧ (∀ b, v.ownBlock = some b → b < w.heap.size) ∧
      ∀ w1 v1 (m1 : List Int), w1.ownsRow w0.heap.size e 1 v1 m1.length (m1.map (Value.int k)) → w.grownBy w1 v.ownBlock → (v1.ownBlock = v.ownBlock ∨ ∃ b, v1.ownBlock = some b ∧ w.heap.size ≤ b) →
        Live w0 w1 (L.set i (row (Kd.int k) e v1 m1)) ∧ Below w0.heap.size w0 w1 := by
 obtain ⟨ok, ho, hok, _, hback⟩ := H.lend i hi
 have hown := Kd.own_of_R (enc := Value.int k) ho
 refine ⟨hown, H.below.size, fun b hb => Kd.R_lt ho b hb, fun w1 v1 m1 h1 hg hat => ?_⟩
 have hb : Below w0.heap.size w0 w1 := H.below.grown hg H.below.size (own_base hown)
 refine ⟨hback w1 _ hb (Kept.of_grown hg (Kept.refl w ok) (fun k hk => .inl (ho.1 k hk))) ?_, hb⟩
 exact Kd.R_of_own (enc := Value.int k) h1 (fun q hq => hat.elim (fun e => .inl (ho.1 q (e ▸ hq))) (fun ⟨b, hb, hle⟩ => by rw [hb] at hq; injection hq with hq; exact .inr (by omega)))
end
end Go.Proofs.Ytacdlipojhoilaa.Live
