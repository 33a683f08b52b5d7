-- Lessened by prune.py, a program of this session (wip/): the words that this claim names; Lean checks it.
/- Elements put into a row of rows and taken out of it; one thing taken in by another. -/
import Derived.Test.YtjmmleofnjcjoaaGreatDoorDuXLive
namespace Go.Proofs.YtjmmleofnjcjoaaGreatDoor.Live
open Go.RowKit Go.Proofs.YtjmmleofnjcjoaaGreatDoorW.PrintWords
set_option linter.unusedVariables false
section
variable {α : Type} {d : Kd α} {e base : Nat} {ok : Nat → Prop} {w w1 : World} {v v1 : Value} {xs : List α}
end
section
variable {w0 w w1 : World} {L : List Ob} {o p : Ob} {i l : Nat}
theorem Live.inner {e f g n cap : Nat} {k : IntKind} {m : List (List Int)} (H : Live w0 w L) (i : Nat) (hi : L[i]? = some (rows (Kd.slice f (Kd.int k)) e (.slice (some ⟨g, 0, none⟩) n cap) m)) (j : Nat) (hj : j < m.length) :
    ∃ A c, w.cell? ⟨g, j, none⟩ = some (.slice A (m.getD j []).length c) ∧ w.frozen? ⟨g, j, none⟩ = false ∧ (m.getD j []).length ≤ c ∧ (Kd.int k).C w A (m.getD j []).length (m.getD j []) ∧
      (0 < (m.getD j []).length → ∃ g', A = some ⟨g', 0, none⟩ ∧ w0.heap.size ≤ g' ∧ g' < w.heap.size ∧ ∀ q, q < (m.getD j []).length → w.cell? ⟨g', q, none⟩ = some (.int k ((m.getD j []).getD q 0)) ∧ w.frozen? ⟨g', q, none⟩ = false ∧
        ∀ x, Live w0 (w.setCell ⟨g', q, none⟩ (.int k x)) (L.set i (rows (Kd.slice f (Kd.int k)) e (.slice (some ⟨g, 0, none⟩) n cap) (m.set j ((m.getD j []).set q x))))) := by
 obtain ⟨v, hc, hfz, HT⟩ := H.take i hi j hj
 have hil : i < L.length := (List.getElem?_eq_some_iff.1 hi).1
 have hl1 : (L.set i (hole (Kd.slice f (Kd.int k)) e (.slice (some ⟨g, 0, none⟩) n cap) m j [v]) ++ [row (Kd.int k) f v (m.getD j [])])[L.length]? = some (row (Kd.int k) f v (m.getD j [])) := by rw [List.getElem?_append_right (by rw [List.length_set]; omega), List.length_set, Nat.sub_self]; rfl
 have hl2 : (L.set i (hole (Kd.slice f (Kd.int k)) e (.slice (some ⟨g, 0, none⟩) n cap) m j [v]) ++ [row (Kd.int k) f v (m.getD j [])])[i]? = some (hole (Kd.slice f (Kd.int k)) e (.slice (some ⟨g, 0, none⟩) n cap) m j [v]) := by rw [List.getElem?_append_left (by rw [List.length_set]; exact hil), List.getElem?_set_self hil]
 obtain ⟨A, c, rfl, hle, hC⟩ := HT.form L.length hl1
 refine ⟨A, c, hc, hfz, hle, hC, fun hp => ?_⟩
 obtain ⟨g', c', e1, h1, h2⟩ := HT.form1 L.length hl1 hp
 injection e1 with ea eb ec
 subst ea
 refine ⟨g', rfl, h1, h2, fun q hq => ?_⟩
 obtain ⟨q1, q2⟩ := HT.cellI L.length hl1 q hq
 refine ⟨q1, q2, fun x => ?_⟩
 have HP := HT.putI L.length hl1 q x
 have HC := HP.close i L.length (by rw [List.getElem?_set_ne (by omega)]; exact hl2) (by rw [List.getElem?_set_self (by simp)]) (by omega)
 have HK := HC.keep L.length
 have e2 : (((((L.set i (hole (Kd.slice f (Kd.int k)) e (.slice (some ⟨g, 0, none⟩) n cap) m j [.slice (some ⟨g', 0, none⟩) (m.getD j []).length c]) ++ [row (Kd.int k) f (.slice (some ⟨g', 0, none⟩) (m.getD j []).length c) (m.getD j [])]).set L.length (row (Kd.int k) f (.slice (some ⟨g', 0, none⟩) (m.getD j []).length c) ((m.getD j []).set q x))).set i (rows (Kd.slice f (Kd.int k)) e (.slice (some ⟨g, 0, none⟩) n cap) (m.set j ((m.getD j []).set q x)))).set L.length gone)).take L.length = L.set i (rows (Kd.slice f (Kd.int k)) e (.slice (some ⟨g, 0, none⟩) n cap) (m.set j ((m.getD j []).set q x))) := by {
 apply List.ext_getElem?
 intro t
 rw [List.getElem?_take]
 by_cases ct : t < L.length
 · {
 rw [if_pos ct, List.getElem?_set_ne (by omega)]
 by_cases c3 : t = i
 · {
 subst c3
 rw [List.getElem?_set_self (by simp; omega), List.getElem?_set_self hil]}
 · rw [List.getElem?_set_ne (by omega), List.getElem?_set_ne (by omega), List.getElem?_append_left (by rw [List.length_set]; exact ct), List.getElem?_set_ne (by omega), List.getElem?_set_ne (by omega)]}
 · rw [if_neg ct, List.getElem?_eq_none (by rw [List.length_set]; omega)]}
 rw [e2] at HK
 exact HK
end
end Go.Proofs.YtjmmleofnjcjoaaGreatDoor.Live
