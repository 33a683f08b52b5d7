/- Rows of rows of rows that all lie apart. -/
import Derived.Test.YtjmmleofnjcjoaaDoorXLive2
namespace Go.Proofs.YtjmmleofnjcjoaaDoor.Live
open Go.RowKit Go.Proofs.YtjmmleofnjcjoaaDoorW.PrintWords
set_option linter.unusedVariables false
/-- Rows whose own rows lie apart. -/
def sl {α : Type} (e : Nat) (d : Kd α) : Kd (List α) where
  sz := 1
  E := e :: d.E
  K := (Kd.slice e d).K
  M := fun w base ok xs cs => ∃ v, cs = [v] ∧ Kd.S d e w base ok v xs
  K_len := (Kd.slice e d).K_len
  K_one := (Kd.slice e d).K_one
  K_below := (Kd.slice e d).K_below
  K_of_M := by
    rintro w base ok x cs ⟨v, rfl, h⟩
    exact (Kd.slice e d).K_of_M ⟨v, rfl, Kd.S_R h⟩
  M_mono := by
    rintro w base ok ok' x cs hok ⟨v, rfl, h⟩
    exact ⟨v, rfl, Kd.S_mono h hok⟩
  M_bound := by
    rintro w base ok x cs ⟨v, rfl, h⟩
    exact ⟨v, rfl, Kd.S_bound h⟩
  M_move := by
    rintro w w1 base ok x cs hm ⟨v, rfl, h⟩
    exact ⟨v, rfl, Kd.S_move h hm⟩
  M_lower := by
    rintro w base base' ok x cs hb ⟨v, rfl, h⟩
    exact ⟨v, rfl, Kd.S_lower h hb⟩
/-- Element i of a row of rows that is read. -/
theorem C_row {α : Type} {d : Kd α} {e n : Nat} {A : Option Addr} {xs : List (List α)} {w : World} (h : Kd.C (Kd.slice e d) w A n xs) (i : Nat) (hi : i < n) :
    ∃ ad A0 c0, A = some ad ∧ w.cell? (ad.add i) = some (.slice A0 (xs.getD i []).length c0) ∧ (xs.getD i []).length ≤ c0 ∧ d.C w A0 (xs.getD i []).length (xs.getD i []) := by
  obtain ⟨ad, c, e, _, hK, hc0⟩ := Kd.C_get h ([] : List α) (i : Int) (by omega) (by omega)
  rw [Int.toNat_natCast] at hK hc0
  have hc : ∀ j u, c[j]? = some u → w.cell? (ad.add (i * 1 + j)) = some u := hc0
  obtain ⟨A0, c0, rfl, l0, g0⟩ := hK
  exact ⟨ad, A0, c0, e, by have hq := hc 0 _ rfl; rwa [Nat.mul_one, Nat.add_zero] at hq, l0, g0⟩
theorem C_num {k : IntKind} {n : Nat} {A : Option Addr} {xs : List Int} {w : World} (h : Kd.C (Kd.int k) w A n xs) (i : Nat) (hi : i < n) :
    ∃ ad, A = some ad ∧ w.cell? (ad.add i) = some (.int k (xs.getD i 0)) := by
  obtain ⟨ad, c, e, _, hK, hc0⟩ := Kd.C_get h (0 : Int) (i : Int) (by omega) (by omega)
  rw [Int.toNat_natCast] at hK hc0
  have hc : ∀ j u, c[j]? = some u → w.cell? (ad.add (i * 1 + j)) = some u := hc0
  refine ⟨ad, e, ?_⟩
  have hk : c = [.int k (xs.getD i 0)] := hK
  have hq := hc 0 _ (by rw [hk]; rfl)
  rwa [Nat.mul_one, Nat.add_zero] at hq
section
variable {w0 w w1 : World} {L : List Ob} {o p : Ob} {i l : Nat}
/-- Element j taken out. -/
theorem Live.takeS {α : Type} {d : Kd α} {e f g n cap : Nat} {m : List (List α)} (H : Live w0 w L) (i : Nat) (hi : L[i]? = some (rows (sl f d) e (.slice (some ⟨g, 0, none⟩) n cap) m)) (j : Nat) (hj : j < m.length) :
    ∃ v, w.cell? ⟨g, j, none⟩ = some v ∧ w.frozen? ⟨g, j, none⟩ = false ∧ Live w0 w (L.set i (hole (sl f d) e (.slice (some ⟨g, 0, none⟩) n cap) m j [v]) ++ [rows d f v (m.getD j [])]) := by
  obtain ⟨fo, hf⟩ := H.has
  have hS := hf i _ hi
  have hil : i < L.length := (List.getElem?_eq_some_iff.1 hi).1
  have hn := (Kd.S_reads' hS).1
  obtain ⟨oki, c, hcl, hM, hcc, hfr, hoki, hH⟩ := Kd.S_elem hS [] (j : Int) (by omega) (by omega)
  obtain ⟨v, rfl, hR⟩ := hM
  rw [Int.toNat_natCast] at hR
  have hcell := hcc 0 v rfl
  have hfr0 := hfr 0
  simp only [show (sl f d).sz = 1 from rfl, Nat.mul_one, Nat.add_zero, Int.toNat_natCast] at hcell hfr0
  refine ⟨v, hcell, hfr0, H.below, fun k => open Classical in if oki k then L.length else fo k, fun q o hq => ?_⟩
  by_cases c1 : q < L.length
  · rw [List.getElem?_append_left (by rw [List.length_set]; exact c1)] at hq
    by_cases c2 : q = i
    · subst c2
      rw [List.getElem?_set_self hil] at hq
      have : hole (sl f d) e (.slice (some ⟨g, 0, none⟩) n cap) m j [v] = o := by simpa using hq
      subst this
      exact Ob.mono _ (H_hole hH) (fun k hk => by simp only []; rw [if_neg hk.2]; exact hk.1)
    · rw [List.getElem?_set_ne (by omega)] at hq
      exact o.mono (hf q o hq) (fun k hk => by simp only []; rw [if_neg (fun h => c2 (hk.symm.trans (hoki k h).1))]; exact hk)
  · rw [List.getElem?_append_right (by rw [List.length_set]; omega), List.length_set] at hq
    have e : q - L.length = 0 := by
      apply Classical.byContradiction; intro hne
      rw [List.getElem?_eq_none (by simp; omega)] at hq; simp at hq
    rw [e] at hq
    have : rows d f v (m.getD j []) = o := by simpa using hq
    subst this
    exact Kd.S_mono hR (fun k hk => by simp only []; rw [if_pos hk]; omega)
/-- What lies by itself put into the hole, whose cell is its value. -/
theorem Live.closeS {α : Type} {d : Kd α} {e f g n cap j : Nat} {m : List (List α)} {x : List α} {v : Value} (H : Live w0 w L) (i l : Nat) (hi : L[i]? = some (hole (sl f d) e (.slice (some ⟨g, 0, none⟩) n cap) m j [v])) (hl : L[l]? = some (rows d f v x)) (hne : i ≠ l) :
    Live w0 w ((L.set i (rows (sl f d) e (.slice (some ⟨g, 0, none⟩) n cap) (m.set j x))).set l gone) := by
  obtain ⟨fo, hf⟩ := H.has
  have hil : i < L.length := (List.getElem?_eq_some_iff.1 hi).1
  have hll : l < L.length := (List.getElem?_eq_some_iff.1 hl).1
  have hH := hole_H (hf i _ hi) (okj := fun k => fo k = l) (fun k h1 h2 => hne (h1.symm.trans h2))
  have hS := Kd.H_back hH (x' := x) (okp := fun k => fo k = l) ⟨v, rfl, hf l _ hl⟩ (fun _ hk => hk)
  rw [Int.toNat_natCast] at hS
  refine ⟨H.below, fun k => if fo k = l then i else fo k, fun q o hq => ?_⟩
  by_cases c1 : q = l
  · subst c1
    rw [List.getElem?_set_self (by rw [List.length_set]; exact hll)] at hq
    have : gone = o := by simpa using hq
    subst this
    trivial
  · rw [List.getElem?_set_ne (by omega)] at hq
    by_cases c2 : q = i
    · subst c2
      rw [List.getElem?_set_self hil] at hq
      have : rows (sl f d) e (.slice (some ⟨g, 0, none⟩) n cap) (m.set j x) = o := by simpa using hq
      subst this
      exact Kd.S_mono hS (fun k hk => by
                                                   simp only []
                                                   by_cases c : fo k = l
                                                   · rw [if_pos c]
                                                   · rw [if_neg c]; exact hk.resolve_right c)
    · rw [List.getElem?_set_ne (by omega)] at hq
      exact o.mono (hf q o hq) (fun k hk => by simp only []; rw [if_neg (fun h => c1 (hk.symm.trans h))]; exact hk)
/-- List (a, b) of a row of rows of lists: its value, and what all becomes when it alone is written or grows and its value is put back. -/
theorem Live.cubeAt {e f f2 g n cap : Nat} {k : IntKind} {m : List (List (List Int))} (H : Live w0 w L) (i : Nat) (hi : L[i]? = some (rows (sl f (Kd.slice f2 (Kd.int k))) e (.slice (some ⟨g, 0, none⟩) n cap) m)) (a b : Nat) (ha : a < m.length) (hb : b < (m.getD a []).length) :
    ∃ ga ca v, w.cell? ⟨g, a, none⟩ = some (.slice (some ⟨ga, 0, none⟩) (m.getD a []).length ca) ∧ w.cell? ⟨ga, b, none⟩ = some v ∧ w.frozen? ⟨ga, b, none⟩ = false ∧ w0.heap.size ≤ w.heap.size ∧ w0.heap.size ≤ ga ∧ ga < w.heap.size ∧
      w.ownsRow w0.heap.size f2 1 v ((m.getD a []).getD b []).length (((m.getD a []).getD b []).map (Value.int k)) ∧ some ga ≠ v.ownBlock ∧ some g ≠ v.ownBlock ∧ 
      ∀ w1 v1 (m1 : List Int), w1.ownsRow w0.heap.size f2 1 v1 m1.length (m1.map (Value.int k)) → w.grownBy w1 v.ownBlock → (v1.ownBlock = v.ownBlock ∨ ∃ q, v1.ownBlock = some q ∧ w.heap.size ≤ q) →
        Live w0 (w1.setCell ⟨ga, b, none⟩ v1) (L.set i (rows (sl f (Kd.slice f2 (Kd.int k))) e (.slice (some ⟨g, 0, none⟩) n cap) (m.set a ((m.getD a []).set b m1)))) := by
  obtain ⟨va, hca, _, H1⟩ := H.takeS i hi a ha
  have hil : i < L.length := (List.getElem?_eq_some_iff.1 hi).1
  obtain ⟨L1, hL1⟩ : ∃ L1, L1 = L.set i (hole (sl f (Kd.slice f2 (Kd.int k))) e (.slice (some ⟨g, 0, none⟩) n cap) m a [va]) := ⟨_, rfl⟩
  have hlen : L1.length = L.length := by rw [hL1, List.length_set]
  rw [← hL1] at H1
  have h1 : (L1 ++ [rows (Kd.slice f2 (Kd.int k)) f va (m.getD a [])])[L.length]? = some (rows (Kd.slice f2 (Kd.int k)) f va (m.getD a [])) := by
    rw [List.getElem?_append_right (by omega), hlen, Nat.sub_self]; rfl
  obtain ⟨ga, ca, rfl, g1, g2⟩ := H1.forms1 L.length h1 (by omega)
  obtain ⟨v, hcv, hfv, H2⟩ := H1.take L.length h1 b hb
  have e2 : (L1 ++ [rows (Kd.slice f2 (Kd.int k)) f (.slice (some ⟨ga, 0, none⟩) (m.getD a []).length ca) (m.getD a [])]).set L.length (hole (Kd.slice f2 (Kd.int k)) f (.slice (some ⟨ga, 0, none⟩) (m.getD a []).length ca) (m.getD a []) b [v]) ++ [row (Kd.int k) f2 v ((m.getD a []).getD b [])] = L1 ++ [hole (Kd.slice f2 (Kd.int k)) f (.slice (some ⟨ga, 0, none⟩) (m.getD a []).length ca) (m.getD a []) b [v], row (Kd.int k) f2 v ((m.getD a []).getD b [])] := by
    rw [List.set_append_right _ _ (by omega), hlen, Nat.sub_self]; simp
  rw [e2] at H2
  have at1 : ∀ x y : Ob, (L1 ++ [x, y])[L.length]? = some x := fun x y => by rw [List.getElem?_append_right (by omega), hlen, Nat.sub_self]; rfl
  have at2 : ∀ x y : Ob, (L1 ++ [x, y])[L.length + 1]? = some y := fun x y => by rw [List.getElem?_append_right (by omega), hlen, Nat.add_sub_cancel_left]; rfl
  have set1 : ∀ x y z : Ob, (L1 ++ [x, y]).set L.length z = L1 ++ [z, y] := fun x y z => by rw [List.set_append_right _ _ (by omega), hlen, Nat.sub_self]; rfl
  have set2 : ∀ x y z : Ob, (L1 ++ [x, y]).set (L.length + 1) z = L1 ++ [x, z] := fun x y z => by rw [List.set_append_right _ _ (by omega), hlen, Nat.add_sub_cancel_left]; rfl
  obtain ⟨q1, q2, q3, q4⟩ := H2.ownOp (L.length + 1) (at2 _ _)
  have hne : some ga ≠ v.ownBlock := by
    obtain ⟨fo, hf⟩ := H2.has
    have x1 := hf L.length _ (at1 _ _)
    have x2 := hf (L.length + 1) _ (at2 _ _)
    obtain ⟨f', hR⟩ := x1
    intro hh
    have := hR.1 ga rfl
    have := x2.1 ga hh.symm
    simp only [] at *
    omega
  have hne2 : some g ≠ v.ownBlock := by
    obtain ⟨fo, hf⟩ := H2.has
    have x1 := hf i _ (show (L1 ++ [hole (Kd.slice f2 (Kd.int k)) f (.slice (some ⟨ga, 0, none⟩) (m.getD a []).length ca) (m.getD a []) b [v], row (Kd.int k) f2 v ((m.getD a []).getD b [])])[i]? = some (hole (sl f (Kd.slice f2 (Kd.int k))) e (.slice (some ⟨g, 0, none⟩) n cap) m a [.slice (some ⟨ga, 0, none⟩) (m.getD a []).length ca]) from by
      rw [List.getElem?_append_left (by omega), hL1, List.getElem?_set_self hil])
    have x2 := hf (L.length + 1) _ (at2 _ _)
    obtain ⟨f', hR⟩ := x1
    intro hh
    have := hR.1 g rfl
    have := x2.1 g hh.symm
    simp only [] at *
    omega
  refine ⟨ga, ca, v, hca, hcv, hfv, H.below.size, g1, g2, q1, hne, hne2, fun w1' v1 m1 ho hg hat => ?_⟩
  obtain ⟨H3, _⟩ := q4 w1' v1 m1 ho hg hat
  rw [set2] at H3
  obtain ⟨A1, c1, hv1⟩ := own_slice ho
  have H4 := H3.setHole L.length (at1 _ _) rfl hb v1 (by rw [hv1]; rfl)
  rw [set1] at H4
  have H5 := H4.close L.length (L.length + 1) (at1 _ _) (at2 _ _) (by omega)
  rw [set1, set2] at H5
  have H6 := H5.closeS (α := List Int) (x := (m.getD a []).set b m1) i L.length (by rw [List.getElem?_append_left (by omega), hL1, List.getElem?_set_self hil]) (at1 _ _) (by omega)
  have H7 := H6.keep L.length
  have e7 : (((L1 ++ [rows (Kd.slice f2 (Kd.int k)) f (.slice (some ⟨ga, 0, none⟩) (m.getD a []).length ca) ((m.getD a []).set b m1), gone]).set i (rows (sl f (Kd.slice f2 (Kd.int k))) e (.slice (some ⟨g, 0, none⟩) n cap) (m.set a ((m.getD a []).set b m1)))).set L.length gone).take L.length = L.set i (rows (sl f (Kd.slice f2 (Kd.int k))) e (.slice (some ⟨g, 0, none⟩) n cap) (m.set a ((m.getD a []).set b m1))) := by
    rw [List.take_set_of_le (Nat.le_refl _), List.set_append_left _ _ (by omega), List.take_left' (by rw [List.length_set]; exact hlen), hL1, List.set_set]
  rw [e7] at H7
  exact H7
end
end Go.Proofs.YtjmmleofnjcjoaaDoor.Live
