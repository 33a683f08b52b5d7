/- How a slice of whole numbers, a slice of such slices, and structs of these, that come in as data, are read by the printed words. -/
import Derived.Test.YtcodionjhcmfhaaDoorMoWMore
import Derived.Test.YtcodionjhcmfhaaDoorMoWSized
import Derived.Deep.Slices
import Derived.ChangeSame
import Derived.WideShapes
import Derived.Lib.SmallJoins
namespace Go.Proofs.YtcodionjhcmfhaaDoor.Open
open Go.RowKit Go.ChangeShapes Go.WideShapes Go.Proofs.YtcodionjhcmfhaaDoorW.PrintWords Go.Deep
set_option linter.unusedVariables false
variable {H : Type} {enc : TypeId × Value → H} {P : Program} {w : World} {base : Nat} {spare : Nat → Bool} {held : Bool}
def Fits (l : List Int) : Prop := l.length ≤ maxLen ∧ ∀ x ∈ l, (Lit.int .i64 x).wf = true
theorem ints {e t : TypeId} {fuel : Nat} {cs : List Value} {x : DataW H × List MemPlace} (ht : P.underlying t = some (.slice e)) (he : P.underlying e = some (.int .i64)) (hc : P.cellsOf e = 1)
    (h : DataW.trod enc P w base spare held fuel t cs = some x) : ∃ A c l, cs = [.slice A l.length c] ∧ l.length ≤ c ∧ (Kd.int .i64).C w A l.length l ∧ Fits l := by
 rcases open_ints ht he hc h with ⟨rfl, _⟩ | ⟨a, len, cap, zs, rfl, hb, hl, hm, hz, hx, hcell, hwz⟩
 · exact ⟨none, 0, [], rfl, Nat.le_refl _, ⟨rfl, by decide, fun hn => absurd hn (Nat.lt_irrefl _)⟩, by simp [Fits]⟩
 · {
 have hlz : len ≤ zs.length := by rw [hz]; split <;> omega
 have e0 : (zs.take len).length = len := by rw [List.length_take]; omega
 have hm2 : len ≤ maxLen := by omega
 refine ⟨some a, cap, zs.take len, by rw [e0], by rw [e0]; exact hl, ⟨rfl, by rw [e0]; simpa [maxLen] using hm2, fun _ => ⟨a, rfl, fun j p hj => ⟨[.int .i64 p], rfl, rfl, fun i u hu => ?_⟩⟩⟩, by rw [e0]; exact hm2, fun n hn => hwz n (List.mem_of_mem_take hn)⟩
 obtain ⟨hjl, hjp⟩ := List.getElem?_eq_some_iff.1 hj
 rw [e0] at hjl
 match i, hu with
 | 0, hu => {
 have hu' : Value.int .i64 p = u := by simpa using hu
 rw [← hu', show (Kd.int IntKind.i64).sz = 1 from rfl, show j * 1 + 0 = j from by omega, hcell j (by omega)]
 rw [List.getElem_take] at hjp
 simp [List.getD_eq_getElem?_getD, List.getElem?_eq_getElem (show j < zs.length by omega), hjp]}
 | i + 1, hu => simp at hu}
theorem rows {t e f : TypeId} {fuel : Nat} {cs : List Value} {x : DataW H × List MemPlace} (ht : P.underlying t = some (.slice e)) (he : P.underlying e = some (.slice f)) (hf : P.underlying f = some (.int .i64)) (hce : P.cellsOf e = 1) (hcf : P.cellsOf f = 1)
    (h : DataW.trod enc P w base spare held fuel t cs = some x) : ∃ A c, ∃ l : List (List Int), cs = [.slice A l.length c] ∧ l.length ≤ c ∧ l.length ≤ maxLen ∧ (Kd.slice f (Kd.int .i64)).C w A l.length l ∧ ∀ r ∈ l, Fits r := by
 rcases open_slice1 ht hce h with ⟨rfl, _⟩ | ⟨a, len, cap, m, n, V, D, Pl, rfl, hb, hl, hm, hmm, hx, hel⟩
 · exact ⟨none, 0, [], rfl, Nat.le_refl _, Nat.zero_le _, ⟨rfl, by decide, fun hn => absurd hn (Nat.lt_irrefl _)⟩, by simp⟩
 · {
 have hlm : len ≤ m := by rw [hmm]; split <;> omega
 have each : ∀ i, i < len → ∃ r : List Int, (∃ A c, V i = .slice A r.length c ∧ r.length ≤ c ∧ (Kd.int .i64).C w A r.length r) ∧ Fits r := by {
 intro i hi
 obtain ⟨A, c, r, hv, h1, h2, h3⟩ := ints he hf hcf (hel i (by omega)).2
 have hv' : V i = .slice A r.length c := by simpa using hv
 exact ⟨r, ⟨A, c, hv', h1, h2⟩, h3⟩}
 obtain ⟨R, hR⟩ := choose_lt (α := List Int) each
 have e0 : ((List.range len).map R).length = len := by simp
 refine ⟨some a, cap, (List.range len).map R, by rw [e0], by rw [e0]; exact hl, by rw [e0]; omega, ⟨rfl, by rw [e0]; simp only [maxLen] at hm; omega, fun _ => ⟨a, rfl, fun j p hj => ?_⟩⟩, fun r hr => ?_⟩
 · {
 obtain ⟨hjl, hjp⟩ := List.getElem?_eq_some_iff.1 hj
 rw [e0] at hjl
 have hp : R j = p := by simpa using hjp
 subst hp
 obtain ⟨⟨A, c, hv, h1, h2⟩, _⟩ := hR j hjl
 refine ⟨[V j], rfl, ⟨A, c, by rw [hv], h1, h2⟩, fun i u hu => ?_⟩
 match i, hu with
 | 0, hu => {
 have hu' : V j = u := by simpa using hu
 rw [← hu']
 show w.cell? (a.add (j * 1 + 0)) = some (V j)
 rw [show j * 1 + 0 = j from by omega]
 exact (hel j (by omega)).1}
 | i + 1, hu => simp at hu}
 · {
 obtain ⟨j, hj, rfl⟩ := List.mem_map.1 hr
 exact (hR j (by simpa using hj)).2}}
theorem matrix {t tf e f : TypeId} {f0 : Field} {r : Reach} {b0 : Nat} {v : Value} {d : DataW H} {p : List MemPlace} (hs : P.underlying t = some (.struct #[f0])) (hC : P.cellsOf t = 1) (ho : f0.offset = 0) (hty : f0.type = tf) (hcf : P.cellsOf tf = 1)
    (ht : P.underlying tf = some (.slice e)) (he : P.underlying e = some (.slice f)) (hf : P.underlying f = some (.int .i64)) (hce : P.cellsOf e = 1) (hcff : P.cellsOf f = 1)
    (hv : Value.okWide P w r b0 t v) (h : DataW.Trod enc P w base spare held t v d p) :
    ∃ A c, ∃ l : List (List Int), v = .agg #[.slice A l.length c] ∧ l.length ≤ c ∧ l.length ≤ maxLen ∧ (Kd.slice f (Kd.int .i64)).C w A l.length l ∧ ∀ r ∈ l, Fits r := by
 obtain ⟨cs, rfl, hsz⟩ := okWide_struct hs hv
 obtain ⟨fuel, hf2⟩ := h
 rw [hC] at hsz
 obtain ⟨c0, rfl⟩ : ∃ c0, cs = #[c0] := by {
 cases cs with
 | mk l => {
 match l, hsz with
 | [c0], _ => exact ⟨c0, rfl⟩}}
 obtain ⟨y0, n, _, _, h0⟩ := trod_struct1 hs hf2
 rw [ho, hty, hcf] at h0
 obtain ⟨A, c, l, e1, h1, h2, h3, h4⟩ := rows ht he hf hce hcff (show DataW.trod enc P w base spare held n tf [c0] = some y0 from by simpa [Value.cells] using h0)
 have e2 : c0 = .slice A l.length c := by simpa using e1
 exact ⟨A, c, l, by rw [e2], h1, h2, h3, h4⟩
theorem order {t tf ti e : TypeId} {f0 f1 : Field} {r : Reach} {b0 : Nat} {v : Value} {d : DataW H} {p : List MemPlace} (hs : P.underlying t = some (.struct #[f0, f1])) (hone : oneCellFields P #[f0, f1] = true) (hC : P.cellsOf t = 2) (hty0 : f0.type = ti) (hty : f1.type = tf)
    (hti : P.underlying ti = some (.int .i64)) (ht : P.underlying tf = some (.slice e)) (he : P.underlying e = some (.int .i64)) (hce : P.cellsOf e = 1)
    (hv : Value.okWide P w r b0 t v) (h : DataW.Trod enc P w base spare held t v d p) :
    ∃ (z : Int) (A : Option Addr) (c : Nat) (l : List Int), v = .agg #[.int .i64 z, .slice A l.length c] ∧ (Lit.int .i64 z).wf = true ∧ l.length ≤ c ∧ (Kd.int .i64).C w A l.length l ∧ Fits l := by
 obtain ⟨v0, v1, y0, y1, n, rfl, _, _, h0, h1⟩ := Go.Joins.open_agg2 hs hone hC hv h
 rw [hty0] at h0
 rw [hty] at h1
 obtain ⟨z, e0, _, wz⟩ := DataW.trod_int hti h0
 obtain ⟨A, c, l, e1, h2, h3, h4⟩ := ints ht he hce h1
 have e0' : v0 = .int .i64 z := by simpa using e0
 have e1' : v1 = .slice A l.length c := by simpa using e1
 exact ⟨z, A, c, l, by rw [e0', e1'], wz, h2, h3, h4⟩
end Go.Proofs.YtcodionjhcmfhaaDoor.Open
