/- A table of bytes that a row lists among its variables, as its cells. -/
import Derived.Stop.LaidErr
namespace Go.Proofs.YtjmmleofnjcjoaaGreatDoor.Tab
open Go Go.RowKit Go.ChangeShapes
theorem mapM_at {α β : Type} (f : α → Option β) : ∀ (l : List α) (ys : List β), l.mapM f = some ys → ∀ i (h : i < l.length), ∃ h2 : i < ys.length, f l[i] = some ys[i]
  | [], ys, _, i, h => absurd h (by simp)
  | a :: l, ys, hm, i, h => by
    rw [List.mapM_cons] at hm
    cases ha : f a with
    | none => rw [ha] at hm; exact absurd hm (by simp)
    | some y =>
      rw [ha] at hm
      cases hl : l.mapM f with
      | none => rw [hl] at hm; exact absurd hm (by simp)
      | some zs =>
        rw [hl] at hm
        have e : ys = y :: zs := by simpa using hm.symm
        subst e
        cases i with
        | zero => exact ⟨by simp, by simpa using ha⟩
        | succ i =>
          obtain ⟨h2, h3⟩ := mapM_at f l zs hl i (by simpa using h)
          exact ⟨by simpa using h2, by simpa using h3⟩
theorem int_of_trod {H : Type} {enc : TypeId × Value → H} {P : Program} {w : World} {base : Nat} {sp : Nat → Bool} {held : Bool} {k : IntKind} {fuel : Nat} {e : TypeId} {cs : List Value} {x : Int} {p : List MemPlace} (he : P.underlying e = some (.int k))
    (h : DataW.trod enc P w base sp held fuel e cs = some (.lit (.int k x), p)) : cs = [.int k x] := by
 cases fuel with
 | zero => simp [DataW.trod] at h
 | succ fuel => {
 simp only [DataW.trod, he] at h
 split at h <;> simp_all}
theorem tab_of_laid {P : Program} {n : String} {r : List (String × DataW Unit)} {W : World} {g : Nat} {t e : TypeId} {k : IntKind} {tab : List Nat}
    (h : laidMet P ((n, .agg (tab.map fun (v : Nat) => .lit (.int k (v : Int)))) :: r) W) (hg : P.globalNamed n = some g) (ht : (P.globals[g]?).map (·.type) = some t)
    (hu : P.underlying t = some (.array tab.length e)) (he : P.underlying e = some (.int k)) (hc : P.cellsOf e = 1) :
    ∀ j, j < tab.length → W.cell? ⟨g, j, none⟩ = some (.int k ((tab.getD j 0 : Nat) : Int)) := by
 obtain ⟨ps, ⟨g0, t0, cs0, f0, p0, q0, hg0, ht0, hv0, hd0, _, e0⟩, _, _⟩ := h
 obtain rfl := Option.some.inj (hg.symm.trans hg0)
 obtain rfl := Option.some.inj (ht.symm.trans ht0)
 clear e0 hg0 ht0
 intro j hj
 cases f0 with
 | zero => simp [DataW.trod] at hd0
 | succ f0 => {
 simp only [DataW.trod, hu] at hd0
 split at hd0
 · {
 cases hm : (List.range tab.length).mapM fun i => DataW.trod (fun _ => ()) P W 0 (fun _ => true) false f0 e ((cs0.toList.drop (i * P.cellsOf e)).take (P.cellsOf e)) with
 | none => rw [hm] at hd0; exact absurd hd0 (by simp)
 | some xs => {
 rw [hm] at hd0
 simp only [Option.map_some, Option.some.injEq, Prod.mk.injEq, DataW.agg.injEq] at hd0
 obtain ⟨h2, h3⟩ := mapM_at _ _ _ hm j (by simpa using hj)
 rw [List.getElem_range, hc, Nat.mul_one] at h3
 have h4 : (xs.map (·.1))[j]? = (tab.map fun (v : Nat) => (DataW.lit (.int k (v : Int)) : DataW Unit))[j]? := by rw [hd0.1]
 rw [List.getElem?_map, List.getElem?_map, List.getElem?_eq_getElem h2, List.getElem?_eq_getElem hj] at h4
 simp only [Option.map_some, Option.some.injEq] at h4
 have h5 : xs[j] = (.lit (.int k (tab[j] : Int)), xs[j].2) := Prod.ext h4 rfl
 rw [h5] at h3
 have h6 := int_of_trod he h3
 have h7 : cs0.toList[j]? = some (.int k (tab[j] : Int)) := by {
 have := congrArg (fun l : List Value => l[0]?) h6
 simpa using this}
 have h8 := World.var?_cell hg hv0 j
 rw [h8, show cs0[j]? = cs0.toList[j]? from by simp, h7, List.getD_eq_getElem?_getD, List.getElem?_eq_getElem hj]
 rfl}}
 · exact absurd hd0 (by simp)}
end Go.Proofs.YtjmmleofnjcjoaaGreatDoor.Tab
