/- Where in memory a row of rows lies that a call has made: between two block numbers; what outlives another call. -/
import Derived.Test.YtjmmleofnjcjoaaDoorWMore
namespace Go.Proofs.YtjmmleofnjcjoaaDoor.Mem
open Go.RowKit Go.Proofs.YtjmmleofnjcjoaaDoorW.PrintWords
set_option linter.unusedVariables false
/-- The first i elements changed. -/
theorem part_set {α : Type} (f : α → α) (i : Nat) (o : List α) (z : α) (h : i < o.length) : ((o.take i).map f ++ o.drop i).set i (f (o.getD i z)) = (o.take (i + 1)).map f ++ o.drop (i + 1) := by
  have hl : ((o.take i).map f).length = i := by rw [List.length_map, List.length_take]; omega
  rw [List.getD_eq_getElem?_getD, List.getElem?_eq_getElem h, Option.getD_some, List.drop_eq_getElem_cons h, List.set_append_right _ _ (by omega), hl, Nat.sub_self, List.set_cons_zero, List.take_succ_eq_append_getElem h, List.map_append, List.append_assoc]
  rfl
theorem part_get {α : Type} (f : α → α) (i : Nat) (o : List α) (z : α) (h : i < o.length) : ((o.take i).map f ++ o.drop i).getD i z = o.getD i z := by
  have hl : ((o.take i).map f).length = i := by rw [List.length_map, List.length_take]; omega
  rw [List.getD_eq_getElem?_getD, List.getD_eq_getElem?_getD, List.getElem?_append_right (by omega), hl, Nat.sub_self, List.drop_eq_getElem_cons h, List.getElem?_cons_zero, List.getElem?_eq_getElem h]
theorem part_len {α : Type} (f : α → α) (i : Nat) (o : List α) : ((o.take i).map f ++ o.drop i).length = o.length := by
  rw [List.length_append, List.length_map, List.length_take, List.length_drop]; omega
section
variable {α : Type} {d : Kd α} {e lo hi lo2 hi2 : Nat} {w0 w W w1 : World} {v : Value} {m : List α}
/-- A row of rows, its blocks from lo on and below hi, all of them younger than w0. -/
structure S (d : Kd α) (e : Nat) (w0 w : World) (lo hi : Nat) (v : Value) (m : List α) : Prop where
  old : w0.heap.size ≤ lo
  size : hi ≤ w.heap.size
  rows : Kd.S d e w w0.heap.size (fun k => lo ≤ k ∧ k < hi) v m
/-- A row whose elements lead nowhere. -/
structure R (d : Kd α) (e : Nat) (w0 w : World) (lo hi : Nat) (v : Value) (m : List α) : Prop where
  old : w0.heap.size ≤ lo
  size : hi ≤ w.heap.size
  row : d.R e w w0.heap.size (fun k => lo ≤ k ∧ k < hi) v m
/-- A variable in memory. -/
structure X (w : World) (g : Nat) (cs : Array Value) (t : Nat) : Prop where
  blk : w.heap[g]? = some (.cells cs t (0, 0))
theorem S.made (h : Kd.S d e w1 W.heap.size (fun _ => True) v m) (hB : Below w0.heap.size w0 W) (hb : Below W.heap.size W w1) : S d e w0 w1 W.heap.size w1.heap.size v m :=
  ⟨hB.size, Nat.le_refl _, Kd.S_mono (Kd.S_lower (Kd.S_bound h) hB.size) (fun _ hk => ⟨hk.2.1, hk.2.2.1⟩)⟩
theorem R.made (h : d.R e w1 W.heap.size (fun _ => True) v m) (hB : Below w0.heap.size w0 W) (hb : Below W.heap.size W w1) : R d e w0 w1 W.heap.size w1.heap.size v m :=
  ⟨hB.size, Nat.le_refl _, Kd.R_mono (Kd.R_lower (Kd.R_bound h) hB.size) (fun _ hk => ⟨hk.2.1, hk.2.2.1⟩)⟩
theorem S.made' (p : Nat) (h : Kd.S d e w1 W.heap.size (fun _ => True) v m) (hB : Below w0.heap.size w0 W) (hb : Below W.heap.size W w1) (hp : p ≤ W.heap.size) : ∃ lo hi, p ≤ lo ∧ lo ≤ hi ∧ S d e w0 w1 lo hi v m :=
  ⟨W.heap.size, w1.heap.size, hp, hb.size, S.made h hB hb⟩
theorem R.made' (p : Nat) (h : d.R e w1 W.heap.size (fun _ => True) v m) (hB : Below w0.heap.size w0 W) (hb : Below W.heap.size W w1) (hp : p ≤ W.heap.size) : ∃ lo hi, p ≤ lo ∧ lo ≤ hi ∧ R d e w0 w1 lo hi v m :=
  ⟨W.heap.size, w1.heap.size, hp, hb.size, R.made h hB hb⟩
theorem S.below (h : S d e w0 W lo hi v m) (hb : Below W.heap.size W w1) : S d e w0 w1 lo hi v m := ⟨h.old, Nat.le_trans h.size hb.size, Kd.S_below h.rows hb⟩
theorem R.below (h : R d e w0 W lo hi v m) (hb : Below W.heap.size W w1) : R d e w0 w1 lo hi v m := ⟨h.old, Nat.le_trans h.size hb.size, Kd.R_below h.row hb⟩
theorem X.below {g t : Nat} {cs : Array Value} (h : X W g cs t) (hb : Below W.heap.size W w1) : X w1 g cs t := ⟨blk_below h.blk hb⟩
theorem S.alloc (h : S d e w0 W lo hi v m) (o : Obj) : S d e w0 (W.alloc o) lo hi v m := h.below (below_alloc (Below.refl _ _) o)
theorem R.alloc (h : R d e w0 W lo hi v m) (o : Obj) : R d e w0 (W.alloc o) lo hi v m := h.below (below_alloc (Below.refl _ _) o)
theorem X.alloc {g t : Nat} {cs : Array Value} (h : X W g cs t) (o : Obj) : X (W.alloc o) g cs t := ⟨blk_alloc h.blk o⟩
theorem S.drewN (h : S d e w0 W lo hi v m) (n : Nat) : S d e w0 (W.drewN n) lo hi v m := h.below (pw_below_drewN (Below.refl _ _) n)
theorem R.drewN (h : R d e w0 W lo hi v m) (n : Nat) : R d e w0 (W.drewN n) lo hi v m := h.below (pw_below_drewN (Below.refl _ _) n)
theorem X.drewN {g t : Nat} {cs : Array Value} (h : X W g cs t) (n : Nat) : X (W.drewN n) g cs t := ⟨blk_drewN h.blk n⟩
theorem X.new (W : World) (cs : Array Value) (t : Nat) : X (W.alloc (.cells cs t)) W.heap.size cs t := ⟨blk_new W _⟩
theorem X.lt {g t : Nat} {cs : Array Value} (h : X W g cs t) : g < W.heap.size := blk_lt h.blk
theorem S.kept (h : S d e w0 W lo hi v m) (hk : Kept W w1 (fun k => lo2 ≤ k ∧ k < hi2)) (ha : hi ≤ lo2 ∨ hi2 ≤ lo) : S d e w0 w1 lo hi v m := ⟨h.old, Nat.le_trans h.size hk.1, Kd.S_kept h.rows hk (fun k h1 h2 => by omega)⟩
theorem R.kept (h : R d e w0 W lo hi v m) (hk : Kept W w1 (fun k => lo2 ≤ k ∧ k < hi2)) (ha : hi ≤ lo2 ∨ hi2 ≤ lo) : R d e w0 w1 lo hi v m := ⟨h.old, Nat.le_trans h.size hk.1, Kd.R_kept h.row hk (fun k h1 h2 => by omega)⟩
theorem X.kept {g t : Nat} {cs : Array Value} (h : X W g cs t) (hk : Kept W w1 (fun k => lo2 ≤ k ∧ k < hi2)) (ha : g < lo2 ∨ hi2 ≤ g) : X w1 g cs t := ⟨blk_kept h.blk hk (fun h2 => by omega)⟩
theorem S.write (h : S d e w0 W lo hi v m) {m2 : List α} (hk : Kept W w1 (fun k => lo ≤ k ∧ k < hi)) (hs : Kd.S d e w1 w0.heap.size (fun k => lo ≤ k ∧ k < hi) v m2) : S d e w0 w1 lo hi v m2 := ⟨h.old, Nat.le_trans h.size hk.1, hs⟩
theorem R.write (h : R d e w0 W lo hi v m) {m2 : List α} (hE : d.E = []) {ok : Nat → Prop} (hk : Kept W w1 (fun k => lo ≤ k ∧ k < hi)) (hs : d.R e w1 w0.heap.size ok v m2) : R d e w0 w1 lo hi v m2 :=
  ⟨h.old, Nat.le_trans h.size hk.1, Kd.R_reok hE hs (fun k hv => h.row.1 k hv)⟩
theorem S.reads (h : S d e w0 W lo hi v m) : ∃ A c, v = .slice A m.length c ∧ m.length ≤ c ∧ d.C W A m.length m := Kd.S_reads h.rows
theorem R.reads (h : R d e w0 W lo hi v m) : ∃ A c, v = .slice A m.length c ∧ m.length ≤ c ∧ d.C W A m.length m := Kd.R_reads h.row
theorem S.now {A : Option Addr} {n c : Nat} (h : S d e w0 W lo hi (.slice A n c) m) : d.C W A m.length m := (Kd.S_reads' h.rows).2.2
theorem S.cap {A : Option Addr} {n c : Nat} (h : S d e w0 W lo hi (.slice A n c) m) : m.length ≤ c := by have := Kd.S_reads' h.rows; omega
theorem R.now {A : Option Addr} {n c : Nat} (h : R d e w0 W lo hi (.slice A n c) m) : d.C W A m.length m := (Kd.R_reads' h.row).2.2
theorem R.cap {A : Option Addr} {n c : Nat} (h : R d e w0 W lo hi (.slice A n c) m) : m.length ≤ c := by have := Kd.R_reads' h.row; omega
theorem S.len {A : Option Addr} {n c : Nat} (h : S d e w0 W lo hi (.slice A n c) m) : n = m.length := (Kd.S_reads' h.rows).1
theorem R.len {A : Option Addr} {n c : Nat} (h : R d e w0 W lo hi (.slice A n c) m) : n = m.length := (Kd.R_reads' h.row).1
theorem S.drew1 (h : S d e w0 W lo hi v m) : S d e w0 W.drew lo hi v m := h.below (below_drew1 (Below.refl _ _))
theorem R.drew1 (h : R d e w0 W lo hi v m) : R d e w0 W.drew lo hi v m := h.below (below_drew1 (Below.refl _ _))
theorem X.drew1 {g t : Nat} {cs : Array Value} (h : X W g cs t) : X W.drew g cs t := ⟨blk_drew h.blk⟩
/-- Two rows that a call has made: no block of the one is the other's. -/
theorem R.made2 {v2 : Value} {m2 : List α} (hE : d.E = []) (p : Nat) (h : d.R e w1 W.heap.size (fun k_ => some k_ ≠ v2.ownBlock) v m) (h2 : d.R e w1 W.heap.size (fun k_ => some k_ ≠ v.ownBlock) v2 m2) (hB : Below w0.heap.size w0 W) (hb : Below W.heap.size W w1) (hp : p ≤ W.heap.size) :
    ∃ lo hi lo2 hi2, p ≤ lo ∧ lo ≤ hi ∧ p ≤ lo2 ∧ lo2 ≤ hi2 ∧ (hi ≤ lo2 ∨ hi2 ≤ lo) ∧ R d e w0 w1 lo hi v m ∧ R d e w0 w1 lo2 hi2 v2 m2 := by
  have b1 := Kd.R_bound (Kd.R_lower h hB.size)
  have b2 := Kd.R_bound (Kd.R_lower h2 hB.size)
  have c1 := Kd.R_bound h
  have c2 := Kd.R_bound h2
  have sz := hB.size
  have sz2 := hb.size
  have one : ∀ {x : Value} {xs : List α} {P : Nat → Prop}, d.R e w1 W.heap.size P x xs → ∃ lo hi, W.heap.size ≤ lo ∧ lo ≤ hi ∧ hi ≤ w1.heap.size ∧ (∀ k, x.ownBlock = some k → lo = k ∧ hi = k + 1) ∧ (x.ownBlock = none → lo = W.heap.size ∧ hi = W.heap.size) := by
    intro x xs P hx
    cases ho : x.ownBlock with
    | none => exact ⟨W.heap.size, W.heap.size, Nat.le_refl _, Nat.le_refl _, sz2, fun k hk => (by cases hk), fun _ => ⟨rfl, rfl⟩⟩
    | some b =>
      have q := (Kd.R_bound hx).1 b ho
      exact ⟨b, b + 1, q.2.1, by omega, by have := q.2.2.1; omega, fun k hk => by cases hk; exact ⟨rfl, rfl⟩, fun hn => (by cases hn)⟩
  obtain ⟨lo, hi, a1, a2, a3, a4, a5⟩ := one h
  obtain ⟨lo2, hi2, e1, e2, e3, e4, e5⟩ := one h2
  refine ⟨lo, hi, lo2, hi2, by omega, a2, by omega, e2, ?_, ⟨by omega, a3, Kd.R_lower (Kd.R_reok hE h (fun k hk => by have := a4 k hk; exact ⟨by omega, by omega⟩)) sz⟩, ⟨by omega, e3, Kd.R_lower (Kd.R_reok hE h2 (fun k hk => by have := e4 k hk; exact ⟨by omega, by omega⟩)) sz⟩⟩
  cases h1 : v.ownBlock with
  | none => have := a5 h1; omega
  | some b =>
    cases h3 : v2.ownBlock with
    | none => have := e5 h3; omega
    | some b2 =>
      have q1 := a4 b h1
      have q2 := e4 b2 h3
      have q3 : some b ≠ v2.ownBlock := h.1 b h1
      rw [h3] at q3
      have : b ≠ b2 := fun hh => q3 (by rw [hh])
      omega
theorem X.cellA {g t : Nat} {cs : Array Value} (h : X W g cs t) (i : Nat) : ∀ o, (W.alloc o).cell? ⟨g, i, none⟩ = cs[i]? := fun o => (h.alloc o |>.blk |> fun b => blk_cell b i)
theorem X.cell {g t : Nat} {cs : Array Value} (h : X W g cs t) (i : Nat) : W.cell? ⟨g, i, none⟩ = cs[i]? := blk_cell h.blk i
end
end Go.Proofs.YtjmmleofnjcjoaaDoor.Mem
