-- Lessened by prune.py, a program of this session (wip/): the words that this claim names; Lean checks it.
/- Where in memory a row of rows lies that a call has made: between two block numbers; what outlives another call. -/
import Derived.Test.YtjmmleofnjcjoaaGreatDoorDuWMore
namespace Go.Proofs.YtjmmleofnjcjoaaGreatDoor.Mem
open Go.RowKit Go.Proofs.YtjmmleofnjcjoaaGreatDoorW.PrintWords
set_option linter.unusedVariables false
section
variable {α : Type} {d : Kd α} {e lo hi lo2 hi2 : Nat} {w0 w W w1 : World} {v : Value} {m : List α}
structure S (d : Kd α) (e : Nat) (w0 w : World) (lo hi : Nat) (v : Value) (m : List α) : Prop where
  old : w0.heap.size ≤ lo
  size : hi ≤ w.heap.size
  rows : Kd.S d e w w0.heap.size (fun k => lo ≤ k ∧ k < hi) v m
structure R (d : Kd α) (e : Nat) (w0 w : World) (lo hi : Nat) (v : Value) (m : List α) : Prop where
  old : w0.heap.size ≤ lo
  size : hi ≤ w.heap.size
  row : d.R e w w0.heap.size (fun k => lo ≤ k ∧ k < hi) v m
structure X (w : World) (g : Nat) (cs : Array Value) (t : Nat) : Prop where
  blk : w.heap[g]? = some (.cells cs t (0, 0))
theorem S.below (h : S d e w0 W lo hi v m) (hb : Below W.heap.size W w1) : S d e w0 w1 lo hi v m := ⟨h.old, Nat.le_trans h.size hb.size, Kd.S_below h.rows hb⟩
theorem R.below (h : R d e w0 W lo hi v m) (hb : Below W.heap.size W w1) : R d e w0 w1 lo hi v m := ⟨h.old, Nat.le_trans h.size hb.size, Kd.R_below h.row hb⟩
theorem X.below {g t : Nat} {cs : Array Value} (h : X W g cs t) (hb : Below W.heap.size W w1) : X w1 g cs t := ⟨blk_below h.blk hb⟩
theorem S.alloc (h : S d e w0 W lo hi v m) (o : Obj) : S d e w0 (W.alloc o) lo hi v m := h.below (below_alloc (Below.refl _ _) o)
theorem R.alloc (h : R d e w0 W lo hi v m) (o : Obj) : R d e w0 (W.alloc o) lo hi v m := h.below (below_alloc (Below.refl _ _) o)
theorem X.alloc {g t : Nat} {cs : Array Value} (h : X W g cs t) (o : Obj) : X (W.alloc o) g cs t := ⟨blk_alloc h.blk o⟩
theorem S.drewN (h : S d e w0 W lo hi v m) (n : Nat) : S d e w0 (W.drewN n) lo hi v m := h.below (pw_below_drewN (Below.refl _ _) n)
theorem R.drewN (h : R d e w0 W lo hi v m) (n : Nat) : R d e w0 (W.drewN n) lo hi v m := h.below (pw_below_drewN (Below.refl _ _) n)
theorem X.drewN {g t : Nat} {cs : Array Value} (h : X W g cs t) (n : Nat) : X (W.drewN n) g cs t := ⟨blk_drewN h.blk n⟩
theorem X.new (W : World) (cs : Array Value) (t : Nat) : X (W.alloc (.cells cs t)) W.heap.size cs t := ⟨blk_new W _⟩
theorem X.lt {g t : Nat} {cs : Array Value} (h : X W g cs t) : g < W.heap.size := blk_lt h.blk
theorem S.kept (h : S d e w0 W lo hi v m) (hk : Kept W w1 (fun k => lo2 ≤ k ∧ k < hi2)) (ha : hi ≤ lo2 ∨ hi2 ≤ lo) : S d e w0 w1 lo hi v m := ⟨h.old, Nat.le_trans h.size hk.1, Kd.S_kept h.rows hk (fun k h1 h2 => by omega)⟩
theorem R.kept (h : R d e w0 W lo hi v m) (hk : Kept W w1 (fun k => lo2 ≤ k ∧ k < hi2)) (ha : hi ≤ lo2 ∨ hi2 ≤ lo) : R d e w0 w1 lo hi v m := ⟨h.old, Nat.le_trans h.size hk.1, Kd.R_kept h.row hk (fun k h1 h2 => by omega)⟩
theorem X.kept {g t : Nat} {cs : Array Value} (h : X W g cs t) (hk : Kept W w1 (fun k => lo2 ≤ k ∧ k < hi2)) (ha : g < lo2 ∨ hi2 ≤ g) : X w1 g cs t := ⟨blk_kept h.blk hk (fun h2 => by omega)⟩
theorem S.reads (h : S d e w0 W lo hi v m) : ∃ A c, v = .slice A m.length c ∧ m.length ≤ c ∧ d.C W A m.length m := Kd.S_reads h.rows
theorem R.reads (h : R d e w0 W lo hi v m) : ∃ A c, v = .slice A m.length c ∧ m.length ≤ c ∧ d.C W A m.length m := Kd.R_reads h.row
theorem S.now {A : Option Addr} {n c : Nat} (h : S d e w0 W lo hi (.slice A n c) m) : d.C W A m.length m := (Kd.S_reads' h.rows).2.2
theorem S.cap {A : Option Addr} {n c : Nat} (h : S d e w0 W lo hi (.slice A n c) m) : m.length ≤ c := by have := Kd.S_reads' h.rows; omega
theorem R.now {A : Option Addr} {n c : Nat} (h : R d e w0 W lo hi (.slice A n c) m) : d.C W A m.length m := (Kd.R_reads' h.row).2.2
theorem R.cap {A : Option Addr} {n c : Nat} (h : R d e w0 W lo hi (.slice A n c) m) : m.length ≤ c := by have := Kd.R_reads' h.row; omega
theorem S.len {A : Option Addr} {n c : Nat} (h : S d e w0 W lo hi (.slice A n c) m) : n = m.length := (Kd.S_reads' h.rows).1
theorem R.len {A : Option Addr} {n c : Nat} (h : R d e w0 W lo hi (.slice A n c) m) : n = m.length := (Kd.R_reads' h.row).1
theorem X.cell {g t : Nat} {cs : Array Value} (h : X W g cs t) (i : Nat) : W.cell? ⟨g, i, none⟩ = cs[i]? := blk_cell h.blk i
end
end Go.Proofs.YtjmmleofnjcjoaaGreatDoor.Mem
