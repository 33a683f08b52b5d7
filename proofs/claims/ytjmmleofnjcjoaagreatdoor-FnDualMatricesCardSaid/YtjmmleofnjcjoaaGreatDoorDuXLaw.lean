-- Lessened by prune.py, a program of this session (wip/): the words that this claim names; Lean checks it.
/- For the walks of great laws: a matrix that is only read, and what a region that draws its order keeps. -/
import Derived.Test.YtjmmleofnjcjoaaGreatDoorDuXLive2
namespace Go.Proofs.YtjmmleofnjcjoaaGreatDoor.Live
open Go.RowKit Go.Proofs.YtjmmleofnjcjoaaGreatDoorW.PrintWords
set_option linter.unusedVariables false
section
variable {w0 w w1 W : World} {L : List Ob} {α : Type} {d : Kd α} {e n c : Nat} {A : Option Addr} {v : Value} {m : List α}
theorem Live.addRR {β : Type} {d2 : Kd β} {e2 : Nat} {v0 v1 : Value} {m1 : List β} (hE : d.E = []) (hE2 : d2.E = []) (H : Live w0 w L) (hb : Below w.heap.size w w1) (h : d.R e w1 w.heap.size (fun k => some k ≠ v1.ownBlock) v0 m) (h2 : d2.R e2 w1 w.heap.size (fun k => some k ≠ v0.ownBlock) v1 m1) :
    Live w0 w1 (L ++ [row d e v0 m, row d2 e2 v1 m1]) := H.add2 (o := row d e v0 m) (o2 := row d2 e2 v1 m1) hb (Kd.R_tight hE h) (Kd.R_tight hE2 h2) (fun k h0 h1 => h.1 k h0.symm h1)
theorem Live.drawn (H : Live w0 w L) (h : Drawn0 w w1) : Live w0 w1 L := by obtain ⟨n, rfl⟩ := h; exact H.drewN n
theorem cellV (H : Live w0 w L) (i : Nat) {g t : Nat} {cs : Array Value} (hi : L[i]? = some (var g cs t)) (j : Nat) {u : Value} (hu : cs[j]? = some u) : w.cell? ⟨g, j, none⟩ = some u := (H.cell i hi j).trans hu
end
end Go.Proofs.YtjmmleofnjcjoaaGreatDoor.Live
