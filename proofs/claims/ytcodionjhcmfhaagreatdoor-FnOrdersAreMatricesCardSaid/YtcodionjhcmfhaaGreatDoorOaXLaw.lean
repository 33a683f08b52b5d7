-- Lessened by prune.py, a program of this session (wip/): the words that this claim names; Lean checks it.
/- For the walks of great laws: a matrix that is only read, and what a region that draws its order keeps. -/
import Derived.Test.YtcodionjhcmfhaaGreatDoorOaXLive2
namespace Go.Proofs.YtcodionjhcmfhaaGreatDoor.Live
open Go.RowKit Go.Proofs.YtcodionjhcmfhaaGreatDoorW.PrintWords
set_option linter.unusedVariables false
def lent {α : Type} (d : Kd α) (e : Nat) (v : Value) (m : List α) : Ob where
  P := fun w b ok => d.Q e w b ok v m
  st := fun h hm => Kd.Q_step h hm
  mono := fun h hk => Kd.Q_mono h hk
  bound := fun h => Kd.Q_mono (Kd.Q_bound h) (fun _ hk => ⟨hk.1, hk.2.1, hk.2.2.1⟩)
  lower := fun hb h => Kd.Q_lower h hb
section
variable {w0 w w1 W : World} {L : List Ob} {α : Type} {d : Kd α} {e n c : Nat} {A : Option Addr} {v : Value} {m : List α}
theorem Live.formq (H : Live w0 w L) (i : Nat) (hi : L[i]? = some (lent d e v m)) : ∃ A c, v = .slice A m.length c ∧ m.length ≤ c ∧ d.C w A m.length m := Kd.Q_reads (H.get i hi)
theorem Live.nowq (H : Live w0 w L) (i : Nat) (hi : L[i]? = some (lent d e (.slice A n c) m)) : n = m.length ∧ m.length ≤ c ∧ d.C w A m.length m := by
 obtain ⟨h1, h2, h3⟩ := Kd.Q_reads' (H.get i hi)
 exact ⟨h1, by omega, h3⟩
theorem Live.drawn (H : Live w0 w L) (h : Drawn0 w w1) : Live w0 w1 L := by obtain ⟨n, rfl⟩ := h; exact H.drewN n
theorem cellV (H : Live w0 w L) (i : Nat) {g t : Nat} {cs : Array Value} (hi : L[i]? = some (var g cs t)) (j : Nat) {u : Value} (hu : cs[j]? = some u) : w.cell? ⟨g, j, none⟩ = some u := (H.cell i hi j).trans hu
end
end Go.Proofs.YtcodionjhcmfhaaGreatDoor.Live
