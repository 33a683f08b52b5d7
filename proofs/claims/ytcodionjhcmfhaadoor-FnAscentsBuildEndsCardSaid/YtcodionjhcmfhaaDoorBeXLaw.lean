-- Lessened by prune.py, a program of this session (wip/): the words that this claim names; Lean checks it.
/- For the walks of great laws: a matrix that is only read, and what a region that draws its order keeps. -/
import Derived.Test.YtcodionjhcmfhaaDoorBeXLive2
namespace Go.Proofs.YtcodionjhcmfhaaDoor.Live
open Go.RowKit Go.Proofs.YtcodionjhcmfhaaDoorW.PrintWords
set_option linter.unusedVariables false
section
variable {w0 w w1 W : World} {L : List Ob} {α : Type} {d : Kd α} {e n c : Nat} {A : Option Addr} {v : Value} {m : List α}
theorem Live.drawn (H : Live w0 w L) (h : Drawn0 w w1) : Live w0 w1 L := by obtain ⟨n, rfl⟩ := h; exact H.drewN n
end
end Go.Proofs.YtcodionjhcmfhaaDoor.Live
