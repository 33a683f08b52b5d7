-- Lessened by prune.py, a program of this session (wip/): the words that this claim names; Lean checks it.
/- Rows of rows of rows that all lie apart. -/
import Derived.Test.YtjmmleofnjcjoaaGreatDoorDuXLive2
namespace Go.Proofs.YtjmmleofnjcjoaaGreatDoor.Live
open Go.RowKit Go.Proofs.YtjmmleofnjcjoaaGreatDoorW.PrintWords
set_option linter.unusedVariables false
theorem C_num {k : IntKind} {n : Nat} {A : Option Addr} {xs : List Int} {w : World} (h : Kd.C (Kd.int k) w A n xs) (i : Nat) (hi : i < n) :
    ∃ ad, A = some ad ∧ w.cell? (ad.add i) = some (.int k (xs.getD i 0)) := by
 obtain ⟨ad, c, e, _, hK, hc0⟩ := Kd.C_get h (0 : Int) (i : Int) (by omega) (by omega)
 rw [Int.toNat_natCast] at hK hc0
 have hc : ∀ j u, c[j]? = some u → w.cell? (ad.add (i * 1 + j)) = some u := hc0
 refine ⟨ad, e, ?_⟩
 have hk : c = [.int k (xs.getD i 0)] := hK
 have hq := hc 0 _ (by rw [hk]; rfl)
 rwa [Nat.mul_one, Nat.add_zero] at hq
section
variable {w0 w w1 : World} {L : List Ob} {o p : Ob} {i l : Nat}
end
end Go.Proofs.YtjmmleofnjcjoaaGreatDoor.Live
