/- For the walks of great laws: a matrix that is only read, and what a region that draws its order keeps. -/
import Derived.Test.YtacdlipojhoilaaXLive2
namespace Go.Proofs.Ytacdlipojhoilaa.Live
open Go.RowKit Go.Proofs.YtacdlipojhoilaaW.PrintWords
set_option linter.unusedVariables false
/-- A row whose elements may share what they lead to: it is read alone. -/
def lent {α : Type} (d : Kd α) (e : Nat) (v : Value) (m : List α) : Ob where
  P := fun w b ok => d.Q e w b ok v m
  st := fun h hm => Kd.Q_step h hm
  mono := fun h hk => Kd.Q_mono h hk
  bound := fun h => Kd.Q_mono (Kd.Q_bound h) (fun _ hk => ⟨hk.1, hk.2.1, hk.2.2.1⟩)
  lower := fun hb h => Kd.Q_lower h hb
section
variable {w0 w w1 W : World} {L : List Ob} {α : Type} {d : Kd α} {e n c : Nat} {A : Option Addr} {v : Value} {m : List α}
theorem Live.formq (H : Live w0 w L) (i : Nat) (hi : L[i]? = some (lent d e v m)) : ∃ A c, v = .slice A m.length c ∧ m.length ≤ c ∧ d.C w A m.length m := Kd.Q_reads (H.get i hi)
theorem Live.nowq (H : Live w0 w L) (i : Nat) (hi : L[i]? = some (lent d e (.slice A n c) m)) : n = m.length ∧ m.length ≤ c ∧ d.C w A m.length m := by
  obtain ⟨h1, h2, h3⟩ := Kd.Q_reads' (H.get i hi)
  exact ⟨h1, by omega, h3⟩
theorem Live.addRR {β : Type} {d2 : Kd β} {e2 : Nat} {v0 v1 : Value} {m1 : List β} (hE : d.E = []) (hE2 : d2.E = []) (H : Live w0 w L) (hb : Below w.heap.size w w1) (h : d.R e w1 w.heap.size (fun k => some k ≠ v1.ownBlock) v0 m) (h2 : d2.R e2 w1 w.heap.size (fun k => some k ≠ v0.ownBlock) v1 m1) :
    Live w0 w1 (L ++ [row d e v0 m, row d2 e2 v1 m1]) := H.add2 (o := row d e v0 m) (o2 := row d2 e2 v1 m1) hb (Kd.R_tight hE h) (Kd.R_tight hE2 h2) (fun k h0 h1 => h.1 k h0.symm h1)
theorem Live.drawn (H : Live w0 w L) (h : Drawn0 w w1) : Live w0 w1 L := by obtain ⟨n, rfl⟩ := h; exact H.drewN n
theorem stepB_k {G : Prop} (h : Below W.heap.size W w) (hb : Below w.heap.size w w1) (k : Below W.heap.size W w1 → G) : G := k (below_step h hb)
theorem cellV (H : Live w0 w L) (i : Nat) {g t : Nat} {cs : Array Value} (hi : L[i]? = some (var g cs t)) (j : Nat) {u : Value} (hu : cs[j]? = some u) : w.cell? ⟨g, j, none⟩ = some u := (H.cell i hi j).trans hu
end
end Go.Proofs.Ytacdlipojhoilaa.Live
