-- Written by hook.py, a program of this session (wip/), which runs the kit's print.py with its own parts; Lean checks it.
import Derived.Test.YtjmmleofnjcjoaaDoorProg
import Derived.Below
import Derived.Deep.Draws
import Derived.Deep.AppendLies
import Derived.Maps.AppendAt
import Derived.OwnWalk
import Derived.Laws.BytesArg
import Derived.Laws.MakeOwn
import Derived.Laws.OwnMore
import Derived.Deep.OwnRows
import Derived.Tactics
import Derived.Lib.ConvBytes
import Derived.Laws.Slices
import Derived.WalkKit
import Derived.KernelRfl
import Derived.RowKit3
import Derived.Deep.LoopGhost
import Derived.Deep.QuietTactic
import Derived.BigQuiet
import Derived.WideLaws
import Derived.Deep.DeepCutAuto
import Derived.Deep.CutBlock
import Derived.Deep.RegionHeld3
import Derived.Laws.Rows
import Derived.Lib.AppendStr
import Derived.ArgAppend
import Derived.Laws.IdiomCopy
import Derived.OrdersHeld
import Derived.Laws.BitsLemmas
import Derived.RowKit
import Derived.Lib.SliceRun
import Derived.Test.YtjmmleofnjcjoaaDoorXMem
import Derived.Test.YtjmmleofnjcjoaaDoorXLive
import Derived.Test.YtjmmleofnjcjoaaDoorXLive2
import Derived.Deep.QuietTactic
import Derived.BigQuiet
import Derived.RegionTactic
import Derived.Test.YtjmmleofnjcjoaaDoorXRank
import Derived.Test.YtjmmleofnjcjoaaDoorXCountA
import Derived.Shelf.Spec.TrailingZeros
import Derived.Test.YtjmmleofnjcjoaaDoorXShelf
import Derived.Test.YtjmmleofnjcjoaaDoorXShelfP
import Derived.Test.YtjmmleofnjcjoaaDoorWWords
import Derived.Test.YtjmmleofnjcjoaaDoorWLast
import Derived.Test.YtjmmleofnjcjoaaDoorWTab
import Derived.Test.YtjmmleofnjcjoaaDoorWFour
import Derived.Test.YtjmmleofnjcjoaaDoorWQPut
import Derived.Test.YtjmmleofnjcjoaaDoorWApart
import Derived.Test.YtjmmleofnjcjoaaDoorWArr
import Derived.Test.YtjmmleofnjcjoaaDoorWZeros
import Derived.Test.YtjmmleofnjcjoaaDoorWFoot
import Derived.Test.YtjmmleofnjcjoaaDoorWKept
import Derived.Test.YtjmmleofnjcjoaaDoorWShare
import Derived.Test.YtjmmleofnjcjoaaDoorWN
import Derived.Test.YtjmmleofnjcjoaaDoorWFootNe
import Derived.Test.YtjmmleofnjcjoaaDoorWAt
import Derived.Test.YtjmmleofnjcjoaaDoorWEqStruct
import Derived.Test.YtjmmleofnjcjoaaDoorWRepsOne
import Derived.Test.YtjmmleofnjcjoaaDoorWInv
import Derived.Test.YtjmmleofnjcjoaaDoorWInvWords
import Derived.Test.YtjmmleofnjcjoaaDoorWGuard
import Derived.Test.YtjmmleofnjcjoaaDoorWNEv
import Derived.Test.YtjmmleofnjcjoaaDoorWMore
namespace Go.Proofs.YtjmmleofnjcjoaaDoor.Rk
open Go.RowKit Go.Proofs.YtjmmleofnjcjoaaDoorW.PrintWords Go.Proofs.YtjmmleofnjcjoaaDoorW.PrintLast Go.Proofs.YtjmmleofnjcjoaaDoorW.PrintMore
attribute [local go_sem] max2_int min2_int max_two min_two max_three min_three max_four min_four   -- for this text's walks alone
set_option linter.unusedVariables false
set_option linter.unusedSimpArgs false



def errW : Option Int → Value
  | none => .nilIface
  | some c => .iface 0 (.int .i64 c)
theorem errW_none : errW none = .nilIface := rfl
theorem errW_some (c : Int) : errW (some c) = .iface 0 (.int .i64 c) := rfl

theorem info3 : (Tryd.prog.info? 3).map (fun i => (i.zero, i.size, i.bytes)) = some (some (.int .i64 0), 1, 8) := by kernel_rfl
theorem info9 : (Tryd.prog.info? 9).map (fun i => (i.zero, i.size, i.bytes)) = some (some (.string ⟨#[]⟩), 1, 16) := by kernel_rfl
-- the values' own types
def rd_L2 (xs : List (List Int)) (i : Int) : (List Int) := xs.getD i.toNat ([] : List Int)
theorem at_L2 {w : World} {A : Option Addr} {n : Nat} {xs : List (List Int)} (h : Kd.C (Kd.slice 3 (Kd.int .i64)) w A n xs) (i : Int) (h0 : 0 ≤ i) (h1 : i < n) : ∃ ad A0 c0, A = some ad ∧ w.cell? (ad.add i.toNat) = some (.slice A0 (rd_L2 xs i).length c0) ∧ (rd_L2 xs i).length ≤ c0 ∧ (Kd.int .i64).C w A0 (rd_L2 xs i).length (rd_L2 xs i) := by
  obtain ⟨ad, c, e, _, hK, hc0⟩ := Kd.C_get h ([] : List Int) i h0 h1
  have hc : ∀ j u, c[j]? = some u → w.cell? (ad.add (i.toNat * 1 + j)) = some u := hc0
  obtain ⟨A0, c0, rfl, l0, g0⟩ := hK
  exact ⟨ad, A0, c0, e, by have hq := hc 0 _ rfl; rwa [Nat.mul_one, Nat.add_zero] at hq, l0, g0⟩

def rd_L3 (xs : List (List (List Int))) (i : Int) : (List (List Int)) := xs.getD i.toNat ([] : List (List Int))
theorem at_L3 {w : World} {A : Option Addr} {n : Nat} {xs : List (List (List Int))} (h : Kd.C (Kd.slice 26 (Kd.slice 3 (Kd.int .i64))) w A n xs) (i : Int) (h0 : 0 ≤ i) (h1 : i < n) : ∃ ad A0 c0, A = some ad ∧ w.cell? (ad.add i.toNat) = some (.slice A0 (rd_L3 xs i).length c0) ∧ (rd_L3 xs i).length ≤ c0 ∧ (Kd.slice 3 (Kd.int .i64)).C w A0 (rd_L3 xs i).length (rd_L3 xs i) := by
  obtain ⟨ad, c, e, _, hK, hc0⟩ := Kd.C_get h ([] : List (List Int)) i h0 h1
  have hc : ∀ j u, c[j]? = some u → w.cell? (ad.add (i.toNat * 1 + j)) = some u := hc0
  obtain ⟨A0, c0, rfl, l0, g0⟩ := hK
  exact ⟨ad, A0, c0, e, by have hq := hc 0 _ rfl; rwa [Nat.mul_one, Nat.add_zero] at hq, l0, g0⟩

def rd_L4 (xs : List (List Int)) (i : Int) : (List Int) := xs.getD i.toNat ([] : List Int)
theorem at_L4 {w : World} {A : Option Addr} {n : Nat} {xs : List (List Int)} (h : Kd.C (Kd.slice 5 (Kd.int .u8)) w A n xs) (i : Int) (h0 : 0 ≤ i) (h1 : i < n) : ∃ ad A0 c0, A = some ad ∧ w.cell? (ad.add i.toNat) = some (.slice A0 (rd_L4 xs i).length c0) ∧ (rd_L4 xs i).length ≤ c0 ∧ (Kd.int .u8).C w A0 (rd_L4 xs i).length (rd_L4 xs i) := by
  obtain ⟨ad, c, e, _, hK, hc0⟩ := Kd.C_get h ([] : List Int) i h0 h1
  have hc : ∀ j u, c[j]? = some u → w.cell? (ad.add (i.toNat * 1 + j)) = some u := hc0
  obtain ⟨A0, c0, rfl, l0, g0⟩ := hK
  exact ⟨ad, A0, c0, e, by have hq := hc 0 _ rfl; rwa [Nat.mul_one, Nat.add_zero] at hq, l0, g0⟩

def rd_L7 (xs : List (List ByteArray)) (i : Int) : (List ByteArray) := xs.getD i.toNat ([] : List ByteArray)
theorem at_L7 {w : World} {A : Option Addr} {n : Nat} {xs : List (List ByteArray)} (h : Kd.C (Kd.slice 9 Kd.string) w A n xs) (i : Int) (h0 : 0 ≤ i) (h1 : i < n) : ∃ ad A0 c0, A = some ad ∧ w.cell? (ad.add i.toNat) = some (.slice A0 (rd_L7 xs i).length c0) ∧ (rd_L7 xs i).length ≤ c0 ∧ Kd.string.C w A0 (rd_L7 xs i).length (rd_L7 xs i) := by
  obtain ⟨ad, c, e, _, hK, hc0⟩ := Kd.C_get h ([] : List ByteArray) i h0 h1
  have hc : ∀ j u, c[j]? = some u → w.cell? (ad.add (i.toNat * 1 + j)) = some u := hc0
  obtain ⟨A0, c0, rfl, l0, g0⟩ := hK
  exact ⟨ad, A0, c0, e, by have hq := hc 0 _ rfl; rwa [Nat.mul_one, Nat.add_zero] at hq, l0, g0⟩

theorem cell_at_drew {w w1 : World} {n : Nat} (h : w.drewN n = w1) {a : Addr} {v : Option Value} (hc : w.cell? a = v) : w1.cell? a = v := by
  rw [← h]; exact hc
theorem frozen_at_drew {w w1 : World} {n : Nat} (h : w.drewN n = w1) {a : Addr} {v : Bool} (hc : w.frozen? a = v) : w1.frozen? a = v := by
  rw [← h]; exact hc
abbrev bA := @below_alloc
abbrev bN := @pw_below_drewN
abbrev bD := @below_drew1
abbrev qN := @blk_drewN
abbrev qD := @blk_drew
abbrev qA := @blk_alloc
abbrev kA := @Kd.Q_alloc
abbrev kN := @Kd.Q_drewN
abbrev kD := @Kd.Q_drew
abbrev sA := @Kd.S_alloc
abbrev sN := @Kd.S_drewN
abbrev sD := @Kd.S_drew
abbrev rA := @Kd.R_alloc
abbrev rN := @Kd.R_drewN
abbrev rD := @Kd.R_drew

end Go.Proofs.YtjmmleofnjcjoaaDoor.Rk
