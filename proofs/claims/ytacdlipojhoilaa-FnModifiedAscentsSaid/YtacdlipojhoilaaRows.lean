/-
  No cell of these rows narrows 'for every input' (looked for: loops, veiled, ifaces, maps, wideKeys, modest, calm, conditions, laid).
  DERIVED. THE GIVEN ROWS OF THIS SEAT. 8 by the template 'for every input the law returns true; each argument reads behind the call as it read before'; 0 by the template 'total and deterministic' (their statements: YtacdlipojhoilaaTotals.lean).
  GIVEN WITH THE SEED: the statements are not yours to turn. If you find one false, say at which input.
  Laid BY PROGRAM, IN A SANDBOX (cutbox-rows.mjs): the forced cells as the released guide's own fill.sh prints them over the translation 66ee4ef0bd019b8e… (all of the seat's roots in one cut). By AI agents, Wed Nov 11 2026. No macro, syntax, notation, axiom, sorry.
-/
import Derived.Test.YtacdlipojhoilaaChecked
import GoSem.Claim
import GoSem.ClaimJoined
import GoSem.ClaimMapViews
import Derived.JoinedTies
import Derived.KernelRfl
namespace Go.Proofs.Ytacdlipojhoilaa
/- THE CELL 'sum', in the pinned program and in every row, IS THE sha256 OF THE DUMP (.gsa) THAT YtacdlipojhoilaaProg.lean LOADS. Nothing in Lean hashes anything: it is a label: what it is worth is what the hold of that sum in a sandbox is worth. -/
noncomputable def Try.pinned : Pinned := { name := "ytacdlipojhoilaa", sum := "66ee4ef0bd019b8eb76c72cde44b74b9c2478c116b494c679829f7b1c1af5b98", checked := Try.checked }
namespace Rows
def none {H : Type} : Left H := { results := [], args := [] }

/-- 'laws.FnTextsOfMatchings': WHATEVER THE INPUT: true; the input reads as it did. -/
def fnTextsOfMatchingsSpec : ChangeSpec := { name := "fnTextsOfMatchings", fn := fun _ => fun
  | [d1, d2] => { results := [.lit (.bool true)], args := [d1, d2] }
  | _ => none }
def fnTextsOfMatchingsRow : OpenClaim := { program := "ytacdlipojhoilaa", sum := "66ee4ef0bd019b8eb76c72cde44b74b9c2478c116b494c679829f7b1c1af5b98", func := "loop.example/g01106/laws.FnTextsOfMatchings", spec := "fnTextsOfMatchings", plainKeys := false, apart := false }
def FnTextsOfMatchingsSaid : Prop := fnTextsOfMatchingsRow.holds Try.pinned (OpenSpec.ofChange fnTextsOfMatchingsSpec)

/-- ITS FALSE NEIGHBOUR: 'it returns false'. Refute it at one input. -/
def fnTextsOfMatchingsWrong : ChangeSpec := { name := "fnTextsOfMatchings", fn := fun _ => fun
  | [d1, d2] => { results := [.lit (.bool false)], args := [d1, d2] }
  | _ => none }
def FnTextsOfMatchingsWrongFalsely : Prop := fnTextsOfMatchingsRow.holds Try.pinned (OpenSpec.ofChange fnTextsOfMatchingsWrong)

/-- 'laws.FnTidyMatchings': WHATEVER THE INPUT: true; the input reads as it did. -/
def fnTidyMatchingsSpec : ChangeSpec := { name := "fnTidyMatchings", fn := fun _ => fun
  | [d1, d2] => { results := [.lit (.bool true)], args := [d1, d2] }
  | _ => none }
def fnTidyMatchingsRow : OpenClaim := { program := "ytacdlipojhoilaa", sum := "66ee4ef0bd019b8eb76c72cde44b74b9c2478c116b494c679829f7b1c1af5b98", func := "loop.example/g01106/laws.FnTidyMatchings", spec := "fnTidyMatchings", plainKeys := false, apart := false }
def FnTidyMatchingsSaid : Prop := fnTidyMatchingsRow.holds Try.pinned (OpenSpec.ofChange fnTidyMatchingsSpec)

/-- ITS FALSE NEIGHBOUR: 'it returns false'. Refute it at one input. -/
def fnTidyMatchingsWrong : ChangeSpec := { name := "fnTidyMatchings", fn := fun _ => fun
  | [d1, d2] => { results := [.lit (.bool false)], args := [d1, d2] }
  | _ => none }
def FnTidyMatchingsWrongFalsely : Prop := fnTidyMatchingsRow.holds Try.pinned (OpenSpec.ofChange fnTidyMatchingsWrong)

/-- 'laws.FnRunsOfEqualNumbers': WHATEVER THE INPUT: true; the input reads as it did. -/
def fnRunsOfEqualNumbersSpec : ChangeSpec := { name := "fnRunsOfEqualNumbers", fn := fun _ => fun
  | [d1, d2] => { results := [.lit (.bool true)], args := [d1, d2] }
  | _ => none }
def fnRunsOfEqualNumbersRow : OpenClaim := { program := "ytacdlipojhoilaa", sum := "66ee4ef0bd019b8eb76c72cde44b74b9c2478c116b494c679829f7b1c1af5b98", func := "loop.example/g01106/laws.FnRunsOfEqualNumbers", spec := "fnRunsOfEqualNumbers", inPlace := ["slices.overlaps[int]", "slices.overlaps[[]int]"], unfollowed := true, recurses := true, plainKeys := false, apart := false }
def FnRunsOfEqualNumbersSaid : Prop := fnRunsOfEqualNumbersRow.holds Try.pinned (OpenSpec.ofChange fnRunsOfEqualNumbersSpec)

/-- ITS FALSE NEIGHBOUR: 'it returns false'. Refute it at one input. -/
def fnRunsOfEqualNumbersWrong : ChangeSpec := { name := "fnRunsOfEqualNumbers", fn := fun _ => fun
  | [d1, d2] => { results := [.lit (.bool false)], args := [d1, d2] }
  | _ => none }
def FnRunsOfEqualNumbersWrongFalsely : Prop := fnRunsOfEqualNumbersRow.holds Try.pinned (OpenSpec.ofChange fnRunsOfEqualNumbersWrong)

/-- 'laws.FnAscentsAreMatrices': WHATEVER THE INPUT: true; the input reads as it did. -/
def fnAscentsAreMatricesSpec : ChangeSpec := { name := "fnAscentsAreMatrices", fn := fun _ => fun
  | [d1, d2] => { results := [.lit (.bool true)], args := [d1, d2] }
  | _ => none }
def fnAscentsAreMatricesRow : OpenClaim := { program := "ytacdlipojhoilaa", sum := "66ee4ef0bd019b8eb76c72cde44b74b9c2478c116b494c679829f7b1c1af5b98", func := "loop.example/g01106/laws.FnAscentsAreMatrices", spec := "fnAscentsAreMatrices", inPlace := ["slices.overlaps[int]", "slices.overlaps[[]int]"], unfollowed := true, recurses := true, plainKeys := false, apart := false }
def FnAscentsAreMatricesSaid : Prop := fnAscentsAreMatricesRow.holds Try.pinned (OpenSpec.ofChange fnAscentsAreMatricesSpec)

/-- ITS FALSE NEIGHBOUR: 'it returns false'. Refute it at one input. -/
def fnAscentsAreMatricesWrong : ChangeSpec := { name := "fnAscentsAreMatrices", fn := fun _ => fun
  | [d1, d2] => { results := [.lit (.bool false)], args := [d1, d2] }
  | _ => none }
def FnAscentsAreMatricesWrongFalsely : Prop := fnAscentsAreMatricesRow.holds Try.pinned (OpenSpec.ofChange fnAscentsAreMatricesWrong)

/-- 'laws.FnMatchingsAreMatrices': WHATEVER THE INPUT: true; the input reads as it did. -/
def fnMatchingsAreMatricesSpec : ChangeSpec := { name := "fnMatchingsAreMatrices", fn := fun _ => fun
  | [d1, d2] => { results := [.lit (.bool true)], args := [d1, d2] }
  | _ => none }
def fnMatchingsAreMatricesRow : OpenClaim := { program := "ytacdlipojhoilaa", sum := "66ee4ef0bd019b8eb76c72cde44b74b9c2478c116b494c679829f7b1c1af5b98", func := "loop.example/g01106/laws.FnMatchingsAreMatrices", spec := "fnMatchingsAreMatrices", unfollowed := true, recurses := true, plainKeys := false, apart := false }
def FnMatchingsAreMatricesSaid : Prop := fnMatchingsAreMatricesRow.holds Try.pinned (OpenSpec.ofChange fnMatchingsAreMatricesSpec)

/-- ITS FALSE NEIGHBOUR: 'it returns false'. Refute it at one input. -/
def fnMatchingsAreMatricesWrong : ChangeSpec := { name := "fnMatchingsAreMatrices", fn := fun _ => fun
  | [d1, d2] => { results := [.lit (.bool false)], args := [d1, d2] }
  | _ => none }
def FnMatchingsAreMatricesWrongFalsely : Prop := fnMatchingsAreMatricesRow.holds Try.pinned (OpenSpec.ofChange fnMatchingsAreMatricesWrong)

/-- 'laws.FnGrowingIsUndone': WHATEVER THE INPUT: true; the input reads as it did. -/
def fnGrowingIsUndoneSpec : ChangeSpec := { name := "fnGrowingIsUndone", fn := fun _ => fun
  | [d1, d2] => { results := [.lit (.bool true)], args := [d1, d2] }
  | _ => none }
def fnGrowingIsUndoneRow : OpenClaim := { program := "ytacdlipojhoilaa", sum := "66ee4ef0bd019b8eb76c72cde44b74b9c2478c116b494c679829f7b1c1af5b98", func := "loop.example/g01106/laws.FnGrowingIsUndone", spec := "fnGrowingIsUndone", inPlace := ["slices.overlaps[int]", "slices.overlaps[[]int]"], unfollowed := true, recurses := true, plainKeys := false, apart := false }
def FnGrowingIsUndoneSaid : Prop := fnGrowingIsUndoneRow.holds Try.pinned (OpenSpec.ofChange fnGrowingIsUndoneSpec)

/-- ITS FALSE NEIGHBOUR: 'it returns false'. Refute it at one input. -/
def fnGrowingIsUndoneWrong : ChangeSpec := { name := "fnGrowingIsUndone", fn := fun _ => fun
  | [d1, d2] => { results := [.lit (.bool false)], args := [d1, d2] }
  | _ => none }
def FnGrowingIsUndoneWrongFalsely : Prop := fnGrowingIsUndoneRow.holds Try.pinned (OpenSpec.ofChange fnGrowingIsUndoneWrong)

/-- 'laws.FnModifiedAscents': WHATEVER THE INPUT: true; the input reads as it did. -/
def fnModifiedAscentsSpec : ChangeSpec := { name := "fnModifiedAscents", fn := fun _ => fun
  | [d1, d2] => { results := [.lit (.bool true)], args := [d1, d2] }
  | _ => none }
def fnModifiedAscentsRow : OpenClaim := { program := "ytacdlipojhoilaa", sum := "66ee4ef0bd019b8eb76c72cde44b74b9c2478c116b494c679829f7b1c1af5b98", func := "loop.example/g01106/laws.FnModifiedAscents", spec := "fnModifiedAscents", unfollowed := true, recurses := true, plainKeys := false, apart := false }
def FnModifiedAscentsSaid : Prop := fnModifiedAscentsRow.holds Try.pinned (OpenSpec.ofChange fnModifiedAscentsSpec)

/-- ITS FALSE NEIGHBOUR: 'it returns false'. Refute it at one input. -/
def fnModifiedAscentsWrong : ChangeSpec := { name := "fnModifiedAscents", fn := fun _ => fun
  | [d1, d2] => { results := [.lit (.bool false)], args := [d1, d2] }
  | _ => none }
def FnModifiedAscentsWrongFalsely : Prop := fnModifiedAscentsRow.holds Try.pinned (OpenSpec.ofChange fnModifiedAscentsWrong)

/-- 'laws.FnListsAgree': WHATEVER THE INPUT: true; the input reads as it did. -/
def fnListsAgreeSpec : ChangeSpec := { name := "fnListsAgree", fn := fun _ => fun
  | [d1, d2] => { results := [.lit (.bool true)], args := [d1, d2] }
  | _ => none }
def fnListsAgreeRow : OpenClaim := { program := "ytacdlipojhoilaa", sum := "66ee4ef0bd019b8eb76c72cde44b74b9c2478c116b494c679829f7b1c1af5b98", func := "loop.example/g01106/laws.FnListsAgree", spec := "fnListsAgree", inPlace := ["slices.overlaps[int]", "slices.overlaps[[]int]"], unfollowed := true, recurses := true, plainKeys := false, apart := false }
def FnListsAgreeSaid : Prop := fnListsAgreeRow.holds Try.pinned (OpenSpec.ofChange fnListsAgreeSpec)

/-- ITS FALSE NEIGHBOUR: 'it returns false'. Refute it at one input. -/
def fnListsAgreeWrong : ChangeSpec := { name := "fnListsAgree", fn := fun _ => fun
  | [d1, d2] => { results := [.lit (.bool false)], args := [d1, d2] }
  | _ => none }
def FnListsAgreeWrongFalsely : Prop := fnListsAgreeRow.holds Try.pinned (OpenSpec.ofChange fnListsAgreeWrong)

/- THE SECOND FORM. 'bulk': how many values and letters a reading holds, each counted each time it is reached (what is shared counts as often as it is met; a slice's spare places count too). A statement '..UptoSaid' is the law's where the arguments, and the package variables that the reading takes, are together of bulk at most 1048576: NARROWER than '..Said'. Prove '..Said' where nothing that the law and all that it calls make is longer than what came in: it says more and counts as full. Else prove '..UptoSaid'. A law counts once. -/
mutual
def uptoBulk {H : Type} : DataW H → Nat
  | .lit (.string bytes) => bytes.length + 1
  | .lit _ => 1
  | .nil => 1
  | .ptr d => uptoBulk d + 1
  | .slice elems spare => uptoBulkAll elems + uptoBulkAll spare + 1
  | .agg parts => uptoBulkAll parts + 1
  | .iface _ d => uptoBulk d + 1
  | .map entries => uptoBulkEntries entries + 1
  | .held _ => 1
def uptoBulkAll {H : Type} : List (DataW H) → Nat
  | [] => 0
  | d :: r => uptoBulk d + uptoBulkAll r
def uptoBulkEntries {H : Type} : List (Lit × DataW H) → Nat
  | [] => 0
  | x :: r => uptoBulkEntry x + uptoBulkEntries r
def uptoBulkEntry {H : Type} : Lit × DataW H → Nat
  | (.string bytes, d) => bytes.length + uptoBulk d + 1
  | (_, d) => uptoBulk d + 1
 end
def uptoSmall : (H : Type) → List (DataW H) → Bool := fun _ ds => decide (uptoBulkAll ds ≤ 1048576)
def OpenSpec.upto (s : _root_.Go.ChangeSpec) : _root_.Go.OpenSpec := { _root_.Go.OpenSpec.ofChange s with cond := some uptoSmall }

/-- 'laws.FnTextsOfMatchings', WHERE WHAT IT READS IS OF BULK AT MOST 1048576: true; the input reads as it did. -/
def fnTextsOfMatchingsUptoRow : OpenClaim := { program := "ytacdlipojhoilaa", sum := "66ee4ef0bd019b8eb76c72cde44b74b9c2478c116b494c679829f7b1c1af5b98", func := "loop.example/g01106/laws.FnTextsOfMatchings", spec := "fnTextsOfMatchings", plainKeys := false, apart := false, narrowed := true }
def FnTextsOfMatchingsUptoSaid : Prop := fnTextsOfMatchingsUptoRow.holds Try.pinned (OpenSpec.upto fnTextsOfMatchingsSpec)

/-- 'laws.FnTidyMatchings', WHERE WHAT IT READS IS OF BULK AT MOST 1048576: true; the input reads as it did. -/
def fnTidyMatchingsUptoRow : OpenClaim := { program := "ytacdlipojhoilaa", sum := "66ee4ef0bd019b8eb76c72cde44b74b9c2478c116b494c679829f7b1c1af5b98", func := "loop.example/g01106/laws.FnTidyMatchings", spec := "fnTidyMatchings", plainKeys := false, apart := false, narrowed := true }
def FnTidyMatchingsUptoSaid : Prop := fnTidyMatchingsUptoRow.holds Try.pinned (OpenSpec.upto fnTidyMatchingsSpec)

/-- 'laws.FnRunsOfEqualNumbers', WHERE WHAT IT READS IS OF BULK AT MOST 1048576: true; the input reads as it did. -/
def fnRunsOfEqualNumbersUptoRow : OpenClaim := { program := "ytacdlipojhoilaa", sum := "66ee4ef0bd019b8eb76c72cde44b74b9c2478c116b494c679829f7b1c1af5b98", func := "loop.example/g01106/laws.FnRunsOfEqualNumbers", spec := "fnRunsOfEqualNumbers", inPlace := ["slices.overlaps[int]", "slices.overlaps[[]int]"], unfollowed := true, recurses := true, plainKeys := false, apart := false, narrowed := true }
def FnRunsOfEqualNumbersUptoSaid : Prop := fnRunsOfEqualNumbersUptoRow.holds Try.pinned (OpenSpec.upto fnRunsOfEqualNumbersSpec)

/-- 'laws.FnAscentsAreMatrices', WHERE WHAT IT READS IS OF BULK AT MOST 1048576: true; the input reads as it did. -/
def fnAscentsAreMatricesUptoRow : OpenClaim := { program := "ytacdlipojhoilaa", sum := "66ee4ef0bd019b8eb76c72cde44b74b9c2478c116b494c679829f7b1c1af5b98", func := "loop.example/g01106/laws.FnAscentsAreMatrices", spec := "fnAscentsAreMatrices", inPlace := ["slices.overlaps[int]", "slices.overlaps[[]int]"], unfollowed := true, recurses := true, plainKeys := false, apart := false, narrowed := true }
def FnAscentsAreMatricesUptoSaid : Prop := fnAscentsAreMatricesUptoRow.holds Try.pinned (OpenSpec.upto fnAscentsAreMatricesSpec)

/-- 'laws.FnMatchingsAreMatrices', WHERE WHAT IT READS IS OF BULK AT MOST 1048576: true; the input reads as it did. -/
def fnMatchingsAreMatricesUptoRow : OpenClaim := { program := "ytacdlipojhoilaa", sum := "66ee4ef0bd019b8eb76c72cde44b74b9c2478c116b494c679829f7b1c1af5b98", func := "loop.example/g01106/laws.FnMatchingsAreMatrices", spec := "fnMatchingsAreMatrices", unfollowed := true, recurses := true, plainKeys := false, apart := false, narrowed := true }
def FnMatchingsAreMatricesUptoSaid : Prop := fnMatchingsAreMatricesUptoRow.holds Try.pinned (OpenSpec.upto fnMatchingsAreMatricesSpec)

/-- 'laws.FnGrowingIsUndone', WHERE WHAT IT READS IS OF BULK AT MOST 1048576: true; the input reads as it did. -/
def fnGrowingIsUndoneUptoRow : OpenClaim := { program := "ytacdlipojhoilaa", sum := "66ee4ef0bd019b8eb76c72cde44b74b9c2478c116b494c679829f7b1c1af5b98", func := "loop.example/g01106/laws.FnGrowingIsUndone", spec := "fnGrowingIsUndone", inPlace := ["slices.overlaps[int]", "slices.overlaps[[]int]"], unfollowed := true, recurses := true, plainKeys := false, apart := false, narrowed := true }
def FnGrowingIsUndoneUptoSaid : Prop := fnGrowingIsUndoneUptoRow.holds Try.pinned (OpenSpec.upto fnGrowingIsUndoneSpec)

/-- 'laws.FnModifiedAscents', WHERE WHAT IT READS IS OF BULK AT MOST 1048576: true; the input reads as it did. -/
def fnModifiedAscentsUptoRow : OpenClaim := { program := "ytacdlipojhoilaa", sum := "66ee4ef0bd019b8eb76c72cde44b74b9c2478c116b494c679829f7b1c1af5b98", func := "loop.example/g01106/laws.FnModifiedAscents", spec := "fnModifiedAscents", unfollowed := true, recurses := true, plainKeys := false, apart := false, narrowed := true }
def FnModifiedAscentsUptoSaid : Prop := fnModifiedAscentsUptoRow.holds Try.pinned (OpenSpec.upto fnModifiedAscentsSpec)

/-- 'laws.FnListsAgree', WHERE WHAT IT READS IS OF BULK AT MOST 1048576: true; the input reads as it did. -/
def fnListsAgreeUptoRow : OpenClaim := { program := "ytacdlipojhoilaa", sum := "66ee4ef0bd019b8eb76c72cde44b74b9c2478c116b494c679829f7b1c1af5b98", func := "loop.example/g01106/laws.FnListsAgree", spec := "fnListsAgree", inPlace := ["slices.overlaps[int]", "slices.overlaps[[]int]"], unfollowed := true, recurses := true, plainKeys := false, apart := false, narrowed := true }
def FnListsAgreeUptoSaid : Prop := fnListsAgreeUptoRow.holds Try.pinned (OpenSpec.upto fnListsAgreeSpec)

end Rows
end Go.Proofs.Ytacdlipojhoilaa
