/-
  No cell of these rows narrows 'for every input' (looked for: loops, veiled, ifaces, maps, wideKeys, modest, calm, conditions, laid).
  DERIVED. THE GIVEN ROWS OF THIS SEAT. 12 by the template 'for every input the law returns true; each argument reads behind the call as it read before'; 0 by the template 'total and deterministic' (their statements: YtgpigjjhkemmeaaTotals.lean).
  GIVEN WITH THE SEED: the statements are not yours to turn. If you find one false, say at which input.
  Laid BY PROGRAM, IN A SANDBOX (cutbox-rows.mjs): the forced cells as the released guide's own fill.sh prints them over the translation 551c0acfe692684d… (all of the seat's roots in one cut). By AI agents, Wed Nov 11 2026. No macro, syntax, notation, axiom, sorry.
-/
import Derived.Test.YtgpigjjhkemmeaaChecked
import GoSem.Claim
import GoSem.ClaimJoined
import GoSem.ClaimMapViews
import Derived.JoinedTies
import Derived.KernelRfl
namespace Go.Proofs.Ytgpigjjhkemmeaa
/- THE CELL 'sum', in the pinned program and in every row, IS THE sha256 OF THE DUMP (.gsa) THAT YtgpigjjhkemmeaaProg.lean LOADS. Nothing in Lean hashes anything: it is a label: what it is worth is what the hold of that sum in a sandbox is worth. -/
noncomputable def Try.pinned : Pinned := { name := "ytgpigjjhkemmeaa", sum := "551c0acfe692684db77113b07d47e4016d5cee65056785230d46d76f03928499", checked := Try.checked }
namespace Rows
def none {H : Type} : Left H := { results := [], args := [] }

/-- 'laws.FnExactIsMatching': WHATEVER THE INPUT: true; the input reads as it did. -/
def fnExactIsMatchingSpec : ChangeSpec := { name := "fnExactIsMatching", fn := fun _ => fun
  | [d] => { results := [.lit (.bool true)], args := [d] }
  | _ => none }
def fnExactIsMatchingRow : OpenClaim := { program := "ytgpigjjhkemmeaa", sum := "551c0acfe692684db77113b07d47e4016d5cee65056785230d46d76f03928499", func := "loop.example/g01106/laws.FnExactIsMatching", spec := "fnExactIsMatching", apart := false }
def FnExactIsMatchingSaid : Prop := fnExactIsMatchingRow.holds Try.pinned (OpenSpec.ofChange fnExactIsMatchingSpec)

/-- ITS FALSE NEIGHBOUR: 'it returns false'. Refute it at one input. -/
def fnExactIsMatchingWrong : ChangeSpec := { name := "fnExactIsMatching", fn := fun _ => fun
  | [d] => { results := [.lit (.bool false)], args := [d] }
  | _ => none }
def FnExactIsMatchingWrongFalsely : Prop := fnExactIsMatchingRow.holds Try.pinned (OpenSpec.ofChange fnExactIsMatchingWrong)

/-- 'laws.FnExactIsTidy': WHATEVER THE INPUT: true; the input reads as it did. -/
def fnExactIsTidySpec : ChangeSpec := { name := "fnExactIsTidy", fn := fun _ => fun
  | [d] => { results := [.lit (.bool true)], args := [d] }
  | _ => none }
def fnExactIsTidyRow : OpenClaim := { program := "ytgpigjjhkemmeaa", sum := "551c0acfe692684db77113b07d47e4016d5cee65056785230d46d76f03928499", func := "loop.example/g01106/laws.FnExactIsTidy", spec := "fnExactIsTidy", apart := false }
def FnExactIsTidySaid : Prop := fnExactIsTidyRow.holds Try.pinned (OpenSpec.ofChange fnExactIsTidySpec)

/-- ITS FALSE NEIGHBOUR: 'it returns false'. Refute it at one input. -/
def fnExactIsTidyWrong : ChangeSpec := { name := "fnExactIsTidy", fn := fun _ => fun
  | [d] => { results := [.lit (.bool false)], args := [d] }
  | _ => none }
def FnExactIsTidyWrongFalsely : Prop := fnExactIsTidyRow.holds Try.pinned (OpenSpec.ofChange fnExactIsTidyWrong)

/-- 'laws.FnExactMirrorMatching': WHATEVER THE INPUT: true; the input reads as it did. -/
def fnExactMirrorMatchingSpec : ChangeSpec := { name := "fnExactMirrorMatching", fn := fun _ => fun
  | [d] => { results := [.lit (.bool true)], args := [d] }
  | _ => none }
def fnExactMirrorMatchingRow : OpenClaim := { program := "ytgpigjjhkemmeaa", sum := "551c0acfe692684db77113b07d47e4016d5cee65056785230d46d76f03928499", func := "loop.example/g01106/laws.FnExactMirrorMatching", spec := "fnExactMirrorMatching", apart := false }
def FnExactMirrorMatchingSaid : Prop := fnExactMirrorMatchingRow.holds Try.pinned (OpenSpec.ofChange fnExactMirrorMatchingSpec)

/-- ITS FALSE NEIGHBOUR: 'it returns false'. Refute it at one input. -/
def fnExactMirrorMatchingWrong : ChangeSpec := { name := "fnExactMirrorMatching", fn := fun _ => fun
  | [d] => { results := [.lit (.bool false)], args := [d] }
  | _ => none }
def FnExactMirrorMatchingWrongFalsely : Prop := fnExactMirrorMatchingRow.holds Try.pinned (OpenSpec.ofChange fnExactMirrorMatchingWrong)

/-- 'laws.FnExactMatchingText': WHATEVER THE INPUT: true; the input reads as it did. -/
def fnExactMatchingTextSpec : ChangeSpec := { name := "fnExactMatchingText", fn := fun _ => fun
  | [d] => { results := [.lit (.bool true)], args := [d] }
  | _ => none }
def fnExactMatchingTextRow : OpenClaim := { program := "ytgpigjjhkemmeaa", sum := "551c0acfe692684db77113b07d47e4016d5cee65056785230d46d76f03928499", func := "loop.example/g01106/laws.FnExactMatchingText", spec := "fnExactMatchingText", apart := false }
def FnExactMatchingTextSaid : Prop := fnExactMatchingTextRow.holds Try.pinned (OpenSpec.ofChange fnExactMatchingTextSpec)

/-- ITS FALSE NEIGHBOUR: 'it returns false'. Refute it at one input. -/
def fnExactMatchingTextWrong : ChangeSpec := { name := "fnExactMatchingText", fn := fun _ => fun
  | [d] => { results := [.lit (.bool false)], args := [d] }
  | _ => none }
def FnExactMatchingTextWrongFalsely : Prop := fnExactMatchingTextRow.holds Try.pinned (OpenSpec.ofChange fnExactMatchingTextWrong)

/-- 'laws.FnExactNearNestings': WHATEVER THE INPUT: true; the input reads as it did. -/
def fnExactNearNestingsSpec : ChangeSpec := { name := "fnExactNearNestings", fn := fun _ => fun
  | [d] => { results := [.lit (.bool true)], args := [d] }
  | _ => none }
def fnExactNearNestingsRow : OpenClaim := { program := "ytgpigjjhkemmeaa", sum := "551c0acfe692684db77113b07d47e4016d5cee65056785230d46d76f03928499", func := "loop.example/g01106/laws.FnExactNearNestings", spec := "fnExactNearNestings", apart := false }
def FnExactNearNestingsSaid : Prop := fnExactNearNestingsRow.holds Try.pinned (OpenSpec.ofChange fnExactNearNestingsSpec)

/-- ITS FALSE NEIGHBOUR: 'it returns false'. Refute it at one input. -/
def fnExactNearNestingsWrong : ChangeSpec := { name := "fnExactNearNestings", fn := fun _ => fun
  | [d] => { results := [.lit (.bool false)], args := [d] }
  | _ => none }
def FnExactNearNestingsWrongFalsely : Prop := fnExactNearNestingsRow.holds Try.pinned (OpenSpec.ofChange fnExactNearNestingsWrong)

/-- 'laws.FnExactRunsOf': WHATEVER THE INPUT: true; the input reads as it did. -/
def fnExactRunsOfSpec : ChangeSpec := { name := "fnExactRunsOf", fn := fun _ => fun
  | [d] => { results := [.lit (.bool true)], args := [d] }
  | _ => none }
def fnExactRunsOfRow : OpenClaim := { program := "ytgpigjjhkemmeaa", sum := "551c0acfe692684db77113b07d47e4016d5cee65056785230d46d76f03928499", func := "loop.example/g01106/laws.FnExactRunsOf", spec := "fnExactRunsOf", apart := false }
def FnExactRunsOfSaid : Prop := fnExactRunsOfRow.holds Try.pinned (OpenSpec.ofChange fnExactRunsOfSpec)

/-- ITS FALSE NEIGHBOUR: 'it returns false'. Refute it at one input. -/
def fnExactRunsOfWrong : ChangeSpec := { name := "fnExactRunsOf", fn := fun _ => fun
  | [d] => { results := [.lit (.bool false)], args := [d] }
  | _ => none }
def FnExactRunsOfWrongFalsely : Prop := fnExactRunsOfRow.holds Try.pinned (OpenSpec.ofChange fnExactRunsOfWrong)

/-- 'laws.FnExactCrossingsOf': WHATEVER THE INPUT: true; the input reads as it did. -/
def fnExactCrossingsOfSpec : ChangeSpec := { name := "fnExactCrossingsOf", fn := fun _ => fun
  | [d] => { results := [.lit (.bool true)], args := [d] }
  | _ => none }
def fnExactCrossingsOfRow : OpenClaim := { program := "ytgpigjjhkemmeaa", sum := "551c0acfe692684db77113b07d47e4016d5cee65056785230d46d76f03928499", func := "loop.example/g01106/laws.FnExactCrossingsOf", spec := "fnExactCrossingsOf", apart := false }
def FnExactCrossingsOfSaid : Prop := fnExactCrossingsOfRow.holds Try.pinned (OpenSpec.ofChange fnExactCrossingsOfSpec)

/-- ITS FALSE NEIGHBOUR: 'it returns false'. Refute it at one input. -/
def fnExactCrossingsOfWrong : ChangeSpec := { name := "fnExactCrossingsOf", fn := fun _ => fun
  | [d] => { results := [.lit (.bool false)], args := [d] }
  | _ => none }
def FnExactCrossingsOfWrongFalsely : Prop := fnExactCrossingsOfRow.holds Try.pinned (OpenSpec.ofChange fnExactCrossingsOfWrong)

/-- 'laws.FnExactArcsOf': WHATEVER THE INPUT: true; the input reads as it did. -/
def fnExactArcsOfSpec : ChangeSpec := { name := "fnExactArcsOf", fn := fun _ => fun
  | [d] => { results := [.lit (.bool true)], args := [d] }
  | _ => none }
def fnExactArcsOfRow : OpenClaim := { program := "ytgpigjjhkemmeaa", sum := "551c0acfe692684db77113b07d47e4016d5cee65056785230d46d76f03928499", func := "loop.example/g01106/laws.FnExactArcsOf", spec := "fnExactArcsOf", apart := false }
def FnExactArcsOfSaid : Prop := fnExactArcsOfRow.holds Try.pinned (OpenSpec.ofChange fnExactArcsOfSpec)

/-- ITS FALSE NEIGHBOUR: 'it returns false'. Refute it at one input. -/
def fnExactArcsOfWrong : ChangeSpec := { name := "fnExactArcsOf", fn := fun _ => fun
  | [d] => { results := [.lit (.bool false)], args := [d] }
  | _ => none }
def FnExactArcsOfWrongFalsely : Prop := fnExactArcsOfRow.holds Try.pinned (OpenSpec.ofChange fnExactArcsOfWrong)

/-- 'laws.FnExactOrderOfArcs': WHATEVER THE INPUT: true; the input reads as it did. -/
def fnExactOrderOfArcsSpec : ChangeSpec := { name := "fnExactOrderOfArcs", fn := fun _ => fun
  | [d] => { results := [.lit (.bool true)], args := [d] }
  | _ => none }
def fnExactOrderOfArcsRow : OpenClaim := { program := "ytgpigjjhkemmeaa", sum := "551c0acfe692684db77113b07d47e4016d5cee65056785230d46d76f03928499", func := "loop.example/g01106/laws.FnExactOrderOfArcs", spec := "fnExactOrderOfArcs", unfollowed := true, recurses := true, apart := false }
def FnExactOrderOfArcsSaid : Prop := fnExactOrderOfArcsRow.holds Try.pinned (OpenSpec.ofChange fnExactOrderOfArcsSpec)

/-- ITS FALSE NEIGHBOUR: 'it returns false'. Refute it at one input. -/
def fnExactOrderOfArcsWrong : ChangeSpec := { name := "fnExactOrderOfArcs", fn := fun _ => fun
  | [d] => { results := [.lit (.bool false)], args := [d] }
  | _ => none }
def FnExactOrderOfArcsWrongFalsely : Prop := fnExactOrderOfArcsRow.holds Try.pinned (OpenSpec.ofChange fnExactOrderOfArcsWrong)

/-- 'laws.FnExactParseMatching': WHATEVER THE INPUT: true; the input reads as it did. -/
def fnExactParseMatchingSpec : ChangeSpec := { name := "fnExactParseMatching", fn := fun _ => fun
  | [d] => { results := [.lit (.bool true)], args := [d] }
  | _ => none }
def fnExactParseMatchingRow : OpenClaim := { program := "ytgpigjjhkemmeaa", sum := "551c0acfe692684db77113b07d47e4016d5cee65056785230d46d76f03928499", func := "loop.example/g01106/laws.FnExactParseMatching", spec := "fnExactParseMatching", apart := false }
def FnExactParseMatchingSaid : Prop := fnExactParseMatchingRow.holds Try.pinned (OpenSpec.ofChange fnExactParseMatchingSpec)

/-- ITS FALSE NEIGHBOUR: 'it returns false'. Refute it at one input. -/
def fnExactParseMatchingWrong : ChangeSpec := { name := "fnExactParseMatching", fn := fun _ => fun
  | [d] => { results := [.lit (.bool false)], args := [d] }
  | _ => none }
def FnExactParseMatchingWrongFalsely : Prop := fnExactParseMatchingRow.holds Try.pinned (OpenSpec.ofChange fnExactParseMatchingWrong)

/-- 'laws.FnExactMatrixOfMatching': WHATEVER THE INPUT: true; the input reads as it did. -/
def fnExactMatrixOfMatchingSpec : ChangeSpec := { name := "fnExactMatrixOfMatching", fn := fun _ => fun
  | [d] => { results := [.lit (.bool true)], args := [d] }
  | _ => none }
def fnExactMatrixOfMatchingRow : OpenClaim := { program := "ytgpigjjhkemmeaa", sum := "551c0acfe692684db77113b07d47e4016d5cee65056785230d46d76f03928499", func := "loop.example/g01106/laws.FnExactMatrixOfMatching", spec := "fnExactMatrixOfMatching", apart := false }
def FnExactMatrixOfMatchingSaid : Prop := fnExactMatrixOfMatchingRow.holds Try.pinned (OpenSpec.ofChange fnExactMatrixOfMatchingSpec)

/-- ITS FALSE NEIGHBOUR: 'it returns false'. Refute it at one input. -/
def fnExactMatrixOfMatchingWrong : ChangeSpec := { name := "fnExactMatrixOfMatching", fn := fun _ => fun
  | [d] => { results := [.lit (.bool false)], args := [d] }
  | _ => none }
def FnExactMatrixOfMatchingWrongFalsely : Prop := fnExactMatrixOfMatchingRow.holds Try.pinned (OpenSpec.ofChange fnExactMatrixOfMatchingWrong)

/-- 'laws.FnExactTidyMatching': WHATEVER THE INPUT: true; the input reads as it did. -/
def fnExactTidyMatchingSpec : ChangeSpec := { name := "fnExactTidyMatching", fn := fun _ => fun
  | [d] => { results := [.lit (.bool true)], args := [d] }
  | _ => none }
def fnExactTidyMatchingRow : OpenClaim := { program := "ytgpigjjhkemmeaa", sum := "551c0acfe692684db77113b07d47e4016d5cee65056785230d46d76f03928499", func := "loop.example/g01106/laws.FnExactTidyMatching", spec := "fnExactTidyMatching", apart := false }
def FnExactTidyMatchingSaid : Prop := fnExactTidyMatchingRow.holds Try.pinned (OpenSpec.ofChange fnExactTidyMatchingSpec)

/-- ITS FALSE NEIGHBOUR: 'it returns false'. Refute it at one input. -/
def fnExactTidyMatchingWrong : ChangeSpec := { name := "fnExactTidyMatching", fn := fun _ => fun
  | [d] => { results := [.lit (.bool false)], args := [d] }
  | _ => none }
def FnExactTidyMatchingWrongFalsely : Prop := fnExactTidyMatchingRow.holds Try.pinned (OpenSpec.ofChange fnExactTidyMatchingWrong)

/- THE SECOND FORM. 'bulk': how many values and letters a reading holds, each counted each time it is reached (what is shared counts as often as it is met; a slice's spare places count too). A statement '..UptoSaid' is the law's where the arguments, and the package variables that the reading takes, are together of bulk at most 1048576: NARROWER than '..Said'. Prove '..Said' where nothing that the law and all that it calls make is longer than what came in: it says more and counts as full. Else prove '..UptoSaid'. A law counts once. -/
mutual
def uptoBulk {H : Type} : DataW H → Nat
  | .lit (.string bytes) => bytes.length + 1
  | .lit _ => 1
  | .nil => 1
  | .ptr d => uptoBulk d + 1
  | .slice elems spare => uptoBulkAll elems + uptoBulkAll spare + 1
  | .agg parts => uptoBulkAll parts + 1
  | .iface _ d => uptoBulk d + 1
  | .map entries => uptoBulkEntries entries + 1
  | .held _ => 1
def uptoBulkAll {H : Type} : List (DataW H) → Nat
  | [] => 0
  | d :: r => uptoBulk d + uptoBulkAll r
def uptoBulkEntries {H : Type} : List (Lit × DataW H) → Nat
  | [] => 0
  | x :: r => uptoBulkEntry x + uptoBulkEntries r
def uptoBulkEntry {H : Type} : Lit × DataW H → Nat
  | (.string bytes, d) => bytes.length + uptoBulk d + 1
  | (_, d) => uptoBulk d + 1
 end
def uptoSmall : (H : Type) → List (DataW H) → Bool := fun _ ds => decide (uptoBulkAll ds ≤ 1048576)
def OpenSpec.upto (s : _root_.Go.ChangeSpec) : _root_.Go.OpenSpec := { _root_.Go.OpenSpec.ofChange s with cond := some uptoSmall }

/-- 'laws.FnExactIsMatching', WHERE WHAT IT READS IS OF BULK AT MOST 1048576: true; the input reads as it did. -/
def fnExactIsMatchingUptoRow : OpenClaim := { program := "ytgpigjjhkemmeaa", sum := "551c0acfe692684db77113b07d47e4016d5cee65056785230d46d76f03928499", func := "loop.example/g01106/laws.FnExactIsMatching", spec := "fnExactIsMatching", apart := false, narrowed := true }
def FnExactIsMatchingUptoSaid : Prop := fnExactIsMatchingUptoRow.holds Try.pinned (OpenSpec.upto fnExactIsMatchingSpec)

/-- 'laws.FnExactIsTidy', WHERE WHAT IT READS IS OF BULK AT MOST 1048576: true; the input reads as it did. -/
def fnExactIsTidyUptoRow : OpenClaim := { program := "ytgpigjjhkemmeaa", sum := "551c0acfe692684db77113b07d47e4016d5cee65056785230d46d76f03928499", func := "loop.example/g01106/laws.FnExactIsTidy", spec := "fnExactIsTidy", apart := false, narrowed := true }
def FnExactIsTidyUptoSaid : Prop := fnExactIsTidyUptoRow.holds Try.pinned (OpenSpec.upto fnExactIsTidySpec)

/-- 'laws.FnExactMirrorMatching', WHERE WHAT IT READS IS OF BULK AT MOST 1048576: true; the input reads as it did. -/
def fnExactMirrorMatchingUptoRow : OpenClaim := { program := "ytgpigjjhkemmeaa", sum := "551c0acfe692684db77113b07d47e4016d5cee65056785230d46d76f03928499", func := "loop.example/g01106/laws.FnExactMirrorMatching", spec := "fnExactMirrorMatching", apart := false, narrowed := true }
def FnExactMirrorMatchingUptoSaid : Prop := fnExactMirrorMatchingUptoRow.holds Try.pinned (OpenSpec.upto fnExactMirrorMatchingSpec)

/-- 'laws.FnExactMatchingText', WHERE WHAT IT READS IS OF BULK AT MOST 1048576: true; the input reads as it did. -/
def fnExactMatchingTextUptoRow : OpenClaim := { program := "ytgpigjjhkemmeaa", sum := "551c0acfe692684db77113b07d47e4016d5cee65056785230d46d76f03928499", func := "loop.example/g01106/laws.FnExactMatchingText", spec := "fnExactMatchingText", apart := false, narrowed := true }
def FnExactMatchingTextUptoSaid : Prop := fnExactMatchingTextUptoRow.holds Try.pinned (OpenSpec.upto fnExactMatchingTextSpec)

/-- 'laws.FnExactNearNestings', WHERE WHAT IT READS IS OF BULK AT MOST 1048576: true; the input reads as it did. -/
def fnExactNearNestingsUptoRow : OpenClaim := { program := "ytgpigjjhkemmeaa", sum := "551c0acfe692684db77113b07d47e4016d5cee65056785230d46d76f03928499", func := "loop.example/g01106/laws.FnExactNearNestings", spec := "fnExactNearNestings", apart := false, narrowed := true }
def FnExactNearNestingsUptoSaid : Prop := fnExactNearNestingsUptoRow.holds Try.pinned (OpenSpec.upto fnExactNearNestingsSpec)

/-- 'laws.FnExactRunsOf', WHERE WHAT IT READS IS OF BULK AT MOST 1048576: true; the input reads as it did. -/
def fnExactRunsOfUptoRow : OpenClaim := { program := "ytgpigjjhkemmeaa", sum := "551c0acfe692684db77113b07d47e4016d5cee65056785230d46d76f03928499", func := "loop.example/g01106/laws.FnExactRunsOf", spec := "fnExactRunsOf", apart := false, narrowed := true }
def FnExactRunsOfUptoSaid : Prop := fnExactRunsOfUptoRow.holds Try.pinned (OpenSpec.upto fnExactRunsOfSpec)

/-- 'laws.FnExactCrossingsOf', WHERE WHAT IT READS IS OF BULK AT MOST 1048576: true; the input reads as it did. -/
def fnExactCrossingsOfUptoRow : OpenClaim := { program := "ytgpigjjhkemmeaa", sum := "551c0acfe692684db77113b07d47e4016d5cee65056785230d46d76f03928499", func := "loop.example/g01106/laws.FnExactCrossingsOf", spec := "fnExactCrossingsOf", apart := false, narrowed := true }
def FnExactCrossingsOfUptoSaid : Prop := fnExactCrossingsOfUptoRow.holds Try.pinned (OpenSpec.upto fnExactCrossingsOfSpec)

/-- 'laws.FnExactArcsOf', WHERE WHAT IT READS IS OF BULK AT MOST 1048576: true; the input reads as it did. -/
def fnExactArcsOfUptoRow : OpenClaim := { program := "ytgpigjjhkemmeaa", sum := "551c0acfe692684db77113b07d47e4016d5cee65056785230d46d76f03928499", func := "loop.example/g01106/laws.FnExactArcsOf", spec := "fnExactArcsOf", apart := false, narrowed := true }
def FnExactArcsOfUptoSaid : Prop := fnExactArcsOfUptoRow.holds Try.pinned (OpenSpec.upto fnExactArcsOfSpec)

/-- 'laws.FnExactOrderOfArcs', WHERE WHAT IT READS IS OF BULK AT MOST 1048576: true; the input reads as it did. -/
def fnExactOrderOfArcsUptoRow : OpenClaim := { program := "ytgpigjjhkemmeaa", sum := "551c0acfe692684db77113b07d47e4016d5cee65056785230d46d76f03928499", func := "loop.example/g01106/laws.FnExactOrderOfArcs", spec := "fnExactOrderOfArcs", unfollowed := true, recurses := true, apart := false, narrowed := true }
def FnExactOrderOfArcsUptoSaid : Prop := fnExactOrderOfArcsUptoRow.holds Try.pinned (OpenSpec.upto fnExactOrderOfArcsSpec)

/-- 'laws.FnExactParseMatching', WHERE WHAT IT READS IS OF BULK AT MOST 1048576: true; the input reads as it did. -/
def fnExactParseMatchingUptoRow : OpenClaim := { program := "ytgpigjjhkemmeaa", sum := "551c0acfe692684db77113b07d47e4016d5cee65056785230d46d76f03928499", func := "loop.example/g01106/laws.FnExactParseMatching", spec := "fnExactParseMatching", apart := false, narrowed := true }
def FnExactParseMatchingUptoSaid : Prop := fnExactParseMatchingUptoRow.holds Try.pinned (OpenSpec.upto fnExactParseMatchingSpec)

/-- 'laws.FnExactMatrixOfMatching', WHERE WHAT IT READS IS OF BULK AT MOST 1048576: true; the input reads as it did. -/
def fnExactMatrixOfMatchingUptoRow : OpenClaim := { program := "ytgpigjjhkemmeaa", sum := "551c0acfe692684db77113b07d47e4016d5cee65056785230d46d76f03928499", func := "loop.example/g01106/laws.FnExactMatrixOfMatching", spec := "fnExactMatrixOfMatching", apart := false, narrowed := true }
def FnExactMatrixOfMatchingUptoSaid : Prop := fnExactMatrixOfMatchingUptoRow.holds Try.pinned (OpenSpec.upto fnExactMatrixOfMatchingSpec)

/-- 'laws.FnExactTidyMatching', WHERE WHAT IT READS IS OF BULK AT MOST 1048576: true; the input reads as it did. -/
def fnExactTidyMatchingUptoRow : OpenClaim := { program := "ytgpigjjhkemmeaa", sum := "551c0acfe692684db77113b07d47e4016d5cee65056785230d46d76f03928499", func := "loop.example/g01106/laws.FnExactTidyMatching", spec := "fnExactTidyMatching", apart := false, narrowed := true }
def FnExactTidyMatchingUptoSaid : Prop := fnExactTidyMatchingUptoRow.holds Try.pinned (OpenSpec.upto fnExactTidyMatchingSpec)

end Rows
end Go.Proofs.Ytgpigjjhkemmeaa
