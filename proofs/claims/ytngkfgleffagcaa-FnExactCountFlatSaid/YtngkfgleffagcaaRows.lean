/-
  No cell of these rows narrows 'for every input' (looked for: loops, veiled, ifaces, maps, wideKeys, modest, calm, conditions, laid).
  DERIVED. THE GIVEN ROWS OF THIS SEAT. 6 by the template 'for every input the law returns true; each argument reads behind the call as it read before'; 0 by the template 'total and deterministic' (their statements: YtngkfgleffagcaaTotals.lean).
  GIVEN WITH THE SEED: the statements are not yours to turn. If you find one false, say at which input.
  Laid BY PROGRAM, IN A SANDBOX (cutbox-rows.mjs): the forced cells as the released guide's own fill.sh prints them over the translation 61fcfec39409e106… (all of the seat's roots in one cut). By AI agents, Wed Nov 11 2026. No macro, syntax, notation, axiom, sorry.
-/
import Derived.Test.YtngkfgleffagcaaChecked
import GoSem.Claim
import GoSem.ClaimJoined
import GoSem.ClaimMapViews
import Derived.JoinedTies
import Derived.KernelRfl
namespace Go.Proofs.Ytngkfgleffagcaa
/- THE CELL 'sum', in the pinned program and in every row, IS THE sha256 OF THE DUMP (.gsa) THAT YtngkfgleffagcaaProg.lean LOADS. Nothing in Lean hashes anything: it is a label: what it is worth is what the hold of that sum in a sandbox is worth. -/
noncomputable def Try.pinned : Pinned := { name := "ytngkfgleffagcaa", sum := "61fcfec39409e1069d0f7966d67c55da78ed90f81b10c7b494c28fca6c307f60", checked := Try.checked }
namespace Rows
def none {H : Type} : Left H := { results := [], args := [] }

/-- 'laws.FnExactTidyMatching': WHATEVER THE INPUT: true; the input reads as it did. -/
def fnExactTidyMatchingSpec : ChangeSpec := { name := "fnExactTidyMatching", fn := fun _ => fun
  | [d] => { results := [.lit (.bool true)], args := [d] }
  | _ => none }
def fnExactTidyMatchingRow : OpenClaim := { program := "ytngkfgleffagcaa", sum := "61fcfec39409e1069d0f7966d67c55da78ed90f81b10c7b494c28fca6c307f60", func := "loop.example/g01106/laws.FnExactTidyMatching", spec := "fnExactTidyMatching", plainKeys := false, apart := false }
def FnExactTidyMatchingSaid : Prop := fnExactTidyMatchingRow.holds Try.pinned (OpenSpec.ofChange fnExactTidyMatchingSpec)

/-- ITS FALSE NEIGHBOUR: 'it returns false'. Refute it at one input. -/
def fnExactTidyMatchingWrong : ChangeSpec := { name := "fnExactTidyMatching", fn := fun _ => fun
  | [d] => { results := [.lit (.bool false)], args := [d] }
  | _ => none }
def FnExactTidyMatchingWrongFalsely : Prop := fnExactTidyMatchingRow.holds Try.pinned (OpenSpec.ofChange fnExactTidyMatchingWrong)

/-- 'laws.FnExactMatchingOfMatrix': WHATEVER THE INPUT: true; the input reads as it did. -/
def fnExactMatchingOfMatrixSpec : ChangeSpec := { name := "fnExactMatchingOfMatrix", fn := fun _ => fun
  | [d] => { results := [.lit (.bool true)], args := [d] }
  | _ => none }
def fnExactMatchingOfMatrixRow : OpenClaim := { program := "ytngkfgleffagcaa", sum := "61fcfec39409e1069d0f7966d67c55da78ed90f81b10c7b494c28fca6c307f60", func := "loop.example/g01106/laws.FnExactMatchingOfMatrix", spec := "fnExactMatchingOfMatrix", unfollowed := true, recurses := true, plainKeys := false, apart := false }
def FnExactMatchingOfMatrixSaid : Prop := fnExactMatchingOfMatrixRow.holds Try.pinned (OpenSpec.ofChange fnExactMatchingOfMatrixSpec)

/-- ITS FALSE NEIGHBOUR: 'it returns false'. Refute it at one input. -/
def fnExactMatchingOfMatrixWrong : ChangeSpec := { name := "fnExactMatchingOfMatrix", fn := fun _ => fun
  | [d] => { results := [.lit (.bool false)], args := [d] }
  | _ => none }
def FnExactMatchingOfMatrixWrongFalsely : Prop := fnExactMatchingOfMatrixRow.holds Try.pinned (OpenSpec.ofChange fnExactMatchingOfMatrixWrong)

/-- 'laws.FnExactCountFlat': WHATEVER THE INPUT: true; the input reads as it did. -/
def fnExactCountFlatSpec : ChangeSpec := { name := "fnExactCountFlat", fn := fun _ => fun
  | [d] => { results := [.lit (.bool true)], args := [d] }
  | _ => none }
def fnExactCountFlatRow : OpenClaim := { program := "ytngkfgleffagcaa", sum := "61fcfec39409e1069d0f7966d67c55da78ed90f81b10c7b494c28fca6c307f60", func := "loop.example/g01106/laws.FnExactCountFlat", spec := "fnExactCountFlat", unfollowed := true, recurses := true, plainKeys := false, apart := false }
def FnExactCountFlatSaid : Prop := fnExactCountFlatRow.holds Try.pinned (OpenSpec.ofChange fnExactCountFlatSpec)

/-- ITS FALSE NEIGHBOUR: 'it returns false'. Refute it at one input. -/
def fnExactCountFlatWrong : ChangeSpec := { name := "fnExactCountFlat", fn := fun _ => fun
  | [d] => { results := [.lit (.bool false)], args := [d] }
  | _ => none }
def FnExactCountFlatWrongFalsely : Prop := fnExactCountFlatRow.holds Try.pinned (OpenSpec.ofChange fnExactCountFlatWrong)

/-- 'laws.FnExactCountNamed': WHATEVER THE INPUT: true; the input reads as it did. -/
def fnExactCountNamedSpec : ChangeSpec := { name := "fnExactCountNamed", fn := fun _ => fun
  | [d] => { results := [.lit (.bool true)], args := [d] }
  | _ => none }
def fnExactCountNamedRow : OpenClaim := { program := "ytngkfgleffagcaa", sum := "61fcfec39409e1069d0f7966d67c55da78ed90f81b10c7b494c28fca6c307f60", func := "loop.example/g01106/laws.FnExactCountNamed", spec := "fnExactCountNamed", inPlace := ["slices.overlaps[int]", "slices.overlaps[[]int]"], unfollowed := true, recurses := true, plainKeys := false, apart := false }
def FnExactCountNamedSaid : Prop := fnExactCountNamedRow.holds Try.pinned (OpenSpec.ofChange fnExactCountNamedSpec)

/-- ITS FALSE NEIGHBOUR: 'it returns false'. Refute it at one input. -/
def fnExactCountNamedWrong : ChangeSpec := { name := "fnExactCountNamed", fn := fun _ => fun
  | [d] => { results := [.lit (.bool false)], args := [d] }
  | _ => none }
def FnExactCountNamedWrongFalsely : Prop := fnExactCountNamedRow.holds Try.pinned (OpenSpec.ofChange fnExactCountNamedWrong)

/-- 'laws.FnExactListMatrices': WHATEVER THE INPUT: true; the input reads as it did. -/
def fnExactListMatricesSpec : ChangeSpec := { name := "fnExactListMatrices", fn := fun _ => fun
  | [d] => { results := [.lit (.bool true)], args := [d] }
  | _ => none }
def fnExactListMatricesRow : OpenClaim := { program := "ytngkfgleffagcaa", sum := "61fcfec39409e1069d0f7966d67c55da78ed90f81b10c7b494c28fca6c307f60", func := "loop.example/g01106/laws.FnExactListMatrices", spec := "fnExactListMatrices", inPlace := ["slices.overlaps[int]", "slices.overlaps[[]int]"], unfollowed := true, recurses := true, plainKeys := false, apart := false }
def FnExactListMatricesSaid : Prop := fnExactListMatricesRow.holds Try.pinned (OpenSpec.ofChange fnExactListMatricesSpec)

/-- ITS FALSE NEIGHBOUR: 'it returns false'. Refute it at one input. -/
def fnExactListMatricesWrong : ChangeSpec := { name := "fnExactListMatrices", fn := fun _ => fun
  | [d] => { results := [.lit (.bool false)], args := [d] }
  | _ => none }
def FnExactListMatricesWrongFalsely : Prop := fnExactListMatricesRow.holds Try.pinned (OpenSpec.ofChange fnExactListMatricesWrong)

/-- 'laws.FnExactListTidy': WHATEVER THE INPUT: true; the input reads as it did. -/
def fnExactListTidySpec : ChangeSpec := { name := "fnExactListTidy", fn := fun _ => fun
  | [d] => { results := [.lit (.bool true)], args := [d] }
  | _ => none }
def fnExactListTidyRow : OpenClaim := { program := "ytngkfgleffagcaa", sum := "61fcfec39409e1069d0f7966d67c55da78ed90f81b10c7b494c28fca6c307f60", func := "loop.example/g01106/laws.FnExactListTidy", spec := "fnExactListTidy", inPlace := ["slices.overlaps[int]", "slices.overlaps[[]int]"], unfollowed := true, recurses := true, plainKeys := false, apart := false }
def FnExactListTidySaid : Prop := fnExactListTidyRow.holds Try.pinned (OpenSpec.ofChange fnExactListTidySpec)

/-- ITS FALSE NEIGHBOUR: 'it returns false'. Refute it at one input. -/
def fnExactListTidyWrong : ChangeSpec := { name := "fnExactListTidy", fn := fun _ => fun
  | [d] => { results := [.lit (.bool false)], args := [d] }
  | _ => none }
def FnExactListTidyWrongFalsely : Prop := fnExactListTidyRow.holds Try.pinned (OpenSpec.ofChange fnExactListTidyWrong)

/- THE SECOND FORM. 'bulk': how many values and letters a reading holds, each counted each time it is reached (what is shared counts as often as it is met; a slice's spare places count too). A statement '..UptoSaid' is the law's where the arguments, and the package variables that the reading takes, are together of bulk at most 1048576: NARROWER than '..Said'. Prove '..Said' where nothing that the law and all that it calls make is longer than what came in: it says more and counts as full. Else prove '..UptoSaid'. A law counts once. -/
mutual
def uptoBulk {H : Type} : DataW H → Nat
  | .lit (.string bytes) => bytes.length + 1
  | .lit _ => 1
  | .nil => 1
  | .ptr d => uptoBulk d + 1
  | .slice elems spare => uptoBulkAll elems + uptoBulkAll spare + 1
  | .agg parts => uptoBulkAll parts + 1
  | .iface _ d => uptoBulk d + 1
  | .map entries => uptoBulkEntries entries + 1
  | .held _ => 1
def uptoBulkAll {H : Type} : List (DataW H) → Nat
  | [] => 0
  | d :: r => uptoBulk d + uptoBulkAll r
def uptoBulkEntries {H : Type} : List (Lit × DataW H) → Nat
  | [] => 0
  | x :: r => uptoBulkEntry x + uptoBulkEntries r
def uptoBulkEntry {H : Type} : Lit × DataW H → Nat
  | (.string bytes, d) => bytes.length + uptoBulk d + 1
  | (_, d) => uptoBulk d + 1
 end
def uptoSmall : (H : Type) → List (DataW H) → Bool := fun _ ds => decide (uptoBulkAll ds ≤ 1048576)
def OpenSpec.upto (s : _root_.Go.ChangeSpec) : _root_.Go.OpenSpec := { _root_.Go.OpenSpec.ofChange s with cond := some uptoSmall }

/-- 'laws.FnExactTidyMatching', WHERE WHAT IT READS IS OF BULK AT MOST 1048576: true; the input reads as it did. -/
def fnExactTidyMatchingUptoRow : OpenClaim := { program := "ytngkfgleffagcaa", sum := "61fcfec39409e1069d0f7966d67c55da78ed90f81b10c7b494c28fca6c307f60", func := "loop.example/g01106/laws.FnExactTidyMatching", spec := "fnExactTidyMatching", plainKeys := false, apart := false, narrowed := true }
def FnExactTidyMatchingUptoSaid : Prop := fnExactTidyMatchingUptoRow.holds Try.pinned (OpenSpec.upto fnExactTidyMatchingSpec)

/-- 'laws.FnExactMatchingOfMatrix', WHERE WHAT IT READS IS OF BULK AT MOST 1048576: true; the input reads as it did. -/
def fnExactMatchingOfMatrixUptoRow : OpenClaim := { program := "ytngkfgleffagcaa", sum := "61fcfec39409e1069d0f7966d67c55da78ed90f81b10c7b494c28fca6c307f60", func := "loop.example/g01106/laws.FnExactMatchingOfMatrix", spec := "fnExactMatchingOfMatrix", unfollowed := true, recurses := true, plainKeys := false, apart := false, narrowed := true }
def FnExactMatchingOfMatrixUptoSaid : Prop := fnExactMatchingOfMatrixUptoRow.holds Try.pinned (OpenSpec.upto fnExactMatchingOfMatrixSpec)

/-- 'laws.FnExactCountFlat', WHERE WHAT IT READS IS OF BULK AT MOST 1048576: true; the input reads as it did. -/
def fnExactCountFlatUptoRow : OpenClaim := { program := "ytngkfgleffagcaa", sum := "61fcfec39409e1069d0f7966d67c55da78ed90f81b10c7b494c28fca6c307f60", func := "loop.example/g01106/laws.FnExactCountFlat", spec := "fnExactCountFlat", unfollowed := true, recurses := true, plainKeys := false, apart := false, narrowed := true }
def FnExactCountFlatUptoSaid : Prop := fnExactCountFlatUptoRow.holds Try.pinned (OpenSpec.upto fnExactCountFlatSpec)

/-- 'laws.FnExactCountNamed', WHERE WHAT IT READS IS OF BULK AT MOST 1048576: true; the input reads as it did. -/
def fnExactCountNamedUptoRow : OpenClaim := { program := "ytngkfgleffagcaa", sum := "61fcfec39409e1069d0f7966d67c55da78ed90f81b10c7b494c28fca6c307f60", func := "loop.example/g01106/laws.FnExactCountNamed", spec := "fnExactCountNamed", inPlace := ["slices.overlaps[int]", "slices.overlaps[[]int]"], unfollowed := true, recurses := true, plainKeys := false, apart := false, narrowed := true }
def FnExactCountNamedUptoSaid : Prop := fnExactCountNamedUptoRow.holds Try.pinned (OpenSpec.upto fnExactCountNamedSpec)

/-- 'laws.FnExactListMatrices', WHERE WHAT IT READS IS OF BULK AT MOST 1048576: true; the input reads as it did. -/
def fnExactListMatricesUptoRow : OpenClaim := { program := "ytngkfgleffagcaa", sum := "61fcfec39409e1069d0f7966d67c55da78ed90f81b10c7b494c28fca6c307f60", func := "loop.example/g01106/laws.FnExactListMatrices", spec := "fnExactListMatrices", inPlace := ["slices.overlaps[int]", "slices.overlaps[[]int]"], unfollowed := true, recurses := true, plainKeys := false, apart := false, narrowed := true }
def FnExactListMatricesUptoSaid : Prop := fnExactListMatricesUptoRow.holds Try.pinned (OpenSpec.upto fnExactListMatricesSpec)

/-- 'laws.FnExactListTidy', WHERE WHAT IT READS IS OF BULK AT MOST 1048576: true; the input reads as it did. -/
def fnExactListTidyUptoRow : OpenClaim := { program := "ytngkfgleffagcaa", sum := "61fcfec39409e1069d0f7966d67c55da78ed90f81b10c7b494c28fca6c307f60", func := "loop.example/g01106/laws.FnExactListTidy", spec := "fnExactListTidy", inPlace := ["slices.overlaps[int]", "slices.overlaps[[]int]"], unfollowed := true, recurses := true, plainKeys := false, apart := false, narrowed := true }
def FnExactListTidyUptoSaid : Prop := fnExactListTidyUptoRow.holds Try.pinned (OpenSpec.upto fnExactListTidySpec)

end Rows
end Go.Proofs.Ytngkfgleffagcaa
