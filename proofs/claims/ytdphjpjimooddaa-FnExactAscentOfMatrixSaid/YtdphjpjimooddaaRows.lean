/-
  No cell of these rows narrows 'for every input' (looked for: loops, veiled, ifaces, maps, wideKeys, modest, calm, conditions, laid).
  DERIVED. THE GIVEN ROWS OF THIS SEAT. 12 by the template 'for every input the law returns true; each argument reads behind the call as it read before'; 0 by the template 'total and deterministic' (their statements: YtdphjpjimooddaaTotals.lean).
  GIVEN WITH THE SEED: the statements are not yours to turn. If you find one false, say at which input.
  Laid BY PROGRAM, IN A SANDBOX (cutbox-rows.mjs): the forced cells as the released guide's own fill.sh prints them over the translation e5f52a4e450665a9… (all of the seat's roots in one cut). By AI agents, Wed Nov 11 2026. No macro, syntax, notation, axiom, sorry.
-/
import Derived.Test.YtdphjpjimooddaaChecked
import GoSem.Claim
import GoSem.ClaimJoined
import GoSem.ClaimMapViews
import Derived.JoinedTies
import Derived.KernelRfl
namespace Go.Proofs.Ytdphjpjimooddaa
/- THE CELL 'sum', in the pinned program and in every row, IS THE sha256 OF THE DUMP (.gsa) THAT YtdphjpjimooddaaProg.lean LOADS. Nothing in Lean hashes anything: it is a label: what it is worth is what the hold of that sum in a sandbox is worth. -/
noncomputable def Try.pinned : Pinned := { name := "ytdphjpjimooddaa", sum := "e5f52a4e450665a968a7d6138c4198178b21ee28efd48a117c4afd1333d5975a", checked := Try.checked }
namespace Rows
def none {H : Type} : Left H := { results := [], args := [] }

/-- 'laws.FnExactIsMatrix': WHATEVER THE INPUT: true; the input reads as it did. -/
def fnExactIsMatrixSpec : ChangeSpec := { name := "fnExactIsMatrix", fn := fun _ => fun
  | [d] => { results := [.lit (.bool true)], args := [d] }
  | _ => none }
def fnExactIsMatrixRow : OpenClaim := { program := "ytdphjpjimooddaa", sum := "e5f52a4e450665a968a7d6138c4198178b21ee28efd48a117c4afd1333d5975a", func := "loop.example/g01106/laws.FnExactIsMatrix", spec := "fnExactIsMatrix", unfollowed := true, recurses := true, apart := false }
def FnExactIsMatrixSaid : Prop := fnExactIsMatrixRow.holds Try.pinned (OpenSpec.ofChange fnExactIsMatrixSpec)

/-- ITS FALSE NEIGHBOUR: 'it returns false'. Refute it at one input. -/
def fnExactIsMatrixWrong : ChangeSpec := { name := "fnExactIsMatrix", fn := fun _ => fun
  | [d] => { results := [.lit (.bool false)], args := [d] }
  | _ => none }
def FnExactIsMatrixWrongFalsely : Prop := fnExactIsMatrixRow.holds Try.pinned (OpenSpec.ofChange fnExactIsMatrixWrong)

/-- 'laws.FnExactSumOfMatrix': WHATEVER THE INPUT: true; the input reads as it did. -/
def fnExactSumOfMatrixSpec : ChangeSpec := { name := "fnExactSumOfMatrix", fn := fun _ => fun
  | [d] => { results := [.lit (.bool true)], args := [d] }
  | _ => none }
def fnExactSumOfMatrixRow : OpenClaim := { program := "ytdphjpjimooddaa", sum := "e5f52a4e450665a968a7d6138c4198178b21ee28efd48a117c4afd1333d5975a", func := "loop.example/g01106/laws.FnExactSumOfMatrix", spec := "fnExactSumOfMatrix", unfollowed := true, recurses := true, apart := false }
def FnExactSumOfMatrixSaid : Prop := fnExactSumOfMatrixRow.holds Try.pinned (OpenSpec.ofChange fnExactSumOfMatrixSpec)

/-- ITS FALSE NEIGHBOUR: 'it returns false'. Refute it at one input. -/
def fnExactSumOfMatrixWrong : ChangeSpec := { name := "fnExactSumOfMatrix", fn := fun _ => fun
  | [d] => { results := [.lit (.bool false)], args := [d] }
  | _ => none }
def FnExactSumOfMatrixWrongFalsely : Prop := fnExactSumOfMatrixRow.holds Try.pinned (OpenSpec.ofChange fnExactSumOfMatrixWrong)

/-- 'laws.FnExactTopOfMatrix': WHATEVER THE INPUT: true; the input reads as it did. -/
def fnExactTopOfMatrixSpec : ChangeSpec := { name := "fnExactTopOfMatrix", fn := fun _ => fun
  | [d] => { results := [.lit (.bool true)], args := [d] }
  | _ => none }
def fnExactTopOfMatrixRow : OpenClaim := { program := "ytdphjpjimooddaa", sum := "e5f52a4e450665a968a7d6138c4198178b21ee28efd48a117c4afd1333d5975a", func := "loop.example/g01106/laws.FnExactTopOfMatrix", spec := "fnExactTopOfMatrix", unfollowed := true, recurses := true, apart := false }
def FnExactTopOfMatrixSaid : Prop := fnExactTopOfMatrixRow.holds Try.pinned (OpenSpec.ofChange fnExactTopOfMatrixSpec)

/-- ITS FALSE NEIGHBOUR: 'it returns false'. Refute it at one input. -/
def fnExactTopOfMatrixWrong : ChangeSpec := { name := "fnExactTopOfMatrix", fn := fun _ => fun
  | [d] => { results := [.lit (.bool false)], args := [d] }
  | _ => none }
def FnExactTopOfMatrixWrongFalsely : Prop := fnExactTopOfMatrixRow.holds Try.pinned (OpenSpec.ofChange fnExactTopOfMatrixWrong)

/-- 'laws.FnExactRowSums': WHATEVER THE INPUT: true; the input reads as it did. -/
def fnExactRowSumsSpec : ChangeSpec := { name := "fnExactRowSums", fn := fun _ => fun
  | [d] => { results := [.lit (.bool true)], args := [d] }
  | _ => none }
def fnExactRowSumsRow : OpenClaim := { program := "ytdphjpjimooddaa", sum := "e5f52a4e450665a968a7d6138c4198178b21ee28efd48a117c4afd1333d5975a", func := "loop.example/g01106/laws.FnExactRowSums", spec := "fnExactRowSums", unfollowed := true, recurses := true, apart := false }
def FnExactRowSumsSaid : Prop := fnExactRowSumsRow.holds Try.pinned (OpenSpec.ofChange fnExactRowSumsSpec)

/-- ITS FALSE NEIGHBOUR: 'it returns false'. Refute it at one input. -/
def fnExactRowSumsWrong : ChangeSpec := { name := "fnExactRowSums", fn := fun _ => fun
  | [d] => { results := [.lit (.bool false)], args := [d] }
  | _ => none }
def FnExactRowSumsWrongFalsely : Prop := fnExactRowSumsRow.holds Try.pinned (OpenSpec.ofChange fnExactRowSumsWrong)

/-- 'laws.FnExactNamedCount': WHATEVER THE INPUT: true; the input reads as it did. -/
def fnExactNamedCountSpec : ChangeSpec := { name := "fnExactNamedCount", fn := fun _ => fun
  | [d] => { results := [.lit (.bool true)], args := [d] }
  | _ => none }
def fnExactNamedCountRow : OpenClaim := { program := "ytdphjpjimooddaa", sum := "e5f52a4e450665a968a7d6138c4198178b21ee28efd48a117c4afd1333d5975a", func := "loop.example/g01106/laws.FnExactNamedCount", spec := "fnExactNamedCount", unfollowed := true, recurses := true, apart := false }
def FnExactNamedCountSaid : Prop := fnExactNamedCountRow.holds Try.pinned (OpenSpec.ofChange fnExactNamedCountSpec)

/-- ITS FALSE NEIGHBOUR: 'it returns false'. Refute it at one input. -/
def fnExactNamedCountWrong : ChangeSpec := { name := "fnExactNamedCount", fn := fun _ => fun
  | [d] => { results := [.lit (.bool false)], args := [d] }
  | _ => none }
def FnExactNamedCountWrongFalsely : Prop := fnExactNamedCountRow.holds Try.pinned (OpenSpec.ofChange fnExactNamedCountWrong)

/-- 'laws.FnExactDualMatrix': WHATEVER THE INPUT: true; the input reads as it did. -/
def fnExactDualMatrixSpec : ChangeSpec := { name := "fnExactDualMatrix", fn := fun _ => fun
  | [d] => { results := [.lit (.bool true)], args := [d] }
  | _ => none }
def fnExactDualMatrixRow : OpenClaim := { program := "ytdphjpjimooddaa", sum := "e5f52a4e450665a968a7d6138c4198178b21ee28efd48a117c4afd1333d5975a", func := "loop.example/g01106/laws.FnExactDualMatrix", spec := "fnExactDualMatrix", unfollowed := true, recurses := true, apart := false }
def FnExactDualMatrixSaid : Prop := fnExactDualMatrixRow.holds Try.pinned (OpenSpec.ofChange fnExactDualMatrixSpec)

/-- ITS FALSE NEIGHBOUR: 'it returns false'. Refute it at one input. -/
def fnExactDualMatrixWrong : ChangeSpec := { name := "fnExactDualMatrix", fn := fun _ => fun
  | [d] => { results := [.lit (.bool false)], args := [d] }
  | _ => none }
def FnExactDualMatrixWrongFalsely : Prop := fnExactDualMatrixRow.holds Try.pinned (OpenSpec.ofChange fnExactDualMatrixWrong)

/-- 'laws.FnExactFlattenMatrix': WHATEVER THE INPUT: true; the input reads as it did. -/
def fnExactFlattenMatrixSpec : ChangeSpec := { name := "fnExactFlattenMatrix", fn := fun _ => fun
  | [d] => { results := [.lit (.bool true)], args := [d] }
  | _ => none }
def fnExactFlattenMatrixRow : OpenClaim := { program := "ytdphjpjimooddaa", sum := "e5f52a4e450665a968a7d6138c4198178b21ee28efd48a117c4afd1333d5975a", func := "loop.example/g01106/laws.FnExactFlattenMatrix", spec := "fnExactFlattenMatrix", unfollowed := true, recurses := true, apart := false }
def FnExactFlattenMatrixSaid : Prop := fnExactFlattenMatrixRow.holds Try.pinned (OpenSpec.ofChange fnExactFlattenMatrixSpec)

/-- ITS FALSE NEIGHBOUR: 'it returns false'. Refute it at one input. -/
def fnExactFlattenMatrixWrong : ChangeSpec := { name := "fnExactFlattenMatrix", fn := fun _ => fun
  | [d] => { results := [.lit (.bool false)], args := [d] }
  | _ => none }
def FnExactFlattenMatrixWrongFalsely : Prop := fnExactFlattenMatrixRow.holds Try.pinned (OpenSpec.ofChange fnExactFlattenMatrixWrong)

/-- 'laws.FnExactMatchingOfMatrix': WHATEVER THE INPUT: true; the input reads as it did. -/
def fnExactMatchingOfMatrixSpec : ChangeSpec := { name := "fnExactMatchingOfMatrix", fn := fun _ => fun
  | [d] => { results := [.lit (.bool true)], args := [d] }
  | _ => none }
def fnExactMatchingOfMatrixRow : OpenClaim := { program := "ytdphjpjimooddaa", sum := "e5f52a4e450665a968a7d6138c4198178b21ee28efd48a117c4afd1333d5975a", func := "loop.example/g01106/laws.FnExactMatchingOfMatrix", spec := "fnExactMatchingOfMatrix", unfollowed := true, recurses := true, apart := false }
def FnExactMatchingOfMatrixSaid : Prop := fnExactMatchingOfMatrixRow.holds Try.pinned (OpenSpec.ofChange fnExactMatchingOfMatrixSpec)

/-- ITS FALSE NEIGHBOUR: 'it returns false'. Refute it at one input. -/
def fnExactMatchingOfMatrixWrong : ChangeSpec := { name := "fnExactMatchingOfMatrix", fn := fun _ => fun
  | [d] => { results := [.lit (.bool false)], args := [d] }
  | _ => none }
def FnExactMatchingOfMatrixWrongFalsely : Prop := fnExactMatchingOfMatrixRow.holds Try.pinned (OpenSpec.ofChange fnExactMatchingOfMatrixWrong)

/-- 'laws.FnExactOrderOfMatrix': WHATEVER THE INPUT: true; the input reads as it did. -/
def fnExactOrderOfMatrixSpec : ChangeSpec := { name := "fnExactOrderOfMatrix", fn := fun _ => fun
  | [d] => { results := [.lit (.bool true)], args := [d] }
  | _ => none }
def fnExactOrderOfMatrixRow : OpenClaim := { program := "ytdphjpjimooddaa", sum := "e5f52a4e450665a968a7d6138c4198178b21ee28efd48a117c4afd1333d5975a", func := "loop.example/g01106/laws.FnExactOrderOfMatrix", spec := "fnExactOrderOfMatrix", unfollowed := true, recurses := true, apart := false }
def FnExactOrderOfMatrixSaid : Prop := fnExactOrderOfMatrixRow.holds Try.pinned (OpenSpec.ofChange fnExactOrderOfMatrixSpec)

/-- ITS FALSE NEIGHBOUR: 'it returns false'. Refute it at one input. -/
def fnExactOrderOfMatrixWrong : ChangeSpec := { name := "fnExactOrderOfMatrix", fn := fun _ => fun
  | [d] => { results := [.lit (.bool false)], args := [d] }
  | _ => none }
def FnExactOrderOfMatrixWrongFalsely : Prop := fnExactOrderOfMatrixRow.holds Try.pinned (OpenSpec.ofChange fnExactOrderOfMatrixWrong)

/-- 'laws.FnExactShrinkMatrix': WHATEVER THE INPUT: true; the input reads as it did. -/
def fnExactShrinkMatrixSpec : ChangeSpec := { name := "fnExactShrinkMatrix", fn := fun _ => fun
  | [d] => { results := [.lit (.bool true)], args := [d] }
  | _ => none }
def fnExactShrinkMatrixRow : OpenClaim := { program := "ytdphjpjimooddaa", sum := "e5f52a4e450665a968a7d6138c4198178b21ee28efd48a117c4afd1333d5975a", func := "loop.example/g01106/laws.FnExactShrinkMatrix", spec := "fnExactShrinkMatrix", unfollowed := true, recurses := true, apart := false }
def FnExactShrinkMatrixSaid : Prop := fnExactShrinkMatrixRow.holds Try.pinned (OpenSpec.ofChange fnExactShrinkMatrixSpec)

/-- ITS FALSE NEIGHBOUR: 'it returns false'. Refute it at one input. -/
def fnExactShrinkMatrixWrong : ChangeSpec := { name := "fnExactShrinkMatrix", fn := fun _ => fun
  | [d] => { results := [.lit (.bool false)], args := [d] }
  | _ => none }
def FnExactShrinkMatrixWrongFalsely : Prop := fnExactShrinkMatrixRow.holds Try.pinned (OpenSpec.ofChange fnExactShrinkMatrixWrong)

/-- 'laws.FnExactAscentOfMatrix': WHATEVER THE INPUT: true; the input reads as it did. -/
def fnExactAscentOfMatrixSpec : ChangeSpec := { name := "fnExactAscentOfMatrix", fn := fun _ => fun
  | [d] => { results := [.lit (.bool true)], args := [d] }
  | _ => none }
def fnExactAscentOfMatrixRow : OpenClaim := { program := "ytdphjpjimooddaa", sum := "e5f52a4e450665a968a7d6138c4198178b21ee28efd48a117c4afd1333d5975a", func := "loop.example/g01106/laws.FnExactAscentOfMatrix", spec := "fnExactAscentOfMatrix", unfollowed := true, recurses := true, apart := false }
def FnExactAscentOfMatrixSaid : Prop := fnExactAscentOfMatrixRow.holds Try.pinned (OpenSpec.ofChange fnExactAscentOfMatrixSpec)

/-- ITS FALSE NEIGHBOUR: 'it returns false'. Refute it at one input. -/
def fnExactAscentOfMatrixWrong : ChangeSpec := { name := "fnExactAscentOfMatrix", fn := fun _ => fun
  | [d] => { results := [.lit (.bool false)], args := [d] }
  | _ => none }
def FnExactAscentOfMatrixWrongFalsely : Prop := fnExactAscentOfMatrixRow.holds Try.pinned (OpenSpec.ofChange fnExactAscentOfMatrixWrong)

/-- 'laws.FnExactGrowMatrix': WHATEVER THE INPUT: true; the input reads as it did. -/
def fnExactGrowMatrixSpec : ChangeSpec := { name := "fnExactGrowMatrix", fn := fun _ => fun
  | [d1, d2] => { results := [.lit (.bool true)], args := [d1, d2] }
  | _ => none }
def fnExactGrowMatrixRow : OpenClaim := { program := "ytdphjpjimooddaa", sum := "e5f52a4e450665a968a7d6138c4198178b21ee28efd48a117c4afd1333d5975a", func := "loop.example/g01106/laws.FnExactGrowMatrix", spec := "fnExactGrowMatrix", inPlace := ["slices.overlaps[int]", "slices.overlaps[[]int]"], unfollowed := true, recurses := true, apart := false }
def FnExactGrowMatrixSaid : Prop := fnExactGrowMatrixRow.holds Try.pinned (OpenSpec.ofChange fnExactGrowMatrixSpec)

/-- ITS FALSE NEIGHBOUR: 'it returns false'. Refute it at one input. -/
def fnExactGrowMatrixWrong : ChangeSpec := { name := "fnExactGrowMatrix", fn := fun _ => fun
  | [d1, d2] => { results := [.lit (.bool false)], args := [d1, d2] }
  | _ => none }
def FnExactGrowMatrixWrongFalsely : Prop := fnExactGrowMatrixRow.holds Try.pinned (OpenSpec.ofChange fnExactGrowMatrixWrong)

/- THE SECOND FORM. 'bulk': how many values and letters a reading holds, each counted each time it is reached (what is shared counts as often as it is met; a slice's spare places count too). A statement '..UptoSaid' is the law's where the arguments, and the package variables that the reading takes, are together of bulk at most 1048576: NARROWER than '..Said'. Prove '..Said' where nothing that the law and all that it calls make is longer than what came in: it says more and counts as full. Else prove '..UptoSaid'. A law counts once. -/
mutual
def uptoBulk {H : Type} : DataW H → Nat
  | .lit (.string bytes) => bytes.length + 1
  | .lit _ => 1
  | .nil => 1
  | .ptr d => uptoBulk d + 1
  | .slice elems spare => uptoBulkAll elems + uptoBulkAll spare + 1
  | .agg parts => uptoBulkAll parts + 1
  | .iface _ d => uptoBulk d + 1
  | .map entries => uptoBulkEntries entries + 1
  | .held _ => 1
def uptoBulkAll {H : Type} : List (DataW H) → Nat
  | [] => 0
  | d :: r => uptoBulk d + uptoBulkAll r
def uptoBulkEntries {H : Type} : List (Lit × DataW H) → Nat
  | [] => 0
  | x :: r => uptoBulkEntry x + uptoBulkEntries r
def uptoBulkEntry {H : Type} : Lit × DataW H → Nat
  | (.string bytes, d) => bytes.length + uptoBulk d + 1
  | (_, d) => uptoBulk d + 1
 end
def uptoSmall : (H : Type) → List (DataW H) → Bool := fun _ ds => decide (uptoBulkAll ds ≤ 1048576)
def OpenSpec.upto (s : _root_.Go.ChangeSpec) : _root_.Go.OpenSpec := { _root_.Go.OpenSpec.ofChange s with cond := some uptoSmall }

/-- 'laws.FnExactIsMatrix', WHERE WHAT IT READS IS OF BULK AT MOST 1048576: true; the input reads as it did. -/
def fnExactIsMatrixUptoRow : OpenClaim := { program := "ytdphjpjimooddaa", sum := "e5f52a4e450665a968a7d6138c4198178b21ee28efd48a117c4afd1333d5975a", func := "loop.example/g01106/laws.FnExactIsMatrix", spec := "fnExactIsMatrix", unfollowed := true, recurses := true, apart := false, narrowed := true }
def FnExactIsMatrixUptoSaid : Prop := fnExactIsMatrixUptoRow.holds Try.pinned (OpenSpec.upto fnExactIsMatrixSpec)

/-- 'laws.FnExactSumOfMatrix', WHERE WHAT IT READS IS OF BULK AT MOST 1048576: true; the input reads as it did. -/
def fnExactSumOfMatrixUptoRow : OpenClaim := { program := "ytdphjpjimooddaa", sum := "e5f52a4e450665a968a7d6138c4198178b21ee28efd48a117c4afd1333d5975a", func := "loop.example/g01106/laws.FnExactSumOfMatrix", spec := "fnExactSumOfMatrix", unfollowed := true, recurses := true, apart := false, narrowed := true }
def FnExactSumOfMatrixUptoSaid : Prop := fnExactSumOfMatrixUptoRow.holds Try.pinned (OpenSpec.upto fnExactSumOfMatrixSpec)

/-- 'laws.FnExactTopOfMatrix', WHERE WHAT IT READS IS OF BULK AT MOST 1048576: true; the input reads as it did. -/
def fnExactTopOfMatrixUptoRow : OpenClaim := { program := "ytdphjpjimooddaa", sum := "e5f52a4e450665a968a7d6138c4198178b21ee28efd48a117c4afd1333d5975a", func := "loop.example/g01106/laws.FnExactTopOfMatrix", spec := "fnExactTopOfMatrix", unfollowed := true, recurses := true, apart := false, narrowed := true }
def FnExactTopOfMatrixUptoSaid : Prop := fnExactTopOfMatrixUptoRow.holds Try.pinned (OpenSpec.upto fnExactTopOfMatrixSpec)

/-- 'laws.FnExactRowSums', WHERE WHAT IT READS IS OF BULK AT MOST 1048576: true; the input reads as it did. -/
def fnExactRowSumsUptoRow : OpenClaim := { program := "ytdphjpjimooddaa", sum := "e5f52a4e450665a968a7d6138c4198178b21ee28efd48a117c4afd1333d5975a", func := "loop.example/g01106/laws.FnExactRowSums", spec := "fnExactRowSums", unfollowed := true, recurses := true, apart := false, narrowed := true }
def FnExactRowSumsUptoSaid : Prop := fnExactRowSumsUptoRow.holds Try.pinned (OpenSpec.upto fnExactRowSumsSpec)

/-- 'laws.FnExactNamedCount', WHERE WHAT IT READS IS OF BULK AT MOST 1048576: true; the input reads as it did. -/
def fnExactNamedCountUptoRow : OpenClaim := { program := "ytdphjpjimooddaa", sum := "e5f52a4e450665a968a7d6138c4198178b21ee28efd48a117c4afd1333d5975a", func := "loop.example/g01106/laws.FnExactNamedCount", spec := "fnExactNamedCount", unfollowed := true, recurses := true, apart := false, narrowed := true }
def FnExactNamedCountUptoSaid : Prop := fnExactNamedCountUptoRow.holds Try.pinned (OpenSpec.upto fnExactNamedCountSpec)

/-- 'laws.FnExactDualMatrix', WHERE WHAT IT READS IS OF BULK AT MOST 1048576: true; the input reads as it did. -/
def fnExactDualMatrixUptoRow : OpenClaim := { program := "ytdphjpjimooddaa", sum := "e5f52a4e450665a968a7d6138c4198178b21ee28efd48a117c4afd1333d5975a", func := "loop.example/g01106/laws.FnExactDualMatrix", spec := "fnExactDualMatrix", unfollowed := true, recurses := true, apart := false, narrowed := true }
def FnExactDualMatrixUptoSaid : Prop := fnExactDualMatrixUptoRow.holds Try.pinned (OpenSpec.upto fnExactDualMatrixSpec)

/-- 'laws.FnExactFlattenMatrix', WHERE WHAT IT READS IS OF BULK AT MOST 1048576: true; the input reads as it did. -/
def fnExactFlattenMatrixUptoRow : OpenClaim := { program := "ytdphjpjimooddaa", sum := "e5f52a4e450665a968a7d6138c4198178b21ee28efd48a117c4afd1333d5975a", func := "loop.example/g01106/laws.FnExactFlattenMatrix", spec := "fnExactFlattenMatrix", unfollowed := true, recurses := true, apart := false, narrowed := true }
def FnExactFlattenMatrixUptoSaid : Prop := fnExactFlattenMatrixUptoRow.holds Try.pinned (OpenSpec.upto fnExactFlattenMatrixSpec)

/-- 'laws.FnExactMatchingOfMatrix', WHERE WHAT IT READS IS OF BULK AT MOST 1048576: true; the input reads as it did. -/
def fnExactMatchingOfMatrixUptoRow : OpenClaim := { program := "ytdphjpjimooddaa", sum := "e5f52a4e450665a968a7d6138c4198178b21ee28efd48a117c4afd1333d5975a", func := "loop.example/g01106/laws.FnExactMatchingOfMatrix", spec := "fnExactMatchingOfMatrix", unfollowed := true, recurses := true, apart := false, narrowed := true }
def FnExactMatchingOfMatrixUptoSaid : Prop := fnExactMatchingOfMatrixUptoRow.holds Try.pinned (OpenSpec.upto fnExactMatchingOfMatrixSpec)

/-- 'laws.FnExactOrderOfMatrix', WHERE WHAT IT READS IS OF BULK AT MOST 1048576: true; the input reads as it did. -/
def fnExactOrderOfMatrixUptoRow : OpenClaim := { program := "ytdphjpjimooddaa", sum := "e5f52a4e450665a968a7d6138c4198178b21ee28efd48a117c4afd1333d5975a", func := "loop.example/g01106/laws.FnExactOrderOfMatrix", spec := "fnExactOrderOfMatrix", unfollowed := true, recurses := true, apart := false, narrowed := true }
def FnExactOrderOfMatrixUptoSaid : Prop := fnExactOrderOfMatrixUptoRow.holds Try.pinned (OpenSpec.upto fnExactOrderOfMatrixSpec)

/-- 'laws.FnExactShrinkMatrix', WHERE WHAT IT READS IS OF BULK AT MOST 1048576: true; the input reads as it did. -/
def fnExactShrinkMatrixUptoRow : OpenClaim := { program := "ytdphjpjimooddaa", sum := "e5f52a4e450665a968a7d6138c4198178b21ee28efd48a117c4afd1333d5975a", func := "loop.example/g01106/laws.FnExactShrinkMatrix", spec := "fnExactShrinkMatrix", unfollowed := true, recurses := true, apart := false, narrowed := true }
def FnExactShrinkMatrixUptoSaid : Prop := fnExactShrinkMatrixUptoRow.holds Try.pinned (OpenSpec.upto fnExactShrinkMatrixSpec)

/-- 'laws.FnExactAscentOfMatrix', WHERE WHAT IT READS IS OF BULK AT MOST 1048576: true; the input reads as it did. -/
def fnExactAscentOfMatrixUptoRow : OpenClaim := { program := "ytdphjpjimooddaa", sum := "e5f52a4e450665a968a7d6138c4198178b21ee28efd48a117c4afd1333d5975a", func := "loop.example/g01106/laws.FnExactAscentOfMatrix", spec := "fnExactAscentOfMatrix", unfollowed := true, recurses := true, apart := false, narrowed := true }
def FnExactAscentOfMatrixUptoSaid : Prop := fnExactAscentOfMatrixUptoRow.holds Try.pinned (OpenSpec.upto fnExactAscentOfMatrixSpec)

/-- 'laws.FnExactGrowMatrix', WHERE WHAT IT READS IS OF BULK AT MOST 1048576: true; the input reads as it did. -/
def fnExactGrowMatrixUptoRow : OpenClaim := { program := "ytdphjpjimooddaa", sum := "e5f52a4e450665a968a7d6138c4198178b21ee28efd48a117c4afd1333d5975a", func := "loop.example/g01106/laws.FnExactGrowMatrix", spec := "fnExactGrowMatrix", inPlace := ["slices.overlaps[int]", "slices.overlaps[[]int]"], unfollowed := true, recurses := true, apart := false, narrowed := true }
def FnExactGrowMatrixUptoSaid : Prop := fnExactGrowMatrixUptoRow.holds Try.pinned (OpenSpec.upto fnExactGrowMatrixSpec)

end Rows
end Go.Proofs.Ytdphjpjimooddaa
