-- Lessened by prune.py, a program of this session (wip/): the words that this claim names; Lean checks it.
import Derived.Test.YtacdlipojhoilaaVxWWords
import Derived.Laws.StructEq
/-! ### 53. '==' of structs as_ one Bool -/
namespace Go.Proofs.YtacdlipojhoilaaW.PrintWords
open Go.RowKit
section
variable {P : Program} {d : Nat} {xs ys : Array Value} {f : Field} {fs : List Field} {a b : Value} {r s : Bool} {w : World}
end
end Go.Proofs.YtacdlipojhoilaaW.PrintWords
