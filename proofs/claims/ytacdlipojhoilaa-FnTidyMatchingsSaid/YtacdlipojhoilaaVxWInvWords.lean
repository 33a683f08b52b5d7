-- Lessened by prune.py, a program of this session (wip/): the words that this claim names; Lean checks it.
import Derived.Test.YtacdlipojhoilaaVxWInv
import Derived.Test.YtacdlipojhoilaaVxWFootNe
namespace Go.Proofs.YtacdlipojhoilaaW.PrintWords
open Go.RowKit
end Go.Proofs.YtacdlipojhoilaaW.PrintWords
namespace Go.Proofs.YtacdlipojhoilaaW.PrintLast
section
variable {ops : Array Oper} {a : Act} {o og : Oper} {g : Nat} {t : Tmp} {u : Bool}
end
end Go.Proofs.YtacdlipojhoilaaW.PrintLast
