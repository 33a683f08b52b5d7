/-
  DERIVED. GIVEN WITH THE SEED: THE CARDS: each row of YtjmmleofnjcjoaaDoorRows.lean that lists a variable, with what it lists TIED to the program's text (the seventh form; the later family's looks); each row that meets fmt, with fmt's text TOLD by the authors' own Lean function (tested against real Go, not proved from fmt's source: count such statements apart). THE CARD IS WHAT COUNTS. Prove the row's statement (the work); the ties are given (YtjmmleofnjcjoaaDoorTie.lean); close each card by the builder's one call (the guide's Derived/Test/ToyasCard.lean, 'card_holds'). Laid BY PROGRAM, IN A SANDBOX (cutbox-door.mjs). By AI agents, Wed Nov 11 2026. No macro, syntax, notation, axiom, sorry.
-/
import Derived.Test.YtjmmleofnjcjoaaDoorRows
import GoSem.ClaimSeven
namespace Go.Proofs.YtjmmleofnjcjoaaDoor
namespace Rows

/-- THE TIED CARD OF 'laws.FnAscentRanks'. -/
def fnAscentRanksCard : Claim7 := { stood := { row := fnAscentRanksRow, standIns := [], harness := (true, "48256debdf4d8c9cf6ffb22f8df5db93a9a8da55cb744bc0eb2d7e095ff8a4f4"), looks := true }, kinds := [], alts := [], laidByText := true, laidKinds := [.data, .data, .data, .data, .sentinel, .sentinel, .pinned], laidTests := true, laidLooks := .later }
def FnAscentRanksCardSaid : Prop := Claim7.holds Tryd.pinned (.plain (OpenSpec.ofChange fnAscentRanksSpec)) fnAscentRanksCard

/-- THE SECOND FORM's CARD OF 'laws.FnAscentRanks'. -/
def fnAscentRanksUptoCard : Claim7 := { stood := { row := fnAscentRanksUptoRow, standIns := [], harness := (true, "48256debdf4d8c9cf6ffb22f8df5db93a9a8da55cb744bc0eb2d7e095ff8a4f4"), looks := true }, kinds := [], alts := [], laidByText := true, laidKinds := [.data, .data, .data, .data, .sentinel, .sentinel, .pinned], laidTests := true, laidLooks := .later }
def FnAscentRanksUptoCardSaid : Prop := Claim7.holds Tryd.pinned (.plain (OpenSpec.upto fnAscentRanksSpec)) fnAscentRanksUptoCard
end Rows
end Go.Proofs.YtjmmleofnjcjoaaDoor
