/-
  DERIVED. GIVEN WITH THE SEED: THE CARDS: each row of YtcodionjhcmfhaaDoorRows.lean that lists a variable, with what it lists TIED to the program's text (the seventh form; the later family's looks); each row that meets fmt, with fmt's text TOLD by the authors' own Lean function (tested against real Go, not proved from fmt's source: count such statements apart). THE CARD IS WHAT COUNTS. Prove the row's statement (the work); the ties are given (YtcodionjhcmfhaaDoorTie.lean); close each card by the builder's one call (the guide's Derived/Test/ToyasCard.lean, 'card_holds'). Laid BY PROGRAM, IN A SANDBOX (cutbox-door.mjs). By AI agents, Wed Nov 11 2026. No macro, syntax, notation, axiom, sorry.
-/
import Derived.Test.YtcodionjhcmfhaaDoorRows
import GoSem.ClaimSeven
namespace Go.Proofs.YtcodionjhcmfhaaDoor
namespace Rows

/-- THE TIED CARD OF 'laws.FnExactMatrixOfOrder'. -/
def fnExactMatrixOfOrderCard : Claim7 := { stood := { row := fnExactMatrixOfOrderRow, standIns := [], harness := (true, "68c03673cc7b565c343358818229544cc666b5d81e15ffef9752a336e8f88a1f"), looks := false }, kinds := [], alts := [], laidByText := true, laidKinds := [.data, .data], laidTests := true, laidLooks := .later }
def FnExactMatrixOfOrderCardSaid : Prop := Claim7.holds Tryd.pinned (.plain (OpenSpec.ofChange fnExactMatrixOfOrderSpec)) fnExactMatrixOfOrderCard

/-- THE TIED CARD OF 'laws.FnExactAscentOfOrder'. -/
def fnExactAscentOfOrderCard : Claim7 := { stood := { row := fnExactAscentOfOrderRow, standIns := [], harness := (true, "68c03673cc7b565c343358818229544cc666b5d81e15ffef9752a336e8f88a1f"), looks := false }, kinds := [], alts := [], laidByText := true, laidKinds := [.data, .data], laidTests := true, laidLooks := .later }
def FnExactAscentOfOrderCardSaid : Prop := Claim7.holds Tryd.pinned (.plain (OpenSpec.ofChange fnExactAscentOfOrderSpec)) fnExactAscentOfOrderCard

/-- THE TIED CARD OF 'laws.FnExactAreAlike'. -/
def fnExactAreAlikeCard : Claim7 := { stood := { row := fnExactAreAlikeRow, standIns := [], harness := (true, "68c03673cc7b565c343358818229544cc666b5d81e15ffef9752a336e8f88a1f"), looks := false }, kinds := [], alts := [], laidByText := true, laidKinds := [.data, .data, .data], laidTests := true, laidLooks := .later }
def FnExactAreAlikeCardSaid : Prop := Claim7.holds Tryd.pinned (.plain (OpenSpec.ofChange fnExactAreAlikeSpec)) fnExactAreAlikeCard

/-- THE TIED CARD OF 'laws.FnAscentsBuildEnds'. -/
def fnAscentsBuildEndsCard : Claim7 := { stood := { row := fnAscentsBuildEndsRow, standIns := [], harness := (true, "68c03673cc7b565c343358818229544cc666b5d81e15ffef9752a336e8f88a1f"), looks := false }, kinds := [], alts := [], laidByText := true, laidKinds := [.data, .data], laidTests := true, laidLooks := .later }
def FnAscentsBuildEndsCardSaid : Prop := Claim7.holds Tryd.pinned (.plain (OpenSpec.ofChange fnAscentsBuildEndsSpec)) fnAscentsBuildEndsCard

/-- THE SECOND FORM's CARD OF 'laws.FnExactMatrixOfOrder'. -/
def fnExactMatrixOfOrderUptoCard : Claim7 := { stood := { row := fnExactMatrixOfOrderUptoRow, standIns := [], harness := (true, "68c03673cc7b565c343358818229544cc666b5d81e15ffef9752a336e8f88a1f"), looks := false }, kinds := [], alts := [], laidByText := true, laidKinds := [.data, .data], laidTests := true, laidLooks := .later }
def FnExactMatrixOfOrderUptoCardSaid : Prop := Claim7.holds Tryd.pinned (.plain (OpenSpec.upto fnExactMatrixOfOrderSpec)) fnExactMatrixOfOrderUptoCard

/-- THE SECOND FORM's CARD OF 'laws.FnExactAscentOfOrder'. -/
def fnExactAscentOfOrderUptoCard : Claim7 := { stood := { row := fnExactAscentOfOrderUptoRow, standIns := [], harness := (true, "68c03673cc7b565c343358818229544cc666b5d81e15ffef9752a336e8f88a1f"), looks := false }, kinds := [], alts := [], laidByText := true, laidKinds := [.data, .data], laidTests := true, laidLooks := .later }
def FnExactAscentOfOrderUptoCardSaid : Prop := Claim7.holds Tryd.pinned (.plain (OpenSpec.upto fnExactAscentOfOrderSpec)) fnExactAscentOfOrderUptoCard

/-- THE SECOND FORM's CARD OF 'laws.FnExactAreAlike'. -/
def fnExactAreAlikeUptoCard : Claim7 := { stood := { row := fnExactAreAlikeUptoRow, standIns := [], harness := (true, "68c03673cc7b565c343358818229544cc666b5d81e15ffef9752a336e8f88a1f"), looks := false }, kinds := [], alts := [], laidByText := true, laidKinds := [.data, .data, .data], laidTests := true, laidLooks := .later }
def FnExactAreAlikeUptoCardSaid : Prop := Claim7.holds Tryd.pinned (.plain (OpenSpec.upto fnExactAreAlikeSpec)) fnExactAreAlikeUptoCard

/-- THE SECOND FORM's CARD OF 'laws.FnAscentsBuildEnds'. -/
def fnAscentsBuildEndsUptoCard : Claim7 := { stood := { row := fnAscentsBuildEndsUptoRow, standIns := [], harness := (true, "68c03673cc7b565c343358818229544cc666b5d81e15ffef9752a336e8f88a1f"), looks := false }, kinds := [], alts := [], laidByText := true, laidKinds := [.data, .data], laidTests := true, laidLooks := .later }
def FnAscentsBuildEndsUptoCardSaid : Prop := Claim7.holds Tryd.pinned (.plain (OpenSpec.upto fnAscentsBuildEndsSpec)) fnAscentsBuildEndsUptoCard
end Rows
end Go.Proofs.YtcodionjhcmfhaaDoor
