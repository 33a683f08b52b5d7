/-
  DERIVED. GIVEN WITH THE SEED: THE CARDS: each row of YtadflnoofnonoaaDoorRows.lean that lists a variable, with what it lists TIED to the program's text (the seventh form; the later family's looks); each row that meets fmt, with fmt's text TOLD by the authors' own Lean function (tested against real Go, not proved from fmt's source: count such statements apart). THE CARD IS WHAT COUNTS. Prove the row's statement (the work); the ties are given (YtadflnoofnonoaaDoorTie.lean); close each card by the builder's one call (the guide's Derived/Test/ToyasCard.lean, 'card_holds'). Laid BY PROGRAM, IN A SANDBOX (cutbox-door.mjs). By AI agents, Wed Nov 11 2026. No macro, syntax, notation, axiom, sorry.
-/
import Derived.Test.YtadflnoofnonoaaDoorRows
import GoSem.ClaimSeven
namespace Go.Proofs.YtadflnoofnonoaaDoor
namespace Rows

/-- THE TIED CARD OF 'laws.FnExactMatrixText'. -/
def fnExactMatrixTextCard : Claim7 := { stood := { row := fnExactMatrixTextRow, standIns := [], harness := (true, "ef64006ac414cdce9be472b1b6396f1983d9ad3e5467a1619443ad2b83594ffd"), looks := true }, kinds := [], alts := [], laidByText := true, laidKinds := [.data, .data, .data], laidTests := true, laidLooks := .later }
def FnExactMatrixTextCardSaid : Prop := Claim7.holds Tryd.pinned (.plain (OpenSpec.ofChange fnExactMatrixTextSpec)) fnExactMatrixTextCard

/-- THE TIED CARD OF 'laws.FnExactParseMatrix'. -/
def fnExactParseMatrixCard : Claim7 := { stood := { row := fnExactParseMatrixRow, standIns := [], harness := (true, "ef64006ac414cdce9be472b1b6396f1983d9ad3e5467a1619443ad2b83594ffd"), looks := true }, kinds := [], alts := [], laidByText := true, laidKinds := [.data, .data, .data, .data, .sentinel, .sentinel, .pinned], laidTests := true, laidLooks := .later }
def FnExactParseMatrixCardSaid : Prop := Claim7.holds Tryd.pinned (.plain (OpenSpec.ofChange fnExactParseMatrixSpec)) fnExactParseMatrixCard

/-- THE TIED CARD OF 'laws.FnExactMatrixOfOrder'. -/
def fnExactMatrixOfOrderCard : Claim7 := { stood := { row := fnExactMatrixOfOrderRow, standIns := [], harness := (true, "ef64006ac414cdce9be472b1b6396f1983d9ad3e5467a1619443ad2b83594ffd"), looks := true }, kinds := [], alts := [], laidByText := true, laidKinds := [.data, .data], laidTests := true, laidLooks := .later }
def FnExactMatrixOfOrderCardSaid : Prop := Claim7.holds Tryd.pinned (.plain (OpenSpec.ofChange fnExactMatrixOfOrderSpec)) fnExactMatrixOfOrderCard

/-- THE TIED CARD OF 'laws.FnExactAscentOfOrder'. -/
def fnExactAscentOfOrderCard : Claim7 := { stood := { row := fnExactAscentOfOrderRow, standIns := [], harness := (true, "ef64006ac414cdce9be472b1b6396f1983d9ad3e5467a1619443ad2b83594ffd"), looks := true }, kinds := [], alts := [], laidByText := true, laidKinds := [.data, .data], laidTests := true, laidLooks := .later }
def FnExactAscentOfOrderCardSaid : Prop := Claim7.holds Tryd.pinned (.plain (OpenSpec.ofChange fnExactAscentOfOrderSpec)) fnExactAscentOfOrderCard

/-- THE TIED CARD OF 'laws.FnExactAreAlike'. -/
def fnExactAreAlikeCard : Claim7 := { stood := { row := fnExactAreAlikeRow, standIns := [], harness := (true, "ef64006ac414cdce9be472b1b6396f1983d9ad3e5467a1619443ad2b83594ffd"), looks := true }, kinds := [], alts := [], laidByText := true, laidKinds := [.data, .data, .data], laidTests := true, laidLooks := .later }
def FnExactAreAlikeCardSaid : Prop := Claim7.holds Tryd.pinned (.plain (OpenSpec.ofChange fnExactAreAlikeSpec)) fnExactAreAlikeCard

/-- THE SECOND FORM's CARD OF 'laws.FnExactMatrixText'. -/
def fnExactMatrixTextUptoCard : Claim7 := { stood := { row := fnExactMatrixTextUptoRow, standIns := [], harness := (true, "ef64006ac414cdce9be472b1b6396f1983d9ad3e5467a1619443ad2b83594ffd"), looks := true }, kinds := [], alts := [], laidByText := true, laidKinds := [.data, .data, .data], laidTests := true, laidLooks := .later }
def FnExactMatrixTextUptoCardSaid : Prop := Claim7.holds Tryd.pinned (.plain (OpenSpec.upto fnExactMatrixTextSpec)) fnExactMatrixTextUptoCard

/-- THE SECOND FORM's CARD OF 'laws.FnExactParseMatrix'. -/
def fnExactParseMatrixUptoCard : Claim7 := { stood := { row := fnExactParseMatrixUptoRow, standIns := [], harness := (true, "ef64006ac414cdce9be472b1b6396f1983d9ad3e5467a1619443ad2b83594ffd"), looks := true }, kinds := [], alts := [], laidByText := true, laidKinds := [.data, .data, .data, .data, .sentinel, .sentinel, .pinned], laidTests := true, laidLooks := .later }
def FnExactParseMatrixUptoCardSaid : Prop := Claim7.holds Tryd.pinned (.plain (OpenSpec.upto fnExactParseMatrixSpec)) fnExactParseMatrixUptoCard

/-- THE SECOND FORM's CARD OF 'laws.FnExactMatrixOfOrder'. -/
def fnExactMatrixOfOrderUptoCard : Claim7 := { stood := { row := fnExactMatrixOfOrderUptoRow, standIns := [], harness := (true, "ef64006ac414cdce9be472b1b6396f1983d9ad3e5467a1619443ad2b83594ffd"), looks := true }, kinds := [], alts := [], laidByText := true, laidKinds := [.data, .data], laidTests := true, laidLooks := .later }
def FnExactMatrixOfOrderUptoCardSaid : Prop := Claim7.holds Tryd.pinned (.plain (OpenSpec.upto fnExactMatrixOfOrderSpec)) fnExactMatrixOfOrderUptoCard

/-- THE SECOND FORM's CARD OF 'laws.FnExactAscentOfOrder'. -/
def fnExactAscentOfOrderUptoCard : Claim7 := { stood := { row := fnExactAscentOfOrderUptoRow, standIns := [], harness := (true, "ef64006ac414cdce9be472b1b6396f1983d9ad3e5467a1619443ad2b83594ffd"), looks := true }, kinds := [], alts := [], laidByText := true, laidKinds := [.data, .data], laidTests := true, laidLooks := .later }
def FnExactAscentOfOrderUptoCardSaid : Prop := Claim7.holds Tryd.pinned (.plain (OpenSpec.upto fnExactAscentOfOrderSpec)) fnExactAscentOfOrderUptoCard

/-- THE SECOND FORM's CARD OF 'laws.FnExactAreAlike'. -/
def fnExactAreAlikeUptoCard : Claim7 := { stood := { row := fnExactAreAlikeUptoRow, standIns := [], harness := (true, "ef64006ac414cdce9be472b1b6396f1983d9ad3e5467a1619443ad2b83594ffd"), looks := true }, kinds := [], alts := [], laidByText := true, laidKinds := [.data, .data, .data], laidTests := true, laidLooks := .later }
def FnExactAreAlikeUptoCardSaid : Prop := Claim7.holds Tryd.pinned (.plain (OpenSpec.upto fnExactAreAlikeSpec)) fnExactAreAlikeUptoCard
end Rows
end Go.Proofs.YtadflnoofnonoaaDoor
