/-
  DERIVED. GIVEN WITH THE SEED: THE CARDS: each row of YtjmmleofnjcjoaaGreatDoorRows.lean that lists a variable, with what it lists TIED to the program's text (the seventh form; the later family's looks); each row that meets fmt, with fmt's text TOLD by the authors' own Lean function (tested against real Go, not proved from fmt's source: count such statements apart). THE CARD IS WHAT COUNTS. Prove the row's statement (the work); the ties are given (YtjmmleofnjcjoaaGreatDoorTie.lean); close each card by the builder's one call (the guide's Derived/Test/ToyasCard.lean, 'card_holds'). Laid BY PROGRAM, IN A SANDBOX (cutbox-door.mjs). By AI agents, Wed Nov 11 2026. No macro, syntax, notation, axiom, sorry.
-/
import Derived.Test.YtjmmleofnjcjoaaGreatDoorRows
import GoSem.ClaimSeven
namespace Go.Proofs.YtjmmleofnjcjoaaGreatDoor
namespace Rows

/-- THE TIED CARD OF 'laws.FnAlikeOrders'. -/
def fnAlikeOrdersCard : Claim7 := { stood := { row := fnAlikeOrdersRow, standIns := [], harness := (true, "81fc5cc6f6c996793ba58623de056fdb047bcd252b1f811c25700818036f68c1"), looks := true }, kinds := [], alts := [], laidByText := true, laidKinds := [.data, .data, .data], laidTests := true, laidLooks := .later }
def FnAlikeOrdersCardSaid : Prop := Claim7.holds Tryz.pinned (.plain (OpenSpec.ofChange fnAlikeOrdersSpec)) fnAlikeOrdersCard

/-- THE TIED CARD OF 'laws.FnDualMatrices'. -/
def fnDualMatricesCard : Claim7 := { stood := { row := fnDualMatricesRow, standIns := [], harness := (true, "81fc5cc6f6c996793ba58623de056fdb047bcd252b1f811c25700818036f68c1"), looks := true }, kinds := [], alts := [], laidByText := true, laidKinds := [.data, .data], laidTests := true, laidLooks := .later }
def FnDualMatricesCardSaid : Prop := Claim7.holds Tryz.pinned (.plain (OpenSpec.ofChange fnDualMatricesSpec)) fnDualMatricesCard

/-- THE TIED CARD OF 'laws.FnPlacesOrCycles'. -/
def fnPlacesOrCyclesCard : Claim7 := { stood := { row := fnPlacesOrCyclesRow, standIns := [], harness := (true, "81fc5cc6f6c996793ba58623de056fdb047bcd252b1f811c25700818036f68c1"), looks := true }, kinds := [], alts := [], laidByText := true, laidKinds := [.data, .data], laidTests := true, laidLooks := .later }
def FnPlacesOrCyclesCardSaid : Prop := Claim7.holds Tryz.pinned (.plain (OpenSpec.ofChange fnPlacesOrCyclesSpec)) fnPlacesOrCyclesCard

/-- THE TIED CARD OF 'laws.FnPartsAndTexts'. -/
def fnPartsAndTextsCard : Claim7 := { stood := { row := fnPartsAndTextsRow, standIns := [], harness := (true, "81fc5cc6f6c996793ba58623de056fdb047bcd252b1f811c25700818036f68c1"), looks := true }, kinds := [], alts := [], laidByText := true, laidKinds := [.data, .data, .data, .data, .sentinel, .sentinel, .pinned], laidTests := true, laidLooks := .later }
def FnPartsAndTextsCardSaid : Prop := Claim7.holds Tryz.pinned (.plain (OpenSpec.ofChange fnPartsAndTextsSpec)) fnPartsAndTextsCard

/-- THE TIED CARD OF 'laws.FnTraces'. -/
def fnTracesCard : Claim7 := { stood := { row := fnTracesRow, standIns := [], harness := (true, "81fc5cc6f6c996793ba58623de056fdb047bcd252b1f811c25700818036f68c1"), looks := true }, kinds := [], alts := [], laidByText := true, laidKinds := [.data, .data], laidTests := true, laidLooks := .later }
def FnTracesCardSaid : Prop := Claim7.holds Tryz.pinned (.plain (OpenSpec.ofChange fnTracesSpec)) fnTracesCard

/-- THE SECOND FORM's CARD OF 'laws.FnAlikeOrders'. -/
def fnAlikeOrdersUptoCard : Claim7 := { stood := { row := fnAlikeOrdersUptoRow, standIns := [], harness := (true, "81fc5cc6f6c996793ba58623de056fdb047bcd252b1f811c25700818036f68c1"), looks := true }, kinds := [], alts := [], laidByText := true, laidKinds := [.data, .data, .data], laidTests := true, laidLooks := .later }
def FnAlikeOrdersUptoCardSaid : Prop := Claim7.holds Tryz.pinned (.plain (OpenSpec.upto fnAlikeOrdersSpec)) fnAlikeOrdersUptoCard

/-- THE SECOND FORM's CARD OF 'laws.FnDualMatrices'. -/
def fnDualMatricesUptoCard : Claim7 := { stood := { row := fnDualMatricesUptoRow, standIns := [], harness := (true, "81fc5cc6f6c996793ba58623de056fdb047bcd252b1f811c25700818036f68c1"), looks := true }, kinds := [], alts := [], laidByText := true, laidKinds := [.data, .data], laidTests := true, laidLooks := .later }
def FnDualMatricesUptoCardSaid : Prop := Claim7.holds Tryz.pinned (.plain (OpenSpec.upto fnDualMatricesSpec)) fnDualMatricesUptoCard

/-- THE SECOND FORM's CARD OF 'laws.FnPlacesOrCycles'. -/
def fnPlacesOrCyclesUptoCard : Claim7 := { stood := { row := fnPlacesOrCyclesUptoRow, standIns := [], harness := (true, "81fc5cc6f6c996793ba58623de056fdb047bcd252b1f811c25700818036f68c1"), looks := true }, kinds := [], alts := [], laidByText := true, laidKinds := [.data, .data], laidTests := true, laidLooks := .later }
def FnPlacesOrCyclesUptoCardSaid : Prop := Claim7.holds Tryz.pinned (.plain (OpenSpec.upto fnPlacesOrCyclesSpec)) fnPlacesOrCyclesUptoCard

/-- THE SECOND FORM's CARD OF 'laws.FnPartsAndTexts'. -/
def fnPartsAndTextsUptoCard : Claim7 := { stood := { row := fnPartsAndTextsUptoRow, standIns := [], harness := (true, "81fc5cc6f6c996793ba58623de056fdb047bcd252b1f811c25700818036f68c1"), looks := true }, kinds := [], alts := [], laidByText := true, laidKinds := [.data, .data, .data, .data, .sentinel, .sentinel, .pinned], laidTests := true, laidLooks := .later }
def FnPartsAndTextsUptoCardSaid : Prop := Claim7.holds Tryz.pinned (.plain (OpenSpec.upto fnPartsAndTextsSpec)) fnPartsAndTextsUptoCard

/-- THE SECOND FORM's CARD OF 'laws.FnTraces'. -/
def fnTracesUptoCard : Claim7 := { stood := { row := fnTracesUptoRow, standIns := [], harness := (true, "81fc5cc6f6c996793ba58623de056fdb047bcd252b1f811c25700818036f68c1"), looks := true }, kinds := [], alts := [], laidByText := true, laidKinds := [.data, .data], laidTests := true, laidLooks := .later }
def FnTracesUptoCardSaid : Prop := Claim7.holds Tryz.pinned (.plain (OpenSpec.upto fnTracesSpec)) fnTracesUptoCard
end Rows
end Go.Proofs.YtjmmleofnjcjoaaGreatDoor
