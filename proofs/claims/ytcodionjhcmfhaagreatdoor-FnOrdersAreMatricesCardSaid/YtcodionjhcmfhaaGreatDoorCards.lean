/-
  DERIVED. GIVEN WITH THE SEED: THE CARDS: each row of YtcodionjhcmfhaaGreatDoorRows.lean that lists a variable, with what it lists TIED to the program's text (the seventh form; the later family's looks); each row that meets fmt, with fmt's text TOLD by the authors' own Lean function (tested against real Go, not proved from fmt's source: count such statements apart). THE CARD IS WHAT COUNTS. Prove the row's statement (the work); the ties are given (YtcodionjhcmfhaaGreatDoorTie.lean); close each card by the builder's one call (the guide's Derived/Test/ToyasCard.lean, 'card_holds'). Laid BY PROGRAM, IN A SANDBOX (cutbox-door.mjs). By AI agents, Wed Nov 11 2026. No macro, syntax, notation, axiom, sorry.
-/
import Derived.Test.YtcodionjhcmfhaaGreatDoorRows
import GoSem.ClaimSeven
namespace Go.Proofs.YtcodionjhcmfhaaGreatDoor
namespace Rows

/-- THE TIED CARD OF 'laws.FnDualMatrices'. -/
def fnDualMatricesCard : Claim7 := { stood := { row := fnDualMatricesRow, standIns := [], harness := (true, "7566bca31a3ae309f4039f72da8f31c1991d911434c709f11f52cf328de1d242"), looks := true }, kinds := [], alts := [], laidByText := true, laidKinds := [.data, .data], laidTests := true, laidLooks := .later }
def FnDualMatricesCardSaid : Prop := Claim7.holds Tryz.pinned (.plain (OpenSpec.ofChange fnDualMatricesSpec)) fnDualMatricesCard

/-- THE TIED CARD OF 'laws.FnOrdersAreMatrices'. -/
def fnOrdersAreMatricesCard : Claim7 := { stood := { row := fnOrdersAreMatricesRow, standIns := [], harness := (true, "7566bca31a3ae309f4039f72da8f31c1991d911434c709f11f52cf328de1d242"), looks := true }, kinds := [], alts := [], laidByText := true, laidKinds := [.data, .data, .data], laidTests := true, laidLooks := .later }
def FnOrdersAreMatricesCardSaid : Prop := Claim7.holds Tryz.pinned (.plain (OpenSpec.ofChange fnOrdersAreMatricesSpec)) fnOrdersAreMatricesCard

/-- THE TIED CARD OF 'laws.FnMatricesAreAscents'. -/
def fnMatricesAreAscentsCard : Claim7 := { stood := { row := fnMatricesAreAscentsRow, standIns := [], harness := (true, "7566bca31a3ae309f4039f72da8f31c1991d911434c709f11f52cf328de1d242"), looks := true }, kinds := [], alts := [], laidByText := true, laidKinds := [.data, .data, .data, .data, .sentinel, .sentinel, .pinned], laidTests := true, laidLooks := .later }
def FnMatricesAreAscentsCardSaid : Prop := Claim7.holds Tryz.pinned (.plain (OpenSpec.ofChange fnMatricesAreAscentsSpec)) fnMatricesAreAscentsCard

/-- THE SECOND FORM's CARD OF 'laws.FnDualMatrices'. -/
def fnDualMatricesUptoCard : Claim7 := { stood := { row := fnDualMatricesUptoRow, standIns := [], harness := (true, "7566bca31a3ae309f4039f72da8f31c1991d911434c709f11f52cf328de1d242"), looks := true }, kinds := [], alts := [], laidByText := true, laidKinds := [.data, .data], laidTests := true, laidLooks := .later }
def FnDualMatricesUptoCardSaid : Prop := Claim7.holds Tryz.pinned (.plain (OpenSpec.upto fnDualMatricesSpec)) fnDualMatricesUptoCard

/-- THE SECOND FORM's CARD OF 'laws.FnOrdersAreMatrices'. -/
def fnOrdersAreMatricesUptoCard : Claim7 := { stood := { row := fnOrdersAreMatricesUptoRow, standIns := [], harness := (true, "7566bca31a3ae309f4039f72da8f31c1991d911434c709f11f52cf328de1d242"), looks := true }, kinds := [], alts := [], laidByText := true, laidKinds := [.data, .data, .data], laidTests := true, laidLooks := .later }
def FnOrdersAreMatricesUptoCardSaid : Prop := Claim7.holds Tryz.pinned (.plain (OpenSpec.upto fnOrdersAreMatricesSpec)) fnOrdersAreMatricesUptoCard

/-- THE SECOND FORM's CARD OF 'laws.FnMatricesAreAscents'. -/
def fnMatricesAreAscentsUptoCard : Claim7 := { stood := { row := fnMatricesAreAscentsUptoRow, standIns := [], harness := (true, "7566bca31a3ae309f4039f72da8f31c1991d911434c709f11f52cf328de1d242"), looks := true }, kinds := [], alts := [], laidByText := true, laidKinds := [.data, .data, .data, .data, .sentinel, .sentinel, .pinned], laidTests := true, laidLooks := .later }
def FnMatricesAreAscentsUptoCardSaid : Prop := Claim7.holds Tryz.pinned (.plain (OpenSpec.upto fnMatricesAreAscentsSpec)) fnMatricesAreAscentsUptoCard
end Rows
end Go.Proofs.YtcodionjhcmfhaaGreatDoor
