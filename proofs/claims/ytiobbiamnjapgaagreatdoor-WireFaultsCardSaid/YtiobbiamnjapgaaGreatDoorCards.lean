/-
  DERIVED. GIVEN WITH THE SEED: THE CARDS: each row of YtiobbiamnjapgaaGreatDoorRows.lean that lists a variable, with what it lists TIED to the program's text (the seventh form; the later family's looks); each row that meets fmt, with fmt's text TOLD by the authors' own Lean function (tested against real Go, not proved from fmt's source: count such statements apart). THE CARD IS WHAT COUNTS. Prove the row's statement (the work); the ties are given (YtiobbiamnjapgaaGreatDoorTie.lean); close each card by the builder's one call (the guide's Derived/Test/ToyasCard.lean, 'card_holds'). Laid BY PROGRAM, IN A SANDBOX (cutbox-door.mjs). By AI agents, Wed Nov 11 2026. No macro, syntax, notation, axiom, sorry.
-/
import Derived.Test.YtiobbiamnjapgaaGreatDoorRows
import GoSem.ClaimSeven
namespace Go.Proofs.YtiobbiamnjapgaaGreatDoor
namespace Rows

/-- THE TIED CARD OF 'retrospectlaw48.WirePacks'. -/
def wirePacksCard : Claim7 := { stood := { row := wirePacksRow, standIns := [], harness := (true, "f972e5d13d500ed5c7a27707cdf1fefab4bc321d95bc26be90a7445008baaf64"), looks := true }, kinds := [], alts := [], laidByText := true, laidKinds := [.data, .data, .data, .data, .pinned], laidTests := true, laidLooks := .later }
def WirePacksCardSaid : Prop := Claim7.holds Tryz.pinned (.plain (OpenSpec.ofChange wirePacksSpec)) wirePacksCard

/-- THE TIED CARD OF 'retrospectlaw48.WireFaults'. -/
def wireFaultsCard : Claim7 := { stood := { row := wireFaultsRow, standIns := [], harness := (true, "f972e5d13d500ed5c7a27707cdf1fefab4bc321d95bc26be90a7445008baaf64"), looks := true }, kinds := [], alts := [], laidByText := true, laidKinds := [.data, .data, .data, .data, .sentinel, .sentinel, .pinned], laidTests := true, laidLooks := .later }
def WireFaultsCardSaid : Prop := Claim7.holds Tryz.pinned (.plain (OpenSpec.ofChange wireFaultsSpec)) wireFaultsCard

/-- THE SECOND FORM's CARD OF 'retrospectlaw48.WirePacks'. -/
def wirePacksUptoCard : Claim7 := { stood := { row := wirePacksUptoRow, standIns := [], harness := (true, "f972e5d13d500ed5c7a27707cdf1fefab4bc321d95bc26be90a7445008baaf64"), looks := true }, kinds := [], alts := [], laidByText := true, laidKinds := [.data, .data, .data, .data, .pinned], laidTests := true, laidLooks := .later }
def WirePacksUptoCardSaid : Prop := Claim7.holds Tryz.pinned (.plain (OpenSpec.upto wirePacksSpec)) wirePacksUptoCard

/-- THE SECOND FORM's CARD OF 'retrospectlaw48.WireFaults'. -/
def wireFaultsUptoCard : Claim7 := { stood := { row := wireFaultsUptoRow, standIns := [], harness := (true, "f972e5d13d500ed5c7a27707cdf1fefab4bc321d95bc26be90a7445008baaf64"), looks := true }, kinds := [], alts := [], laidByText := true, laidKinds := [.data, .data, .data, .data, .sentinel, .sentinel, .pinned], laidTests := true, laidLooks := .later }
def WireFaultsUptoCardSaid : Prop := Claim7.holds Tryz.pinned (.plain (OpenSpec.upto wireFaultsSpec)) wireFaultsUptoCard
end Rows
end Go.Proofs.YtiobbiamnjapgaaGreatDoor
