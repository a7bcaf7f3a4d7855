/-
  DERIVED. GIVEN WITH THE SEED: THE CARDS: each row of YtmnlcblemgjeeaaGreatDoorRows.lean that lists a variable, with what it lists TIED to the program's text (the seventh form; the later family's looks); each row that meets fmt, with fmt's text TOLD by the authors' own Lean function (tested against real Go, not proved from fmt's source: count such statements apart). THE CARD IS WHAT COUNTS. Prove the row's statement (the work); the ties are given (YtmnlcblemgjeeaaGreatDoorTie.lean); close each card by the builder's one call (the guide's Derived/Test/ToyasCard.lean, 'card_holds'). Laid BY PROGRAM, IN A SANDBOX (cutbox-door.mjs). By AI agents, Wed Nov 11 2026. No macro, syntax, notation, axiom, sorry.
-/
import Derived.Test.YtmnlcblemgjeeaaGreatDoorRows
import GoSem.ClaimSeven
namespace Go.Proofs.YtmnlcblemgjeeaaGreatDoor
namespace Rows

/-- THE TIED CARD OF 'retrospectlaw33.StepGrows'. -/
def stepGrowsCard : Claim7 := { stood := { row := stepGrowsRow, standIns := [], harness := (true, "bb6274822baeb2e85c01eec3c512917c5db207a965ea16c3958a1aaafeef8af9"), looks := false }, kinds := [], alts := [], laidByText := true, laidKinds := [.data, .pinned], laidTests := true, laidLooks := .later }
def StepGrowsCardSaid : Prop := Claim7.holds Tryz.pinned (.plain (OpenSpec.ofChange stepGrowsSpec)) stepGrowsCard

/-- THE TIED CARD OF 'retrospectlaw47.LineValues'. -/
def lineValuesCard : Claim7 := { stood := { row := lineValuesRow, standIns := [], harness := (true, "bb6274822baeb2e85c01eec3c512917c5db207a965ea16c3958a1aaafeef8af9"), looks := false }, kinds := [], alts := [], laidByText := true, laidKinds := [.data, .pinned], laidTests := true, laidLooks := .later }
def LineValuesCardSaid : Prop := Claim7.holds Tryz.pinned (.plain (OpenSpec.ofChange lineValuesSpec)) lineValuesCard

/-- THE SECOND FORM's CARD OF 'retrospectlaw33.StepGrows'. -/
def stepGrowsUptoCard : Claim7 := { stood := { row := stepGrowsUptoRow, standIns := [], harness := (true, "bb6274822baeb2e85c01eec3c512917c5db207a965ea16c3958a1aaafeef8af9"), looks := false }, kinds := [], alts := [], laidByText := true, laidKinds := [.data, .pinned], laidTests := true, laidLooks := .later }
def StepGrowsUptoCardSaid : Prop := Claim7.holds Tryz.pinned (.plain (OpenSpec.upto stepGrowsSpec)) stepGrowsUptoCard

/-- THE SECOND FORM's CARD OF 'retrospectlaw47.LineValues'. -/
def lineValuesUptoCard : Claim7 := { stood := { row := lineValuesUptoRow, standIns := [], harness := (true, "bb6274822baeb2e85c01eec3c512917c5db207a965ea16c3958a1aaafeef8af9"), looks := false }, kinds := [], alts := [], laidByText := true, laidKinds := [.data, .pinned], laidTests := true, laidLooks := .later }
def LineValuesUptoCardSaid : Prop := Claim7.holds Tryz.pinned (.plain (OpenSpec.upto lineValuesSpec)) lineValuesUptoCard
end Rows
end Go.Proofs.YtmnlcblemgjeeaaGreatDoor
