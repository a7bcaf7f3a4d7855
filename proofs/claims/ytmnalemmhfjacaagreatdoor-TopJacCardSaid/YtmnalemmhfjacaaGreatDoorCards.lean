/-
  DERIVED. GIVEN WITH THE SEED: THE CARDS: each row of YtmnalemmhfjacaaGreatDoorRows.lean that lists a variable, with what it lists TIED to the program's text (the seventh form; the later family's looks); each row that meets fmt, with fmt's text TOLD by the authors' own Lean function (tested against real Go, not proved from fmt's source: count such statements apart). THE CARD IS WHAT COUNTS. Prove the row's statement (the work); the ties are given (YtmnalemmhfjacaaGreatDoorTie.lean); close each card by the builder's one call (the guide's Derived/Test/ToyasCard.lean, 'card_holds'). Laid BY PROGRAM, IN A SANDBOX (cutbox-door.mjs). By AI agents, Wed Nov 11 2026. No macro, syntax, notation, axiom, sorry.
-/
import Derived.Test.YtmnalemmhfjacaaGreatDoorRows
import GoSem.ClaimSeven
namespace Go.Proofs.YtmnalemmhfjacaaGreatDoor
namespace Rows

/-- THE TIED CARD OF 'retrospecttop.TopJac'. -/
def topJacCard : Claim7 := { stood := { row := topJacRow, standIns := [], harness := (true, "3f11c01d3fb8123afc20ed462706912cc9fc2fe76052fbdf4ac44e996babef1d"), looks := false }, kinds := [], alts := [], laidByText := true, laidKinds := [.data, .pinned], laidTests := true, laidLooks := .later }
def TopJacCardSaid : Prop := Claim7.holds Tryz.pinned (.plain (OpenSpec.ofChange topJacSpec)) topJacCard

/-- THE SECOND FORM's CARD OF 'retrospecttop.TopJac'. -/
def topJacUptoCard : Claim7 := { stood := { row := topJacUptoRow, standIns := [], harness := (true, "3f11c01d3fb8123afc20ed462706912cc9fc2fe76052fbdf4ac44e996babef1d"), looks := false }, kinds := [], alts := [], laidByText := true, laidKinds := [.data, .pinned], laidTests := true, laidLooks := .later }
def TopJacUptoCardSaid : Prop := Claim7.holds Tryz.pinned (.plain (OpenSpec.upto topJacSpec)) topJacUptoCard
end Rows
end Go.Proofs.YtmnalemmhfjacaaGreatDoor
