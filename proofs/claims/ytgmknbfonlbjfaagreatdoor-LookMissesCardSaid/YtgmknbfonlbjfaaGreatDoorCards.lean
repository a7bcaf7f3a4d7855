/-
  DERIVED. GIVEN WITH THE SEED: THE CARDS: each row of YtgmknbfonlbjfaaGreatDoorRows.lean that lists a variable, with what it lists TIED to the program's text (the seventh form; the later family's looks); each row that meets fmt, with fmt's text TOLD by the authors' own Lean function (tested against real Go, not proved from fmt's source: count such statements apart). THE CARD IS WHAT COUNTS. Prove the row's statement (the work); the ties are given (YtgmknbfonlbjfaaGreatDoorTie.lean); close each card by the builder's one call (the guide's Derived/Test/ToyasCard.lean, 'card_holds'). Laid BY PROGRAM, IN A SANDBOX (cutbox-door.mjs). By AI agents, Wed Nov 11 2026. No macro, syntax, notation, axiom, sorry.
-/
import Derived.Test.YtgmknbfonlbjfaaGreatDoorRows
import GoSem.ClaimSeven
namespace Go.Proofs.YtgmknbfonlbjfaaGreatDoor
namespace Rows

/-- THE TIED CARD OF 'retrospectlaw46.LookMisses'. -/
def lookMissesCard : Claim7 := { stood := { row := lookMissesRow, standIns := [], harness := (true, "2178689fd845a54b36d4e40e815c5c30965a692c7833a2692bdfb428810eef6d"), looks := false }, kinds := [], alts := [], laidByText := true, laidKinds := [.data, .pinned], laidTests := true, laidLooks := .later }
def LookMissesCardSaid : Prop := Claim7.holds Tryz.pinned (.plain (OpenSpec.ofChange lookMissesSpec)) lookMissesCard

/-- THE SECOND FORM's CARD OF 'retrospectlaw46.LookMisses'. -/
def lookMissesUptoCard : Claim7 := { stood := { row := lookMissesUptoRow, standIns := [], harness := (true, "2178689fd845a54b36d4e40e815c5c30965a692c7833a2692bdfb428810eef6d"), looks := false }, kinds := [], alts := [], laidByText := true, laidKinds := [.data, .pinned], laidTests := true, laidLooks := .later }
def LookMissesUptoCardSaid : Prop := Claim7.holds Tryz.pinned (.plain (OpenSpec.upto lookMissesSpec)) lookMissesUptoCard
end Rows
end Go.Proofs.YtgmknbfonlbjfaaGreatDoor
