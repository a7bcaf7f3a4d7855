/-
  DERIVED. GIVEN WITH THE SEED: THE CARDS: each row of YthdbapalogijdaaGreatDoorRows.lean that lists a variable, with what it lists TIED to the program's text (the seventh form; the later family's looks); each row that meets fmt, with fmt's text TOLD by the authors' own Lean function (tested against real Go, not proved from fmt's source: count such statements apart). THE CARD IS WHAT COUNTS. Prove the row's statement (the work); the ties are given (YthdbapalogijdaaGreatDoorTie.lean); close each card by the builder's one call (the guide's Derived/Test/ToyasCard.lean, 'card_holds'). Laid BY PROGRAM, IN A SANDBOX (cutbox-door.mjs). By AI agents, Wed Nov 11 2026. No macro, syntax, notation, axiom, sorry.
-/
import Derived.Test.YthdbapalogijdaaGreatDoorRows
import GoSem.ClaimSeven
namespace Go.Proofs.YthdbapalogijdaaGreatDoor
namespace Rows

/-- THE TIED CARD OF 'retrospectlaw49.EngineReads'. -/
def engineReadsCard : Claim7 := { stood := { row := engineReadsRow, standIns := [], harness := (true, "faafe7199ec0a82367e8cd8d530cf2cb7ac6c91b8b2012491deb1727e9be3bb3"), looks := true }, kinds := [], alts := [], laidByText := true, laidKinds := [.pinned, .data, .sentinel, .sentinel, .data, .data, .data], laidTests := true, laidLooks := .later }
def EngineReadsCardSaid : Prop := Claim7.holds Tryz.pinned (.plain (OpenSpec.ofChange engineReadsSpec)) engineReadsCard

/-- THE SECOND FORM's CARD OF 'retrospectlaw49.EngineReads'. -/
def engineReadsUptoCard : Claim7 := { stood := { row := engineReadsUptoRow, standIns := [], harness := (true, "faafe7199ec0a82367e8cd8d530cf2cb7ac6c91b8b2012491deb1727e9be3bb3"), looks := true }, kinds := [], alts := [], laidByText := true, laidKinds := [.pinned, .data, .sentinel, .sentinel, .data, .data, .data], laidTests := true, laidLooks := .later }
def EngineReadsUptoCardSaid : Prop := Claim7.holds Tryz.pinned (.plain (OpenSpec.upto engineReadsSpec)) engineReadsUptoCard
end Rows
end Go.Proofs.YthdbapalogijdaaGreatDoor
