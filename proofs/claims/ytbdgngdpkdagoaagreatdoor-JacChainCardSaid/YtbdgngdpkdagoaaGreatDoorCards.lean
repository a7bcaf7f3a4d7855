/-
  DERIVED. GIVEN WITH THE SEED: THE CARDS: each row of YtbdgngdpkdagoaaGreatDoorRows.lean that lists a variable, with what it lists TIED to the program's text (the seventh form; the later family's looks); each row that meets fmt, with fmt's text TOLD by the authors' own Lean function (tested against real Go, not proved from fmt's source: count such statements apart). THE CARD IS WHAT COUNTS. Prove the row's statement (the work); the ties are given (YtbdgngdpkdagoaaGreatDoorTie.lean); close each card by the builder's one call (the guide's Derived/Test/ToyasCard.lean, 'card_holds'). Laid BY PROGRAM, IN A SANDBOX (cutbox-door.mjs). By AI agents, Wed Nov 11 2026. No macro, syntax, notation, axiom, sorry.
-/
import Derived.Test.YtbdgngdpkdagoaaGreatDoorRows
import GoSem.ClaimSeven
namespace Go.Proofs.YtbdgngdpkdagoaaGreatDoor
namespace Rows

/-- THE TIED CARD OF 'retrospectlaw45.JacBoth'. -/
def jacBothCard : Claim7 := { stood := { row := jacBothRow, standIns := [], harness := (true, "8db869830b9a596ab5f7aae9b24e16cdb91b38c5ba8678c6617af01d2ec3baf8"), looks := false }, kinds := [], alts := [], laidByText := true, laidKinds := [.data, .pinned], laidTests := true, laidLooks := .later }
def JacBothCardSaid : Prop := Claim7.holds Tryz.pinned (.plain (OpenSpec.ofChange jacBothSpec)) jacBothCard

/-- THE TIED CARD OF 'retrospectlaw45.JacChain'. -/
def jacChainCard : Claim7 := { stood := { row := jacChainRow, standIns := [], harness := (true, "8db869830b9a596ab5f7aae9b24e16cdb91b38c5ba8678c6617af01d2ec3baf8"), looks := false }, kinds := [], alts := [], laidByText := true, laidKinds := [.data, .pinned], laidTests := true, laidLooks := .later }
def JacChainCardSaid : Prop := Claim7.holds Tryz.pinned (.plain (OpenSpec.ofChange jacChainSpec)) jacChainCard

/-- THE TIED CARD OF 'retrospectlaw44.SweepBacks'. -/
def sweepBacksCard : Claim7 := { stood := { row := sweepBacksRow, standIns := [], harness := (true, "8db869830b9a596ab5f7aae9b24e16cdb91b38c5ba8678c6617af01d2ec3baf8"), looks := false }, kinds := [], alts := [], laidByText := true, laidKinds := [.data, .pinned], laidTests := true, laidLooks := .later }
def SweepBacksCardSaid : Prop := Claim7.holds Tryz.pinned (.plain (OpenSpec.ofChange sweepBacksSpec)) sweepBacksCard

/-- THE SECOND FORM's CARD OF 'retrospectlaw45.JacBoth'. -/
def jacBothUptoCard : Claim7 := { stood := { row := jacBothUptoRow, standIns := [], harness := (true, "8db869830b9a596ab5f7aae9b24e16cdb91b38c5ba8678c6617af01d2ec3baf8"), looks := false }, kinds := [], alts := [], laidByText := true, laidKinds := [.data, .pinned], laidTests := true, laidLooks := .later }
def JacBothUptoCardSaid : Prop := Claim7.holds Tryz.pinned (.plain (OpenSpec.upto jacBothSpec)) jacBothUptoCard

/-- THE SECOND FORM's CARD OF 'retrospectlaw45.JacChain'. -/
def jacChainUptoCard : Claim7 := { stood := { row := jacChainUptoRow, standIns := [], harness := (true, "8db869830b9a596ab5f7aae9b24e16cdb91b38c5ba8678c6617af01d2ec3baf8"), looks := false }, kinds := [], alts := [], laidByText := true, laidKinds := [.data, .pinned], laidTests := true, laidLooks := .later }
def JacChainUptoCardSaid : Prop := Claim7.holds Tryz.pinned (.plain (OpenSpec.upto jacChainSpec)) jacChainUptoCard

/-- THE SECOND FORM's CARD OF 'retrospectlaw44.SweepBacks'. -/
def sweepBacksUptoCard : Claim7 := { stood := { row := sweepBacksUptoRow, standIns := [], harness := (true, "8db869830b9a596ab5f7aae9b24e16cdb91b38c5ba8678c6617af01d2ec3baf8"), looks := false }, kinds := [], alts := [], laidByText := true, laidKinds := [.data, .pinned], laidTests := true, laidLooks := .later }
def SweepBacksUptoCardSaid : Prop := Claim7.holds Tryz.pinned (.plain (OpenSpec.upto sweepBacksSpec)) sweepBacksUptoCard
end Rows
end Go.Proofs.YtbdgngdpkdagoaaGreatDoor
