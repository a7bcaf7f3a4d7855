/-
  DERIVED. GIVEN WITH THE SEED: THE CARDS: each row of YtkkfedionkhgnaaGreatDoorRows.lean that lists a variable, with what it lists TIED to the program's text (the seventh form; the later family's looks); each row that meets fmt, with fmt's text TOLD by the authors' own Lean function (tested against real Go, not proved from fmt's source: count such statements apart). THE CARD IS WHAT COUNTS. Prove the row's statement (the work); the ties are given (YtkkfedionkhgnaaGreatDoorTie.lean); close each card by the builder's one call (the guide's Derived/Test/ToyasCard.lean, 'card_holds'). Laid BY PROGRAM, IN A SANDBOX (cutbox-door.mjs). By AI agents, Wed Nov 11 2026. No macro, syntax, notation, axiom, sorry.
-/
import Derived.Test.YtkkfedionkhgnaaGreatDoorRows
import GoSem.ClaimSeven
namespace Go.Proofs.YtkkfedionkhgnaaGreatDoor
namespace Rows

/-- THE TIED CARD OF 'retrospectlaw34.TiltMatrix'. -/
def tiltMatrixCard : Claim7 := { stood := { row := tiltMatrixRow, standIns := [], harness := (true, "4c4618a54997f212e7e88a1b66aaf94a64c62abc04aada0989288a0af718ab6b"), looks := false }, kinds := [], alts := [], laidByText := true, laidKinds := [.data, .pinned], laidTests := true, laidLooks := .later }
def TiltMatrixCardSaid : Prop := Claim7.holds Tryz.pinned (.plain (OpenSpec.ofChange tiltMatrixSpec)) tiltMatrixCard

/-- THE TIED CARD OF 'retrospectlaw42.AlongMatrix'. -/
def alongMatrixCard : Claim7 := { stood := { row := alongMatrixRow, standIns := [], harness := (true, "4c4618a54997f212e7e88a1b66aaf94a64c62abc04aada0989288a0af718ab6b"), looks := false }, kinds := [], alts := [], laidByText := true, laidKinds := [.data, .pinned], laidTests := true, laidLooks := .later }
def AlongMatrixCardSaid : Prop := Claim7.holds Tryz.pinned (.plain (OpenSpec.ofChange alongMatrixSpec)) alongMatrixCard

/-- THE TIED CARD OF 'retrospectlaw44.SweepBacks'. -/
def sweepBacksCard : Claim7 := { stood := { row := sweepBacksRow, standIns := [], harness := (true, "4c4618a54997f212e7e88a1b66aaf94a64c62abc04aada0989288a0af718ab6b"), looks := false }, kinds := [], alts := [], laidByText := true, laidKinds := [.data, .pinned], laidTests := true, laidLooks := .later }
def SweepBacksCardSaid : Prop := Claim7.holds Tryz.pinned (.plain (OpenSpec.ofChange sweepBacksSpec)) sweepBacksCard

/-- THE TIED CARD OF 'retrospectlaw44.SweepSpacing'. -/
def sweepSpacingCard : Claim7 := { stood := { row := sweepSpacingRow, standIns := [], harness := (true, "4c4618a54997f212e7e88a1b66aaf94a64c62abc04aada0989288a0af718ab6b"), looks := false }, kinds := [], alts := [], laidByText := true, laidKinds := [.data, .pinned], laidTests := true, laidLooks := .later }
def SweepSpacingCardSaid : Prop := Claim7.holds Tryz.pinned (.plain (OpenSpec.ofChange sweepSpacingSpec)) sweepSpacingCard

/-- THE TIED CARD OF 'retrospectlaw44.SweepAlong'. -/
def sweepAlongCard : Claim7 := { stood := { row := sweepAlongRow, standIns := [], harness := (true, "4c4618a54997f212e7e88a1b66aaf94a64c62abc04aada0989288a0af718ab6b"), looks := false }, kinds := [], alts := [], laidByText := true, laidKinds := [.data, .pinned], laidTests := true, laidLooks := .later }
def SweepAlongCardSaid : Prop := Claim7.holds Tryz.pinned (.plain (OpenSpec.ofChange sweepAlongSpec)) sweepAlongCard

/-- THE TIED CARD OF 'retrospectlaw45.JacBoth'. -/
def jacBothCard : Claim7 := { stood := { row := jacBothRow, standIns := [], harness := (true, "4c4618a54997f212e7e88a1b66aaf94a64c62abc04aada0989288a0af718ab6b"), looks := false }, kinds := [], alts := [], laidByText := true, laidKinds := [.data, .pinned], laidTests := true, laidLooks := .later }
def JacBothCardSaid : Prop := Claim7.holds Tryz.pinned (.plain (OpenSpec.ofChange jacBothSpec)) jacBothCard

/-- THE TIED CARD OF 'retrospectlaw45.JacChains'. -/
def jacChainsCard : Claim7 := { stood := { row := jacChainsRow, standIns := [], harness := (true, "4c4618a54997f212e7e88a1b66aaf94a64c62abc04aada0989288a0af718ab6b"), looks := false }, kinds := [], alts := [], laidByText := true, laidKinds := [.data, .pinned], laidTests := true, laidLooks := .later }
def JacChainsCardSaid : Prop := Claim7.holds Tryz.pinned (.plain (OpenSpec.ofChange jacChainsSpec)) jacChainsCard

/-- THE SECOND FORM's CARD OF 'retrospectlaw34.TiltMatrix'. -/
def tiltMatrixUptoCard : Claim7 := { stood := { row := tiltMatrixUptoRow, standIns := [], harness := (true, "4c4618a54997f212e7e88a1b66aaf94a64c62abc04aada0989288a0af718ab6b"), looks := false }, kinds := [], alts := [], laidByText := true, laidKinds := [.data, .pinned], laidTests := true, laidLooks := .later }
def TiltMatrixUptoCardSaid : Prop := Claim7.holds Tryz.pinned (.plain (OpenSpec.upto tiltMatrixSpec)) tiltMatrixUptoCard

/-- THE SECOND FORM's CARD OF 'retrospectlaw42.AlongMatrix'. -/
def alongMatrixUptoCard : Claim7 := { stood := { row := alongMatrixUptoRow, standIns := [], harness := (true, "4c4618a54997f212e7e88a1b66aaf94a64c62abc04aada0989288a0af718ab6b"), looks := false }, kinds := [], alts := [], laidByText := true, laidKinds := [.data, .pinned], laidTests := true, laidLooks := .later }
def AlongMatrixUptoCardSaid : Prop := Claim7.holds Tryz.pinned (.plain (OpenSpec.upto alongMatrixSpec)) alongMatrixUptoCard

/-- THE SECOND FORM's CARD OF 'retrospectlaw44.SweepBacks'. -/
def sweepBacksUptoCard : Claim7 := { stood := { row := sweepBacksUptoRow, standIns := [], harness := (true, "4c4618a54997f212e7e88a1b66aaf94a64c62abc04aada0989288a0af718ab6b"), looks := false }, kinds := [], alts := [], laidByText := true, laidKinds := [.data, .pinned], laidTests := true, laidLooks := .later }
def SweepBacksUptoCardSaid : Prop := Claim7.holds Tryz.pinned (.plain (OpenSpec.upto sweepBacksSpec)) sweepBacksUptoCard

/-- THE SECOND FORM's CARD OF 'retrospectlaw44.SweepSpacing'. -/
def sweepSpacingUptoCard : Claim7 := { stood := { row := sweepSpacingUptoRow, standIns := [], harness := (true, "4c4618a54997f212e7e88a1b66aaf94a64c62abc04aada0989288a0af718ab6b"), looks := false }, kinds := [], alts := [], laidByText := true, laidKinds := [.data, .pinned], laidTests := true, laidLooks := .later }
def SweepSpacingUptoCardSaid : Prop := Claim7.holds Tryz.pinned (.plain (OpenSpec.upto sweepSpacingSpec)) sweepSpacingUptoCard

/-- THE SECOND FORM's CARD OF 'retrospectlaw44.SweepAlong'. -/
def sweepAlongUptoCard : Claim7 := { stood := { row := sweepAlongUptoRow, standIns := [], harness := (true, "4c4618a54997f212e7e88a1b66aaf94a64c62abc04aada0989288a0af718ab6b"), looks := false }, kinds := [], alts := [], laidByText := true, laidKinds := [.data, .pinned], laidTests := true, laidLooks := .later }
def SweepAlongUptoCardSaid : Prop := Claim7.holds Tryz.pinned (.plain (OpenSpec.upto sweepAlongSpec)) sweepAlongUptoCard

/-- THE SECOND FORM's CARD OF 'retrospectlaw45.JacBoth'. -/
def jacBothUptoCard : Claim7 := { stood := { row := jacBothUptoRow, standIns := [], harness := (true, "4c4618a54997f212e7e88a1b66aaf94a64c62abc04aada0989288a0af718ab6b"), looks := false }, kinds := [], alts := [], laidByText := true, laidKinds := [.data, .pinned], laidTests := true, laidLooks := .later }
def JacBothUptoCardSaid : Prop := Claim7.holds Tryz.pinned (.plain (OpenSpec.upto jacBothSpec)) jacBothUptoCard

/-- THE SECOND FORM's CARD OF 'retrospectlaw45.JacChains'. -/
def jacChainsUptoCard : Claim7 := { stood := { row := jacChainsUptoRow, standIns := [], harness := (true, "4c4618a54997f212e7e88a1b66aaf94a64c62abc04aada0989288a0af718ab6b"), looks := false }, kinds := [], alts := [], laidByText := true, laidKinds := [.data, .pinned], laidTests := true, laidLooks := .later }
def JacChainsUptoCardSaid : Prop := Claim7.holds Tryz.pinned (.plain (OpenSpec.upto jacChainsSpec)) jacChainsUptoCard
end Rows
end Go.Proofs.YtkkfedionkhgnaaGreatDoor
