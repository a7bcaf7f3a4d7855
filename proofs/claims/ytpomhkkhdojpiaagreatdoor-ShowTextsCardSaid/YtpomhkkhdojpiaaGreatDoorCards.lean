/-
  DERIVED. GIVEN WITH THE SEED: THE CARDS: each row of YtpomhkkhdojpiaaGreatDoorRows.lean that lists a variable, with what it lists TIED to the program's text (the seventh form; the later family's looks); each row that meets fmt, with fmt's text TOLD by the authors' own Lean function (tested against real Go, not proved from fmt's source: count such statements apart). THE CARD IS WHAT COUNTS. Prove the row's statement (the work); the ties are given (YtpomhkkhdojpiaaGreatDoorTie.lean); close each card by the builder's one call (the guide's Derived/Test/ToyasCard.lean, 'card_holds'). Laid BY PROGRAM, IN A SANDBOX (cutbox-door.mjs). By AI agents, Wed Nov 11 2026. No macro, syntax, notation, axiom, sorry.
-/
import Derived.Test.YtpomhkkhdojpiaaGreatDoorRows
import GoSem.ClaimSeven
namespace Go.Proofs.YtpomhkkhdojpiaaGreatDoor
namespace Rows

/-- THE TIED CARD OF 'retrospectlaw18.ParseFields'. -/
def parseFieldsCard : Claim7 := { stood := { row := parseFieldsRow, standIns := [], harness := (true, "acab7dedbdb5444512a32aacfc622d91eac1a300875b2a1cf535a9117cdf3ca5"), looks := true }, kinds := [], alts := [], laidByText := true, laidKinds := [.data, .data, .data, .sentinel, .sentinel], laidTests := true, laidLooks := .later }
def ParseFieldsCardSaid : Prop := Claim7.holds Tryz.pinned (.plain (OpenSpec.ofChange parseFieldsSpec)) parseFieldsCard

/-- THE TIED CARD OF 'retrospectlaw18.ParseExprs'. -/
def parseExprsCard : Claim7 := { stood := { row := parseExprsRow, standIns := [], harness := (true, "acab7dedbdb5444512a32aacfc622d91eac1a300875b2a1cf535a9117cdf3ca5"), looks := true }, kinds := [], alts := [], laidByText := true, laidKinds := [.data, .data, .data, .sentinel, .sentinel], laidTests := true, laidLooks := .later }
def ParseExprsCardSaid : Prop := Claim7.holds Tryz.pinned (.plain (OpenSpec.ofChange parseExprsSpec)) parseExprsCard

/-- THE TIED CARD OF 'retrospectlaw20.ShowExprs'. -/
def showExprsCard : Claim7 := { stood := { row := showExprsRow, standIns := [], harness := (true, "acab7dedbdb5444512a32aacfc622d91eac1a300875b2a1cf535a9117cdf3ca5"), looks := true }, kinds := [], alts := [], laidByText := true, laidKinds := [.data, .data, .data, .data, .sentinel, .sentinel, .pinned], laidTests := true, laidLooks := .later }
def ShowExprsCardSaid : Prop := Claim7.holds Tryz.pinned (.plain (OpenSpec.ofChange showExprsSpec)) showExprsCard

/-- THE TIED CARD OF 'retrospectlaw20.ShowFields'. -/
def showFieldsCard : Claim7 := { stood := { row := showFieldsRow, standIns := [], harness := (true, "acab7dedbdb5444512a32aacfc622d91eac1a300875b2a1cf535a9117cdf3ca5"), looks := true }, kinds := [], alts := [], laidByText := true, laidKinds := [.data, .data, .data, .data, .sentinel, .sentinel, .pinned], laidTests := true, laidLooks := .later }
def ShowFieldsCardSaid : Prop := Claim7.holds Tryz.pinned (.plain (OpenSpec.ofChange showFieldsSpec)) showFieldsCard

/-- THE TIED CARD OF 'retrospectlaw20.ShowBack'. -/
def showBackCard : Claim7 := { stood := { row := showBackRow, standIns := [], harness := (true, "acab7dedbdb5444512a32aacfc622d91eac1a300875b2a1cf535a9117cdf3ca5"), looks := true }, kinds := [], alts := [], laidByText := true, laidKinds := [.data, .data, .data, .data, .sentinel, .sentinel, .pinned], laidTests := true, laidLooks := .later }
def ShowBackCardSaid : Prop := Claim7.holds Tryz.pinned (.plain (OpenSpec.ofChange showBackSpec)) showBackCard

/-- THE TIED CARD OF 'retrospectlaw20.ShowTexts'. -/
def showTextsCard : Claim7 := { stood := { row := showTextsRow, standIns := [], harness := (true, "acab7dedbdb5444512a32aacfc622d91eac1a300875b2a1cf535a9117cdf3ca5"), looks := true }, kinds := [], alts := [], laidByText := true, laidKinds := [.data, .data, .data, .data, .sentinel, .sentinel, .pinned], laidTests := true, laidLooks := .later }
def ShowTextsCardSaid : Prop := Claim7.holds Tryz.pinned (.plain (OpenSpec.ofChange showTextsSpec)) showTextsCard

/-- THE SECOND FORM's CARD OF 'retrospectlaw18.ParseFields'. -/
def parseFieldsUptoCard : Claim7 := { stood := { row := parseFieldsUptoRow, standIns := [], harness := (true, "acab7dedbdb5444512a32aacfc622d91eac1a300875b2a1cf535a9117cdf3ca5"), looks := true }, kinds := [], alts := [], laidByText := true, laidKinds := [.data, .data, .data, .sentinel, .sentinel], laidTests := true, laidLooks := .later }
def ParseFieldsUptoCardSaid : Prop := Claim7.holds Tryz.pinned (.plain (OpenSpec.upto parseFieldsSpec)) parseFieldsUptoCard

/-- THE SECOND FORM's CARD OF 'retrospectlaw18.ParseExprs'. -/
def parseExprsUptoCard : Claim7 := { stood := { row := parseExprsUptoRow, standIns := [], harness := (true, "acab7dedbdb5444512a32aacfc622d91eac1a300875b2a1cf535a9117cdf3ca5"), looks := true }, kinds := [], alts := [], laidByText := true, laidKinds := [.data, .data, .data, .sentinel, .sentinel], laidTests := true, laidLooks := .later }
def ParseExprsUptoCardSaid : Prop := Claim7.holds Tryz.pinned (.plain (OpenSpec.upto parseExprsSpec)) parseExprsUptoCard

/-- THE SECOND FORM's CARD OF 'retrospectlaw20.ShowExprs'. -/
def showExprsUptoCard : Claim7 := { stood := { row := showExprsUptoRow, standIns := [], harness := (true, "acab7dedbdb5444512a32aacfc622d91eac1a300875b2a1cf535a9117cdf3ca5"), looks := true }, kinds := [], alts := [], laidByText := true, laidKinds := [.data, .data, .data, .data, .sentinel, .sentinel, .pinned], laidTests := true, laidLooks := .later }
def ShowExprsUptoCardSaid : Prop := Claim7.holds Tryz.pinned (.plain (OpenSpec.upto showExprsSpec)) showExprsUptoCard

/-- THE SECOND FORM's CARD OF 'retrospectlaw20.ShowFields'. -/
def showFieldsUptoCard : Claim7 := { stood := { row := showFieldsUptoRow, standIns := [], harness := (true, "acab7dedbdb5444512a32aacfc622d91eac1a300875b2a1cf535a9117cdf3ca5"), looks := true }, kinds := [], alts := [], laidByText := true, laidKinds := [.data, .data, .data, .data, .sentinel, .sentinel, .pinned], laidTests := true, laidLooks := .later }
def ShowFieldsUptoCardSaid : Prop := Claim7.holds Tryz.pinned (.plain (OpenSpec.upto showFieldsSpec)) showFieldsUptoCard

/-- THE SECOND FORM's CARD OF 'retrospectlaw20.ShowBack'. -/
def showBackUptoCard : Claim7 := { stood := { row := showBackUptoRow, standIns := [], harness := (true, "acab7dedbdb5444512a32aacfc622d91eac1a300875b2a1cf535a9117cdf3ca5"), looks := true }, kinds := [], alts := [], laidByText := true, laidKinds := [.data, .data, .data, .data, .sentinel, .sentinel, .pinned], laidTests := true, laidLooks := .later }
def ShowBackUptoCardSaid : Prop := Claim7.holds Tryz.pinned (.plain (OpenSpec.upto showBackSpec)) showBackUptoCard

/-- THE SECOND FORM's CARD OF 'retrospectlaw20.ShowTexts'. -/
def showTextsUptoCard : Claim7 := { stood := { row := showTextsUptoRow, standIns := [], harness := (true, "acab7dedbdb5444512a32aacfc622d91eac1a300875b2a1cf535a9117cdf3ca5"), looks := true }, kinds := [], alts := [], laidByText := true, laidKinds := [.data, .data, .data, .data, .sentinel, .sentinel, .pinned], laidTests := true, laidLooks := .later }
def ShowTextsUptoCardSaid : Prop := Claim7.holds Tryz.pinned (.plain (OpenSpec.upto showTextsSpec)) showTextsUptoCard
end Rows
end Go.Proofs.YtpomhkkhdojpiaaGreatDoor
