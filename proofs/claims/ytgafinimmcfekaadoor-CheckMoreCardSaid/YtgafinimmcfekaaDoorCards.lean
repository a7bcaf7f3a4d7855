/-
  DERIVED. GIVEN WITH THE SEED: THE CARDS: each row of YtgafinimmcfekaaDoorRows.lean that lists a variable, with what it lists TIED to the program's text (the seventh form; the later family's looks); each row that meets fmt, with fmt's text TOLD by the authors' own Lean function (tested against real Go, not proved from fmt's source: count such statements apart). THE CARD IS WHAT COUNTS. Prove the row's statement (the work); the ties are given (YtgafinimmcfekaaDoorTie.lean); close each card by the builder's one call (the guide's Derived/Test/ToyasCard.lean, 'card_holds'). Laid BY PROGRAM, IN A SANDBOX (cutbox-door.mjs). By AI agents, Wed Nov 11 2026. No macro, syntax, notation, axiom, sorry.
-/
import Derived.Test.YtgafinimmcfekaaDoorRows
import GoSem.ClaimSeven
namespace Go.Proofs.YtgafinimmcfekaaDoor
namespace Rows

/-- THE TIED CARD OF 'retrospectlaw07.DigitsReads'. -/
def digitsReadsCard : Claim7 := { stood := { row := digitsReadsRow, standIns := [], harness := (true, "d9e11994dae539eb7da4cd3a5c01aa6b32eb03f26b52aab1bf3dd0528fb9949d"), looks := false }, kinds := [], alts := [], laidByText := true, laidKinds := [.data, .pinned], laidTests := true, laidLooks := .later }
def DigitsReadsCardSaid : Prop := Claim7.holds Tryd.pinned (.plain (OpenSpec.ofChange digitsReadsSpec)) digitsReadsCard

/-- THE TIED CARD OF 'retrospectlaw07.DigitsWrites'. -/
def digitsWritesCard : Claim7 := { stood := { row := digitsWritesRow, standIns := [], harness := (true, "d9e11994dae539eb7da4cd3a5c01aa6b32eb03f26b52aab1bf3dd0528fb9949d"), looks := false }, kinds := [], alts := [], laidByText := true, laidKinds := [.data, .pinned], laidTests := true, laidLooks := .later }
def DigitsWritesCardSaid : Prop := Claim7.holds Tryd.pinned (.plain (OpenSpec.ofChange digitsWritesSpec)) digitsWritesCard

/-- THE TIED CARD OF 'retrospectlaw07.DigitsBack'. -/
def digitsBackCard : Claim7 := { stood := { row := digitsBackRow, standIns := [], harness := (true, "d9e11994dae539eb7da4cd3a5c01aa6b32eb03f26b52aab1bf3dd0528fb9949d"), looks := false }, kinds := [], alts := [], laidByText := true, laidKinds := [.data, .pinned], laidTests := true, laidLooks := .later }
def DigitsBackCardSaid : Prop := Claim7.holds Tryd.pinned (.plain (OpenSpec.ofChange digitsBackSpec)) digitsBackCard

/-- THE TIED CARD OF 'retrospectlaw19.CheckFields'. -/
def checkFieldsCard : Claim7 := { stood := { row := checkFieldsRow, standIns := [], harness := (true, "d9e11994dae539eb7da4cd3a5c01aa6b32eb03f26b52aab1bf3dd0528fb9949d"), looks := false }, kinds := [], alts := [], laidByText := true, laidKinds := [.data, .pinned], laidTests := true, laidLooks := .later }
def CheckFieldsCardSaid : Prop := Claim7.holds Tryd.pinned (.plain (OpenSpec.ofChange checkFieldsSpec)) checkFieldsCard

/-- THE TIED CARD OF 'retrospectlaw19.CheckNodes'. -/
def checkNodesCard : Claim7 := { stood := { row := checkNodesRow, standIns := [], harness := (true, "d9e11994dae539eb7da4cd3a5c01aa6b32eb03f26b52aab1bf3dd0528fb9949d"), looks := false }, kinds := [], alts := [], laidByText := true, laidKinds := [.data, .pinned], laidTests := true, laidLooks := .later }
def CheckNodesCardSaid : Prop := Claim7.holds Tryd.pinned (.plain (OpenSpec.ofChange checkNodesSpec)) checkNodesCard

/-- THE TIED CARD OF 'retrospectlaw19.CheckMore'. -/
def checkMoreCard : Claim7 := { stood := { row := checkMoreRow, standIns := [], harness := (true, "d9e11994dae539eb7da4cd3a5c01aa6b32eb03f26b52aab1bf3dd0528fb9949d"), looks := false }, kinds := [], alts := [], laidByText := true, laidKinds := [.data, .pinned], laidTests := true, laidLooks := .later }
def CheckMoreCardSaid : Prop := Claim7.holds Tryd.pinned (.plain (OpenSpec.ofChange checkMoreSpec)) checkMoreCard

/-- THE SECOND FORM's CARD OF 'retrospectlaw07.DigitsReads'. -/
def digitsReadsUptoCard : Claim7 := { stood := { row := digitsReadsUptoRow, standIns := [], harness := (true, "d9e11994dae539eb7da4cd3a5c01aa6b32eb03f26b52aab1bf3dd0528fb9949d"), looks := false }, kinds := [], alts := [], laidByText := true, laidKinds := [.data, .pinned], laidTests := true, laidLooks := .later }
def DigitsReadsUptoCardSaid : Prop := Claim7.holds Tryd.pinned (.plain (OpenSpec.upto digitsReadsSpec)) digitsReadsUptoCard

/-- THE SECOND FORM's CARD OF 'retrospectlaw07.DigitsWrites'. -/
def digitsWritesUptoCard : Claim7 := { stood := { row := digitsWritesUptoRow, standIns := [], harness := (true, "d9e11994dae539eb7da4cd3a5c01aa6b32eb03f26b52aab1bf3dd0528fb9949d"), looks := false }, kinds := [], alts := [], laidByText := true, laidKinds := [.data, .pinned], laidTests := true, laidLooks := .later }
def DigitsWritesUptoCardSaid : Prop := Claim7.holds Tryd.pinned (.plain (OpenSpec.upto digitsWritesSpec)) digitsWritesUptoCard

/-- THE SECOND FORM's CARD OF 'retrospectlaw07.DigitsBack'. -/
def digitsBackUptoCard : Claim7 := { stood := { row := digitsBackUptoRow, standIns := [], harness := (true, "d9e11994dae539eb7da4cd3a5c01aa6b32eb03f26b52aab1bf3dd0528fb9949d"), looks := false }, kinds := [], alts := [], laidByText := true, laidKinds := [.data, .pinned], laidTests := true, laidLooks := .later }
def DigitsBackUptoCardSaid : Prop := Claim7.holds Tryd.pinned (.plain (OpenSpec.upto digitsBackSpec)) digitsBackUptoCard

/-- THE SECOND FORM's CARD OF 'retrospectlaw19.CheckFields'. -/
def checkFieldsUptoCard : Claim7 := { stood := { row := checkFieldsUptoRow, standIns := [], harness := (true, "d9e11994dae539eb7da4cd3a5c01aa6b32eb03f26b52aab1bf3dd0528fb9949d"), looks := false }, kinds := [], alts := [], laidByText := true, laidKinds := [.data, .pinned], laidTests := true, laidLooks := .later }
def CheckFieldsUptoCardSaid : Prop := Claim7.holds Tryd.pinned (.plain (OpenSpec.upto checkFieldsSpec)) checkFieldsUptoCard

/-- THE SECOND FORM's CARD OF 'retrospectlaw19.CheckNodes'. -/
def checkNodesUptoCard : Claim7 := { stood := { row := checkNodesUptoRow, standIns := [], harness := (true, "d9e11994dae539eb7da4cd3a5c01aa6b32eb03f26b52aab1bf3dd0528fb9949d"), looks := false }, kinds := [], alts := [], laidByText := true, laidKinds := [.data, .pinned], laidTests := true, laidLooks := .later }
def CheckNodesUptoCardSaid : Prop := Claim7.holds Tryd.pinned (.plain (OpenSpec.upto checkNodesSpec)) checkNodesUptoCard

/-- THE SECOND FORM's CARD OF 'retrospectlaw19.CheckMore'. -/
def checkMoreUptoCard : Claim7 := { stood := { row := checkMoreUptoRow, standIns := [], harness := (true, "d9e11994dae539eb7da4cd3a5c01aa6b32eb03f26b52aab1bf3dd0528fb9949d"), looks := false }, kinds := [], alts := [], laidByText := true, laidKinds := [.data, .pinned], laidTests := true, laidLooks := .later }
def CheckMoreUptoCardSaid : Prop := Claim7.holds Tryd.pinned (.plain (OpenSpec.upto checkMoreSpec)) checkMoreUptoCard
end Rows
end Go.Proofs.YtgafinimmcfekaaDoor
