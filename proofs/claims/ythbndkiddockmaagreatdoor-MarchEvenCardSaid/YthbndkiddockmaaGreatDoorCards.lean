/-
  DERIVED. GIVEN WITH THE SEED: THE CARDS: each row of YthbndkiddockmaaGreatDoorRows.lean that lists a variable, with what it lists TIED to the program's text (the seventh form; the later family's looks); each row that meets fmt, with fmt's text TOLD by the authors' own Lean function (tested against real Go, not proved from fmt's source: count such statements apart). THE CARD IS WHAT COUNTS. Prove the row's statement (the work); the ties are given (YthbndkiddockmaaGreatDoorTie.lean); close each card by the builder's one call (the guide's Derived/Test/ToyasCard.lean, 'card_holds'). Laid BY PROGRAM, IN A SANDBOX (cutbox-door.mjs). By AI agents, Wed Nov 11 2026. No macro, syntax, notation, axiom, sorry.
-/
import Derived.Test.YthbndkiddockmaaGreatDoorRows
import GoSem.ClaimSeven
namespace Go.Proofs.YthbndkiddockmaaGreatDoor
namespace Rows

/-- THE TIED CARD OF 'retrospectlaw38.MarchFixed'. -/
def marchFixedCard : Claim7 := { stood := { row := marchFixedRow, standIns := [], harness := (true, "584378cdb85e1fb47ef8f92aff7190f46b13536e2de846ec874ae6a215db5bec"), looks := false }, kinds := [], alts := [], laidByText := true, laidKinds := [.data, .pinned], laidTests := true, laidLooks := .later }
def MarchFixedCardSaid : Prop := Claim7.holds Tryz.pinned (.plain (OpenSpec.ofChange marchFixedSpec)) marchFixedCard

/-- THE TIED CARD OF 'retrospectlaw38.MarchEven'. -/
def marchEvenCard : Claim7 := { stood := { row := marchEvenRow, standIns := [], harness := (true, "584378cdb85e1fb47ef8f92aff7190f46b13536e2de846ec874ae6a215db5bec"), looks := false }, kinds := [], alts := [], laidByText := true, laidKinds := [.data, .pinned], laidTests := true, laidLooks := .later }
def MarchEvenCardSaid : Prop := Claim7.holds Tryz.pinned (.plain (OpenSpec.ofChange marchEvenSpec)) marchEvenCard

/-- THE TIED CARD OF 'retrospectlaw38.MarchReplays'. -/
def marchReplaysCard : Claim7 := { stood := { row := marchReplaysRow, standIns := [], harness := (true, "584378cdb85e1fb47ef8f92aff7190f46b13536e2de846ec874ae6a215db5bec"), looks := false }, kinds := [], alts := [], laidByText := true, laidKinds := [.data, .pinned], laidTests := true, laidLooks := .later }
def MarchReplaysCardSaid : Prop := Claim7.holds Tryz.pinned (.plain (OpenSpec.ofChange marchReplaysSpec)) marchReplaysCard

/-- THE SECOND FORM's CARD OF 'retrospectlaw38.MarchFixed'. -/
def marchFixedUptoCard : Claim7 := { stood := { row := marchFixedUptoRow, standIns := [], harness := (true, "584378cdb85e1fb47ef8f92aff7190f46b13536e2de846ec874ae6a215db5bec"), looks := false }, kinds := [], alts := [], laidByText := true, laidKinds := [.data, .pinned], laidTests := true, laidLooks := .later }
def MarchFixedUptoCardSaid : Prop := Claim7.holds Tryz.pinned (.plain (OpenSpec.upto marchFixedSpec)) marchFixedUptoCard

/-- THE SECOND FORM's CARD OF 'retrospectlaw38.MarchEven'. -/
def marchEvenUptoCard : Claim7 := { stood := { row := marchEvenUptoRow, standIns := [], harness := (true, "584378cdb85e1fb47ef8f92aff7190f46b13536e2de846ec874ae6a215db5bec"), looks := false }, kinds := [], alts := [], laidByText := true, laidKinds := [.data, .pinned], laidTests := true, laidLooks := .later }
def MarchEvenUptoCardSaid : Prop := Claim7.holds Tryz.pinned (.plain (OpenSpec.upto marchEvenSpec)) marchEvenUptoCard

/-- THE SECOND FORM's CARD OF 'retrospectlaw38.MarchReplays'. -/
def marchReplaysUptoCard : Claim7 := { stood := { row := marchReplaysUptoRow, standIns := [], harness := (true, "584378cdb85e1fb47ef8f92aff7190f46b13536e2de846ec874ae6a215db5bec"), looks := false }, kinds := [], alts := [], laidByText := true, laidKinds := [.data, .pinned], laidTests := true, laidLooks := .later }
def MarchReplaysUptoCardSaid : Prop := Claim7.holds Tryz.pinned (.plain (OpenSpec.upto marchReplaysSpec)) marchReplaysUptoCard
end Rows
end Go.Proofs.YthbndkiddockmaaGreatDoor
