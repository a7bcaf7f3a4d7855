/-
  DERIVED. GIVEN WITH THE SEED: THE CARDS: each row of YtcmhibdigkdjiaaGreatDoorRows.lean that lists a variable, with what it lists TIED to the program's text (the seventh form; the later family's looks); each row that meets fmt, with fmt's text TOLD by the authors' own Lean function (tested against real Go, not proved from fmt's source: count such statements apart). THE CARD IS WHAT COUNTS. Prove the row's statement (the work); the ties are given (YtcmhibdigkdjiaaGreatDoorTie.lean); close each card by the builder's one call (the guide's Derived/Test/ToyasCard.lean, 'card_holds'). Laid BY PROGRAM, IN A SANDBOX (cutbox-door.mjs). By AI agents, Wed Nov 11 2026. No macro, syntax, notation, axiom, sorry.
-/
import Derived.Test.YtcmhibdigkdjiaaGreatDoorRows
import GoSem.ClaimSeven
namespace Go.Proofs.YtcmhibdigkdjiaaGreatDoor
namespace Rows

/-- THE TIED CARD OF 'retrospectlaw33.StepStands'. -/
def stepStandsCard : Claim7 := { stood := { row := stepStandsRow, standIns := [], harness := (true, "547f0b8132e39e44a1f3b2b5b40a83fcfce6f4a973d36c32e9bf00a945885cba"), looks := false }, kinds := [], alts := [], laidByText := true, laidKinds := [.data, .pinned], laidTests := true, laidLooks := .later }
def StepStandsCardSaid : Prop := Claim7.holds Tryz.pinned (.plain (OpenSpec.ofChange stepStandsSpec)) stepStandsCard

/-- THE TIED CARD OF 'retrospectlaw38.MarchOn'. -/
def marchOnCard : Claim7 := { stood := { row := marchOnRow, standIns := [], harness := (true, "547f0b8132e39e44a1f3b2b5b40a83fcfce6f4a973d36c32e9bf00a945885cba"), looks := false }, kinds := [], alts := [], laidByText := true, laidKinds := [.data, .pinned], laidTests := true, laidLooks := .later }
def MarchOnCardSaid : Prop := Claim7.holds Tryz.pinned (.plain (OpenSpec.ofChange marchOnSpec)) marchOnCard

/-- THE SECOND FORM's CARD OF 'retrospectlaw33.StepStands'. -/
def stepStandsUptoCard : Claim7 := { stood := { row := stepStandsUptoRow, standIns := [], harness := (true, "547f0b8132e39e44a1f3b2b5b40a83fcfce6f4a973d36c32e9bf00a945885cba"), looks := false }, kinds := [], alts := [], laidByText := true, laidKinds := [.data, .pinned], laidTests := true, laidLooks := .later }
def StepStandsUptoCardSaid : Prop := Claim7.holds Tryz.pinned (.plain (OpenSpec.upto stepStandsSpec)) stepStandsUptoCard

/-- THE SECOND FORM's CARD OF 'retrospectlaw38.MarchOn'. -/
def marchOnUptoCard : Claim7 := { stood := { row := marchOnUptoRow, standIns := [], harness := (true, "547f0b8132e39e44a1f3b2b5b40a83fcfce6f4a973d36c32e9bf00a945885cba"), looks := false }, kinds := [], alts := [], laidByText := true, laidKinds := [.data, .pinned], laidTests := true, laidLooks := .later }
def MarchOnUptoCardSaid : Prop := Claim7.holds Tryz.pinned (.plain (OpenSpec.upto marchOnSpec)) marchOnUptoCard
end Rows
end Go.Proofs.YtcmhibdigkdjiaaGreatDoor
