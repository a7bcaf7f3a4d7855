/-
  DERIVED. GIVEN WITH THE SEED: THE CARDS: each row of YtlfphifbmoccgaaGreatDoorRows.lean that lists a variable, with what it lists TIED to the program's text (the seventh form; the later family's looks); each row that meets fmt, with fmt's text TOLD by the authors' own Lean function (tested against real Go, not proved from fmt's source: count such statements apart). THE CARD IS WHAT COUNTS. Prove the row's statement (the work); the ties are given (YtlfphifbmoccgaaGreatDoorTie.lean); close each card by the builder's one call (the guide's Derived/Test/ToyasCard.lean, 'card_holds'). Laid BY PROGRAM, IN A SANDBOX (cutbox-door.mjs). By AI agents, Wed Nov 11 2026. No macro, syntax, notation, axiom, sorry.
-/
import Derived.Test.YtlfphifbmoccgaaGreatDoorRows
import GoSem.ClaimSeven
namespace Go.Proofs.YtlfphifbmoccgaaGreatDoor
namespace Rows

/-- THE TIED CARD OF 'retrospectlaw34.TiltCarries'. -/
def tiltCarriesCard : Claim7 := { stood := { row := tiltCarriesRow, standIns := [], harness := (true, "361cb347728ef0be60e8462dea639eb8d186dc56edafe09dda31fa8b4a97ff95"), looks := false }, kinds := [], alts := [], laidByText := true, laidKinds := [.data, .pinned], laidTests := true, laidLooks := .later }
def TiltCarriesCardSaid : Prop := Claim7.holds Tryz.pinned (.plain (OpenSpec.ofChange tiltCarriesSpec)) tiltCarriesCard

/-- THE TIED CARD OF 'retrospectlaw34.TiltLinear'. -/
def tiltLinearCard : Claim7 := { stood := { row := tiltLinearRow, standIns := [], harness := (true, "361cb347728ef0be60e8462dea639eb8d186dc56edafe09dda31fa8b4a97ff95"), looks := false }, kinds := [], alts := [], laidByText := true, laidKinds := [.data, .pinned], laidTests := true, laidLooks := .later }
def TiltLinearCardSaid : Prop := Claim7.holds Tryz.pinned (.plain (OpenSpec.ofChange tiltLinearSpec)) tiltLinearCard

/-- THE TIED CARD OF 'retrospectlaw35.BackCarries'. -/
def backCarriesCard : Claim7 := { stood := { row := backCarriesRow, standIns := [], harness := (true, "361cb347728ef0be60e8462dea639eb8d186dc56edafe09dda31fa8b4a97ff95"), looks := false }, kinds := [], alts := [], laidByText := true, laidKinds := [.data, .pinned], laidTests := true, laidLooks := .later }
def BackCarriesCardSaid : Prop := Claim7.holds Tryz.pinned (.plain (OpenSpec.ofChange backCarriesSpec)) backCarriesCard

/-- THE TIED CARD OF 'retrospectlaw35.BackLinear'. -/
def backLinearCard : Claim7 := { stood := { row := backLinearRow, standIns := [], harness := (true, "361cb347728ef0be60e8462dea639eb8d186dc56edafe09dda31fa8b4a97ff95"), looks := false }, kinds := [], alts := [], laidByText := true, laidKinds := [.data, .pinned], laidTests := true, laidLooks := .later }
def BackLinearCardSaid : Prop := Claim7.holds Tryz.pinned (.plain (OpenSpec.ofChange backLinearSpec)) backLinearCard

/-- THE TIED CARD OF 'retrospectlaw35.BackSums'. -/
def backSumsCard : Claim7 := { stood := { row := backSumsRow, standIns := [], harness := (true, "361cb347728ef0be60e8462dea639eb8d186dc56edafe09dda31fa8b4a97ff95"), looks := false }, kinds := [], alts := [], laidByText := true, laidKinds := [.data, .pinned], laidTests := true, laidLooks := .later }
def BackSumsCardSaid : Prop := Claim7.holds Tryz.pinned (.plain (OpenSpec.ofChange backSumsSpec)) backSumsCard

/-- THE TIED CARD OF 'retrospectlaw40.JudgeLooks'. -/
def judgeLooksCard : Claim7 := { stood := { row := judgeLooksRow, standIns := [], harness := (true, "361cb347728ef0be60e8462dea639eb8d186dc56edafe09dda31fa8b4a97ff95"), looks := false }, kinds := [], alts := [], laidByText := true, laidKinds := [.data, .pinned], laidTests := true, laidLooks := .later }
def JudgeLooksCardSaid : Prop := Claim7.holds Tryz.pinned (.plain (OpenSpec.ofChange judgeLooksSpec)) judgeLooksCard

/-- THE TIED CARD OF 'retrospectlaw42.AlongCarries'. -/
def alongCarriesCard : Claim7 := { stood := { row := alongCarriesRow, standIns := [], harness := (true, "361cb347728ef0be60e8462dea639eb8d186dc56edafe09dda31fa8b4a97ff95"), looks := false }, kinds := [], alts := [], laidByText := true, laidKinds := [.data, .pinned], laidTests := true, laidLooks := .later }
def AlongCarriesCardSaid : Prop := Claim7.holds Tryz.pinned (.plain (OpenSpec.ofChange alongCarriesSpec)) alongCarriesCard

/-- THE TIED CARD OF 'retrospectlaw42.AlongLinear'. -/
def alongLinearCard : Claim7 := { stood := { row := alongLinearRow, standIns := [], harness := (true, "361cb347728ef0be60e8462dea639eb8d186dc56edafe09dda31fa8b4a97ff95"), looks := false }, kinds := [], alts := [], laidByText := true, laidKinds := [.data, .pinned], laidTests := true, laidLooks := .later }
def AlongLinearCardSaid : Prop := Claim7.holds Tryz.pinned (.plain (OpenSpec.ofChange alongLinearSpec)) alongLinearCard

/-- THE TIED CARD OF 'retrospectlaw35.BackTilt'. -/
def backTiltCard : Claim7 := { stood := { row := backTiltRow, standIns := [], harness := (true, "361cb347728ef0be60e8462dea639eb8d186dc56edafe09dda31fa8b4a97ff95"), looks := false }, kinds := [], alts := [], laidByText := true, laidKinds := [.data, .pinned], laidTests := true, laidLooks := .later }
def BackTiltCardSaid : Prop := Claim7.holds Tryz.pinned (.plain (OpenSpec.ofChange backTiltSpec)) backTiltCard

/-- THE SECOND FORM's CARD OF 'retrospectlaw34.TiltCarries'. -/
def tiltCarriesUptoCard : Claim7 := { stood := { row := tiltCarriesUptoRow, standIns := [], harness := (true, "361cb347728ef0be60e8462dea639eb8d186dc56edafe09dda31fa8b4a97ff95"), looks := false }, kinds := [], alts := [], laidByText := true, laidKinds := [.data, .pinned], laidTests := true, laidLooks := .later }
def TiltCarriesUptoCardSaid : Prop := Claim7.holds Tryz.pinned (.plain (OpenSpec.upto tiltCarriesSpec)) tiltCarriesUptoCard

/-- THE SECOND FORM's CARD OF 'retrospectlaw34.TiltLinear'. -/
def tiltLinearUptoCard : Claim7 := { stood := { row := tiltLinearUptoRow, standIns := [], harness := (true, "361cb347728ef0be60e8462dea639eb8d186dc56edafe09dda31fa8b4a97ff95"), looks := false }, kinds := [], alts := [], laidByText := true, laidKinds := [.data, .pinned], laidTests := true, laidLooks := .later }
def TiltLinearUptoCardSaid : Prop := Claim7.holds Tryz.pinned (.plain (OpenSpec.upto tiltLinearSpec)) tiltLinearUptoCard

/-- THE SECOND FORM's CARD OF 'retrospectlaw35.BackCarries'. -/
def backCarriesUptoCard : Claim7 := { stood := { row := backCarriesUptoRow, standIns := [], harness := (true, "361cb347728ef0be60e8462dea639eb8d186dc56edafe09dda31fa8b4a97ff95"), looks := false }, kinds := [], alts := [], laidByText := true, laidKinds := [.data, .pinned], laidTests := true, laidLooks := .later }
def BackCarriesUptoCardSaid : Prop := Claim7.holds Tryz.pinned (.plain (OpenSpec.upto backCarriesSpec)) backCarriesUptoCard

/-- THE SECOND FORM's CARD OF 'retrospectlaw35.BackLinear'. -/
def backLinearUptoCard : Claim7 := { stood := { row := backLinearUptoRow, standIns := [], harness := (true, "361cb347728ef0be60e8462dea639eb8d186dc56edafe09dda31fa8b4a97ff95"), looks := false }, kinds := [], alts := [], laidByText := true, laidKinds := [.data, .pinned], laidTests := true, laidLooks := .later }
def BackLinearUptoCardSaid : Prop := Claim7.holds Tryz.pinned (.plain (OpenSpec.upto backLinearSpec)) backLinearUptoCard

/-- THE SECOND FORM's CARD OF 'retrospectlaw35.BackSums'. -/
def backSumsUptoCard : Claim7 := { stood := { row := backSumsUptoRow, standIns := [], harness := (true, "361cb347728ef0be60e8462dea639eb8d186dc56edafe09dda31fa8b4a97ff95"), looks := false }, kinds := [], alts := [], laidByText := true, laidKinds := [.data, .pinned], laidTests := true, laidLooks := .later }
def BackSumsUptoCardSaid : Prop := Claim7.holds Tryz.pinned (.plain (OpenSpec.upto backSumsSpec)) backSumsUptoCard

/-- THE SECOND FORM's CARD OF 'retrospectlaw40.JudgeLooks'. -/
def judgeLooksUptoCard : Claim7 := { stood := { row := judgeLooksUptoRow, standIns := [], harness := (true, "361cb347728ef0be60e8462dea639eb8d186dc56edafe09dda31fa8b4a97ff95"), looks := false }, kinds := [], alts := [], laidByText := true, laidKinds := [.data, .pinned], laidTests := true, laidLooks := .later }
def JudgeLooksUptoCardSaid : Prop := Claim7.holds Tryz.pinned (.plain (OpenSpec.upto judgeLooksSpec)) judgeLooksUptoCard

/-- THE SECOND FORM's CARD OF 'retrospectlaw42.AlongCarries'. -/
def alongCarriesUptoCard : Claim7 := { stood := { row := alongCarriesUptoRow, standIns := [], harness := (true, "361cb347728ef0be60e8462dea639eb8d186dc56edafe09dda31fa8b4a97ff95"), looks := false }, kinds := [], alts := [], laidByText := true, laidKinds := [.data, .pinned], laidTests := true, laidLooks := .later }
def AlongCarriesUptoCardSaid : Prop := Claim7.holds Tryz.pinned (.plain (OpenSpec.upto alongCarriesSpec)) alongCarriesUptoCard

/-- THE SECOND FORM's CARD OF 'retrospectlaw42.AlongLinear'. -/
def alongLinearUptoCard : Claim7 := { stood := { row := alongLinearUptoRow, standIns := [], harness := (true, "361cb347728ef0be60e8462dea639eb8d186dc56edafe09dda31fa8b4a97ff95"), looks := false }, kinds := [], alts := [], laidByText := true, laidKinds := [.data, .pinned], laidTests := true, laidLooks := .later }
def AlongLinearUptoCardSaid : Prop := Claim7.holds Tryz.pinned (.plain (OpenSpec.upto alongLinearSpec)) alongLinearUptoCard

/-- THE SECOND FORM's CARD OF 'retrospectlaw35.BackTilt'. -/
def backTiltUptoCard : Claim7 := { stood := { row := backTiltUptoRow, standIns := [], harness := (true, "361cb347728ef0be60e8462dea639eb8d186dc56edafe09dda31fa8b4a97ff95"), looks := false }, kinds := [], alts := [], laidByText := true, laidKinds := [.data, .pinned], laidTests := true, laidLooks := .later }
def BackTiltUptoCardSaid : Prop := Claim7.holds Tryz.pinned (.plain (OpenSpec.upto backTiltSpec)) backTiltUptoCard
end Rows
end Go.Proofs.YtlfphifbmoccgaaGreatDoor
