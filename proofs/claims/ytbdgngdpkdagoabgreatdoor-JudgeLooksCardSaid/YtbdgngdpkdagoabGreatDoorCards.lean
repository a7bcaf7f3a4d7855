/-
  DERIVED. GIVEN WITH THE SEED: THE CARDS: each row of YtbdgngdpkdagoabGreatDoorRows.lean that lists a variable, with what it lists TIED to the program's text (the seventh form; the later family's looks); each row that meets fmt, with fmt's text TOLD by the authors' own Lean function (tested against real Go, not proved from fmt's source: count such statements apart). THE CARD IS WHAT COUNTS. Prove the row's statement (the work); the ties are given (YtbdgngdpkdagoabGreatDoorTie.lean); close each card by the builder's one call (the guide's Derived/Test/ToyasCard.lean, 'card_holds'). Laid BY PROGRAM, IN A SANDBOX (cutbox-door.mjs). By AI agents, Wed Nov 11 2026. No macro, syntax, notation, axiom, sorry.
-/
import Derived.Test.YtbdgngdpkdagoabGreatDoorRows
import GoSem.ClaimSeven
namespace Go.Proofs.YtbdgngdpkdagoabGreatDoor
namespace Rows

/-- THE TIED CARD OF 'retrospectlaw35.BackCarries'. -/
def backCarriesCard : Claim7 := { stood := { row := backCarriesRow, standIns := [], harness := (true, "cc4c90fc917d8487daadcba7d0cb923d3bec353ec5b66bfd6f7c069d00d5027d"), looks := false }, kinds := [], alts := [], laidByText := true, laidKinds := [.data, .pinned], laidTests := true, laidLooks := .later }
def BackCarriesCardSaid : Prop := Claim7.holds Tryz.pinned (.plain (OpenSpec.ofChange backCarriesSpec)) backCarriesCard

/-- THE TIED CARD OF 'retrospectlaw42.AlongCarries'. -/
def alongCarriesCard : Claim7 := { stood := { row := alongCarriesRow, standIns := [], harness := (true, "cc4c90fc917d8487daadcba7d0cb923d3bec353ec5b66bfd6f7c069d00d5027d"), looks := false }, kinds := [], alts := [], laidByText := true, laidKinds := [.data, .pinned], laidTests := true, laidLooks := .later }
def AlongCarriesCardSaid : Prop := Claim7.holds Tryz.pinned (.plain (OpenSpec.ofChange alongCarriesSpec)) alongCarriesCard

/-- THE TIED CARD OF 'retrospectlaw40.JudgeLooks'. -/
def judgeLooksCard : Claim7 := { stood := { row := judgeLooksRow, standIns := [], harness := (true, "cc4c90fc917d8487daadcba7d0cb923d3bec353ec5b66bfd6f7c069d00d5027d"), looks := false }, kinds := [], alts := [], laidByText := true, laidKinds := [.data, .pinned], laidTests := true, laidLooks := .later }
def JudgeLooksCardSaid : Prop := Claim7.holds Tryz.pinned (.plain (OpenSpec.ofChange judgeLooksSpec)) judgeLooksCard

/-- THE SECOND FORM's CARD OF 'retrospectlaw35.BackCarries'. -/
def backCarriesUptoCard : Claim7 := { stood := { row := backCarriesUptoRow, standIns := [], harness := (true, "cc4c90fc917d8487daadcba7d0cb923d3bec353ec5b66bfd6f7c069d00d5027d"), looks := false }, kinds := [], alts := [], laidByText := true, laidKinds := [.data, .pinned], laidTests := true, laidLooks := .later }
def BackCarriesUptoCardSaid : Prop := Claim7.holds Tryz.pinned (.plain (OpenSpec.upto backCarriesSpec)) backCarriesUptoCard

/-- THE SECOND FORM's CARD OF 'retrospectlaw42.AlongCarries'. -/
def alongCarriesUptoCard : Claim7 := { stood := { row := alongCarriesUptoRow, standIns := [], harness := (true, "cc4c90fc917d8487daadcba7d0cb923d3bec353ec5b66bfd6f7c069d00d5027d"), looks := false }, kinds := [], alts := [], laidByText := true, laidKinds := [.data, .pinned], laidTests := true, laidLooks := .later }
def AlongCarriesUptoCardSaid : Prop := Claim7.holds Tryz.pinned (.plain (OpenSpec.upto alongCarriesSpec)) alongCarriesUptoCard

/-- THE SECOND FORM's CARD OF 'retrospectlaw40.JudgeLooks'. -/
def judgeLooksUptoCard : Claim7 := { stood := { row := judgeLooksUptoRow, standIns := [], harness := (true, "cc4c90fc917d8487daadcba7d0cb923d3bec353ec5b66bfd6f7c069d00d5027d"), looks := false }, kinds := [], alts := [], laidByText := true, laidKinds := [.data, .pinned], laidTests := true, laidLooks := .later }
def JudgeLooksUptoCardSaid : Prop := Claim7.holds Tryz.pinned (.plain (OpenSpec.upto judgeLooksSpec)) judgeLooksUptoCard
end Rows
end Go.Proofs.YtbdgngdpkdagoabGreatDoor
