/-
  DERIVED. GIVEN WITH THE SEED: THE CARDS: each row of YtjmfkenegjhohaaGreatDoorRows.lean that lists a variable, with what it lists TIED to the program's text (the seventh form; the later family's looks); each row that meets fmt, with fmt's text TOLD by the authors' own Lean function (tested against real Go, not proved from fmt's source: count such statements apart). THE CARD IS WHAT COUNTS. Prove the row's statement (the work); the ties are given (YtjmfkenegjhohaaGreatDoorTie.lean); close each card by the builder's one call (the guide's Derived/Test/ToyasCard.lean, 'card_holds'). Laid BY PROGRAM, IN A SANDBOX (cutbox-door.mjs). By AI agents, Wed Nov 11 2026. No macro, syntax, notation, axiom, sorry.
-/
import Derived.Test.YtjmfkenegjhohaaGreatDoorRows
import GoSem.ClaimSeven
namespace Go.Proofs.YtjmfkenegjhohaaGreatDoor
namespace Rows

/-- THE TIED CARD OF 'retrospectlaw46.LookBacks'. -/
def lookBacksCard : Claim7 := { stood := { row := lookBacksRow, standIns := [], harness := (true, "36127e6982eeeb7d8ee0b5e3e4a625be79bf5a390cf94e0ba552152da965fc1c"), looks := false }, kinds := [], alts := [], laidByText := true, laidKinds := [.data, .pinned], laidTests := true, laidLooks := .later }
def LookBacksCardSaid : Prop := Claim7.holds Tryz.pinned (.plain (OpenSpec.ofChange lookBacksSpec)) lookBacksCard

/-- THE TIED CARD OF 'retrospectlaw46.LookAlong'. -/
def lookAlongCard : Claim7 := { stood := { row := lookAlongRow, standIns := [], harness := (true, "36127e6982eeeb7d8ee0b5e3e4a625be79bf5a390cf94e0ba552152da965fc1c"), looks := false }, kinds := [], alts := [], laidByText := true, laidKinds := [.data, .pinned], laidTests := true, laidLooks := .later }
def LookAlongCardSaid : Prop := Claim7.holds Tryz.pinned (.plain (OpenSpec.ofChange lookAlongSpec)) lookAlongCard

/-- THE TIED CARD OF 'retrospectlaw46.LookEnd'. -/
def lookEndCard : Claim7 := { stood := { row := lookEndRow, standIns := [], harness := (true, "36127e6982eeeb7d8ee0b5e3e4a625be79bf5a390cf94e0ba552152da965fc1c"), looks := false }, kinds := [], alts := [], laidByText := true, laidKinds := [.data, .pinned], laidTests := true, laidLooks := .later }
def LookEndCardSaid : Prop := Claim7.holds Tryz.pinned (.plain (OpenSpec.ofChange lookEndSpec)) lookEndCard

/-- THE SECOND FORM's CARD OF 'retrospectlaw46.LookBacks'. -/
def lookBacksUptoCard : Claim7 := { stood := { row := lookBacksUptoRow, standIns := [], harness := (true, "36127e6982eeeb7d8ee0b5e3e4a625be79bf5a390cf94e0ba552152da965fc1c"), looks := false }, kinds := [], alts := [], laidByText := true, laidKinds := [.data, .pinned], laidTests := true, laidLooks := .later }
def LookBacksUptoCardSaid : Prop := Claim7.holds Tryz.pinned (.plain (OpenSpec.upto lookBacksSpec)) lookBacksUptoCard

/-- THE SECOND FORM's CARD OF 'retrospectlaw46.LookAlong'. -/
def lookAlongUptoCard : Claim7 := { stood := { row := lookAlongUptoRow, standIns := [], harness := (true, "36127e6982eeeb7d8ee0b5e3e4a625be79bf5a390cf94e0ba552152da965fc1c"), looks := false }, kinds := [], alts := [], laidByText := true, laidKinds := [.data, .pinned], laidTests := true, laidLooks := .later }
def LookAlongUptoCardSaid : Prop := Claim7.holds Tryz.pinned (.plain (OpenSpec.upto lookAlongSpec)) lookAlongUptoCard

/-- THE SECOND FORM's CARD OF 'retrospectlaw46.LookEnd'. -/
def lookEndUptoCard : Claim7 := { stood := { row := lookEndUptoRow, standIns := [], harness := (true, "36127e6982eeeb7d8ee0b5e3e4a625be79bf5a390cf94e0ba552152da965fc1c"), looks := false }, kinds := [], alts := [], laidByText := true, laidKinds := [.data, .pinned], laidTests := true, laidLooks := .later }
def LookEndUptoCardSaid : Prop := Claim7.holds Tryz.pinned (.plain (OpenSpec.upto lookEndSpec)) lookEndUptoCard
end Rows
end Go.Proofs.YtjmfkenegjhohaaGreatDoor
