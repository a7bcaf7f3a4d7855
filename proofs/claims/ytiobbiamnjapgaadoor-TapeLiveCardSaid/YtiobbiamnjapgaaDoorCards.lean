/-
  DERIVED. GIVEN WITH THE SEED: THE CARDS: each row of YtiobbiamnjapgaaDoorRows.lean that lists a variable, with what it lists TIED to the program's text (the seventh form; the later family's looks); each row that meets fmt, with fmt's text TOLD by the authors' own Lean function (tested against real Go, not proved from fmt's source: count such statements apart). THE CARD IS WHAT COUNTS. Prove the row's statement (the work); the ties are given (YtiobbiamnjapgaaDoorTie.lean); close each card by the builder's one call (the guide's Derived/Test/ToyasCard.lean, 'card_holds'). Laid BY PROGRAM, IN A SANDBOX (cutbox-door.mjs). By AI agents, Wed Nov 11 2026. No macro, syntax, notation, axiom, sorry.
-/
import Derived.Test.YtiobbiamnjapgaaDoorRows
import GoSem.ClaimSeven
namespace Go.Proofs.YtiobbiamnjapgaaDoor
namespace Rows

/-- THE TIED CARD OF 'retrospectlaw48.WireUnpacks'. -/
def wireUnpacksCard : Claim7 := { stood := { row := wireUnpacksRow, standIns := [], harness := (true, "531e6bf9e5fa66d7b29682881a91be8861a131bcec865e12edb5fc491df48977"), looks := true }, kinds := [], alts := [], laidByText := true, laidKinds := [.data, .data, .data, .data, .pinned], laidTests := true, laidLooks := .later }
def WireUnpacksCardSaid : Prop := Claim7.holds Tryd.pinned (.plain (OpenSpec.ofChange wireUnpacksSpec)) wireUnpacksCard

/-- THE TIED CARD OF 'retrospectlaw48.WireBack'. -/
def wireBackCard : Claim7 := { stood := { row := wireBackRow, standIns := [], harness := (true, "531e6bf9e5fa66d7b29682881a91be8861a131bcec865e12edb5fc491df48977"), looks := true }, kinds := [], alts := [], laidByText := true, laidKinds := [.data, .data, .data, .data, .pinned], laidTests := true, laidLooks := .later }
def WireBackCardSaid : Prop := Claim7.holds Tryd.pinned (.plain (OpenSpec.ofChange wireBackSpec)) wireBackCard

/-- THE TIED CARD OF 'retrospectlaw24.TapeLive'. -/
def tapeLiveCard : Claim7 := { stood := { row := tapeLiveRow, standIns := [], harness := (true, "531e6bf9e5fa66d7b29682881a91be8861a131bcec865e12edb5fc491df48977"), looks := true }, kinds := [], alts := [], laidByText := true, laidKinds := [.data, .data, .data, .data, .pinned], laidTests := true, laidLooks := .later }
def TapeLiveCardSaid : Prop := Claim7.holds Tryd.pinned (.plain (OpenSpec.ofChange tapeLiveSpec)) tapeLiveCard

/-- THE TIED CARD OF 'retrospectlaw48.WireTells'. -/
def wireTellsCard : Claim7 := { stood := { row := wireTellsRow, standIns := [], harness := (true, "531e6bf9e5fa66d7b29682881a91be8861a131bcec865e12edb5fc491df48977"), looks := true }, kinds := [], alts := [], laidByText := true, laidKinds := [.data, .data, .data, .data, .sentinel, .sentinel, .pinned], laidTests := true, laidLooks := .later }
def WireTellsCardSaid : Prop := Claim7.holds Tryd.pinned (.plain (OpenSpec.ofChange wireTellsSpec)) wireTellsCard

/-- THE SECOND FORM's CARD OF 'retrospectlaw48.WireUnpacks'. -/
def wireUnpacksUptoCard : Claim7 := { stood := { row := wireUnpacksUptoRow, standIns := [], harness := (true, "531e6bf9e5fa66d7b29682881a91be8861a131bcec865e12edb5fc491df48977"), looks := true }, kinds := [], alts := [], laidByText := true, laidKinds := [.data, .data, .data, .data, .pinned], laidTests := true, laidLooks := .later }
def WireUnpacksUptoCardSaid : Prop := Claim7.holds Tryd.pinned (.plain (OpenSpec.upto wireUnpacksSpec)) wireUnpacksUptoCard

/-- THE SECOND FORM's CARD OF 'retrospectlaw48.WireBack'. -/
def wireBackUptoCard : Claim7 := { stood := { row := wireBackUptoRow, standIns := [], harness := (true, "531e6bf9e5fa66d7b29682881a91be8861a131bcec865e12edb5fc491df48977"), looks := true }, kinds := [], alts := [], laidByText := true, laidKinds := [.data, .data, .data, .data, .pinned], laidTests := true, laidLooks := .later }
def WireBackUptoCardSaid : Prop := Claim7.holds Tryd.pinned (.plain (OpenSpec.upto wireBackSpec)) wireBackUptoCard

/-- THE SECOND FORM's CARD OF 'retrospectlaw24.TapeLive'. -/
def tapeLiveUptoCard : Claim7 := { stood := { row := tapeLiveUptoRow, standIns := [], harness := (true, "531e6bf9e5fa66d7b29682881a91be8861a131bcec865e12edb5fc491df48977"), looks := true }, kinds := [], alts := [], laidByText := true, laidKinds := [.data, .data, .data, .data, .pinned], laidTests := true, laidLooks := .later }
def TapeLiveUptoCardSaid : Prop := Claim7.holds Tryd.pinned (.plain (OpenSpec.upto tapeLiveSpec)) tapeLiveUptoCard

/-- THE SECOND FORM's CARD OF 'retrospectlaw48.WireTells'. -/
def wireTellsUptoCard : Claim7 := { stood := { row := wireTellsUptoRow, standIns := [], harness := (true, "531e6bf9e5fa66d7b29682881a91be8861a131bcec865e12edb5fc491df48977"), looks := true }, kinds := [], alts := [], laidByText := true, laidKinds := [.data, .data, .data, .data, .sentinel, .sentinel, .pinned], laidTests := true, laidLooks := .later }
def WireTellsUptoCardSaid : Prop := Claim7.holds Tryd.pinned (.plain (OpenSpec.upto wireTellsSpec)) wireTellsUptoCard
end Rows
end Go.Proofs.YtiobbiamnjapgaaDoor
