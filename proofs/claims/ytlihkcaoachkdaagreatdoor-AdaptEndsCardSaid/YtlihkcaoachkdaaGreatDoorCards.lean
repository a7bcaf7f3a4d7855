/-
  DERIVED. GIVEN WITH THE SEED: THE CARDS: each row of YtlihkcaoachkdaaGreatDoorRows.lean that lists a variable, with what it lists TIED to the program's text (the seventh form; the later family's looks); each row that meets fmt, with fmt's text TOLD by the authors' own Lean function (tested against real Go, not proved from fmt's source: count such statements apart). THE CARD IS WHAT COUNTS. Prove the row's statement (the work); the ties are given (YtlihkcaoachkdaaGreatDoorTie.lean); close each card by the builder's one call (the guide's Derived/Test/ToyasCard.lean, 'card_holds'). Laid BY PROGRAM, IN A SANDBOX (cutbox-door.mjs). By AI agents, Wed Nov 11 2026. No macro, syntax, notation, axiom, sorry.
-/
import Derived.Test.YtlihkcaoachkdaaGreatDoorRows
import GoSem.ClaimSeven
namespace Go.Proofs.YtlihkcaoachkdaaGreatDoor
namespace Rows

/-- THE TIED CARD OF 'retrospectlaw39.AdaptSolves'. -/
def adaptSolvesCard : Claim7 := { stood := { row := adaptSolvesRow, standIns := [], harness := (true, "b6f4575bebffe38d53b9f91d5c97f25014b8047e15128fffb65f99e048ac6d50"), looks := false }, kinds := [], alts := [], laidByText := true, laidKinds := [.data, .pinned], laidTests := true, laidLooks := .later }
def AdaptSolvesCardSaid : Prop := Claim7.holds Tryz.pinned (.plain (OpenSpec.ofChange adaptSolvesSpec)) adaptSolvesCard

/-- THE TIED CARD OF 'retrospectlaw39.AdaptMore'. -/
def adaptMoreCard : Claim7 := { stood := { row := adaptMoreRow, standIns := [], harness := (true, "b6f4575bebffe38d53b9f91d5c97f25014b8047e15128fffb65f99e048ac6d50"), looks := false }, kinds := [], alts := [], laidByText := true, laidKinds := [.data, .pinned], laidTests := true, laidLooks := .later }
def AdaptMoreCardSaid : Prop := Claim7.holds Tryz.pinned (.plain (OpenSpec.ofChange adaptMoreSpec)) adaptMoreCard

/-- THE TIED CARD OF 'retrospectlaw39.AdaptEnds'. -/
def adaptEndsCard : Claim7 := { stood := { row := adaptEndsRow, standIns := [], harness := (true, "b6f4575bebffe38d53b9f91d5c97f25014b8047e15128fffb65f99e048ac6d50"), looks := false }, kinds := [], alts := [], laidByText := true, laidKinds := [.data, .pinned], laidTests := true, laidLooks := .later }
def AdaptEndsCardSaid : Prop := Claim7.holds Tryz.pinned (.plain (OpenSpec.ofChange adaptEndsSpec)) adaptEndsCard

/-- THE TIED CARD OF 'retrospectlaw38.MarchReplays'. -/
def marchReplaysCard : Claim7 := { stood := { row := marchReplaysRow, standIns := [], harness := (true, "b6f4575bebffe38d53b9f91d5c97f25014b8047e15128fffb65f99e048ac6d50"), looks := false }, kinds := [], alts := [], laidByText := true, laidKinds := [.data, .pinned], laidTests := true, laidLooks := .later }
def MarchReplaysCardSaid : Prop := Claim7.holds Tryz.pinned (.plain (OpenSpec.ofChange marchReplaysSpec)) marchReplaysCard

/-- THE TIED CARD OF 'retrospectlaw40.JudgeSolves'. -/
def judgeSolvesCard : Claim7 := { stood := { row := judgeSolvesRow, standIns := [], harness := (true, "b6f4575bebffe38d53b9f91d5c97f25014b8047e15128fffb65f99e048ac6d50"), looks := false }, kinds := [], alts := [], laidByText := true, laidKinds := [.data, .pinned], laidTests := true, laidLooks := .later }
def JudgeSolvesCardSaid : Prop := Claim7.holds Tryz.pinned (.plain (OpenSpec.ofChange judgeSolvesSpec)) judgeSolvesCard

/-- THE SECOND FORM's CARD OF 'retrospectlaw39.AdaptSolves'. -/
def adaptSolvesUptoCard : Claim7 := { stood := { row := adaptSolvesUptoRow, standIns := [], harness := (true, "b6f4575bebffe38d53b9f91d5c97f25014b8047e15128fffb65f99e048ac6d50"), looks := false }, kinds := [], alts := [], laidByText := true, laidKinds := [.data, .pinned], laidTests := true, laidLooks := .later }
def AdaptSolvesUptoCardSaid : Prop := Claim7.holds Tryz.pinned (.plain (OpenSpec.upto adaptSolvesSpec)) adaptSolvesUptoCard

/-- THE SECOND FORM's CARD OF 'retrospectlaw39.AdaptMore'. -/
def adaptMoreUptoCard : Claim7 := { stood := { row := adaptMoreUptoRow, standIns := [], harness := (true, "b6f4575bebffe38d53b9f91d5c97f25014b8047e15128fffb65f99e048ac6d50"), looks := false }, kinds := [], alts := [], laidByText := true, laidKinds := [.data, .pinned], laidTests := true, laidLooks := .later }
def AdaptMoreUptoCardSaid : Prop := Claim7.holds Tryz.pinned (.plain (OpenSpec.upto adaptMoreSpec)) adaptMoreUptoCard

/-- THE SECOND FORM's CARD OF 'retrospectlaw39.AdaptEnds'. -/
def adaptEndsUptoCard : Claim7 := { stood := { row := adaptEndsUptoRow, standIns := [], harness := (true, "b6f4575bebffe38d53b9f91d5c97f25014b8047e15128fffb65f99e048ac6d50"), looks := false }, kinds := [], alts := [], laidByText := true, laidKinds := [.data, .pinned], laidTests := true, laidLooks := .later }
def AdaptEndsUptoCardSaid : Prop := Claim7.holds Tryz.pinned (.plain (OpenSpec.upto adaptEndsSpec)) adaptEndsUptoCard

/-- THE SECOND FORM's CARD OF 'retrospectlaw38.MarchReplays'. -/
def marchReplaysUptoCard : Claim7 := { stood := { row := marchReplaysUptoRow, standIns := [], harness := (true, "b6f4575bebffe38d53b9f91d5c97f25014b8047e15128fffb65f99e048ac6d50"), looks := false }, kinds := [], alts := [], laidByText := true, laidKinds := [.data, .pinned], laidTests := true, laidLooks := .later }
def MarchReplaysUptoCardSaid : Prop := Claim7.holds Tryz.pinned (.plain (OpenSpec.upto marchReplaysSpec)) marchReplaysUptoCard

/-- THE SECOND FORM's CARD OF 'retrospectlaw40.JudgeSolves'. -/
def judgeSolvesUptoCard : Claim7 := { stood := { row := judgeSolvesUptoRow, standIns := [], harness := (true, "b6f4575bebffe38d53b9f91d5c97f25014b8047e15128fffb65f99e048ac6d50"), looks := false }, kinds := [], alts := [], laidByText := true, laidKinds := [.data, .pinned], laidTests := true, laidLooks := .later }
def JudgeSolvesUptoCardSaid : Prop := Claim7.holds Tryz.pinned (.plain (OpenSpec.upto judgeSolvesSpec)) judgeSolvesUptoCard
end Rows
end Go.Proofs.YtlihkcaoachkdaaGreatDoor
