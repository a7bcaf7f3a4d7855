/-
  NARROWER THAN 'FOR EVERY INPUT', by the rows' own cells (each row's printed sentence says how): AdaptSolves: laid · AdaptMore: laid · AdaptEnds: laid · MarchReplays: laid · JudgeSolves: laid.
  DERIVED. THE GIVEN ROWS OF THIS SEAT. 5 by the template 'for every input the law returns true; each argument reads behind the call as it read before'; 0 by the template 'total and deterministic' (their statements: YtlihkcaoachkdaaGreatDoorTotals.lean).
  GIVEN WITH THE SEED: the statements are not yours to turn. If you find one false, say at which input.
  Laid BY PROGRAM, IN A SANDBOX (cutbox-rows.mjs): the forced cells as the released guide's own fill.sh prints them over the translation e4a2cf88817a94aa… (all of the seat's roots in one cut). By AI agents, Wed Nov 11 2026. No macro, syntax, notation, axiom, sorry.
-/
import Derived.Test.YtlihkcaoachkdaaGreatDoorChecked
import GoSem.PinnedTables
import GoSem.Claim
import GoSem.ClaimJoined
import GoSem.ClaimMapViews
import Derived.JoinedTies
import Derived.KernelRfl
namespace Go.Proofs.YtlihkcaoachkdaaGreatDoor
/- THE CELL 'sum', in the pinned program and in every row, IS THE sha256 OF THE DUMP (.gsa) THAT YtlihkcaoachkdaaGreatDoorProg.lean LOADS. Nothing in Lean hashes anything: it is a label: what it is worth is what the hold of that sum in a sandbox is worth. -/
noncomputable def Tryz.pinned : Pinned := { name := "ytlihkcaoachkdaagreatdoor", sum := "e4a2cf88817a94aa2101eaa81022ba0c94c09b098966516f9f5ea83e7017dc4a", checked := Tryz.checked }
namespace Rows
def none {H : Type} : Left H := { results := [], args := [] }

/- WHAT THE LISTED PACKAGE-LEVEL VARIABLES READ AS WHEN THE CALL BEGINS. Each datum BY PROGRAM (the guide's laid-datum.mjs) off the statement by which the dump's own 'gosem.cut.vars' lays the variable. In a bare row this is a premise. The card (YtlihkcaoachkdaaGreatDoorCards.lean) ties it to the program's text. -/
def laid_unicode_utf8_acceptRanges {H : Type} : DataW H := .agg [.agg [.lit (.int .u8 128), .lit (.int .u8 191)], .agg [.lit (.int .u8 160), .lit (.int .u8 191)], .agg [.lit (.int .u8 128), .lit (.int .u8 159)], .agg [.lit (.int .u8 144), .lit (.int .u8 191)], .agg [.lit (.int .u8 128), .lit (.int .u8 143)], .agg [.lit (.int .u8 0), .lit (.int .u8 0)], .agg [.lit (.int .u8 0), .lit (.int .u8 0)], .agg [.lit (.int .u8 0), .lit (.int .u8 0)], .agg [.lit (.int .u8 0), .lit (.int .u8 0)], .agg [.lit (.int .u8 0), .lit (.int .u8 0)], .agg [.lit (.int .u8 0), .lit (.int .u8 0)], .agg [.lit (.int .u8 0), .lit (.int .u8 0)], .agg [.lit (.int .u8 0), .lit (.int .u8 0)], .agg [.lit (.int .u8 0), .lit (.int .u8 0)], .agg [.lit (.int .u8 0), .lit (.int .u8 0)], .agg [.lit (.int .u8 0), .lit (.int .u8 0)]]
/-- One of Go's own tables, pinned by name: the form's constant. -/
def laid_unicode_utf8_first : DataW Unit := Go.Pinned.utf8First

/-- 'retrospectlaw39.AdaptSolves': WHATEVER THE INPUT: true; the input reads as it did. -/
def adaptSolvesSpec : ChangeSpec := { name := "adaptSolves", fn := fun _ => fun
  | [d] => { results := [.lit (.bool true)], args := [d] }
  | _ => none }
def adaptSolvesRow : OpenClaim := { program := "ytlihkcaoachkdaagreatdoor", sum := "e4a2cf88817a94aa2101eaa81022ba0c94c09b098966516f9f5ea83e7017dc4a", func := "retrospect/retrospectlaw39.AdaptSolves", spec := "adaptSolves", inPlace := ["internal/bytealg.IndexByteString", "internal/bytealg.IndexString", "internal/bytealg.CountString"], unfollowed := true, recurses := true, named := ["internal/bytealg.MaxLen", "unicode/utf8.first", "unicode/utf8.acceptRanges"], apart := false, laid := [("unicode/utf8.acceptRanges", laid_unicode_utf8_acceptRanges), ("unicode/utf8.first", laid_unicode_utf8_first)] }
def AdaptSolvesSaid : Prop := adaptSolvesRow.holds Tryz.pinned (OpenSpec.ofChange adaptSolvesSpec)

/-- ITS FALSE NEIGHBOUR: 'it returns false'. Refute it at one input. -/
def adaptSolvesWrong : ChangeSpec := { name := "adaptSolves", fn := fun _ => fun
  | [d] => { results := [.lit (.bool false)], args := [d] }
  | _ => none }
def AdaptSolvesWrongFalsely : Prop := adaptSolvesRow.holds Tryz.pinned (OpenSpec.ofChange adaptSolvesWrong)

/-- 'retrospectlaw39.AdaptMore': WHATEVER THE INPUT: true; the input reads as it did. -/
def adaptMoreSpec : ChangeSpec := { name := "adaptMore", fn := fun _ => fun
  | [d1, d2] => { results := [.lit (.bool true)], args := [d1, d2] }
  | _ => none }
def adaptMoreRow : OpenClaim := { program := "ytlihkcaoachkdaagreatdoor", sum := "e4a2cf88817a94aa2101eaa81022ba0c94c09b098966516f9f5ea83e7017dc4a", func := "retrospect/retrospectlaw39.AdaptMore", spec := "adaptMore", inPlace := ["internal/bytealg.IndexByteString", "internal/bytealg.IndexString", "internal/bytealg.CountString"], unfollowed := true, recurses := true, named := ["internal/bytealg.MaxLen", "unicode/utf8.first", "unicode/utf8.acceptRanges"], apart := false, laid := [("unicode/utf8.acceptRanges", laid_unicode_utf8_acceptRanges), ("unicode/utf8.first", laid_unicode_utf8_first)] }
def AdaptMoreSaid : Prop := adaptMoreRow.holds Tryz.pinned (OpenSpec.ofChange adaptMoreSpec)

/-- ITS FALSE NEIGHBOUR: 'it returns false'. Refute it at one input. -/
def adaptMoreWrong : ChangeSpec := { name := "adaptMore", fn := fun _ => fun
  | [d1, d2] => { results := [.lit (.bool false)], args := [d1, d2] }
  | _ => none }
def AdaptMoreWrongFalsely : Prop := adaptMoreRow.holds Tryz.pinned (OpenSpec.ofChange adaptMoreWrong)

/-- 'retrospectlaw39.AdaptEnds': WHATEVER THE INPUT: true; the input reads as it did. -/
def adaptEndsSpec : ChangeSpec := { name := "adaptEnds", fn := fun _ => fun
  | [d] => { results := [.lit (.bool true)], args := [d] }
  | _ => none }
def adaptEndsRow : OpenClaim := { program := "ytlihkcaoachkdaagreatdoor", sum := "e4a2cf88817a94aa2101eaa81022ba0c94c09b098966516f9f5ea83e7017dc4a", func := "retrospect/retrospectlaw39.AdaptEnds", spec := "adaptEnds", inPlace := ["internal/bytealg.IndexByteString", "internal/bytealg.IndexString", "internal/bytealg.CountString"], unfollowed := true, recurses := true, named := ["internal/bytealg.MaxLen", "unicode/utf8.first", "unicode/utf8.acceptRanges"], apart := false, laid := [("unicode/utf8.acceptRanges", laid_unicode_utf8_acceptRanges), ("unicode/utf8.first", laid_unicode_utf8_first)] }
def AdaptEndsSaid : Prop := adaptEndsRow.holds Tryz.pinned (OpenSpec.ofChange adaptEndsSpec)

/-- ITS FALSE NEIGHBOUR: 'it returns false'. Refute it at one input. -/
def adaptEndsWrong : ChangeSpec := { name := "adaptEnds", fn := fun _ => fun
  | [d] => { results := [.lit (.bool false)], args := [d] }
  | _ => none }
def AdaptEndsWrongFalsely : Prop := adaptEndsRow.holds Tryz.pinned (OpenSpec.ofChange adaptEndsWrong)

/-- 'retrospectlaw38.MarchReplays': WHATEVER THE INPUT: true; the input reads as it did. -/
def marchReplaysSpec : ChangeSpec := { name := "marchReplays", fn := fun _ => fun
  | [d1, d2] => { results := [.lit (.bool true)], args := [d1, d2] }
  | _ => none }
def marchReplaysRow : OpenClaim := { program := "ytlihkcaoachkdaagreatdoor", sum := "e4a2cf88817a94aa2101eaa81022ba0c94c09b098966516f9f5ea83e7017dc4a", func := "retrospect/retrospectlaw38.MarchReplays", spec := "marchReplays", inPlace := ["internal/bytealg.IndexByteString", "internal/bytealg.IndexString", "internal/bytealg.CountString", "internal/abi.NoEscape", "internal/bytealg.MakeNoZero"], unfollowed := true, recurses := true, named := ["internal/bytealg.MaxLen", "unicode/utf8.first", "unicode/utf8.acceptRanges"], apart := false, laid := [("unicode/utf8.acceptRanges", laid_unicode_utf8_acceptRanges), ("unicode/utf8.first", laid_unicode_utf8_first)] }
def MarchReplaysSaid : Prop := marchReplaysRow.holds Tryz.pinned (OpenSpec.ofChange marchReplaysSpec)

/-- ITS FALSE NEIGHBOUR: 'it returns false'. Refute it at one input. -/
def marchReplaysWrong : ChangeSpec := { name := "marchReplays", fn := fun _ => fun
  | [d1, d2] => { results := [.lit (.bool false)], args := [d1, d2] }
  | _ => none }
def MarchReplaysWrongFalsely : Prop := marchReplaysRow.holds Tryz.pinned (OpenSpec.ofChange marchReplaysWrong)

/-- 'retrospectlaw40.JudgeSolves': WHATEVER THE INPUT: true; the input reads as it did. -/
def judgeSolvesSpec : ChangeSpec := { name := "judgeSolves", fn := fun _ => fun
  | [d1, d2] => { results := [.lit (.bool true)], args := [d1, d2] }
  | _ => none }
def judgeSolvesRow : OpenClaim := { program := "ytlihkcaoachkdaagreatdoor", sum := "e4a2cf88817a94aa2101eaa81022ba0c94c09b098966516f9f5ea83e7017dc4a", func := "retrospect/retrospectlaw40.JudgeSolves", spec := "judgeSolves", inPlace := ["internal/bytealg.IndexByteString", "internal/bytealg.IndexString", "internal/bytealg.CountString"], unfollowed := true, recurses := true, named := ["internal/bytealg.MaxLen", "unicode/utf8.first", "unicode/utf8.acceptRanges"], apart := false, laid := [("unicode/utf8.acceptRanges", laid_unicode_utf8_acceptRanges), ("unicode/utf8.first", laid_unicode_utf8_first)] }
def JudgeSolvesSaid : Prop := judgeSolvesRow.holds Tryz.pinned (OpenSpec.ofChange judgeSolvesSpec)

/-- ITS FALSE NEIGHBOUR: 'it returns false'. Refute it at one input. -/
def judgeSolvesWrong : ChangeSpec := { name := "judgeSolves", fn := fun _ => fun
  | [d1, d2] => { results := [.lit (.bool false)], args := [d1, d2] }
  | _ => none }
def JudgeSolvesWrongFalsely : Prop := judgeSolvesRow.holds Tryz.pinned (OpenSpec.ofChange judgeSolvesWrong)

/- THE SECOND FORM. 'bulk': how many values and letters a reading holds, each counted each time it is reached (what is shared counts as often as it is met; a slice's spare places count too). A statement '..UptoSaid' is the law's where the arguments, and the package variables that the reading takes, are together of bulk at most 1048576: NARROWER than '..Said'. Prove '..Said' where nothing that the law and all that it calls make is longer than what came in: it says more and counts as full. Else prove '..UptoSaid'. A law counts once. -/
mutual
def uptoBulk {H : Type} : DataW H → Nat
  | .lit (.string bytes) => bytes.length + 1
  | .lit _ => 1
  | .nil => 1
  | .ptr d => uptoBulk d + 1
  | .slice elems spare => uptoBulkAll elems + uptoBulkAll spare + 1
  | .agg parts => uptoBulkAll parts + 1
  | .iface _ d => uptoBulk d + 1
  | .map entries => uptoBulkEntries entries + 1
  | .held _ => 1
def uptoBulkAll {H : Type} : List (DataW H) → Nat
  | [] => 0
  | d :: r => uptoBulk d + uptoBulkAll r
def uptoBulkEntries {H : Type} : List (Lit × DataW H) → Nat
  | [] => 0
  | x :: r => uptoBulkEntry x + uptoBulkEntries r
def uptoBulkEntry {H : Type} : Lit × DataW H → Nat
  | (.string bytes, d) => bytes.length + uptoBulk d + 1
  | (_, d) => uptoBulk d + 1
 end
def uptoSmall : (H : Type) → List (DataW H) → Bool := fun _ ds => decide (uptoBulkAll ds ≤ 1048576)
def OpenSpec.upto (s : _root_.Go.ChangeSpec) : _root_.Go.OpenSpec := { _root_.Go.OpenSpec.ofChange s with cond := some uptoSmall }

/-- 'retrospectlaw39.AdaptSolves', WHERE WHAT IT READS IS OF BULK AT MOST 1048576: true; the input reads as it did. -/
def adaptSolvesUptoRow : OpenClaim := { program := "ytlihkcaoachkdaagreatdoor", sum := "e4a2cf88817a94aa2101eaa81022ba0c94c09b098966516f9f5ea83e7017dc4a", func := "retrospect/retrospectlaw39.AdaptSolves", spec := "adaptSolves", inPlace := ["internal/bytealg.IndexByteString", "internal/bytealg.IndexString", "internal/bytealg.CountString"], unfollowed := true, recurses := true, named := ["internal/bytealg.MaxLen", "unicode/utf8.first", "unicode/utf8.acceptRanges"], apart := false, laid := [("unicode/utf8.acceptRanges", laid_unicode_utf8_acceptRanges), ("unicode/utf8.first", laid_unicode_utf8_first)], narrowed := true }
def AdaptSolvesUptoSaid : Prop := adaptSolvesUptoRow.holds Tryz.pinned (OpenSpec.upto adaptSolvesSpec)

/-- 'retrospectlaw39.AdaptMore', WHERE WHAT IT READS IS OF BULK AT MOST 1048576: true; the input reads as it did. -/
def adaptMoreUptoRow : OpenClaim := { program := "ytlihkcaoachkdaagreatdoor", sum := "e4a2cf88817a94aa2101eaa81022ba0c94c09b098966516f9f5ea83e7017dc4a", func := "retrospect/retrospectlaw39.AdaptMore", spec := "adaptMore", inPlace := ["internal/bytealg.IndexByteString", "internal/bytealg.IndexString", "internal/bytealg.CountString"], unfollowed := true, recurses := true, named := ["internal/bytealg.MaxLen", "unicode/utf8.first", "unicode/utf8.acceptRanges"], apart := false, laid := [("unicode/utf8.acceptRanges", laid_unicode_utf8_acceptRanges), ("unicode/utf8.first", laid_unicode_utf8_first)], narrowed := true }
def AdaptMoreUptoSaid : Prop := adaptMoreUptoRow.holds Tryz.pinned (OpenSpec.upto adaptMoreSpec)

/-- 'retrospectlaw39.AdaptEnds', WHERE WHAT IT READS IS OF BULK AT MOST 1048576: true; the input reads as it did. -/
def adaptEndsUptoRow : OpenClaim := { program := "ytlihkcaoachkdaagreatdoor", sum := "e4a2cf88817a94aa2101eaa81022ba0c94c09b098966516f9f5ea83e7017dc4a", func := "retrospect/retrospectlaw39.AdaptEnds", spec := "adaptEnds", inPlace := ["internal/bytealg.IndexByteString", "internal/bytealg.IndexString", "internal/bytealg.CountString"], unfollowed := true, recurses := true, named := ["internal/bytealg.MaxLen", "unicode/utf8.first", "unicode/utf8.acceptRanges"], apart := false, laid := [("unicode/utf8.acceptRanges", laid_unicode_utf8_acceptRanges), ("unicode/utf8.first", laid_unicode_utf8_first)], narrowed := true }
def AdaptEndsUptoSaid : Prop := adaptEndsUptoRow.holds Tryz.pinned (OpenSpec.upto adaptEndsSpec)

/-- 'retrospectlaw38.MarchReplays', WHERE WHAT IT READS IS OF BULK AT MOST 1048576: true; the input reads as it did. -/
def marchReplaysUptoRow : OpenClaim := { program := "ytlihkcaoachkdaagreatdoor", sum := "e4a2cf88817a94aa2101eaa81022ba0c94c09b098966516f9f5ea83e7017dc4a", func := "retrospect/retrospectlaw38.MarchReplays", spec := "marchReplays", inPlace := ["internal/bytealg.IndexByteString", "internal/bytealg.IndexString", "internal/bytealg.CountString", "internal/abi.NoEscape", "internal/bytealg.MakeNoZero"], unfollowed := true, recurses := true, named := ["internal/bytealg.MaxLen", "unicode/utf8.first", "unicode/utf8.acceptRanges"], apart := false, laid := [("unicode/utf8.acceptRanges", laid_unicode_utf8_acceptRanges), ("unicode/utf8.first", laid_unicode_utf8_first)], narrowed := true }
def MarchReplaysUptoSaid : Prop := marchReplaysUptoRow.holds Tryz.pinned (OpenSpec.upto marchReplaysSpec)

/-- 'retrospectlaw40.JudgeSolves', WHERE WHAT IT READS IS OF BULK AT MOST 1048576: true; the input reads as it did. -/
def judgeSolvesUptoRow : OpenClaim := { program := "ytlihkcaoachkdaagreatdoor", sum := "e4a2cf88817a94aa2101eaa81022ba0c94c09b098966516f9f5ea83e7017dc4a", func := "retrospect/retrospectlaw40.JudgeSolves", spec := "judgeSolves", inPlace := ["internal/bytealg.IndexByteString", "internal/bytealg.IndexString", "internal/bytealg.CountString"], unfollowed := true, recurses := true, named := ["internal/bytealg.MaxLen", "unicode/utf8.first", "unicode/utf8.acceptRanges"], apart := false, laid := [("unicode/utf8.acceptRanges", laid_unicode_utf8_acceptRanges), ("unicode/utf8.first", laid_unicode_utf8_first)], narrowed := true }
def JudgeSolvesUptoSaid : Prop := judgeSolvesUptoRow.holds Tryz.pinned (OpenSpec.upto judgeSolvesSpec)

end Rows
end Go.Proofs.YtlihkcaoachkdaaGreatDoor
