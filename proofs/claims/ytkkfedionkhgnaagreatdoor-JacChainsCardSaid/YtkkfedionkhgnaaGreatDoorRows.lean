/-
  NARROWER THAN 'FOR EVERY INPUT', by the rows' own cells (each row's printed sentence says how): TiltMatrix: laid · AlongMatrix: laid · SweepBacks: laid · SweepSpacing: laid · SweepAlong: laid · JacBoth: laid · JacChains: laid.
  DERIVED. THE GIVEN ROWS OF THIS SEAT. 7 by the template 'for every input the law returns true; each argument reads behind the call as it read before'; 0 by the template 'total and deterministic' (their statements: YtkkfedionkhgnaaGreatDoorTotals.lean).
  GIVEN WITH THE SEED: the statements are not yours to turn. If you find one false, say at which input.
  Laid BY PROGRAM, IN A SANDBOX (cutbox-rows.mjs): the forced cells as the released guide's own fill.sh prints them over the translation 06d551089d0388cf… (all of the seat's roots in one cut). By AI agents, Wed Nov 11 2026. No macro, syntax, notation, axiom, sorry.
-/
import Derived.Test.YtkkfedionkhgnaaGreatDoorChecked
import GoSem.PinnedTables
import GoSem.Claim
import GoSem.ClaimJoined
import GoSem.ClaimMapViews
import Derived.JoinedTies
import Derived.KernelRfl
namespace Go.Proofs.YtkkfedionkhgnaaGreatDoor
/- THE CELL 'sum', in the pinned program and in every row, IS THE sha256 OF THE DUMP (.gsa) THAT YtkkfedionkhgnaaGreatDoorProg.lean LOADS. Nothing in Lean hashes anything: it is a label: what it is worth is what the hold of that sum in a sandbox is worth. -/
noncomputable def Tryz.pinned : Pinned := { name := "ytkkfedionkhgnaagreatdoor", sum := "06d551089d0388cfde298e1af9e81ce1673cac204837c1141743d7b0a994dac0", checked := Tryz.checked }
namespace Rows
def none {H : Type} : Left H := { results := [], args := [] }

/- WHAT THE LISTED PACKAGE-LEVEL VARIABLES READ AS WHEN THE CALL BEGINS. Each datum BY PROGRAM (the guide's laid-datum.mjs) off the statement by which the dump's own 'gosem.cut.vars' lays the variable. In a bare row this is a premise. The card (YtkkfedionkhgnaaGreatDoorCards.lean) ties it to the program's text. -/
def laid_unicode_utf8_acceptRanges {H : Type} : DataW H := .agg [.agg [.lit (.int .u8 128), .lit (.int .u8 191)], .agg [.lit (.int .u8 160), .lit (.int .u8 191)], .agg [.lit (.int .u8 128), .lit (.int .u8 159)], .agg [.lit (.int .u8 144), .lit (.int .u8 191)], .agg [.lit (.int .u8 128), .lit (.int .u8 143)], .agg [.lit (.int .u8 0), .lit (.int .u8 0)], .agg [.lit (.int .u8 0), .lit (.int .u8 0)], .agg [.lit (.int .u8 0), .lit (.int .u8 0)], .agg [.lit (.int .u8 0), .lit (.int .u8 0)], .agg [.lit (.int .u8 0), .lit (.int .u8 0)], .agg [.lit (.int .u8 0), .lit (.int .u8 0)], .agg [.lit (.int .u8 0), .lit (.int .u8 0)], .agg [.lit (.int .u8 0), .lit (.int .u8 0)], .agg [.lit (.int .u8 0), .lit (.int .u8 0)], .agg [.lit (.int .u8 0), .lit (.int .u8 0)], .agg [.lit (.int .u8 0), .lit (.int .u8 0)]]
/-- One of Go's own tables, pinned by name: the form's constant. -/
def laid_unicode_utf8_first : DataW Unit := Go.Pinned.utf8First

/-- 'retrospectlaw34.TiltMatrix': WHATEVER THE INPUT: true; the input reads as it did. -/
def tiltMatrixSpec : ChangeSpec := { name := "tiltMatrix", fn := fun _ => fun
  | [d1, d2, d3] => { results := [.lit (.bool true)], args := [d1, d2, d3] }
  | _ => none }
def tiltMatrixRow : OpenClaim := { program := "ytkkfedionkhgnaagreatdoor", sum := "06d551089d0388cfde298e1af9e81ce1673cac204837c1141743d7b0a994dac0", func := "retrospect/retrospectlaw34.TiltMatrix", spec := "tiltMatrix", inPlace := ["internal/bytealg.IndexByteString", "internal/bytealg.IndexString", "internal/bytealg.CountString", "internal/abi.NoEscape", "internal/bytealg.MakeNoZero"], unfollowed := true, recurses := true, named := ["internal/bytealg.MaxLen", "unicode/utf8.first", "unicode/utf8.acceptRanges"], apart := false, laid := [("unicode/utf8.acceptRanges", laid_unicode_utf8_acceptRanges), ("unicode/utf8.first", laid_unicode_utf8_first)] }
def TiltMatrixSaid : Prop := tiltMatrixRow.holds Tryz.pinned (OpenSpec.ofChange tiltMatrixSpec)

/-- ITS FALSE NEIGHBOUR: 'it returns false'. Refute it at one input. -/
def tiltMatrixWrong : ChangeSpec := { name := "tiltMatrix", fn := fun _ => fun
  | [d1, d2, d3] => { results := [.lit (.bool false)], args := [d1, d2, d3] }
  | _ => none }
def TiltMatrixWrongFalsely : Prop := tiltMatrixRow.holds Tryz.pinned (OpenSpec.ofChange tiltMatrixWrong)

/-- 'retrospectlaw42.AlongMatrix': WHATEVER THE INPUT: true; the input reads as it did. -/
def alongMatrixSpec : ChangeSpec := { name := "alongMatrix", fn := fun _ => fun
  | [d1, d2, d3] => { results := [.lit (.bool true)], args := [d1, d2, d3] }
  | _ => none }
def alongMatrixRow : OpenClaim := { program := "ytkkfedionkhgnaagreatdoor", sum := "06d551089d0388cfde298e1af9e81ce1673cac204837c1141743d7b0a994dac0", func := "retrospect/retrospectlaw42.AlongMatrix", spec := "alongMatrix", inPlace := ["internal/bytealg.IndexByteString", "internal/bytealg.IndexString", "internal/bytealg.CountString", "internal/abi.NoEscape", "internal/bytealg.MakeNoZero"], unfollowed := true, recurses := true, named := ["internal/bytealg.MaxLen", "unicode/utf8.first", "unicode/utf8.acceptRanges"], apart := false, laid := [("unicode/utf8.acceptRanges", laid_unicode_utf8_acceptRanges), ("unicode/utf8.first", laid_unicode_utf8_first)] }
def AlongMatrixSaid : Prop := alongMatrixRow.holds Tryz.pinned (OpenSpec.ofChange alongMatrixSpec)

/-- ITS FALSE NEIGHBOUR: 'it returns false'. Refute it at one input. -/
def alongMatrixWrong : ChangeSpec := { name := "alongMatrix", fn := fun _ => fun
  | [d1, d2, d3] => { results := [.lit (.bool false)], args := [d1, d2, d3] }
  | _ => none }
def AlongMatrixWrongFalsely : Prop := alongMatrixRow.holds Tryz.pinned (OpenSpec.ofChange alongMatrixWrong)

/-- 'retrospectlaw44.SweepBacks': WHATEVER THE INPUT: true; the input reads as it did. -/
def sweepBacksSpec : ChangeSpec := { name := "sweepBacks", fn := fun _ => fun
  | [d1, d2, d3, d4] => { results := [.lit (.bool true)], args := [d1, d2, d3, d4] }
  | _ => none }
def sweepBacksRow : OpenClaim := { program := "ytkkfedionkhgnaagreatdoor", sum := "06d551089d0388cfde298e1af9e81ce1673cac204837c1141743d7b0a994dac0", func := "retrospect/retrospectlaw44.SweepBacks", spec := "sweepBacks", inPlace := ["internal/bytealg.IndexByteString", "internal/bytealg.IndexString", "internal/bytealg.CountString", "internal/abi.NoEscape", "internal/bytealg.MakeNoZero"], unfollowed := true, recurses := true, named := ["internal/bytealg.MaxLen", "unicode/utf8.first", "unicode/utf8.acceptRanges"], apart := false, laid := [("unicode/utf8.acceptRanges", laid_unicode_utf8_acceptRanges), ("unicode/utf8.first", laid_unicode_utf8_first)] }
def SweepBacksSaid : Prop := sweepBacksRow.holds Tryz.pinned (OpenSpec.ofChange sweepBacksSpec)

/-- ITS FALSE NEIGHBOUR: 'it returns false'. Refute it at one input. -/
def sweepBacksWrong : ChangeSpec := { name := "sweepBacks", fn := fun _ => fun
  | [d1, d2, d3, d4] => { results := [.lit (.bool false)], args := [d1, d2, d3, d4] }
  | _ => none }
def SweepBacksWrongFalsely : Prop := sweepBacksRow.holds Tryz.pinned (OpenSpec.ofChange sweepBacksWrong)

/-- 'retrospectlaw44.SweepSpacing': WHATEVER THE INPUT: true; the input reads as it did. -/
def sweepSpacingSpec : ChangeSpec := { name := "sweepSpacing", fn := fun _ => fun
  | [d1, d2, d3] => { results := [.lit (.bool true)], args := [d1, d2, d3] }
  | _ => none }
def sweepSpacingRow : OpenClaim := { program := "ytkkfedionkhgnaagreatdoor", sum := "06d551089d0388cfde298e1af9e81ce1673cac204837c1141743d7b0a994dac0", func := "retrospect/retrospectlaw44.SweepSpacing", spec := "sweepSpacing", inPlace := ["internal/bytealg.IndexByteString", "internal/bytealg.IndexString", "internal/bytealg.CountString", "internal/abi.NoEscape", "internal/bytealg.MakeNoZero"], unfollowed := true, recurses := true, named := ["internal/bytealg.MaxLen", "unicode/utf8.first", "unicode/utf8.acceptRanges"], apart := false, laid := [("unicode/utf8.acceptRanges", laid_unicode_utf8_acceptRanges), ("unicode/utf8.first", laid_unicode_utf8_first)] }
def SweepSpacingSaid : Prop := sweepSpacingRow.holds Tryz.pinned (OpenSpec.ofChange sweepSpacingSpec)

/-- ITS FALSE NEIGHBOUR: 'it returns false'. Refute it at one input. -/
def sweepSpacingWrong : ChangeSpec := { name := "sweepSpacing", fn := fun _ => fun
  | [d1, d2, d3] => { results := [.lit (.bool false)], args := [d1, d2, d3] }
  | _ => none }
def SweepSpacingWrongFalsely : Prop := sweepSpacingRow.holds Tryz.pinned (OpenSpec.ofChange sweepSpacingWrong)

/-- 'retrospectlaw44.SweepAlong': WHATEVER THE INPUT: true; the input reads as it did. -/
def sweepAlongSpec : ChangeSpec := { name := "sweepAlong", fn := fun _ => fun
  | [d1, d2, d3] => { results := [.lit (.bool true)], args := [d1, d2, d3] }
  | _ => none }
def sweepAlongRow : OpenClaim := { program := "ytkkfedionkhgnaagreatdoor", sum := "06d551089d0388cfde298e1af9e81ce1673cac204837c1141743d7b0a994dac0", func := "retrospect/retrospectlaw44.SweepAlong", spec := "sweepAlong", inPlace := ["internal/bytealg.IndexByteString", "internal/bytealg.IndexString", "internal/bytealg.CountString", "internal/abi.NoEscape", "internal/bytealg.MakeNoZero"], unfollowed := true, recurses := true, named := ["internal/bytealg.MaxLen", "unicode/utf8.first", "unicode/utf8.acceptRanges"], apart := false, laid := [("unicode/utf8.acceptRanges", laid_unicode_utf8_acceptRanges), ("unicode/utf8.first", laid_unicode_utf8_first)] }
def SweepAlongSaid : Prop := sweepAlongRow.holds Tryz.pinned (OpenSpec.ofChange sweepAlongSpec)

/-- ITS FALSE NEIGHBOUR: 'it returns false'. Refute it at one input. -/
def sweepAlongWrong : ChangeSpec := { name := "sweepAlong", fn := fun _ => fun
  | [d1, d2, d3] => { results := [.lit (.bool false)], args := [d1, d2, d3] }
  | _ => none }
def SweepAlongWrongFalsely : Prop := sweepAlongRow.holds Tryz.pinned (OpenSpec.ofChange sweepAlongWrong)

/-- 'retrospectlaw45.JacBoth': WHATEVER THE INPUT: true; the input reads as it did. -/
def jacBothSpec : ChangeSpec := { name := "jacBoth", fn := fun _ => fun
  | [d1, d2] => { results := [.lit (.bool true)], args := [d1, d2] }
  | _ => none }
def jacBothRow : OpenClaim := { program := "ytkkfedionkhgnaagreatdoor", sum := "06d551089d0388cfde298e1af9e81ce1673cac204837c1141743d7b0a994dac0", func := "retrospect/retrospectlaw45.JacBoth", spec := "jacBoth", inPlace := ["internal/bytealg.IndexByteString", "internal/bytealg.IndexString", "internal/bytealg.CountString", "internal/abi.NoEscape", "internal/bytealg.MakeNoZero"], unfollowed := true, recurses := true, named := ["internal/bytealg.MaxLen", "unicode/utf8.first", "unicode/utf8.acceptRanges"], apart := false, laid := [("unicode/utf8.acceptRanges", laid_unicode_utf8_acceptRanges), ("unicode/utf8.first", laid_unicode_utf8_first)] }
def JacBothSaid : Prop := jacBothRow.holds Tryz.pinned (OpenSpec.ofChange jacBothSpec)

/-- ITS FALSE NEIGHBOUR: 'it returns false'. Refute it at one input. -/
def jacBothWrong : ChangeSpec := { name := "jacBoth", fn := fun _ => fun
  | [d1, d2] => { results := [.lit (.bool false)], args := [d1, d2] }
  | _ => none }
def JacBothWrongFalsely : Prop := jacBothRow.holds Tryz.pinned (OpenSpec.ofChange jacBothWrong)

/-- 'retrospectlaw45.JacChains': WHATEVER THE INPUT: true; the input reads as it did. -/
def jacChainsSpec : ChangeSpec := { name := "jacChains", fn := fun _ => fun
  | [d1, d2] => { results := [.lit (.bool true)], args := [d1, d2] }
  | _ => none }
def jacChainsRow : OpenClaim := { program := "ytkkfedionkhgnaagreatdoor", sum := "06d551089d0388cfde298e1af9e81ce1673cac204837c1141743d7b0a994dac0", func := "retrospect/retrospectlaw45.JacChains", spec := "jacChains", inPlace := ["internal/bytealg.IndexByteString", "internal/bytealg.IndexString", "internal/bytealg.CountString", "internal/abi.NoEscape", "internal/bytealg.MakeNoZero"], unfollowed := true, recurses := true, named := ["internal/bytealg.MaxLen", "unicode/utf8.first", "unicode/utf8.acceptRanges"], apart := false, laid := [("unicode/utf8.acceptRanges", laid_unicode_utf8_acceptRanges), ("unicode/utf8.first", laid_unicode_utf8_first)] }
def JacChainsSaid : Prop := jacChainsRow.holds Tryz.pinned (OpenSpec.ofChange jacChainsSpec)

/-- ITS FALSE NEIGHBOUR: 'it returns false'. Refute it at one input. -/
def jacChainsWrong : ChangeSpec := { name := "jacChains", fn := fun _ => fun
  | [d1, d2] => { results := [.lit (.bool false)], args := [d1, d2] }
  | _ => none }
def JacChainsWrongFalsely : Prop := jacChainsRow.holds Tryz.pinned (OpenSpec.ofChange jacChainsWrong)

/- THE SECOND FORM. 'bulk': how many values and letters a reading holds, each counted each time it is reached (what is shared counts as often as it is met; a slice's spare places count too). A statement '..UptoSaid' is the law's where the arguments, and the package variables that the reading takes, are together of bulk at most 1048576: NARROWER than '..Said'. Prove '..Said' where nothing that the law and all that it calls make is longer than what came in: it says more and counts as full. Else prove '..UptoSaid'. A law counts once. -/
mutual
def uptoBulk {H : Type} : DataW H → Nat
  | .lit (.string bytes) => bytes.length + 1
  | .lit _ => 1
  | .nil => 1
  | .ptr d => uptoBulk d + 1
  | .slice elems spare => uptoBulkAll elems + uptoBulkAll spare + 1
  | .agg parts => uptoBulkAll parts + 1
  | .iface _ d => uptoBulk d + 1
  | .map entries => uptoBulkEntries entries + 1
  | .held _ => 1
def uptoBulkAll {H : Type} : List (DataW H) → Nat
  | [] => 0
  | d :: r => uptoBulk d + uptoBulkAll r
def uptoBulkEntries {H : Type} : List (Lit × DataW H) → Nat
  | [] => 0
  | x :: r => uptoBulkEntry x + uptoBulkEntries r
def uptoBulkEntry {H : Type} : Lit × DataW H → Nat
  | (.string bytes, d) => bytes.length + uptoBulk d + 1
  | (_, d) => uptoBulk d + 1
 end
def uptoSmall : (H : Type) → List (DataW H) → Bool := fun _ ds => decide (uptoBulkAll ds ≤ 1048576)
def OpenSpec.upto (s : _root_.Go.ChangeSpec) : _root_.Go.OpenSpec := { _root_.Go.OpenSpec.ofChange s with cond := some uptoSmall }

/-- 'retrospectlaw34.TiltMatrix', WHERE WHAT IT READS IS OF BULK AT MOST 1048576: true; the input reads as it did. -/
def tiltMatrixUptoRow : OpenClaim := { program := "ytkkfedionkhgnaagreatdoor", sum := "06d551089d0388cfde298e1af9e81ce1673cac204837c1141743d7b0a994dac0", func := "retrospect/retrospectlaw34.TiltMatrix", spec := "tiltMatrix", inPlace := ["internal/bytealg.IndexByteString", "internal/bytealg.IndexString", "internal/bytealg.CountString", "internal/abi.NoEscape", "internal/bytealg.MakeNoZero"], unfollowed := true, recurses := true, named := ["internal/bytealg.MaxLen", "unicode/utf8.first", "unicode/utf8.acceptRanges"], apart := false, laid := [("unicode/utf8.acceptRanges", laid_unicode_utf8_acceptRanges), ("unicode/utf8.first", laid_unicode_utf8_first)], narrowed := true }
def TiltMatrixUptoSaid : Prop := tiltMatrixUptoRow.holds Tryz.pinned (OpenSpec.upto tiltMatrixSpec)

/-- 'retrospectlaw42.AlongMatrix', WHERE WHAT IT READS IS OF BULK AT MOST 1048576: true; the input reads as it did. -/
def alongMatrixUptoRow : OpenClaim := { program := "ytkkfedionkhgnaagreatdoor", sum := "06d551089d0388cfde298e1af9e81ce1673cac204837c1141743d7b0a994dac0", func := "retrospect/retrospectlaw42.AlongMatrix", spec := "alongMatrix", inPlace := ["internal/bytealg.IndexByteString", "internal/bytealg.IndexString", "internal/bytealg.CountString", "internal/abi.NoEscape", "internal/bytealg.MakeNoZero"], unfollowed := true, recurses := true, named := ["internal/bytealg.MaxLen", "unicode/utf8.first", "unicode/utf8.acceptRanges"], apart := false, laid := [("unicode/utf8.acceptRanges", laid_unicode_utf8_acceptRanges), ("unicode/utf8.first", laid_unicode_utf8_first)], narrowed := true }
def AlongMatrixUptoSaid : Prop := alongMatrixUptoRow.holds Tryz.pinned (OpenSpec.upto alongMatrixSpec)

/-- 'retrospectlaw44.SweepBacks', WHERE WHAT IT READS IS OF BULK AT MOST 1048576: true; the input reads as it did. -/
def sweepBacksUptoRow : OpenClaim := { program := "ytkkfedionkhgnaagreatdoor", sum := "06d551089d0388cfde298e1af9e81ce1673cac204837c1141743d7b0a994dac0", func := "retrospect/retrospectlaw44.SweepBacks", spec := "sweepBacks", inPlace := ["internal/bytealg.IndexByteString", "internal/bytealg.IndexString", "internal/bytealg.CountString", "internal/abi.NoEscape", "internal/bytealg.MakeNoZero"], unfollowed := true, recurses := true, named := ["internal/bytealg.MaxLen", "unicode/utf8.first", "unicode/utf8.acceptRanges"], apart := false, laid := [("unicode/utf8.acceptRanges", laid_unicode_utf8_acceptRanges), ("unicode/utf8.first", laid_unicode_utf8_first)], narrowed := true }
def SweepBacksUptoSaid : Prop := sweepBacksUptoRow.holds Tryz.pinned (OpenSpec.upto sweepBacksSpec)

/-- 'retrospectlaw44.SweepSpacing', WHERE WHAT IT READS IS OF BULK AT MOST 1048576: true; the input reads as it did. -/
def sweepSpacingUptoRow : OpenClaim := { program := "ytkkfedionkhgnaagreatdoor", sum := "06d551089d0388cfde298e1af9e81ce1673cac204837c1141743d7b0a994dac0", func := "retrospect/retrospectlaw44.SweepSpacing", spec := "sweepSpacing", inPlace := ["internal/bytealg.IndexByteString", "internal/bytealg.IndexString", "internal/bytealg.CountString", "internal/abi.NoEscape", "internal/bytealg.MakeNoZero"], unfollowed := true, recurses := true, named := ["internal/bytealg.MaxLen", "unicode/utf8.first", "unicode/utf8.acceptRanges"], apart := false, laid := [("unicode/utf8.acceptRanges", laid_unicode_utf8_acceptRanges), ("unicode/utf8.first", laid_unicode_utf8_first)], narrowed := true }
def SweepSpacingUptoSaid : Prop := sweepSpacingUptoRow.holds Tryz.pinned (OpenSpec.upto sweepSpacingSpec)

/-- 'retrospectlaw44.SweepAlong', WHERE WHAT IT READS IS OF BULK AT MOST 1048576: true; the input reads as it did. -/
def sweepAlongUptoRow : OpenClaim := { program := "ytkkfedionkhgnaagreatdoor", sum := "06d551089d0388cfde298e1af9e81ce1673cac204837c1141743d7b0a994dac0", func := "retrospect/retrospectlaw44.SweepAlong", spec := "sweepAlong", inPlace := ["internal/bytealg.IndexByteString", "internal/bytealg.IndexString", "internal/bytealg.CountString", "internal/abi.NoEscape", "internal/bytealg.MakeNoZero"], unfollowed := true, recurses := true, named := ["internal/bytealg.MaxLen", "unicode/utf8.first", "unicode/utf8.acceptRanges"], apart := false, laid := [("unicode/utf8.acceptRanges", laid_unicode_utf8_acceptRanges), ("unicode/utf8.first", laid_unicode_utf8_first)], narrowed := true }
def SweepAlongUptoSaid : Prop := sweepAlongUptoRow.holds Tryz.pinned (OpenSpec.upto sweepAlongSpec)

/-- 'retrospectlaw45.JacBoth', WHERE WHAT IT READS IS OF BULK AT MOST 1048576: true; the input reads as it did. -/
def jacBothUptoRow : OpenClaim := { program := "ytkkfedionkhgnaagreatdoor", sum := "06d551089d0388cfde298e1af9e81ce1673cac204837c1141743d7b0a994dac0", func := "retrospect/retrospectlaw45.JacBoth", spec := "jacBoth", inPlace := ["internal/bytealg.IndexByteString", "internal/bytealg.IndexString", "internal/bytealg.CountString", "internal/abi.NoEscape", "internal/bytealg.MakeNoZero"], unfollowed := true, recurses := true, named := ["internal/bytealg.MaxLen", "unicode/utf8.first", "unicode/utf8.acceptRanges"], apart := false, laid := [("unicode/utf8.acceptRanges", laid_unicode_utf8_acceptRanges), ("unicode/utf8.first", laid_unicode_utf8_first)], narrowed := true }
def JacBothUptoSaid : Prop := jacBothUptoRow.holds Tryz.pinned (OpenSpec.upto jacBothSpec)

/-- 'retrospectlaw45.JacChains', WHERE WHAT IT READS IS OF BULK AT MOST 1048576: true; the input reads as it did. -/
def jacChainsUptoRow : OpenClaim := { program := "ytkkfedionkhgnaagreatdoor", sum := "06d551089d0388cfde298e1af9e81ce1673cac204837c1141743d7b0a994dac0", func := "retrospect/retrospectlaw45.JacChains", spec := "jacChains", inPlace := ["internal/bytealg.IndexByteString", "internal/bytealg.IndexString", "internal/bytealg.CountString", "internal/abi.NoEscape", "internal/bytealg.MakeNoZero"], unfollowed := true, recurses := true, named := ["internal/bytealg.MaxLen", "unicode/utf8.first", "unicode/utf8.acceptRanges"], apart := false, laid := [("unicode/utf8.acceptRanges", laid_unicode_utf8_acceptRanges), ("unicode/utf8.first", laid_unicode_utf8_first)], narrowed := true }
def JacChainsUptoSaid : Prop := jacChainsUptoRow.holds Tryz.pinned (OpenSpec.upto jacChainsSpec)

end Rows
end Go.Proofs.YtkkfedionkhgnaaGreatDoor
