/-
  NARROWER THAN 'FOR EVERY INPUT', by the rows' own cells (each row's printed sentence says how): TiltCarries: laid · TiltLinear: laid · BackCarries: laid · BackLinear: laid · BackSums: laid · JudgeLooks: laid · AlongCarries: laid · AlongLinear: laid · BackTilt: laid.
  DERIVED. THE GIVEN ROWS OF THIS SEAT. 9 by the template 'for every input the law returns true; each argument reads behind the call as it read before'; 0 by the template 'total and deterministic' (their statements: YtlfphifbmoccgaaGreatDoorTotals.lean).
  GIVEN WITH THE SEED: the statements are not yours to turn. If you find one false, say at which input.
  Laid BY PROGRAM, IN A SANDBOX (cutbox-rows.mjs): the forced cells as the released guide's own fill.sh prints them over the translation 537ec5223795d03e… (all of the seat's roots in one cut). By AI agents, Wed Nov 11 2026. No macro, syntax, notation, axiom, sorry.
-/
import Derived.Test.YtlfphifbmoccgaaGreatDoorChecked
import GoSem.PinnedTables
import GoSem.Claim
import GoSem.ClaimJoined
import GoSem.ClaimMapViews
import Derived.JoinedTies
import Derived.KernelRfl
namespace Go.Proofs.YtlfphifbmoccgaaGreatDoor
/- THE CELL 'sum', in the pinned program and in every row, IS THE sha256 OF THE DUMP (.gsa) THAT YtlfphifbmoccgaaGreatDoorProg.lean LOADS. Nothing in Lean hashes anything: it is a label: what it is worth is what the hold of that sum in a sandbox is worth. -/
noncomputable def Tryz.pinned : Pinned := { name := "ytlfphifbmoccgaagreatdoor", sum := "537ec5223795d03e880c85009f64cde7c378c29b9bacf60691d0a6c349f2640a", checked := Tryz.checked }
namespace Rows
def none {H : Type} : Left H := { results := [], args := [] }

/- WHAT THE LISTED PACKAGE-LEVEL VARIABLES READ AS WHEN THE CALL BEGINS. Each datum BY PROGRAM (the guide's laid-datum.mjs) off the statement by which the dump's own 'gosem.cut.vars' lays the variable. In a bare row this is a premise. The card (YtlfphifbmoccgaaGreatDoorCards.lean) ties it to the program's text. -/
def laid_unicode_utf8_acceptRanges {H : Type} : DataW H := .agg [.agg [.lit (.int .u8 128), .lit (.int .u8 191)], .agg [.lit (.int .u8 160), .lit (.int .u8 191)], .agg [.lit (.int .u8 128), .lit (.int .u8 159)], .agg [.lit (.int .u8 144), .lit (.int .u8 191)], .agg [.lit (.int .u8 128), .lit (.int .u8 143)], .agg [.lit (.int .u8 0), .lit (.int .u8 0)], .agg [.lit (.int .u8 0), .lit (.int .u8 0)], .agg [.lit (.int .u8 0), .lit (.int .u8 0)], .agg [.lit (.int .u8 0), .lit (.int .u8 0)], .agg [.lit (.int .u8 0), .lit (.int .u8 0)], .agg [.lit (.int .u8 0), .lit (.int .u8 0)], .agg [.lit (.int .u8 0), .lit (.int .u8 0)], .agg [.lit (.int .u8 0), .lit (.int .u8 0)], .agg [.lit (.int .u8 0), .lit (.int .u8 0)], .agg [.lit (.int .u8 0), .lit (.int .u8 0)], .agg [.lit (.int .u8 0), .lit (.int .u8 0)]]
/-- One of Go's own tables, pinned by name: the form's constant. -/
def laid_unicode_utf8_first : DataW Unit := Go.Pinned.utf8First

/-- 'retrospectlaw34.TiltCarries': WHATEVER THE INPUT: true; the input reads as it did. -/
def tiltCarriesSpec : ChangeSpec := { name := "tiltCarries", fn := fun _ => fun
  | [d1, d2, d3] => { results := [.lit (.bool true)], args := [d1, d2, d3] }
  | _ => none }
def tiltCarriesRow : OpenClaim := { program := "ytlfphifbmoccgaagreatdoor", sum := "537ec5223795d03e880c85009f64cde7c378c29b9bacf60691d0a6c349f2640a", func := "retrospect/retrospectlaw34.TiltCarries", spec := "tiltCarries", inPlace := ["internal/bytealg.IndexByteString", "internal/bytealg.IndexString", "internal/bytealg.CountString", "internal/abi.NoEscape", "internal/bytealg.MakeNoZero"], unfollowed := true, recurses := true, named := ["internal/bytealg.MaxLen", "unicode/utf8.first", "unicode/utf8.acceptRanges"], apart := false, laid := [("unicode/utf8.acceptRanges", laid_unicode_utf8_acceptRanges), ("unicode/utf8.first", laid_unicode_utf8_first)] }
def TiltCarriesSaid : Prop := tiltCarriesRow.holds Tryz.pinned (OpenSpec.ofChange tiltCarriesSpec)

/-- ITS FALSE NEIGHBOUR: 'it returns false'. Refute it at one input. -/
def tiltCarriesWrong : ChangeSpec := { name := "tiltCarries", fn := fun _ => fun
  | [d1, d2, d3] => { results := [.lit (.bool false)], args := [d1, d2, d3] }
  | _ => none }
def TiltCarriesWrongFalsely : Prop := tiltCarriesRow.holds Tryz.pinned (OpenSpec.ofChange tiltCarriesWrong)

/-- 'retrospectlaw34.TiltLinear': WHATEVER THE INPUT: true; the input reads as it did. -/
def tiltLinearSpec : ChangeSpec := { name := "tiltLinear", fn := fun _ => fun
  | [d1, d2, d3, d4] => { results := [.lit (.bool true)], args := [d1, d2, d3, d4] }
  | _ => none }
def tiltLinearRow : OpenClaim := { program := "ytlfphifbmoccgaagreatdoor", sum := "537ec5223795d03e880c85009f64cde7c378c29b9bacf60691d0a6c349f2640a", func := "retrospect/retrospectlaw34.TiltLinear", spec := "tiltLinear", inPlace := ["internal/bytealg.IndexByteString", "internal/bytealg.IndexString", "internal/bytealg.CountString", "internal/abi.NoEscape", "internal/bytealg.MakeNoZero"], unfollowed := true, recurses := true, named := ["internal/bytealg.MaxLen", "unicode/utf8.first", "unicode/utf8.acceptRanges"], apart := false, laid := [("unicode/utf8.acceptRanges", laid_unicode_utf8_acceptRanges), ("unicode/utf8.first", laid_unicode_utf8_first)] }
def TiltLinearSaid : Prop := tiltLinearRow.holds Tryz.pinned (OpenSpec.ofChange tiltLinearSpec)

/-- ITS FALSE NEIGHBOUR: 'it returns false'. Refute it at one input. -/
def tiltLinearWrong : ChangeSpec := { name := "tiltLinear", fn := fun _ => fun
  | [d1, d2, d3, d4] => { results := [.lit (.bool false)], args := [d1, d2, d3, d4] }
  | _ => none }
def TiltLinearWrongFalsely : Prop := tiltLinearRow.holds Tryz.pinned (OpenSpec.ofChange tiltLinearWrong)

/-- 'retrospectlaw35.BackCarries': WHATEVER THE INPUT: true; the input reads as it did. -/
def backCarriesSpec : ChangeSpec := { name := "backCarries", fn := fun _ => fun
  | [d1, d2, d3] => { results := [.lit (.bool true)], args := [d1, d2, d3] }
  | _ => none }
def backCarriesRow : OpenClaim := { program := "ytlfphifbmoccgaagreatdoor", sum := "537ec5223795d03e880c85009f64cde7c378c29b9bacf60691d0a6c349f2640a", func := "retrospect/retrospectlaw35.BackCarries", spec := "backCarries", inPlace := ["internal/bytealg.IndexByteString", "internal/bytealg.IndexString", "internal/bytealg.CountString", "internal/abi.NoEscape", "internal/bytealg.MakeNoZero"], unfollowed := true, recurses := true, named := ["internal/bytealg.MaxLen", "unicode/utf8.first", "unicode/utf8.acceptRanges"], apart := false, laid := [("unicode/utf8.acceptRanges", laid_unicode_utf8_acceptRanges), ("unicode/utf8.first", laid_unicode_utf8_first)] }
def BackCarriesSaid : Prop := backCarriesRow.holds Tryz.pinned (OpenSpec.ofChange backCarriesSpec)

/-- ITS FALSE NEIGHBOUR: 'it returns false'. Refute it at one input. -/
def backCarriesWrong : ChangeSpec := { name := "backCarries", fn := fun _ => fun
  | [d1, d2, d3] => { results := [.lit (.bool false)], args := [d1, d2, d3] }
  | _ => none }
def BackCarriesWrongFalsely : Prop := backCarriesRow.holds Tryz.pinned (OpenSpec.ofChange backCarriesWrong)

/-- 'retrospectlaw35.BackLinear': WHATEVER THE INPUT: true; the input reads as it did. -/
def backLinearSpec : ChangeSpec := { name := "backLinear", fn := fun _ => fun
  | [d1, d2, d3] => { results := [.lit (.bool true)], args := [d1, d2, d3] }
  | _ => none }
def backLinearRow : OpenClaim := { program := "ytlfphifbmoccgaagreatdoor", sum := "537ec5223795d03e880c85009f64cde7c378c29b9bacf60691d0a6c349f2640a", func := "retrospect/retrospectlaw35.BackLinear", spec := "backLinear", inPlace := ["internal/bytealg.IndexByteString", "internal/bytealg.IndexString", "internal/bytealg.CountString", "internal/abi.NoEscape", "internal/bytealg.MakeNoZero"], unfollowed := true, recurses := true, named := ["internal/bytealg.MaxLen", "unicode/utf8.first", "unicode/utf8.acceptRanges"], apart := false, laid := [("unicode/utf8.acceptRanges", laid_unicode_utf8_acceptRanges), ("unicode/utf8.first", laid_unicode_utf8_first)] }
def BackLinearSaid : Prop := backLinearRow.holds Tryz.pinned (OpenSpec.ofChange backLinearSpec)

/-- ITS FALSE NEIGHBOUR: 'it returns false'. Refute it at one input. -/
def backLinearWrong : ChangeSpec := { name := "backLinear", fn := fun _ => fun
  | [d1, d2, d3] => { results := [.lit (.bool false)], args := [d1, d2, d3] }
  | _ => none }
def BackLinearWrongFalsely : Prop := backLinearRow.holds Tryz.pinned (OpenSpec.ofChange backLinearWrong)

/-- 'retrospectlaw35.BackSums': WHATEVER THE INPUT: true; the input reads as it did. -/
def backSumsSpec : ChangeSpec := { name := "backSums", fn := fun _ => fun
  | [d1, d2, d3] => { results := [.lit (.bool true)], args := [d1, d2, d3] }
  | _ => none }
def backSumsRow : OpenClaim := { program := "ytlfphifbmoccgaagreatdoor", sum := "537ec5223795d03e880c85009f64cde7c378c29b9bacf60691d0a6c349f2640a", func := "retrospect/retrospectlaw35.BackSums", spec := "backSums", inPlace := ["internal/bytealg.IndexByteString", "internal/bytealg.IndexString", "internal/bytealg.CountString", "internal/abi.NoEscape", "internal/bytealg.MakeNoZero"], unfollowed := true, recurses := true, named := ["internal/bytealg.MaxLen", "unicode/utf8.first", "unicode/utf8.acceptRanges"], apart := false, laid := [("unicode/utf8.acceptRanges", laid_unicode_utf8_acceptRanges), ("unicode/utf8.first", laid_unicode_utf8_first)] }
def BackSumsSaid : Prop := backSumsRow.holds Tryz.pinned (OpenSpec.ofChange backSumsSpec)

/-- ITS FALSE NEIGHBOUR: 'it returns false'. Refute it at one input. -/
def backSumsWrong : ChangeSpec := { name := "backSums", fn := fun _ => fun
  | [d1, d2, d3] => { results := [.lit (.bool false)], args := [d1, d2, d3] }
  | _ => none }
def BackSumsWrongFalsely : Prop := backSumsRow.holds Tryz.pinned (OpenSpec.ofChange backSumsWrong)

/-- 'retrospectlaw40.JudgeLooks': WHATEVER THE INPUT: true; the input reads as it did. -/
def judgeLooksSpec : ChangeSpec := { name := "judgeLooks", fn := fun _ => fun
  | [d1, d2] => { results := [.lit (.bool true)], args := [d1, d2] }
  | _ => none }
def judgeLooksRow : OpenClaim := { program := "ytlfphifbmoccgaagreatdoor", sum := "537ec5223795d03e880c85009f64cde7c378c29b9bacf60691d0a6c349f2640a", func := "retrospect/retrospectlaw40.JudgeLooks", spec := "judgeLooks", inPlace := ["internal/bytealg.IndexByteString", "internal/bytealg.IndexString", "internal/bytealg.CountString"], unfollowed := true, recurses := true, named := ["internal/bytealg.MaxLen", "unicode/utf8.first", "unicode/utf8.acceptRanges"], apart := false, laid := [("unicode/utf8.acceptRanges", laid_unicode_utf8_acceptRanges), ("unicode/utf8.first", laid_unicode_utf8_first)] }
def JudgeLooksSaid : Prop := judgeLooksRow.holds Tryz.pinned (OpenSpec.ofChange judgeLooksSpec)

/-- ITS FALSE NEIGHBOUR: 'it returns false'. Refute it at one input. -/
def judgeLooksWrong : ChangeSpec := { name := "judgeLooks", fn := fun _ => fun
  | [d1, d2] => { results := [.lit (.bool false)], args := [d1, d2] }
  | _ => none }
def JudgeLooksWrongFalsely : Prop := judgeLooksRow.holds Tryz.pinned (OpenSpec.ofChange judgeLooksWrong)

/-- 'retrospectlaw42.AlongCarries': WHATEVER THE INPUT: true; the input reads as it did. -/
def alongCarriesSpec : ChangeSpec := { name := "alongCarries", fn := fun _ => fun
  | [d1, d2, d3] => { results := [.lit (.bool true)], args := [d1, d2, d3] }
  | _ => none }
def alongCarriesRow : OpenClaim := { program := "ytlfphifbmoccgaagreatdoor", sum := "537ec5223795d03e880c85009f64cde7c378c29b9bacf60691d0a6c349f2640a", func := "retrospect/retrospectlaw42.AlongCarries", spec := "alongCarries", inPlace := ["internal/bytealg.IndexByteString", "internal/bytealg.IndexString", "internal/bytealg.CountString", "internal/abi.NoEscape", "internal/bytealg.MakeNoZero"], unfollowed := true, recurses := true, named := ["internal/bytealg.MaxLen", "unicode/utf8.first", "unicode/utf8.acceptRanges"], apart := false, laid := [("unicode/utf8.acceptRanges", laid_unicode_utf8_acceptRanges), ("unicode/utf8.first", laid_unicode_utf8_first)] }
def AlongCarriesSaid : Prop := alongCarriesRow.holds Tryz.pinned (OpenSpec.ofChange alongCarriesSpec)

/-- ITS FALSE NEIGHBOUR: 'it returns false'. Refute it at one input. -/
def alongCarriesWrong : ChangeSpec := { name := "alongCarries", fn := fun _ => fun
  | [d1, d2, d3] => { results := [.lit (.bool false)], args := [d1, d2, d3] }
  | _ => none }
def AlongCarriesWrongFalsely : Prop := alongCarriesRow.holds Tryz.pinned (OpenSpec.ofChange alongCarriesWrong)

/-- 'retrospectlaw42.AlongLinear': WHATEVER THE INPUT: true; the input reads as it did. -/
def alongLinearSpec : ChangeSpec := { name := "alongLinear", fn := fun _ => fun
  | [d1, d2, d3, d4] => { results := [.lit (.bool true)], args := [d1, d2, d3, d4] }
  | _ => none }
def alongLinearRow : OpenClaim := { program := "ytlfphifbmoccgaagreatdoor", sum := "537ec5223795d03e880c85009f64cde7c378c29b9bacf60691d0a6c349f2640a", func := "retrospect/retrospectlaw42.AlongLinear", spec := "alongLinear", inPlace := ["internal/bytealg.IndexByteString", "internal/bytealg.IndexString", "internal/bytealg.CountString", "internal/abi.NoEscape", "internal/bytealg.MakeNoZero"], unfollowed := true, recurses := true, named := ["internal/bytealg.MaxLen", "unicode/utf8.first", "unicode/utf8.acceptRanges"], apart := false, laid := [("unicode/utf8.acceptRanges", laid_unicode_utf8_acceptRanges), ("unicode/utf8.first", laid_unicode_utf8_first)] }
def AlongLinearSaid : Prop := alongLinearRow.holds Tryz.pinned (OpenSpec.ofChange alongLinearSpec)

/-- ITS FALSE NEIGHBOUR: 'it returns false'. Refute it at one input. -/
def alongLinearWrong : ChangeSpec := { name := "alongLinear", fn := fun _ => fun
  | [d1, d2, d3, d4] => { results := [.lit (.bool false)], args := [d1, d2, d3, d4] }
  | _ => none }
def AlongLinearWrongFalsely : Prop := alongLinearRow.holds Tryz.pinned (OpenSpec.ofChange alongLinearWrong)

/-- 'retrospectlaw35.BackTilt': WHATEVER THE INPUT: true; the input reads as it did. -/
def backTiltSpec : ChangeSpec := { name := "backTilt", fn := fun _ => fun
  | [d1, d2, d3, d4] => { results := [.lit (.bool true)], args := [d1, d2, d3, d4] }
  | _ => none }
def backTiltRow : OpenClaim := { program := "ytlfphifbmoccgaagreatdoor", sum := "537ec5223795d03e880c85009f64cde7c378c29b9bacf60691d0a6c349f2640a", func := "retrospect/retrospectlaw35.BackTilt", spec := "backTilt", inPlace := ["internal/bytealg.IndexByteString", "internal/bytealg.IndexString", "internal/bytealg.CountString", "internal/abi.NoEscape", "internal/bytealg.MakeNoZero"], unfollowed := true, recurses := true, named := ["internal/bytealg.MaxLen", "unicode/utf8.first", "unicode/utf8.acceptRanges"], apart := false, laid := [("unicode/utf8.acceptRanges", laid_unicode_utf8_acceptRanges), ("unicode/utf8.first", laid_unicode_utf8_first)] }
def BackTiltSaid : Prop := backTiltRow.holds Tryz.pinned (OpenSpec.ofChange backTiltSpec)

/-- ITS FALSE NEIGHBOUR: 'it returns false'. Refute it at one input. -/
def backTiltWrong : ChangeSpec := { name := "backTilt", fn := fun _ => fun
  | [d1, d2, d3, d4] => { results := [.lit (.bool false)], args := [d1, d2, d3, d4] }
  | _ => none }
def BackTiltWrongFalsely : Prop := backTiltRow.holds Tryz.pinned (OpenSpec.ofChange backTiltWrong)

/- THE SECOND FORM. 'bulk': how many values and letters a reading holds, each counted each time it is reached (what is shared counts as often as it is met; a slice's spare places count too). A statement '..UptoSaid' is the law's where the arguments, and the package variables that the reading takes, are together of bulk at most 1048576: NARROWER than '..Said'. Prove '..Said' where nothing that the law and all that it calls make is longer than what came in: it says more and counts as full. Else prove '..UptoSaid'. A law counts once. -/
mutual
def uptoBulk {H : Type} : DataW H → Nat
  | .lit (.string bytes) => bytes.length + 1
  | .lit _ => 1
  | .nil => 1
  | .ptr d => uptoBulk d + 1
  | .slice elems spare => uptoBulkAll elems + uptoBulkAll spare + 1
  | .agg parts => uptoBulkAll parts + 1
  | .iface _ d => uptoBulk d + 1
  | .map entries => uptoBulkEntries entries + 1
  | .held _ => 1
def uptoBulkAll {H : Type} : List (DataW H) → Nat
  | [] => 0
  | d :: r => uptoBulk d + uptoBulkAll r
def uptoBulkEntries {H : Type} : List (Lit × DataW H) → Nat
  | [] => 0
  | x :: r => uptoBulkEntry x + uptoBulkEntries r
def uptoBulkEntry {H : Type} : Lit × DataW H → Nat
  | (.string bytes, d) => bytes.length + uptoBulk d + 1
  | (_, d) => uptoBulk d + 1
 end
def uptoSmall : (H : Type) → List (DataW H) → Bool := fun _ ds => decide (uptoBulkAll ds ≤ 1048576)
def OpenSpec.upto (s : _root_.Go.ChangeSpec) : _root_.Go.OpenSpec := { _root_.Go.OpenSpec.ofChange s with cond := some uptoSmall }

/-- 'retrospectlaw34.TiltCarries', WHERE WHAT IT READS IS OF BULK AT MOST 1048576: true; the input reads as it did. -/
def tiltCarriesUptoRow : OpenClaim := { program := "ytlfphifbmoccgaagreatdoor", sum := "537ec5223795d03e880c85009f64cde7c378c29b9bacf60691d0a6c349f2640a", func := "retrospect/retrospectlaw34.TiltCarries", spec := "tiltCarries", inPlace := ["internal/bytealg.IndexByteString", "internal/bytealg.IndexString", "internal/bytealg.CountString", "internal/abi.NoEscape", "internal/bytealg.MakeNoZero"], unfollowed := true, recurses := true, named := ["internal/bytealg.MaxLen", "unicode/utf8.first", "unicode/utf8.acceptRanges"], apart := false, laid := [("unicode/utf8.acceptRanges", laid_unicode_utf8_acceptRanges), ("unicode/utf8.first", laid_unicode_utf8_first)], narrowed := true }
def TiltCarriesUptoSaid : Prop := tiltCarriesUptoRow.holds Tryz.pinned (OpenSpec.upto tiltCarriesSpec)

/-- 'retrospectlaw34.TiltLinear', WHERE WHAT IT READS IS OF BULK AT MOST 1048576: true; the input reads as it did. -/
def tiltLinearUptoRow : OpenClaim := { program := "ytlfphifbmoccgaagreatdoor", sum := "537ec5223795d03e880c85009f64cde7c378c29b9bacf60691d0a6c349f2640a", func := "retrospect/retrospectlaw34.TiltLinear", spec := "tiltLinear", inPlace := ["internal/bytealg.IndexByteString", "internal/bytealg.IndexString", "internal/bytealg.CountString", "internal/abi.NoEscape", "internal/bytealg.MakeNoZero"], unfollowed := true, recurses := true, named := ["internal/bytealg.MaxLen", "unicode/utf8.first", "unicode/utf8.acceptRanges"], apart := false, laid := [("unicode/utf8.acceptRanges", laid_unicode_utf8_acceptRanges), ("unicode/utf8.first", laid_unicode_utf8_first)], narrowed := true }
def TiltLinearUptoSaid : Prop := tiltLinearUptoRow.holds Tryz.pinned (OpenSpec.upto tiltLinearSpec)

/-- 'retrospectlaw35.BackCarries', WHERE WHAT IT READS IS OF BULK AT MOST 1048576: true; the input reads as it did. -/
def backCarriesUptoRow : OpenClaim := { program := "ytlfphifbmoccgaagreatdoor", sum := "537ec5223795d03e880c85009f64cde7c378c29b9bacf60691d0a6c349f2640a", func := "retrospect/retrospectlaw35.BackCarries", spec := "backCarries", inPlace := ["internal/bytealg.IndexByteString", "internal/bytealg.IndexString", "internal/bytealg.CountString", "internal/abi.NoEscape", "internal/bytealg.MakeNoZero"], unfollowed := true, recurses := true, named := ["internal/bytealg.MaxLen", "unicode/utf8.first", "unicode/utf8.acceptRanges"], apart := false, laid := [("unicode/utf8.acceptRanges", laid_unicode_utf8_acceptRanges), ("unicode/utf8.first", laid_unicode_utf8_first)], narrowed := true }
def BackCarriesUptoSaid : Prop := backCarriesUptoRow.holds Tryz.pinned (OpenSpec.upto backCarriesSpec)

/-- 'retrospectlaw35.BackLinear', WHERE WHAT IT READS IS OF BULK AT MOST 1048576: true; the input reads as it did. -/
def backLinearUptoRow : OpenClaim := { program := "ytlfphifbmoccgaagreatdoor", sum := "537ec5223795d03e880c85009f64cde7c378c29b9bacf60691d0a6c349f2640a", func := "retrospect/retrospectlaw35.BackLinear", spec := "backLinear", inPlace := ["internal/bytealg.IndexByteString", "internal/bytealg.IndexString", "internal/bytealg.CountString", "internal/abi.NoEscape", "internal/bytealg.MakeNoZero"], unfollowed := true, recurses := true, named := ["internal/bytealg.MaxLen", "unicode/utf8.first", "unicode/utf8.acceptRanges"], apart := false, laid := [("unicode/utf8.acceptRanges", laid_unicode_utf8_acceptRanges), ("unicode/utf8.first", laid_unicode_utf8_first)], narrowed := true }
def BackLinearUptoSaid : Prop := backLinearUptoRow.holds Tryz.pinned (OpenSpec.upto backLinearSpec)

/-- 'retrospectlaw35.BackSums', WHERE WHAT IT READS IS OF BULK AT MOST 1048576: true; the input reads as it did. -/
def backSumsUptoRow : OpenClaim := { program := "ytlfphifbmoccgaagreatdoor", sum := "537ec5223795d03e880c85009f64cde7c378c29b9bacf60691d0a6c349f2640a", func := "retrospect/retrospectlaw35.BackSums", spec := "backSums", inPlace := ["internal/bytealg.IndexByteString", "internal/bytealg.IndexString", "internal/bytealg.CountString", "internal/abi.NoEscape", "internal/bytealg.MakeNoZero"], unfollowed := true, recurses := true, named := ["internal/bytealg.MaxLen", "unicode/utf8.first", "unicode/utf8.acceptRanges"], apart := false, laid := [("unicode/utf8.acceptRanges", laid_unicode_utf8_acceptRanges), ("unicode/utf8.first", laid_unicode_utf8_first)], narrowed := true }
def BackSumsUptoSaid : Prop := backSumsUptoRow.holds Tryz.pinned (OpenSpec.upto backSumsSpec)

/-- 'retrospectlaw40.JudgeLooks', WHERE WHAT IT READS IS OF BULK AT MOST 1048576: true; the input reads as it did. -/
def judgeLooksUptoRow : OpenClaim := { program := "ytlfphifbmoccgaagreatdoor", sum := "537ec5223795d03e880c85009f64cde7c378c29b9bacf60691d0a6c349f2640a", func := "retrospect/retrospectlaw40.JudgeLooks", spec := "judgeLooks", inPlace := ["internal/bytealg.IndexByteString", "internal/bytealg.IndexString", "internal/bytealg.CountString"], unfollowed := true, recurses := true, named := ["internal/bytealg.MaxLen", "unicode/utf8.first", "unicode/utf8.acceptRanges"], apart := false, laid := [("unicode/utf8.acceptRanges", laid_unicode_utf8_acceptRanges), ("unicode/utf8.first", laid_unicode_utf8_first)], narrowed := true }
def JudgeLooksUptoSaid : Prop := judgeLooksUptoRow.holds Tryz.pinned (OpenSpec.upto judgeLooksSpec)

/-- 'retrospectlaw42.AlongCarries', WHERE WHAT IT READS IS OF BULK AT MOST 1048576: true; the input reads as it did. -/
def alongCarriesUptoRow : OpenClaim := { program := "ytlfphifbmoccgaagreatdoor", sum := "537ec5223795d03e880c85009f64cde7c378c29b9bacf60691d0a6c349f2640a", func := "retrospect/retrospectlaw42.AlongCarries", spec := "alongCarries", inPlace := ["internal/bytealg.IndexByteString", "internal/bytealg.IndexString", "internal/bytealg.CountString", "internal/abi.NoEscape", "internal/bytealg.MakeNoZero"], unfollowed := true, recurses := true, named := ["internal/bytealg.MaxLen", "unicode/utf8.first", "unicode/utf8.acceptRanges"], apart := false, laid := [("unicode/utf8.acceptRanges", laid_unicode_utf8_acceptRanges), ("unicode/utf8.first", laid_unicode_utf8_first)], narrowed := true }
def AlongCarriesUptoSaid : Prop := alongCarriesUptoRow.holds Tryz.pinned (OpenSpec.upto alongCarriesSpec)

/-- 'retrospectlaw42.AlongLinear', WHERE WHAT IT READS IS OF BULK AT MOST 1048576: true; the input reads as it did. -/
def alongLinearUptoRow : OpenClaim := { program := "ytlfphifbmoccgaagreatdoor", sum := "537ec5223795d03e880c85009f64cde7c378c29b9bacf60691d0a6c349f2640a", func := "retrospect/retrospectlaw42.AlongLinear", spec := "alongLinear", inPlace := ["internal/bytealg.IndexByteString", "internal/bytealg.IndexString", "internal/bytealg.CountString", "internal/abi.NoEscape", "internal/bytealg.MakeNoZero"], unfollowed := true, recurses := true, named := ["internal/bytealg.MaxLen", "unicode/utf8.first", "unicode/utf8.acceptRanges"], apart := false, laid := [("unicode/utf8.acceptRanges", laid_unicode_utf8_acceptRanges), ("unicode/utf8.first", laid_unicode_utf8_first)], narrowed := true }
def AlongLinearUptoSaid : Prop := alongLinearUptoRow.holds Tryz.pinned (OpenSpec.upto alongLinearSpec)

/-- 'retrospectlaw35.BackTilt', WHERE WHAT IT READS IS OF BULK AT MOST 1048576: true; the input reads as it did. -/
def backTiltUptoRow : OpenClaim := { program := "ytlfphifbmoccgaagreatdoor", sum := "537ec5223795d03e880c85009f64cde7c378c29b9bacf60691d0a6c349f2640a", func := "retrospect/retrospectlaw35.BackTilt", spec := "backTilt", inPlace := ["internal/bytealg.IndexByteString", "internal/bytealg.IndexString", "internal/bytealg.CountString", "internal/abi.NoEscape", "internal/bytealg.MakeNoZero"], unfollowed := true, recurses := true, named := ["internal/bytealg.MaxLen", "unicode/utf8.first", "unicode/utf8.acceptRanges"], apart := false, laid := [("unicode/utf8.acceptRanges", laid_unicode_utf8_acceptRanges), ("unicode/utf8.first", laid_unicode_utf8_first)], narrowed := true }
def BackTiltUptoSaid : Prop := backTiltUptoRow.holds Tryz.pinned (OpenSpec.upto backTiltSpec)

end Rows
end Go.Proofs.YtlfphifbmoccgaaGreatDoor
