/-
  NARROWER THAN 'FOR EVERY INPUT', by the rows' own cells (each row's printed sentence says how): SearchSkips: laid · ForcedOf: laid · CheckWrong: laid · CheckFirst: laid · ReportFits: laid · ReportMays: laid · TextPrints: laid · TextWords: laid · TextApart: laid · BackParses: laid · BackReasons: laid · DeskNone: laid.
  DERIVED. THE GIVEN ROWS OF THIS SEAT. 12 by the template 'for every input the law returns true; each argument reads behind the call as it read before'; 0 by the template 'total and deterministic' (their statements: YtmgjomaipafjkaaGreatDoorTotals.lean).
  GIVEN WITH THE SEED: the statements are not yours to turn. If you find one false, say at which input.
  Laid BY PROGRAM, IN A SANDBOX (cutbox-rows.mjs): the forced cells as the released guide's own fill.sh prints them over the translation 2d9886e1db54cf0e… (all of the seat's roots in one cut). By AI agents, Wed Nov 11 2026. No macro, syntax, notation, axiom, sorry.
-/
import Derived.Test.YtmgjomaipafjkaaGreatDoorChecked
import GoSem.PinnedTables
import GoSem.Claim
import GoSem.ClaimJoined
import GoSem.ClaimMapViews
import Derived.JoinedTies
import Derived.KernelRfl
namespace Go.Proofs.YtmgjomaipafjkaaGreatDoor
/- THE CELL 'sum', in the pinned program and in every row, IS THE sha256 OF THE DUMP (.gsa) THAT YtmgjomaipafjkaaGreatDoorProg.lean LOADS. Nothing in Lean hashes anything: it is a label: what it is worth is what the hold of that sum in a sandbox is worth. -/
noncomputable def Tryz.pinned : Pinned := { name := "ytmgjomaipafjkaagreatdoor", sum := "2d9886e1db54cf0e909cc7d0bf17000858531301b4b75d9dba67a580a0d01950", checked := Tryz.checked }
namespace Rows
def none {H : Type} : Left H := { results := [], args := [] }

/- WHAT THE LISTED PACKAGE-LEVEL VARIABLES READ AS WHEN THE CALL BEGINS. Each datum BY PROGRAM (the guide's laid-datum.mjs) off the statement by which the dump's own 'gosem.cut.vars' lays the variable. In a bare row this is a premise. The card (YtmgjomaipafjkaaGreatDoorCards.lean) ties it to the program's text. -/
/-- One of Go's own tables, pinned by name: the form's constant. -/
def laid_unicode_utf8_first : DataW Unit := Go.Pinned.utf8First
def laid_unicode_utf8_acceptRanges {H : Type} : DataW H := .agg [.agg [.lit (.int .u8 128), .lit (.int .u8 191)], .agg [.lit (.int .u8 160), .lit (.int .u8 191)], .agg [.lit (.int .u8 128), .lit (.int .u8 159)], .agg [.lit (.int .u8 144), .lit (.int .u8 191)], .agg [.lit (.int .u8 128), .lit (.int .u8 143)], .agg [.lit (.int .u8 0), .lit (.int .u8 0)], .agg [.lit (.int .u8 0), .lit (.int .u8 0)], .agg [.lit (.int .u8 0), .lit (.int .u8 0)], .agg [.lit (.int .u8 0), .lit (.int .u8 0)], .agg [.lit (.int .u8 0), .lit (.int .u8 0)], .agg [.lit (.int .u8 0), .lit (.int .u8 0)], .agg [.lit (.int .u8 0), .lit (.int .u8 0)], .agg [.lit (.int .u8 0), .lit (.int .u8 0)], .agg [.lit (.int .u8 0), .lit (.int .u8 0)], .agg [.lit (.int .u8 0), .lit (.int .u8 0)], .agg [.lit (.int .u8 0), .lit (.int .u8 0)]]
def laid_deemster_event_words {H : Type} : DataW H := .agg [.lit (.string []), .lit (.string [98, 101, 103, 105, 110]), .lit (.string [114, 101, 97, 100]), .lit (.string [119, 114, 105, 116, 101]), .lit (.string [111, 107]), .lit (.string [102, 97, 105, 108]), .lit (.string [105, 110, 102, 111])]
def laid_math_bits_deBruijn64tab {H : Type} : DataW H := .agg [.lit (.int .u8 0), .lit (.int .u8 1), .lit (.int .u8 56), .lit (.int .u8 2), .lit (.int .u8 57), .lit (.int .u8 49), .lit (.int .u8 28), .lit (.int .u8 3), .lit (.int .u8 61), .lit (.int .u8 58), .lit (.int .u8 42), .lit (.int .u8 50), .lit (.int .u8 38), .lit (.int .u8 29), .lit (.int .u8 17), .lit (.int .u8 4), .lit (.int .u8 62), .lit (.int .u8 47), .lit (.int .u8 59), .lit (.int .u8 36), .lit (.int .u8 45), .lit (.int .u8 43), .lit (.int .u8 51), .lit (.int .u8 22), .lit (.int .u8 53), .lit (.int .u8 39), .lit (.int .u8 33), .lit (.int .u8 30), .lit (.int .u8 24), .lit (.int .u8 18), .lit (.int .u8 12), .lit (.int .u8 5), .lit (.int .u8 63), .lit (.int .u8 55), .lit (.int .u8 48), .lit (.int .u8 27), .lit (.int .u8 60), .lit (.int .u8 41), .lit (.int .u8 37), .lit (.int .u8 16), .lit (.int .u8 46), .lit (.int .u8 35), .lit (.int .u8 44), .lit (.int .u8 21), .lit (.int .u8 52), .lit (.int .u8 32), .lit (.int .u8 23), .lit (.int .u8 11), .lit (.int .u8 54), .lit (.int .u8 26), .lit (.int .u8 40), .lit (.int .u8 15), .lit (.int .u8 34), .lit (.int .u8 20), .lit (.int .u8 31), .lit (.int .u8 10), .lit (.int .u8 25), .lit (.int .u8 14), .lit (.int .u8 19), .lit (.int .u8 9), .lit (.int .u8 13), .lit (.int .u8 8), .lit (.int .u8 7), .lit (.int .u8 6)]
def laid_math_bits_deBruijn32tab {H : Type} : DataW H := .agg [.lit (.int .u8 0), .lit (.int .u8 1), .lit (.int .u8 28), .lit (.int .u8 2), .lit (.int .u8 29), .lit (.int .u8 14), .lit (.int .u8 24), .lit (.int .u8 3), .lit (.int .u8 30), .lit (.int .u8 22), .lit (.int .u8 20), .lit (.int .u8 15), .lit (.int .u8 25), .lit (.int .u8 17), .lit (.int .u8 4), .lit (.int .u8 8), .lit (.int .u8 31), .lit (.int .u8 27), .lit (.int .u8 13), .lit (.int .u8 23), .lit (.int .u8 21), .lit (.int .u8 19), .lit (.int .u8 16), .lit (.int .u8 7), .lit (.int .u8 26), .lit (.int .u8 12), .lit (.int .u8 18), .lit (.int .u8 6), .lit (.int .u8 11), .lit (.int .u8 5), .lit (.int .u8 10), .lit (.int .u8 9)]
def laid_deemster_text_levels {H : Type} : DataW H := .agg [.lit (.string []), .lit (.string [82, 67]), .lit (.string [67, 67]), .lit (.string [83, 69, 82])]
def laid_deemster_text_policies {H : Type} : DataW H := .agg [.lit (.string []), .lit (.string [107, 101, 101, 112]), .lit (.string [101, 114, 97, 115, 101])]
def laid_deemster_text_verdicts {H : Type} : DataW H := .agg [.lit (.string []), .lit (.string [118, 97, 108, 105, 100]), .lit (.string [118, 105, 111, 108, 97, 116, 101, 100]), .lit (.string [117, 110, 107, 110, 111, 119, 110])]
def laid_internal_strconv_uint64pow10 {H : Type} : DataW H := .agg [.lit (.int .u64 1), .lit (.int .u64 10), .lit (.int .u64 100), .lit (.int .u64 1000), .lit (.int .u64 10000), .lit (.int .u64 100000), .lit (.int .u64 1000000), .lit (.int .u64 10000000), .lit (.int .u64 100000000), .lit (.int .u64 1000000000), .lit (.int .u64 10000000000), .lit (.int .u64 100000000000), .lit (.int .u64 1000000000000), .lit (.int .u64 10000000000000), .lit (.int .u64 100000000000000), .lit (.int .u64 1000000000000000), .lit (.int .u64 10000000000000000), .lit (.int .u64 100000000000000000), .lit (.int .u64 1000000000000000000), .lit (.int .u64 10000000000000000000)]
def laid_deemster_script_firsts {H : Type} : DataW H := .agg [.lit (.string []), .lit (.string [108, 101, 118, 101, 108]), .lit (.string [112, 111, 108, 105, 99, 121]), .lit (.string [98, 117, 100, 103, 101, 116]), .lit (.string [99, 104, 101, 99, 107]), .lit (.string [114, 101, 112, 111, 114, 116]), .lit (.string [102, 111, 114, 99, 101, 100]), .lit (.string [119, 111, 114, 108, 100, 115]), .lit (.string [101, 110, 111, 117, 103, 104]), .lit (.string [115, 104, 111, 119]), .lit (.string [119, 114, 111, 110, 103])]

/-- 'deemsterlaw35.SearchSkips': WHATEVER THE INPUT: true; the input reads as it did. -/
def searchSkipsSpec : ChangeSpec := { name := "searchSkips", fn := fun _ => fun
  | [d1, d2] => { results := [.lit (.bool true)], args := [d1, d2] }
  | _ => none }
def searchSkipsRow : OpenClaim := { program := "ytmgjomaipafjkaagreatdoor", sum := "2d9886e1db54cf0e909cc7d0bf17000858531301b4b75d9dba67a580a0d01950", func := "deemster/deemsterlaw35.SearchSkips", spec := "searchSkips", inPlace := ["internal/bytealg.CountString", "internal/bytealg.IndexByteString", "internal/bytealg.IndexString"], unfollowed := true, recurses := true, named := ["unicode/utf8.first", "unicode/utf8.acceptRanges", "internal/bytealg.MaxLen", "deemster/event.words", "math/bits.deBruijn64tab", "math/bits.deBruijn32tab"], apart := false, laid := [("unicode/utf8.first", laid_unicode_utf8_first), ("unicode/utf8.acceptRanges", laid_unicode_utf8_acceptRanges), ("deemster/event.words", laid_deemster_event_words), ("math/bits.deBruijn64tab", laid_math_bits_deBruijn64tab), ("math/bits.deBruijn32tab", laid_math_bits_deBruijn32tab)] }
def SearchSkipsSaid : Prop := searchSkipsRow.holds Tryz.pinned (OpenSpec.ofChange searchSkipsSpec)

/-- ITS FALSE NEIGHBOUR: 'it returns false'. Refute it at one input. -/
def searchSkipsWrong : ChangeSpec := { name := "searchSkips", fn := fun _ => fun
  | [d1, d2] => { results := [.lit (.bool false)], args := [d1, d2] }
  | _ => none }
def SearchSkipsWrongFalsely : Prop := searchSkipsRow.holds Tryz.pinned (OpenSpec.ofChange searchSkipsWrong)

/-- 'deemsterlaw36.ForcedOf': WHATEVER THE INPUT: true; the input reads as it did. -/
def forcedOfSpec : ChangeSpec := { name := "forcedOf", fn := fun _ => fun
  | [d1, d2, d3, d4] => { results := [.lit (.bool true)], args := [d1, d2, d3, d4] }
  | _ => none }
def forcedOfRow : OpenClaim := { program := "ytmgjomaipafjkaagreatdoor", sum := "2d9886e1db54cf0e909cc7d0bf17000858531301b4b75d9dba67a580a0d01950", func := "deemster/deemsterlaw36.ForcedOf", spec := "forcedOf", inPlace := ["internal/bytealg.CountString", "internal/bytealg.IndexByteString", "internal/bytealg.IndexString"], unfollowed := true, recurses := true, named := ["unicode/utf8.first", "unicode/utf8.acceptRanges", "internal/bytealg.MaxLen", "deemster/event.words", "math/bits.deBruijn64tab", "math/bits.deBruijn32tab"], apart := false, laid := [("unicode/utf8.first", laid_unicode_utf8_first), ("unicode/utf8.acceptRanges", laid_unicode_utf8_acceptRanges), ("deemster/event.words", laid_deemster_event_words), ("math/bits.deBruijn64tab", laid_math_bits_deBruijn64tab), ("math/bits.deBruijn32tab", laid_math_bits_deBruijn32tab)] }
def ForcedOfSaid : Prop := forcedOfRow.holds Tryz.pinned (OpenSpec.ofChange forcedOfSpec)

/-- ITS FALSE NEIGHBOUR: 'it returns false'. Refute it at one input. -/
def forcedOfWrong : ChangeSpec := { name := "forcedOf", fn := fun _ => fun
  | [d1, d2, d3, d4] => { results := [.lit (.bool false)], args := [d1, d2, d3, d4] }
  | _ => none }
def ForcedOfWrongFalsely : Prop := forcedOfRow.holds Tryz.pinned (OpenSpec.ofChange forcedOfWrong)

/-- 'deemsterlaw42.CheckWrong': WHATEVER THE INPUT: true; the input reads as it did. -/
def checkWrongSpec : ChangeSpec := { name := "checkWrong", fn := fun _ => fun
  | [d] => { results := [.lit (.bool true)], args := [d] }
  | _ => none }
def checkWrongRow : OpenClaim := { program := "ytmgjomaipafjkaagreatdoor", sum := "2d9886e1db54cf0e909cc7d0bf17000858531301b4b75d9dba67a580a0d01950", func := "deemster/deemsterlaw42.CheckWrong", spec := "checkWrong", inPlace := ["internal/bytealg.CountString", "internal/bytealg.IndexByteString", "internal/bytealg.IndexString"], unfollowed := true, recurses := true, named := ["unicode/utf8.first", "unicode/utf8.acceptRanges", "internal/bytealg.MaxLen", "deemster/event.words", "math/bits.deBruijn64tab", "math/bits.deBruijn32tab"], apart := false, laid := [("unicode/utf8.first", laid_unicode_utf8_first), ("unicode/utf8.acceptRanges", laid_unicode_utf8_acceptRanges), ("deemster/event.words", laid_deemster_event_words), ("math/bits.deBruijn64tab", laid_math_bits_deBruijn64tab), ("math/bits.deBruijn32tab", laid_math_bits_deBruijn32tab)] }
def CheckWrongSaid : Prop := checkWrongRow.holds Tryz.pinned (OpenSpec.ofChange checkWrongSpec)

/-- ITS FALSE NEIGHBOUR: 'it returns false'. Refute it at one input. -/
def checkWrongWrong : ChangeSpec := { name := "checkWrong", fn := fun _ => fun
  | [d] => { results := [.lit (.bool false)], args := [d] }
  | _ => none }
def CheckWrongWrongFalsely : Prop := checkWrongRow.holds Tryz.pinned (OpenSpec.ofChange checkWrongWrong)

/-- 'deemsterlaw42.CheckFirst': WHATEVER THE INPUT: true; the input reads as it did. -/
def checkFirstSpec : ChangeSpec := { name := "checkFirst", fn := fun _ => fun
  | [d1, d2] => { results := [.lit (.bool true)], args := [d1, d2] }
  | _ => none }
def checkFirstRow : OpenClaim := { program := "ytmgjomaipafjkaagreatdoor", sum := "2d9886e1db54cf0e909cc7d0bf17000858531301b4b75d9dba67a580a0d01950", func := "deemster/deemsterlaw42.CheckFirst", spec := "checkFirst", inPlace := ["internal/bytealg.CountString", "internal/bytealg.IndexByteString", "internal/bytealg.IndexString"], unfollowed := true, recurses := true, named := ["unicode/utf8.first", "unicode/utf8.acceptRanges", "internal/bytealg.MaxLen", "deemster/event.words", "math/bits.deBruijn64tab", "math/bits.deBruijn32tab"], apart := false, laid := [("unicode/utf8.first", laid_unicode_utf8_first), ("unicode/utf8.acceptRanges", laid_unicode_utf8_acceptRanges), ("deemster/event.words", laid_deemster_event_words), ("math/bits.deBruijn64tab", laid_math_bits_deBruijn64tab), ("math/bits.deBruijn32tab", laid_math_bits_deBruijn32tab)] }
def CheckFirstSaid : Prop := checkFirstRow.holds Tryz.pinned (OpenSpec.ofChange checkFirstSpec)

/-- ITS FALSE NEIGHBOUR: 'it returns false'. Refute it at one input. -/
def checkFirstWrong : ChangeSpec := { name := "checkFirst", fn := fun _ => fun
  | [d1, d2] => { results := [.lit (.bool false)], args := [d1, d2] }
  | _ => none }
def CheckFirstWrongFalsely : Prop := checkFirstRow.holds Tryz.pinned (OpenSpec.ofChange checkFirstWrong)

/-- 'deemsterlaw38.ReportFits': WHATEVER THE INPUT: true; the input reads as it did. -/
def reportFitsSpec : ChangeSpec := { name := "reportFits", fn := fun _ => fun
  | [d1, d2] => { results := [.lit (.bool true)], args := [d1, d2] }
  | _ => none }
def reportFitsRow : OpenClaim := { program := "ytmgjomaipafjkaagreatdoor", sum := "2d9886e1db54cf0e909cc7d0bf17000858531301b4b75d9dba67a580a0d01950", func := "deemster/deemsterlaw38.ReportFits", spec := "reportFits", inPlace := ["internal/bytealg.CountString", "internal/bytealg.IndexByteString", "internal/bytealg.IndexString"], unfollowed := true, recurses := true, named := ["unicode/utf8.first", "unicode/utf8.acceptRanges", "internal/bytealg.MaxLen", "deemster/event.words", "math/bits.deBruijn64tab", "math/bits.deBruijn32tab"], apart := false, laid := [("unicode/utf8.first", laid_unicode_utf8_first), ("unicode/utf8.acceptRanges", laid_unicode_utf8_acceptRanges), ("deemster/event.words", laid_deemster_event_words), ("math/bits.deBruijn64tab", laid_math_bits_deBruijn64tab), ("math/bits.deBruijn32tab", laid_math_bits_deBruijn32tab)] }
def ReportFitsSaid : Prop := reportFitsRow.holds Tryz.pinned (OpenSpec.ofChange reportFitsSpec)

/-- ITS FALSE NEIGHBOUR: 'it returns false'. Refute it at one input. -/
def reportFitsWrong : ChangeSpec := { name := "reportFits", fn := fun _ => fun
  | [d1, d2] => { results := [.lit (.bool false)], args := [d1, d2] }
  | _ => none }
def ReportFitsWrongFalsely : Prop := reportFitsRow.holds Tryz.pinned (OpenSpec.ofChange reportFitsWrong)

/-- 'deemsterlaw38.ReportMays': WHATEVER THE INPUT: true; the input reads as it did. -/
def reportMaysSpec : ChangeSpec := { name := "reportMays", fn := fun _ => fun
  | [d1, d2] => { results := [.lit (.bool true)], args := [d1, d2] }
  | _ => none }
def reportMaysRow : OpenClaim := { program := "ytmgjomaipafjkaagreatdoor", sum := "2d9886e1db54cf0e909cc7d0bf17000858531301b4b75d9dba67a580a0d01950", func := "deemster/deemsterlaw38.ReportMays", spec := "reportMays", inPlace := ["internal/bytealg.CountString", "internal/bytealg.IndexByteString", "internal/bytealg.IndexString"], unfollowed := true, recurses := true, named := ["unicode/utf8.first", "unicode/utf8.acceptRanges", "internal/bytealg.MaxLen", "deemster/event.words", "math/bits.deBruijn64tab", "math/bits.deBruijn32tab"], apart := false, laid := [("unicode/utf8.first", laid_unicode_utf8_first), ("unicode/utf8.acceptRanges", laid_unicode_utf8_acceptRanges), ("deemster/event.words", laid_deemster_event_words), ("math/bits.deBruijn64tab", laid_math_bits_deBruijn64tab), ("math/bits.deBruijn32tab", laid_math_bits_deBruijn32tab)] }
def ReportMaysSaid : Prop := reportMaysRow.holds Tryz.pinned (OpenSpec.ofChange reportMaysSpec)

/-- ITS FALSE NEIGHBOUR: 'it returns false'. Refute it at one input. -/
def reportMaysWrong : ChangeSpec := { name := "reportMays", fn := fun _ => fun
  | [d1, d2] => { results := [.lit (.bool false)], args := [d1, d2] }
  | _ => none }
def ReportMaysWrongFalsely : Prop := reportMaysRow.holds Tryz.pinned (OpenSpec.ofChange reportMaysWrong)

/-- 'deemsterlaw39.TextPrints': WHATEVER THE INPUT: true; the input reads as it did. -/
def textPrintsSpec : ChangeSpec := { name := "textPrints", fn := fun _ => fun
  | [d] => { results := [.lit (.bool true)], args := [d] }
  | _ => none }
def textPrintsRow : OpenClaim := { program := "ytmgjomaipafjkaagreatdoor", sum := "2d9886e1db54cf0e909cc7d0bf17000858531301b4b75d9dba67a580a0d01950", func := "deemster/deemsterlaw39.TextPrints", spec := "textPrints", inPlace := ["internal/abi.NoEscape", "internal/bytealg.MakeNoZero", "internal/bytealg.CountString", "internal/bytealg.IndexByteString", "internal/bytealg.IndexString"], unfollowed := true, recurses := true, named := ["unicode/utf8.first", "unicode/utf8.acceptRanges", "deemster/text.levels", "deemster/text.policies", "deemster/text.verdicts", "deemster/event.words", "internal/strconv.uint64pow10", "math/bits.deBruijn32tab", "math/bits.deBruijn64tab", "internal/bytealg.MaxLen"], apart := false, laid := [("unicode/utf8.first", laid_unicode_utf8_first), ("unicode/utf8.acceptRanges", laid_unicode_utf8_acceptRanges), ("deemster/text.levels", laid_deemster_text_levels), ("deemster/text.policies", laid_deemster_text_policies), ("deemster/text.verdicts", laid_deemster_text_verdicts), ("deemster/event.words", laid_deemster_event_words), ("internal/strconv.uint64pow10", laid_internal_strconv_uint64pow10), ("math/bits.deBruijn32tab", laid_math_bits_deBruijn32tab), ("math/bits.deBruijn64tab", laid_math_bits_deBruijn64tab)] }
def TextPrintsSaid : Prop := textPrintsRow.holds Tryz.pinned (OpenSpec.ofChange textPrintsSpec)

/-- ITS FALSE NEIGHBOUR: 'it returns false'. Refute it at one input. -/
def textPrintsWrong : ChangeSpec := { name := "textPrints", fn := fun _ => fun
  | [d] => { results := [.lit (.bool false)], args := [d] }
  | _ => none }
def TextPrintsWrongFalsely : Prop := textPrintsRow.holds Tryz.pinned (OpenSpec.ofChange textPrintsWrong)

/-- 'deemsterlaw39.TextWords': WHATEVER THE INPUT: true; the input reads as it did. -/
def textWordsSpec : ChangeSpec := { name := "textWords", fn := fun _ => fun
  | [d] => { results := [.lit (.bool true)], args := [d] }
  | _ => none }
def textWordsRow : OpenClaim := { program := "ytmgjomaipafjkaagreatdoor", sum := "2d9886e1db54cf0e909cc7d0bf17000858531301b4b75d9dba67a580a0d01950", func := "deemster/deemsterlaw39.TextWords", spec := "textWords", inPlace := ["internal/bytealg.CountString", "internal/bytealg.IndexByteString", "internal/bytealg.IndexString", "internal/abi.NoEscape", "internal/bytealg.MakeNoZero"], unfollowed := true, recurses := true, named := ["deemster/text.levels", "deemster/text.policies", "deemster/text.verdicts", "unicode/utf8.first", "unicode/utf8.acceptRanges", "internal/bytealg.MaxLen", "deemster/event.words", "math/bits.deBruijn64tab", "math/bits.deBruijn32tab", "internal/strconv.uint64pow10"], apart := false, laid := [("deemster/text.levels", laid_deemster_text_levels), ("deemster/text.policies", laid_deemster_text_policies), ("deemster/text.verdicts", laid_deemster_text_verdicts), ("unicode/utf8.first", laid_unicode_utf8_first), ("unicode/utf8.acceptRanges", laid_unicode_utf8_acceptRanges), ("deemster/event.words", laid_deemster_event_words), ("math/bits.deBruijn64tab", laid_math_bits_deBruijn64tab), ("math/bits.deBruijn32tab", laid_math_bits_deBruijn32tab), ("internal/strconv.uint64pow10", laid_internal_strconv_uint64pow10)] }
def TextWordsSaid : Prop := textWordsRow.holds Tryz.pinned (OpenSpec.ofChange textWordsSpec)

/-- ITS FALSE NEIGHBOUR: 'it returns false'. Refute it at one input. -/
def textWordsWrong : ChangeSpec := { name := "textWords", fn := fun _ => fun
  | [d] => { results := [.lit (.bool false)], args := [d] }
  | _ => none }
def TextWordsWrongFalsely : Prop := textWordsRow.holds Tryz.pinned (OpenSpec.ofChange textWordsWrong)

/-- 'deemsterlaw39.TextApart': WHATEVER THE INPUT: true; the input reads as it did. -/
def textApartSpec : ChangeSpec := { name := "textApart", fn := fun _ => fun
  | [d1, d2] => { results := [.lit (.bool true)], args := [d1, d2] }
  | _ => none }
def textApartRow : OpenClaim := { program := "ytmgjomaipafjkaagreatdoor", sum := "2d9886e1db54cf0e909cc7d0bf17000858531301b4b75d9dba67a580a0d01950", func := "deemster/deemsterlaw39.TextApart", spec := "textApart", inPlace := ["internal/bytealg.CountString", "internal/bytealg.IndexByteString", "internal/bytealg.IndexString", "internal/abi.NoEscape", "internal/bytealg.MakeNoZero"], unfollowed := true, recurses := true, named := ["unicode/utf8.first", "unicode/utf8.acceptRanges", "internal/bytealg.MaxLen", "deemster/event.words", "math/bits.deBruijn64tab", "math/bits.deBruijn32tab", "deemster/text.levels", "deemster/text.policies", "deemster/text.verdicts", "internal/strconv.uint64pow10"], apart := false, laid := [("unicode/utf8.first", laid_unicode_utf8_first), ("unicode/utf8.acceptRanges", laid_unicode_utf8_acceptRanges), ("deemster/event.words", laid_deemster_event_words), ("math/bits.deBruijn64tab", laid_math_bits_deBruijn64tab), ("math/bits.deBruijn32tab", laid_math_bits_deBruijn32tab), ("deemster/text.levels", laid_deemster_text_levels), ("deemster/text.policies", laid_deemster_text_policies), ("deemster/text.verdicts", laid_deemster_text_verdicts), ("internal/strconv.uint64pow10", laid_internal_strconv_uint64pow10)] }
def TextApartSaid : Prop := textApartRow.holds Tryz.pinned (OpenSpec.ofChange textApartSpec)

/-- ITS FALSE NEIGHBOUR: 'it returns false'. Refute it at one input. -/
def textApartWrong : ChangeSpec := { name := "textApart", fn := fun _ => fun
  | [d1, d2] => { results := [.lit (.bool false)], args := [d1, d2] }
  | _ => none }
def TextApartWrongFalsely : Prop := textApartRow.holds Tryz.pinned (OpenSpec.ofChange textApartWrong)

/-- 'deemsterlaw40.BackParses': WHATEVER THE INPUT: true; the input reads as it did. -/
def backParsesSpec : ChangeSpec := { name := "backParses", fn := fun _ => fun
  | [d] => { results := [.lit (.bool true)], args := [d] }
  | _ => none }
def backParsesRow : OpenClaim := { program := "ytmgjomaipafjkaagreatdoor", sum := "2d9886e1db54cf0e909cc7d0bf17000858531301b4b75d9dba67a580a0d01950", func := "deemster/deemsterlaw40.BackParses", spec := "backParses", inPlace := ["internal/bytealg.CountString", "internal/bytealg.IndexByteString", "internal/bytealg.IndexString", "internal/abi.NoEscape", "internal/bytealg.MakeNoZero"], unfollowed := true, recurses := true, named := ["unicode/utf8.first", "unicode/utf8.acceptRanges", "internal/bytealg.MaxLen", "deemster/text.levels", "deemster/text.policies", "deemster/text.verdicts", "deemster/event.words", "internal/strconv.uint64pow10", "math/bits.deBruijn32tab", "math/bits.deBruijn64tab"], apart := false, laid := [("unicode/utf8.first", laid_unicode_utf8_first), ("unicode/utf8.acceptRanges", laid_unicode_utf8_acceptRanges), ("deemster/text.levels", laid_deemster_text_levels), ("deemster/text.policies", laid_deemster_text_policies), ("deemster/text.verdicts", laid_deemster_text_verdicts), ("deemster/event.words", laid_deemster_event_words), ("internal/strconv.uint64pow10", laid_internal_strconv_uint64pow10), ("math/bits.deBruijn32tab", laid_math_bits_deBruijn32tab), ("math/bits.deBruijn64tab", laid_math_bits_deBruijn64tab)] }
def BackParsesSaid : Prop := backParsesRow.holds Tryz.pinned (OpenSpec.ofChange backParsesSpec)

/-- ITS FALSE NEIGHBOUR: 'it returns false'. Refute it at one input. -/
def backParsesWrong : ChangeSpec := { name := "backParses", fn := fun _ => fun
  | [d] => { results := [.lit (.bool false)], args := [d] }
  | _ => none }
def BackParsesWrongFalsely : Prop := backParsesRow.holds Tryz.pinned (OpenSpec.ofChange backParsesWrong)

/-- 'deemsterlaw40.BackReasons': WHATEVER THE INPUT: true; the input reads as it did. -/
def backReasonsSpec : ChangeSpec := { name := "backReasons", fn := fun _ => fun
  | [d1, d2] => { results := [.lit (.bool true)], args := [d1, d2] }
  | _ => none }
def backReasonsRow : OpenClaim := { program := "ytmgjomaipafjkaagreatdoor", sum := "2d9886e1db54cf0e909cc7d0bf17000858531301b4b75d9dba67a580a0d01950", func := "deemster/deemsterlaw40.BackReasons", spec := "backReasons", inPlace := ["internal/bytealg.CountString", "internal/bytealg.IndexByteString", "internal/bytealg.IndexString", "internal/abi.NoEscape", "internal/bytealg.MakeNoZero"], unfollowed := true, recurses := true, named := ["unicode/utf8.first", "unicode/utf8.acceptRanges", "internal/bytealg.MaxLen", "internal/strconv.uint64pow10", "math/bits.deBruijn32tab", "math/bits.deBruijn64tab", "deemster/event.words", "deemster/text.levels", "deemster/text.policies", "deemster/text.verdicts"], apart := false, laid := [("unicode/utf8.first", laid_unicode_utf8_first), ("unicode/utf8.acceptRanges", laid_unicode_utf8_acceptRanges), ("internal/strconv.uint64pow10", laid_internal_strconv_uint64pow10), ("math/bits.deBruijn32tab", laid_math_bits_deBruijn32tab), ("math/bits.deBruijn64tab", laid_math_bits_deBruijn64tab), ("deemster/event.words", laid_deemster_event_words), ("deemster/text.levels", laid_deemster_text_levels), ("deemster/text.policies", laid_deemster_text_policies), ("deemster/text.verdicts", laid_deemster_text_verdicts)] }
def BackReasonsSaid : Prop := backReasonsRow.holds Tryz.pinned (OpenSpec.ofChange backReasonsSpec)

/-- ITS FALSE NEIGHBOUR: 'it returns false'. Refute it at one input. -/
def backReasonsWrong : ChangeSpec := { name := "backReasons", fn := fun _ => fun
  | [d1, d2] => { results := [.lit (.bool false)], args := [d1, d2] }
  | _ => none }
def BackReasonsWrongFalsely : Prop := backReasonsRow.holds Tryz.pinned (OpenSpec.ofChange backReasonsWrong)

/-- 'deemsterlaw44.DeskNone': WHATEVER THE INPUT: true; the input reads as it did. -/
def deskNoneSpec : ChangeSpec := { name := "deskNone", fn := fun _ => fun
  | [d1, d2] => { results := [.lit (.bool true)], args := [d1, d2] }
  | _ => none }
def deskNoneRow : OpenClaim := { program := "ytmgjomaipafjkaagreatdoor", sum := "2d9886e1db54cf0e909cc7d0bf17000858531301b4b75d9dba67a580a0d01950", func := "deemster/deemsterlaw44.DeskNone", spec := "deskNone", inPlace := ["internal/bytealg.CountString", "internal/bytealg.IndexByteString", "internal/bytealg.IndexString", "internal/abi.NoEscape", "internal/bytealg.MakeNoZero"], unfollowed := true, recurses := true, named := ["deemster/text.levels", "deemster/text.policies", "unicode/utf8.first", "unicode/utf8.acceptRanges", "internal/bytealg.MaxLen", "deemster/event.words", "math/bits.deBruijn64tab", "math/bits.deBruijn32tab", "deemster/text.verdicts", "internal/strconv.uint64pow10", "deemster/script.firsts"], apart := false, laid := [("deemster/text.levels", laid_deemster_text_levels), ("deemster/text.policies", laid_deemster_text_policies), ("unicode/utf8.first", laid_unicode_utf8_first), ("unicode/utf8.acceptRanges", laid_unicode_utf8_acceptRanges), ("deemster/event.words", laid_deemster_event_words), ("math/bits.deBruijn64tab", laid_math_bits_deBruijn64tab), ("math/bits.deBruijn32tab", laid_math_bits_deBruijn32tab), ("deemster/text.verdicts", laid_deemster_text_verdicts), ("internal/strconv.uint64pow10", laid_internal_strconv_uint64pow10), ("deemster/script.firsts", laid_deemster_script_firsts)] }
def DeskNoneSaid : Prop := deskNoneRow.holds Tryz.pinned (OpenSpec.ofChange deskNoneSpec)

/-- ITS FALSE NEIGHBOUR: 'it returns false'. Refute it at one input. -/
def deskNoneWrong : ChangeSpec := { name := "deskNone", fn := fun _ => fun
  | [d1, d2] => { results := [.lit (.bool false)], args := [d1, d2] }
  | _ => none }
def DeskNoneWrongFalsely : Prop := deskNoneRow.holds Tryz.pinned (OpenSpec.ofChange deskNoneWrong)

/- THE SECOND FORM. 'bulk': how many values and letters a reading holds, each counted each time it is reached (what is shared counts as often as it is met; a slice's spare places count too). A statement '..UptoSaid' is the law's where the arguments, and the package variables that the reading takes, are together of bulk at most 1048576: NARROWER than '..Said'. Prove '..Said' where nothing that the law and all that it calls make is longer than what came in: it says more and counts as full. Else prove '..UptoSaid'. A law counts once. -/
mutual
def uptoBulk {H : Type} : DataW H → Nat
  | .lit (.string bytes) => bytes.length + 1
  | .lit _ => 1
  | .nil => 1
  | .ptr d => uptoBulk d + 1
  | .slice elems spare => uptoBulkAll elems + uptoBulkAll spare + 1
  | .agg parts => uptoBulkAll parts + 1
  | .iface _ d => uptoBulk d + 1
  | .map entries => uptoBulkEntries entries + 1
  | .held _ => 1
def uptoBulkAll {H : Type} : List (DataW H) → Nat
  | [] => 0
  | d :: r => uptoBulk d + uptoBulkAll r
def uptoBulkEntries {H : Type} : List (Lit × DataW H) → Nat
  | [] => 0
  | x :: r => uptoBulkEntry x + uptoBulkEntries r
def uptoBulkEntry {H : Type} : Lit × DataW H → Nat
  | (.string bytes, d) => bytes.length + uptoBulk d + 1
  | (_, d) => uptoBulk d + 1
 end
def uptoSmall : (H : Type) → List (DataW H) → Bool := fun _ ds => decide (uptoBulkAll ds ≤ 1048576)
def OpenSpec.upto (s : _root_.Go.ChangeSpec) : _root_.Go.OpenSpec := { _root_.Go.OpenSpec.ofChange s with cond := some uptoSmall }

/-- 'deemsterlaw35.SearchSkips', WHERE WHAT IT READS IS OF BULK AT MOST 1048576: true; the input reads as it did. -/
def searchSkipsUptoRow : OpenClaim := { program := "ytmgjomaipafjkaagreatdoor", sum := "2d9886e1db54cf0e909cc7d0bf17000858531301b4b75d9dba67a580a0d01950", func := "deemster/deemsterlaw35.SearchSkips", spec := "searchSkips", inPlace := ["internal/bytealg.CountString", "internal/bytealg.IndexByteString", "internal/bytealg.IndexString"], unfollowed := true, recurses := true, named := ["unicode/utf8.first", "unicode/utf8.acceptRanges", "internal/bytealg.MaxLen", "deemster/event.words", "math/bits.deBruijn64tab", "math/bits.deBruijn32tab"], apart := false, laid := [("unicode/utf8.first", laid_unicode_utf8_first), ("unicode/utf8.acceptRanges", laid_unicode_utf8_acceptRanges), ("deemster/event.words", laid_deemster_event_words), ("math/bits.deBruijn64tab", laid_math_bits_deBruijn64tab), ("math/bits.deBruijn32tab", laid_math_bits_deBruijn32tab)], narrowed := true }
def SearchSkipsUptoSaid : Prop := searchSkipsUptoRow.holds Tryz.pinned (OpenSpec.upto searchSkipsSpec)

/-- 'deemsterlaw36.ForcedOf', WHERE WHAT IT READS IS OF BULK AT MOST 1048576: true; the input reads as it did. -/
def forcedOfUptoRow : OpenClaim := { program := "ytmgjomaipafjkaagreatdoor", sum := "2d9886e1db54cf0e909cc7d0bf17000858531301b4b75d9dba67a580a0d01950", func := "deemster/deemsterlaw36.ForcedOf", spec := "forcedOf", inPlace := ["internal/bytealg.CountString", "internal/bytealg.IndexByteString", "internal/bytealg.IndexString"], unfollowed := true, recurses := true, named := ["unicode/utf8.first", "unicode/utf8.acceptRanges", "internal/bytealg.MaxLen", "deemster/event.words", "math/bits.deBruijn64tab", "math/bits.deBruijn32tab"], apart := false, laid := [("unicode/utf8.first", laid_unicode_utf8_first), ("unicode/utf8.acceptRanges", laid_unicode_utf8_acceptRanges), ("deemster/event.words", laid_deemster_event_words), ("math/bits.deBruijn64tab", laid_math_bits_deBruijn64tab), ("math/bits.deBruijn32tab", laid_math_bits_deBruijn32tab)], narrowed := true }
def ForcedOfUptoSaid : Prop := forcedOfUptoRow.holds Tryz.pinned (OpenSpec.upto forcedOfSpec)

/-- 'deemsterlaw42.CheckWrong', WHERE WHAT IT READS IS OF BULK AT MOST 1048576: true; the input reads as it did. -/
def checkWrongUptoRow : OpenClaim := { program := "ytmgjomaipafjkaagreatdoor", sum := "2d9886e1db54cf0e909cc7d0bf17000858531301b4b75d9dba67a580a0d01950", func := "deemster/deemsterlaw42.CheckWrong", spec := "checkWrong", inPlace := ["internal/bytealg.CountString", "internal/bytealg.IndexByteString", "internal/bytealg.IndexString"], unfollowed := true, recurses := true, named := ["unicode/utf8.first", "unicode/utf8.acceptRanges", "internal/bytealg.MaxLen", "deemster/event.words", "math/bits.deBruijn64tab", "math/bits.deBruijn32tab"], apart := false, laid := [("unicode/utf8.first", laid_unicode_utf8_first), ("unicode/utf8.acceptRanges", laid_unicode_utf8_acceptRanges), ("deemster/event.words", laid_deemster_event_words), ("math/bits.deBruijn64tab", laid_math_bits_deBruijn64tab), ("math/bits.deBruijn32tab", laid_math_bits_deBruijn32tab)], narrowed := true }
def CheckWrongUptoSaid : Prop := checkWrongUptoRow.holds Tryz.pinned (OpenSpec.upto checkWrongSpec)

/-- 'deemsterlaw42.CheckFirst', WHERE WHAT IT READS IS OF BULK AT MOST 1048576: true; the input reads as it did. -/
def checkFirstUptoRow : OpenClaim := { program := "ytmgjomaipafjkaagreatdoor", sum := "2d9886e1db54cf0e909cc7d0bf17000858531301b4b75d9dba67a580a0d01950", func := "deemster/deemsterlaw42.CheckFirst", spec := "checkFirst", inPlace := ["internal/bytealg.CountString", "internal/bytealg.IndexByteString", "internal/bytealg.IndexString"], unfollowed := true, recurses := true, named := ["unicode/utf8.first", "unicode/utf8.acceptRanges", "internal/bytealg.MaxLen", "deemster/event.words", "math/bits.deBruijn64tab", "math/bits.deBruijn32tab"], apart := false, laid := [("unicode/utf8.first", laid_unicode_utf8_first), ("unicode/utf8.acceptRanges", laid_unicode_utf8_acceptRanges), ("deemster/event.words", laid_deemster_event_words), ("math/bits.deBruijn64tab", laid_math_bits_deBruijn64tab), ("math/bits.deBruijn32tab", laid_math_bits_deBruijn32tab)], narrowed := true }
def CheckFirstUptoSaid : Prop := checkFirstUptoRow.holds Tryz.pinned (OpenSpec.upto checkFirstSpec)

/-- 'deemsterlaw38.ReportFits', WHERE WHAT IT READS IS OF BULK AT MOST 1048576: true; the input reads as it did. -/
def reportFitsUptoRow : OpenClaim := { program := "ytmgjomaipafjkaagreatdoor", sum := "2d9886e1db54cf0e909cc7d0bf17000858531301b4b75d9dba67a580a0d01950", func := "deemster/deemsterlaw38.ReportFits", spec := "reportFits", inPlace := ["internal/bytealg.CountString", "internal/bytealg.IndexByteString", "internal/bytealg.IndexString"], unfollowed := true, recurses := true, named := ["unicode/utf8.first", "unicode/utf8.acceptRanges", "internal/bytealg.MaxLen", "deemster/event.words", "math/bits.deBruijn64tab", "math/bits.deBruijn32tab"], apart := false, laid := [("unicode/utf8.first", laid_unicode_utf8_first), ("unicode/utf8.acceptRanges", laid_unicode_utf8_acceptRanges), ("deemster/event.words", laid_deemster_event_words), ("math/bits.deBruijn64tab", laid_math_bits_deBruijn64tab), ("math/bits.deBruijn32tab", laid_math_bits_deBruijn32tab)], narrowed := true }
def ReportFitsUptoSaid : Prop := reportFitsUptoRow.holds Tryz.pinned (OpenSpec.upto reportFitsSpec)

/-- 'deemsterlaw38.ReportMays', WHERE WHAT IT READS IS OF BULK AT MOST 1048576: true; the input reads as it did. -/
def reportMaysUptoRow : OpenClaim := { program := "ytmgjomaipafjkaagreatdoor", sum := "2d9886e1db54cf0e909cc7d0bf17000858531301b4b75d9dba67a580a0d01950", func := "deemster/deemsterlaw38.ReportMays", spec := "reportMays", inPlace := ["internal/bytealg.CountString", "internal/bytealg.IndexByteString", "internal/bytealg.IndexString"], unfollowed := true, recurses := true, named := ["unicode/utf8.first", "unicode/utf8.acceptRanges", "internal/bytealg.MaxLen", "deemster/event.words", "math/bits.deBruijn64tab", "math/bits.deBruijn32tab"], apart := false, laid := [("unicode/utf8.first", laid_unicode_utf8_first), ("unicode/utf8.acceptRanges", laid_unicode_utf8_acceptRanges), ("deemster/event.words", laid_deemster_event_words), ("math/bits.deBruijn64tab", laid_math_bits_deBruijn64tab), ("math/bits.deBruijn32tab", laid_math_bits_deBruijn32tab)], narrowed := true }
def ReportMaysUptoSaid : Prop := reportMaysUptoRow.holds Tryz.pinned (OpenSpec.upto reportMaysSpec)

/-- 'deemsterlaw39.TextPrints', WHERE WHAT IT READS IS OF BULK AT MOST 1048576: true; the input reads as it did. -/
def textPrintsUptoRow : OpenClaim := { program := "ytmgjomaipafjkaagreatdoor", sum := "2d9886e1db54cf0e909cc7d0bf17000858531301b4b75d9dba67a580a0d01950", func := "deemster/deemsterlaw39.TextPrints", spec := "textPrints", inPlace := ["internal/abi.NoEscape", "internal/bytealg.MakeNoZero", "internal/bytealg.CountString", "internal/bytealg.IndexByteString", "internal/bytealg.IndexString"], unfollowed := true, recurses := true, named := ["unicode/utf8.first", "unicode/utf8.acceptRanges", "deemster/text.levels", "deemster/text.policies", "deemster/text.verdicts", "deemster/event.words", "internal/strconv.uint64pow10", "math/bits.deBruijn32tab", "math/bits.deBruijn64tab", "internal/bytealg.MaxLen"], apart := false, laid := [("unicode/utf8.first", laid_unicode_utf8_first), ("unicode/utf8.acceptRanges", laid_unicode_utf8_acceptRanges), ("deemster/text.levels", laid_deemster_text_levels), ("deemster/text.policies", laid_deemster_text_policies), ("deemster/text.verdicts", laid_deemster_text_verdicts), ("deemster/event.words", laid_deemster_event_words), ("internal/strconv.uint64pow10", laid_internal_strconv_uint64pow10), ("math/bits.deBruijn32tab", laid_math_bits_deBruijn32tab), ("math/bits.deBruijn64tab", laid_math_bits_deBruijn64tab)], narrowed := true }
def TextPrintsUptoSaid : Prop := textPrintsUptoRow.holds Tryz.pinned (OpenSpec.upto textPrintsSpec)

/-- 'deemsterlaw39.TextWords', WHERE WHAT IT READS IS OF BULK AT MOST 1048576: true; the input reads as it did. -/
def textWordsUptoRow : OpenClaim := { program := "ytmgjomaipafjkaagreatdoor", sum := "2d9886e1db54cf0e909cc7d0bf17000858531301b4b75d9dba67a580a0d01950", func := "deemster/deemsterlaw39.TextWords", spec := "textWords", inPlace := ["internal/bytealg.CountString", "internal/bytealg.IndexByteString", "internal/bytealg.IndexString", "internal/abi.NoEscape", "internal/bytealg.MakeNoZero"], unfollowed := true, recurses := true, named := ["deemster/text.levels", "deemster/text.policies", "deemster/text.verdicts", "unicode/utf8.first", "unicode/utf8.acceptRanges", "internal/bytealg.MaxLen", "deemster/event.words", "math/bits.deBruijn64tab", "math/bits.deBruijn32tab", "internal/strconv.uint64pow10"], apart := false, laid := [("deemster/text.levels", laid_deemster_text_levels), ("deemster/text.policies", laid_deemster_text_policies), ("deemster/text.verdicts", laid_deemster_text_verdicts), ("unicode/utf8.first", laid_unicode_utf8_first), ("unicode/utf8.acceptRanges", laid_unicode_utf8_acceptRanges), ("deemster/event.words", laid_deemster_event_words), ("math/bits.deBruijn64tab", laid_math_bits_deBruijn64tab), ("math/bits.deBruijn32tab", laid_math_bits_deBruijn32tab), ("internal/strconv.uint64pow10", laid_internal_strconv_uint64pow10)], narrowed := true }
def TextWordsUptoSaid : Prop := textWordsUptoRow.holds Tryz.pinned (OpenSpec.upto textWordsSpec)

/-- 'deemsterlaw39.TextApart', WHERE WHAT IT READS IS OF BULK AT MOST 1048576: true; the input reads as it did. -/
def textApartUptoRow : OpenClaim := { program := "ytmgjomaipafjkaagreatdoor", sum := "2d9886e1db54cf0e909cc7d0bf17000858531301b4b75d9dba67a580a0d01950", func := "deemster/deemsterlaw39.TextApart", spec := "textApart", inPlace := ["internal/bytealg.CountString", "internal/bytealg.IndexByteString", "internal/bytealg.IndexString", "internal/abi.NoEscape", "internal/bytealg.MakeNoZero"], unfollowed := true, recurses := true, named := ["unicode/utf8.first", "unicode/utf8.acceptRanges", "internal/bytealg.MaxLen", "deemster/event.words", "math/bits.deBruijn64tab", "math/bits.deBruijn32tab", "deemster/text.levels", "deemster/text.policies", "deemster/text.verdicts", "internal/strconv.uint64pow10"], apart := false, laid := [("unicode/utf8.first", laid_unicode_utf8_first), ("unicode/utf8.acceptRanges", laid_unicode_utf8_acceptRanges), ("deemster/event.words", laid_deemster_event_words), ("math/bits.deBruijn64tab", laid_math_bits_deBruijn64tab), ("math/bits.deBruijn32tab", laid_math_bits_deBruijn32tab), ("deemster/text.levels", laid_deemster_text_levels), ("deemster/text.policies", laid_deemster_text_policies), ("deemster/text.verdicts", laid_deemster_text_verdicts), ("internal/strconv.uint64pow10", laid_internal_strconv_uint64pow10)], narrowed := true }
def TextApartUptoSaid : Prop := textApartUptoRow.holds Tryz.pinned (OpenSpec.upto textApartSpec)

/-- 'deemsterlaw40.BackParses', WHERE WHAT IT READS IS OF BULK AT MOST 1048576: true; the input reads as it did. -/
def backParsesUptoRow : OpenClaim := { program := "ytmgjomaipafjkaagreatdoor", sum := "2d9886e1db54cf0e909cc7d0bf17000858531301b4b75d9dba67a580a0d01950", func := "deemster/deemsterlaw40.BackParses", spec := "backParses", inPlace := ["internal/bytealg.CountString", "internal/bytealg.IndexByteString", "internal/bytealg.IndexString", "internal/abi.NoEscape", "internal/bytealg.MakeNoZero"], unfollowed := true, recurses := true, named := ["unicode/utf8.first", "unicode/utf8.acceptRanges", "internal/bytealg.MaxLen", "deemster/text.levels", "deemster/text.policies", "deemster/text.verdicts", "deemster/event.words", "internal/strconv.uint64pow10", "math/bits.deBruijn32tab", "math/bits.deBruijn64tab"], apart := false, laid := [("unicode/utf8.first", laid_unicode_utf8_first), ("unicode/utf8.acceptRanges", laid_unicode_utf8_acceptRanges), ("deemster/text.levels", laid_deemster_text_levels), ("deemster/text.policies", laid_deemster_text_policies), ("deemster/text.verdicts", laid_deemster_text_verdicts), ("deemster/event.words", laid_deemster_event_words), ("internal/strconv.uint64pow10", laid_internal_strconv_uint64pow10), ("math/bits.deBruijn32tab", laid_math_bits_deBruijn32tab), ("math/bits.deBruijn64tab", laid_math_bits_deBruijn64tab)], narrowed := true }
def BackParsesUptoSaid : Prop := backParsesUptoRow.holds Tryz.pinned (OpenSpec.upto backParsesSpec)

/-- 'deemsterlaw40.BackReasons', WHERE WHAT IT READS IS OF BULK AT MOST 1048576: true; the input reads as it did. -/
def backReasonsUptoRow : OpenClaim := { program := "ytmgjomaipafjkaagreatdoor", sum := "2d9886e1db54cf0e909cc7d0bf17000858531301b4b75d9dba67a580a0d01950", func := "deemster/deemsterlaw40.BackReasons", spec := "backReasons", inPlace := ["internal/bytealg.CountString", "internal/bytealg.IndexByteString", "internal/bytealg.IndexString", "internal/abi.NoEscape", "internal/bytealg.MakeNoZero"], unfollowed := true, recurses := true, named := ["unicode/utf8.first", "unicode/utf8.acceptRanges", "internal/bytealg.MaxLen", "internal/strconv.uint64pow10", "math/bits.deBruijn32tab", "math/bits.deBruijn64tab", "deemster/event.words", "deemster/text.levels", "deemster/text.policies", "deemster/text.verdicts"], apart := false, laid := [("unicode/utf8.first", laid_unicode_utf8_first), ("unicode/utf8.acceptRanges", laid_unicode_utf8_acceptRanges), ("internal/strconv.uint64pow10", laid_internal_strconv_uint64pow10), ("math/bits.deBruijn32tab", laid_math_bits_deBruijn32tab), ("math/bits.deBruijn64tab", laid_math_bits_deBruijn64tab), ("deemster/event.words", laid_deemster_event_words), ("deemster/text.levels", laid_deemster_text_levels), ("deemster/text.policies", laid_deemster_text_policies), ("deemster/text.verdicts", laid_deemster_text_verdicts)], narrowed := true }
def BackReasonsUptoSaid : Prop := backReasonsUptoRow.holds Tryz.pinned (OpenSpec.upto backReasonsSpec)

/-- 'deemsterlaw44.DeskNone', WHERE WHAT IT READS IS OF BULK AT MOST 1048576: true; the input reads as it did. -/
def deskNoneUptoRow : OpenClaim := { program := "ytmgjomaipafjkaagreatdoor", sum := "2d9886e1db54cf0e909cc7d0bf17000858531301b4b75d9dba67a580a0d01950", func := "deemster/deemsterlaw44.DeskNone", spec := "deskNone", inPlace := ["internal/bytealg.CountString", "internal/bytealg.IndexByteString", "internal/bytealg.IndexString", "internal/abi.NoEscape", "internal/bytealg.MakeNoZero"], unfollowed := true, recurses := true, named := ["deemster/text.levels", "deemster/text.policies", "unicode/utf8.first", "unicode/utf8.acceptRanges", "internal/bytealg.MaxLen", "deemster/event.words", "math/bits.deBruijn64tab", "math/bits.deBruijn32tab", "deemster/text.verdicts", "internal/strconv.uint64pow10", "deemster/script.firsts"], apart := false, laid := [("deemster/text.levels", laid_deemster_text_levels), ("deemster/text.policies", laid_deemster_text_policies), ("unicode/utf8.first", laid_unicode_utf8_first), ("unicode/utf8.acceptRanges", laid_unicode_utf8_acceptRanges), ("deemster/event.words", laid_deemster_event_words), ("math/bits.deBruijn64tab", laid_math_bits_deBruijn64tab), ("math/bits.deBruijn32tab", laid_math_bits_deBruijn32tab), ("deemster/text.verdicts", laid_deemster_text_verdicts), ("internal/strconv.uint64pow10", laid_internal_strconv_uint64pow10), ("deemster/script.firsts", laid_deemster_script_firsts)], narrowed := true }
def DeskNoneUptoSaid : Prop := deskNoneUptoRow.holds Tryz.pinned (OpenSpec.upto deskNoneSpec)

end Rows
end Go.Proofs.YtmgjomaipafjkaaGreatDoor
