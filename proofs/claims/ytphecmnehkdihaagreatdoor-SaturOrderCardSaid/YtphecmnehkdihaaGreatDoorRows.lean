/-
  NARROWER THAN 'FOR EVERY INPUT', by the rows' own cells (each row's printed sentence says how): CertChecks: laid · CertSound: laid · CertLevels: laid · AxiomHolds: laid · AxiomLevels: laid · AxiomSeen: laid · FrontOrders: laid · FrontMay: laid · FrontHolds: laid · SaturEdges: laid · SaturOrder: laid · SaturHolds: laid.
  DERIVED. THE GIVEN ROWS OF THIS SEAT. 12 by the template 'for every input the law returns true; each argument reads behind the call as it read before'; 0 by the template 'total and deterministic' (their statements: YtphecmnehkdihaaGreatDoorTotals.lean).
  GIVEN WITH THE SEED: the statements are not yours to turn. If you find one false, say at which input.
  Laid BY PROGRAM, IN A SANDBOX (cutbox-rows.mjs): the forced cells as the released guide's own fill.sh prints them over the translation dbbcf998bdbf51f2… (all of the seat's roots in one cut). By AI agents, Wed Nov 11 2026. No macro, syntax, notation, axiom, sorry.
-/
import Derived.Test.YtphecmnehkdihaaGreatDoorChecked
import GoSem.PinnedTables
import GoSem.Claim
import GoSem.ClaimJoined
import GoSem.ClaimMapViews
import Derived.JoinedTies
import Derived.KernelRfl
namespace Go.Proofs.YtphecmnehkdihaaGreatDoor
/- THE CELL 'sum', in the pinned program and in every row, IS THE sha256 OF THE DUMP (.gsa) THAT YtphecmnehkdihaaGreatDoorProg.lean LOADS. Nothing in Lean hashes anything: it is a label: what it is worth is what the hold of that sum in a sandbox is worth. -/
noncomputable def Tryz.pinned : Pinned := { name := "ytphecmnehkdihaagreatdoor", sum := "dbbcf998bdbf51f2ca978982298f8d46f02f99cbcaf9ad7bfdd309a4b8c0a9ef", checked := Tryz.checked }
namespace Rows
def none {H : Type} : Left H := { results := [], args := [] }

/- WHAT THE LISTED PACKAGE-LEVEL VARIABLES READ AS WHEN THE CALL BEGINS. Each datum BY PROGRAM (the guide's laid-datum.mjs) off the statement by which the dump's own 'gosem.cut.vars' lays the variable. In a bare row this is a premise. The card (YtphecmnehkdihaaGreatDoorCards.lean) ties it to the program's text. -/
def laid_unicode_utf8_acceptRanges {H : Type} : DataW H := .agg [.agg [.lit (.int .u8 128), .lit (.int .u8 191)], .agg [.lit (.int .u8 160), .lit (.int .u8 191)], .agg [.lit (.int .u8 128), .lit (.int .u8 159)], .agg [.lit (.int .u8 144), .lit (.int .u8 191)], .agg [.lit (.int .u8 128), .lit (.int .u8 143)], .agg [.lit (.int .u8 0), .lit (.int .u8 0)], .agg [.lit (.int .u8 0), .lit (.int .u8 0)], .agg [.lit (.int .u8 0), .lit (.int .u8 0)], .agg [.lit (.int .u8 0), .lit (.int .u8 0)], .agg [.lit (.int .u8 0), .lit (.int .u8 0)], .agg [.lit (.int .u8 0), .lit (.int .u8 0)], .agg [.lit (.int .u8 0), .lit (.int .u8 0)], .agg [.lit (.int .u8 0), .lit (.int .u8 0)], .agg [.lit (.int .u8 0), .lit (.int .u8 0)], .agg [.lit (.int .u8 0), .lit (.int .u8 0)], .agg [.lit (.int .u8 0), .lit (.int .u8 0)]]
def laid_deemster_event_words {H : Type} : DataW H := .agg [.lit (.string []), .lit (.string [98, 101, 103, 105, 110]), .lit (.string [114, 101, 97, 100]), .lit (.string [119, 114, 105, 116, 101]), .lit (.string [111, 107]), .lit (.string [102, 97, 105, 108]), .lit (.string [105, 110, 102, 111])]
/-- One of Go's own tables, pinned by name: the form's constant. -/
def laid_unicode_utf8_first : DataW Unit := Go.Pinned.utf8First
def laid_math_bits_deBruijn64tab {H : Type} : DataW H := .agg [.lit (.int .u8 0), .lit (.int .u8 1), .lit (.int .u8 56), .lit (.int .u8 2), .lit (.int .u8 57), .lit (.int .u8 49), .lit (.int .u8 28), .lit (.int .u8 3), .lit (.int .u8 61), .lit (.int .u8 58), .lit (.int .u8 42), .lit (.int .u8 50), .lit (.int .u8 38), .lit (.int .u8 29), .lit (.int .u8 17), .lit (.int .u8 4), .lit (.int .u8 62), .lit (.int .u8 47), .lit (.int .u8 59), .lit (.int .u8 36), .lit (.int .u8 45), .lit (.int .u8 43), .lit (.int .u8 51), .lit (.int .u8 22), .lit (.int .u8 53), .lit (.int .u8 39), .lit (.int .u8 33), .lit (.int .u8 30), .lit (.int .u8 24), .lit (.int .u8 18), .lit (.int .u8 12), .lit (.int .u8 5), .lit (.int .u8 63), .lit (.int .u8 55), .lit (.int .u8 48), .lit (.int .u8 27), .lit (.int .u8 60), .lit (.int .u8 41), .lit (.int .u8 37), .lit (.int .u8 16), .lit (.int .u8 46), .lit (.int .u8 35), .lit (.int .u8 44), .lit (.int .u8 21), .lit (.int .u8 52), .lit (.int .u8 32), .lit (.int .u8 23), .lit (.int .u8 11), .lit (.int .u8 54), .lit (.int .u8 26), .lit (.int .u8 40), .lit (.int .u8 15), .lit (.int .u8 34), .lit (.int .u8 20), .lit (.int .u8 31), .lit (.int .u8 10), .lit (.int .u8 25), .lit (.int .u8 14), .lit (.int .u8 19), .lit (.int .u8 9), .lit (.int .u8 13), .lit (.int .u8 8), .lit (.int .u8 7), .lit (.int .u8 6)]

/-- 'deemsterlaw26.CertChecks': WHATEVER THE INPUT: true; the input reads as it did. -/
def certChecksSpec : ChangeSpec := { name := "certChecks", fn := fun _ => fun
  | [d1, d2, d3] => { results := [.lit (.bool true)], args := [d1, d2, d3] }
  | _ => none }
def certChecksRow : OpenClaim := { program := "ytphecmnehkdihaagreatdoor", sum := "dbbcf998bdbf51f2ca978982298f8d46f02f99cbcaf9ad7bfdd309a4b8c0a9ef", func := "deemster/deemsterlaw26.CertChecks", spec := "certChecks", inPlace := ["internal/bytealg.CountString", "internal/bytealg.IndexByteString", "internal/bytealg.IndexString"], unfollowed := true, recurses := true, named := ["unicode/utf8.first", "unicode/utf8.acceptRanges", "internal/bytealg.MaxLen", "deemster/event.words"], apart := false, laid := [("unicode/utf8.acceptRanges", laid_unicode_utf8_acceptRanges), ("deemster/event.words", laid_deemster_event_words), ("unicode/utf8.first", laid_unicode_utf8_first)] }
def CertChecksSaid : Prop := certChecksRow.holds Tryz.pinned (OpenSpec.ofChange certChecksSpec)

/-- ITS FALSE NEIGHBOUR: 'it returns false'. Refute it at one input. -/
def certChecksWrong : ChangeSpec := { name := "certChecks", fn := fun _ => fun
  | [d1, d2, d3] => { results := [.lit (.bool false)], args := [d1, d2, d3] }
  | _ => none }
def CertChecksWrongFalsely : Prop := certChecksRow.holds Tryz.pinned (OpenSpec.ofChange certChecksWrong)

/-- 'deemsterlaw26.CertSound': WHATEVER THE INPUT: true; the input reads as it did. -/
def certSoundSpec : ChangeSpec := { name := "certSound", fn := fun _ => fun
  | [d1, d2, d3] => { results := [.lit (.bool true)], args := [d1, d2, d3] }
  | _ => none }
def certSoundRow : OpenClaim := { program := "ytphecmnehkdihaagreatdoor", sum := "dbbcf998bdbf51f2ca978982298f8d46f02f99cbcaf9ad7bfdd309a4b8c0a9ef", func := "deemster/deemsterlaw26.CertSound", spec := "certSound", inPlace := ["internal/bytealg.CountString", "internal/bytealg.IndexByteString", "internal/bytealg.IndexString"], unfollowed := true, recurses := true, named := ["unicode/utf8.first", "unicode/utf8.acceptRanges", "internal/bytealg.MaxLen", "deemster/event.words"], apart := false, laid := [("unicode/utf8.acceptRanges", laid_unicode_utf8_acceptRanges), ("deemster/event.words", laid_deemster_event_words), ("unicode/utf8.first", laid_unicode_utf8_first)] }
def CertSoundSaid : Prop := certSoundRow.holds Tryz.pinned (OpenSpec.ofChange certSoundSpec)

/-- ITS FALSE NEIGHBOUR: 'it returns false'. Refute it at one input. -/
def certSoundWrong : ChangeSpec := { name := "certSound", fn := fun _ => fun
  | [d1, d2, d3] => { results := [.lit (.bool false)], args := [d1, d2, d3] }
  | _ => none }
def CertSoundWrongFalsely : Prop := certSoundRow.holds Tryz.pinned (OpenSpec.ofChange certSoundWrong)

/-- 'deemsterlaw26.CertLevels': WHATEVER THE INPUT: true; the input reads as it did. -/
def certLevelsSpec : ChangeSpec := { name := "certLevels", fn := fun _ => fun
  | [d1, d2] => { results := [.lit (.bool true)], args := [d1, d2] }
  | _ => none }
def certLevelsRow : OpenClaim := { program := "ytphecmnehkdihaagreatdoor", sum := "dbbcf998bdbf51f2ca978982298f8d46f02f99cbcaf9ad7bfdd309a4b8c0a9ef", func := "deemster/deemsterlaw26.CertLevels", spec := "certLevels", inPlace := ["internal/bytealg.CountString", "internal/bytealg.IndexByteString", "internal/bytealg.IndexString"], unfollowed := true, recurses := true, named := ["unicode/utf8.first", "unicode/utf8.acceptRanges", "internal/bytealg.MaxLen", "deemster/event.words"], apart := false, laid := [("unicode/utf8.acceptRanges", laid_unicode_utf8_acceptRanges), ("deemster/event.words", laid_deemster_event_words), ("unicode/utf8.first", laid_unicode_utf8_first)] }
def CertLevelsSaid : Prop := certLevelsRow.holds Tryz.pinned (OpenSpec.ofChange certLevelsSpec)

/-- ITS FALSE NEIGHBOUR: 'it returns false'. Refute it at one input. -/
def certLevelsWrong : ChangeSpec := { name := "certLevels", fn := fun _ => fun
  | [d1, d2] => { results := [.lit (.bool false)], args := [d1, d2] }
  | _ => none }
def CertLevelsWrongFalsely : Prop := certLevelsRow.holds Tryz.pinned (OpenSpec.ofChange certLevelsWrong)

/-- 'deemsterlaw25.AxiomHolds': WHATEVER THE INPUT: true; the input reads as it did. -/
def axiomHoldsSpec : ChangeSpec := { name := "axiomHolds", fn := fun _ => fun
  | [d1, d2, d3, d4] => { results := [.lit (.bool true)], args := [d1, d2, d3, d4] }
  | _ => none }
def axiomHoldsRow : OpenClaim := { program := "ytphecmnehkdihaagreatdoor", sum := "dbbcf998bdbf51f2ca978982298f8d46f02f99cbcaf9ad7bfdd309a4b8c0a9ef", func := "deemster/deemsterlaw25.AxiomHolds", spec := "axiomHolds", inPlace := ["internal/bytealg.CountString", "internal/bytealg.IndexByteString", "internal/bytealg.IndexString"], unfollowed := true, recurses := true, named := ["unicode/utf8.first", "unicode/utf8.acceptRanges", "internal/bytealg.MaxLen", "deemster/event.words"], apart := false, laid := [("unicode/utf8.acceptRanges", laid_unicode_utf8_acceptRanges), ("deemster/event.words", laid_deemster_event_words), ("unicode/utf8.first", laid_unicode_utf8_first)] }
def AxiomHoldsSaid : Prop := axiomHoldsRow.holds Tryz.pinned (OpenSpec.ofChange axiomHoldsSpec)

/-- ITS FALSE NEIGHBOUR: 'it returns false'. Refute it at one input. -/
def axiomHoldsWrong : ChangeSpec := { name := "axiomHolds", fn := fun _ => fun
  | [d1, d2, d3, d4] => { results := [.lit (.bool false)], args := [d1, d2, d3, d4] }
  | _ => none }
def AxiomHoldsWrongFalsely : Prop := axiomHoldsRow.holds Tryz.pinned (OpenSpec.ofChange axiomHoldsWrong)

/-- 'deemsterlaw25.AxiomLevels': WHATEVER THE INPUT: true; the input reads as it did. -/
def axiomLevelsSpec : ChangeSpec := { name := "axiomLevels", fn := fun _ => fun
  | [d1, d2, d3] => { results := [.lit (.bool true)], args := [d1, d2, d3] }
  | _ => none }
def axiomLevelsRow : OpenClaim := { program := "ytphecmnehkdihaagreatdoor", sum := "dbbcf998bdbf51f2ca978982298f8d46f02f99cbcaf9ad7bfdd309a4b8c0a9ef", func := "deemster/deemsterlaw25.AxiomLevels", spec := "axiomLevels", inPlace := ["internal/bytealg.CountString", "internal/bytealg.IndexByteString", "internal/bytealg.IndexString"], unfollowed := true, recurses := true, named := ["unicode/utf8.first", "unicode/utf8.acceptRanges", "internal/bytealg.MaxLen", "deemster/event.words"], apart := false, laid := [("unicode/utf8.acceptRanges", laid_unicode_utf8_acceptRanges), ("deemster/event.words", laid_deemster_event_words), ("unicode/utf8.first", laid_unicode_utf8_first)] }
def AxiomLevelsSaid : Prop := axiomLevelsRow.holds Tryz.pinned (OpenSpec.ofChange axiomLevelsSpec)

/-- ITS FALSE NEIGHBOUR: 'it returns false'. Refute it at one input. -/
def axiomLevelsWrong : ChangeSpec := { name := "axiomLevels", fn := fun _ => fun
  | [d1, d2, d3] => { results := [.lit (.bool false)], args := [d1, d2, d3] }
  | _ => none }
def AxiomLevelsWrongFalsely : Prop := axiomLevelsRow.holds Tryz.pinned (OpenSpec.ofChange axiomLevelsWrong)

/-- 'deemsterlaw25.AxiomSeen': WHATEVER THE INPUT: true; the input reads as it did. -/
def axiomSeenSpec : ChangeSpec := { name := "axiomSeen", fn := fun _ => fun
  | [d1, d2, d3, d4, d5] => { results := [.lit (.bool true)], args := [d1, d2, d3, d4, d5] }
  | _ => none }
def axiomSeenRow : OpenClaim := { program := "ytphecmnehkdihaagreatdoor", sum := "dbbcf998bdbf51f2ca978982298f8d46f02f99cbcaf9ad7bfdd309a4b8c0a9ef", func := "deemster/deemsterlaw25.AxiomSeen", spec := "axiomSeen", inPlace := ["internal/bytealg.CountString", "internal/bytealg.IndexByteString", "internal/bytealg.IndexString"], unfollowed := true, recurses := true, named := ["unicode/utf8.first", "unicode/utf8.acceptRanges", "internal/bytealg.MaxLen", "deemster/event.words"], apart := false, laid := [("unicode/utf8.acceptRanges", laid_unicode_utf8_acceptRanges), ("deemster/event.words", laid_deemster_event_words), ("unicode/utf8.first", laid_unicode_utf8_first)] }
def AxiomSeenSaid : Prop := axiomSeenRow.holds Tryz.pinned (OpenSpec.ofChange axiomSeenSpec)

/-- ITS FALSE NEIGHBOUR: 'it returns false'. Refute it at one input. -/
def axiomSeenWrong : ChangeSpec := { name := "axiomSeen", fn := fun _ => fun
  | [d1, d2, d3, d4, d5] => { results := [.lit (.bool false)], args := [d1, d2, d3, d4, d5] }
  | _ => none }
def AxiomSeenWrongFalsely : Prop := axiomSeenRow.holds Tryz.pinned (OpenSpec.ofChange axiomSeenWrong)

/-- 'deemsterlaw28.FrontOrders': WHATEVER THE INPUT: true; the input reads as it did. -/
def frontOrdersSpec : ChangeSpec := { name := "frontOrders", fn := fun _ => fun
  | [d1, d2, d3] => { results := [.lit (.bool true)], args := [d1, d2, d3] }
  | _ => none }
def frontOrdersRow : OpenClaim := { program := "ytphecmnehkdihaagreatdoor", sum := "dbbcf998bdbf51f2ca978982298f8d46f02f99cbcaf9ad7bfdd309a4b8c0a9ef", func := "deemster/deemsterlaw28.FrontOrders", spec := "frontOrders", inPlace := ["internal/bytealg.CountString", "internal/bytealg.IndexByteString", "internal/bytealg.IndexString"], unfollowed := true, recurses := true, named := ["unicode/utf8.first", "unicode/utf8.acceptRanges", "math/bits.deBruijn64tab", "internal/bytealg.MaxLen", "deemster/event.words"], apart := false, laid := [("math/bits.deBruijn64tab", laid_math_bits_deBruijn64tab), ("unicode/utf8.acceptRanges", laid_unicode_utf8_acceptRanges), ("deemster/event.words", laid_deemster_event_words), ("unicode/utf8.first", laid_unicode_utf8_first)] }
def FrontOrdersSaid : Prop := frontOrdersRow.holds Tryz.pinned (OpenSpec.ofChange frontOrdersSpec)

/-- ITS FALSE NEIGHBOUR: 'it returns false'. Refute it at one input. -/
def frontOrdersWrong : ChangeSpec := { name := "frontOrders", fn := fun _ => fun
  | [d1, d2, d3] => { results := [.lit (.bool false)], args := [d1, d2, d3] }
  | _ => none }
def FrontOrdersWrongFalsely : Prop := frontOrdersRow.holds Tryz.pinned (OpenSpec.ofChange frontOrdersWrong)

/-- 'deemsterlaw28.FrontMay': WHATEVER THE INPUT: true; the input reads as it did. -/
def frontMaySpec : ChangeSpec := { name := "frontMay", fn := fun _ => fun
  | [d1, d2, d3, d4] => { results := [.lit (.bool true)], args := [d1, d2, d3, d4] }
  | _ => none }
def frontMayRow : OpenClaim := { program := "ytphecmnehkdihaagreatdoor", sum := "dbbcf998bdbf51f2ca978982298f8d46f02f99cbcaf9ad7bfdd309a4b8c0a9ef", func := "deemster/deemsterlaw28.FrontMay", spec := "frontMay", inPlace := ["internal/bytealg.CountString", "internal/bytealg.IndexByteString", "internal/bytealg.IndexString"], unfollowed := true, recurses := true, named := ["unicode/utf8.first", "unicode/utf8.acceptRanges", "math/bits.deBruijn64tab", "internal/bytealg.MaxLen", "deemster/event.words"], apart := false, laid := [("math/bits.deBruijn64tab", laid_math_bits_deBruijn64tab), ("unicode/utf8.acceptRanges", laid_unicode_utf8_acceptRanges), ("deemster/event.words", laid_deemster_event_words), ("unicode/utf8.first", laid_unicode_utf8_first)] }
def FrontMaySaid : Prop := frontMayRow.holds Tryz.pinned (OpenSpec.ofChange frontMaySpec)

/-- ITS FALSE NEIGHBOUR: 'it returns false'. Refute it at one input. -/
def frontMayWrong : ChangeSpec := { name := "frontMay", fn := fun _ => fun
  | [d1, d2, d3, d4] => { results := [.lit (.bool false)], args := [d1, d2, d3, d4] }
  | _ => none }
def FrontMayWrongFalsely : Prop := frontMayRow.holds Tryz.pinned (OpenSpec.ofChange frontMayWrong)

/-- 'deemsterlaw28.FrontHolds': WHATEVER THE INPUT: true; the input reads as it did. -/
def frontHoldsSpec : ChangeSpec := { name := "frontHolds", fn := fun _ => fun
  | [d1, d2] => { results := [.lit (.bool true)], args := [d1, d2] }
  | _ => none }
def frontHoldsRow : OpenClaim := { program := "ytphecmnehkdihaagreatdoor", sum := "dbbcf998bdbf51f2ca978982298f8d46f02f99cbcaf9ad7bfdd309a4b8c0a9ef", func := "deemster/deemsterlaw28.FrontHolds", spec := "frontHolds", inPlace := ["internal/bytealg.CountString", "internal/bytealg.IndexByteString", "internal/bytealg.IndexString"], unfollowed := true, recurses := true, named := ["unicode/utf8.first", "unicode/utf8.acceptRanges", "internal/bytealg.MaxLen", "deemster/event.words", "math/bits.deBruijn64tab"], apart := false, laid := [("math/bits.deBruijn64tab", laid_math_bits_deBruijn64tab), ("unicode/utf8.acceptRanges", laid_unicode_utf8_acceptRanges), ("deemster/event.words", laid_deemster_event_words), ("unicode/utf8.first", laid_unicode_utf8_first)] }
def FrontHoldsSaid : Prop := frontHoldsRow.holds Tryz.pinned (OpenSpec.ofChange frontHoldsSpec)

/-- ITS FALSE NEIGHBOUR: 'it returns false'. Refute it at one input. -/
def frontHoldsWrong : ChangeSpec := { name := "frontHolds", fn := fun _ => fun
  | [d1, d2] => { results := [.lit (.bool false)], args := [d1, d2] }
  | _ => none }
def FrontHoldsWrongFalsely : Prop := frontHoldsRow.holds Tryz.pinned (OpenSpec.ofChange frontHoldsWrong)

/-- 'deemsterlaw27.SaturEdges': WHATEVER THE INPUT: true; the input reads as it did. -/
def saturEdgesSpec : ChangeSpec := { name := "saturEdges", fn := fun _ => fun
  | [d1, d2, d3] => { results := [.lit (.bool true)], args := [d1, d2, d3] }
  | _ => none }
def saturEdgesRow : OpenClaim := { program := "ytphecmnehkdihaagreatdoor", sum := "dbbcf998bdbf51f2ca978982298f8d46f02f99cbcaf9ad7bfdd309a4b8c0a9ef", func := "deemster/deemsterlaw27.SaturEdges", spec := "saturEdges", inPlace := ["internal/bytealg.CountString", "internal/bytealg.IndexByteString", "internal/bytealg.IndexString"], unfollowed := true, recurses := true, named := ["unicode/utf8.first", "unicode/utf8.acceptRanges", "math/bits.deBruijn64tab", "internal/bytealg.MaxLen", "deemster/event.words"], apart := false, laid := [("math/bits.deBruijn64tab", laid_math_bits_deBruijn64tab), ("unicode/utf8.acceptRanges", laid_unicode_utf8_acceptRanges), ("deemster/event.words", laid_deemster_event_words), ("unicode/utf8.first", laid_unicode_utf8_first)] }
def SaturEdgesSaid : Prop := saturEdgesRow.holds Tryz.pinned (OpenSpec.ofChange saturEdgesSpec)

/-- ITS FALSE NEIGHBOUR: 'it returns false'. Refute it at one input. -/
def saturEdgesWrong : ChangeSpec := { name := "saturEdges", fn := fun _ => fun
  | [d1, d2, d3] => { results := [.lit (.bool false)], args := [d1, d2, d3] }
  | _ => none }
def SaturEdgesWrongFalsely : Prop := saturEdgesRow.holds Tryz.pinned (OpenSpec.ofChange saturEdgesWrong)

/-- 'deemsterlaw27.SaturOrder': WHATEVER THE INPUT: true; the input reads as it did. -/
def saturOrderSpec : ChangeSpec := { name := "saturOrder", fn := fun _ => fun
  | [d1, d2, d3] => { results := [.lit (.bool true)], args := [d1, d2, d3] }
  | _ => none }
def saturOrderRow : OpenClaim := { program := "ytphecmnehkdihaagreatdoor", sum := "dbbcf998bdbf51f2ca978982298f8d46f02f99cbcaf9ad7bfdd309a4b8c0a9ef", func := "deemster/deemsterlaw27.SaturOrder", spec := "saturOrder", inPlace := ["internal/bytealg.CountString", "internal/bytealg.IndexByteString", "internal/bytealg.IndexString"], unfollowed := true, recurses := true, named := ["unicode/utf8.first", "unicode/utf8.acceptRanges", "math/bits.deBruijn64tab", "internal/bytealg.MaxLen", "deemster/event.words"], apart := false, laid := [("math/bits.deBruijn64tab", laid_math_bits_deBruijn64tab), ("unicode/utf8.acceptRanges", laid_unicode_utf8_acceptRanges), ("deemster/event.words", laid_deemster_event_words), ("unicode/utf8.first", laid_unicode_utf8_first)] }
def SaturOrderSaid : Prop := saturOrderRow.holds Tryz.pinned (OpenSpec.ofChange saturOrderSpec)

/-- ITS FALSE NEIGHBOUR: 'it returns false'. Refute it at one input. -/
def saturOrderWrong : ChangeSpec := { name := "saturOrder", fn := fun _ => fun
  | [d1, d2, d3] => { results := [.lit (.bool false)], args := [d1, d2, d3] }
  | _ => none }
def SaturOrderWrongFalsely : Prop := saturOrderRow.holds Tryz.pinned (OpenSpec.ofChange saturOrderWrong)

/-- 'deemsterlaw27.SaturHolds': WHATEVER THE INPUT: true; the input reads as it did. -/
def saturHoldsSpec : ChangeSpec := { name := "saturHolds", fn := fun _ => fun
  | [d1, d2, d3, d4] => { results := [.lit (.bool true)], args := [d1, d2, d3, d4] }
  | _ => none }
def saturHoldsRow : OpenClaim := { program := "ytphecmnehkdihaagreatdoor", sum := "dbbcf998bdbf51f2ca978982298f8d46f02f99cbcaf9ad7bfdd309a4b8c0a9ef", func := "deemster/deemsterlaw27.SaturHolds", spec := "saturHolds", inPlace := ["internal/bytealg.CountString", "internal/bytealg.IndexByteString", "internal/bytealg.IndexString"], unfollowed := true, recurses := true, named := ["unicode/utf8.first", "unicode/utf8.acceptRanges", "internal/bytealg.MaxLen", "deemster/event.words", "math/bits.deBruijn64tab"], apart := false, laid := [("math/bits.deBruijn64tab", laid_math_bits_deBruijn64tab), ("unicode/utf8.acceptRanges", laid_unicode_utf8_acceptRanges), ("deemster/event.words", laid_deemster_event_words), ("unicode/utf8.first", laid_unicode_utf8_first)] }
def SaturHoldsSaid : Prop := saturHoldsRow.holds Tryz.pinned (OpenSpec.ofChange saturHoldsSpec)

/-- ITS FALSE NEIGHBOUR: 'it returns false'. Refute it at one input. -/
def saturHoldsWrong : ChangeSpec := { name := "saturHolds", fn := fun _ => fun
  | [d1, d2, d3, d4] => { results := [.lit (.bool false)], args := [d1, d2, d3, d4] }
  | _ => none }
def SaturHoldsWrongFalsely : Prop := saturHoldsRow.holds Tryz.pinned (OpenSpec.ofChange saturHoldsWrong)

/- THE SECOND FORM. 'bulk': how many values and letters a reading holds, each counted each time it is reached (what is shared counts as often as it is met; a slice's spare places count too). A statement '..UptoSaid' is the law's where the arguments, and the package variables that the reading takes, are together of bulk at most 1048576: NARROWER than '..Said'. Prove '..Said' where nothing that the law and all that it calls make is longer than what came in: it says more and counts as full. Else prove '..UptoSaid'. A law counts once. -/
mutual
def uptoBulk {H : Type} : DataW H → Nat
  | .lit (.string bytes) => bytes.length + 1
  | .lit _ => 1
  | .nil => 1
  | .ptr d => uptoBulk d + 1
  | .slice elems spare => uptoBulkAll elems + uptoBulkAll spare + 1
  | .agg parts => uptoBulkAll parts + 1
  | .iface _ d => uptoBulk d + 1
  | .map entries => uptoBulkEntries entries + 1
  | .held _ => 1
def uptoBulkAll {H : Type} : List (DataW H) → Nat
  | [] => 0
  | d :: r => uptoBulk d + uptoBulkAll r
def uptoBulkEntries {H : Type} : List (Lit × DataW H) → Nat
  | [] => 0
  | x :: r => uptoBulkEntry x + uptoBulkEntries r
def uptoBulkEntry {H : Type} : Lit × DataW H → Nat
  | (.string bytes, d) => bytes.length + uptoBulk d + 1
  | (_, d) => uptoBulk d + 1
 end
def uptoSmall : (H : Type) → List (DataW H) → Bool := fun _ ds => decide (uptoBulkAll ds ≤ 1048576)
def OpenSpec.upto (s : _root_.Go.ChangeSpec) : _root_.Go.OpenSpec := { _root_.Go.OpenSpec.ofChange s with cond := some uptoSmall }

/-- 'deemsterlaw26.CertChecks', WHERE WHAT IT READS IS OF BULK AT MOST 1048576: true; the input reads as it did. -/
def certChecksUptoRow : OpenClaim := { program := "ytphecmnehkdihaagreatdoor", sum := "dbbcf998bdbf51f2ca978982298f8d46f02f99cbcaf9ad7bfdd309a4b8c0a9ef", func := "deemster/deemsterlaw26.CertChecks", spec := "certChecks", inPlace := ["internal/bytealg.CountString", "internal/bytealg.IndexByteString", "internal/bytealg.IndexString"], unfollowed := true, recurses := true, named := ["unicode/utf8.first", "unicode/utf8.acceptRanges", "internal/bytealg.MaxLen", "deemster/event.words"], apart := false, laid := [("unicode/utf8.acceptRanges", laid_unicode_utf8_acceptRanges), ("deemster/event.words", laid_deemster_event_words), ("unicode/utf8.first", laid_unicode_utf8_first)], narrowed := true }
def CertChecksUptoSaid : Prop := certChecksUptoRow.holds Tryz.pinned (OpenSpec.upto certChecksSpec)

/-- 'deemsterlaw26.CertSound', WHERE WHAT IT READS IS OF BULK AT MOST 1048576: true; the input reads as it did. -/
def certSoundUptoRow : OpenClaim := { program := "ytphecmnehkdihaagreatdoor", sum := "dbbcf998bdbf51f2ca978982298f8d46f02f99cbcaf9ad7bfdd309a4b8c0a9ef", func := "deemster/deemsterlaw26.CertSound", spec := "certSound", inPlace := ["internal/bytealg.CountString", "internal/bytealg.IndexByteString", "internal/bytealg.IndexString"], unfollowed := true, recurses := true, named := ["unicode/utf8.first", "unicode/utf8.acceptRanges", "internal/bytealg.MaxLen", "deemster/event.words"], apart := false, laid := [("unicode/utf8.acceptRanges", laid_unicode_utf8_acceptRanges), ("deemster/event.words", laid_deemster_event_words), ("unicode/utf8.first", laid_unicode_utf8_first)], narrowed := true }
def CertSoundUptoSaid : Prop := certSoundUptoRow.holds Tryz.pinned (OpenSpec.upto certSoundSpec)

/-- 'deemsterlaw26.CertLevels', WHERE WHAT IT READS IS OF BULK AT MOST 1048576: true; the input reads as it did. -/
def certLevelsUptoRow : OpenClaim := { program := "ytphecmnehkdihaagreatdoor", sum := "dbbcf998bdbf51f2ca978982298f8d46f02f99cbcaf9ad7bfdd309a4b8c0a9ef", func := "deemster/deemsterlaw26.CertLevels", spec := "certLevels", inPlace := ["internal/bytealg.CountString", "internal/bytealg.IndexByteString", "internal/bytealg.IndexString"], unfollowed := true, recurses := true, named := ["unicode/utf8.first", "unicode/utf8.acceptRanges", "internal/bytealg.MaxLen", "deemster/event.words"], apart := false, laid := [("unicode/utf8.acceptRanges", laid_unicode_utf8_acceptRanges), ("deemster/event.words", laid_deemster_event_words), ("unicode/utf8.first", laid_unicode_utf8_first)], narrowed := true }
def CertLevelsUptoSaid : Prop := certLevelsUptoRow.holds Tryz.pinned (OpenSpec.upto certLevelsSpec)

/-- 'deemsterlaw25.AxiomHolds', WHERE WHAT IT READS IS OF BULK AT MOST 1048576: true; the input reads as it did. -/
def axiomHoldsUptoRow : OpenClaim := { program := "ytphecmnehkdihaagreatdoor", sum := "dbbcf998bdbf51f2ca978982298f8d46f02f99cbcaf9ad7bfdd309a4b8c0a9ef", func := "deemster/deemsterlaw25.AxiomHolds", spec := "axiomHolds", inPlace := ["internal/bytealg.CountString", "internal/bytealg.IndexByteString", "internal/bytealg.IndexString"], unfollowed := true, recurses := true, named := ["unicode/utf8.first", "unicode/utf8.acceptRanges", "internal/bytealg.MaxLen", "deemster/event.words"], apart := false, laid := [("unicode/utf8.acceptRanges", laid_unicode_utf8_acceptRanges), ("deemster/event.words", laid_deemster_event_words), ("unicode/utf8.first", laid_unicode_utf8_first)], narrowed := true }
def AxiomHoldsUptoSaid : Prop := axiomHoldsUptoRow.holds Tryz.pinned (OpenSpec.upto axiomHoldsSpec)

/-- 'deemsterlaw25.AxiomLevels', WHERE WHAT IT READS IS OF BULK AT MOST 1048576: true; the input reads as it did. -/
def axiomLevelsUptoRow : OpenClaim := { program := "ytphecmnehkdihaagreatdoor", sum := "dbbcf998bdbf51f2ca978982298f8d46f02f99cbcaf9ad7bfdd309a4b8c0a9ef", func := "deemster/deemsterlaw25.AxiomLevels", spec := "axiomLevels", inPlace := ["internal/bytealg.CountString", "internal/bytealg.IndexByteString", "internal/bytealg.IndexString"], unfollowed := true, recurses := true, named := ["unicode/utf8.first", "unicode/utf8.acceptRanges", "internal/bytealg.MaxLen", "deemster/event.words"], apart := false, laid := [("unicode/utf8.acceptRanges", laid_unicode_utf8_acceptRanges), ("deemster/event.words", laid_deemster_event_words), ("unicode/utf8.first", laid_unicode_utf8_first)], narrowed := true }
def AxiomLevelsUptoSaid : Prop := axiomLevelsUptoRow.holds Tryz.pinned (OpenSpec.upto axiomLevelsSpec)

/-- 'deemsterlaw25.AxiomSeen', WHERE WHAT IT READS IS OF BULK AT MOST 1048576: true; the input reads as it did. -/
def axiomSeenUptoRow : OpenClaim := { program := "ytphecmnehkdihaagreatdoor", sum := "dbbcf998bdbf51f2ca978982298f8d46f02f99cbcaf9ad7bfdd309a4b8c0a9ef", func := "deemster/deemsterlaw25.AxiomSeen", spec := "axiomSeen", inPlace := ["internal/bytealg.CountString", "internal/bytealg.IndexByteString", "internal/bytealg.IndexString"], unfollowed := true, recurses := true, named := ["unicode/utf8.first", "unicode/utf8.acceptRanges", "internal/bytealg.MaxLen", "deemster/event.words"], apart := false, laid := [("unicode/utf8.acceptRanges", laid_unicode_utf8_acceptRanges), ("deemster/event.words", laid_deemster_event_words), ("unicode/utf8.first", laid_unicode_utf8_first)], narrowed := true }
def AxiomSeenUptoSaid : Prop := axiomSeenUptoRow.holds Tryz.pinned (OpenSpec.upto axiomSeenSpec)

/-- 'deemsterlaw28.FrontOrders', WHERE WHAT IT READS IS OF BULK AT MOST 1048576: true; the input reads as it did. -/
def frontOrdersUptoRow : OpenClaim := { program := "ytphecmnehkdihaagreatdoor", sum := "dbbcf998bdbf51f2ca978982298f8d46f02f99cbcaf9ad7bfdd309a4b8c0a9ef", func := "deemster/deemsterlaw28.FrontOrders", spec := "frontOrders", inPlace := ["internal/bytealg.CountString", "internal/bytealg.IndexByteString", "internal/bytealg.IndexString"], unfollowed := true, recurses := true, named := ["unicode/utf8.first", "unicode/utf8.acceptRanges", "math/bits.deBruijn64tab", "internal/bytealg.MaxLen", "deemster/event.words"], apart := false, laid := [("math/bits.deBruijn64tab", laid_math_bits_deBruijn64tab), ("unicode/utf8.acceptRanges", laid_unicode_utf8_acceptRanges), ("deemster/event.words", laid_deemster_event_words), ("unicode/utf8.first", laid_unicode_utf8_first)], narrowed := true }
def FrontOrdersUptoSaid : Prop := frontOrdersUptoRow.holds Tryz.pinned (OpenSpec.upto frontOrdersSpec)

/-- 'deemsterlaw28.FrontMay', WHERE WHAT IT READS IS OF BULK AT MOST 1048576: true; the input reads as it did. -/
def frontMayUptoRow : OpenClaim := { program := "ytphecmnehkdihaagreatdoor", sum := "dbbcf998bdbf51f2ca978982298f8d46f02f99cbcaf9ad7bfdd309a4b8c0a9ef", func := "deemster/deemsterlaw28.FrontMay", spec := "frontMay", inPlace := ["internal/bytealg.CountString", "internal/bytealg.IndexByteString", "internal/bytealg.IndexString"], unfollowed := true, recurses := true, named := ["unicode/utf8.first", "unicode/utf8.acceptRanges", "math/bits.deBruijn64tab", "internal/bytealg.MaxLen", "deemster/event.words"], apart := false, laid := [("math/bits.deBruijn64tab", laid_math_bits_deBruijn64tab), ("unicode/utf8.acceptRanges", laid_unicode_utf8_acceptRanges), ("deemster/event.words", laid_deemster_event_words), ("unicode/utf8.first", laid_unicode_utf8_first)], narrowed := true }
def FrontMayUptoSaid : Prop := frontMayUptoRow.holds Tryz.pinned (OpenSpec.upto frontMaySpec)

/-- 'deemsterlaw28.FrontHolds', WHERE WHAT IT READS IS OF BULK AT MOST 1048576: true; the input reads as it did. -/
def frontHoldsUptoRow : OpenClaim := { program := "ytphecmnehkdihaagreatdoor", sum := "dbbcf998bdbf51f2ca978982298f8d46f02f99cbcaf9ad7bfdd309a4b8c0a9ef", func := "deemster/deemsterlaw28.FrontHolds", spec := "frontHolds", inPlace := ["internal/bytealg.CountString", "internal/bytealg.IndexByteString", "internal/bytealg.IndexString"], unfollowed := true, recurses := true, named := ["unicode/utf8.first", "unicode/utf8.acceptRanges", "internal/bytealg.MaxLen", "deemster/event.words", "math/bits.deBruijn64tab"], apart := false, laid := [("math/bits.deBruijn64tab", laid_math_bits_deBruijn64tab), ("unicode/utf8.acceptRanges", laid_unicode_utf8_acceptRanges), ("deemster/event.words", laid_deemster_event_words), ("unicode/utf8.first", laid_unicode_utf8_first)], narrowed := true }
def FrontHoldsUptoSaid : Prop := frontHoldsUptoRow.holds Tryz.pinned (OpenSpec.upto frontHoldsSpec)

/-- 'deemsterlaw27.SaturEdges', WHERE WHAT IT READS IS OF BULK AT MOST 1048576: true; the input reads as it did. -/
def saturEdgesUptoRow : OpenClaim := { program := "ytphecmnehkdihaagreatdoor", sum := "dbbcf998bdbf51f2ca978982298f8d46f02f99cbcaf9ad7bfdd309a4b8c0a9ef", func := "deemster/deemsterlaw27.SaturEdges", spec := "saturEdges", inPlace := ["internal/bytealg.CountString", "internal/bytealg.IndexByteString", "internal/bytealg.IndexString"], unfollowed := true, recurses := true, named := ["unicode/utf8.first", "unicode/utf8.acceptRanges", "math/bits.deBruijn64tab", "internal/bytealg.MaxLen", "deemster/event.words"], apart := false, laid := [("math/bits.deBruijn64tab", laid_math_bits_deBruijn64tab), ("unicode/utf8.acceptRanges", laid_unicode_utf8_acceptRanges), ("deemster/event.words", laid_deemster_event_words), ("unicode/utf8.first", laid_unicode_utf8_first)], narrowed := true }
def SaturEdgesUptoSaid : Prop := saturEdgesUptoRow.holds Tryz.pinned (OpenSpec.upto saturEdgesSpec)

/-- 'deemsterlaw27.SaturOrder', WHERE WHAT IT READS IS OF BULK AT MOST 1048576: true; the input reads as it did. -/
def saturOrderUptoRow : OpenClaim := { program := "ytphecmnehkdihaagreatdoor", sum := "dbbcf998bdbf51f2ca978982298f8d46f02f99cbcaf9ad7bfdd309a4b8c0a9ef", func := "deemster/deemsterlaw27.SaturOrder", spec := "saturOrder", inPlace := ["internal/bytealg.CountString", "internal/bytealg.IndexByteString", "internal/bytealg.IndexString"], unfollowed := true, recurses := true, named := ["unicode/utf8.first", "unicode/utf8.acceptRanges", "math/bits.deBruijn64tab", "internal/bytealg.MaxLen", "deemster/event.words"], apart := false, laid := [("math/bits.deBruijn64tab", laid_math_bits_deBruijn64tab), ("unicode/utf8.acceptRanges", laid_unicode_utf8_acceptRanges), ("deemster/event.words", laid_deemster_event_words), ("unicode/utf8.first", laid_unicode_utf8_first)], narrowed := true }
def SaturOrderUptoSaid : Prop := saturOrderUptoRow.holds Tryz.pinned (OpenSpec.upto saturOrderSpec)

/-- 'deemsterlaw27.SaturHolds', WHERE WHAT IT READS IS OF BULK AT MOST 1048576: true; the input reads as it did. -/
def saturHoldsUptoRow : OpenClaim := { program := "ytphecmnehkdihaagreatdoor", sum := "dbbcf998bdbf51f2ca978982298f8d46f02f99cbcaf9ad7bfdd309a4b8c0a9ef", func := "deemster/deemsterlaw27.SaturHolds", spec := "saturHolds", inPlace := ["internal/bytealg.CountString", "internal/bytealg.IndexByteString", "internal/bytealg.IndexString"], unfollowed := true, recurses := true, named := ["unicode/utf8.first", "unicode/utf8.acceptRanges", "internal/bytealg.MaxLen", "deemster/event.words", "math/bits.deBruijn64tab"], apart := false, laid := [("math/bits.deBruijn64tab", laid_math_bits_deBruijn64tab), ("unicode/utf8.acceptRanges", laid_unicode_utf8_acceptRanges), ("deemster/event.words", laid_deemster_event_words), ("unicode/utf8.first", laid_unicode_utf8_first)], narrowed := true }
def SaturHoldsUptoSaid : Prop := saturHoldsUptoRow.holds Tryz.pinned (OpenSpec.upto saturHoldsSpec)

end Rows
end Go.Proofs.YtphecmnehkdihaaGreatDoor
