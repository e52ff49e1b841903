/-
  NARROWER THAN 'FOR EVERY INPUT', by the rows' own cells (each row's printed sentence says how): BoundOf: laid · BoundProducts: laid · WriterFresh: laid · WriterOf: laid · WriterHas: laid · WrNext: laid · WrAll: laid · WrTells: laid · UnitMust: laid · UnitAgainst: laid · UnitSound: laid.
  DERIVED. THE GIVEN ROWS OF THIS SEAT. 11 by the template 'for every input the law returns true; each argument reads behind the call as it read before'; 0 by the template 'total and deterministic' (their statements: YtopjfnbonjmnjaaGreatDoorTotals.lean).
  GIVEN WITH THE SEED: the statements are not yours to turn. If you find one false, say at which input.
  Laid BY PROGRAM, IN A SANDBOX (cutbox-rows.mjs): the forced cells as the released guide's own fill.sh prints them over the translation ff4c0b13b98a4a73… (all of the seat's roots in one cut). By AI agents, Wed Nov 11 2026. No macro, syntax, notation, axiom, sorry.
-/
import Derived.Test.YtopjfnbonjmnjaaGreatDoorChecked
import GoSem.PinnedTables
import GoSem.Claim
import GoSem.ClaimJoined
import GoSem.ClaimMapViews
import Derived.JoinedTies
import Derived.KernelRfl
namespace Go.Proofs.YtopjfnbonjmnjaaGreatDoor
/- THE CELL 'sum', in the pinned program and in every row, IS THE sha256 OF THE DUMP (.gsa) THAT YtopjfnbonjmnjaaGreatDoorProg.lean LOADS. Nothing in Lean hashes anything: it is a label: what it is worth is what the hold of that sum in a sandbox is worth. -/
noncomputable def Tryz.pinned : Pinned := { name := "ytopjfnbonjmnjaagreatdoor", sum := "ff4c0b13b98a4a73df2992d05c0abb0abe558bacef16984a2be80e798989d173", checked := Tryz.checked }
namespace Rows
def none {H : Type} : Left H := { results := [], args := [] }

/- WHAT THE LISTED PACKAGE-LEVEL VARIABLES READ AS WHEN THE CALL BEGINS. Each datum BY PROGRAM (the guide's laid-datum.mjs) off the statement by which the dump's own 'gosem.cut.vars' lays the variable. In a bare row this is a premise. The card (YtopjfnbonjmnjaaGreatDoorCards.lean) ties it to the program's text. -/
def laid_unicode_utf8_acceptRanges {H : Type} : DataW H := .agg [.agg [.lit (.int .u8 128), .lit (.int .u8 191)], .agg [.lit (.int .u8 160), .lit (.int .u8 191)], .agg [.lit (.int .u8 128), .lit (.int .u8 159)], .agg [.lit (.int .u8 144), .lit (.int .u8 191)], .agg [.lit (.int .u8 128), .lit (.int .u8 143)], .agg [.lit (.int .u8 0), .lit (.int .u8 0)], .agg [.lit (.int .u8 0), .lit (.int .u8 0)], .agg [.lit (.int .u8 0), .lit (.int .u8 0)], .agg [.lit (.int .u8 0), .lit (.int .u8 0)], .agg [.lit (.int .u8 0), .lit (.int .u8 0)], .agg [.lit (.int .u8 0), .lit (.int .u8 0)], .agg [.lit (.int .u8 0), .lit (.int .u8 0)], .agg [.lit (.int .u8 0), .lit (.int .u8 0)], .agg [.lit (.int .u8 0), .lit (.int .u8 0)], .agg [.lit (.int .u8 0), .lit (.int .u8 0)], .agg [.lit (.int .u8 0), .lit (.int .u8 0)]]
def laid_deemster_event_words {H : Type} : DataW H := .agg [.lit (.string []), .lit (.string [98, 101, 103, 105, 110]), .lit (.string [114, 101, 97, 100]), .lit (.string [119, 114, 105, 116, 101]), .lit (.string [111, 107]), .lit (.string [102, 97, 105, 108]), .lit (.string [105, 110, 102, 111])]
/-- One of Go's own tables, pinned by name: the form's constant. -/
def laid_unicode_utf8_first : DataW Unit := Go.Pinned.utf8First

/-- 'deemsterlaw41.BoundOf': WHATEVER THE INPUT: true; the input reads as it did. -/
def boundOfSpec : ChangeSpec := { name := "boundOf", fn := fun _ => fun
  | [d1, d2] => { results := [.lit (.bool true)], args := [d1, d2] }
  | _ => none }
def boundOfRow : OpenClaim := { program := "ytopjfnbonjmnjaagreatdoor", sum := "ff4c0b13b98a4a73df2992d05c0abb0abe558bacef16984a2be80e798989d173", func := "deemster/deemsterlaw41.BoundOf", spec := "boundOf", inPlace := ["internal/bytealg.CountString", "internal/bytealg.IndexByteString", "internal/bytealg.IndexString"], unfollowed := true, recurses := true, named := ["unicode/utf8.first", "unicode/utf8.acceptRanges", "internal/bytealg.MaxLen", "deemster/event.words"], apart := false, laid := [("unicode/utf8.acceptRanges", laid_unicode_utf8_acceptRanges), ("deemster/event.words", laid_deemster_event_words), ("unicode/utf8.first", laid_unicode_utf8_first)] }
def BoundOfSaid : Prop := boundOfRow.holds Tryz.pinned (OpenSpec.ofChange boundOfSpec)

/-- ITS FALSE NEIGHBOUR: 'it returns false'. Refute it at one input. -/
def boundOfWrong : ChangeSpec := { name := "boundOf", fn := fun _ => fun
  | [d1, d2] => { results := [.lit (.bool false)], args := [d1, d2] }
  | _ => none }
def BoundOfWrongFalsely : Prop := boundOfRow.holds Tryz.pinned (OpenSpec.ofChange boundOfWrong)

/-- 'deemsterlaw41.BoundProducts': WHATEVER THE INPUT: true; the input reads as it did. -/
def boundProductsSpec : ChangeSpec := { name := "boundProducts", fn := fun _ => fun
  | [d] => { results := [.lit (.bool true)], args := [d] }
  | _ => none }
def boundProductsRow : OpenClaim := { program := "ytopjfnbonjmnjaagreatdoor", sum := "ff4c0b13b98a4a73df2992d05c0abb0abe558bacef16984a2be80e798989d173", func := "deemster/deemsterlaw41.BoundProducts", spec := "boundProducts", inPlace := ["internal/bytealg.CountString", "internal/bytealg.IndexByteString", "internal/bytealg.IndexString"], unfollowed := true, recurses := true, named := ["unicode/utf8.first", "unicode/utf8.acceptRanges", "internal/bytealg.MaxLen", "deemster/event.words"], apart := false, laid := [("unicode/utf8.acceptRanges", laid_unicode_utf8_acceptRanges), ("deemster/event.words", laid_deemster_event_words), ("unicode/utf8.first", laid_unicode_utf8_first)] }
def BoundProductsSaid : Prop := boundProductsRow.holds Tryz.pinned (OpenSpec.ofChange boundProductsSpec)

/-- ITS FALSE NEIGHBOUR: 'it returns false'. Refute it at one input. -/
def boundProductsWrong : ChangeSpec := { name := "boundProducts", fn := fun _ => fun
  | [d] => { results := [.lit (.bool false)], args := [d] }
  | _ => none }
def BoundProductsWrongFalsely : Prop := boundProductsRow.holds Tryz.pinned (OpenSpec.ofChange boundProductsWrong)

/-- 'deemsterlaw15.WriterFresh': WHATEVER THE INPUT: true; the input reads as it did. -/
def writerFreshSpec : ChangeSpec := { name := "writerFresh", fn := fun _ => fun
  | [d1, d2] => { results := [.lit (.bool true)], args := [d1, d2] }
  | _ => none }
def writerFreshRow : OpenClaim := { program := "ytopjfnbonjmnjaagreatdoor", sum := "ff4c0b13b98a4a73df2992d05c0abb0abe558bacef16984a2be80e798989d173", func := "deemster/deemsterlaw15.WriterFresh", spec := "writerFresh", inPlace := ["internal/bytealg.CountString", "internal/bytealg.IndexByteString", "internal/bytealg.IndexString"], unfollowed := true, recurses := true, named := ["unicode/utf8.first", "unicode/utf8.acceptRanges", "internal/bytealg.MaxLen", "deemster/event.words"], apart := false, laid := [("unicode/utf8.acceptRanges", laid_unicode_utf8_acceptRanges), ("deemster/event.words", laid_deemster_event_words), ("unicode/utf8.first", laid_unicode_utf8_first)] }
def WriterFreshSaid : Prop := writerFreshRow.holds Tryz.pinned (OpenSpec.ofChange writerFreshSpec)

/-- ITS FALSE NEIGHBOUR: 'it returns false'. Refute it at one input. -/
def writerFreshWrong : ChangeSpec := { name := "writerFresh", fn := fun _ => fun
  | [d1, d2] => { results := [.lit (.bool false)], args := [d1, d2] }
  | _ => none }
def WriterFreshWrongFalsely : Prop := writerFreshRow.holds Tryz.pinned (OpenSpec.ofChange writerFreshWrong)

/-- 'deemsterlaw15.WriterOf': WHATEVER THE INPUT: true; the input reads as it did. -/
def writerOfSpec : ChangeSpec := { name := "writerOf", fn := fun _ => fun
  | [d1, d2] => { results := [.lit (.bool true)], args := [d1, d2] }
  | _ => none }
def writerOfRow : OpenClaim := { program := "ytopjfnbonjmnjaagreatdoor", sum := "ff4c0b13b98a4a73df2992d05c0abb0abe558bacef16984a2be80e798989d173", func := "deemster/deemsterlaw15.WriterOf", spec := "writerOf", inPlace := ["internal/bytealg.CountString", "internal/bytealg.IndexByteString", "internal/bytealg.IndexString"], unfollowed := true, recurses := true, named := ["unicode/utf8.first", "unicode/utf8.acceptRanges", "internal/bytealg.MaxLen", "deemster/event.words"], apart := false, laid := [("unicode/utf8.acceptRanges", laid_unicode_utf8_acceptRanges), ("deemster/event.words", laid_deemster_event_words), ("unicode/utf8.first", laid_unicode_utf8_first)] }
def WriterOfSaid : Prop := writerOfRow.holds Tryz.pinned (OpenSpec.ofChange writerOfSpec)

/-- ITS FALSE NEIGHBOUR: 'it returns false'. Refute it at one input. -/
def writerOfWrong : ChangeSpec := { name := "writerOf", fn := fun _ => fun
  | [d1, d2] => { results := [.lit (.bool false)], args := [d1, d2] }
  | _ => none }
def WriterOfWrongFalsely : Prop := writerOfRow.holds Tryz.pinned (OpenSpec.ofChange writerOfWrong)

/-- 'deemsterlaw15.WriterHas': WHATEVER THE INPUT: true; the input reads as it did. -/
def writerHasSpec : ChangeSpec := { name := "writerHas", fn := fun _ => fun
  | [d1, d2] => { results := [.lit (.bool true)], args := [d1, d2] }
  | _ => none }
def writerHasRow : OpenClaim := { program := "ytopjfnbonjmnjaagreatdoor", sum := "ff4c0b13b98a4a73df2992d05c0abb0abe558bacef16984a2be80e798989d173", func := "deemster/deemsterlaw15.WriterHas", spec := "writerHas", inPlace := ["internal/bytealg.CountString", "internal/bytealg.IndexByteString", "internal/bytealg.IndexString"], unfollowed := true, recurses := true, named := ["unicode/utf8.first", "unicode/utf8.acceptRanges", "internal/bytealg.MaxLen", "deemster/event.words"], apart := false, laid := [("unicode/utf8.acceptRanges", laid_unicode_utf8_acceptRanges), ("deemster/event.words", laid_deemster_event_words), ("unicode/utf8.first", laid_unicode_utf8_first)] }
def WriterHasSaid : Prop := writerHasRow.holds Tryz.pinned (OpenSpec.ofChange writerHasSpec)

/-- ITS FALSE NEIGHBOUR: 'it returns false'. Refute it at one input. -/
def writerHasWrong : ChangeSpec := { name := "writerHas", fn := fun _ => fun
  | [d1, d2] => { results := [.lit (.bool false)], args := [d1, d2] }
  | _ => none }
def WriterHasWrongFalsely : Prop := writerHasRow.holds Tryz.pinned (OpenSpec.ofChange writerHasWrong)

/-- 'deemsterlaw24.WrNext': WHATEVER THE INPUT: true; the input reads as it did. -/
def wrNextSpec : ChangeSpec := { name := "wrNext", fn := fun _ => fun
  | [d1, d2] => { results := [.lit (.bool true)], args := [d1, d2] }
  | _ => none }
def wrNextRow : OpenClaim := { program := "ytopjfnbonjmnjaagreatdoor", sum := "ff4c0b13b98a4a73df2992d05c0abb0abe558bacef16984a2be80e798989d173", func := "deemster/deemsterlaw24.WrNext", spec := "wrNext", inPlace := ["internal/bytealg.CountString", "internal/bytealg.IndexByteString", "internal/bytealg.IndexString"], unfollowed := true, recurses := true, named := ["unicode/utf8.first", "unicode/utf8.acceptRanges", "internal/bytealg.MaxLen", "deemster/event.words"], apart := false, laid := [("unicode/utf8.acceptRanges", laid_unicode_utf8_acceptRanges), ("deemster/event.words", laid_deemster_event_words), ("unicode/utf8.first", laid_unicode_utf8_first)] }
def WrNextSaid : Prop := wrNextRow.holds Tryz.pinned (OpenSpec.ofChange wrNextSpec)

/-- ITS FALSE NEIGHBOUR: 'it returns false'. Refute it at one input. -/
def wrNextWrong : ChangeSpec := { name := "wrNext", fn := fun _ => fun
  | [d1, d2] => { results := [.lit (.bool false)], args := [d1, d2] }
  | _ => none }
def WrNextWrongFalsely : Prop := wrNextRow.holds Tryz.pinned (OpenSpec.ofChange wrNextWrong)

/-- 'deemsterlaw24.WrAll': WHATEVER THE INPUT: true; the input reads as it did. -/
def wrAllSpec : ChangeSpec := { name := "wrAll", fn := fun _ => fun
  | [d] => { results := [.lit (.bool true)], args := [d] }
  | _ => none }
def wrAllRow : OpenClaim := { program := "ytopjfnbonjmnjaagreatdoor", sum := "ff4c0b13b98a4a73df2992d05c0abb0abe558bacef16984a2be80e798989d173", func := "deemster/deemsterlaw24.WrAll", spec := "wrAll", inPlace := ["internal/bytealg.CountString", "internal/bytealg.IndexByteString", "internal/bytealg.IndexString"], unfollowed := true, recurses := true, named := ["unicode/utf8.first", "unicode/utf8.acceptRanges", "internal/bytealg.MaxLen", "deemster/event.words"], apart := false, laid := [("unicode/utf8.acceptRanges", laid_unicode_utf8_acceptRanges), ("deemster/event.words", laid_deemster_event_words), ("unicode/utf8.first", laid_unicode_utf8_first)] }
def WrAllSaid : Prop := wrAllRow.holds Tryz.pinned (OpenSpec.ofChange wrAllSpec)

/-- ITS FALSE NEIGHBOUR: 'it returns false'. Refute it at one input. -/
def wrAllWrong : ChangeSpec := { name := "wrAll", fn := fun _ => fun
  | [d] => { results := [.lit (.bool false)], args := [d] }
  | _ => none }
def WrAllWrongFalsely : Prop := wrAllRow.holds Tryz.pinned (OpenSpec.ofChange wrAllWrong)

/-- 'deemsterlaw24.WrTells': WHATEVER THE INPUT: true; the input reads as it did. -/
def wrTellsSpec : ChangeSpec := { name := "wrTells", fn := fun _ => fun
  | [d1, d2] => { results := [.lit (.bool true)], args := [d1, d2] }
  | _ => none }
def wrTellsRow : OpenClaim := { program := "ytopjfnbonjmnjaagreatdoor", sum := "ff4c0b13b98a4a73df2992d05c0abb0abe558bacef16984a2be80e798989d173", func := "deemster/deemsterlaw24.WrTells", spec := "wrTells", inPlace := ["internal/bytealg.CountString", "internal/bytealg.IndexByteString", "internal/bytealg.IndexString"], unfollowed := true, recurses := true, named := ["unicode/utf8.first", "unicode/utf8.acceptRanges", "internal/bytealg.MaxLen", "deemster/event.words"], apart := false, laid := [("unicode/utf8.acceptRanges", laid_unicode_utf8_acceptRanges), ("deemster/event.words", laid_deemster_event_words), ("unicode/utf8.first", laid_unicode_utf8_first)] }
def WrTellsSaid : Prop := wrTellsRow.holds Tryz.pinned (OpenSpec.ofChange wrTellsSpec)

/-- ITS FALSE NEIGHBOUR: 'it returns false'. Refute it at one input. -/
def wrTellsWrong : ChangeSpec := { name := "wrTells", fn := fun _ => fun
  | [d1, d2] => { results := [.lit (.bool false)], args := [d1, d2] }
  | _ => none }
def WrTellsWrongFalsely : Prop := wrTellsRow.holds Tryz.pinned (OpenSpec.ofChange wrTellsWrong)

/-- 'deemsterlaw33.UnitMust': WHATEVER THE INPUT: true; the input reads as it did. -/
def unitMustSpec : ChangeSpec := { name := "unitMust", fn := fun _ => fun
  | [d] => { results := [.lit (.bool true)], args := [d] }
  | _ => none }
def unitMustRow : OpenClaim := { program := "ytopjfnbonjmnjaagreatdoor", sum := "ff4c0b13b98a4a73df2992d05c0abb0abe558bacef16984a2be80e798989d173", func := "deemster/deemsterlaw33.UnitMust", spec := "unitMust", inPlace := ["internal/bytealg.CountString", "internal/bytealg.IndexByteString", "internal/bytealg.IndexString"], unfollowed := true, recurses := true, named := ["unicode/utf8.first", "unicode/utf8.acceptRanges", "internal/bytealg.MaxLen", "deemster/event.words"], apart := false, laid := [("unicode/utf8.acceptRanges", laid_unicode_utf8_acceptRanges), ("deemster/event.words", laid_deemster_event_words), ("unicode/utf8.first", laid_unicode_utf8_first)] }
def UnitMustSaid : Prop := unitMustRow.holds Tryz.pinned (OpenSpec.ofChange unitMustSpec)

/-- ITS FALSE NEIGHBOUR: 'it returns false'. Refute it at one input. -/
def unitMustWrong : ChangeSpec := { name := "unitMust", fn := fun _ => fun
  | [d] => { results := [.lit (.bool false)], args := [d] }
  | _ => none }
def UnitMustWrongFalsely : Prop := unitMustRow.holds Tryz.pinned (OpenSpec.ofChange unitMustWrong)

/-- 'deemsterlaw33.UnitAgainst': WHATEVER THE INPUT: true; the input reads as it did. -/
def unitAgainstSpec : ChangeSpec := { name := "unitAgainst", fn := fun _ => fun
  | [d1, d2] => { results := [.lit (.bool true)], args := [d1, d2] }
  | _ => none }
def unitAgainstRow : OpenClaim := { program := "ytopjfnbonjmnjaagreatdoor", sum := "ff4c0b13b98a4a73df2992d05c0abb0abe558bacef16984a2be80e798989d173", func := "deemster/deemsterlaw33.UnitAgainst", spec := "unitAgainst", inPlace := ["internal/bytealg.CountString", "internal/bytealg.IndexByteString", "internal/bytealg.IndexString"], unfollowed := true, recurses := true, named := ["unicode/utf8.first", "unicode/utf8.acceptRanges", "internal/bytealg.MaxLen", "deemster/event.words"], apart := false, laid := [("unicode/utf8.acceptRanges", laid_unicode_utf8_acceptRanges), ("deemster/event.words", laid_deemster_event_words), ("unicode/utf8.first", laid_unicode_utf8_first)] }
def UnitAgainstSaid : Prop := unitAgainstRow.holds Tryz.pinned (OpenSpec.ofChange unitAgainstSpec)

/-- ITS FALSE NEIGHBOUR: 'it returns false'. Refute it at one input. -/
def unitAgainstWrong : ChangeSpec := { name := "unitAgainst", fn := fun _ => fun
  | [d1, d2] => { results := [.lit (.bool false)], args := [d1, d2] }
  | _ => none }
def UnitAgainstWrongFalsely : Prop := unitAgainstRow.holds Tryz.pinned (OpenSpec.ofChange unitAgainstWrong)

/-- 'deemsterlaw33.UnitSound': WHATEVER THE INPUT: true; the input reads as it did. -/
def unitSoundSpec : ChangeSpec := { name := "unitSound", fn := fun _ => fun
  | [d1, d2] => { results := [.lit (.bool true)], args := [d1, d2] }
  | _ => none }
def unitSoundRow : OpenClaim := { program := "ytopjfnbonjmnjaagreatdoor", sum := "ff4c0b13b98a4a73df2992d05c0abb0abe558bacef16984a2be80e798989d173", func := "deemster/deemsterlaw33.UnitSound", spec := "unitSound", inPlace := ["internal/bytealg.CountString", "internal/bytealg.IndexByteString", "internal/bytealg.IndexString"], unfollowed := true, recurses := true, named := ["unicode/utf8.first", "unicode/utf8.acceptRanges", "internal/bytealg.MaxLen", "deemster/event.words"], apart := false, laid := [("unicode/utf8.acceptRanges", laid_unicode_utf8_acceptRanges), ("deemster/event.words", laid_deemster_event_words), ("unicode/utf8.first", laid_unicode_utf8_first)] }
def UnitSoundSaid : Prop := unitSoundRow.holds Tryz.pinned (OpenSpec.ofChange unitSoundSpec)

/-- ITS FALSE NEIGHBOUR: 'it returns false'. Refute it at one input. -/
def unitSoundWrong : ChangeSpec := { name := "unitSound", fn := fun _ => fun
  | [d1, d2] => { results := [.lit (.bool false)], args := [d1, d2] }
  | _ => none }
def UnitSoundWrongFalsely : Prop := unitSoundRow.holds Tryz.pinned (OpenSpec.ofChange unitSoundWrong)

/- THE SECOND FORM. 'bulk': how many values and letters a reading holds, each counted each time it is reached (what is shared counts as often as it is met; a slice's spare places count too). A statement '..UptoSaid' is the law's where the arguments, and the package variables that the reading takes, are together of bulk at most 1048576: NARROWER than '..Said'. Prove '..Said' where nothing that the law and all that it calls make is longer than what came in: it says more and counts as full. Else prove '..UptoSaid'. A law counts once. -/
mutual
def uptoBulk {H : Type} : DataW H → Nat
  | .lit (.string bytes) => bytes.length + 1
  | .lit _ => 1
  | .nil => 1
  | .ptr d => uptoBulk d + 1
  | .slice elems spare => uptoBulkAll elems + uptoBulkAll spare + 1
  | .agg parts => uptoBulkAll parts + 1
  | .iface _ d => uptoBulk d + 1
  | .map entries => uptoBulkEntries entries + 1
  | .held _ => 1
def uptoBulkAll {H : Type} : List (DataW H) → Nat
  | [] => 0
  | d :: r => uptoBulk d + uptoBulkAll r
def uptoBulkEntries {H : Type} : List (Lit × DataW H) → Nat
  | [] => 0
  | x :: r => uptoBulkEntry x + uptoBulkEntries r
def uptoBulkEntry {H : Type} : Lit × DataW H → Nat
  | (.string bytes, d) => bytes.length + uptoBulk d + 1
  | (_, d) => uptoBulk d + 1
 end
def uptoSmall : (H : Type) → List (DataW H) → Bool := fun _ ds => decide (uptoBulkAll ds ≤ 1048576)
def OpenSpec.upto (s : _root_.Go.ChangeSpec) : _root_.Go.OpenSpec := { _root_.Go.OpenSpec.ofChange s with cond := some uptoSmall }

/-- 'deemsterlaw41.BoundOf', WHERE WHAT IT READS IS OF BULK AT MOST 1048576: true; the input reads as it did. -/
def boundOfUptoRow : OpenClaim := { program := "ytopjfnbonjmnjaagreatdoor", sum := "ff4c0b13b98a4a73df2992d05c0abb0abe558bacef16984a2be80e798989d173", func := "deemster/deemsterlaw41.BoundOf", spec := "boundOf", inPlace := ["internal/bytealg.CountString", "internal/bytealg.IndexByteString", "internal/bytealg.IndexString"], unfollowed := true, recurses := true, named := ["unicode/utf8.first", "unicode/utf8.acceptRanges", "internal/bytealg.MaxLen", "deemster/event.words"], apart := false, laid := [("unicode/utf8.acceptRanges", laid_unicode_utf8_acceptRanges), ("deemster/event.words", laid_deemster_event_words), ("unicode/utf8.first", laid_unicode_utf8_first)], narrowed := true }
def BoundOfUptoSaid : Prop := boundOfUptoRow.holds Tryz.pinned (OpenSpec.upto boundOfSpec)

/-- 'deemsterlaw41.BoundProducts', WHERE WHAT IT READS IS OF BULK AT MOST 1048576: true; the input reads as it did. -/
def boundProductsUptoRow : OpenClaim := { program := "ytopjfnbonjmnjaagreatdoor", sum := "ff4c0b13b98a4a73df2992d05c0abb0abe558bacef16984a2be80e798989d173", func := "deemster/deemsterlaw41.BoundProducts", spec := "boundProducts", inPlace := ["internal/bytealg.CountString", "internal/bytealg.IndexByteString", "internal/bytealg.IndexString"], unfollowed := true, recurses := true, named := ["unicode/utf8.first", "unicode/utf8.acceptRanges", "internal/bytealg.MaxLen", "deemster/event.words"], apart := false, laid := [("unicode/utf8.acceptRanges", laid_unicode_utf8_acceptRanges), ("deemster/event.words", laid_deemster_event_words), ("unicode/utf8.first", laid_unicode_utf8_first)], narrowed := true }
def BoundProductsUptoSaid : Prop := boundProductsUptoRow.holds Tryz.pinned (OpenSpec.upto boundProductsSpec)

/-- 'deemsterlaw15.WriterFresh', WHERE WHAT IT READS IS OF BULK AT MOST 1048576: true; the input reads as it did. -/
def writerFreshUptoRow : OpenClaim := { program := "ytopjfnbonjmnjaagreatdoor", sum := "ff4c0b13b98a4a73df2992d05c0abb0abe558bacef16984a2be80e798989d173", func := "deemster/deemsterlaw15.WriterFresh", spec := "writerFresh", inPlace := ["internal/bytealg.CountString", "internal/bytealg.IndexByteString", "internal/bytealg.IndexString"], unfollowed := true, recurses := true, named := ["unicode/utf8.first", "unicode/utf8.acceptRanges", "internal/bytealg.MaxLen", "deemster/event.words"], apart := false, laid := [("unicode/utf8.acceptRanges", laid_unicode_utf8_acceptRanges), ("deemster/event.words", laid_deemster_event_words), ("unicode/utf8.first", laid_unicode_utf8_first)], narrowed := true }
def WriterFreshUptoSaid : Prop := writerFreshUptoRow.holds Tryz.pinned (OpenSpec.upto writerFreshSpec)

/-- 'deemsterlaw15.WriterOf', WHERE WHAT IT READS IS OF BULK AT MOST 1048576: true; the input reads as it did. -/
def writerOfUptoRow : OpenClaim := { program := "ytopjfnbonjmnjaagreatdoor", sum := "ff4c0b13b98a4a73df2992d05c0abb0abe558bacef16984a2be80e798989d173", func := "deemster/deemsterlaw15.WriterOf", spec := "writerOf", inPlace := ["internal/bytealg.CountString", "internal/bytealg.IndexByteString", "internal/bytealg.IndexString"], unfollowed := true, recurses := true, named := ["unicode/utf8.first", "unicode/utf8.acceptRanges", "internal/bytealg.MaxLen", "deemster/event.words"], apart := false, laid := [("unicode/utf8.acceptRanges", laid_unicode_utf8_acceptRanges), ("deemster/event.words", laid_deemster_event_words), ("unicode/utf8.first", laid_unicode_utf8_first)], narrowed := true }
def WriterOfUptoSaid : Prop := writerOfUptoRow.holds Tryz.pinned (OpenSpec.upto writerOfSpec)

/-- 'deemsterlaw15.WriterHas', WHERE WHAT IT READS IS OF BULK AT MOST 1048576: true; the input reads as it did. -/
def writerHasUptoRow : OpenClaim := { program := "ytopjfnbonjmnjaagreatdoor", sum := "ff4c0b13b98a4a73df2992d05c0abb0abe558bacef16984a2be80e798989d173", func := "deemster/deemsterlaw15.WriterHas", spec := "writerHas", inPlace := ["internal/bytealg.CountString", "internal/bytealg.IndexByteString", "internal/bytealg.IndexString"], unfollowed := true, recurses := true, named := ["unicode/utf8.first", "unicode/utf8.acceptRanges", "internal/bytealg.MaxLen", "deemster/event.words"], apart := false, laid := [("unicode/utf8.acceptRanges", laid_unicode_utf8_acceptRanges), ("deemster/event.words", laid_deemster_event_words), ("unicode/utf8.first", laid_unicode_utf8_first)], narrowed := true }
def WriterHasUptoSaid : Prop := writerHasUptoRow.holds Tryz.pinned (OpenSpec.upto writerHasSpec)

/-- 'deemsterlaw24.WrNext', WHERE WHAT IT READS IS OF BULK AT MOST 1048576: true; the input reads as it did. -/
def wrNextUptoRow : OpenClaim := { program := "ytopjfnbonjmnjaagreatdoor", sum := "ff4c0b13b98a4a73df2992d05c0abb0abe558bacef16984a2be80e798989d173", func := "deemster/deemsterlaw24.WrNext", spec := "wrNext", inPlace := ["internal/bytealg.CountString", "internal/bytealg.IndexByteString", "internal/bytealg.IndexString"], unfollowed := true, recurses := true, named := ["unicode/utf8.first", "unicode/utf8.acceptRanges", "internal/bytealg.MaxLen", "deemster/event.words"], apart := false, laid := [("unicode/utf8.acceptRanges", laid_unicode_utf8_acceptRanges), ("deemster/event.words", laid_deemster_event_words), ("unicode/utf8.first", laid_unicode_utf8_first)], narrowed := true }
def WrNextUptoSaid : Prop := wrNextUptoRow.holds Tryz.pinned (OpenSpec.upto wrNextSpec)

/-- 'deemsterlaw24.WrAll', WHERE WHAT IT READS IS OF BULK AT MOST 1048576: true; the input reads as it did. -/
def wrAllUptoRow : OpenClaim := { program := "ytopjfnbonjmnjaagreatdoor", sum := "ff4c0b13b98a4a73df2992d05c0abb0abe558bacef16984a2be80e798989d173", func := "deemster/deemsterlaw24.WrAll", spec := "wrAll", inPlace := ["internal/bytealg.CountString", "internal/bytealg.IndexByteString", "internal/bytealg.IndexString"], unfollowed := true, recurses := true, named := ["unicode/utf8.first", "unicode/utf8.acceptRanges", "internal/bytealg.MaxLen", "deemster/event.words"], apart := false, laid := [("unicode/utf8.acceptRanges", laid_unicode_utf8_acceptRanges), ("deemster/event.words", laid_deemster_event_words), ("unicode/utf8.first", laid_unicode_utf8_first)], narrowed := true }
def WrAllUptoSaid : Prop := wrAllUptoRow.holds Tryz.pinned (OpenSpec.upto wrAllSpec)

/-- 'deemsterlaw24.WrTells', WHERE WHAT IT READS IS OF BULK AT MOST 1048576: true; the input reads as it did. -/
def wrTellsUptoRow : OpenClaim := { program := "ytopjfnbonjmnjaagreatdoor", sum := "ff4c0b13b98a4a73df2992d05c0abb0abe558bacef16984a2be80e798989d173", func := "deemster/deemsterlaw24.WrTells", spec := "wrTells", inPlace := ["internal/bytealg.CountString", "internal/bytealg.IndexByteString", "internal/bytealg.IndexString"], unfollowed := true, recurses := true, named := ["unicode/utf8.first", "unicode/utf8.acceptRanges", "internal/bytealg.MaxLen", "deemster/event.words"], apart := false, laid := [("unicode/utf8.acceptRanges", laid_unicode_utf8_acceptRanges), ("deemster/event.words", laid_deemster_event_words), ("unicode/utf8.first", laid_unicode_utf8_first)], narrowed := true }
def WrTellsUptoSaid : Prop := wrTellsUptoRow.holds Tryz.pinned (OpenSpec.upto wrTellsSpec)

/-- 'deemsterlaw33.UnitMust', WHERE WHAT IT READS IS OF BULK AT MOST 1048576: true; the input reads as it did. -/
def unitMustUptoRow : OpenClaim := { program := "ytopjfnbonjmnjaagreatdoor", sum := "ff4c0b13b98a4a73df2992d05c0abb0abe558bacef16984a2be80e798989d173", func := "deemster/deemsterlaw33.UnitMust", spec := "unitMust", inPlace := ["internal/bytealg.CountString", "internal/bytealg.IndexByteString", "internal/bytealg.IndexString"], unfollowed := true, recurses := true, named := ["unicode/utf8.first", "unicode/utf8.acceptRanges", "internal/bytealg.MaxLen", "deemster/event.words"], apart := false, laid := [("unicode/utf8.acceptRanges", laid_unicode_utf8_acceptRanges), ("deemster/event.words", laid_deemster_event_words), ("unicode/utf8.first", laid_unicode_utf8_first)], narrowed := true }
def UnitMustUptoSaid : Prop := unitMustUptoRow.holds Tryz.pinned (OpenSpec.upto unitMustSpec)

/-- 'deemsterlaw33.UnitAgainst', WHERE WHAT IT READS IS OF BULK AT MOST 1048576: true; the input reads as it did. -/
def unitAgainstUptoRow : OpenClaim := { program := "ytopjfnbonjmnjaagreatdoor", sum := "ff4c0b13b98a4a73df2992d05c0abb0abe558bacef16984a2be80e798989d173", func := "deemster/deemsterlaw33.UnitAgainst", spec := "unitAgainst", inPlace := ["internal/bytealg.CountString", "internal/bytealg.IndexByteString", "internal/bytealg.IndexString"], unfollowed := true, recurses := true, named := ["unicode/utf8.first", "unicode/utf8.acceptRanges", "internal/bytealg.MaxLen", "deemster/event.words"], apart := false, laid := [("unicode/utf8.acceptRanges", laid_unicode_utf8_acceptRanges), ("deemster/event.words", laid_deemster_event_words), ("unicode/utf8.first", laid_unicode_utf8_first)], narrowed := true }
def UnitAgainstUptoSaid : Prop := unitAgainstUptoRow.holds Tryz.pinned (OpenSpec.upto unitAgainstSpec)

/-- 'deemsterlaw33.UnitSound', WHERE WHAT IT READS IS OF BULK AT MOST 1048576: true; the input reads as it did. -/
def unitSoundUptoRow : OpenClaim := { program := "ytopjfnbonjmnjaagreatdoor", sum := "ff4c0b13b98a4a73df2992d05c0abb0abe558bacef16984a2be80e798989d173", func := "deemster/deemsterlaw33.UnitSound", spec := "unitSound", inPlace := ["internal/bytealg.CountString", "internal/bytealg.IndexByteString", "internal/bytealg.IndexString"], unfollowed := true, recurses := true, named := ["unicode/utf8.first", "unicode/utf8.acceptRanges", "internal/bytealg.MaxLen", "deemster/event.words"], apart := false, laid := [("unicode/utf8.acceptRanges", laid_unicode_utf8_acceptRanges), ("deemster/event.words", laid_deemster_event_words), ("unicode/utf8.first", laid_unicode_utf8_first)], narrowed := true }
def UnitSoundUptoSaid : Prop := unitSoundUptoRow.holds Tryz.pinned (OpenSpec.upto unitSoundSpec)

end Rows
end Go.Proofs.YtopjfnbonjmnjaaGreatDoor
