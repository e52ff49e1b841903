/-
  DERIVED. GIVEN WITH THE SEED: THE CARDS: each row of YtopjfnbonjmnjaaGreatDoorRows.lean that lists a variable, with what it lists TIED to the program's text (the seventh form; the later family's looks); each row that meets fmt, with fmt's text TOLD by the authors' own Lean function (tested against real Go, not proved from fmt's source: count such statements apart). THE CARD IS WHAT COUNTS. Prove the row's statement (the work); the ties are given (YtopjfnbonjmnjaaGreatDoorTie.lean); close each card by the builder's one call (the guide's Derived/Test/ToyasCard.lean, 'card_holds'). Laid BY PROGRAM, IN A SANDBOX (cutbox-door.mjs). By AI agents, Wed Nov 11 2026. No macro, syntax, notation, axiom, sorry.
-/
import Derived.Test.YtopjfnbonjmnjaaGreatDoorRows
import GoSem.ClaimSeven
namespace Go.Proofs.YtopjfnbonjmnjaaGreatDoor
namespace Rows

/-- THE TIED CARD OF 'deemsterlaw41.BoundOf'. -/
def boundOfCard : Claim7 := { stood := { row := boundOfRow, standIns := [], harness := (true, "1de7925f41e92f3b985b91f6151c619ab6f5f33192a818afc04002d78f2b0e76"), looks := true }, kinds := [], alts := [], laidByText := true, laidKinds := [.data, .data, .pinned], laidTests := true, laidLooks := .later }
def BoundOfCardSaid : Prop := Claim7.holds Tryz.pinned (.plain (OpenSpec.ofChange boundOfSpec)) boundOfCard

/-- THE TIED CARD OF 'deemsterlaw41.BoundProducts'. -/
def boundProductsCard : Claim7 := { stood := { row := boundProductsRow, standIns := [], harness := (true, "1de7925f41e92f3b985b91f6151c619ab6f5f33192a818afc04002d78f2b0e76"), looks := true }, kinds := [], alts := [], laidByText := true, laidKinds := [.data, .data, .pinned], laidTests := true, laidLooks := .later }
def BoundProductsCardSaid : Prop := Claim7.holds Tryz.pinned (.plain (OpenSpec.ofChange boundProductsSpec)) boundProductsCard

/-- THE TIED CARD OF 'deemsterlaw15.WriterFresh'. -/
def writerFreshCard : Claim7 := { stood := { row := writerFreshRow, standIns := [], harness := (true, "1de7925f41e92f3b985b91f6151c619ab6f5f33192a818afc04002d78f2b0e76"), looks := true }, kinds := [], alts := [], laidByText := true, laidKinds := [.data, .data, .pinned], laidTests := true, laidLooks := .later }
def WriterFreshCardSaid : Prop := Claim7.holds Tryz.pinned (.plain (OpenSpec.ofChange writerFreshSpec)) writerFreshCard

/-- THE TIED CARD OF 'deemsterlaw15.WriterOf'. -/
def writerOfCard : Claim7 := { stood := { row := writerOfRow, standIns := [], harness := (true, "1de7925f41e92f3b985b91f6151c619ab6f5f33192a818afc04002d78f2b0e76"), looks := true }, kinds := [], alts := [], laidByText := true, laidKinds := [.data, .data, .pinned], laidTests := true, laidLooks := .later }
def WriterOfCardSaid : Prop := Claim7.holds Tryz.pinned (.plain (OpenSpec.ofChange writerOfSpec)) writerOfCard

/-- THE TIED CARD OF 'deemsterlaw15.WriterHas'. -/
def writerHasCard : Claim7 := { stood := { row := writerHasRow, standIns := [], harness := (true, "1de7925f41e92f3b985b91f6151c619ab6f5f33192a818afc04002d78f2b0e76"), looks := true }, kinds := [], alts := [], laidByText := true, laidKinds := [.data, .data, .pinned], laidTests := true, laidLooks := .later }
def WriterHasCardSaid : Prop := Claim7.holds Tryz.pinned (.plain (OpenSpec.ofChange writerHasSpec)) writerHasCard

/-- THE TIED CARD OF 'deemsterlaw24.WrNext'. -/
def wrNextCard : Claim7 := { stood := { row := wrNextRow, standIns := [], harness := (true, "1de7925f41e92f3b985b91f6151c619ab6f5f33192a818afc04002d78f2b0e76"), looks := true }, kinds := [], alts := [], laidByText := true, laidKinds := [.data, .data, .pinned], laidTests := true, laidLooks := .later }
def WrNextCardSaid : Prop := Claim7.holds Tryz.pinned (.plain (OpenSpec.ofChange wrNextSpec)) wrNextCard

/-- THE TIED CARD OF 'deemsterlaw24.WrAll'. -/
def wrAllCard : Claim7 := { stood := { row := wrAllRow, standIns := [], harness := (true, "1de7925f41e92f3b985b91f6151c619ab6f5f33192a818afc04002d78f2b0e76"), looks := true }, kinds := [], alts := [], laidByText := true, laidKinds := [.data, .data, .pinned], laidTests := true, laidLooks := .later }
def WrAllCardSaid : Prop := Claim7.holds Tryz.pinned (.plain (OpenSpec.ofChange wrAllSpec)) wrAllCard

/-- THE TIED CARD OF 'deemsterlaw24.WrTells'. -/
def wrTellsCard : Claim7 := { stood := { row := wrTellsRow, standIns := [], harness := (true, "1de7925f41e92f3b985b91f6151c619ab6f5f33192a818afc04002d78f2b0e76"), looks := true }, kinds := [], alts := [], laidByText := true, laidKinds := [.data, .data, .pinned], laidTests := true, laidLooks := .later }
def WrTellsCardSaid : Prop := Claim7.holds Tryz.pinned (.plain (OpenSpec.ofChange wrTellsSpec)) wrTellsCard

/-- THE TIED CARD OF 'deemsterlaw33.UnitMust'. -/
def unitMustCard : Claim7 := { stood := { row := unitMustRow, standIns := [], harness := (true, "1de7925f41e92f3b985b91f6151c619ab6f5f33192a818afc04002d78f2b0e76"), looks := true }, kinds := [], alts := [], laidByText := true, laidKinds := [.data, .data, .pinned], laidTests := true, laidLooks := .later }
def UnitMustCardSaid : Prop := Claim7.holds Tryz.pinned (.plain (OpenSpec.ofChange unitMustSpec)) unitMustCard

/-- THE TIED CARD OF 'deemsterlaw33.UnitAgainst'. -/
def unitAgainstCard : Claim7 := { stood := { row := unitAgainstRow, standIns := [], harness := (true, "1de7925f41e92f3b985b91f6151c619ab6f5f33192a818afc04002d78f2b0e76"), looks := true }, kinds := [], alts := [], laidByText := true, laidKinds := [.data, .data, .pinned], laidTests := true, laidLooks := .later }
def UnitAgainstCardSaid : Prop := Claim7.holds Tryz.pinned (.plain (OpenSpec.ofChange unitAgainstSpec)) unitAgainstCard

/-- THE TIED CARD OF 'deemsterlaw33.UnitSound'. -/
def unitSoundCard : Claim7 := { stood := { row := unitSoundRow, standIns := [], harness := (true, "1de7925f41e92f3b985b91f6151c619ab6f5f33192a818afc04002d78f2b0e76"), looks := true }, kinds := [], alts := [], laidByText := true, laidKinds := [.data, .data, .pinned], laidTests := true, laidLooks := .later }
def UnitSoundCardSaid : Prop := Claim7.holds Tryz.pinned (.plain (OpenSpec.ofChange unitSoundSpec)) unitSoundCard

/-- THE SECOND FORM's CARD OF 'deemsterlaw41.BoundOf'. -/
def boundOfUptoCard : Claim7 := { stood := { row := boundOfUptoRow, standIns := [], harness := (true, "1de7925f41e92f3b985b91f6151c619ab6f5f33192a818afc04002d78f2b0e76"), looks := true }, kinds := [], alts := [], laidByText := true, laidKinds := [.data, .data, .pinned], laidTests := true, laidLooks := .later }
def BoundOfUptoCardSaid : Prop := Claim7.holds Tryz.pinned (.plain (OpenSpec.upto boundOfSpec)) boundOfUptoCard

/-- THE SECOND FORM's CARD OF 'deemsterlaw41.BoundProducts'. -/
def boundProductsUptoCard : Claim7 := { stood := { row := boundProductsUptoRow, standIns := [], harness := (true, "1de7925f41e92f3b985b91f6151c619ab6f5f33192a818afc04002d78f2b0e76"), looks := true }, kinds := [], alts := [], laidByText := true, laidKinds := [.data, .data, .pinned], laidTests := true, laidLooks := .later }
def BoundProductsUptoCardSaid : Prop := Claim7.holds Tryz.pinned (.plain (OpenSpec.upto boundProductsSpec)) boundProductsUptoCard

/-- THE SECOND FORM's CARD OF 'deemsterlaw15.WriterFresh'. -/
def writerFreshUptoCard : Claim7 := { stood := { row := writerFreshUptoRow, standIns := [], harness := (true, "1de7925f41e92f3b985b91f6151c619ab6f5f33192a818afc04002d78f2b0e76"), looks := true }, kinds := [], alts := [], laidByText := true, laidKinds := [.data, .data, .pinned], laidTests := true, laidLooks := .later }
def WriterFreshUptoCardSaid : Prop := Claim7.holds Tryz.pinned (.plain (OpenSpec.upto writerFreshSpec)) writerFreshUptoCard

/-- THE SECOND FORM's CARD OF 'deemsterlaw15.WriterOf'. -/
def writerOfUptoCard : Claim7 := { stood := { row := writerOfUptoRow, standIns := [], harness := (true, "1de7925f41e92f3b985b91f6151c619ab6f5f33192a818afc04002d78f2b0e76"), looks := true }, kinds := [], alts := [], laidByText := true, laidKinds := [.data, .data, .pinned], laidTests := true, laidLooks := .later }
def WriterOfUptoCardSaid : Prop := Claim7.holds Tryz.pinned (.plain (OpenSpec.upto writerOfSpec)) writerOfUptoCard

/-- THE SECOND FORM's CARD OF 'deemsterlaw15.WriterHas'. -/
def writerHasUptoCard : Claim7 := { stood := { row := writerHasUptoRow, standIns := [], harness := (true, "1de7925f41e92f3b985b91f6151c619ab6f5f33192a818afc04002d78f2b0e76"), looks := true }, kinds := [], alts := [], laidByText := true, laidKinds := [.data, .data, .pinned], laidTests := true, laidLooks := .later }
def WriterHasUptoCardSaid : Prop := Claim7.holds Tryz.pinned (.plain (OpenSpec.upto writerHasSpec)) writerHasUptoCard

/-- THE SECOND FORM's CARD OF 'deemsterlaw24.WrNext'. -/
def wrNextUptoCard : Claim7 := { stood := { row := wrNextUptoRow, standIns := [], harness := (true, "1de7925f41e92f3b985b91f6151c619ab6f5f33192a818afc04002d78f2b0e76"), looks := true }, kinds := [], alts := [], laidByText := true, laidKinds := [.data, .data, .pinned], laidTests := true, laidLooks := .later }
def WrNextUptoCardSaid : Prop := Claim7.holds Tryz.pinned (.plain (OpenSpec.upto wrNextSpec)) wrNextUptoCard

/-- THE SECOND FORM's CARD OF 'deemsterlaw24.WrAll'. -/
def wrAllUptoCard : Claim7 := { stood := { row := wrAllUptoRow, standIns := [], harness := (true, "1de7925f41e92f3b985b91f6151c619ab6f5f33192a818afc04002d78f2b0e76"), looks := true }, kinds := [], alts := [], laidByText := true, laidKinds := [.data, .data, .pinned], laidTests := true, laidLooks := .later }
def WrAllUptoCardSaid : Prop := Claim7.holds Tryz.pinned (.plain (OpenSpec.upto wrAllSpec)) wrAllUptoCard

/-- THE SECOND FORM's CARD OF 'deemsterlaw24.WrTells'. -/
def wrTellsUptoCard : Claim7 := { stood := { row := wrTellsUptoRow, standIns := [], harness := (true, "1de7925f41e92f3b985b91f6151c619ab6f5f33192a818afc04002d78f2b0e76"), looks := true }, kinds := [], alts := [], laidByText := true, laidKinds := [.data, .data, .pinned], laidTests := true, laidLooks := .later }
def WrTellsUptoCardSaid : Prop := Claim7.holds Tryz.pinned (.plain (OpenSpec.upto wrTellsSpec)) wrTellsUptoCard

/-- THE SECOND FORM's CARD OF 'deemsterlaw33.UnitMust'. -/
def unitMustUptoCard : Claim7 := { stood := { row := unitMustUptoRow, standIns := [], harness := (true, "1de7925f41e92f3b985b91f6151c619ab6f5f33192a818afc04002d78f2b0e76"), looks := true }, kinds := [], alts := [], laidByText := true, laidKinds := [.data, .data, .pinned], laidTests := true, laidLooks := .later }
def UnitMustUptoCardSaid : Prop := Claim7.holds Tryz.pinned (.plain (OpenSpec.upto unitMustSpec)) unitMustUptoCard

/-- THE SECOND FORM's CARD OF 'deemsterlaw33.UnitAgainst'. -/
def unitAgainstUptoCard : Claim7 := { stood := { row := unitAgainstUptoRow, standIns := [], harness := (true, "1de7925f41e92f3b985b91f6151c619ab6f5f33192a818afc04002d78f2b0e76"), looks := true }, kinds := [], alts := [], laidByText := true, laidKinds := [.data, .data, .pinned], laidTests := true, laidLooks := .later }
def UnitAgainstUptoCardSaid : Prop := Claim7.holds Tryz.pinned (.plain (OpenSpec.upto unitAgainstSpec)) unitAgainstUptoCard

/-- THE SECOND FORM's CARD OF 'deemsterlaw33.UnitSound'. -/
def unitSoundUptoCard : Claim7 := { stood := { row := unitSoundUptoRow, standIns := [], harness := (true, "1de7925f41e92f3b985b91f6151c619ab6f5f33192a818afc04002d78f2b0e76"), looks := true }, kinds := [], alts := [], laidByText := true, laidKinds := [.data, .data, .pinned], laidTests := true, laidLooks := .later }
def UnitSoundUptoCardSaid : Prop := Claim7.holds Tryz.pinned (.plain (OpenSpec.upto unitSoundSpec)) unitSoundUptoCard
end Rows
end Go.Proofs.YtopjfnbonjmnjaaGreatDoor
