/-
  DERIVED. GIVEN WITH THE SEED: THE CARDS: each row of YtlologakfnhgkaaGreatDoorRows.lean that lists a variable, with what it lists TIED to the program's text (the seventh form; the later family's looks); each row that meets fmt, with fmt's text TOLD by the authors' own Lean function (tested against real Go, not proved from fmt's source: count such statements apart). THE CARD IS WHAT COUNTS. Prove the row's statement (the work); the ties are given (YtlologakfnhgkaaGreatDoorTie.lean); close each card by the builder's one call (the guide's Derived/Test/ToyasCard.lean, 'card_holds'). Laid BY PROGRAM, IN A SANDBOX (cutbox-door.mjs). By AI agents, Wed Nov 11 2026. No macro, syntax, notation, axiom, sorry.
-/
import Derived.Test.YtlologakfnhgkaaGreatDoorRows
import GoSem.ClaimSeven
namespace Go.Proofs.YtlologakfnhgkaaGreatDoor
namespace Rows

/-- THE TIED CARD OF 'deemsterlaw39.TextWords'. -/
def textWordsCard : Claim7 := { stood := { row := textWordsRow, standIns := [], harness := (true, "d29382174c04055d5886808ba153b520740d13c6210af2aba29e3953ec95b050"), looks := true }, kinds := [], alts := [], laidByText := true, laidKinds := [.data, .data, .data, .data, .data, .data, .data, .data, .pinned], laidTests := true, laidLooks := .later }
def TextWordsCardSaid : Prop := Claim7.holds Tryz.pinned (.plain (OpenSpec.ofChange textWordsSpec)) textWordsCard

/-- THE SECOND FORM's CARD OF 'deemsterlaw39.TextWords'. -/
def textWordsUptoCard : Claim7 := { stood := { row := textWordsUptoRow, standIns := [], harness := (true, "d29382174c04055d5886808ba153b520740d13c6210af2aba29e3953ec95b050"), looks := true }, kinds := [], alts := [], laidByText := true, laidKinds := [.data, .data, .data, .data, .data, .data, .data, .data, .pinned], laidTests := true, laidLooks := .later }
def TextWordsUptoCardSaid : Prop := Claim7.holds Tryz.pinned (.plain (OpenSpec.upto textWordsSpec)) textWordsUptoCard
end Rows
end Go.Proofs.YtlologakfnhgkaaGreatDoor
