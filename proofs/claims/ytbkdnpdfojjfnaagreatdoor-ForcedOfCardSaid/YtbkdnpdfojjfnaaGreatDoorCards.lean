/-
  DERIVED. GIVEN WITH THE SEED: THE CARDS: each row of YtbkdnpdfojjfnaaGreatDoorRows.lean that lists a variable, with what it lists TIED to the program's text (the seventh form; the later family's looks); each row that meets fmt, with fmt's text TOLD by the authors' own Lean function (tested against real Go, not proved from fmt's source: count such statements apart). THE CARD IS WHAT COUNTS. Prove the row's statement (the work); the ties are given (YtbkdnpdfojjfnaaGreatDoorTie.lean); close each card by the builder's one call (the guide's Derived/Test/ToyasCard.lean, 'card_holds'). Laid BY PROGRAM, IN A SANDBOX (cutbox-door.mjs). By AI agents, Wed Nov 11 2026. No macro, syntax, notation, axiom, sorry.
-/
import Derived.Test.YtbkdnpdfojjfnaaGreatDoorRows
import GoSem.ClaimSeven
namespace Go.Proofs.YtbkdnpdfojjfnaaGreatDoor
namespace Rows

/-- THE TIED CARD OF 'deemsterlaw36.ForcedOf'. -/
def forcedOfCard : Claim7 := { stood := { row := forcedOfRow, standIns := [], harness := (true, "81dc4254cff82be447bc953d684ee9a9638d7bad26a5555eec23e84527a1ca6b"), looks := true }, kinds := [], alts := [], laidByText := true, laidKinds := [.data, .data, .data, .data, .pinned], laidTests := true, laidLooks := .later }
def ForcedOfCardSaid : Prop := Claim7.holds Tryz.pinned (.plain (OpenSpec.ofChange forcedOfSpec)) forcedOfCard

/-- THE SECOND FORM's CARD OF 'deemsterlaw36.ForcedOf'. -/
def forcedOfUptoCard : Claim7 := { stood := { row := forcedOfUptoRow, standIns := [], harness := (true, "81dc4254cff82be447bc953d684ee9a9638d7bad26a5555eec23e84527a1ca6b"), looks := true }, kinds := [], alts := [], laidByText := true, laidKinds := [.data, .data, .data, .data, .pinned], laidTests := true, laidLooks := .later }
def ForcedOfUptoCardSaid : Prop := Claim7.holds Tryz.pinned (.plain (OpenSpec.upto forcedOfSpec)) forcedOfUptoCard
end Rows
end Go.Proofs.YtbkdnpdfojjfnaaGreatDoor
