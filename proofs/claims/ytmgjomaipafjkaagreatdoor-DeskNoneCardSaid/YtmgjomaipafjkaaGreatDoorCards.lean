/-
  DERIVED. GIVEN WITH THE SEED: THE CARDS: each row of YtmgjomaipafjkaaGreatDoorRows.lean that lists a variable, with what it lists TIED to the program's text (the seventh form; the later family's looks); each row that meets fmt, with fmt's text TOLD by the authors' own Lean function (tested against real Go, not proved from fmt's source: count such statements apart). THE CARD IS WHAT COUNTS. Prove the row's statement (the work); the ties are given (YtmgjomaipafjkaaGreatDoorTie.lean); close each card by the builder's one call (the guide's Derived/Test/ToyasCard.lean, 'card_holds'). Laid BY PROGRAM, IN A SANDBOX (cutbox-door.mjs). By AI agents, Wed Nov 11 2026. No macro, syntax, notation, axiom, sorry.
-/
import Derived.Test.YtmgjomaipafjkaaGreatDoorRows
import GoSem.ClaimSeven
namespace Go.Proofs.YtmgjomaipafjkaaGreatDoor
namespace Rows

/-- THE TIED CARD OF 'deemsterlaw35.SearchSkips'. -/
def searchSkipsCard : Claim7 := { stood := { row := searchSkipsRow, standIns := [], harness := (true, "2d8e189d01574642fed1aae2916082d9714b521f1e00ca8f17aaf161cf746292"), looks := true }, kinds := [], alts := [], laidByText := true, laidKinds := [.pinned, .data, .data, .data, .data], laidTests := true, laidLooks := .later }
def SearchSkipsCardSaid : Prop := Claim7.holds Tryz.pinned (.plain (OpenSpec.ofChange searchSkipsSpec)) searchSkipsCard

/-- THE TIED CARD OF 'deemsterlaw36.ForcedOf'. -/
def forcedOfCard : Claim7 := { stood := { row := forcedOfRow, standIns := [], harness := (true, "2d8e189d01574642fed1aae2916082d9714b521f1e00ca8f17aaf161cf746292"), looks := true }, kinds := [], alts := [], laidByText := true, laidKinds := [.pinned, .data, .data, .data, .data], laidTests := true, laidLooks := .later }
def ForcedOfCardSaid : Prop := Claim7.holds Tryz.pinned (.plain (OpenSpec.ofChange forcedOfSpec)) forcedOfCard

/-- THE TIED CARD OF 'deemsterlaw42.CheckWrong'. -/
def checkWrongCard : Claim7 := { stood := { row := checkWrongRow, standIns := [], harness := (true, "2d8e189d01574642fed1aae2916082d9714b521f1e00ca8f17aaf161cf746292"), looks := true }, kinds := [], alts := [], laidByText := true, laidKinds := [.pinned, .data, .data, .data, .data], laidTests := true, laidLooks := .later }
def CheckWrongCardSaid : Prop := Claim7.holds Tryz.pinned (.plain (OpenSpec.ofChange checkWrongSpec)) checkWrongCard

/-- THE TIED CARD OF 'deemsterlaw42.CheckFirst'. -/
def checkFirstCard : Claim7 := { stood := { row := checkFirstRow, standIns := [], harness := (true, "2d8e189d01574642fed1aae2916082d9714b521f1e00ca8f17aaf161cf746292"), looks := true }, kinds := [], alts := [], laidByText := true, laidKinds := [.pinned, .data, .data, .data, .data], laidTests := true, laidLooks := .later }
def CheckFirstCardSaid : Prop := Claim7.holds Tryz.pinned (.plain (OpenSpec.ofChange checkFirstSpec)) checkFirstCard

/-- THE TIED CARD OF 'deemsterlaw38.ReportFits'. -/
def reportFitsCard : Claim7 := { stood := { row := reportFitsRow, standIns := [], harness := (true, "2d8e189d01574642fed1aae2916082d9714b521f1e00ca8f17aaf161cf746292"), looks := true }, kinds := [], alts := [], laidByText := true, laidKinds := [.pinned, .data, .data, .data, .data], laidTests := true, laidLooks := .later }
def ReportFitsCardSaid : Prop := Claim7.holds Tryz.pinned (.plain (OpenSpec.ofChange reportFitsSpec)) reportFitsCard

/-- THE TIED CARD OF 'deemsterlaw38.ReportMays'. -/
def reportMaysCard : Claim7 := { stood := { row := reportMaysRow, standIns := [], harness := (true, "2d8e189d01574642fed1aae2916082d9714b521f1e00ca8f17aaf161cf746292"), looks := true }, kinds := [], alts := [], laidByText := true, laidKinds := [.pinned, .data, .data, .data, .data], laidTests := true, laidLooks := .later }
def ReportMaysCardSaid : Prop := Claim7.holds Tryz.pinned (.plain (OpenSpec.ofChange reportMaysSpec)) reportMaysCard

/-- THE TIED CARD OF 'deemsterlaw39.TextPrints'. -/
def textPrintsCard : Claim7 := { stood := { row := textPrintsRow, standIns := [], harness := (true, "2d8e189d01574642fed1aae2916082d9714b521f1e00ca8f17aaf161cf746292"), looks := true }, kinds := [], alts := [], laidByText := true, laidKinds := [.pinned, .data, .data, .data, .data, .data, .data, .data, .data], laidTests := true, laidLooks := .later }
def TextPrintsCardSaid : Prop := Claim7.holds Tryz.pinned (.plain (OpenSpec.ofChange textPrintsSpec)) textPrintsCard

/-- THE TIED CARD OF 'deemsterlaw39.TextWords'. -/
def textWordsCard : Claim7 := { stood := { row := textWordsRow, standIns := [], harness := (true, "2d8e189d01574642fed1aae2916082d9714b521f1e00ca8f17aaf161cf746292"), looks := true }, kinds := [], alts := [], laidByText := true, laidKinds := [.data, .data, .data, .pinned, .data, .data, .data, .data, .data], laidTests := true, laidLooks := .later }
def TextWordsCardSaid : Prop := Claim7.holds Tryz.pinned (.plain (OpenSpec.ofChange textWordsSpec)) textWordsCard

/-- THE TIED CARD OF 'deemsterlaw39.TextApart'. -/
def textApartCard : Claim7 := { stood := { row := textApartRow, standIns := [], harness := (true, "2d8e189d01574642fed1aae2916082d9714b521f1e00ca8f17aaf161cf746292"), looks := true }, kinds := [], alts := [], laidByText := true, laidKinds := [.pinned, .data, .data, .data, .data, .data, .data, .data, .data], laidTests := true, laidLooks := .later }
def TextApartCardSaid : Prop := Claim7.holds Tryz.pinned (.plain (OpenSpec.ofChange textApartSpec)) textApartCard

/-- THE TIED CARD OF 'deemsterlaw40.BackParses'. -/
def backParsesCard : Claim7 := { stood := { row := backParsesRow, standIns := [], harness := (true, "2d8e189d01574642fed1aae2916082d9714b521f1e00ca8f17aaf161cf746292"), looks := true }, kinds := [], alts := [], laidByText := true, laidKinds := [.pinned, .data, .data, .data, .data, .data, .data, .data, .data], laidTests := true, laidLooks := .later }
def BackParsesCardSaid : Prop := Claim7.holds Tryz.pinned (.plain (OpenSpec.ofChange backParsesSpec)) backParsesCard

/-- THE TIED CARD OF 'deemsterlaw40.BackReasons'. -/
def backReasonsCard : Claim7 := { stood := { row := backReasonsRow, standIns := [], harness := (true, "2d8e189d01574642fed1aae2916082d9714b521f1e00ca8f17aaf161cf746292"), looks := true }, kinds := [], alts := [], laidByText := true, laidKinds := [.pinned, .data, .data, .data, .data, .data, .data, .data, .data], laidTests := true, laidLooks := .later }
def BackReasonsCardSaid : Prop := Claim7.holds Tryz.pinned (.plain (OpenSpec.ofChange backReasonsSpec)) backReasonsCard

/-- THE TIED CARD OF 'deemsterlaw44.DeskNone'. -/
def deskNoneCard : Claim7 := { stood := { row := deskNoneRow, standIns := [], harness := (true, "2d8e189d01574642fed1aae2916082d9714b521f1e00ca8f17aaf161cf746292"), looks := true }, kinds := [], alts := [], laidByText := true, laidKinds := [.data, .data, .pinned, .data, .data, .data, .data, .data, .data, .data], laidTests := true, laidLooks := .later }
def DeskNoneCardSaid : Prop := Claim7.holds Tryz.pinned (.plain (OpenSpec.ofChange deskNoneSpec)) deskNoneCard

/-- THE SECOND FORM's CARD OF 'deemsterlaw35.SearchSkips'. -/
def searchSkipsUptoCard : Claim7 := { stood := { row := searchSkipsUptoRow, standIns := [], harness := (true, "2d8e189d01574642fed1aae2916082d9714b521f1e00ca8f17aaf161cf746292"), looks := true }, kinds := [], alts := [], laidByText := true, laidKinds := [.pinned, .data, .data, .data, .data], laidTests := true, laidLooks := .later }
def SearchSkipsUptoCardSaid : Prop := Claim7.holds Tryz.pinned (.plain (OpenSpec.upto searchSkipsSpec)) searchSkipsUptoCard

/-- THE SECOND FORM's CARD OF 'deemsterlaw36.ForcedOf'. -/
def forcedOfUptoCard : Claim7 := { stood := { row := forcedOfUptoRow, standIns := [], harness := (true, "2d8e189d01574642fed1aae2916082d9714b521f1e00ca8f17aaf161cf746292"), looks := true }, kinds := [], alts := [], laidByText := true, laidKinds := [.pinned, .data, .data, .data, .data], laidTests := true, laidLooks := .later }
def ForcedOfUptoCardSaid : Prop := Claim7.holds Tryz.pinned (.plain (OpenSpec.upto forcedOfSpec)) forcedOfUptoCard

/-- THE SECOND FORM's CARD OF 'deemsterlaw42.CheckWrong'. -/
def checkWrongUptoCard : Claim7 := { stood := { row := checkWrongUptoRow, standIns := [], harness := (true, "2d8e189d01574642fed1aae2916082d9714b521f1e00ca8f17aaf161cf746292"), looks := true }, kinds := [], alts := [], laidByText := true, laidKinds := [.pinned, .data, .data, .data, .data], laidTests := true, laidLooks := .later }
def CheckWrongUptoCardSaid : Prop := Claim7.holds Tryz.pinned (.plain (OpenSpec.upto checkWrongSpec)) checkWrongUptoCard

/-- THE SECOND FORM's CARD OF 'deemsterlaw42.CheckFirst'. -/
def checkFirstUptoCard : Claim7 := { stood := { row := checkFirstUptoRow, standIns := [], harness := (true, "2d8e189d01574642fed1aae2916082d9714b521f1e00ca8f17aaf161cf746292"), looks := true }, kinds := [], alts := [], laidByText := true, laidKinds := [.pinned, .data, .data, .data, .data], laidTests := true, laidLooks := .later }
def CheckFirstUptoCardSaid : Prop := Claim7.holds Tryz.pinned (.plain (OpenSpec.upto checkFirstSpec)) checkFirstUptoCard

/-- THE SECOND FORM's CARD OF 'deemsterlaw38.ReportFits'. -/
def reportFitsUptoCard : Claim7 := { stood := { row := reportFitsUptoRow, standIns := [], harness := (true, "2d8e189d01574642fed1aae2916082d9714b521f1e00ca8f17aaf161cf746292"), looks := true }, kinds := [], alts := [], laidByText := true, laidKinds := [.pinned, .data, .data, .data, .data], laidTests := true, laidLooks := .later }
def ReportFitsUptoCardSaid : Prop := Claim7.holds Tryz.pinned (.plain (OpenSpec.upto reportFitsSpec)) reportFitsUptoCard

/-- THE SECOND FORM's CARD OF 'deemsterlaw38.ReportMays'. -/
def reportMaysUptoCard : Claim7 := { stood := { row := reportMaysUptoRow, standIns := [], harness := (true, "2d8e189d01574642fed1aae2916082d9714b521f1e00ca8f17aaf161cf746292"), looks := true }, kinds := [], alts := [], laidByText := true, laidKinds := [.pinned, .data, .data, .data, .data], laidTests := true, laidLooks := .later }
def ReportMaysUptoCardSaid : Prop := Claim7.holds Tryz.pinned (.plain (OpenSpec.upto reportMaysSpec)) reportMaysUptoCard

/-- THE SECOND FORM's CARD OF 'deemsterlaw39.TextPrints'. -/
def textPrintsUptoCard : Claim7 := { stood := { row := textPrintsUptoRow, standIns := [], harness := (true, "2d8e189d01574642fed1aae2916082d9714b521f1e00ca8f17aaf161cf746292"), looks := true }, kinds := [], alts := [], laidByText := true, laidKinds := [.pinned, .data, .data, .data, .data, .data, .data, .data, .data], laidTests := true, laidLooks := .later }
def TextPrintsUptoCardSaid : Prop := Claim7.holds Tryz.pinned (.plain (OpenSpec.upto textPrintsSpec)) textPrintsUptoCard

/-- THE SECOND FORM's CARD OF 'deemsterlaw39.TextWords'. -/
def textWordsUptoCard : Claim7 := { stood := { row := textWordsUptoRow, standIns := [], harness := (true, "2d8e189d01574642fed1aae2916082d9714b521f1e00ca8f17aaf161cf746292"), looks := true }, kinds := [], alts := [], laidByText := true, laidKinds := [.data, .data, .data, .pinned, .data, .data, .data, .data, .data], laidTests := true, laidLooks := .later }
def TextWordsUptoCardSaid : Prop := Claim7.holds Tryz.pinned (.plain (OpenSpec.upto textWordsSpec)) textWordsUptoCard

/-- THE SECOND FORM's CARD OF 'deemsterlaw39.TextApart'. -/
def textApartUptoCard : Claim7 := { stood := { row := textApartUptoRow, standIns := [], harness := (true, "2d8e189d01574642fed1aae2916082d9714b521f1e00ca8f17aaf161cf746292"), looks := true }, kinds := [], alts := [], laidByText := true, laidKinds := [.pinned, .data, .data, .data, .data, .data, .data, .data, .data], laidTests := true, laidLooks := .later }
def TextApartUptoCardSaid : Prop := Claim7.holds Tryz.pinned (.plain (OpenSpec.upto textApartSpec)) textApartUptoCard

/-- THE SECOND FORM's CARD OF 'deemsterlaw40.BackParses'. -/
def backParsesUptoCard : Claim7 := { stood := { row := backParsesUptoRow, standIns := [], harness := (true, "2d8e189d01574642fed1aae2916082d9714b521f1e00ca8f17aaf161cf746292"), looks := true }, kinds := [], alts := [], laidByText := true, laidKinds := [.pinned, .data, .data, .data, .data, .data, .data, .data, .data], laidTests := true, laidLooks := .later }
def BackParsesUptoCardSaid : Prop := Claim7.holds Tryz.pinned (.plain (OpenSpec.upto backParsesSpec)) backParsesUptoCard

/-- THE SECOND FORM's CARD OF 'deemsterlaw40.BackReasons'. -/
def backReasonsUptoCard : Claim7 := { stood := { row := backReasonsUptoRow, standIns := [], harness := (true, "2d8e189d01574642fed1aae2916082d9714b521f1e00ca8f17aaf161cf746292"), looks := true }, kinds := [], alts := [], laidByText := true, laidKinds := [.pinned, .data, .data, .data, .data, .data, .data, .data, .data], laidTests := true, laidLooks := .later }
def BackReasonsUptoCardSaid : Prop := Claim7.holds Tryz.pinned (.plain (OpenSpec.upto backReasonsSpec)) backReasonsUptoCard

/-- THE SECOND FORM's CARD OF 'deemsterlaw44.DeskNone'. -/
def deskNoneUptoCard : Claim7 := { stood := { row := deskNoneUptoRow, standIns := [], harness := (true, "2d8e189d01574642fed1aae2916082d9714b521f1e00ca8f17aaf161cf746292"), looks := true }, kinds := [], alts := [], laidByText := true, laidKinds := [.data, .data, .pinned, .data, .data, .data, .data, .data, .data, .data], laidTests := true, laidLooks := .later }
def DeskNoneUptoCardSaid : Prop := Claim7.holds Tryz.pinned (.plain (OpenSpec.upto deskNoneSpec)) deskNoneUptoCard
end Rows
end Go.Proofs.YtmgjomaipafjkaaGreatDoor
