/-
  DERIVED. GIVEN WITH THE SEED: THE CARDS: each row of YtphecmnehkdihaaGreatDoorRows.lean that lists a variable, with what it lists TIED to the program's text (the seventh form; the later family's looks); each row that meets fmt, with fmt's text TOLD by the authors' own Lean function (tested against real Go, not proved from fmt's source: count such statements apart). THE CARD IS WHAT COUNTS. Prove the row's statement (the work); the ties are given (YtphecmnehkdihaaGreatDoorTie.lean); close each card by the builder's one call (the guide's Derived/Test/ToyasCard.lean, 'card_holds'). Laid BY PROGRAM, IN A SANDBOX (cutbox-door.mjs). By AI agents, Wed Nov 11 2026. No macro, syntax, notation, axiom, sorry.
-/
import Derived.Test.YtphecmnehkdihaaGreatDoorRows
import GoSem.ClaimSeven
namespace Go.Proofs.YtphecmnehkdihaaGreatDoor
namespace Rows

/-- THE TIED CARD OF 'deemsterlaw26.CertChecks'. -/
def certChecksCard : Claim7 := { stood := { row := certChecksRow, standIns := [], harness := (true, "ddad50b1b575b381d889c3ec4d78780feb7814610170717cea00257deaf5bed9"), looks := true }, kinds := [], alts := [], laidByText := true, laidKinds := [.data, .data, .pinned], laidTests := true, laidLooks := .later }
def CertChecksCardSaid : Prop := Claim7.holds Tryz.pinned (.plain (OpenSpec.ofChange certChecksSpec)) certChecksCard

/-- THE TIED CARD OF 'deemsterlaw26.CertSound'. -/
def certSoundCard : Claim7 := { stood := { row := certSoundRow, standIns := [], harness := (true, "ddad50b1b575b381d889c3ec4d78780feb7814610170717cea00257deaf5bed9"), looks := true }, kinds := [], alts := [], laidByText := true, laidKinds := [.data, .data, .pinned], laidTests := true, laidLooks := .later }
def CertSoundCardSaid : Prop := Claim7.holds Tryz.pinned (.plain (OpenSpec.ofChange certSoundSpec)) certSoundCard

/-- THE TIED CARD OF 'deemsterlaw26.CertLevels'. -/
def certLevelsCard : Claim7 := { stood := { row := certLevelsRow, standIns := [], harness := (true, "ddad50b1b575b381d889c3ec4d78780feb7814610170717cea00257deaf5bed9"), looks := true }, kinds := [], alts := [], laidByText := true, laidKinds := [.data, .data, .pinned], laidTests := true, laidLooks := .later }
def CertLevelsCardSaid : Prop := Claim7.holds Tryz.pinned (.plain (OpenSpec.ofChange certLevelsSpec)) certLevelsCard

/-- THE TIED CARD OF 'deemsterlaw25.AxiomHolds'. -/
def axiomHoldsCard : Claim7 := { stood := { row := axiomHoldsRow, standIns := [], harness := (true, "ddad50b1b575b381d889c3ec4d78780feb7814610170717cea00257deaf5bed9"), looks := true }, kinds := [], alts := [], laidByText := true, laidKinds := [.data, .data, .pinned], laidTests := true, laidLooks := .later }
def AxiomHoldsCardSaid : Prop := Claim7.holds Tryz.pinned (.plain (OpenSpec.ofChange axiomHoldsSpec)) axiomHoldsCard

/-- THE TIED CARD OF 'deemsterlaw25.AxiomLevels'. -/
def axiomLevelsCard : Claim7 := { stood := { row := axiomLevelsRow, standIns := [], harness := (true, "ddad50b1b575b381d889c3ec4d78780feb7814610170717cea00257deaf5bed9"), looks := true }, kinds := [], alts := [], laidByText := true, laidKinds := [.data, .data, .pinned], laidTests := true, laidLooks := .later }
def AxiomLevelsCardSaid : Prop := Claim7.holds Tryz.pinned (.plain (OpenSpec.ofChange axiomLevelsSpec)) axiomLevelsCard

/-- THE TIED CARD OF 'deemsterlaw25.AxiomSeen'. -/
def axiomSeenCard : Claim7 := { stood := { row := axiomSeenRow, standIns := [], harness := (true, "ddad50b1b575b381d889c3ec4d78780feb7814610170717cea00257deaf5bed9"), looks := true }, kinds := [], alts := [], laidByText := true, laidKinds := [.data, .data, .pinned], laidTests := true, laidLooks := .later }
def AxiomSeenCardSaid : Prop := Claim7.holds Tryz.pinned (.plain (OpenSpec.ofChange axiomSeenSpec)) axiomSeenCard

/-- THE TIED CARD OF 'deemsterlaw28.FrontOrders'. -/
def frontOrdersCard : Claim7 := { stood := { row := frontOrdersRow, standIns := [], harness := (true, "ddad50b1b575b381d889c3ec4d78780feb7814610170717cea00257deaf5bed9"), looks := true }, kinds := [], alts := [], laidByText := true, laidKinds := [.data, .data, .data, .pinned], laidTests := true, laidLooks := .later }
def FrontOrdersCardSaid : Prop := Claim7.holds Tryz.pinned (.plain (OpenSpec.ofChange frontOrdersSpec)) frontOrdersCard

/-- THE TIED CARD OF 'deemsterlaw28.FrontMay'. -/
def frontMayCard : Claim7 := { stood := { row := frontMayRow, standIns := [], harness := (true, "ddad50b1b575b381d889c3ec4d78780feb7814610170717cea00257deaf5bed9"), looks := true }, kinds := [], alts := [], laidByText := true, laidKinds := [.data, .data, .data, .pinned], laidTests := true, laidLooks := .later }
def FrontMayCardSaid : Prop := Claim7.holds Tryz.pinned (.plain (OpenSpec.ofChange frontMaySpec)) frontMayCard

/-- THE TIED CARD OF 'deemsterlaw28.FrontHolds'. -/
def frontHoldsCard : Claim7 := { stood := { row := frontHoldsRow, standIns := [], harness := (true, "ddad50b1b575b381d889c3ec4d78780feb7814610170717cea00257deaf5bed9"), looks := true }, kinds := [], alts := [], laidByText := true, laidKinds := [.data, .data, .data, .pinned], laidTests := true, laidLooks := .later }
def FrontHoldsCardSaid : Prop := Claim7.holds Tryz.pinned (.plain (OpenSpec.ofChange frontHoldsSpec)) frontHoldsCard

/-- THE TIED CARD OF 'deemsterlaw27.SaturEdges'. -/
def saturEdgesCard : Claim7 := { stood := { row := saturEdgesRow, standIns := [], harness := (true, "ddad50b1b575b381d889c3ec4d78780feb7814610170717cea00257deaf5bed9"), looks := true }, kinds := [], alts := [], laidByText := true, laidKinds := [.data, .data, .data, .pinned], laidTests := true, laidLooks := .later }
def SaturEdgesCardSaid : Prop := Claim7.holds Tryz.pinned (.plain (OpenSpec.ofChange saturEdgesSpec)) saturEdgesCard

/-- THE TIED CARD OF 'deemsterlaw27.SaturOrder'. -/
def saturOrderCard : Claim7 := { stood := { row := saturOrderRow, standIns := [], harness := (true, "ddad50b1b575b381d889c3ec4d78780feb7814610170717cea00257deaf5bed9"), looks := true }, kinds := [], alts := [], laidByText := true, laidKinds := [.data, .data, .data, .pinned], laidTests := true, laidLooks := .later }
def SaturOrderCardSaid : Prop := Claim7.holds Tryz.pinned (.plain (OpenSpec.ofChange saturOrderSpec)) saturOrderCard

/-- THE TIED CARD OF 'deemsterlaw27.SaturHolds'. -/
def saturHoldsCard : Claim7 := { stood := { row := saturHoldsRow, standIns := [], harness := (true, "ddad50b1b575b381d889c3ec4d78780feb7814610170717cea00257deaf5bed9"), looks := true }, kinds := [], alts := [], laidByText := true, laidKinds := [.data, .data, .data, .pinned], laidTests := true, laidLooks := .later }
def SaturHoldsCardSaid : Prop := Claim7.holds Tryz.pinned (.plain (OpenSpec.ofChange saturHoldsSpec)) saturHoldsCard

/-- THE SECOND FORM's CARD OF 'deemsterlaw26.CertChecks'. -/
def certChecksUptoCard : Claim7 := { stood := { row := certChecksUptoRow, standIns := [], harness := (true, "ddad50b1b575b381d889c3ec4d78780feb7814610170717cea00257deaf5bed9"), looks := true }, kinds := [], alts := [], laidByText := true, laidKinds := [.data, .data, .pinned], laidTests := true, laidLooks := .later }
def CertChecksUptoCardSaid : Prop := Claim7.holds Tryz.pinned (.plain (OpenSpec.upto certChecksSpec)) certChecksUptoCard

/-- THE SECOND FORM's CARD OF 'deemsterlaw26.CertSound'. -/
def certSoundUptoCard : Claim7 := { stood := { row := certSoundUptoRow, standIns := [], harness := (true, "ddad50b1b575b381d889c3ec4d78780feb7814610170717cea00257deaf5bed9"), looks := true }, kinds := [], alts := [], laidByText := true, laidKinds := [.data, .data, .pinned], laidTests := true, laidLooks := .later }
def CertSoundUptoCardSaid : Prop := Claim7.holds Tryz.pinned (.plain (OpenSpec.upto certSoundSpec)) certSoundUptoCard

/-- THE SECOND FORM's CARD OF 'deemsterlaw26.CertLevels'. -/
def certLevelsUptoCard : Claim7 := { stood := { row := certLevelsUptoRow, standIns := [], harness := (true, "ddad50b1b575b381d889c3ec4d78780feb7814610170717cea00257deaf5bed9"), looks := true }, kinds := [], alts := [], laidByText := true, laidKinds := [.data, .data, .pinned], laidTests := true, laidLooks := .later }
def CertLevelsUptoCardSaid : Prop := Claim7.holds Tryz.pinned (.plain (OpenSpec.upto certLevelsSpec)) certLevelsUptoCard

/-- THE SECOND FORM's CARD OF 'deemsterlaw25.AxiomHolds'. -/
def axiomHoldsUptoCard : Claim7 := { stood := { row := axiomHoldsUptoRow, standIns := [], harness := (true, "ddad50b1b575b381d889c3ec4d78780feb7814610170717cea00257deaf5bed9"), looks := true }, kinds := [], alts := [], laidByText := true, laidKinds := [.data, .data, .pinned], laidTests := true, laidLooks := .later }
def AxiomHoldsUptoCardSaid : Prop := Claim7.holds Tryz.pinned (.plain (OpenSpec.upto axiomHoldsSpec)) axiomHoldsUptoCard

/-- THE SECOND FORM's CARD OF 'deemsterlaw25.AxiomLevels'. -/
def axiomLevelsUptoCard : Claim7 := { stood := { row := axiomLevelsUptoRow, standIns := [], harness := (true, "ddad50b1b575b381d889c3ec4d78780feb7814610170717cea00257deaf5bed9"), looks := true }, kinds := [], alts := [], laidByText := true, laidKinds := [.data, .data, .pinned], laidTests := true, laidLooks := .later }
def AxiomLevelsUptoCardSaid : Prop := Claim7.holds Tryz.pinned (.plain (OpenSpec.upto axiomLevelsSpec)) axiomLevelsUptoCard

/-- THE SECOND FORM's CARD OF 'deemsterlaw25.AxiomSeen'. -/
def axiomSeenUptoCard : Claim7 := { stood := { row := axiomSeenUptoRow, standIns := [], harness := (true, "ddad50b1b575b381d889c3ec4d78780feb7814610170717cea00257deaf5bed9"), looks := true }, kinds := [], alts := [], laidByText := true, laidKinds := [.data, .data, .pinned], laidTests := true, laidLooks := .later }
def AxiomSeenUptoCardSaid : Prop := Claim7.holds Tryz.pinned (.plain (OpenSpec.upto axiomSeenSpec)) axiomSeenUptoCard

/-- THE SECOND FORM's CARD OF 'deemsterlaw28.FrontOrders'. -/
def frontOrdersUptoCard : Claim7 := { stood := { row := frontOrdersUptoRow, standIns := [], harness := (true, "ddad50b1b575b381d889c3ec4d78780feb7814610170717cea00257deaf5bed9"), looks := true }, kinds := [], alts := [], laidByText := true, laidKinds := [.data, .data, .data, .pinned], laidTests := true, laidLooks := .later }
def FrontOrdersUptoCardSaid : Prop := Claim7.holds Tryz.pinned (.plain (OpenSpec.upto frontOrdersSpec)) frontOrdersUptoCard

/-- THE SECOND FORM's CARD OF 'deemsterlaw28.FrontMay'. -/
def frontMayUptoCard : Claim7 := { stood := { row := frontMayUptoRow, standIns := [], harness := (true, "ddad50b1b575b381d889c3ec4d78780feb7814610170717cea00257deaf5bed9"), looks := true }, kinds := [], alts := [], laidByText := true, laidKinds := [.data, .data, .data, .pinned], laidTests := true, laidLooks := .later }
def FrontMayUptoCardSaid : Prop := Claim7.holds Tryz.pinned (.plain (OpenSpec.upto frontMaySpec)) frontMayUptoCard

/-- THE SECOND FORM's CARD OF 'deemsterlaw28.FrontHolds'. -/
def frontHoldsUptoCard : Claim7 := { stood := { row := frontHoldsUptoRow, standIns := [], harness := (true, "ddad50b1b575b381d889c3ec4d78780feb7814610170717cea00257deaf5bed9"), looks := true }, kinds := [], alts := [], laidByText := true, laidKinds := [.data, .data, .data, .pinned], laidTests := true, laidLooks := .later }
def FrontHoldsUptoCardSaid : Prop := Claim7.holds Tryz.pinned (.plain (OpenSpec.upto frontHoldsSpec)) frontHoldsUptoCard

/-- THE SECOND FORM's CARD OF 'deemsterlaw27.SaturEdges'. -/
def saturEdgesUptoCard : Claim7 := { stood := { row := saturEdgesUptoRow, standIns := [], harness := (true, "ddad50b1b575b381d889c3ec4d78780feb7814610170717cea00257deaf5bed9"), looks := true }, kinds := [], alts := [], laidByText := true, laidKinds := [.data, .data, .data, .pinned], laidTests := true, laidLooks := .later }
def SaturEdgesUptoCardSaid : Prop := Claim7.holds Tryz.pinned (.plain (OpenSpec.upto saturEdgesSpec)) saturEdgesUptoCard

/-- THE SECOND FORM's CARD OF 'deemsterlaw27.SaturOrder'. -/
def saturOrderUptoCard : Claim7 := { stood := { row := saturOrderUptoRow, standIns := [], harness := (true, "ddad50b1b575b381d889c3ec4d78780feb7814610170717cea00257deaf5bed9"), looks := true }, kinds := [], alts := [], laidByText := true, laidKinds := [.data, .data, .data, .pinned], laidTests := true, laidLooks := .later }
def SaturOrderUptoCardSaid : Prop := Claim7.holds Tryz.pinned (.plain (OpenSpec.upto saturOrderSpec)) saturOrderUptoCard

/-- THE SECOND FORM's CARD OF 'deemsterlaw27.SaturHolds'. -/
def saturHoldsUptoCard : Claim7 := { stood := { row := saturHoldsUptoRow, standIns := [], harness := (true, "ddad50b1b575b381d889c3ec4d78780feb7814610170717cea00257deaf5bed9"), looks := true }, kinds := [], alts := [], laidByText := true, laidKinds := [.data, .data, .data, .pinned], laidTests := true, laidLooks := .later }
def SaturHoldsUptoCardSaid : Prop := Claim7.holds Tryz.pinned (.plain (OpenSpec.upto saturHoldsSpec)) saturHoldsUptoCard
end Rows
end Go.Proofs.YtphecmnehkdihaaGreatDoor
