/-
  DERIVED. GIVEN WITH THE SEED: THE CARDS: each row of YtmanndcfeicokaaGreatDoorRows.lean that lists a variable, with what it lists TIED to the program's text (the seventh form; the later family's looks); each row that meets fmt, with fmt's text TOLD by the authors' own Lean function (tested against real Go, not proved from fmt's source: count such statements apart). THE CARD IS WHAT COUNTS. Prove the row's statement (the work); the ties are given (YtmanndcfeicokaaGreatDoorTie.lean); close each card by the builder's one call (the guide's Derived/Test/ToyasCard.lean, 'card_holds'). Laid BY PROGRAM, IN A SANDBOX (cutbox-door.mjs). By AI agents, Wed Nov 11 2026. No macro, syntax, notation, axiom, sorry.
-/
import Derived.Test.YtmanndcfeicokaaGreatDoorRows
import GoSem.ClaimSeven
namespace Go.Proofs.YtmanndcfeicokaaGreatDoor
namespace Rows

/-- THE TIED CARD OF 'deemsterlaw29.DecideTells'. -/
def decideTellsCard : Claim7 := { stood := { row := decideTellsRow, standIns := [], harness := (true, "911da1cefba3e607b01248a05e4a9c6b8f80590086215e2ae20bc0ef2af9271b"), looks := true }, kinds := [], alts := [], laidByText := true, laidKinds := [.data, .data, .data, .pinned], laidTests := true, laidLooks := .later }
def DecideTellsCardSaid : Prop := Claim7.holds Tryz.pinned (.plain (OpenSpec.ofChange decideTellsSpec)) decideTellsCard

/-- THE TIED CARD OF 'deemsterlaw29.DecideRight'. -/
def decideRightCard : Claim7 := { stood := { row := decideRightRow, standIns := [], harness := (true, "911da1cefba3e607b01248a05e4a9c6b8f80590086215e2ae20bc0ef2af9271b"), looks := true }, kinds := [], alts := [], laidByText := true, laidKinds := [.data, .data, .data, .pinned], laidTests := true, laidLooks := .later }
def DecideRightCardSaid : Prop := Claim7.holds Tryz.pinned (.plain (OpenSpec.ofChange decideRightSpec)) decideRightCard

/-- THE TIED CARD OF 'deemsterlaw29.DecideMore'. -/
def decideMoreCard : Claim7 := { stood := { row := decideMoreRow, standIns := [], harness := (true, "911da1cefba3e607b01248a05e4a9c6b8f80590086215e2ae20bc0ef2af9271b"), looks := true }, kinds := [], alts := [], laidByText := true, laidKinds := [.data, .data, .data, .pinned], laidTests := true, laidLooks := .later }
def DecideMoreCardSaid : Prop := Claim7.holds Tryz.pinned (.plain (OpenSpec.ofChange decideMoreSpec)) decideMoreCard

/-- THE TIED CARD OF 'deemsterlaw29.DecidePlain'. -/
def decidePlainCard : Claim7 := { stood := { row := decidePlainRow, standIns := [], harness := (true, "911da1cefba3e607b01248a05e4a9c6b8f80590086215e2ae20bc0ef2af9271b"), looks := true }, kinds := [], alts := [], laidByText := true, laidKinds := [.data, .data, .data, .pinned], laidTests := true, laidLooks := .later }
def DecidePlainCardSaid : Prop := Claim7.holds Tryz.pinned (.plain (OpenSpec.ofChange decidePlainSpec)) decidePlainCard

/-- THE TIED CARD OF 'deemsterlaw30.WhyTells'. -/
def whyTellsCard : Claim7 := { stood := { row := whyTellsRow, standIns := [], harness := (true, "911da1cefba3e607b01248a05e4a9c6b8f80590086215e2ae20bc0ef2af9271b"), looks := true }, kinds := [], alts := [], laidByText := true, laidKinds := [.data, .data, .data, .data, .data, .pinned], laidTests := true, laidLooks := .later }
def WhyTellsCardSaid : Prop := Claim7.holds Tryz.pinned (.plain (OpenSpec.ofChange whyTellsSpec)) whyTellsCard

/-- THE TIED CARD OF 'deemsterlaw30.WhyThere'. -/
def whyThereCard : Claim7 := { stood := { row := whyThereRow, standIns := [], harness := (true, "911da1cefba3e607b01248a05e4a9c6b8f80590086215e2ae20bc0ef2af9271b"), looks := true }, kinds := [], alts := [], laidByText := true, laidKinds := [.data, .data, .data, .data, .data, .pinned], laidTests := true, laidLooks := .later }
def WhyThereCardSaid : Prop := Claim7.holds Tryz.pinned (.plain (OpenSpec.ofChange whyThereSpec)) whyThereCard

/-- THE SECOND FORM's CARD OF 'deemsterlaw29.DecideTells'. -/
def decideTellsUptoCard : Claim7 := { stood := { row := decideTellsUptoRow, standIns := [], harness := (true, "911da1cefba3e607b01248a05e4a9c6b8f80590086215e2ae20bc0ef2af9271b"), looks := true }, kinds := [], alts := [], laidByText := true, laidKinds := [.data, .data, .data, .pinned], laidTests := true, laidLooks := .later }
def DecideTellsUptoCardSaid : Prop := Claim7.holds Tryz.pinned (.plain (OpenSpec.upto decideTellsSpec)) decideTellsUptoCard

/-- THE SECOND FORM's CARD OF 'deemsterlaw29.DecideRight'. -/
def decideRightUptoCard : Claim7 := { stood := { row := decideRightUptoRow, standIns := [], harness := (true, "911da1cefba3e607b01248a05e4a9c6b8f80590086215e2ae20bc0ef2af9271b"), looks := true }, kinds := [], alts := [], laidByText := true, laidKinds := [.data, .data, .data, .pinned], laidTests := true, laidLooks := .later }
def DecideRightUptoCardSaid : Prop := Claim7.holds Tryz.pinned (.plain (OpenSpec.upto decideRightSpec)) decideRightUptoCard

/-- THE SECOND FORM's CARD OF 'deemsterlaw29.DecideMore'. -/
def decideMoreUptoCard : Claim7 := { stood := { row := decideMoreUptoRow, standIns := [], harness := (true, "911da1cefba3e607b01248a05e4a9c6b8f80590086215e2ae20bc0ef2af9271b"), looks := true }, kinds := [], alts := [], laidByText := true, laidKinds := [.data, .data, .data, .pinned], laidTests := true, laidLooks := .later }
def DecideMoreUptoCardSaid : Prop := Claim7.holds Tryz.pinned (.plain (OpenSpec.upto decideMoreSpec)) decideMoreUptoCard

/-- THE SECOND FORM's CARD OF 'deemsterlaw29.DecidePlain'. -/
def decidePlainUptoCard : Claim7 := { stood := { row := decidePlainUptoRow, standIns := [], harness := (true, "911da1cefba3e607b01248a05e4a9c6b8f80590086215e2ae20bc0ef2af9271b"), looks := true }, kinds := [], alts := [], laidByText := true, laidKinds := [.data, .data, .data, .pinned], laidTests := true, laidLooks := .later }
def DecidePlainUptoCardSaid : Prop := Claim7.holds Tryz.pinned (.plain (OpenSpec.upto decidePlainSpec)) decidePlainUptoCard

/-- THE SECOND FORM's CARD OF 'deemsterlaw30.WhyTells'. -/
def whyTellsUptoCard : Claim7 := { stood := { row := whyTellsUptoRow, standIns := [], harness := (true, "911da1cefba3e607b01248a05e4a9c6b8f80590086215e2ae20bc0ef2af9271b"), looks := true }, kinds := [], alts := [], laidByText := true, laidKinds := [.data, .data, .data, .data, .data, .pinned], laidTests := true, laidLooks := .later }
def WhyTellsUptoCardSaid : Prop := Claim7.holds Tryz.pinned (.plain (OpenSpec.upto whyTellsSpec)) whyTellsUptoCard

/-- THE SECOND FORM's CARD OF 'deemsterlaw30.WhyThere'. -/
def whyThereUptoCard : Claim7 := { stood := { row := whyThereUptoRow, standIns := [], harness := (true, "911da1cefba3e607b01248a05e4a9c6b8f80590086215e2ae20bc0ef2af9271b"), looks := true }, kinds := [], alts := [], laidByText := true, laidKinds := [.data, .data, .data, .data, .data, .pinned], laidTests := true, laidLooks := .later }
def WhyThereUptoCardSaid : Prop := Claim7.holds Tryz.pinned (.plain (OpenSpec.upto whyThereSpec)) whyThereUptoCard
end Rows
end Go.Proofs.YtmanndcfeicokaaGreatDoor
