/- Part of the proof. -/
import Derived.Test.YtkioopdogfmlfaaGreatDoorNR
import Derived.Test.YtkioopdogfmlfaaGreatDoorNS
import Derived.Test.YtkioopdogfmlfaaGreatDoorNT
import Derived.Test.YtkioopdogfmlfaaGreatDoorNU
import Derived.Test.YtkioopdogfmlfaaGreatDoorCards
import Derived.SevenTiedAt
set_option maxRecDepth 100000
set_option maxHeartbeats 8000000
set_option linter.all false
namespace Go.Pv.T
open Go Go.Pv Go.Proofs Go.Proofs.YtkioopdogfmlfaaGreatDoor
theorem deskNone_card_holds : Rows.DeskNoneCardSaid :=
  Claim7.holds_tied_plain_at .later [] [.data, .data, .data, .data, .data, .data, .data, .data, .data, .pinned] true (true, "0d52f80bcd13a22bca605c5f09da4ba13b32e882ca0d7ab921ea0f52179ffce8") true
    deskNone_holds (fun _ h => by cases h) b1 (fun _ h => by cases h) deskNone_row_tie rfl ⟨rfl, rfl⟩ b2 rfl
    (fun f fn hf hfn => by
      obtain rfl : f = 3 := Option.some.inj (fnN.symm.trans hf) |>.symm
      obtain rfl : fn = Tryz.f3 := (Option.some.inj (Tryz.func3.symm.trans hfn)).symm
      exact ⟨b3, fun j t ht => by
        rw [Tryz.params3] at ht
        have hm : t ∈ [3, 3] := by simpa using Array.mem_of_getElem? ht
        exact stands [3, 3] stN hm⟩)
    b4
end Go.Pv.T
namespace Go.Proofs.YtkioopdogfmlfaaGreatDoor
open Go
/-- The statement. -/
theorem deskNone_proved : Rows.DeskNoneCardSaid := Go.Pv.T.deskNone_card_holds
end Go.Proofs.YtkioopdogfmlfaaGreatDoor
