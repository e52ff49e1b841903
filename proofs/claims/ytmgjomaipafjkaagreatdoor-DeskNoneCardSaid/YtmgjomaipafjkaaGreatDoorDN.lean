/- Part of the proof. -/
import Derived.Test.YtmgjomaipafjkaaGreatDoorDM
import Derived.Test.YtmgjomaipafjkaaGreatDoorCards
import Derived.Test.YtmgjomaipafjkaaGreatDoorDRd
import Derived.Test.YtmgjomaipafjkaaGreatDoorDRh
import Derived.Test.YtmgjomaipafjkaaGreatDoorDRi
import Derived.SevenTiedAt
set_option maxRecDepth 100000
set_option maxHeartbeats 8000000
set_option linter.all false
namespace Go.Pv.T
open Go Go.Pv Go.Proofs Go.Proofs.YtmgjomaipafjkaaGreatDoor
theorem deskNone_card_holds : Rows.DeskNoneCardSaid :=
  Claim7.holds_tied_plain_at .later [] [.data, .data, .pinned, .data, .data, .data, .data, .data, .data, .data] true (true, "2d8e189d01574642fed1aae2916082d9714b521f1e00ca8f17aaf161cf746292") true
    deskNone_holds (fun _ h => by cases h) b1 (fun _ h => by cases h) deskNone_row_tie rfl ⟨rfl, rfl⟩ b2 rfl
    (fun f fn hf hfn => by
      obtain rfl : f = 14 := Option.some.inj (fnN.symm.trans hf) |>.symm
      obtain rfl : fn = Tryz.f14 := (Option.some.inj (Tryz.func14.symm.trans hfn)).symm
      exact ⟨b3, fun j t ht => by
        rw [Tryz.params14] at ht
        have hm : t ∈ [3, 3] := by simpa using Array.mem_of_getElem? ht
        exact stands [3, 3] stN hm⟩)
    b4
end Go.Pv.T
namespace Go.Proofs.YtmgjomaipafjkaaGreatDoor
open Go
/-- The statement. -/
theorem deskNone_proved : Rows.DeskNoneCardSaid := Go.Pv.T.deskNone_card_holds
end Go.Proofs.YtmgjomaipafjkaaGreatDoor
