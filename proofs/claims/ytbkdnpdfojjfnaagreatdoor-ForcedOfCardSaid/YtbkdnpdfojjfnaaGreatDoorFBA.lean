/- Part of the proof. -/
import Derived.Test.YtbkdnpdfojjfnaaGreatDoorFAW
import Derived.Test.YtbkdnpdfojjfnaaGreatDoorFAX
import Derived.Test.YtbkdnpdfojjfnaaGreatDoorFAY
import Derived.Test.YtbkdnpdfojjfnaaGreatDoorFAZ
import Derived.Test.YtbkdnpdfojjfnaaGreatDoorCards
import Derived.SevenTiedAt
set_option maxRecDepth 100000
set_option maxHeartbeats 8000000
set_option linter.all false
namespace Go.Pv.T
open Go Go.Pv Go.Proofs Go.Proofs.YtbkdnpdfojjfnaaGreatDoor
theorem forcedOf_card_holds : Rows.ForcedOfCardSaid :=
  Claim7.holds_tied_plain_at .later [] [.data, .data, .data, .data, .pinned] true (true, "81dc4254cff82be447bc953d684ee9a9638d7bad26a5555eec23e84527a1ca6b") true
    forcedOf_holds (fun _ h => by cases h) b1 (fun _ h => by cases h) forcedOf_row_tie rfl ⟨rfl, rfl⟩ b2 rfl
    (fun f fn hf hfn => by
      obtain rfl : f = 3 := Option.some.inj (fnN.symm.trans hf) |>.symm
      obtain rfl : fn = Tryz.f3 := (Option.some.inj (Tryz.func3.symm.trans hfn)).symm
      exact ⟨b3, fun j t ht => by
        rw [Tryz.params3] at ht
        have hm : t ∈ [25, 4, 26, 26] := by simpa using Array.mem_of_getElem? ht
        exact stands [25, 4, 26, 26] stN hm⟩)
    b4
end Go.Pv.T
namespace Go.Proofs.YtbkdnpdfojjfnaaGreatDoor
open Go
/-- The statement. -/
theorem forcedOf_proved : Rows.ForcedOfCardSaid := Go.Pv.T.forcedOf_card_holds
end Go.Proofs.YtbkdnpdfojjfnaaGreatDoor
