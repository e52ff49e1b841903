/- Part of the proof. -/
import Derived.Test.YtlologakfnhgkaaGreatDoorWR
import Derived.Test.YtlologakfnhgkaaGreatDoorWS
import Derived.Test.YtlologakfnhgkaaGreatDoorWT
import Derived.Test.YtlologakfnhgkaaGreatDoorWU
import Derived.Test.YtlologakfnhgkaaGreatDoorCards
import Derived.SevenTiedAt
set_option maxRecDepth 100000
set_option maxHeartbeats 8000000
set_option linter.all false
namespace Go.Pv.T
open Go Go.Pv Go.Proofs Go.Proofs.YtlologakfnhgkaaGreatDoor
theorem textWords_card_holds : Rows.TextWordsCardSaid :=
  Claim7.holds_tied_plain_at .later [] [.data, .data, .data, .data, .data, .data, .data, .data, .pinned] true (true, "d29382174c04055d5886808ba153b520740d13c6210af2aba29e3953ec95b050") true
    textWords_holds (fun _ h => by cases h) b1 (fun _ h => by cases h) textWords_row_tie rfl ⟨rfl, rfl⟩ b2 rfl
    (fun f fn hf hfn => by
      obtain rfl : f = 3 := Option.some.inj (fnN.symm.trans hf) |>.symm
      obtain rfl : fn = Tryz.f3 := (Option.some.inj (Tryz.func3.symm.trans hfn)).symm
      exact ⟨b3, fun j t ht => by
        rw [Tryz.params3] at ht
        have hm : t ∈ [3] := by simpa using Array.mem_of_getElem? ht
        exact stands [3] stN hm⟩)
    b4
end Go.Pv.T
namespace Go.Proofs.YtlologakfnhgkaaGreatDoor
open Go
/-- The statement. -/
theorem textWords_proved : Rows.TextWordsCardSaid := Go.Pv.T.textWords_card_holds
end Go.Proofs.YtlologakfnhgkaaGreatDoor
