/- The tied card of deemsterlaw33.UnitSound: whatever history and world come in, the call returns true and what came in reads as it did; condition: the listed package variables Ww as the program lays them (the card ties them). -/
import Derived.Test.YtopjfnbonjmnjaaGreatDoorUsG
import Derived.Test.YtopjfnbonjmnjaaGreatDoorCards
import Derived.SevenTiedAt
namespace Go.Pv.T
open Go Go.Pv Go.Proofs Go.Proofs.YtopjfnbonjmnjaaGreatDoor

theorem jg5 (ts:List TypeId) (h:(ts.all fun u=>!Tryz.prog.wantsStandIn u)=true) {t:TypeId} (ht:t∈ts):Tryz.prog.wantsStandIn t=false:=by
  simpa using List.all_eq_true.1 h t ht

theorem b1:Rows.unitSoundRow.wfByText (OpenSpec.ofChange Rows.unitSoundSpec)=true:=by kernel_rfl
theorem b2:Tryz.prog.mainIs=some (true, "1de7925f41e92f3b985b91f6151c619ab6f5f33192a818afc04002d78f2b0e76".toList):=by kernel_rfl
theorem b3:true=Tryz.prog.looks []:=by kernel_rfl
theorem b4:false=Rows.unitSoundRow.goesBy Tryz.prog:=by kernel_rfl
theorem unitSound_card_holds:Rows.UnitSoundCardSaid :=
  Claim7.holds_tied_plain_at .later [] [.data,.data,.pinned] true (true, "1de7925f41e92f3b985b91f6151c619ab6f5f33192a818afc04002d78f2b0e76") true
    jcd (fun _ h=>by cases h) b1 (fun _ h=>by cases h) unitSound_row_tie rfl ⟨rfl,rfl⟩ b2 rfl
    (fun f fn hf hfn=>by
      obtain rfl:f=13:=Option.some.inj ((show Tryz.prog.funcNamed "deemster/deemsterlaw33.UnitSound" = some 13 by kernel_rfl).symm.trans hf) |>.symm
      obtain rfl:fn=Tryz.f13:=(Option.some.inj (Tryz.func13.symm.trans hfn)).symm
      exact ⟨b3,fun j t ht=>by
        rw [Tryz.params13] at ht
        have hm:t∈[25,77]:=by simpa using Array.mem_of_getElem? ht
        exact jg5 [25,77] (by kernel_rfl) hm⟩)
    b4
end Go.Pv.T
namespace Go.Proofs.YtopjfnbonjmnjaaGreatDoor
open Go
theorem unitSound_proved:Rows.UnitSoundCardSaid:=Go.Pv.T.unitSound_card_holds
end Go.Proofs.YtopjfnbonjmnjaaGreatDoor
