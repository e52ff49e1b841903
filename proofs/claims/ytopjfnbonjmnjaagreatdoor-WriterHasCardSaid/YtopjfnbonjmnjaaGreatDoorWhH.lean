/- The tied card of deemsterlaw15.WriterHas: whatever history and place come in, the call returns true and what came in reads as it did; condition: the listed package variables start as the program lays them (the card ties them). -/
import Derived.Test.YtopjfnbonjmnjaaGreatDoorWhG
import Derived.Test.YtopjfnbonjmnjaaGreatDoorCards
import Derived.SevenTiedAt
namespace Go.Pv.T
open Go Go.Pv Go.Proofs Go.Proofs.YtopjfnbonjmnjaaGreatDoor

theorem stands (ts:List TypeId) (h:(ts.all fun u=>!Tryz.prog.wantsStandIn u)=true) {t:TypeId} (ht:t∈ts):Tryz.prog.wantsStandIn t=false:=by
  simpa using List.all_eq_true.1 h t ht

theorem b1:Rows.writerHasRow.wfByText (OpenSpec.ofChange Rows.writerHasSpec)=true:=by kernel_rfl
theorem b2:Tryz.prog.mainIs=some (true, "1de7925f41e92f3b985b91f6151c619ab6f5f33192a818afc04002d78f2b0e76".toList):=by kernel_rfl
theorem b3:true=Tryz.prog.looks []:=by kernel_rfl
theorem b4:false=Rows.writerHasRow.goesBy Tryz.prog:=by kernel_rfl
theorem writerHas_card_holds:Rows.WriterHasCardSaid :=
  Claim7.holds_tied_plain_at .later [] [.data,.data,.pinned] true (true, "1de7925f41e92f3b985b91f6151c619ab6f5f33192a818afc04002d78f2b0e76") true
    writerHas_holds (fun _ h=>by cases h) b1 (fun _ h=>by cases h) writerHas_row_tie rfl ⟨rfl,rfl⟩ b2 rfl
    (fun f fn hf hfn=>by
      obtain rfl:f=7:=Option.some.inj ((show Tryz.prog.funcNamed "deemster/deemsterlaw15.WriterHas" = some 7 by kernel_rfl).symm.trans hf) |>.symm
      obtain rfl:fn=Tryz.f7:=(Option.some.inj (Tryz.func7.symm.trans hfn)).symm
      exact ⟨b3,fun j t ht=>by
        rw [Tryz.params7] at ht
        have hm:t∈[25,42]:=by simpa using Array.mem_of_getElem? ht
        exact stands [25,42] (by kernel_rfl) hm⟩)
    b4
end Go.Pv.T
namespace Go.Proofs.YtopjfnbonjmnjaaGreatDoor
open Go
theorem writerHas_proved:Rows.WriterHasCardSaid:=Go.Pv.T.writerHas_card_holds
end Go.Proofs.YtopjfnbonjmnjaaGreatDoor
