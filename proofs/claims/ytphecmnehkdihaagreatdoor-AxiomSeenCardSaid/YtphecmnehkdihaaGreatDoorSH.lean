/- The tied card of deemsterlaw25.AxiomSeen: whatever level, history, lists and place come in, the call returns true and what came in reads as it did; condition: the listed package variables Wr as the program lays them (the card ties them). -/
import Derived.Test.YtphecmnehkdihaaGreatDoorSG
import Derived.Test.YtphecmnehkdihaaGreatDoorCards
import Derived.SevenTiedAt
namespace Go.Pv.T
open Go Go.Pv Go.Proofs Go.Proofs.YtphecmnehkdihaaGreatDoor

theorem stands (ts:List TypeId) (h:(ts.all fun u=>!Tryz.prog.wantsStandIn u)=true) {t:TypeId} (ht:t∈ts):Tryz.prog.wantsStandIn t=false:=by
  simpa using List.all_eq_true.1 h t ht

theorem b1:Rows.axiomSeenRow.wfByText (OpenSpec.ofChange Rows.axiomSeenSpec)=true:=by kernel_rfl
theorem b2:Tryz.prog.mainIs=some (true, "ddad50b1b575b381d889c3ec4d78780feb7814610170717cea00257deaf5bed9".toList):=by kernel_rfl
theorem b3:true=Tryz.prog.looks []:=by kernel_rfl
theorem b4:false=Rows.axiomSeenRow.goesBy Tryz.prog:=by kernel_rfl
theorem axiomSeen_card_holds:Rows.AxiomSeenCardSaid :=
  Claim7.holds_tied_plain_at .later [] [.data,.data,.pinned] true (true, "ddad50b1b575b381d889c3ec4d78780feb7814610170717cea00257deaf5bed9") true
    jd0 (fun _ h=>by cases h) b1 (fun _ h=>by cases h) axiomSeen_row_tie rfl ⟨rfl,rfl⟩ b2 rfl
    (fun f fn hf hfn=>by
      obtain rfl:f=8:=Option.some.inj ((show Tryz.prog.funcNamed "deemster/deemsterlaw25.AxiomSeen" = some 8 by kernel_rfl).symm.trans hf) |>.symm
      obtain rfl:fn=Tryz.f8:=(Option.some.inj (Tryz.func8.symm.trans hfn)).symm
      exact ⟨b3,fun j t ht=>by
        rw [Tryz.params8] at ht
        have hm:t∈[3,25,26,26,3]:=by simpa using Array.mem_of_getElem? ht
        exact stands [3,25,26,26,3] (by kernel_rfl) hm⟩)
    b4
end Go.Pv.T
namespace Go.Proofs.YtphecmnehkdihaaGreatDoor
open Go
theorem axiomSeen_proved:Rows.AxiomSeenCardSaid:=Go.Pv.T.axiomSeen_card_holds
end Go.Proofs.YtphecmnehkdihaaGreatDoor
