/- The tied card of deemsterlaw27.SaturEdges: whatever level, history and list come in, the call returns true and what came in reads as it did; condition: the listed package variables QP as the program lays them (the card ties them). -/
import Derived.Test.YtphecmnehkdihaaGreatDoorMH
import Derived.Test.YtphecmnehkdihaaGreatDoorCards
import Derived.SevenTiedAt
set_option maxRecDepth 100000
set_option maxHeartbeats 8000000
namespace Go.Pv.T
open Go Go.Pv Go.Proofs Go.Proofs.YtphecmnehkdihaaGreatDoor
theorem stands (ts:List TypeId) (h:(ts.all fun u=>!Tryz.prog.wantsStandIn u)=true) {t:TypeId}(ht:t∈ts):Tryz.prog.wantsStandIn t=false:=by
  simpa using List.all_eq_true.1 h t ht
theorem b1:Rows.saturEdgesRow.wfByText (OpenSpec.ofChange Rows.saturEdgesSpec)=true:=by kernel_rfl
theorem b2:Tryz.prog.mainIs=some (true, "ddad50b1b575b381d889c3ec4d78780feb7814610170717cea00257deaf5bed9".toList):=by kernel_rfl
theorem b3:true=Tryz.prog.looks []:=by kernel_rfl
theorem b4:false=Rows.saturEdgesRow.goesBy Tryz.prog:=by kernel_rfl
theorem saturEdges_card_holds:Rows.SaturEdgesCardSaid :=
  Claim7.holds_tied_plain_at .later [] [.data,.data,.data,.pinned] true (true, "ddad50b1b575b381d889c3ec4d78780feb7814610170717cea00257deaf5bed9") true
    jcu (fun _ h=>by cases h) b1 (fun _ h=>by cases h) saturEdges_row_tie rfl ⟨rfl,rfl⟩ b2 rfl
    (fun f fn hf hfn=>by
      obtain rfl:f=12:=Option.some.inj ((show Tryz.prog.funcNamed "deemster/deemsterlaw27.SaturEdges" = some 12 by kernel_rfl).symm.trans hf) |>.symm
      obtain rfl:fn=Tryz.f12:=(Option.some.inj (Tryz.func12.symm.trans hfn)).symm
      exact⟨b3,fun j t ht=>by
        rw[Tryz.params12]at ht
        have hm:t∈[3,25,26]:=by simpa using Array.mem_of_getElem? ht
        exact stands [3,25,26] (by kernel_rfl) hm⟩)
    b4
end Go.Pv.T
namespace Go.Proofs.YtphecmnehkdihaaGreatDoor
open Go
theorem saturEdges_proved:Rows.SaturEdgesCardSaid:=Go.Pv.T.saturEdges_card_holds
end Go.Proofs.YtphecmnehkdihaaGreatDoor
