/- The tied card of deemsterlaw27.SaturHolds: whatever level, history and lists come in, the call returns true and what came in reads as it did; condition: the listed package variables QO as the program lays them (the card ties them). -/
import Derived.Test.YtphecmnehkdihaaGreatDoorNG
import Derived.Test.YtphecmnehkdihaaGreatDoorCards
import Derived.SevenTiedAt
set_option maxRecDepth 100000
set_option maxHeartbeats 8000000
namespace Go.Pv.T
open Go Go.Pv Go.Proofs Go.Proofs.YtphecmnehkdihaaGreatDoor
theorem stands (ts:List TypeId) (h:(ts.all fun u=>!Tryz.prog.wantsStandIn u)=true) {t:TypeId}(ht:t∈ts):Tryz.prog.wantsStandIn t=false:=by
  simpa using List.all_eq_true.1 h t ht
theorem b1:Rows.saturHoldsRow.wfByText (OpenSpec.ofChange Rows.saturHoldsSpec)=true:=by kernel_rfl
theorem b2:Tryz.prog.mainIs=some (true, "ddad50b1b575b381d889c3ec4d78780feb7814610170717cea00257deaf5bed9".toList):=by kernel_rfl
theorem b3:true=Tryz.prog.looks []:=by kernel_rfl
theorem b4:false=Rows.saturHoldsRow.goesBy Tryz.prog:=by kernel_rfl
theorem saturHolds_card_holds:Rows.SaturHoldsCardSaid :=
  Claim7.holds_tied_plain_at .later [] [.data,.data,.data,.pinned] true (true, "ddad50b1b575b381d889c3ec4d78780feb7814610170717cea00257deaf5bed9") true
    jck (fun _ h=>by cases h) b1 (fun _ h=>by cases h) saturHolds_row_tie rfl ⟨rfl,rfl⟩ b2 rfl
    (fun f fn hf hfn=>by
      obtain rfl:f=14:=Option.some.inj ((show Tryz.prog.funcNamed "deemster/deemsterlaw27.SaturHolds" = some 14 by kernel_rfl).symm.trans hf) |>.symm
      obtain rfl:fn=Tryz.f14:=(Option.some.inj (Tryz.func14.symm.trans hfn)).symm
      exact⟨b3,fun j t ht=>by
        rw[Tryz.params14]at ht
        have hm:t∈[3,25,26,26]:=by simpa using Array.mem_of_getElem? ht
        exact stands [3,25,26,26] (by kernel_rfl) hm⟩)
    b4
end Go.Pv.T
namespace Go.Proofs.YtphecmnehkdihaaGreatDoor
open Go
theorem saturHolds_proved:Rows.SaturHoldsCardSaid:=Go.Pv.T.saturHolds_card_holds
end Go.Proofs.YtphecmnehkdihaaGreatDoor
