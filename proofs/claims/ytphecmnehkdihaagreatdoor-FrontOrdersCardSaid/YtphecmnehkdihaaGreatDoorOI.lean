/- The tied card of deemsterlaw28.FrontOrders: whatever history, list and bound come in, the call returns true and what came in reads as it did; condition: the listed package variables Qf as the program lays them (the card ties them). -/
import Derived.Test.YtphecmnehkdihaaGreatDoorOH
import Derived.Test.YtphecmnehkdihaaGreatDoorCards
import Derived.SevenTiedAt
set_option maxRecDepth 100000
namespace Go.Pv.T
open Go Go.Pv Go.Proofs Go.Proofs.YtphecmnehkdihaaGreatDoor
theorem stands (ts:List TypeId) (h:(ts.all fun u=>!Tryz.prog.wantsStandIn u)=true) {t:TypeId}(ht:t∈ts):Tryz.prog.wantsStandIn t=false:=by
  simpa using List.all_eq_true.1 h t ht
theorem b1:Rows.frontOrdersRow.wfByText (OpenSpec.ofChange Rows.frontOrdersSpec)=true:=by kernel_rfl
theorem b2:Tryz.prog.mainIs=some (true, "ddad50b1b575b381d889c3ec4d78780feb7814610170717cea00257deaf5bed9".toList):=by kernel_rfl
theorem b3:true=Tryz.prog.looks []:=by kernel_rfl
theorem b4:false=Rows.frontOrdersRow.goesBy Tryz.prog:=by kernel_rfl
theorem frontOrders_card_holds:Rows.FrontOrdersCardSaid :=
  Claim7.holds_tied_plain_at .later [] [.data,.data,.data,.pinned] true (true, "ddad50b1b575b381d889c3ec4d78780feb7814610170717cea00257deaf5bed9") true
    jcb (fun _ h=>by cases h) b1 (fun _ h=>by cases h) frontOrders_row_tie rfl ⟨rfl,rfl⟩ b2 rfl
    (fun f fn hf hfn=>by
      obtain rfl:f=9:=Option.some.inj ((show Tryz.prog.funcNamed "deemster/deemsterlaw28.FrontOrders" = some 9 by kernel_rfl).symm.trans hf) |>.symm
      obtain rfl:fn=Tryz.f9:=(Option.some.inj (Tryz.func9.symm.trans hfn)).symm
      exact⟨b3,fun j t ht=>by
        rw[Tryz.params9]at ht
        have hm:t∈[25,26,3]:=by simpa using Array.mem_of_getElem? ht
        exact stands [25,26,3] (by kernel_rfl) hm⟩)
    b4
end Go.Pv.T
namespace Go.Proofs.YtphecmnehkdihaaGreatDoor
open Go
theorem frontOrders_proved:Rows.FrontOrdersCardSaid:=Go.Pv.T.frontOrders_card_holds
end Go.Proofs.YtphecmnehkdihaaGreatDoor
