/- The tied card of deemsterlaw28.FrontMay: whatever history, lists and place come in, the call returns true and what came in reads as it did; condition: the listed package variables QP as the program lays them (the card ties them). -/
import Derived.Test.YtphecmnehkdihaaGreatDoorFH
import Derived.Test.YtphecmnehkdihaaGreatDoorCards
import Derived.SevenTiedAt
set_option maxRecDepth 100000
namespace Go.Pv.T
open Go Go.Pv Go.Proofs Go.Proofs.YtphecmnehkdihaaGreatDoor
theorem stands (ts:List TypeId) (h:(ts.all fun u=>!Tryz.prog.wantsStandIn u)=true) {t:TypeId} (ht:t∈ts):Tryz.prog.wantsStandIn t=false:=by
  simpa using List.all_eq_true.1 h t ht
theorem b1:Rows.frontMayRow.wfByText (OpenSpec.ofChange Rows.frontMaySpec)=true:=by kernel_rfl
theorem b2:Tryz.prog.mainIs=some (true, "ddad50b1b575b381d889c3ec4d78780feb7814610170717cea00257deaf5bed9".toList):=by kernel_rfl
theorem b3:true=Tryz.prog.looks []:=by kernel_rfl
theorem b4:false=Rows.frontMayRow.goesBy Tryz.prog:=by kernel_rfl
theorem frontMay_card_holds:Rows.FrontMayCardSaid :=
  Claim7.holds_tied_plain_at .later [] [.data,.data,.data,.pinned] true (true, "ddad50b1b575b381d889c3ec4d78780feb7814610170717cea00257deaf5bed9") true
    je8 (fun _ h=>by cases h) b1 (fun _ h=>by cases h) frontMay_row_tie rfl ⟨rfl,rfl⟩ b2 rfl
    (fun f fn hf hfn=>by
      obtain rfl:f=10:=Option.some.inj ((show Tryz.prog.funcNamed "deemster/deemsterlaw28.FrontMay" = some 10 by kernel_rfl).symm.trans hf) |>.symm
      obtain rfl:fn=Tryz.f10:=(Option.some.inj (Tryz.func10.symm.trans hfn)).symm
      exact ⟨b3,fun j t ht=>by
        rw [Tryz.params10] at ht
        have hm:t∈[25,26,26,3]:=by simpa using Array.mem_of_getElem? ht
        exact stands [25,26,26,3] (by kernel_rfl) hm⟩)
    b4
end Go.Pv.T
namespace Go.Proofs.YtphecmnehkdihaaGreatDoor
open Go
theorem frontMay_proved:Rows.FrontMayCardSaid:=Go.Pv.T.frontMay_card_holds
end Go.Proofs.YtphecmnehkdihaaGreatDoor
