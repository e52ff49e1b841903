/- The tied card of deemsterlaw27.SaturOrder: whatever level, history and list come in, the call returns true and what came in reads as it did; condition: the listed package variables start as the program lays them (the card ties them). -/
import Derived.Test.YtphecmnehkdihaaGreatDoorOG
import Derived.Test.YtphecmnehkdihaaGreatDoorCards
import Derived.SevenTiedAt
set_option maxRecDepth 100000
set_option maxHeartbeats 8000000
set_option linter.all false
namespace Go.Pv.T
open Go Go.Pv Go.Proofs Go.Proofs.YtphecmnehkdihaaGreatDoor
theorem stands (ts:List TypeId) (h:(ts.all λu=>!Tryz.prog.wantsStandIn u)=true) {t:TypeId}(ht:t∈ts):Tryz.prog.wantsStandIn t=false:=by
 simpa using aw.1 h t ht
theorem b1:Rows.saturOrderRow.wfByText (OpenSpec.ofChange Rows.saturOrderSpec)=true:=by kernel_rfl
theorem b2:Tryz.prog.mainIs=some (true, "ddad50b1b575b381d889c3ec4d78780feb7814610170717cea00257deaf5bed9".toList):=by kernel_rfl
theorem b3:true=Tryz.prog.looks []:=by kernel_rfl
theorem b4:false=Rows.saturOrderRow.goesBy Tryz.prog:=by kernel_rfl
theorem saturOrder_card_holds:Rows.SaturOrderCardSaid :=
 Claim7.holds_tied_plain_at .later [] [.data,.data,.data,.pinned] true (true, "ddad50b1b575b381d889c3ec4d78780feb7814610170717cea00257deaf5bed9") true
  jdr (λ_ h=>by cases h) b1 (λ_ h=>by cases h) saturOrder_row_tie rfl ⟨rfl,rfl⟩ b2 rfl
  (λf fn hf hfn=>by
   obtain rfl:f=13:=bU ((show Tryz.prog.funcNamed "deemster/deemsterlaw27.SaturOrder" = some 13 by kernel_rfl).symm.trans hf) |>.symm
   obtain rfl:fn=Tryz.f13:=(bU (Tryz.func13.symm.trans hfn)).symm
   exact⟨b3,λj t ht=>by
    rw[Tryz.params13]at ht
    have hm:t∈[3,25,26]:=by simpa using eH ht
    exact stands [3,25,26] (by kernel_rfl) hm⟩)
  b4
end Go.Pv.T
namespace Go.Proofs.YtphecmnehkdihaaGreatDoor
open Go
theorem saturOrder_proved:Rows.SaturOrderCardSaid:=Go.Pv.T.saturOrder_card_holds
end Go.Proofs.YtphecmnehkdihaaGreatDoor
