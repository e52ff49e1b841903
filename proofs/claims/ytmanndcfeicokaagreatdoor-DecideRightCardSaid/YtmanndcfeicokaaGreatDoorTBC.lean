/- Part. -/
import Derived.Test.YtmanndcfeicokaaGreatDoorTBB
import Derived.Test.YtmanndcfeicokaaGreatDoorCards
import Derived.SevenTiedAt
set_option maxRecDepth 100000
set_option maxHeartbeats 8000000
set_option linter.all false
namespace Go.Pv.T
open Go Go.Pv Go.Proofs Go.Proofs.YtmanndcfeicokaaGreatDoor
theorem stands (ts:List TypeId) (h:(ts.all λu=>!Tryz.prog.wantsStandIn u)=true) {t:TypeId}(ht:t∈ts):Tryz.prog.wantsStandIn t=false:=by
 simpa using av.1 h t ht
theorem b1:Rows.decideRightRow.wfByText (OpenSpec.ofChange Rows.decideRightSpec)=true:=by kernel_rfl
theorem b2:Tryz.prog.mainIs=some (true, "911da1cefba3e607b01248a05e4a9c6b8f80590086215e2ae20bc0ef2af9271b".toList):=by kernel_rfl
theorem b3:true=Tryz.prog.looks []:=by kernel_rfl
theorem b4:false=Rows.decideRightRow.goesBy Tryz.prog:=by kernel_rfl
theorem decideRight_card_holds:Rows.DecideRightCardSaid :=
 Claim7.holds_tied_plain_at .later [] [.data,.data,.data,.pinned] true (true, "911da1cefba3e607b01248a05e4a9c6b8f80590086215e2ae20bc0ef2af9271b") true
  jd7 (λ_ h=>by cases h) b1 (λ_ h=>by cases h) decideRight_row_tie rfl ⟨rfl,rfl⟩ b2 rfl
  (λf fn hf hfn=>by
   obtain rfl:f=4:=cm ((show Tryz.prog.funcNamed "deemster/deemsterlaw29.DecideRight" = some 4 by kernel_rfl).symm.trans hf) |>.symm
   obtain rfl:fn=Tryz.f4:=(cm (Tryz.func4.symm.trans hfn)).symm
   exact⟨b3,λj t ht=>by
    rw[Tryz.params4]at ht
    have hm:t∈[3,25]:=by simpa using eQ ht
    exact stands [3,25] (by kernel_rfl) hm⟩)
  b4
end Go.Pv.T
namespace Go.Proofs.YtmanndcfeicokaaGreatDoor
open Go
theorem decideRight_proved:Rows.DecideRightCardSaid:=Go.Pv.T.decideRight_card_holds
end Go.Proofs.YtmanndcfeicokaaGreatDoor
