/- Part. -/
import Derived.Test.YtmanndcfeicokaaGreatDoorQX
import Derived.Test.YtmanndcfeicokaaGreatDoorCards
import Derived.SevenTiedAt
set_option maxRecDepth 100000
set_option maxHeartbeats 8000000
set_option linter.all false
namespace Go.Pv.T
open Go Go.Pv Go.Proofs Go.Proofs.YtmanndcfeicokaaGreatDoor
theorem stands (ts:List TypeId) (h:(ts.all λu=>!Tryz.prog.wantsStandIn u)=true) {t:TypeId}(ht:t∈ts):Tryz.prog.wantsStandIn t=false:=by
 simpa using ap.1 h t ht
theorem b1:Rows.decideMoreRow.wfByText (OpenSpec.ofChange Rows.decideMoreSpec)=true:=by kernel_rfl
theorem b2:Tryz.prog.mainIs=some (true, "911da1cefba3e607b01248a05e4a9c6b8f80590086215e2ae20bc0ef2af9271b".toList):=by kernel_rfl
theorem b3:true=Tryz.prog.looks []:=by kernel_rfl
theorem b4:false=Rows.decideMoreRow.goesBy Tryz.prog:=by kernel_rfl
theorem decideMore_card_holds:Rows.DecideMoreCardSaid :=
 Claim7.holds_tied_plain_at .later [] [.data,.data,.data,.pinned] true (true, "911da1cefba3e607b01248a05e4a9c6b8f80590086215e2ae20bc0ef2af9271b") true
  jdw (λ_ h=>by cases h) b1 (λ_ h=>by cases h) decideMore_row_tie rfl ⟨rfl,rfl⟩ b2 rfl
  (λf fn hf hfn=>by
   obtain rfl:f=5:=bV ((show Tryz.prog.funcNamed "deemster/deemsterlaw29.DecideMore" = some 5 by kernel_rfl).symm.trans hf) |>.symm
   obtain rfl:fn=Tryz.f5:=(bV (Tryz.func5.symm.trans hfn)).symm
   exact⟨b3,λj t ht=>by
    rw[Tryz.params5]at ht
    have hm:t∈[3,25,5,5]:=by simpa using ep ht
    exact stands [3,25,5,5] (by kernel_rfl) hm⟩)
  b4
end Go.Pv.T
namespace Go.Proofs.YtmanndcfeicokaaGreatDoor
open Go
theorem decideMore_proved:Rows.DecideMoreCardSaid:=Go.Pv.T.decideMore_card_holds
end Go.Proofs.YtmanndcfeicokaaGreatDoor
