/- Part. -/
import Derived.Test.YtmanndcfeicokaaGreatDoorPS
import Derived.Test.YtmanndcfeicokaaGreatDoorCards
import Derived.SevenTiedAt
set_option maxRecDepth 100000
set_option maxHeartbeats 8000000
set_option linter.all false
namespace Go.Pv.T
open Go Go.Pv Go.Proofs Go.Proofs.YtmanndcfeicokaaGreatDoor
theorem stands (ts:List TypeId) (h:(ts.all λu=>!Tryz.prog.wantsStandIn u)=true) {t:TypeId}(ht:t∈ts):Tryz.prog.wantsStandIn t=false:=by
 simpa using aw.1 h t ht
theorem b1:Rows.decideTellsRow.wfByText (OpenSpec.ofChange Rows.decideTellsSpec)=true:=by kernel_rfl
theorem b2:Tryz.prog.mainIs=some (true, "911da1cefba3e607b01248a05e4a9c6b8f80590086215e2ae20bc0ef2af9271b".toList):=by kernel_rfl
theorem b3:true=Tryz.prog.looks []:=by kernel_rfl
theorem b4:false=Rows.decideTellsRow.goesBy Tryz.prog:=by kernel_rfl
theorem decideTells_card_holds:Rows.DecideTellsCardSaid :=
 Claim7.holds_tied_plain_at .later [] [.data,.data,.data,.pinned] true (true, "911da1cefba3e607b01248a05e4a9c6b8f80590086215e2ae20bc0ef2af9271b") true
  jeb (λ_ h=>by cases h) b1 (λ_ h=>by cases h) decideTells_row_tie rfl ⟨rfl,rfl⟩ b2 rfl
  (λf fn hf hfn=>by
   obtain rfl:f=3:=cu ((show Tryz.prog.funcNamed "deemster/deemsterlaw29.DecideTells" = some 3 by kernel_rfl).symm.trans hf) |>.symm
   obtain rfl:fn=Tryz.f3:=(cu (Tryz.func3.symm.trans hfn)).symm
   exact⟨b3,λj t ht=>by
    rw[Tryz.params3]at ht
    have hm:t∈[3,25,3]:=by simpa using eR ht
    exact stands [3,25,3] (by kernel_rfl) hm⟩)
  b4
end Go.Pv.T
namespace Go.Proofs.YtmanndcfeicokaaGreatDoor
open Go
theorem decideTells_proved:Rows.DecideTellsCardSaid:=Go.Pv.T.decideTells_card_holds
end Go.Proofs.YtmanndcfeicokaaGreatDoor
