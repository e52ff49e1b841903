/- Part of the proof. -/
import Derived.Test.YtkioopdogfmlfaaGreatDoorCards
import Derived.SevenTiedAt
import Derived.ProofKit
import Derived.LaidMore
import Derived.OpenShut
import Derived.Stop.Joined
import Derived.SizedLaws
import Derived.Carry
set_option maxRecDepth 100000
set_option maxHeartbeats 8000000
set_option linter.all false
set_option maxRecDepth 100000
set_option linter.all false
namespace Go.Pv.T
open Go Go.Proofs Go.Proofs.YtkioopdogfmlfaaGreatDoor
theorem b3 : true = Tryz.prog.looks [] := by kernel_rfl
theorem fnN : Tryz.prog.funcNamed "deemster/deemsterlaw44.DeskNone" = some 3 := by kernel_rfl
end Go.Pv.T
