/- Part of the proof. -/
import Derived.Test.YtkioopdogfmlfaaGreatDoorRows
import Derived.ProofKit
import Derived.LaidMore
import Derived.OpenShut
import Derived.Stop.Joined
import Derived.SizedLaws
import Derived.Carry
set_option maxRecDepth 100000
set_option maxHeartbeats 8000000
set_option linter.all false
set_option maxRecDepth 100000
set_option linter.all false
namespace Go.Pv.T
open Go Go.Proofs Go.Proofs.YtkioopdogfmlfaaGreatDoor
theorem a9 : Tryz.prog.stopsHeard = true := by kernel_rfl
theorem a10 : (Rows.deskNoneRow.lifted == Tryz.prog.liftsFinal) = true := by kernel_rfl
end Go.Pv.T
