/- Part of the proof. -/
import Derived.Test.YtkioopdogfmlfaaGreatDoorRows
import Derived.ProofKit
import Derived.LaidMore
import Derived.OpenShut
import Derived.Stop.Joined
import Derived.SizedLaws
import Derived.Carry
set_option maxRecDepth 100000
set_option maxHeartbeats 8000000
set_option linter.all false
set_option maxRecDepth 100000
set_option linter.all false
namespace Go.Pv.T
open Go Go.Proofs Go.Proofs.YtkioopdogfmlfaaGreatDoor
theorem a1 : Rows.deskNoneRow.wf (OpenSpec.ofChange Rows.deskNoneSpec) = true := by kernel_rfl
theorem a2 : mapsRowed Tryz.prog = true := by kernel_rfl
theorem a3 : Tryz.f3.params.all (Tryz.prog.readableRec ·) = true := by kernel_rfl
theorem a4 : (Rows.deskNoneRow.inPlace == Tryz.prog.inPlace 3) = true := by kernel_rfl
theorem a5 : (Rows.deskNoneRow.unfollowed == Tryz.prog.unfollowed 3) = true := by kernel_rfl
theorem a6 : (Rows.deskNoneRow.recurses == Tryz.prog.recurses 3) = true := by kernel_rfl
end Go.Pv.T
