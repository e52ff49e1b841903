/- Part of the proof. -/
import Derived.Test.YtkioopdogfmlfaaGreatDoorNM
import Derived.Test.YtkioopdogfmlfaaGreatDoorNN
import Derived.Test.YtkioopdogfmlfaaGreatDoorNO
import Derived.Test.YtkioopdogfmlfaaGreatDoorNP
import Derived.ProofKit
import Derived.LaidMore
import Derived.OpenShut
import Derived.Stop.Joined
import Derived.SizedLaws
import Derived.Carry
set_option maxRecDepth 100000
set_option maxHeartbeats 8000000
set_option linter.all false
set_option maxRecDepth 100000
set_option linter.all false
namespace Go.Pv.T
open Go Go.Proofs Go.ChangeShapes Go.WideShapes Go.ChangeAt Go.RowKit Go.Proofs.YtkioopdogfmlfaaGreatDoor
theorem laidOutC : laidOutB Tryz.prog = true := by kernel_rfl
theorem closed : joinedFacts Tryz.prog 3 Tryz.f3 Rows.deskNoneSpec Rows.deskNoneRow = true := by
  unfold joinedFacts
  rw [a1, laidOutC, a2, a3, a4, a5, a6, a7, a8, a9, a10, a11, a12]
  kernel_rfl
end Go.Pv.T
