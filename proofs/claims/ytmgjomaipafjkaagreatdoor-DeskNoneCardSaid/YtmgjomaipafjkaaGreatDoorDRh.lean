/- A part of the proof. -/
import Derived.Test.YtmgjomaipafjkaaGreatDoorCards
import Derived.SevenTiedAt
import Derived.ProofKit
import Derived.LaidMore
import Derived.OpenShut
import Derived.Stop.Joined
import Derived.SizedLaws
import Derived.Carry
set_option maxRecDepth 100000
set_option linter.all false
namespace Go.Pv.T
open Go Go.Proofs Go.Proofs.YtmgjomaipafjkaaGreatDoor
theorem b1 : Rows.deskNoneRow.wfByText (OpenSpec.ofChange Rows.deskNoneSpec) = true := by kernel_rfl
theorem b2 : Tryz.prog.mainIs = some (true, "2d8e189d01574642fed1aae2916082d9714b521f1e00ca8f17aaf161cf746292".toList) := by kernel_rfl
end Go.Pv.T
