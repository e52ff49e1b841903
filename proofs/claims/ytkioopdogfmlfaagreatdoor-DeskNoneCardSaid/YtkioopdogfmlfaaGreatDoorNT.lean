/- Part of the proof. -/
import Derived.Test.YtkioopdogfmlfaaGreatDoorCards
import Derived.SevenTiedAt
import Derived.ProofKit
import Derived.LaidMore
import Derived.OpenShut
import Derived.Stop.Joined
import Derived.SizedLaws
import Derived.Carry
set_option maxRecDepth 100000
set_option maxHeartbeats 8000000
set_option linter.all false
set_option maxRecDepth 100000
set_option linter.all false
namespace Go.Pv.T
open Go Go.Proofs Go.Proofs.YtkioopdogfmlfaaGreatDoor
theorem b1 : Rows.deskNoneRow.wfByText (OpenSpec.ofChange Rows.deskNoneSpec) = true := by kernel_rfl
theorem b2 : Tryz.prog.mainIs = some (true, "0d52f80bcd13a22bca605c5f09da4ba13b32e882ca0d7ab921ea0f52179ffce8".toList) := by kernel_rfl
end Go.Pv.T
