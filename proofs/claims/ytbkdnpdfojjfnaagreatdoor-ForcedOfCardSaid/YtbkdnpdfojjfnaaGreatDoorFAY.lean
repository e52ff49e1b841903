/- Part of the proof. -/
import Derived.Test.YtbkdnpdfojjfnaaGreatDoorCards
import Derived.SevenTiedAt
import Derived.ProofKit
import Derived.LaidMore
import Derived.OpenShut
import Derived.Stop.Joined
import Derived.SizedLaws
import Derived.Carry
set_option maxRecDepth 100000
set_option maxHeartbeats 8000000
set_option linter.all false
set_option maxRecDepth 100000
set_option linter.all false
namespace Go.Pv.T
open Go Go.Proofs Go.Proofs.YtbkdnpdfojjfnaaGreatDoor
theorem b1 : Rows.forcedOfRow.wfByText (OpenSpec.ofChange Rows.forcedOfSpec) = true := by kernel_rfl
theorem b2 : Tryz.prog.mainIs = some (true, "81dc4254cff82be447bc953d684ee9a9638d7bad26a5555eec23e84527a1ca6b".toList) := by kernel_rfl
end Go.Pv.T
