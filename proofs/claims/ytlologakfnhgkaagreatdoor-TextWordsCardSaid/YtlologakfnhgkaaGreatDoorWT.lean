/- Part of the proof. -/
import Derived.Test.YtlologakfnhgkaaGreatDoorCards
import Derived.SevenTiedAt
import Derived.ProofKit
import Derived.LaidMore
import Derived.OpenShut
import Derived.Stop.Joined
import Derived.SizedLaws
import Derived.Carry
set_option maxRecDepth 100000
set_option maxHeartbeats 8000000
set_option linter.all false
set_option maxRecDepth 100000
set_option linter.all false
namespace Go.Pv.T
open Go Go.Proofs Go.Proofs.YtlologakfnhgkaaGreatDoor
theorem b1 : Rows.textWordsRow.wfByText (OpenSpec.ofChange Rows.textWordsSpec) = true := by kernel_rfl
theorem b2 : Tryz.prog.mainIs = some (true, "d29382174c04055d5886808ba153b520740d13c6210af2aba29e3953ec95b050".toList) := by kernel_rfl
end Go.Pv.T
