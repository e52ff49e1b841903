/- Part of the proof. -/
import Derived.Test.YtkioopdogfmlfaaGreatDoorCards
import Derived.SevenTiedAt
import Derived.ProofKit
import Derived.LaidMore
import Derived.OpenShut
import Derived.Stop.Joined
import Derived.SizedLaws
import Derived.Carry
set_option maxRecDepth 100000
set_option maxHeartbeats 8000000
set_option linter.all false
set_option maxRecDepth 100000
set_option linter.all false
namespace Go.Pv.T
open Go Go.Proofs Go.Proofs.YtkioopdogfmlfaaGreatDoor
theorem stands (ts : List TypeId) (h : (ts.all fun u => !Tryz.prog.wantsStandIn u) = true) {t : TypeId} (ht : t ∈ ts) : Tryz.prog.wantsStandIn t = false := by
  simpa using List.all_eq_true.1 h t ht
theorem ngF : Tryz.prog.funcs.toList.any Func.goes = false := by kernel_rfl
theorem b4 : false = Rows.deskNoneRow.goesBy Tryz.prog := by
  have h : ∀ f, Tryz.prog.goes f = false := by
    intro f
    have h2 : Tryz.prog.funcs.any Func.goes = false := by rw [← Array.any_toList]; exact ngF
    unfold Program.goes
    rw [h2, Bool.and_false, Bool.or_false]
    apply Bool.eq_false_iff.2
    intro hh
    obtain ⟨g, _, hg⟩ := List.any_eq_true.1 hh
    cases hf : Tryz.prog.funcs[g]? with
    | none => rw [hf] at hg; cases hg
    | some fn =>
      rw [hf] at hg
      have : Tryz.prog.funcs.toList.any Func.goes = true := List.any_eq_true.2 ⟨fn, by have := Array.mem_of_getElem? hf; simpa using this, hg⟩
      rw [ngF] at this
      cases this
  show false = Program.goesAt Tryz.prog _ _
  unfold Program.goesAt Program.goesFrom
  cases Tryz.prog.funcNamed Rows.deskNoneRow.func with
  | none => rfl
  | some f => simp [h, Rows.deskNoneRow]
theorem stN : ([3, 3].all fun u => !Tryz.prog.wantsStandIn u) = true := by kernel_rfl
end Go.Pv.T
