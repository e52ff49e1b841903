/- Part of the proof. -/
import Derived.Test.YtkioopdogfmlfaaGreatDoorNJ
import Derived.Test.YtkioopdogfmlfaaGreatDoorNL
import Derived.Test.YtkioopdogfmlfaaGreatDoorNQ
set_option maxRecDepth 100000
set_option maxHeartbeats 8000000
set_option linter.all false
namespace Go.Pv.T
open Go Go.Pv Go.Proofs Go.ChangeShapes Go.WideShapes Go.ChangeAt Go.RowKit Go.Proofs.YtkioopdogfmlfaaGreatDoor
theorem lifted3 (os : Os) (started : os.Started) (H : Type) (enc : TypeId × Value → H) :
    ReturnsInHanded {} Tryz.checked os 3 .any (fun w args => (Rows.deskNoneSpec.pre enc Tryz.prog Tryz.f3 [] false w args ∧ laidMetH Tryz.prog laidL w) ∧ sizedMet enc Tryz.prog Tryz.f3 (OpenSpec.ofChange Rows.deskNoneSpec) false w args)
      (Rows.deskNoneSpec.post enc Tryz.prog Tryz.f3 false true false false) := by
  refine returnsInHanded_of_change_and (C := Tryz.checked) (X := fun w _ => laidMetH Tryz.prog laidL w) (fun _ _ _ hh h => h.of_heap hh) own started (by kernel_rfl) Tryz.func3
    (ChangeSpec.witness_shaped (enc := enc) (C := Tryz.checked) (os := os) (X := fun w _ => laidMetH Tryz.prog laidL w) false (laidWorld os) #[.int .i64 0, .int .i64 0] 8 rfl (World.shaped_of_RefB (by kernel_rfl) (by kernel_rfl)) (by kernel_rfl) (by kernel_rfl) (by kernel_rfl) (door_met os _)) ?_
  intro W base args ds gs before hval0 hW _ hwt hL _
  have hval : ∀ (j : Nat) t v, Tryz.f3.params[j]? = some t → args[j]? = some v → Value.okWide Tryz.prog W .any base t v := hval0
  have hW' := hW
  obtain ⟨p, q, hA0, hV, rfl, hfz, hnd⟩ := hW
  have hA : DataW.TrodAll enc Tryz.prog W 0 (fun _ => true) true Tryz.f3.params.toList args.toList ds p := hA0
  rw [Tryz.params3] at hA hval
  obtain ⟨args⟩ := args
  obtain ⟨v0, v1, d0, d1, p0, p1, hargs, rfl, hps, h0, h1⟩ := Go.ChangeShapes.trodAll_two hA
  cases hargs
  obtain ⟨g0, q0, r0⟩ := int_arg (hval 0 3 v0 rfl rfl)
  obtain ⟨g1, q1, r1⟩ := int_arg (hval 1 3 v1 rfl rfl)
  refine (calls_true hL (vs := [.int .i64 g0, .int .i64 g1]) rfl (fun j x v hx hv => ?_) (ev3 g0 g1)).mono fun e W' ⟨he, hg⟩ => ⟨_, he, ?_⟩
  · match j, hx, hv with
    | 0, hx, hv => cases hx; cases hv; exact r0
    | 1, hx, hv => cases hx; cases hv; exact r1
    | j + 2, _, hv => simp at hv
  · exact post_true hW' rfl (by kernel_rfl) rfl rfl rfl (by rw [Tryz.params3]; exact fun t ht => read_ok [3, 3] (by kernel_rfl) t (by simpa using ht)) hg
theorem deskNone_holds : Rows.DeskNoneSaid :=
  OpenClaim.holds_of_wide 3 Tryz.f3 rfl rfl rfl rfl rfl rfl rfl ⟨rfl, rfl, rfl, rfl, rfl⟩ rfl rfl rfl rfl rfl (by kernel_rfl) Tryz.func3 closed
    (of_decide_eq_true (by kernel_rfl)) (by unfold Func.isWrapper; first | (rw [if_pos (by decide +kernel)]; kernel_rfl) | (rw [if_neg (by decide +kernel)]; exact ⟨rfl, rfl⟩))
    (fun os started H enc _ => lifted3 os started H enc)
end Go.Pv.T
