/- Part of the proof. -/
import Derived.Test.YtbkdnpdfojjfnaaGreatDoorFAO
import Derived.Test.YtbkdnpdfojjfnaaGreatDoorFAQ
import Derived.Test.YtbkdnpdfojjfnaaGreatDoorFAV
import Derived.Carry
set_option maxRecDepth 100000
set_option maxHeartbeats 8000000
set_option linter.all false
namespace Go.Pv.T
open Go Go.Pv Go.Proofs Go.ChangeShapes Go.WideShapes Go.ChangeAt Go.RowKit Go.Proofs.YtbkdnpdfojjfnaaGreatDoor
theorem lifted3 (os : Os) (started : os.Started) (H : Type) (enc : TypeId × Value → H) :
    ReturnsInHanded {} Tryz.checked os 3 .any (fun w args => (Rows.forcedOfSpec.pre enc Tryz.prog Tryz.f3 [] false w args ∧ laidMetH Tryz.prog laidL w) ∧ sizedMet enc Tryz.prog Tryz.f3 (OpenSpec.ofChange Rows.forcedOfSpec) false w args)
      (Rows.forcedOfSpec.post enc Tryz.prog Tryz.f3 false true false false) := by
  refine returnsInHanded_of_change_and (C := Tryz.checked) (X := fun w _ => laidMetH Tryz.prog laidL w) (fun _ _ _ hh h => h.of_heap hh) own started (by kernel_rfl) Tryz.func3
    (ChangeSpec.witness_shaped (enc := enc) (C := Tryz.checked) (os := os) (X := fun w _ => laidMetH Tryz.prog laidL w) false (laidWorld os) #[.agg #[.slice none 0 0, .slice none 0 0, .slice none 0 0], .bool false, .slice none 0 0, .slice none 0 0] 8 rfl (World.shaped_of_RefB (by kernel_rfl) (by kernel_rfl)) (by kernel_rfl) (by kernel_rfl) (by kernel_rfl) (door_met os _)) ?_
  intro W base args ds gs before hval0 hW _ hwt hL _
  have hval : ∀ (j : Nat) t v, Tryz.f3.params[j]? = some t → args[j]? = some v → Value.okWide Tryz.prog W .any base t v := hval0
  have hW' := hW
  obtain ⟨p, q, hA0, hV, rfl, hfz, hnd⟩ := hW
  have hA : DataW.TrodAll enc Tryz.prog W 0 (fun _ => true) true Tryz.f3.params.toList args.toList ds p := hA0
  rw [Tryz.params3] at hA hval
  obtain ⟨args⟩ := args
  obtain ⟨v0, v1, v2, v3, d0, d1, d2, d3, p0, p1, p2, p3, hargs, rfl, hps, h0, h1, h2, h3⟩ := trodAll_four hA
  cases hargs
  obtain ⟨g0, r0⟩ := hist_arg (hval 0 25 v0 rfl rfl) h0
  obtain ⟨g1, r1⟩ := bool_arg (hval 1 4 v1 rfl rfl)
  obtain ⟨n2, l2, r2⟩ := bools_arg (hval 2 26 v2 rfl rfl) h2
  obtain ⟨n3, l3, r3⟩ := bools_arg (hval 3 26 v3 rfl rfl) h3
  refine (calls_true hL (vs := [.agg (histC g0), .bool g1, slOf n2 blC l2, slOf n3 blC l3]) rfl (fun j x v hx hv => ?_) (ev3 g0 g1 n2 n3 l2 l3)).mono fun e W' ⟨he, hg⟩ => ⟨_, he, ?_⟩
  · match j, hx, hv with
    | 0, hx, hv => cases hx; cases hv; exact r0
    | 1, hx, hv => cases hx; cases hv; exact r1
    | 2, hx, hv => cases hx; cases hv; exact r2
    | 3, hx, hv => cases hx; cases hv; exact r3
    | j + 4, _, hv => simp at hv
  · exact post_true hW' rfl (by kernel_rfl) rfl rfl rfl (by rw [Tryz.params3]; exact fun t ht => read_ok [25, 4, 26, 26] (by kernel_rfl) t (by simpa using ht)) hg
theorem forcedOf_holds : Rows.ForcedOfSaid :=
  OpenClaim.holds_of_wide 3 Tryz.f3 rfl rfl rfl rfl rfl rfl rfl ⟨rfl, rfl, rfl, rfl, rfl⟩ rfl rfl rfl rfl rfl (by kernel_rfl) Tryz.func3 closed
    (of_decide_eq_true (by kernel_rfl)) (by unfold Func.isWrapper; first | (rw [if_pos (by decide +kernel)]; kernel_rfl) | (rw [if_neg (by decide +kernel)]; exact ⟨rfl, rfl⟩))
    (fun os started H enc _ => lifted3 os started H enc)
end Go.Pv.T
