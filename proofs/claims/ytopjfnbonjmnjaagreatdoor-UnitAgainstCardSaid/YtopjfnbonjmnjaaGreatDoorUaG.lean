/- The row of deemsterlaw33.UnitAgainst: whatever history and slice of bools come in, the call returns true and what came in reads as it did; condition: the listed package variables start as the program lays them (the card ties them). -/
import Derived.Test.YtopjfnbonjmnjaaGreatDoorUaF
namespace Go.Pv.T
open Go Go.Pv Go.Proofs Go.ChangeShapes Go.WideShapes Go.ChangeAt Go.RowKit Go.Proofs.YtopjfnbonjmnjaaGreatDoor
set_option maxRecDepth 100000 in
theorem lifted12 (os:Os) (started:os.Started) (H:Type) (enc:TypeId × Value→H) :
 ReturnsInHanded {} Tryz.checked os 12 .any (fun w args=>(Rows.unitAgainstSpec.pre enc Tryz.prog Tryz.f12 [] false w args∧laidMetH Tryz.prog laidL w)∧sizedMet enc Tryz.prog Tryz.f12 (OpenSpec.ofChange Rows.unitAgainstSpec) false w args)
  (Rows.unitAgainstSpec.post enc Tryz.prog Tryz.f12 false true false false):=by
 refine returnsInHanded_of_change_and (C:=Tryz.checked) (X:=fun w _=>laidMetH Tryz.prog laidL w) (fun _ _ _ hh h=>h.of_heap hh) own started (by kernel_rfl) Tryz.func12
  (ChangeSpec.witness_shaped (enc:=enc) (C:=Tryz.checked) (os:=os) (X:=fun w _=>laidMetH Tryz.prog laidL w) false (laidWorld os) #[.agg #[.slice none 0 0,.slice none 0 0,.slice none 0 0],.slice none 0 0] 8 rfl (World.shaped_of_RefB (by kernel_rfl) (by kernel_rfl)) (by kernel_rfl) (by kernel_rfl) (by kernel_rfl) (door_met os _)) ?_
 intro W base args ds gs before hval0 hW _ hwt hL _
 have hval:∀ (j:Nat) t v,Tryz.f12.params[j]? = some t→args[j]? = some v→Value.okWide Tryz.prog W .any base t v:=hval0
 have hW':=hW
 obtain ⟨p,q,hA0,hV,rfl,hfz,hnd⟩:=hW
 have hA:DataW.TrodAll enc Tryz.prog W 0 (fun _=>true) true Tryz.f12.params.toList args.toList ds p:=hA0
 rw [Tryz.params12] at hA hval
 obtain ⟨args⟩:=args
 obtain ⟨v0,v1,d0,d1,p0,p1,hargs,rfl,h0,h1⟩:=trodAll_two hA
 simp only at hargs
 subst hargs
 obtain ⟨g0,r0⟩:=hist_arg (hval 0 25 v0 rfl rfl) h0
 obtain ⟨nl1,l1,r1⟩:=bools_arg (hval 1 71 v1 rfl rfl) h1
 refine (calls_true hL (vs:=[.agg (histC g0),slOf nl1 blC l1]) rfl (fun j x v hx hv=>?_) (ev12 g0 nl1 l1)).mono fun e W' ⟨he,hg⟩=>⟨_,he,?_⟩
 ·match j,hx,hv with
  | 0,hx,hv=>cases hx;cases hv;exact r0
  | 1,hx,hv=>cases hx;cases hv;exact r1
  | j+2,_,hv=>simp at hv
 ·exact post_true hW' rfl (by kernel_rfl) rfl rfl rfl (by rw [Tryz.params12];exact fun t ht=>read_ok [25,71] (by kernel_rfl) t (by simpa using ht)) hg
theorem a1:Rows.unitAgainstRow.wf (OpenSpec.ofChange Rows.unitAgainstSpec)=true:=by kernel_rfl
theorem a2:mapsRowed Tryz.prog=true:=by kernel_rfl
theorem a3:Tryz.f12.params.all (Tryz.prog.readableRec ·)=true:=by kernel_rfl
theorem a4:(Rows.unitAgainstRow.inPlace == Tryz.prog.inPlace 12)=true:=by kernel_rfl
theorem a5:(Rows.unitAgainstRow.unfollowed == Tryz.prog.unfollowed 12)=true:=by kernel_rfl
theorem a6:(Rows.unitAgainstRow.recurses == Tryz.prog.recurses 12)=true:=by kernel_rfl
theorem a7:(Rows.unitAgainstRow.named == Tryz.prog.varsNamed 12)=true:=by kernel_rfl
theorem a8:Tryz.prog.mayEnter=true:=by kernel_rfl
theorem a9:Tryz.prog.stopsHeard=true:=by kernel_rfl
theorem a10:(Rows.unitAgainstRow.lifted == Tryz.prog.liftsFinal)=true:=by kernel_rfl
theorem a11:(Tryz.prog.make == some Rows.unitAgainstRow.make)=true:=by kernel_rfl
theorem a12:(Rows.unitAgainstRow.plainKeys == Tryz.prog.plainKeys)=true:=by kernel_rfl
theorem closed:joinedFacts Tryz.prog 12 Tryz.f12 Rows.unitAgainstSpec Rows.unitAgainstRow=true:=by
 unfold joinedFacts
 rw [a1,laidOut,a2,a3,a4,a5,a6,a7,a8,a9,a10,a11,a12]
 kernel_rfl
theorem unitAgainst_holds:Rows.UnitAgainstSaid :=
 OpenClaim.holds_of_wide 12 Tryz.f12 rfl rfl rfl rfl rfl rfl rfl ⟨rfl,rfl,rfl,rfl,rfl⟩ rfl rfl rfl rfl rfl (by kernel_rfl) Tryz.func12 closed
  (of_decide_eq_true (by kernel_rfl)) (by unfold Func.isWrapper;first | (rw [if_pos (by decide +kernel)];kernel_rfl) | (rw [if_neg (by decide +kernel)];exact ⟨rfl,rfl⟩))
  (fun os started H enc _=>lifted12 os started H enc)
end Go.Pv.T
