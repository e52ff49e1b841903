/- The row of deemsterlaw33.UnitSound: whatever history and world come in, the call returns true and what came in reads as it did; condition: the listed package variables Ww as the program lays them (the card ties them). -/
import Derived.Test.YtopjfnbonjmnjaaGreatDoorUsF
namespace Go.Pv.T
open Go Go.Pv Go.Proofs Go.ChangeShapes Go.WideShapes Go.ChangeAt Go.RowKit Go.Proofs.YtopjfnbonjmnjaaGreatDoor
set_option maxRecDepth 100000 in
theorem js2 (os:Os) (started:os.Started) (H:Type) (enc:TypeId × Value→H) :
 ReturnsInHanded {} Tryz.checked os 13 .any (fun w args=>(Rows.unitSoundSpec.pre enc Tryz.prog Tryz.f13 [] false w args∧laidMetH Tryz.prog jmo w)∧sizedMet enc Tryz.prog Tryz.f13 (OpenSpec.ofChange Rows.unitSoundSpec) false w args)
  (Rows.unitSoundSpec.post enc Tryz.prog Tryz.f13 false true false false):=by
 refine returnsInHanded_of_change_and (C:=Tryz.checked) (X:=fun w _=>laidMetH Tryz.prog jmo w) (fun _ _ _ hh h=>h.of_heap hh) own started (by kernel_rfl) Tryz.func13
  (ChangeSpec.witness_shaped (enc:=enc) (C:=Tryz.checked) (os:=os) (X:=fun w _=>laidMetH Tryz.prog jmo w) false (laidWorld os) #[.agg #[.slice none 0 0,.slice none 0 0,.slice none 0 0],.agg #[.slice none 0 0,.slice none 0 0]] 8 rfl (World.shaped_of_RefB (by kernel_rfl) (by kernel_rfl)) (by kernel_rfl) (by kernel_rfl) (by kernel_rfl) (jt6 os _)) ?_
 intro W base args ds gs before hval0 hW _ hwt hL _
 have hval:∀ (j:Nat) t v,Tryz.f13.params[j]? = some t→args[j]? = some v→Value.okWide Tryz.prog W .any base t v:=hval0
 have hW':=hW
 obtain ⟨p,q,hA0,hV,rfl,hfz,hnd⟩:=hW
 have hA:DataW.TrodAll enc Tryz.prog W 0 (fun _=>true) true Tryz.f13.params.toList args.toList ds p:=hA0
 rw [Tryz.params13] at hA hval
 obtain ⟨args⟩:=args
 obtain ⟨v0,v1,d0,d1,p0,p1,hargs,rfl,h0,h1⟩:=jiv hA
 simp only at hargs
 subst hargs
 obtain ⟨g0,r0⟩:=jtu (hval 0 25 v0 rfl rfl) h0
 obtain ⟨cn1,cs1,ln1,lo1,r1⟩:=jnk (hval 1 77 v1 rfl rfl) h1
 refine (jm3 hL (vs:=[.agg (j7 g0),.agg (JL cn1 cs1 ln1 lo1)]) rfl (fun j x v hx hv=>?_) (ev13 g0 cn1 ln1 cs1 lo1)).mono fun e W' ⟨he,hg⟩=>⟨_,he,?_⟩
 ·match j,hx,hv with
  | 0,hx,hv=>cases hx;cases hv;exact r0
  | 1,hx,hv=>cases hx;cases hv;exact r1
  | j+2,_,hv=>simp at hv
 ·exact jog hW' rfl (by kernel_rfl) rfl rfl rfl (by rw [Tryz.params13];exact fun t ht=>jwp [25,77] (by kernel_rfl) t (by simpa using ht)) hg
theorem a1:Rows.unitSoundRow.wf (OpenSpec.ofChange Rows.unitSoundSpec)=true:=by kernel_rfl
theorem a2:mapsRowed Tryz.prog=true:=by kernel_rfl
theorem a3:Tryz.f13.params.all (Tryz.prog.readableRec ·)=true:=by kernel_rfl
theorem a4:(Rows.unitSoundRow.inPlace == Tryz.prog.inPlace 13)=true:=by kernel_rfl
theorem a5:(Rows.unitSoundRow.unfollowed == Tryz.prog.unfollowed 13)=true:=by kernel_rfl
theorem a6:(Rows.unitSoundRow.recurses == Tryz.prog.recurses 13)=true:=by kernel_rfl
theorem a7:(Rows.unitSoundRow.named == Tryz.prog.varsNamed 13)=true:=by kernel_rfl
theorem a8:Tryz.prog.mayEnter=true:=by kernel_rfl
theorem a9:Tryz.prog.stopsHeard=true:=by kernel_rfl
theorem a10:(Rows.unitSoundRow.lifted == Tryz.prog.liftsFinal)=true:=by kernel_rfl
theorem a11:(Tryz.prog.make == some Rows.unitSoundRow.make)=true:=by kernel_rfl
theorem a12:(Rows.unitSoundRow.plainKeys == Tryz.prog.plainKeys)=true:=by kernel_rfl
theorem j5p:joinedFacts Tryz.prog 13 Tryz.f13 Rows.unitSoundSpec Rows.unitSoundRow=true:=by
 unfold joinedFacts
 rw [a1,jpq,a2,a3,a4,a5,a6,a7,a8,a9,a10,a11,a12]
 kernel_rfl
theorem jcd:Rows.UnitSoundSaid :=
 OpenClaim.holds_of_wide 13 Tryz.f13 rfl rfl rfl rfl rfl rfl rfl ⟨rfl,rfl,rfl,rfl,rfl⟩ rfl rfl rfl rfl rfl (by kernel_rfl) Tryz.func13 j5p
  (of_decide_eq_true (by kernel_rfl)) (by unfold Func.isWrapper;first | (rw [if_pos (by decide +kernel)];kernel_rfl) | (rw [if_neg (by decide +kernel)];exact ⟨rfl,rfl⟩))
  (fun os started H enc _=>js2 os started H enc)
end Go.Pv.T
