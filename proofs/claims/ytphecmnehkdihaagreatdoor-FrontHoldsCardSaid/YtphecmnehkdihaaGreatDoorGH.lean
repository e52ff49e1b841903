/- The row of deemsterlaw28.FrontHolds: whatever history and list come in, the call returns true and what came in reads as it did; condition: the listed package variables Qg as the program lays them (the card ties them). -/
import Derived.Test.YtphecmnehkdihaaGreatDoorGG
set_option maxRecDepth 100000
namespace Go.Pv.T
open Go Go.Pv Go.Proofs Go.ChangeShapes Go.WideShapes Go.ChangeAt Go.RowKit Go.Proofs.YtphecmnehkdihaaGreatDoor
theorem jxf (os:Os) (started:os.Started) (H:Type) (enc:TypeId × Value→H) :
 ReturnsInHanded {} Tryz.checked os 11 .any (fun w args=>(Rows.frontHoldsSpec.pre enc Tryz.prog Tryz.f11 [] false w args∧laidMetH Tryz.prog jpr w)∧sizedMet enc Tryz.prog Tryz.f11 (OpenSpec.ofChange Rows.frontHoldsSpec) false w args)
  (Rows.frontHoldsSpec.post enc Tryz.prog Tryz.f11 false true false false):=by
 refine returnsInHanded_of_change_and (C:=Tryz.checked) (X:=fun w _=>laidMetH Tryz.prog jpr w) (fun _ _ _ hh h=>h.of_heap hh) own started (by kernel_rfl) Tryz.func11
  (ChangeSpec.witness_shaped (enc:=enc) (C:=Tryz.checked) (os:=os) (X:=fun w _=>laidMetH Tryz.prog jpr w) false (laidWorld os) #[.agg #[.slice none 0 0,.slice none 0 0,.slice none 0 0],.slice none 0 0] 8 rfl (World.shaped_of_RefB (by kernel_rfl) (by kernel_rfl)) (by kernel_rfl) (by kernel_rfl) (by kernel_rfl) (jyu os _)) ?_
 intro W base args ds gs before hval0 hW _ hwt hL _
 have hval:∀ (j:Nat) t v,Tryz.f11.params[j]? = some t→args[j]? = some v→Value.okWide Tryz.prog W .any base t v:=hval0
 have hW':=hW
 obtain⟨p,q,hA0,hV,rfl,hfz,hnd⟩:=hW
 have hA:DataW.TrodAll enc Tryz.prog W 0 (fun _=>true) true Tryz.f11.params.toList args.toList ds p:=hA0
 rw[Tryz.params11]at hA hval
 obtain⟨args⟩:=args
 obtain⟨v0,v1,d0,d1,p0,p1,hargs,rfl,hps,h0,h1⟩:=Go.ChangeShapes.trodAll_two hA
 cases hargs
 obtain⟨g0,r0⟩:=jye (hval 0 25 v0 rfl rfl) h0
 obtain⟨n1,l1,r1⟩:=jyb (hval 1 26 v1 rfl rfl) h1
 refine(jqg hL (vs:=[.agg (j2 g0),jH n1 intC l1]) rfl (fun j x v hx hv=>?_) (ev11 g0 l1)).mono fun e W' ⟨he,hg⟩=>⟨_,he,?_⟩
 ·match j,hx,hv with
  | 0,hx,hv=>cases hx;cases hv;exact r0
  | 1,hx,hv=>cases hx;cases hv;exact r1
  | j+2,_,hv=>simp at hv
 ·exact jr3 hW' rfl (by kernel_rfl) rfl rfl rfl (by rw[Tryz.params11];exact fun t ht=>j1n [25,26] (by kernel_rfl) t (by simpa using ht)) hg
theorem a1:Rows.frontHoldsRow.wf (OpenSpec.ofChange Rows.frontHoldsSpec)=true:=by kernel_rfl
theorem a2:mapsRowed Tryz.prog=true:=by kernel_rfl
theorem a3:Tryz.f11.params.all (Tryz.prog.readableRec ·)=true:=by kernel_rfl
theorem a4:(Rows.frontHoldsRow.inPlace == Tryz.prog.inPlace 11)=true:=by kernel_rfl
theorem a5:(Rows.frontHoldsRow.unfollowed == Tryz.prog.unfollowed 11)=true:=by kernel_rfl
theorem a6:(Rows.frontHoldsRow.recurses == Tryz.prog.recurses 11)=true:=by kernel_rfl
theorem a7:(Rows.frontHoldsRow.named == Tryz.prog.varsNamed 11)=true:=by kernel_rfl
theorem a8:Tryz.prog.mayEnter=true:=by kernel_rfl
theorem a9:Tryz.prog.stopsHeard=true:=by kernel_rfl
theorem a10:(Rows.frontHoldsRow.lifted == Tryz.prog.liftsFinal)=true:=by kernel_rfl
theorem a11:(Tryz.prog.make == some Rows.frontHoldsRow.make)=true:=by kernel_rfl
theorem a12:(Rows.frontHoldsRow.plainKeys == Tryz.prog.plainKeys)=true:=by kernel_rfl
theorem closed:joinedFacts Tryz.prog 11 Tryz.f11 Rows.frontHoldsSpec Rows.frontHoldsRow=true:=by
 unfold joinedFacts
 rw[a1,jtk,a2,a3,a4,a5,a6,a7,a8,a9,a10,a11,a12]
 kernel_rfl
theorem jcw:Rows.FrontHoldsSaid :=
 OpenClaim.holds_of_wide 11 Tryz.f11 rfl rfl rfl rfl rfl rfl rfl ⟨rfl,rfl,rfl,rfl,rfl⟩ rfl rfl rfl rfl rfl (by kernel_rfl) Tryz.func11 closed
  (of_decide_eq_true (by kernel_rfl)) (by unfold Func.isWrapper;first|(rw[if_pos (by decide +kernel)];kernel_rfl)|(rw[if_neg (by decide +kernel)];exact⟨rfl,rfl⟩))
  (fun os started H enc _=>jxf os started H enc)
end Go.Pv.T
