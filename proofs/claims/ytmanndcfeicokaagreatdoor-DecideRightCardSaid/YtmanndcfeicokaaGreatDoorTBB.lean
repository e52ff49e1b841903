/- Part. -/
import Derived.Test.YtmanndcfeicokaaGreatDoorTBA
set_option maxRecDepth 100000
set_option maxHeartbeats 8000000
set_option linter.all false
namespace Go.Pv.T
open Go Go.Pv Go.Proofs Go.ChangeShapes Go.WideShapes Go.ChangeAt Go.RowKit Go.Proofs.YtmanndcfeicokaaGreatDoor
theorem j83 (os:Os) (started:os.Started) (H:Type) (enc:TypeId × Value->H) :
 ReturnsInHanded {} Tryz.checked os 4 .any (λw args=>(Rows.decideRightSpec.pre enc Tryz.prog Tryz.f4 [] false w args/\laidMetH Tryz.prog juy w)/\sizedMet enc Tryz.prog Tryz.f4 (OpenSpec.ofChange Rows.decideRightSpec) false w args)
  (Rows.decideRightSpec.post enc Tryz.prog Tryz.f4 false true false false):=by
 refine returnsInHanded_of_change_and (C:=Tryz.checked) (X:=λw _=>laidMetH Tryz.prog juy w) (λ_ _ _ hh h=>h.of_heap hh) own started (by kernel_rfl) Tryz.func4
  (ChangeSpec.witness_shaped (enc:=enc) (C:=Tryz.checked) (os:=os) (X:=λw _=>laidMetH Tryz.prog juy w) false (laidWorld os) #[.int .i64 0,.agg #[.slice none 0 0,.slice none 0 0,.slice none 0 0]] 8 rfl (World.shaped_of_RefB (by kernel_rfl) (by kernel_rfl)) (by kernel_rfl) (by kernel_rfl) (by kernel_rfl) (j5c os _)) ?_
 intro W base args ds gs before hval0 hW _ hwt hL _
 have hval:∀ (j:Nat) t v,Tryz.f4.params[j]? = some t->args[j]? = some v->Value.okWide Tryz.prog W .any base t v:=hval0
 have hW':=hW
 obtain⟨p,q,hA0,hV,rfl,hfz,hnd⟩:=hW
 have hA:DataW.TrodAll enc Tryz.prog W 0 (λ_=>true) true Tryz.f4.params.toList args.toList ds p:=hA0
 rw[Tryz.params4]at hA hval
 obtain⟨args⟩:=args
 obtain⟨v0,v1,d0,d1,p0,p1,hargs,rfl,hps,h0,h1⟩:=Go.ChangeShapes.trodAll_two hA
 cases hargs
 obtain⟨g0,q0,r0⟩:=j95 (hval 0 3 v0 rfl rfl)
 obtain⟨g1,r1⟩:=j4o (hval 1 25 v1 rfl rfl) h1
 refine(jvq hL (vs:=[.int .i64 g0,.agg (ya g1)]) rfl (λj x v hx hv=>?_) (ev4 g1 g0)).mono λe W' ⟨he,hg⟩=>⟨_,he,?_⟩
 ·match j,hx,hv with
  | 0,hx,hv=>cases hx;cases hv;exact r0
  | 1,hx,hv=>cases hx;cases hv;exact r1
  | j+2,_,hv=>simp at hv
 ·exact jxv hW' rfl (by kernel_rfl) rfl rfl rfl (by rw[Tryz.params4];exact λt ht=>j8g [3,25] (by kernel_rfl) t (by simpa using ht)) hg
theorem a1:Rows.decideRightRow.wf (OpenSpec.ofChange Rows.decideRightSpec)=true:=by kernel_rfl
theorem a2:mapsRowed Tryz.prog=true:=by kernel_rfl
theorem a3:Tryz.f4.params.all (Tryz.prog.readableRec ·)=true:=by kernel_rfl
theorem a4:(Rows.decideRightRow.inPlace == Tryz.prog.inPlace 4)=true:=by kernel_rfl
theorem a5:(Rows.decideRightRow.unfollowed == Tryz.prog.unfollowed 4)=true:=by kernel_rfl
theorem a6:(Rows.decideRightRow.recurses == Tryz.prog.recurses 4)=true:=by kernel_rfl
theorem a7:(Rows.decideRightRow.named == Tryz.prog.varsNamed 4)=true:=by kernel_rfl
theorem a8:Tryz.prog.mayEnter=true:=by kernel_rfl
theorem a9:Tryz.prog.stopsHeard=true:=by kernel_rfl
theorem a10:(Rows.decideRightRow.lifted == Tryz.prog.liftsFinal)=true:=by kernel_rfl
theorem a11:(Tryz.prog.make == some Rows.decideRightRow.make)=true:=by kernel_rfl
theorem a12:(Rows.decideRightRow.plainKeys == Tryz.prog.plainKeys)=true:=by kernel_rfl
theorem closed:joinedFacts Tryz.prog 4 Tryz.f4 Rows.decideRightSpec Rows.decideRightRow=true:=by
 unfold joinedFacts
 rw[a1,jy8,a2,a3,a4,a5,a6,a7,a8,a9,a10,a11,a12]
 kernel_rfl
theorem jd7:Rows.DecideRightSaid :=
 OpenClaim.holds_of_wide 4 Tryz.f4 rfl rfl rfl rfl rfl rfl rfl ⟨rfl,rfl,rfl,rfl,rfl⟩ rfl rfl rfl rfl rfl (by kernel_rfl) Tryz.func4 closed
  (of_decide_eq_true (by kernel_rfl)) (by unfold Func.isWrapper;first|(rw[if_pos (by decide +kernel)];kernel_rfl)|(rw[if_neg (by decide +kernel)];exact⟨rfl,rfl⟩))
  (λos started H enc _=>j83 os started H enc)
end Go.Pv.T
