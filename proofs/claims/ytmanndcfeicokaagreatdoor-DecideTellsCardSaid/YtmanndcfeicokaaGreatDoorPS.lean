/- Part. -/
import Derived.Test.YtmanndcfeicokaaGreatDoorPR
set_option maxRecDepth 100000
set_option maxHeartbeats 8000000
set_option linter.all false
namespace Go.Pv.T
open Go Go.Pv Go.Proofs Go.ChangeShapes Go.WideShapes Go.ChangeAt Go.RowKit Go.Proofs.YtmanndcfeicokaaGreatDoor
theorem j8w (os:Os) (started:os.Started) (H:Type) (enc:TypeId × Value->H) :
 ReturnsInHanded {} Tryz.checked os 3 .any (λw args=>(Rows.decideTellsSpec.pre enc Tryz.prog Tryz.f3 [] false w args/\laidMetH Tryz.prog juw w)/\sizedMet enc Tryz.prog Tryz.f3 (OpenSpec.ofChange Rows.decideTellsSpec) false w args)
  (Rows.decideTellsSpec.post enc Tryz.prog Tryz.f3 false true false false):=by
 refine returnsInHanded_of_change_and (C:=Tryz.checked) (X:=λw _=>laidMetH Tryz.prog juw w) (λ_ _ _ hh h=>h.of_heap hh) own started (by kernel_rfl) Tryz.func3
  (ChangeSpec.witness_shaped (enc:=enc) (C:=Tryz.checked) (os:=os) (X:=λw _=>laidMetH Tryz.prog juw w) false (laidWorld os) #[.int .i64 0,.agg #[.slice none 0 0,.slice none 0 0,.slice none 0 0],.int .i64 0] 8 rfl (World.shaped_of_RefB (by kernel_rfl) (by kernel_rfl)) (by kernel_rfl) (by kernel_rfl) (by kernel_rfl) (j47 os _)) ?_
 intro W base args ds gs before hval0 hW _ hwt hL _
 have hval:∀ (j:Nat) t v,Tryz.f3.params[j]? = some t->args[j]? = some v->Value.okWide Tryz.prog W .any base t v:=hval0
 have hW':=hW
 obtain⟨p,q,hA0,hV,rfl,hfz,hnd⟩:=hW
 have hA:DataW.TrodAll enc Tryz.prog W 0 (λ_=>true) true Tryz.f3.params.toList args.toList ds p:=hA0
 rw[Tryz.params3]at hA hval
 obtain⟨args⟩:=args
 obtain⟨v0,v1,v2,d0,d1,d2,p0,p1,p2,hargs,rfl,hps,h0,h1,h2⟩:=trodAll_three hA
 cases hargs
 obtain⟨g0,q0,r0⟩:=jz2 (hval 0 3 v0 rfl rfl)
 obtain⟨g1,r1⟩:=j4l (hval 1 25 v1 rfl rfl) h1
 obtain⟨g2,q2,r2⟩:=jz2 (hval 2 3 v2 rfl rfl)
 refine(jvp hL (vs:=[.int .i64 g0,.agg (yb g1),.int .i64 g2]) rfl (λj x v hx hv=>?_) (ev3 g1 g0 g2 q2.2)).mono λe W' ⟨he,hg⟩=>⟨_,he,?_⟩
 ·match j,hx,hv with
  | 0,hx,hv=>cases hx;cases hv;exact r0
  | 1,hx,hv=>cases hx;cases hv;exact r1
  | 2,hx,hv=>cases hx;cases hv;exact r2
  | j+3,_,hv=>simp at hv
 ·exact jxm hW' rfl (by kernel_rfl) rfl rfl rfl (by rw[Tryz.params3];exact λt ht=>j76 [3,25,3] (by kernel_rfl) t (by simpa using ht)) hg
theorem a1:Rows.decideTellsRow.wf (OpenSpec.ofChange Rows.decideTellsSpec)=true:=by kernel_rfl
theorem a2:mapsRowed Tryz.prog=true:=by kernel_rfl
theorem a3:Tryz.f3.params.all (Tryz.prog.readableRec ·)=true:=by kernel_rfl
theorem a4:(Rows.decideTellsRow.inPlace == Tryz.prog.inPlace 3)=true:=by kernel_rfl
theorem a5:(Rows.decideTellsRow.unfollowed == Tryz.prog.unfollowed 3)=true:=by kernel_rfl
theorem a6:(Rows.decideTellsRow.recurses == Tryz.prog.recurses 3)=true:=by kernel_rfl
theorem a7:(Rows.decideTellsRow.named == Tryz.prog.varsNamed 3)=true:=by kernel_rfl
theorem a8:Tryz.prog.mayEnter=true:=by kernel_rfl
theorem a9:Tryz.prog.stopsHeard=true:=by kernel_rfl
theorem a10:(Rows.decideTellsRow.lifted == Tryz.prog.liftsFinal)=true:=by kernel_rfl
theorem a11:(Tryz.prog.make == some Rows.decideTellsRow.make)=true:=by kernel_rfl
theorem a12:(Rows.decideTellsRow.plainKeys == Tryz.prog.plainKeys)=true:=by kernel_rfl
theorem closed:joinedFacts Tryz.prog 3 Tryz.f3 Rows.decideTellsSpec Rows.decideTellsRow=true:=by
 unfold joinedFacts
 rw[a1,jy4,a2,a3,a4,a5,a6,a7,a8,a9,a10,a11,a12]
 kernel_rfl
theorem jeb:Rows.DecideTellsSaid :=
 OpenClaim.holds_of_wide 3 Tryz.f3 rfl rfl rfl rfl rfl rfl rfl ⟨rfl,rfl,rfl,rfl,rfl⟩ rfl rfl rfl rfl rfl (by kernel_rfl) Tryz.func3 closed
  (of_decide_eq_true (by kernel_rfl)) (by unfold Func.isWrapper;first|(rw[if_pos (by decide +kernel)];kernel_rfl)|(rw[if_neg (by decide +kernel)];exact⟨rfl,rfl⟩))
  (λos started H enc _=>j8w os started H enc)
end Go.Pv.T
