/- Part. -/
import Derived.Test.YtmanndcfeicokaaGreatDoorQW
import Derived.Carry
set_option maxRecDepth 100000
set_option maxHeartbeats 8000000
set_option linter.all false
namespace Go.Pv.T
open Go Go.Pv Go.Proofs Go.ChangeShapes Go.WideShapes Go.ChangeAt Go.RowKit Go.Proofs.YtmanndcfeicokaaGreatDoor
theorem j5z (os:Os) (started:os.Started) (H:Type) (enc:TypeId × Value->H) :
 ReturnsInHanded {} Tryz.checked os 5 .any (λw args=>(Rows.decideMoreSpec.pre enc Tryz.prog Tryz.f5 [] false w args/\laidMetH Tryz.prog jse w)/\sizedMet enc Tryz.prog Tryz.f5 (OpenSpec.ofChange Rows.decideMoreSpec) false w args)
  (Rows.decideMoreSpec.post enc Tryz.prog Tryz.f5 false true false false):=by
 refine returnsInHanded_of_change_and (C:=Tryz.checked) (X:=λw _=>laidMetH Tryz.prog jse w) (λ_ _ _ hh h=>h.of_heap hh) own started (by kernel_rfl) Tryz.func5
  (ChangeSpec.witness_shaped (enc:=enc) (C:=Tryz.checked) (os:=os) (X:=λw _=>laidMetH Tryz.prog jse w) false (laidWorld os) #[.int .i64 0,.agg #[.slice none 0 0,.slice none 0 0,.slice none 0 0],.int .u8 0,.int .u8 0] 8 rfl (World.shaped_of_RefB (by kernel_rfl) (by kernel_rfl)) (by kernel_rfl) (by kernel_rfl) (by kernel_rfl) (j2b os _)) ?_
 intro W base args ds gs before hval0 hW _ hwt hL _
 have hval:∀ (j:Nat) t v,Tryz.f5.params[j]? = some t->args[j]? = some v->Value.okWide Tryz.prog W .any base t v:=hval0
 have hW':=hW
 obtain⟨p,q,hA0,hV,rfl,hfz,hnd⟩:=hW
 have hA:DataW.TrodAll enc Tryz.prog W 0 (λ_=>true) true Tryz.f5.params.toList args.toList ds p:=hA0
 rw[Tryz.params5]at hA hval
 obtain⟨args⟩:=args
 obtain⟨v0,v1,v2,v3,d0,d1,d2,d3,p0,p1,p2,p3,hargs,rfl,hps,h0,h1,h2,h3⟩:=trodAll_four hA
 cases hargs
 obtain⟨g0,q0,r0⟩:=j61 (hval 0 3 v0 rfl rfl)
 obtain⟨g1,r1⟩:=j1r (hval 1 25 v1 rfl rfl) h1
 obtain⟨g2,q2,r2⟩:=j2x (hval 2 5 v2 rfl rfl)
 obtain⟨g3,q3,r3⟩:=j2x (hval 3 5 v3 rfl rfl)
 refine(js6 hL (vs:=[.int .i64 g0,.agg (ya g1),.int .u8 (g2:Int),.int .u8 (g3:Int)]) rfl (λj x v hx hv=>?_) (ev5 g1 g0 g2 g3 q2 q3)).mono λe W' ⟨he,hg⟩=>⟨_,he,?_⟩
 ·match j,hx,hv with
  | 0,hx,hv=>cases hx;cases hv;exact r0
  | 1,hx,hv=>cases hx;cases hv;exact r1
  | 2,hx,hv=>cases hx;cases hv;exact r2
  | 3,hx,hv=>cases hx;cases hv;exact r3
  | j+4,_,hv=>simp at hv
 ·exact ju5 hW' rfl (by kernel_rfl) rfl rfl rfl (by rw[Tryz.params5];exact λt ht=>j5c [3,25,5,5] (by kernel_rfl) t (by simpa using ht)) hg
theorem a1:Rows.decideMoreRow.wf (OpenSpec.ofChange Rows.decideMoreSpec)=true:=by kernel_rfl
theorem a2:mapsRowed Tryz.prog=true:=by kernel_rfl
theorem a3:Tryz.f5.params.all (Tryz.prog.readableRec ·)=true:=by kernel_rfl
theorem a4:(Rows.decideMoreRow.inPlace == Tryz.prog.inPlace 5)=true:=by kernel_rfl
theorem a5:(Rows.decideMoreRow.unfollowed == Tryz.prog.unfollowed 5)=true:=by kernel_rfl
theorem a6:(Rows.decideMoreRow.recurses == Tryz.prog.recurses 5)=true:=by kernel_rfl
theorem a7:(Rows.decideMoreRow.named == Tryz.prog.varsNamed 5)=true:=by kernel_rfl
theorem a8:Tryz.prog.mayEnter=true:=by kernel_rfl
theorem a9:Tryz.prog.stopsHeard=true:=by kernel_rfl
theorem a10:(Rows.decideMoreRow.lifted == Tryz.prog.liftsFinal)=true:=by kernel_rfl
theorem a11:(Tryz.prog.make == some Rows.decideMoreRow.make)=true:=by kernel_rfl
theorem a12:(Rows.decideMoreRow.plainKeys == Tryz.prog.plainKeys)=true:=by kernel_rfl
theorem closed:joinedFacts Tryz.prog 5 Tryz.f5 Rows.decideMoreSpec Rows.decideMoreRow=true:=by
 unfold joinedFacts
 rw[a1,jwi,a2,a3,a4,a5,a6,a7,a8,a9,a10,a11,a12]
 kernel_rfl
theorem jdw:Rows.DecideMoreSaid :=
 OpenClaim.holds_of_wide 5 Tryz.f5 rfl rfl rfl rfl rfl rfl rfl ⟨rfl,rfl,rfl,rfl,rfl⟩ rfl rfl rfl rfl rfl (by kernel_rfl) Tryz.func5 closed
  (of_decide_eq_true (by kernel_rfl)) (by unfold Func.isWrapper;first|(rw[if_pos (by decide +kernel)];kernel_rfl)|(rw[if_neg (by decide +kernel)];exact⟨rfl,rfl⟩))
  (λos started H enc _=>j5z os started H enc)
end Go.Pv.T
