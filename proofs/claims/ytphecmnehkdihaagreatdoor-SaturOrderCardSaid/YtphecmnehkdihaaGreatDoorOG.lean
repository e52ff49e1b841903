/- The row of deemsterlaw27.SaturOrder: whatever level, history and list come in, the call returns true and what came in reads as it did; condition: the listed package variables start as the program lays them (the card ties them). -/
import Derived.Test.YtphecmnehkdihaaGreatDoorOF
set_option maxRecDepth 100000
set_option maxHeartbeats 8000000
set_option linter.all false
namespace Go.Pv.T
open Go Go.Pv Go.Proofs Go.ChangeShapes Go.WideShapes Go.ChangeAt Go.RowKit Go.Proofs.YtphecmnehkdihaaGreatDoor
theorem jzk (os:Os) (started:os.Started) (H:Type) (enc:TypeId × Value->H) :
 ReturnsInHanded {} Tryz.checked os 13 .any (λw args=>(Rows.saturOrderSpec.pre enc Tryz.prog Tryz.f13 [] false w args/\laidMetH Tryz.prog jrh w)/\sizedMet enc Tryz.prog Tryz.f13 (OpenSpec.ofChange Rows.saturOrderSpec) false w args)
  (Rows.saturOrderSpec.post enc Tryz.prog Tryz.f13 false true false false):=by
 refine returnsInHanded_of_change_and (C:=Tryz.checked) (X:=λw _=>laidMetH Tryz.prog jrh w) (λ_ _ _ hh h=>h.of_heap hh) own started (by kernel_rfl) Tryz.func13
  (ChangeSpec.witness_shaped (enc:=enc) (C:=Tryz.checked) (os:=os) (X:=λw _=>laidMetH Tryz.prog jrh w) false (laidWorld os) #[.int .i64 0,.agg #[.slice none 0 0,.slice none 0 0,.slice none 0 0],.slice none 0 0] 8 rfl (World.shaped_of_RefB (by kernel_rfl) (by kernel_rfl)) (by kernel_rfl) (by kernel_rfl) (by kernel_rfl) (j04 os _)) ?_
 intro W base args ds gs before hval0 hW _ hwt hL _
 have hval:∀ (j:Nat) t v,Tryz.f13.params[j]? = some t->args[j]? = some v->Value.okWide Tryz.prog W .any base t v:=hval0
 have hW':=hW
 obtain⟨p,q,hA0,hV,rfl,hfz,hnd⟩:=hW
 have hA:DataW.TrodAll enc Tryz.prog W 0 (λ_=>true) true Tryz.f13.params.toList args.toList ds p:=hA0
 rw[Tryz.params13]at hA hval
 obtain⟨args⟩:=args
 obtain⟨v0,v1,v2,d0,d1,d2,p0,p1,p2,hargs,rfl,hps,h0,h1,h2⟩:=trodAll_three hA
 cases hargs
 obtain⟨g0,r0⟩:=j5n (hval 0 3 v0 rfl rfl)
 obtain⟨g1,r1⟩:=j0n (hval 1 25 v1 rfl rfl) h1
 obtain⟨n2,l2,r2⟩:=j0k (hval 2 26 v2 rfl rfl) h2
 refine(jr0 hL (vs:=[.int .i64 g0,.agg (histC g1),slOf n2 intC l2]) rfl (λj x v hx hv=>?_) (ev13 g1 g0 l2)).mono λe W' ⟨he,hg⟩=>⟨_,he,?_⟩
 ·match j,hx,hv with
  | 0,hx,hv=>cases hx;cases hv;exact r0
  | 1,hx,hv=>cases hx;cases hv;exact r1
  | 2,hx,hv=>cases hx;cases hv;exact r2
  | j+3,_,hv=>simp at hv
 ·exact jtv hW' rfl (by kernel_rfl) rfl rfl rfl (by rw[Tryz.params13];exact λt ht=>j33 [3,25,26] (by kernel_rfl) t (by simpa using ht)) hg
theorem a1:Rows.saturOrderRow.wf (OpenSpec.ofChange Rows.saturOrderSpec)=true:=by kernel_rfl
theorem a2:mapsRowed Tryz.prog=true:=by kernel_rfl
theorem a3:Tryz.f13.params.all (Tryz.prog.readableRec ·)=true:=by kernel_rfl
theorem a4:(Rows.saturOrderRow.inPlace == Tryz.prog.inPlace 13)=true:=by kernel_rfl
theorem a5:(Rows.saturOrderRow.unfollowed == Tryz.prog.unfollowed 13)=true:=by kernel_rfl
theorem a6:(Rows.saturOrderRow.recurses == Tryz.prog.recurses 13)=true:=by kernel_rfl
theorem a7:(Rows.saturOrderRow.named == Tryz.prog.varsNamed 13)=true:=by kernel_rfl
theorem a8:Tryz.prog.mayEnter=true:=by kernel_rfl
theorem a9:Tryz.prog.stopsHeard=true:=by kernel_rfl
theorem a10:(Rows.saturOrderRow.lifted == Tryz.prog.liftsFinal)=true:=by kernel_rfl
theorem a11:(Tryz.prog.make == some Rows.saturOrderRow.make)=true:=by kernel_rfl
theorem a12:(Rows.saturOrderRow.plainKeys == Tryz.prog.plainKeys)=true:=by kernel_rfl
theorem closed:joinedFacts Tryz.prog 13 Tryz.f13 Rows.saturOrderSpec Rows.saturOrderRow=true:=by
 unfold joinedFacts
 rw[a1,ju6,a2,a3,a4,a5,a6,a7,a8,a9,a10,a11,a12]
 kernel_rfl
theorem jdr:Rows.SaturOrderSaid :=
 OpenClaim.holds_of_wide 13 Tryz.f13 rfl rfl rfl rfl rfl rfl rfl ⟨rfl,rfl,rfl,rfl,rfl⟩ rfl rfl rfl rfl rfl (by kernel_rfl) Tryz.func13 closed
  (of_decide_eq_true (by kernel_rfl)) (by unfold Func.isWrapper;first|(rw[if_pos (by decide +kernel)];kernel_rfl)|(rw[if_neg (by decide +kernel)];exact⟨rfl,rfl⟩))
  (λos started H enc _=>jzk os started H enc)
end Go.Pv.T
