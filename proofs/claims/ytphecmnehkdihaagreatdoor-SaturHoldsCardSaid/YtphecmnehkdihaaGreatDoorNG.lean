/- The row of deemsterlaw27.SaturHolds: whatever level, history and lists come in, the call returns true and what came in reads as it did; condition: the listed package variables QO as the program lays them (the card ties them). -/
import Derived.Test.YtphecmnehkdihaaGreatDoorNF
import Derived.Carry
set_option maxRecDepth 100000
set_option maxHeartbeats 8000000
namespace Go.Pv.T
open Go Go.Pv Go.Proofs Go.ChangeShapes Go.WideShapes Go.ChangeAt Go.RowKit Go.Proofs.YtphecmnehkdihaaGreatDoor
theorem jw9 (os:Os) (started:os.Started) (H:Type) (enc:TypeId × Value→H) :
 ReturnsInHanded {} Tryz.checked os 14 .any (fun w args=>(Rows.saturHoldsSpec.pre enc Tryz.prog Tryz.f14 [] false w args∧laidMetH Tryz.prog jpq w)∧sizedMet enc Tryz.prog Tryz.f14 (OpenSpec.ofChange Rows.saturHoldsSpec) false w args)
  (Rows.saturHoldsSpec.post enc Tryz.prog Tryz.f14 false true false false):=by
 refine returnsInHanded_of_change_and (C:=Tryz.checked) (X:=fun w _=>laidMetH Tryz.prog jpq w) (fun _ _ _ hh h=>h.of_heap hh) own started (by kernel_rfl) Tryz.func14
  (ChangeSpec.witness_shaped (enc:=enc) (C:=Tryz.checked) (os:=os) (X:=fun w _=>laidMetH Tryz.prog jpq w) false (laidWorld os) #[.int .i64 0,.agg #[.slice none 0 0,.slice none 0 0,.slice none 0 0],.slice none 0 0,.slice none 0 0] 8 rfl (World.shaped_of_RefB (by kernel_rfl) (by kernel_rfl)) (by kernel_rfl) (by kernel_rfl) (by kernel_rfl) (jyn os _)) ?_
 intro W base args ds gs before hval0 hW _ hwt hL _
 have hval:∀ (j:Nat) t v,Tryz.f14.params[j]? = some t→args[j]? = some v→Value.okWide Tryz.prog W .any base t v:=hval0
 have hW':=hW
 obtain⟨p,q,hA0,hV,rfl,hfz,hnd⟩:=hW
 have hA:DataW.TrodAll enc Tryz.prog W 0 (fun _=>true) true Tryz.f14.params.toList args.toList ds p:=hA0
 rw[Tryz.params14]at hA hval
 obtain⟨args⟩:=args
 obtain⟨v0,v1,v2,v3,d0,d1,d2,d3,p0,p1,p2,p3,hargs,rfl,hps,h0,h1,h2,h3⟩:=trodAll_four hA
 cases hargs
 obtain⟨g0,r0⟩:=j22 (hval 0 3 v0 rfl rfl)
 obtain⟨g1,r1⟩:=jx8 (hval 1 25 v1 rfl rfl) h1
 obtain⟨n2,l2,r2⟩:=jnp (hval 2 26 v2 rfl rfl) h2
 obtain⟨n3,l3,r3⟩:=jnp (hval 3 26 v3 rfl rfl) h3
 refine(jp7 hL (vs:=[.int .i64 g0,.agg (histC g1),slOf n2 intC l2,slOf n3 intC l3]) rfl (fun j x v hx hv=>?_) (ev14 g1 g0 l2 l3)).mono fun e W' ⟨he,hg⟩=>⟨_,he,?_⟩
 ·match j,hx,hv with
  | 0,hx,hv=>cases hx;cases hv;exact r0
  | 1,hx,hv=>cases hx;cases hv;exact r1
  | 2,hx,hv=>cases hx;cases hv;exact r2
  | 3,hx,hv=>cases hx;cases hv;exact r3
  | j+4,_,hv=>simp at hv
 ·exact jrx hW' rfl (by kernel_rfl) rfl rfl rfl (by rw[Tryz.params14];exact fun t ht=>j1h [3,25,26,26] (by kernel_rfl) t (by simpa using ht)) hg
theorem a1:Rows.saturHoldsRow.wf (OpenSpec.ofChange Rows.saturHoldsSpec)=true:=by kernel_rfl
theorem a2:mapsRowed Tryz.prog=true:=by kernel_rfl
theorem a3:Tryz.f14.params.all (Tryz.prog.readableRec ·)=true:=by kernel_rfl
theorem a4:(Rows.saturHoldsRow.inPlace == Tryz.prog.inPlace 14)=true:=by kernel_rfl
theorem a5:(Rows.saturHoldsRow.unfollowed == Tryz.prog.unfollowed 14)=true:=by kernel_rfl
theorem a6:(Rows.saturHoldsRow.recurses == Tryz.prog.recurses 14)=true:=by kernel_rfl
theorem a7:(Rows.saturHoldsRow.named == Tryz.prog.varsNamed 14)=true:=by kernel_rfl
theorem a8:Tryz.prog.mayEnter=true:=by kernel_rfl
theorem a9:Tryz.prog.stopsHeard=true:=by kernel_rfl
theorem a10:(Rows.saturHoldsRow.lifted == Tryz.prog.liftsFinal)=true:=by kernel_rfl
theorem a11:(Tryz.prog.make == some Rows.saturHoldsRow.make)=true:=by kernel_rfl
theorem a12:(Rows.saturHoldsRow.plainKeys == Tryz.prog.plainKeys)=true:=by kernel_rfl
theorem closed:joinedFacts Tryz.prog 14 Tryz.f14 Rows.saturHoldsSpec Rows.saturHoldsRow=true:=by
 unfold joinedFacts
 rw[a1,js3,a2,a3,a4,a5,a6,a7,a8,a9,a10,a11,a12]
 kernel_rfl
theorem jck:Rows.SaturHoldsSaid :=
 OpenClaim.holds_of_wide 14 Tryz.f14 rfl rfl rfl rfl rfl rfl rfl ⟨rfl,rfl,rfl,rfl,rfl⟩ rfl rfl rfl rfl rfl (by kernel_rfl) Tryz.func14 closed
  (of_decide_eq_true (by kernel_rfl)) (by unfold Func.isWrapper;first|(rw[if_pos (by decide +kernel)];kernel_rfl)|(rw[if_neg (by decide +kernel)];exact⟨rfl,rfl⟩))
  (fun os started H enc _=>jw9 os started H enc)
end Go.Pv.T
