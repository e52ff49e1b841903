/- The row of deemsterlaw28.FrontOrders: whatever history, list and bound come in, the call returns true and what came in reads as it did; condition: the listed package variables Qf as the program lays them (the card ties them). -/
import Derived.Test.YtphecmnehkdihaaGreatDoorOG
set_option maxRecDepth 100000
namespace Go.Pv.T
open Go Go.Pv Go.Proofs Go.ChangeShapes Go.WideShapes Go.ChangeAt Go.RowKit Go.Proofs.YtphecmnehkdihaaGreatDoor
theorem j2f (os:Os) (started:os.Started) (H:Type) (enc:TypeId × Value→H) :
 ReturnsInHanded {} Tryz.checked os 9 .any (fun w args=>(Rows.frontOrdersSpec.pre enc Tryz.prog Tryz.f9 [] false w args∧laidMetH Tryz.prog jpv w)∧sizedMet enc Tryz.prog Tryz.f9 (OpenSpec.ofChange Rows.frontOrdersSpec) false w args)
  (Rows.frontOrdersSpec.post enc Tryz.prog Tryz.f9 false true false false):=by
 refine returnsInHanded_of_change_and (C:=Tryz.checked) (X:=fun w _=>laidMetH Tryz.prog jpv w) (fun _ _ _ hh h=>h.of_heap hh) own started (by kernel_rfl) Tryz.func9
  (ChangeSpec.witness_shaped (enc:=enc) (C:=Tryz.checked) (os:=os) (X:=fun w _=>laidMetH Tryz.prog jpv w) false (laidWorld os) #[.agg #[.slice none 0 0,.slice none 0 0,.slice none 0 0],.slice none 0 0,.int .i64 0] 8 rfl (World.shaped_of_RefB (by kernel_rfl) (by kernel_rfl)) (by kernel_rfl) (by kernel_rfl) (by kernel_rfl) (jy0 os _)) ?_
 intro W base args ds gs before hval0 hW _ hwt hL _
 have hval:∀ (j:Nat) t v,Tryz.f9.params[j]? = some t→args[j]? = some v→Value.okWide Tryz.prog W .any base t v:=hval0
 have hW':=hW
 obtain⟨p,q,hA0,hV,rfl,hfz,hnd⟩:=hW
 have hA:DataW.TrodAll enc Tryz.prog W 0 (fun _=>true) true Tryz.f9.params.toList args.toList ds p:=hA0
 rw[Tryz.params9]at hA hval
 obtain⟨args⟩:=args
 obtain⟨v0,v1,v2,d0,d1,d2,p0,p1,p2,hargs,rfl,hps,h0,h1,h2⟩:=trodAll_three hA
 cases hargs
 obtain⟨g0,r0⟩:=jyi (hval 0 25 v0 rfl rfl) h0
 obtain⟨n1,l1,r1⟩:=jye (hval 1 26 v1 rfl rfl) h1
 obtain⟨g2,r2⟩:=j3g (hval 2 3 v2 rfl rfl)
 refine(jqm hL (vs:=[.agg (j2 g0),jN n1 intC l1,.int .i64 g2]) rfl (fun j x v hx hv=>?_) (ev9 g0 l1 g2)).mono fun e W' ⟨he,hg⟩=>⟨_,he,?_⟩
 ·match j,hx,hv with
  | 0,hx,hv=>cases hx;cases hv;exact r0
  | 1,hx,hv=>cases hx;cases hv;exact r1
  | 2,hx,hv=>cases hx;cases hv;exact r2
  | j+3,_,hv=>simp at hv
 ·exact jr8 hW' rfl (by kernel_rfl) rfl rfl rfl (by rw[Tryz.params9];exact fun t ht=>j1p [25,26,3] (by kernel_rfl) t (by simpa using ht)) hg
theorem a1:Rows.frontOrdersRow.wf (OpenSpec.ofChange Rows.frontOrdersSpec)=true:=by kernel_rfl
theorem a2:mapsRowed Tryz.prog=true:=by kernel_rfl
theorem a3:Tryz.f9.params.all (Tryz.prog.readableRec ·)=true:=by kernel_rfl
theorem a4:(Rows.frontOrdersRow.inPlace == Tryz.prog.inPlace 9)=true:=by kernel_rfl
theorem a5:(Rows.frontOrdersRow.unfollowed == Tryz.prog.unfollowed 9)=true:=by kernel_rfl
theorem a6:(Rows.frontOrdersRow.recurses == Tryz.prog.recurses 9)=true:=by kernel_rfl
theorem a7:(Rows.frontOrdersRow.named == Tryz.prog.varsNamed 9)=true:=by kernel_rfl
theorem a8:Tryz.prog.mayEnter=true:=by kernel_rfl
theorem a9:Tryz.prog.stopsHeard=true:=by kernel_rfl
theorem a10:(Rows.frontOrdersRow.lifted == Tryz.prog.liftsFinal)=true:=by kernel_rfl
theorem a11:(Tryz.prog.make == some Rows.frontOrdersRow.make)=true:=by kernel_rfl
theorem a12:(Rows.frontOrdersRow.plainKeys == Tryz.prog.plainKeys)=true:=by kernel_rfl
theorem closed:joinedFacts Tryz.prog 9 Tryz.f9 Rows.frontOrdersSpec Rows.frontOrdersRow=true:=by
 unfold joinedFacts
 rw[a1,jts,a2,a3,a4,a5,a6,a7,a8,a9,a10,a11,a12]
 kernel_rfl
theorem jcb:Rows.FrontOrdersSaid :=
 OpenClaim.holds_of_wide 9 Tryz.f9 rfl rfl rfl rfl rfl rfl rfl ⟨rfl,rfl,rfl,rfl,rfl⟩ rfl rfl rfl rfl rfl (by kernel_rfl) Tryz.func9 closed
  (of_decide_eq_true (by kernel_rfl)) (by unfold Func.isWrapper;first|(rw[if_pos (by decide +kernel)];kernel_rfl)|(rw[if_neg (by decide +kernel)];exact⟨rfl,rfl⟩))
  (fun os started H enc _=>j2f os started H enc)
end Go.Pv.T
