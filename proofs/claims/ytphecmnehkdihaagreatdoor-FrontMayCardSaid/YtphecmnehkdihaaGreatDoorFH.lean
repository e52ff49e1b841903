/- The row of deemsterlaw28.FrontMay: whatever history, lists and place come in, the call returns true and what came in reads as it did; condition: the listed package variables QP as the program lays them (the card ties them). -/
import Derived.Test.YtphecmnehkdihaaGreatDoorFG
import Derived.Carry
set_option maxRecDepth 100000
namespace Go.Pv.T
open Go Go.Pv Go.Proofs Go.ChangeShapes Go.WideShapes Go.ChangeAt Go.RowKit Go.Proofs.YtphecmnehkdihaaGreatDoor
theorem jwk (os:Os) (started:os.Started) (H:Type) (enc:TypeId × Value→H) :
 ReturnsInHanded {} Tryz.checked os 10 .any (fun w args=>(Rows.frontMaySpec.pre enc Tryz.prog Tryz.f10 [] false w args∧laidMetH Tryz.prog jo0 w)∧sizedMet enc Tryz.prog Tryz.f10 (OpenSpec.ofChange Rows.frontMaySpec) false w args)
  (Rows.frontMaySpec.post enc Tryz.prog Tryz.f10 false true false false):=by
 refine returnsInHanded_of_change_and (C:=Tryz.checked) (X:=fun w _=>laidMetH Tryz.prog jo0 w) (fun _ _ _ hh h=>h.of_heap hh) own started (by kernel_rfl) Tryz.func10
  (ChangeSpec.witness_shaped (enc:=enc) (C:=Tryz.checked) (os:=os) (X:=fun w _=>laidMetH Tryz.prog jo0 w) false (laidWorld os) #[.agg #[.slice none 0 0,.slice none 0 0,.slice none 0 0],.slice none 0 0,.slice none 0 0,.int .i64 0] 8 rfl (World.shaped_of_RefB (by kernel_rfl) (by kernel_rfl)) (by kernel_rfl) (by kernel_rfl) (by kernel_rfl) (jxy os _)) ?_
 intro W base args ds gs before hval0 hW _ hwt hL _
 have hval:∀ (j:Nat) t v,Tryz.f10.params[j]? = some t→args[j]? = some v→Value.okWide Tryz.prog W .any base t v:=hval0
 have hW':=hW
 obtain ⟨p,q,hA0,hV,rfl,hfz,hnd⟩:=hW
 have hA:DataW.TrodAll enc Tryz.prog W 0 (fun _=>true) true Tryz.f10.params.toList args.toList ds p:=hA0
 rw [Tryz.params10] at hA hval
 obtain ⟨args⟩:=args
 obtain ⟨v0,v1,v2,v3,d0,d1,d2,d3,p0,p1,p2,p3,hargs,rfl,hps,h0,h1,h2,h3⟩:=trodAll_four hA
 cases hargs
 obtain ⟨g0,r0⟩:=jxi (hval 0 25 v0 rfl rfl) h0
 obtain ⟨n1,l1,r1⟩:=jm9 (hval 1 26 v1 rfl rfl) h1
 obtain ⟨n2,l2,r2⟩:=jm9 (hval 2 26 v2 rfl rfl) h2
 obtain ⟨g3,r3⟩:=j2d (hval 3 3 v3 rfl rfl)
 refine (jpn hL (vs:=[.agg (j2 g0),jK n1 intC l1,jK n2 intC l2,.int .i64 g3]) rfl (fun j x v hx hv=>?_) (ev10 g0 l1 l2 g3)).mono fun e W' ⟨he,hg⟩=>⟨_,he,?_⟩
 ·match j,hx,hv with
  | 0,hx,hv=>cases hx;cases hv;exact r0
  | 1,hx,hv=>cases hx;cases hv;exact r1
  | 2,hx,hv=>cases hx;cases hv;exact r2
  | 3,hx,hv=>cases hx;cases hv;exact r3
  | j+4,_,hv=>simp at hv
 ·exact jq9 hW' rfl (by kernel_rfl) rfl rfl rfl (by rw [Tryz.params10];exact fun t ht=>j0o [25,26,26,3] (by kernel_rfl) t (by simpa using ht)) hg
theorem a1:Rows.frontMayRow.wf (OpenSpec.ofChange Rows.frontMaySpec)=true:=by kernel_rfl
theorem a2:mapsRowed Tryz.prog=true:=by kernel_rfl
theorem a3:Tryz.f10.params.all (Tryz.prog.readableRec ·)=true:=by kernel_rfl
theorem a4:(Rows.frontMayRow.inPlace == Tryz.prog.inPlace 10)=true:=by kernel_rfl
theorem a5:(Rows.frontMayRow.unfollowed == Tryz.prog.unfollowed 10)=true:=by kernel_rfl
theorem a6:(Rows.frontMayRow.recurses == Tryz.prog.recurses 10)=true:=by kernel_rfl
theorem a7:(Rows.frontMayRow.named == Tryz.prog.varsNamed 10)=true:=by kernel_rfl
theorem a8:Tryz.prog.mayEnter=true:=by kernel_rfl
theorem a9:Tryz.prog.stopsHeard=true:=by kernel_rfl
theorem a10:(Rows.frontMayRow.lifted == Tryz.prog.liftsFinal)=true:=by kernel_rfl
theorem a11:(Tryz.prog.make == some Rows.frontMayRow.make)=true:=by kernel_rfl
theorem a12:(Rows.frontMayRow.plainKeys == Tryz.prog.plainKeys)=true:=by kernel_rfl
theorem j97:joinedFacts Tryz.prog 10 Tryz.f10 Rows.frontMaySpec Rows.frontMayRow=true:=by
 unfold joinedFacts
 rw [a1,jsr,a2,a3,a4,a5,a6,a7,a8,a9,a10,a11,a12]
 kernel_rfl
theorem je8:Rows.FrontMaySaid :=
 OpenClaim.holds_of_wide 10 Tryz.f10 rfl rfl rfl rfl rfl rfl rfl ⟨rfl,rfl,rfl,rfl,rfl⟩ rfl rfl rfl rfl rfl (by kernel_rfl) Tryz.func10 j97
  (of_decide_eq_true (by kernel_rfl)) (by unfold Func.isWrapper;first | (rw [if_pos (by decide +kernel)];kernel_rfl) | (rw [if_neg (by decide +kernel)];exact ⟨rfl,rfl⟩))
  (fun os started H enc _=>jwk os started H enc)
end Go.Pv.T
