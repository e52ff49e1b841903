/- The row of deemsterlaw25.AxiomHolds: whatever level, history and lists come in, the call returns true and what came in reads as it did; condition: the listed package variables Wp as the program lays them (the card ties them). -/
import Derived.Test.YtphecmnehkdihaaGreatDoorHF
import Derived.Carry
namespace Go.Pv.T
open Go Go.Pv Go.Proofs Go.ChangeShapes Go.WideShapes Go.ChangeAt Go.RowKit Go.Proofs.YtphecmnehkdihaaGreatDoor
set_option maxRecDepth 100000 in
theorem jyl (os:Os) (started:os.Started) (H:Type) (enc:TypeId × Value→H) :
 ReturnsInHanded {} Tryz.checked os 6 .any (fun w args=>(Rows.axiomHoldsSpec.pre enc Tryz.prog Tryz.f6 [] false w args∧laidMetH Tryz.prog jna w)∧sizedMet enc Tryz.prog Tryz.f6 (OpenSpec.ofChange Rows.axiomHoldsSpec) false w args)
  (Rows.axiomHoldsSpec.post enc Tryz.prog Tryz.f6 false true false false):=by
 refine returnsInHanded_of_change_and (C:=Tryz.checked) (X:=fun w _=>laidMetH Tryz.prog jna w) (fun _ _ _ hh h=>h.of_heap hh) own started (by kernel_rfl) Tryz.func6
  (ChangeSpec.witness_shaped (enc:=enc) (C:=Tryz.checked) (os:=os) (X:=fun w _=>laidMetH Tryz.prog jna w) false (laidWorld os) #[.int .i64 0,.agg #[.slice none 0 0,.slice none 0 0,.slice none 0 0],.slice none 0 0,.slice none 0 0] 8 rfl (World.shaped_of_RefB (by kernel_rfl) (by kernel_rfl)) (by kernel_rfl) (by kernel_rfl) (by kernel_rfl) (jvj os _)) ?_
 intro W base args ds gs before hval0 hW _ hwt hL _
 have hval:∀ (j:Nat) t v,Tryz.f6.params[j]? = some t→args[j]? = some v→Value.okWide Tryz.prog W .any base t v:=hval0
 have hW':=hW
 obtain ⟨p,q,hA0,hV,rfl,hfz,hnd⟩:=hW
 have hA:DataW.TrodAll enc Tryz.prog W 0 (fun _=>true) true Tryz.f6.params.toList args.toList ds p:=hA0
 rw [Tryz.params6] at hA hval
 obtain ⟨args⟩:=args
 obtain ⟨v0,v1,v2,v3,d0,d1,d2,d3,p0,p1,p2,p3,hargs,rfl,hps,h0,h1,h2,h3⟩:=trodAll_four hA
 cases hargs
 obtain ⟨g0,r0⟩:=jzj (hval 0 3 v0 rfl rfl)
 obtain ⟨g1,r1⟩:=juw (hval 1 25 v1 rfl rfl) h1
 obtain ⟨n2,l2,r2⟩:=jlo (hval 2 26 v2 rfl rfl) h2
 obtain ⟨n3,l3,r3⟩:=jlo (hval 3 26 v3 rfl rfl) h3
 refine (jnv hL (vs:=[.int .i64 g0,.agg (j3 g1),slOf n2 intC l2,slOf n3 intC l3]) rfl (fun j x v hx hv=>?_) (ev6 g1 g0)).mono fun e W' ⟨he,hg⟩=>⟨_,he,?_⟩
 ·match j,hx,hv with
  | 0,hx,hv=>cases hx;cases hv;exact r0
  | 1,hx,hv=>cases hx;cases hv;exact r1
  | 2,hx,hv=>cases hx;cases hv;exact r2
  | 3,hx,hv=>cases hx;cases hv;exact r3
  | j+4,_,hv=>simp at hv
 ·exact jo7 hW' rfl (by kernel_rfl) rfl rfl rfl (by rw [Tryz.params6];exact fun t ht=>jxz [3,25,26,26] (by kernel_rfl) t (by simpa using ht)) hg
theorem a1:Rows.axiomHoldsRow.wf (OpenSpec.ofChange Rows.axiomHoldsSpec)=true:=by kernel_rfl
theorem a2:mapsRowed Tryz.prog=true:=by kernel_rfl
theorem a3:Tryz.f6.params.all (Tryz.prog.readableRec ·)=true:=by kernel_rfl
theorem a4:(Rows.axiomHoldsRow.inPlace == Tryz.prog.inPlace 6)=true:=by kernel_rfl
theorem a5:(Rows.axiomHoldsRow.unfollowed == Tryz.prog.unfollowed 6)=true:=by kernel_rfl
theorem a6:(Rows.axiomHoldsRow.recurses == Tryz.prog.recurses 6)=true:=by kernel_rfl
theorem a7:(Rows.axiomHoldsRow.named == Tryz.prog.varsNamed 6)=true:=by kernel_rfl
theorem a8:Tryz.prog.mayEnter=true:=by kernel_rfl
theorem a9:Tryz.prog.stopsHeard=true:=by kernel_rfl
theorem a10:(Rows.axiomHoldsRow.lifted == Tryz.prog.liftsFinal)=true:=by kernel_rfl
theorem a11:(Tryz.prog.make == some Rows.axiomHoldsRow.make)=true:=by kernel_rfl
theorem a12:(Rows.axiomHoldsRow.plainKeys == Tryz.prog.plainKeys)=true:=by kernel_rfl
theorem j62:joinedFacts Tryz.prog 6 Tryz.f6 Rows.axiomHoldsSpec Rows.axiomHoldsRow=true:=by
 unfold joinedFacts
 rw [a1,jqe,a2,a3,a4,a5,a6,a7,a8,a9,a10,a11,a12]
 kernel_rfl
theorem jbn:Rows.AxiomHoldsSaid :=
 OpenClaim.holds_of_wide 6 Tryz.f6 rfl rfl rfl rfl rfl rfl rfl ⟨rfl,rfl,rfl,rfl,rfl⟩ rfl rfl rfl rfl rfl (by kernel_rfl) Tryz.func6 j62
  (of_decide_eq_true (by kernel_rfl)) (by unfold Func.isWrapper;first | (rw [if_pos (by decide +kernel)];kernel_rfl) | (rw [if_neg (by decide +kernel)];exact ⟨rfl,rfl⟩))
  (fun os started H enc _=>jyl os started H enc)
end Go.Pv.T
