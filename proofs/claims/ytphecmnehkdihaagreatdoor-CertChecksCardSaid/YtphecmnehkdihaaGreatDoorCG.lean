/- The row of deemsterlaw26.CertChecks: whatever level, history and certificate come in, the call returns true and what came in reads as it did; condition: the listed package variables QO as the program lays them (the card ties them). -/
import Derived.Test.YtphecmnehkdihaaGreatDoorCF
set_option maxRecDepth 100000
namespace Go.Pv.T
open Go Go.Pv Go.Proofs Go.ChangeShapes Go.WideShapes Go.ChangeAt Go.RowKit Go.Proofs.YtphecmnehkdihaaGreatDoor
theorem j0w (os:Os) (started:os.Started) (H:Type) (enc:TypeId × Value→H) :
 ReturnsInHanded {} Tryz.checked os 3 .any (fun w args=>(Rows.certChecksSpec.pre enc Tryz.prog Tryz.f3 [] false w args∧laidMetH Tryz.prog jo5 w)∧sizedMet enc Tryz.prog Tryz.f3 (OpenSpec.ofChange Rows.certChecksSpec) false w args)
  (Rows.certChecksSpec.post enc Tryz.prog Tryz.f3 false true false false):=by
 refine returnsInHanded_of_change_and (C:=Tryz.checked) (X:=fun w _=>laidMetH Tryz.prog jo5 w) (fun _ _ _ hh h=>h.of_heap hh) own started (by kernel_rfl) Tryz.func3
  (ChangeSpec.witness_shaped (enc:=enc) (C:=Tryz.checked) (os:=os) (X:=fun w _=>laidMetH Tryz.prog jo5 w) false (laidWorld os) #[.int .i64 0,.agg #[.slice none 0 0,.slice none 0 0,.slice none 0 0],.agg #[.slice none 0 0,.slice none 0 0]] 8 rfl (World.shaped_of_RefB (by kernel_rfl) (by kernel_rfl)) (by kernel_rfl) (by kernel_rfl) (by kernel_rfl) (jxo os _)) ?_
 intro W base args ds gs before hval0 hW _ hwt hL _
 have hval:∀ (j:Nat) t v,Tryz.f3.params[j]? = some t→args[j]? = some v→Value.okWide Tryz.prog W .any base t v:=hval0
 have hW':=hW
 obtain ⟨p,q,hA0,hV,rfl,hfz,hnd⟩:=hW
 have hA:DataW.TrodAll enc Tryz.prog W 0 (fun _=>true) true Tryz.f3.params.toList args.toList ds p:=hA0
 rw [Tryz.params3] at hA hval
 obtain ⟨args⟩:=args
 obtain ⟨v0,v1,v2,d0,d1,d2,p0,p1,p2,hargs,rfl,hps,h0,h1,h2⟩:=trodAll_three hA
 cases hargs
 obtain ⟨g0,r0⟩:=j1v (hval 0 3 v0 rfl rfl)
 obtain ⟨g1,r1⟩:=jw8 (hval 1 25 v1 rfl rfl) h1
 obtain ⟨a2,b2,M2,O2,r2⟩:=jxs (hval 2 28 v2 rfl rfl) h2
 refine (jl1 hL (vs:=[.int .i64 g0,.agg (j2 g1),.agg [jI a2 intC M2,jI b2 intC O2]]) rfl (fun j x v hx hv=>?_) (ev3 g0 g1 M2 O2)).mono fun e W' ⟨he,hg⟩=>⟨_,he,?_⟩
 ·match j,hx,hv with
  | 0,hx,hv=>cases hx;cases hv;exact r0
  | 1,hx,hv=>cases hx;cases hv;exact r1
  | 2,hx,hv=>cases hx;cases hv;exact r2
  | j+3,_,hv=>simp at hv
 ·exact jrc hW' rfl (by kernel_rfl) rfl rfl rfl (by rw [Tryz.params3];exact fun t ht=>jz9 [3,25,28] (by kernel_rfl) t (by simpa using ht)) hg
theorem a1:Rows.certChecksRow.wf (OpenSpec.ofChange Rows.certChecksSpec)=true:=by kernel_rfl
theorem a2:mapsRowed Tryz.prog=true:=by kernel_rfl
theorem a3:Tryz.f3.params.all (Tryz.prog.readableRec ·)=true:=by kernel_rfl
theorem a4:(Rows.certChecksRow.inPlace == Tryz.prog.inPlace 3)=true:=by kernel_rfl
theorem a5:(Rows.certChecksRow.unfollowed == Tryz.prog.unfollowed 3)=true:=by kernel_rfl
theorem a6:(Rows.certChecksRow.recurses == Tryz.prog.recurses 3)=true:=by kernel_rfl
theorem a7:(Rows.certChecksRow.named == Tryz.prog.varsNamed 3)=true:=by kernel_rfl
theorem a8:Tryz.prog.mayEnter=true:=by kernel_rfl
theorem a9:Tryz.prog.stopsHeard=true:=by kernel_rfl
theorem a10:(Rows.certChecksRow.lifted == Tryz.prog.liftsFinal)=true:=by kernel_rfl
theorem a11:(Tryz.prog.make == some Rows.certChecksRow.make)=true:=by kernel_rfl
theorem a12:(Rows.certChecksRow.plainKeys == Tryz.prog.plainKeys)=true:=by kernel_rfl
theorem j9m:joinedFacts Tryz.prog 3 Tryz.f3 Rows.certChecksSpec Rows.certChecksRow=true:=by
 unfold joinedFacts
 rw [a1,jsl,a2,a3,a4,a5,a6,a7,a8,a9,a10,a11,a12]
 kernel_rfl
theorem jcs:Rows.CertChecksSaid :=
 OpenClaim.holds_of_wide 3 Tryz.f3 rfl rfl rfl rfl rfl rfl rfl ⟨rfl,rfl,rfl,rfl,rfl⟩ rfl rfl rfl rfl rfl (by kernel_rfl) Tryz.func3 j9m
  (of_decide_eq_true (by kernel_rfl)) (by unfold Func.isWrapper;first | (rw [if_pos (by decide +kernel)];kernel_rfl) | (rw [if_neg (by decide +kernel)];exact ⟨rfl,rfl⟩))
  (fun os started H enc _=>j0w os started H enc)
end Go.Pv.T
