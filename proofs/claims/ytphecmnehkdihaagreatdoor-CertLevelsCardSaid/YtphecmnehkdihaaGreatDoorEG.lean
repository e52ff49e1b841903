/- The row of deemsterlaw26.CertLevels: whatever history and certificate come in, the call returns true and what came in reads as it did; condition: the listed package variables start as the program lays them (the card ties them). -/
import Derived.Test.YtphecmnehkdihaaGreatDoorEF
set_option maxRecDepth 100000
namespace Go.Pv.T
open Go Go.Pv Go.Proofs Go.ChangeShapes Go.WideShapes Go.ChangeAt Go.RowKit Go.Proofs.YtphecmnehkdihaaGreatDoor
theorem lifted5 (os:Os) (started:os.Started) (H:Type) (enc:TypeId × Value→H) :
 ReturnsInHanded {} Tryz.checked os 5 .any (fun w args=>(Rows.certLevelsSpec.pre enc Tryz.prog Tryz.f5 [] false w args∧laidMetH Tryz.prog laidL w)∧sizedMet enc Tryz.prog Tryz.f5 (OpenSpec.ofChange Rows.certLevelsSpec) false w args)
  (Rows.certLevelsSpec.post enc Tryz.prog Tryz.f5 false true false false):=by
 refine returnsInHanded_of_change_and (C:=Tryz.checked) (X:=fun w _=>laidMetH Tryz.prog laidL w) (fun _ _ _ hh h=>h.of_heap hh) own started (by kernel_rfl) Tryz.func5
  (ChangeSpec.witness_shaped (enc:=enc) (C:=Tryz.checked) (os:=os) (X:=fun w _=>laidMetH Tryz.prog laidL w) false (laidWorld os) #[.agg #[.slice none 0 0,.slice none 0 0,.slice none 0 0],.agg #[.slice none 0 0,.slice none 0 0]] 8 rfl (World.shaped_of_RefB (by kernel_rfl) (by kernel_rfl)) (by kernel_rfl) (by kernel_rfl) (by kernel_rfl) (door_met os _)) ?_
 intro W base args ds gs before hval0 hW _ hwt hL _
 have hval:∀ (j:Nat) t v,Tryz.f5.params[j]? = some t→args[j]? = some v→Value.okWide Tryz.prog W .any base t v:=hval0
 have hW':=hW
 obtain ⟨p,q,hA0,hV,rfl,hfz,hnd⟩:=hW
 have hA:DataW.TrodAll enc Tryz.prog W 0 (fun _=>true) true Tryz.f5.params.toList args.toList ds p:=hA0
 rw [Tryz.params5] at hA hval
 obtain ⟨args⟩:=args
 obtain ⟨v0,v1,d0,d1,p0,p1,hargs,rfl,hps,h0,h1⟩:=Go.ChangeShapes.trodAll_two hA
 cases hargs
 obtain ⟨g0,r0⟩:=hist_arg (hval 0 25 v0 rfl rfl) h0
 obtain ⟨a1,b1,M1,O1,r1⟩:=cert_arg (hval 1 28 v1 rfl rfl) h1
 refine (calls_true1 hL (vs:=[.agg (histC g0),.agg [slOf a1 intC M1,slOf b1 intC O1]]) rfl (fun j x v hx hv=>?_) (ev5 g0 M1 O1)).mono fun e W' ⟨he,hg⟩=>⟨_,he,?_⟩
 ·match j,hx,hv with
  | 0,hx,hv=>cases hx;cases hv;exact r0
  | 1,hx,hv=>cases hx;cases hv;exact r1
  | j+2,_,hv=>simp at hv
 ·exact post_true hW' rfl (by kernel_rfl) rfl rfl rfl (by rw [Tryz.params5];exact fun t ht=>read_ok [25,28] (by kernel_rfl) t (by simpa using ht)) hg
theorem a1:Rows.certLevelsRow.wf (OpenSpec.ofChange Rows.certLevelsSpec)=true:=by kernel_rfl
theorem a2:mapsRowed Tryz.prog=true:=by kernel_rfl
theorem a3:Tryz.f5.params.all (Tryz.prog.readableRec ·)=true:=by kernel_rfl
theorem a4:(Rows.certLevelsRow.inPlace == Tryz.prog.inPlace 5)=true:=by kernel_rfl
theorem a5:(Rows.certLevelsRow.unfollowed == Tryz.prog.unfollowed 5)=true:=by kernel_rfl
theorem a6:(Rows.certLevelsRow.recurses == Tryz.prog.recurses 5)=true:=by kernel_rfl
theorem a7:(Rows.certLevelsRow.named == Tryz.prog.varsNamed 5)=true:=by kernel_rfl
theorem a8:Tryz.prog.mayEnter=true:=by kernel_rfl
theorem a9:Tryz.prog.stopsHeard=true:=by kernel_rfl
theorem a10:(Rows.certLevelsRow.lifted == Tryz.prog.liftsFinal)=true:=by kernel_rfl
theorem a11:(Tryz.prog.make == some Rows.certLevelsRow.make)=true:=by kernel_rfl
theorem a12:(Rows.certLevelsRow.plainKeys == Tryz.prog.plainKeys)=true:=by kernel_rfl
theorem closed:joinedFacts Tryz.prog 5 Tryz.f5 Rows.certLevelsSpec Rows.certLevelsRow=true:=by
 unfold joinedFacts
 rw [a1,laidOut,a2,a3,a4,a5,a6,a7,a8,a9,a10,a11,a12]
 kernel_rfl
theorem certLevels_holds:Rows.CertLevelsSaid :=
 OpenClaim.holds_of_wide 5 Tryz.f5 rfl rfl rfl rfl rfl rfl rfl ⟨rfl,rfl,rfl,rfl,rfl⟩ rfl rfl rfl rfl rfl (by kernel_rfl) Tryz.func5 closed
  (of_decide_eq_true (by kernel_rfl)) (by unfold Func.isWrapper;first | (rw [if_pos (by decide +kernel)];kernel_rfl) | (rw [if_neg (by decide +kernel)];exact ⟨rfl,rfl⟩))
  (fun os started H enc _=>lifted5 os started H enc)
end Go.Pv.T
