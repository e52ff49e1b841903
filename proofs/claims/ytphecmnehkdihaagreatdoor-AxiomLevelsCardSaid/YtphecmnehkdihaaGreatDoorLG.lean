/- The row of deemsterlaw25.AxiomLevels: whatever history and lists come in, the call returns true and what came in reads as it did; condition: the listed package variables start as the program lays them (the card ties them). -/
import Derived.Test.YtphecmnehkdihaaGreatDoorLF
namespace Go.Pv.T
open Go Go.Pv Go.Proofs Go.ChangeShapes Go.WideShapes Go.ChangeAt Go.RowKit Go.Proofs.YtphecmnehkdihaaGreatDoor
set_option maxRecDepth 100000 in
theorem lifted7 (os:Os) (started:os.Started) (H:Type) (enc:TypeId × Value→H) :
 ReturnsInHanded {} Tryz.checked os 7 .any (fun w args=>(Rows.axiomLevelsSpec.pre enc Tryz.prog Tryz.f7 [] false w args∧laidMetH Tryz.prog laidL w)∧sizedMet enc Tryz.prog Tryz.f7 (OpenSpec.ofChange Rows.axiomLevelsSpec) false w args)
  (Rows.axiomLevelsSpec.post enc Tryz.prog Tryz.f7 false true false false):=by
 refine returnsInHanded_of_change_and (C:=Tryz.checked) (X:=fun w _=>laidMetH Tryz.prog laidL w) (fun _ _ _ hh h=>h.of_heap hh) own started (by kernel_rfl) Tryz.func7
  (ChangeSpec.witness_shaped (enc:=enc) (C:=Tryz.checked) (os:=os) (X:=fun w _=>laidMetH Tryz.prog laidL w) false (laidWorld os) #[.agg #[.slice none 0 0,.slice none 0 0,.slice none 0 0],.slice none 0 0,.slice none 0 0] 8 rfl (World.shaped_of_RefB (by kernel_rfl) (by kernel_rfl)) (by kernel_rfl) (by kernel_rfl) (by kernel_rfl) (door_met os _)) ?_
 intro W base args ds gs before hval0 hW _ hwt hL _
 have hval:∀ (j:Nat) t v,Tryz.f7.params[j]? = some t→args[j]? = some v→Value.okWide Tryz.prog W .any base t v:=hval0
 have hW':=hW
 obtain ⟨p,q,hA0,hV,rfl,hfz,hnd⟩:=hW
 have hA:DataW.TrodAll enc Tryz.prog W 0 (fun _=>true) true Tryz.f7.params.toList args.toList ds p:=hA0
 rw [Tryz.params7] at hA hval
 obtain ⟨args⟩:=args
 obtain ⟨v0,v1,v2,d0,d1,d2,p0,p1,p2,hargs,rfl,hps,h0,h1,h2⟩:=trodAll_three hA
 cases hargs
 obtain ⟨g0,r0⟩:=hist_arg (hval 0 25 v0 rfl rfl) h0
 obtain ⟨n1,l1,r1⟩:=ints_arg (hval 1 26 v1 rfl rfl) h1
 obtain ⟨n2,l2,r2⟩:=ints_arg (hval 2 26 v2 rfl rfl) h2
 refine (calls_true hL (vs:=[.agg (histC g0),slOf n1 intC l1,slOf n2 intC l2]) rfl (fun j x v hx hv=>?_) (ev7 g0)).mono fun e W' ⟨he,hg⟩=>⟨_,he,?_⟩
 ·match j,hx,hv with
  | 0,hx,hv=>cases hx;cases hv;exact r0
  | 1,hx,hv=>cases hx;cases hv;exact r1
  | 2,hx,hv=>cases hx;cases hv;exact r2
  | j+3,_,hv=>simp at hv
 ·exact post_true hW' rfl (by kernel_rfl) rfl rfl rfl (by rw [Tryz.params7];exact fun t ht=>read_ok [25,26,26] (by kernel_rfl) t (by simpa using ht)) hg
theorem a1:Rows.axiomLevelsRow.wf (OpenSpec.ofChange Rows.axiomLevelsSpec)=true:=by kernel_rfl
theorem a2:mapsRowed Tryz.prog=true:=by kernel_rfl
theorem a3:Tryz.f7.params.all (Tryz.prog.readableRec ·)=true:=by kernel_rfl
theorem a4:(Rows.axiomLevelsRow.inPlace == Tryz.prog.inPlace 7)=true:=by kernel_rfl
theorem a5:(Rows.axiomLevelsRow.unfollowed == Tryz.prog.unfollowed 7)=true:=by kernel_rfl
theorem a6:(Rows.axiomLevelsRow.recurses == Tryz.prog.recurses 7)=true:=by kernel_rfl
theorem a7:(Rows.axiomLevelsRow.named == Tryz.prog.varsNamed 7)=true:=by kernel_rfl
theorem a8:Tryz.prog.mayEnter=true:=by kernel_rfl
theorem a9:Tryz.prog.stopsHeard=true:=by kernel_rfl
theorem a10:(Rows.axiomLevelsRow.lifted == Tryz.prog.liftsFinal)=true:=by kernel_rfl
theorem a11:(Tryz.prog.make == some Rows.axiomLevelsRow.make)=true:=by kernel_rfl
theorem a12:(Rows.axiomLevelsRow.plainKeys == Tryz.prog.plainKeys)=true:=by kernel_rfl
theorem closed:joinedFacts Tryz.prog 7 Tryz.f7 Rows.axiomLevelsSpec Rows.axiomLevelsRow=true:=by
 unfold joinedFacts
 rw [a1,laidOut,a2,a3,a4,a5,a6,a7,a8,a9,a10,a11,a12]
 kernel_rfl
theorem axiomLevels_holds:Rows.AxiomLevelsSaid :=
 OpenClaim.holds_of_wide 7 Tryz.f7 rfl rfl rfl rfl rfl rfl rfl ⟨rfl,rfl,rfl,rfl,rfl⟩ rfl rfl rfl rfl rfl (by kernel_rfl) Tryz.func7 closed
  (of_decide_eq_true (by kernel_rfl)) (by unfold Func.isWrapper;first | (rw [if_pos (by decide +kernel)];kernel_rfl) | (rw [if_neg (by decide +kernel)];exact ⟨rfl,rfl⟩))
  (fun os started H enc _=>lifted7 os started H enc)
end Go.Pv.T
