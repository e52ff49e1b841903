/- The row of deemsterlaw26.CertSound: whatever level, history and certificate come in, the call returns true and what came in reads as it did; condition: the listed package variables QM as the program lays them (the card ties them). -/
import Derived.Test.YtphecmnehkdihaaGreatDoorDF
set_option maxRecDepth 100000
namespace Go.Pv.T
open Go Go.Pv Go.Proofs Go.ChangeShapes Go.WideShapes Go.ChangeAt Go.RowKit Go.Proofs.YtphecmnehkdihaaGreatDoor
theorem j0r (os:Os) (started:os.Started) (H:Type) (enc:TypeId × Value→H) :
 ReturnsInHanded {} Tryz.checked os 4 .any (fun w args=>(Rows.certSoundSpec.pre enc Tryz.prog Tryz.f4 [] false w args∧laidMetH Tryz.prog jo0 w)∧sizedMet enc Tryz.prog Tryz.f4 (OpenSpec.ofChange Rows.certSoundSpec) false w args)
  (Rows.certSoundSpec.post enc Tryz.prog Tryz.f4 false true false false):=by
 refine returnsInHanded_of_change_and (C:=Tryz.checked) (X:=fun w _=>laidMetH Tryz.prog jo0 w) (fun _ _ _ hh h=>h.of_heap hh) own started (by kernel_rfl) Tryz.func4
  (ChangeSpec.witness_shaped (enc:=enc) (C:=Tryz.checked) (os:=os) (X:=fun w _=>laidMetH Tryz.prog jo0 w) false (laidWorld os) #[.int .i64 0,.agg #[.slice none 0 0,.slice none 0 0,.slice none 0 0],.agg #[.slice none 0 0,.slice none 0 0]] 8 rfl (World.shaped_of_RefB (by kernel_rfl) (by kernel_rfl)) (by kernel_rfl) (by kernel_rfl) (by kernel_rfl) (jxh os _)) ?_
 intro W base args ds gs before hval0 hW _ hwt hL _
 have hval:∀ (j:Nat) t v,Tryz.f4.params[j]? = some t→args[j]? = some v→Value.okWide Tryz.prog W .any base t v:=hval0
 have hW':=hW
 obtain ⟨p,q,hA0,hV,rfl,hfz,hnd⟩:=hW
 have hA:DataW.TrodAll enc Tryz.prog W 0 (fun _=>true) true Tryz.f4.params.toList args.toList ds p:=hA0
 rw [Tryz.params4] at hA hval
 obtain ⟨args⟩:=args
 obtain ⟨v0,v1,v2,d0,d1,d2,p0,p1,p2,hargs,rfl,hps,h0,h1,h2⟩:=trodAll_three hA
 cases hargs
 obtain ⟨g0,r0⟩:=j1q (hval 0 3 v0 rfl rfl)
 obtain ⟨g1,r1⟩:=jw3 (hval 1 25 v1 rfl rfl) h1
 obtain ⟨a2,b2,M2,O2,r2⟩:=jxl (hval 2 28 v2 rfl rfl) h2
 refine (jlx hL (vs:=[.int .i64 g0,.agg (j2 g1),.agg [jJ a2 intC M2,jJ b2 intC O2]]) rfl (fun j x v hx hv=>?_) (ev4 g0 g1 M2 O2)).mono fun e W' ⟨he,hg⟩=>⟨_,he,?_⟩
 ·match j,hx,hv with
  | 0,hx,hv=>cases hx;cases hv;exact r0
  | 1,hx,hv=>cases hx;cases hv;exact r1
  | 2,hx,hv=>cases hx;cases hv;exact r2
  | j+3,_,hv=>simp at hv
 ·exact jq7 hW' rfl (by kernel_rfl) rfl rfl rfl (by rw [Tryz.params4];exact fun t ht=>jz4 [3,25,28] (by kernel_rfl) t (by simpa using ht)) hg
theorem a1:Rows.certSoundRow.wf (OpenSpec.ofChange Rows.certSoundSpec)=true:=by kernel_rfl
theorem a2:mapsRowed Tryz.prog=true:=by kernel_rfl
theorem a3:Tryz.f4.params.all (Tryz.prog.readableRec ·)=true:=by kernel_rfl
theorem a4:(Rows.certSoundRow.inPlace == Tryz.prog.inPlace 4)=true:=by kernel_rfl
theorem a5:(Rows.certSoundRow.unfollowed == Tryz.prog.unfollowed 4)=true:=by kernel_rfl
theorem a6:(Rows.certSoundRow.recurses == Tryz.prog.recurses 4)=true:=by kernel_rfl
theorem a7:(Rows.certSoundRow.named == Tryz.prog.varsNamed 4)=true:=by kernel_rfl
theorem a8:Tryz.prog.mayEnter=true:=by kernel_rfl
theorem a9:Tryz.prog.stopsHeard=true:=by kernel_rfl
theorem a10:(Rows.certSoundRow.lifted == Tryz.prog.liftsFinal)=true:=by kernel_rfl
theorem a11:(Tryz.prog.make == some Rows.certSoundRow.make)=true:=by kernel_rfl
theorem a12:(Rows.certSoundRow.plainKeys == Tryz.prog.plainKeys)=true:=by kernel_rfl
theorem j9i:joinedFacts Tryz.prog 4 Tryz.f4 Rows.certSoundSpec Rows.certSoundRow=true:=by
 unfold joinedFacts
 rw [a1,jsg,a2,a3,a4,a5,a6,a7,a8,a9,a10,a11,a12]
 kernel_rfl
theorem je2:Rows.CertSoundSaid :=
 OpenClaim.holds_of_wide 4 Tryz.f4 rfl rfl rfl rfl rfl rfl rfl ⟨rfl,rfl,rfl,rfl,rfl⟩ rfl rfl rfl rfl rfl (by kernel_rfl) Tryz.func4 j9i
  (of_decide_eq_true (by kernel_rfl)) (by unfold Func.isWrapper;first | (rw [if_pos (by decide +kernel)];kernel_rfl) | (rw [if_neg (by decide +kernel)];exact ⟨rfl,rfl⟩))
  (fun os started H enc _=>j0r os started H enc)
end Go.Pv.T
