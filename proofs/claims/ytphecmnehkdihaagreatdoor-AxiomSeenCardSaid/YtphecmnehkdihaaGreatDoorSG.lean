/- The row of deemsterlaw25.AxiomSeen: whatever level, history, lists and place come in, the call returns true and what came in reads as it did; condition: the listed package variables Wr as the program lays them (the card ties them). -/
import Derived.Test.YtphecmnehkdihaaGreatDoorSF
namespace Go.Pv.T
open Go Go.Pv Go.Proofs Go.ChangeShapes Go.WideShapes Go.ChangeAt Go.RowKit Go.Proofs.YtphecmnehkdihaaGreatDoor
theorem jgy {H:Type} {enc:TypeId × Value→H} {P:Program} {w:World} {base:Nat} {spare:Nat→Bool} {held:Bool} {t t' t'' t3 t4:TypeId} {args:Array Value} {ds:List (DataW H)} {ps:List MemPlace}
 (h:DataW.TrodAll enc P w base spare held [t,t',t'',t3,t4] args.toList ds ps) :
 ∃ v v' v'' v3 v4 d d' d'' d3 d4 p p' p'' p3 p4,args = #[v,v',v'',v3,v4]∧ds=[d,d',d'',d3,d4]∧ps=p++p'++p''++p3++p4∧DataW.Trod enc P w base spare held t v d p∧DataW.Trod enc P w base spare held t' v' d' p' ∧
  DataW.Trod enc P w base spare held t'' v'' d'' p''∧DataW.Trod enc P w base spare held t3 v3 d3 p3∧DataW.Trod enc P w base spare held t4 v4 d4 p4:=by
 obtain ⟨v,vs,d,ds',p,q,hargs,rfl,rfl,hd,hrest⟩:=trodAll_cons h
 obtain ⟨v',vs',d',ds'',p',q',rfl,rfl,rfl,hd',hrest'⟩:=trodAll_cons hrest
 obtain ⟨v'',vs'',d'',ds''',p'',q'',rfl,rfl,rfl,hd'',hrest''⟩:=trodAll_cons hrest'
 obtain ⟨v3,vs3,d3,ds3,p3,q3,rfl,rfl,rfl,hd3,hrest3⟩:=trodAll_cons hrest''
 obtain ⟨v4,vs4,d4,ds4,p4,q4,rfl,rfl,rfl,hd4,hrest4⟩:=trodAll_cons hrest3
 obtain ⟨rfl,rfl,rfl⟩:=trodAll_nil hrest4
 exact ⟨v,v',v'',v3,v4,d,d',d'',d3,d4,p,p',p'',p3,p4,by cases args;simp_all,rfl,by simp,hd,hd',hd'',hd3,hd4⟩
set_option maxRecDepth 100000 in
theorem jyx (os:Os) (started:os.Started) (H:Type) (enc:TypeId × Value→H) :
 ReturnsInHanded {} Tryz.checked os 8 .any (fun w args=>(Rows.axiomSeenSpec.pre enc Tryz.prog Tryz.f8 [] false w args∧laidMetH Tryz.prog jnb w)∧sizedMet enc Tryz.prog Tryz.f8 (OpenSpec.ofChange Rows.axiomSeenSpec) false w args)
  (Rows.axiomSeenSpec.post enc Tryz.prog Tryz.f8 false true false false):=by
 refine returnsInHanded_of_change_and (C:=Tryz.checked) (X:=fun w _=>laidMetH Tryz.prog jnb w) (fun _ _ _ hh h=>h.of_heap hh) own started (by kernel_rfl) Tryz.func8
  (ChangeSpec.witness_shaped (enc:=enc) (C:=Tryz.checked) (os:=os) (X:=fun w _=>laidMetH Tryz.prog jnb w) false (laidWorld os) #[.int .i64 0,.agg #[.slice none 0 0,.slice none 0 0,.slice none 0 0],.slice none 0 0,.slice none 0 0,.int .i64 0] 8 rfl (World.shaped_of_RefB (by kernel_rfl) (by kernel_rfl)) (by kernel_rfl) (by kernel_rfl) (by kernel_rfl) (jvs os _)) ?_
 intro W base args ds gs before hval0 hW _ hwt hL _
 have hval:∀ (j:Nat) t v,Tryz.f8.params[j]? = some t→args[j]? = some v→Value.okWide Tryz.prog W .any base t v:=hval0
 have hW':=hW
 obtain ⟨p,q,hA0,hV,rfl,hfz,hnd⟩:=hW
 have hA:DataW.TrodAll enc Tryz.prog W 0 (fun _=>true) true Tryz.f8.params.toList args.toList ds p:=hA0
 rw [Tryz.params8] at hA hval
 obtain ⟨args⟩:=args
 obtain ⟨v0,v1,v2,v3,v4,d0,d1,d2,d3,d4,p0,p1,p2,p3,p4,hargs,rfl,hps,h0,h1,h2,h3,h4⟩:=jgy hA
 cases hargs
 obtain ⟨g0,r0⟩:=jrc (hval 0 3 v0 rfl rfl)
 obtain ⟨g1,r1⟩:=ju7 (hval 1 25 v1 rfl rfl) h1
 obtain ⟨n2,l2,r2⟩:=jlo (hval 2 26 v2 rfl rfl) h2
 obtain ⟨n3,l3,r3⟩:=jlo (hval 3 26 v3 rfl rfl) h3
 obtain ⟨g4,r4⟩:=jrc (hval 4 3 v4 rfl rfl)
 refine (jnx hL (vs:=[.int .i64 g0,.agg (j3 g1),slOf n2 intC l2,slOf n3 intC l3,.int .i64 g4]) rfl (fun j x v hx hv=>?_) (ev8 g1 g0 g4)).mono fun e W' ⟨he,hg⟩=>⟨_,he,?_⟩
 ·match j,hx,hv with
  | 0,hx,hv=>cases hx;cases hv;exact r0
  | 1,hx,hv=>cases hx;cases hv;exact r1
  | 2,hx,hv=>cases hx;cases hv;exact r2
  | 3,hx,hv=>cases hx;cases hv;exact r3
  | 4,hx,hv=>cases hx;cases hv;exact r4
  | j+5,_,hv=>simp at hv
 ·exact jpc hW' rfl (by kernel_rfl) rfl rfl rfl (by rw [Tryz.params8];exact fun t ht=>jyb [3,25,26,26,3] (by kernel_rfl) t (by simpa using ht)) hg
theorem a1:Rows.axiomSeenRow.wf (OpenSpec.ofChange Rows.axiomSeenSpec)=true:=by kernel_rfl
theorem a2:mapsRowed Tryz.prog=true:=by kernel_rfl
theorem a3:Tryz.f8.params.all (Tryz.prog.readableRec ·)=true:=by kernel_rfl
theorem a4:(Rows.axiomSeenRow.inPlace == Tryz.prog.inPlace 8)=true:=by kernel_rfl
theorem a5:(Rows.axiomSeenRow.unfollowed == Tryz.prog.unfollowed 8)=true:=by kernel_rfl
theorem a6:(Rows.axiomSeenRow.recurses == Tryz.prog.recurses 8)=true:=by kernel_rfl
theorem a7:(Rows.axiomSeenRow.named == Tryz.prog.varsNamed 8)=true:=by kernel_rfl
theorem a8:Tryz.prog.mayEnter=true:=by kernel_rfl
theorem a9:Tryz.prog.stopsHeard=true:=by kernel_rfl
theorem a10:(Rows.axiomSeenRow.lifted == Tryz.prog.liftsFinal)=true:=by kernel_rfl
theorem a11:(Tryz.prog.make == some Rows.axiomSeenRow.make)=true:=by kernel_rfl
theorem a12:(Rows.axiomSeenRow.plainKeys == Tryz.prog.plainKeys)=true:=by kernel_rfl
theorem j7c:joinedFacts Tryz.prog 8 Tryz.f8 Rows.axiomSeenSpec Rows.axiomSeenRow=true:=by
 unfold joinedFacts
 rw [a1,jqk,a2,a3,a4,a5,a6,a7,a8,a9,a10,a11,a12]
 kernel_rfl
theorem jd0:Rows.AxiomSeenSaid :=
 OpenClaim.holds_of_wide 8 Tryz.f8 rfl rfl rfl rfl rfl rfl rfl ⟨rfl,rfl,rfl,rfl,rfl⟩ rfl rfl rfl rfl rfl (by kernel_rfl) Tryz.func8 j7c
  (of_decide_eq_true (by kernel_rfl)) (by unfold Func.isWrapper;first | (rw [if_pos (by decide +kernel)];kernel_rfl) | (rw [if_neg (by decide +kernel)];exact ⟨rfl,rfl⟩))
  (fun os started H enc _=>jyx os started H enc)
end Go.Pv.T
