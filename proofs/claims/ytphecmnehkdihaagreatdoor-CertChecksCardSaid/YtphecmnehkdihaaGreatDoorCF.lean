/- Axioms: the reference's walk: who is seen. -/
import Derived.Test.YtphecmnehkdihaaGreatDoorCE
import Derived.Shelf.Sort.Plain
import Derived.Shelf.Slices.In.SortNone
import Derived.Test.YtphecmnehkdihaaGreatDoorRows
import Derived.Test.YtphecmnehkdihaaGreatDoorTie
import Derived.ProofKit
import Derived.LaidMore
import Derived.OpenShut
import Derived.Stop.Joined
import Derived.SizedLaws
import Derived.Carry
import Derived.Handed
import Derived.ChangeSame
set_option maxRecDepth 100000
namespace Go.Pv.T
open Go Go.Pv
theorem ev33 {g:Hist'} (hs:Small g) {nl on:Bool} {M O:List Int} (hM:M.length=(readH g).length) (hO:O.length≤1000000) (lvl:Int) {q:Nat} (hq:q<(readH g).length) {t:Nat} (ht:t<g.ts.length) (hqt:((readH g)[q]).1=t) :
 ∃ v,Ev E 33 [.int .i64 lvl,.agg (j2 g),jI nl intC M,jI on intC O,.int .i64 (q:Int)] v∧SlR v false (jcq g lvl M O (readH g)[q]).length ((jcq g lvl M O (readH g)[q]).flatMap intC):=by
 have hts:=hs.ts
 have hRl:=YM hs
 obtain ⟨vr,evr,hvr⟩:=ev31 hs
 obtain ⟨vp,evp,hvp⟩:=ev75 hs (nl:=nl) hM ht
 refine XS (af:=F33) rfl (by decide) ?_
 obtain ⟨p,hp⟩:∃ p,(readH g)[q]=p:=⟨_,rfl⟩
 have hpl:=jrd (readH g) hq
 have hld:=jX jj (fun _=>none) (readH g) hq
 rw [hp] at hqt hpl ⊢
 obtain ⟨F,hF⟩:∃ F,(fun i=>seesB g lvl M O p i)=F:=⟨_,rfl⟩
 have hFi:∀ i,seesB g lvl M O p i=F i:=fun i=>congrFun hF i
 have hL:jcq g lvl M O p=filTo F g.ts.length:=by unfold jcq;rw [← hF]
 rw [hL]
 have hR1:lvl=1→∀ i:Nat,F i=rcB (readH g) M p i:=fun h i=>by rw [← hFi];simp [seesB,h]
 have hR2:lvl=2→∀ i,F i=farB g M t i:=fun h i=>by rw [← hFi];simp [seesB,h,hqt]
 have hR3:lvl=3→∀ i:Nat,F i=(XB g i && decide (atO O i<atO O t)):=fun h i=>by rw [← hFi];simp [seesB,h,hqt]
 have hR4:lvl≠1→lvl≠2→lvl≠3→∀ i,F i=false:=fun h1 h2 h3 i=>by rw [← hFi];simp [seesB,h1,h2,h3]
 clear hFi hF
 obtain ⟨B,hB⟩:∃ B,(List.range g.ts.length).map (farB g M t)=B:=⟨_,rfl⟩
 rw [hB] at hvp
 have hBl:B.length=g.ts.length:=by rw [← hB];simp
 have hBi:∀ i (h:i<B.length),B[i]=farB g M t i:=fun i h=>by simp [← hB]
 clear hL
 generalize readH g=R at *
 simp [F33,j2,j1]
 refine jV evr (by simp [j2]) rfl (by simp [j2]) ?_
 refine YL hvr fun tr addr=>?_
 simp
 refine jL (cs:=[]) rfl rfl rfl ?_
 have hpa:=fun ob=>jai R ob hq
 simp only [hp] at hpa
 simp [j1,hq,Y1 jj,hpa,j7]
 simp only [hqt] at hpa hpl
 simp [hqt]
 refine jV evp (by simp [j2,jI]) rfl (by simp [j2]) ?_
 rw [← hBl] at hvp
 refine YL hvp fun tp addp=>?_
 simp
 refine JV fun st hst=>?_
 have g0:st.tm 0 = .int .i64 lvl:=by rw [hst];simp
 have g2:st.tm 2=jI nl intC M:=by rw [hst];simp
 have g3:st.tm 3=jI on intC O:=by rw [hst];simp
 have g6:st.tm 6 = .ptr 12 0 0:=by rw [hst];simp
 have g11:st.tm 11 = .sl tr false R.length (R.flatMap jG):=by rw [hst];simp
 have g13:st.tm 13 = .ptr 26 704 0:=by rw [hst];simp
 have g14:st.tm 14 = .sl tp false B.length (B.flatMap blC):=by rw [hst];simp
 have g15:st.tm 15 = .int .i64 0:=by rw [hst];simp
 have p12:st.ob 12=some ⟨0,.cells (j2 g)⟩:=by rw [hst];simp [j2]
 have p26:st.ob 26=some ⟨704,.cells [.int .i64 (t:Int),.int .i64 p.2]⟩:=by rw [hst];simp
 have gG:GrowT st.tk st.nx intC 1 (filTo F 0) (st.tm 12):=by rw [hst];exact ⟨_,by simp [filTo];rfl,by simp [jl],by simp⟩
 have gd:st.df=[]:=by rw [hst];simp
 have gr:st.ro=0:=by rw [hst];simp
 have gb:st.fb=0:=by rw [hst];simp
 clear hst
 obtain ⟨I,hI⟩:∃ I:Nat→St→Prop,I=fun i s=>s.tm 15 = .int .i64 i∧s.ob 12=some ⟨0,.cells (j2 g)⟩∧s.ob 26=some ⟨704,.cells [.int .i64 (t:Int),.int .i64 p.2]⟩∧GrowT s.tk s.nx intC 1 (filTo F i) (s.tm 12):=⟨_,rfl⟩
 refine jE [(12,12),(15,17),(31,105)] g.ts.length I rfl rfl (by
  rw [hI]
  exact ⟨by simpa using g15,p12,p26,gG⟩) ?_
 intro i s hi hIs f
 rw [hI] at hIs
 obtain ⟨s15,o12,o26,hG⟩:=hIs
 have s0:s.tm 0 = .int .i64 lvl:=by rw [f.t 0 (by simp)];simp [g0]
 have s2:s.tm 2=jI nl intC M:=by rw [f.t 2 (by simp)];simp [g2]
 have s3:s.tm 3=jI on intC O:=by rw [f.t 3 (by simp)];simp [g3]
 have s6:s.tm 6 = .ptr 12 0 0:=by rw [f.t 6 (by simp)];simp [g6]
 have s11:s.tm 11 = .sl tr false R.length (R.flatMap jG):=by rw [f.t 11 (by simp)];simp [g11]
 have s13:s.tm 13 = .ptr 26 704 0:=by rw [f.t 13 (by simp)];simp [g13]
 have s14:s.tm 14 = .sl tp false B.length (B.flatMap blC):=by rw [f.t 14 (by simp)];simp [g14]
 have sd:s.df=[]:=by rw [f.d];simp [gd]
 have sr:s.ro=0:=by rw [f.r];simp [gr]
 have sb:s.fb=0:=by rw [f.b];simp [gb]
 clear f
 by_cases hlt:i<g.ts.length
 ·have hw:=jz hlt (by omega)
  have hlf:=je1 F i
  simp [s15,s6,o12,j1,j2,hlt,s0]
  generalize hKK:jlk E noYF _ _=KK
  have rest:∀ x:St,x.tm 16 = .bool (F i)→x.tm 15 = .int .i64 i→x.ob=s.ob→x.tk=s.tk→s.nx≤x.nx→x.tm 12=s.tm 12→KK .nrm x:=by
   intro x x16 x15 xo xk xn x12
   rw [← hKK]
   clear hKK
   have hsuc:filTo F (i+1)=filTo F i++(if F i then [(i:Int)] else []):=rfl
   cases hf:F i
   ·rw [hf] at x16 hsuc
    simp only [Bool.false_eq_true,if_false,List.append_nil] at hsuc
    simp [x16,x15,hw,hlt]
    rw [hI]
    refine ⟨by simp,by simp [xo,o12],by simp [xo,o26],?_⟩
    rw [hsuc]
    simpa [x12,xk] using hG.mono (nx':=x.nx+64+64+64+64) (fun _ _ h=>h) (by omega)
   ·rw [hf] at x16 hsuc
    simp only [if_true] at hsuc
    simp [x16,x15]
    refine jL (cs:=intC i) (by simp [j7,intC]) rfl rfl ?_
    simp [intC]
    refine XZ (hi:=s.nx) (f:=intC) (l:=filTo F i) (a:=(i:Int)) (v:=s.tm 12) (hG.mono (fun u _ h=>by simp [jl,xk,h]) (Nat.le_refl _)) (by simp [x12]) (by simp [jM,intC]) jF (by decide) (by simp [intC,V.pureLeaf]) (by omega) (by omega) (fun del hdel=>?_)
    rw [← hsuc]
    have hlen:(filTo F i).length+1=(filTo F (i+1)).length:=by rw [hsuc];simp
    rw [hlen]
    obtain ⟨Q,hQ⟩:∃ Q,filTo F (i+1)=Q:=⟨_,rfl⟩
    rw [hQ]
    simp [x15,hw,hlt]
    rw [hI]
    refine ⟨by simp,by simp [xo,o12],by simp [xo,o26],?_⟩
    rw [hQ]
    exact ⟨_,by simp;rfl,by simp [jl],by simp⟩
  by_cases e1:lvl=1
  ·simp [e1]
   have hc:=hR1 e1 i
   unfold rcB at hc
   refine jE [(16,17),(41,75)] R.length (fun k x=>x.tm 17 = .int .i64 k∧(∃ acc,x.tm 16 = .bool acc∧(acc || ((R.drop k).zip (M.drop k)).any fun y=>y.1.1 == p.1 && (decide (y.1.2<p.2) && y.2 == (i:Int)))=F i)∧x.ob=s.ob∧x.tk=s.tk∧s.nx≤x.nx) rfl rfl ⟨by simp,⟨false,by simp,by simpa using hc.symm⟩,by simp,by simp,by simp;omega⟩ ?_
   rintro k x hk ⟨x17,⟨acc,x16,hacc⟩,xo,xk,xn⟩ f
   have x15:x.tm 15 = .int .i64 i:=by rw [f.t 15 (by simp)];simp [s15]
   have x2:x.tm 2=jI nl intC M:=by rw [f.t 2 (by simp)];simp [s2]
   have x11:x.tm 11 = .sl tr false R.length (R.flatMap jG):=by rw [f.t 11 (by simp)];simp [s11]
   have x13:x.tm 13 = .ptr 26 704 0:=by rw [f.t 13 (by simp)];simp [s13]
   have x12:x.tm 12=s.tm 12:=by rw [f.t 12 (by simp)];simp
   clear f
   have x26:x.ob 26=some ⟨704,.cells [.int .i64 (t:Int),.int .i64 p.2]⟩:=by rw [xo];exact o26
   by_cases hkt:k<R.length
   ·have hwk:=jz hkt (by omega)
    have hkm:k<M.length:=by omega
    have h1:=Jh M hkm
    have h2:=jrd R hkt
    rw [List.drop_eq_getElem_cons hkt,List.drop_eq_getElem_cons hkm,List.zip_cons_cons,List.any_cons,← Bool.or_assoc] at hacc
    rw [hqt] at hacc
    cases acc
    ·cases c1:((R[k]).1 == (t:Int))
     ·rw [c1] at hacc
      simp [x17,x16,x11,x13,x26,j1,hkt,Y1 jj,h2,c1,hwk]
      exact ⟨by simpa [hqt] using hacc,xo,xk,by omega⟩
     ·by_cases c2:(R[k]).2<p.2
      ·cases c3:(M[k] == (i:Int))
       ·rw [c1,c3,decide_eq_true c2] at hacc
        simp [x17,x16,x11,x13,x26,x2,x15,j1,hkt,hkm,Y1 jj,j5 jF,h1,h2,c1,c2,c3,hwk]
        exact ⟨by simpa [hqt] using hacc,xo,xk,by omega⟩
       ·rw [c1,c3,decide_eq_true c2] at hacc
        simp [x17,x16,x11,x13,x26,x2,x15,j1,hkt,hkm,Y1 jj,j5 jF,h1,h2,c1,c2,c3,hwk]
        exact ⟨by simpa [hqt] using hacc,xo,xk,by omega⟩
      ·rw [c1,decide_eq_false c2] at hacc
       simp [x17,x16,x11,x13,x26,j1,hkt,Y1 jj,h2,c1,c2,hwk]
       exact ⟨by simpa [hqt] using hacc,xo,xk,by omega⟩
    ·simp [x17,x16,x11,hkt,hwk]
     exact ⟨by simpa [hqt] using hacc,xo,xk,by omega⟩
   ·have:k=R.length:=by omega
    subst this
    rw [List.drop_length] at hacc
    simp at hacc
    simp [x17,x11]
    exact rest _ (by simp [x16,hacc]) (by simp [x15]) (by simp [xo]) (by simp [xk]) (by simp;omega) (by simp [x12])
  ·have b1:(lvl == 1)=false:=by simpa using e1
   by_cases e2:lvl=2
   ·have hbx:=bl_at B (i:=i) (by omega)
    rw [hBi i (by omega),← hR2 e2 i] at hbx
    have hix:=Y1 jl3 tp false B .i64 (i:=i) (by omega)
    rw [Nat.mul_one] at hix
    simp [e2,s14,s15,hix,hbx]
    exact rest _ (by simp) (by simp [s15]) (by simp) (by simp) (by simp;omega) (by simp)
   ·have b2:(lvl == 2)=false:=by simpa using e2
    by_cases e3:lvl=3
    ·have hff:(g.ts.flatMap ji)[i * 3+1]? = some (.int .i64 (g.ts[i]).f):=by rw [jb j8 g.ts hlt (by decide:1<3)];rfl
     have hFi:=hR3 e3 i
     rw [jhy hlt] at hFi
     have ea:=j18 (a:=on) O (by omega) (i:Int)
     have eb:=j18 (a:=on) O (by omega) (t:Int)
     cases c1:((g.ts[i]).f == 1)
     ·rw [c1,Bool.false_and] at hFi
      simp [e3,s6,o12,j1,j2,s15,hlt,j5 j8,hff,c1]
      exact rest _ (by simp [hFi]) (by simp [s15]) (by simp) (by simp) (by simp;omega) (by simp)
     ·rw [c1,Bool.true_and] at hFi
      simp [e3,s6,o12,j1,j2,s15,hlt,j5 j8,hff,c1,s3]
      refine J0 ea (by simp) rfl (by simp) ?_
      simp [s13,o26,j1,s3]
      refine J0 eb (by simp) rfl (by simp) ?_
      simp
      exact rest _ (by simp [hFi]) (by simp [s15]) (by simp) (by simp) (by simp;omega) (by simp)
    ·have b3:(lvl == 3)=false:=by simpa using e3
     simp [b1,b2,b3]
     exact rest _ (by simp [hR4 e1 e2 e3]) (by simp [s15]) (by simp) (by simp) (by simp;omega) (by simp)
 ·have:i=g.ts.length:=by omega
  subst this
  obtain ⟨u,hu,_,_⟩:=hG
  simp [s15,s6,o12,j1,j2]
  exact slE (t:=some (u,1)) (nl:=false) (k:=(filTo F g.ts.length).length) (cs:=(filTo F g.ts.length).flatMap intC) (fun r h=>h) (by simp [sd]) (by simp [hu])
theorem jhx (g:Hist'):(comL g).length≤g.ts.length:=JF JO g.ts g.ts.length
theorem ev23 {g:Hist'} (hs:Small g) {nl:Bool} (O:List Int) (hO:O.length≤1000000):Ev E 23 [.agg (j2 g),jI nl intC O] (.bool (J5 g O)):=by
 have hts:=hs.ts
 have e21:=ev21 hs
 have e39:=ev39 g hts
 have hcl:=jhx g
 refine jT (af:=F23) rfl ?_
 unfold J5
 have hcm:numsTo JO g.ts g.ts.length=comL g:=rfl
 rw [hcm] at e39
 generalize comL g=C at *
 obtain ⟨f,hf⟩:∃ f:Nat→Bool,(fun i=>C.contains (O.getD i 0) && !(O.take i).contains (O.getD i 0))=f:=⟨_,rfl⟩
 have hfi:∀ i (h:i<O.length),f i=(C.contains O[i] && !(O.take i).contains O[i]):=fun i h=>by rw [← hf];simp only [jn h]
 rw [hf]
 clear hf
 cases hw:jw g
 ·rw [hw] at e21
  simp [F23,j2,j1]
  refine jV e21 (by simp [j2]) rfl (by simp [j2]) ?_
  simp
  exact j3 (by simp) (by simp) rfl
 rw [hw] at e21
 simp [F23,j2,j1]
 refine jV e21 (by simp [j2]) rfl (by simp [j2]) ?_
 simp [j1]
 refine jV e39 (by simp [j2]) rfl (by simp [j2]) ?_
 refine YL (nl:=false) (n:=C.length) (cs:=C.flatMap intC) ⟨_,rfl,by simp⟩ fun tc addc=>?_
 simp
 by_cases hl:C.length=O.length
 ·simp [hl]
  refine jE [(4,4),(6,6),(17,39)] O.length (fun i s=>s.tm 6 = .int .i64 i∧∀ k,k<i→f k=true) rfl rfl ⟨by simp,fun k hk=>by omega⟩ ?_
  rintro i s hi ⟨s6,hall⟩ fr
  have s1:s.tm 1=jI nl intC O:=by rw [fr.t 1 (by simp)];simp
  have s5:s.tm 5 = .sl tc false C.length (C.flatMap intC):=by rw [fr.t 5 (by simp)];simp [hl]
  have sd:s.df=[]:=by rw [fr.d];simp
  clear fr
  by_cases hlt:i<O.length
  ·have hw':=jz hlt (by omega)
   have h1:=Jh O hlt
   have ea:=ev62 (a:=false) C (by omega) O[i]
   have eb:=ev62 (a:=nl) (O.take i) (by simp;omega) O[i]
   have hfi:=hfi i hlt
   simp [s6,s1,s5,hlt,j5 jF,h1]
   refine J0 ea (by simp [jI]) rfl (by simp) ?_
   cases hc:C.contains O[i]
   ·rw [hc,Bool.false_and] at hfi
    simp
    exact j3 (by simp [sd]) (by simp [Js hlt hfi]) rfl
   ·rw [hc,Bool.true_and] at hfi
    have hsl:Qf 1 none (some (.int .i64 (i:Int))) (jI nl intC O)=some (jI nl intC (O.take i)):=jkr jF none nl O (by omega)
    simp [s6,s1,hlt,j5 jF,h1,hsl]
    refine J0 eb (by simp) rfl (by simp) ?_
    cases hc2:(O.take i).contains O[i]
    ·rw [hc2] at hfi
     simp [hw',s6,hlt]
     intro k hk
     rcases Nat.lt_succ_iff_lt_or_eq.1 hk with h | h
     ·exact hall k h
     ·subst h;exact hfi
    ·rw [hc2] at hfi
     simp
     exact j3 (by simp [sd]) (by simp [Js hlt hfi]) rfl
  ·have:i=O.length:=by omega
   subst this
   simp [s6,s1]
   exact j3 (by simp [sd]) (by simp [andTo_iff.2 hall]) rfl
 ·have hl2:((C.length:Int) != O.length)=true:=by simp;omega
  simp [hl2]
  exact j3 (by simp) (by simp [hl]) rfl
theorem jq2 {g:Hist'} (hm:X9 g=true) {q:Nat} (hq:q<(readH g).length):∃ (i k:Nat) (hi:i<g.ts.length) (hk:k<(g.ts[i]).ops.length),(readH g)[q]=((i:Int),(k:Int))∧Xy g (readH g)[q]=((g.ts[i]).ops[k]).key∧XB g i=true:=by
 obtain ⟨i,k,t,e,ht,hc,hk,_⟩:=jdz (List.getElem_mem hq)
 obtain ⟨hi,rfl⟩:=List.getElem?_eq_some_iff.1 ht
 refine ⟨i,k,hi,hk,e,?_,by simpa [XB,hi] using hc⟩
 rw [e]
 have:opAt g (i:Int) (k:Int)=some (g.ts[i]).ops[k]:=by
  unfold opAt
  simp [hm,hi,hk,List.getD_eq_getElem?_getD]
 unfold Xy
 simp only [this]
theorem jdf {g:Hist'} (h:jw g=true):X9 g=true:=by
 unfold jw at h
 simp only [Bool.and_eq_true] at h
 exact h.1
theorem ev24 {g:Hist'} (hs:Small g) {nl on:Bool} (lvl:Int) {M O:List Int} (hmp:jce g M=true) (ho:J5 g O=true):Ev E 24 [.int .i64 lvl,.agg (j2 g),jI nl intC M,jI on intC O] (.bool (XV g lvl M O)):=by
 have hts:=hs.ts
 have hRl:=YM hs
 have hMl:=jli hmp
 have hOl:=ji0 ho
 have hcl:=jhx g
 have hmay:=jdf (W4 hmp)
 have e39:=ev39 g hts
 obtain ⟨vr,evr,hvr⟩:=ev31 hs
 have hcm:numsTo JO g.ts g.ts.length=comL g:=rfl
 rw [hcm] at e39
 refine jT (af:=F24) rfl ?_
 unfold XV
 obtain ⟨f1,hf1⟩:∃ f,sesB g O=f:=⟨_,rfl⟩
 obtain ⟨f2,hf2⟩:∃ f,jae g lvl M O=f:=⟨_,rfl⟩
 rw [hf1,hf2]
 simp [F24,j2,j1]
 refine J0 e39 (by simp [j2]) rfl (by simp [j2]) ?_
 refine YL (nl:=false) (n:=(comL g).length) (cs:=(comL g).flatMap intC) ⟨_,rfl,by simp⟩ fun tc addc=>?_
 simp [j1]
 refine J0 evr (by simp [j2]) rfl (by simp [j2]) ?_
 refine YL hvr fun tr addr=>?_
 simp
 refine JV fun st hst=>?_
 have g0:st.tm 0 = .int .i64 lvl:=by rw [hst];simp
 have g2:st.tm 2=jI nl intC M:=by rw [hst];simp
 have g3:st.tm 3=jI on intC O:=by rw [hst];simp
 have g5:st.tm 5 = .ptr 10 0 0:=by rw [hst];simp
 have g9:st.tm 9 = .sl tc false (comL g).length ((comL g).flatMap intC):=by rw [hst];simp
 have g10:st.tm 10 = .sl tr false (readH g).length ((readH g).flatMap jG):=by rw [hst];simp
 have g11:st.tm 11 = .int .i64 0:=by rw [hst];simp
 have p10:st.ob 10=some ⟨0,.cells (j2 g)⟩:=by rw [hst];simp [j2]
 have gd:st.df=[]:=by rw [hst];simp
 have gr:st.ro=0:=by rw [hst];simp
 have gb:st.fb=0:=by rw [hst];simp
 clear hst
 refine jE [(8,8),(11,12),(23,75)] (comL g).length (fun i s=>s.tm 11 = .int .i64 i∧s.ob 10=some ⟨0,.cells (j2 g)⟩∧∀ k,k<i→f1 k=true) rfl rfl ⟨by simpa using g11,p10,fun k hk=>by omega⟩ ?_
 rintro i s hi ⟨s11,o10,hall⟩ fr
 have s0:s.tm 0 = .int .i64 lvl:=by rw [fr.t 0 (by simp)];simp [g0]
 have s2:s.tm 2=jI nl intC M:=by rw [fr.t 2 (by simp)];simp [g2]
 have s3:s.tm 3=jI on intC O:=by rw [fr.t 3 (by simp)];simp [g3]
 have s5:s.tm 5 = .ptr 10 0 0:=by rw [fr.t 5 (by simp)];simp [g5]
 have s9:s.tm 9 = .sl tc false (comL g).length ((comL g).flatMap intC):=by rw [fr.t 9 (by simp)];simp [g9]
 have s10:s.tm 10 = .sl tr false (readH g).length ((readH g).flatMap jG):=by rw [fr.t 10 (by simp)];simp [g10]
 have sd:s.df=[]:=by rw [fr.d];simp [gd]
 have sr:s.ro=0:=by rw [fr.r];simp [gr]
 have sb:s.fb=0:=by rw [fr.b];simp [gb]
 clear fr
 have ix:∀ {k:Nat},k<(comL g).length→JL 1 (.sl tc false (comL g).length ((comL g).flatMap intC)) (.int .i64 (k:Int))=some (.eptr ((comL g).flatMap intC) k):=fun {k} h=>by have:=Y1 jF tc false (comL g) .i64 h;rwa [Nat.mul_one] at this
 by_cases hlt:i<(comL g).length
 ·have hw:=jz hlt (by omega)
  obtain ⟨vb,evb,hvb⟩:=ev40 hs ((comL g)[i])
  have h1:=Jh (comL g) hlt
  have hfi:f1 i=((badH g ((comL g)[i])).isEmpty && Xh (Wd g O i) i):=by rw [← hf1,sesB,jn hlt]
  simp [s11,s9,s5,o10,j1,j2,hlt,ix hlt,h1]
  refine J0 evb (by simp [j2]) rfl (by simp [j2]) ?_
  refine YL hvb fun tb addb=>?_
  cases hbe:(badH g ((comL g)[i])).isEmpty
  ·rw [hbe,Bool.false_and] at hfi
   have hbl:0<(badH g ((comL g)[i])).length:=List.length_pos_iff.2 (fun e=>by rw [e] at hbe;cases hbe)
   simp [hbl]
   exact j3 (by simp [sd]) (by simp [Js hlt hfi]) rfl
  ·rw [hbe,Bool.true_and] at hfi
   have hbl:¬ 0<(badH g ((comL g)[i])).length:=by rw [List.isEmpty_iff] at hbe;rw [hbe];simp
   simp [hbl]
   refine jE [(8,8),(12,12),(37,75)] i (fun k x=>x.tm 12 = .int .i64 k∧x.ob 10=some ⟨0,.cells (j2 g)⟩∧∀ j,j<k→Wd g O i j=true) rfl rfl ⟨by simp,by simpa [j2] using o10,fun k hk=>by omega⟩ ?_
   rintro k x hk ⟨x12,y10,hal⟩ fr
   have x3:x.tm 3=jI on intC O:=by rw [fr.t 3 (by simp)];simp [s3]
   have x5:x.tm 5 = .ptr 10 0 0:=by rw [fr.t 5 (by simp)];simp [s5]
   have x9:x.tm 9 = .sl tc false (comL g).length ((comL g).flatMap intC):=by rw [fr.t 9 (by simp)];simp [s9]
   have x11:x.tm 11 = .int .i64 i:=by rw [fr.t 11 (by simp)];simp [s11]
   have xd:x.df=[]:=by rw [fr.d];simp [sd]
   clear fr
   by_cases hki:k<i
   ·have hkl:k<(comL g).length:=by omega
    have hwk:=jz hki (by omega)
    have h2:=Jh (comL g) hkl
    obtain ⟨a,ea,hca⟩:=comL_mem.1 (List.getElem_mem hkl)
    obtain ⟨b,eb,hcb⟩:=comL_mem.1 (List.getElem_mem hlt)
    have hal':Wd g O i k=(!(jv g a == jv g b) || decide (atO O a<atO O b)):=by unfold Wd;rw [jn hkl,jn hlt,ea,eb];rfl
    have ha:=Xj hca
    have hb:=Xj hcb
    rw [jcw ha,jcw hb] at hal'
    have sa:(g.ts.flatMap ji)[a * 3]? = some (.int .i64 (g.ts[a]).s):=by have:=jb j8 g.ts ha (by decide:0<3);rw [Nat.add_zero] at this;rw [this];rfl
    have sb':(g.ts.flatMap ji)[b * 3]? = some (.int .i64 (g.ts[b]).s):=by have:=jb j8 g.ts hb (by decide:0<3);rw [Nat.add_zero] at this;rw [this];rfl
    have e1:=j18 (a:=on) O (by omega) (a:Int)
    have e2:=j18 (a:=on) O (by omega) (b:Int)
    rw [ea] at h2
    rw [eb] at h1
    cases hse:((g.ts[a]).s == (g.ts[b]).s)
    ·rw [hse] at hal'
     simp at hal'
     simp [x12,x11,x5,x9,y10,j1,j2,hki,ix hkl,ix hlt,h1,h2,ha,hb,j5 j8,sa,sb',hse,hwk]
     intro j hj
     rcases Nat.lt_succ_iff_lt_or_eq.1 hj with h | h
     ·exact hal j h
     ·subst h;exact hal'
    ·rw [hse] at hal'
     simp only [Bool.not_true,Bool.false_or] at hal'
     simp [x12,x11,x5,x9,x3,y10,j1,j2,hki,ix hkl,ix hlt,h1,h2,ha,hb,j5 j8,sa,sb',hse]
     refine J0 e1 (by simp) rfl (by simp) ?_
     simp [x11,x9,x3,ix hlt,h1]
     refine J0 e2 (by simp) rfl (by simp) ?_
     by_cases hle:atO O a<atO O b
     ·rw [decide_eq_true hle] at hal'
      simp [show ¬ atO O (b:Int)≤atO O (a:Int) by omega,x12,hwk,hki]
      refine ⟨by simpa [j2] using y10,fun j hj=>?_⟩
      rcases Nat.lt_succ_iff_lt_or_eq.1 hj with h | h
      ·exact hal j h
      ·subst h;exact hal'
     ·rw [decide_eq_false hle] at hal'
      simp [show atO O (b:Int)≤atO O (a:Int) by omega]
      exact j3 (by simp [xd]) (by simp [Js hlt (hfi.trans (Js hki hal'))]) rfl
   ·have:k=i:=by omega
    subst this
    simp [x12,x11,hw,hlt]
    refine ⟨by simpa [j2] using y10,fun j hj=>?_⟩
    rcases Nat.lt_succ_iff_lt_or_eq.1 hj with h | h
    ·exact hall j h
    ·subst h;rw [hfi];exact andTo_iff.2 hal
 ·have:i=(comL g).length:=by omega
  subst this
  rw [andTo_iff.2 hall,Bool.true_and]
  clear hall hf1
  simp [s11,s9]
  refine jE [(8,8),(13,18),(76,163)] (readH g).length (fun i s=>s.tm 13 = .int .i64 i∧s.ob 10=some ⟨0,.cells (j2 g)⟩∧∀ k,k<i→f2 k=true) rfl rfl ⟨by simp,by simpa using o10,fun k hk=>by omega⟩ ?_
  rintro i w hi ⟨w13,v10,hall⟩ fr
  have w0:w.tm 0 = .int .i64 lvl:=by rw [fr.t 0 (by simp)];simp [s0]
  have w2:w.tm 2=jI nl intC M:=by rw [fr.t 2 (by simp)];simp [s2]
  have w3:w.tm 3=jI on intC O:=by rw [fr.t 3 (by simp)];simp [s3]
  have w5:w.tm 5 = .ptr 10 0 0:=by rw [fr.t 5 (by simp)];simp [s5]
  have w10:w.tm 10 = .sl tr false (readH g).length ((readH g).flatMap jG):=by rw [fr.t 10 (by simp)];simp [s10]
  have wd:w.df=[]:=by rw [fr.d];simp [sd]
  have wr:w.ro=0:=by rw [fr.r];simp [sr]
  have wb:w.fb=0:=by rw [fr.b];simp [sb]
  clear fr
  by_cases hlt:i<(readH g).length
  ·have hw:=jz hlt (by omega)
   have him:i<M.length:=by omega
   obtain ⟨a,k,ha,hk,hp,hkey,hca⟩:=jq2 hmay hlt
   have hpa:=jai (readH g) w.ob hlt
   have hmi:=Jh M him
   obtain ⟨vs,evs,hvs⟩:=ev33 hs (nl:=nl) (on:=on) (M:=M) (O:=O) hMl (by omega) lvl hlt ha (by rw [hp])
   have hfi:f2 i=(decide (M[i]<0∨atO O M[i]<atO O a) && (jcq g lvl M O (readH g)[i]).all (okB g O (readH g)[i] M[i])):=by
    rw [← hf2,jae,List.getElem?_eq_getElem hlt,List.getElem?_eq_getElem him]
    simp only [hp]
   have e1:=j18 (a:=on) O (by omega) M[i]
   have e2:=j18 (a:=on) O (by omega) (a:Int)
   rw [hp] at hpa
   simp only at hpa
   obtain ⟨m,hme⟩:∃ m,M[i]=m:=⟨_,rfl⟩
   rw [hme] at hmi hfi e1
   obtain ⟨p,hpe⟩:∃ p,(readH g)[i]=p:=⟨_,rfl⟩
   rw [hpe] at hp hkey hvs hfi
   obtain ⟨S,hS⟩:∃ S,jcq g lvl M O p=S:=⟨_,rfl⟩
   rw [hS] at hvs hfi
   have hSm:∀ x∈S,∃ n:Nat,x=n∧n<g.ts.length:=fun x hx=>by
    rw [← hS] at hx
    obtain ⟨n,h1,h2,_⟩:=filTo_mem.1 hx
    exact ⟨n,h2,h1⟩
   have hSl:S.length≤1000:=by
    rw [← hS]
    exact Nat.le_trans (je1 _ _) hts
   clear hS
   simp [w13,w10,hlt,Y1 jj,hpa,j7,wb,j1,wr,w2,him,j5 jF,hmi]
   generalize hKK:jlk E noYF _ _=KK
   have rest:∀ x:St,∀ u,(decide (m<0∨atO O m<atO O a)=true)→x.tm 103 = .bool false→x.tm 0 = .int .i64 lvl→x.tm 2=jI nl intC M→x.tm 3=jI on intC O→x.tm 5 = .ptr 10 0 0→x.tm 13 = .int .i64 i→x.tm 14 = .ptr 28 u 0→x.ob 10=some ⟨0,.cells (j2 g)⟩→x.ob 28=some ⟨u,.cells [.int .i64 (a:Int),.int .i64 (k:Int)]⟩→x.df=[]→x.ro=0→x.fb=0→KK .nrm x:=by
    intro x u hc x103 x0 x2 x3 x5 x13 x14 y10 y28 xd xr xb
    rw [← hKK]
    clear hKK
    rw [hc,Bool.true_and] at hfi
    simp [x103,x0,x2,x3,x5,x13,y10,j1,j2]
    refine jV evs (by simp [j2]) rfl (by simp [j2]) ?_
    refine YL hvs fun ts adds=>?_
    have ix:∀ {j:Nat},j<S.length→JL 1 (.sl ts false S.length (S.flatMap intC)) (.int .i64 (j:Int))=some (.eptr (S.flatMap intC) j):=fun {j} h=>by have:=Y1 jF ts false S .i64 h;rwa [Nat.mul_one] at this
    have hl3:(g.ts.flatMap ji)[a * 3+2]? = some (jI (g.ts[a]).nl opC (g.ts[a]).ops):=by rw [jb j8 g.ts ha (by decide:2<3)];rfl
    have hlk:((g.ts[a]).ops.flatMap opC)[k * 4+1]? = some (.int .i64 ((g.ts[a]).ops[k]).key):=by rw [jb jH (g.ts[a]).ops hk (by decide:1<4)];rfl
    simp
    refine jE [(8,8),(16,18),(110,163)] S.length (fun j y=>y.tm 16 = .int .i64 j∧y.ob 10=some ⟨0,.cells (j2 g)⟩∧y.ob 28=some ⟨u,.cells [.int .i64 (a:Int),.int .i64 (k:Int)]⟩∧∀ q,q<j→okB g O p m (S.getD q 0)=true) rfl rfl ⟨by simp,by simpa [j2] using y10,by simpa using y28,fun q hq=>by omega⟩ ?_
    rintro j y hj ⟨y16,z10,z28,hok⟩ fr
    have y2:y.tm 2=jI nl intC M:=by rw [fr.t 2 (by simp)];simp [x2]
    have y3:y.tm 3=jI on intC O:=by rw [fr.t 3 (by simp)];simp [x3]
    have y5:y.tm 5 = .ptr 10 0 0:=by rw [fr.t 5 (by simp)];simp [x5]
    have y13:y.tm 13 = .int .i64 i:=by rw [fr.t 13 (by simp)];simp [x13]
    have y14:y.tm 14 = .ptr 28 u 0:=by rw [fr.t 14 (by simp)];simp [x14]
    have y15:y.tm 15 = .sl ts false S.length (S.flatMap intC):=by rw [fr.t 15 (by simp)];simp
    have yd:y.df=[]:=by rw [fr.d];simp [xd]
    have yr:y.ro=0:=by rw [fr.r];simp [xr]
    have yb:y.fb=0:=by rw [fr.b];simp [xb]
    clear fr
    by_cases hjt:j<S.length
    ·have hwj:=jz hjt (by omega)
     have h2:=Jh S hjt
     obtain ⟨b,eb,hb⟩:=hSm _ (List.getElem_mem hjt)
     have el:=ev64 hs (b:Int) ((g.ts[a]).ops[k]).key
     have ez:(Y6 (JE g (b:Int)).2 ((g.ts[a]).ops[k]).key).2=Jm g b (Xy g p):=by rw [hkey];rfl
     rw [ez] at el
     have hokj:okB g O p m (S.getD j 0)=((b:Int) == m || (!Jm g b (Xy g p) || decide (atO O b<atO O m))):=by rw [jn hjt,eb];rfl
     have e3:=j18 (a:=on) O (by omega) (b:Int)
     rw [eb] at h2
     simp [y16,y15,y14,y5,z10,z28,j1,j2,hjt,ix hjt,h2,ha,hk,j5 j8,j5 jH,hl3,hlk]
     refine J0 el (by simp [j2]) rfl (by simp [j2]) ?_
     rw [JH (by simp [V.plain,J1])]
     generalize (Y6 (JE g (b:Int)).2 ((g.ts[a]).ops[k]).key).1=rv at *
     generalize Jm g b (Xy g p)=rb at *
     simp [J1,j7,yb,yr,j1]
     refine ⟨by simp [XI,Qo,jfh,jch,rdOb,rdTk,lOf,Delta.wo,Delta.wt,y5];decide,?_⟩
     have next:okB g O p m (S.getD j 0)=true→∀ q,q<j+1→okB g O p m (S.getD q 0)=true:=fun h q hq=>by
      rcases Nat.lt_succ_iff_lt_or_eq.1 hq with h' | h'
      ·exact hok q h'
      ·subst h';exact h
     cases hbm:((b:Int) == m)
     ·have hbn:((b:Int) != m)=true:=by rw [bne,hbm];rfl
      rw [hbm,Bool.false_or] at hokj
      cases rb
      ·simp at hokj
       simp [y16,y15,y2,y13,ix hjt,h2,him,j5 jF,hmi,hbn,hwj,hjt,z10,z28,j2]
       exact next hokj
      ·simp only [Bool.not_true,Bool.false_or] at hokj
       simp [y16,y15,y2,y3,y13,ix hjt,h2,him,j5 jF,hmi,hbn]
       refine J0 e3 (by simp) rfl (by simp) ?_
       simp [y2,y3,y13,him,j5 jF,hmi]
       refine J0 e1 (by simp) rfl (by simp) ?_
       by_cases hle:atO O b<atO O m
       ·rw [decide_eq_true hle] at hokj
        simp [show ¬ atO O m≤atO O b by omega,y16,hwj,hjt,z10,z28,j2]
        exact next hokj
       ·rw [decide_eq_false hle] at hokj
        simp [show atO O m≤atO O b by omega]
        exact j3 (by simp [yd]) (by
         have:S.all (okB g O p m)=false:=by
          cases h:S.all (okB g O p m)
          ·rfl
          ·have:=List.all_eq_true.1 h _ (List.getElem_mem hjt)
           rw [← jn hjt (d:=0),hokj] at this
           cases this
         simp [Js hlt (hfi.trans this)]) rfl
     ·have hbn:((b:Int) != m)=false:=by rw [bne,hbm];rfl
      rw [hbm,Bool.true_or] at hokj
      simp [y16,y15,y2,y13,ix hjt,h2,him,j5 jF,hmi,hbn,hwj,hjt,z10,z28,j2]
      exact next hokj
    ·have:j=S.length:=by omega
     subst this
     clear hjt
     have hall2:S.all (okB g O p m)=true:=by
      rw [List.all_eq_true]
      intro z hz
      obtain ⟨q,hq,e⟩:=List.getElem_of_mem hz
      have:=hok q hq
      rwa [jn hq,e] at this
     simp [y16,y15,y13,hw,hlt]
     refine ⟨by simpa [j2] using z10,fun q hq=>?_⟩
     rcases Nat.lt_succ_iff_lt_or_eq.1 hq with h | h
     ·exact hall q h
     ·subst h;rw [hfi];exact hall2
   by_cases hm0:m<0
   ·simp [show ¬ 0≤m by omega]
    exact rest _ (w.nx+64+64+64+64+64+64+64+64) (by simp [hm0]) (by simp) (by simp [w0]) (by simp [w2]) (by simp [w3]) (by simp [w5]) (by simp [w13]) (by simp) (by simp [v10]) (by simp) (by simp [wd]) (by simp [wr]) (by simp [wb])
   ·simp [show 0≤m by omega,w3,w2,w13,him,j5 jF,hmi]
    refine J0 e1 (by simp) rfl (by simp) ?_
    simp [j1,w3]
    refine J0 e2 (by simp) rfl (by simp) ?_
    by_cases hle:atO O m<atO O (a:Int)
    ·simp [show ¬ atO O (a:Int)≤atO O m by omega]
     exact rest _ (w.nx+64+64+64+64+64+64+64+64) (by simp [hle]) (by simp) (by simp [w0]) (by simp [w2]) (by simp [w3]) (by simp [w5]) (by simp [w13]) (by simp) (by simp [v10]) (by simp) (by simp [wd]) (by simp [wr]) (by simp [wb])
    ·simp [show atO O (a:Int)≤atO O m by omega]
     rw [← hKK]
     simp
     exact j3 (by simp [wd]) (by simp [Js hlt (hfi.trans (by simp [hm0,hle]))]) rfl
  ·have:i=(readH g).length:=by omega
   subst this
   simp [w13,w10]
   exact j3 (by simp [wd]) (by simp [andTo_iff.2 hall]) rfl
def Off (ub key:Nat):Prop:=∀ m,ub≤m→¬ key=2 * m+1
theorem Off.up {ub ub' key:Nat} (h:Off ub key) (hu:ub≤ub'):Off ub' key:=fun m hm=>h m (Nat.le_trans hu hm)
theorem Off.new {ub m:Nat} (h:m<ub):Off ub (2 * m+1):=fun k hk e=>by omega
def Was (ub:Nat) (ob ob':ZO):Prop:=∀ key,Off ub key→ob' key=ob key
theorem Was.trans {ub ub1:Nat} {ob ob1 ob2:ZO} (h:Was ub ob ob1) (h':Was ub1 ob1 ob2) (hu:ub≤ub1):Was ub ob ob2:=fun key hk=>(h' key (hk.up hu)).trans (h key hk)
theorem Was.refl (ub:Nat) (ob:ZO):Was ub ob ob:=fun _ _=>rfl
structure JN where
 tr:Option (Nat × Nat)
 nr:Bool
 nm:Bool
 kJ:Nat
 uJ:Nat
 kA:Nat
 uA:Nat
 kP:Nat
 uP:Nat
 rows:List (Nat × Nat)
def farL (g:Hist') (M:List Int) (b:Nat):List Bool:=(List.range g.ts.length).map (farB g M b)
def j3d (n:Nat) (r:Nat × Nat):V:=.osl r.1 r.2 0 n 1
structure Jd (g:Hist') (lvl:Int) (M O:List Int) (N:JN) (ob:ZO) (ub:Nat):Prop where
 j:ob N.kJ=some ⟨N.uJ,.cells [.int .i64 lvl,jI g.sn JJ g.ss,jI g.kn JJ g.ks,jI g.tn ji g.ts,.sl N.tr N.nr (readH g).length ((readH g).flatMap jG),jI N.nm intC M,.map N.kA N.uA,if lvl=2 then .osl N.kP N.uP 0 g.ts.length 1 else .sl none true 0 []]⟩
 a:∃ ver,ob N.kA=some ⟨N.uA,.mp ver (MP intV (atM O O.length))⟩
 p:lvl=2→ob N.kP=some ⟨N.uP,.cells (N.rows.map (j3d g.ts.length))⟩∧N.rows.length=g.ts.length∧(∀ b (h:b<N.rows.length),ob (N.rows[b]).1=some ⟨(N.rows[b]).2,.cells ((farL g M b).map V.bool)⟩)∧Off ub N.kP∧∀ r∈N.rows,Off ub r.1
 fj:Off ub N.kJ
 fa:Off ub N.kA
 odd:N.kJ % 2=1∧N.kA % 2=1∧(lvl=2→N.kP % 2=1∧∀ r∈N.rows,r.1 % 2=1)
theorem Jd.keep {g:Hist'} {lvl:Int} {M O:List Int} {N:JN} {ob ob':ZO} {ub ub':Nat} (h:Jd g lvl M O N ob ub) (hw:Was ub ob ob') (hu:ub≤ub'):Jd g lvl M O N ob' ub':=by
 refine ⟨(hw _ h.fj).trans h.j,?_,fun h2=>?_,h.fj.up hu,h.fa.up hu,h.odd⟩
 ·obtain ⟨ver,e⟩:=h.a
  exact ⟨ver,(hw _ h.fa).trans e⟩
 ·obtain ⟨p1,p2,p3,p4,p5⟩:=h.p h2
  exact ⟨(hw _ p4).trans p1,p2,fun b hb=>(hw _ (p5 _ (List.getElem_mem hb))).trans (p3 b hb),p4.up hu,fun r hr=>(p5 r hr).up hu⟩
theorem Jd.map {g:Hist'} {lvl:Int} {M O:List Int} {N:JN} {ob:ZO} {ub:Nat} (h:Jd g lvl M O N ob ub) (ho:J5 g O=true) {t:Int} (ht:t = -1∨t∈comL g):Xx ob .int (.int .i64 0) false (.map N.kA N.uA) (.int .i64 t)=some (.int .i64 (atO O t)):=by
 obtain ⟨ver,e⟩:=h.a
 rw [YC (atM O O.length) (by simp [je,e]),j9w ho ht]
theorem idx0 {l u n x sz:Nat} {kk:IntKind} (hx:x<n):JL sz (.osl l u 0 n sz) (.int kk (x:Int))=some (.ptr l u (x * sz)):=by simp [JL,hx]
theorem Yr {a b:Nat} (h:¬ a=b):Nat.beq a b=false:=by
 cases e:Nat.beq a b
 ·rfl
 ·exact absurd (Nat.eq_of_beq_eq_true e) h
end Go.Pv.T
namespace Go.Pv.T
open Go Go.Pv
end Go.Pv.T
namespace Go.Pv.T
open Go Go.Pv
theorem two_inj {a b:Nat}:(2 * a=2 * b)=(a=b):=propext ⟨fun h=>by omega,fun h=>by rw [h]⟩
theorem jg9 {l u o:Nat}:(V.ptr l u o).leaf=true:=rfl
def rdC (r:Int × Int × Int):List V:=[.int .i64 r.1,.int .i64 r.2.1,.int .i64 r.2.2]
theorem jd1 (r:Int × Int × Int):(rdC r).length=3:=rfl
structure WN where
 kW:Nat
 uW:Nat
 kR:Nat
 uR:Nat
 kA:Nat
 uA:Nat
 kL:Nat
 uL:Nat
 kS:Nat
 uS:Nat
 kP:Nat
 uP:Nat
def wC (g:Hist') (lvl:Int) (N:WN):List V:=[.int .i64 lvl,jI g.sn JJ g.ss,jI g.kn JJ g.ks,jI g.tn ji g.ts,.map N.kR N.uR,.map N.kA N.uA,.map N.kL N.uL,.map N.kS N.uS,.map N.kP N.uP]
structure Fix (N:WN) (ub key:Nat):Prop where
 a:key≠N.kA
 l:key≠N.kL
 s:key≠N.kS
 p:key≠N.kP
 f:Off ub key
 o:key % 2=1
def RowV (N:WN) (ob:ZO) (ub:Nat) (v:V) (rs:List (Int × Int × Int)):Prop :=
 (v = .sl none true 0 []∧rs=[])∨∃ l u,v = .osl l u 0 rs.length 3∧ob l=some ⟨u,.cells (rs.flatMap rdC)⟩∧Fix N ub l
def InM (N:WN) (ob:ZO) (ub:Nat) (v:V) (L:List Int):Prop :=
 (v = .nilmap∧L=[])∨∃ l u ver m,v = .map l u∧ob l=some ⟨u,.mp ver (MP intV m)⟩∧(∀ a,a∈m.map (·.1) ↔ a∈L)∧Fix N ub l
def jo2 (p:Nat × Nat):V:=.map p.1 p.2
def joh (p:Nat × Nat × Nat):V:=.osl p.1 p.2.1 0 p.2.2 3
structure Wk (g:Hist') (lvl:Int) (M:List Int) (N:WN) (A L S:List (Int × Int)) (P:Int→List Int) (ob:ZO) (ub:Nat):Prop where
 w:ob N.kW=some ⟨N.uW,.cells (wC g lvl N)⟩
 r:∃ ver mr,ob N.kR=some ⟨N.uR,.mp ver (MP joh mr)⟩∧∀ t,RowV N ob ub (((jW mr t).map fun p=>joh p.2).getD (.sl none true 0 [])) (rdsT g M t)
 a:∃ ver,ob N.kA=some ⟨N.uA,.mp ver (MP intV A)⟩
 l:∃ ver,ob N.kL=some ⟨N.uL,.mp ver (MP intV L)⟩
 s:∃ ver,ob N.kS=some ⟨N.uS,.mp ver (MP intV S)⟩
 p:∃ ver mp,ob N.kP=some ⟨N.uP,.mp ver (MP jo2 mp)⟩∧∀ t,InM N ob ub (((jW mp t).map fun p=>jo2 p.2).getD .nilmap) (P t)
 fw:Fix N ub N.kW
 fr:Fix N ub N.kR
 fa:Off ub N.kA
 fl:Off ub N.kL
 fs:Off ub N.kS
 fp:Off ub N.kP
 odd:N.kA % 2=1∧N.kL % 2=1∧N.kS % 2=1∧N.kP % 2=1
 ne:N.kA≠N.kL∧N.kA≠N.kS∧N.kA≠N.kP∧N.kL≠N.kS∧N.kL≠N.kP∧N.kS≠N.kP
section
variable {g:Hist'} {lvl:Int} {M:List Int} {N:WN} {A L S:List (Int × Int)} {P:Int→List Int} {ob ob':ZO} {ub ub':Nat}
theorem Fix.up {key:Nat} (h:Fix N ub key) (hu:ub≤ub'):Fix N ub' key:=⟨h.a,h.l,h.s,h.p,h.f.up hu,h.o⟩
theorem RowV.keep {v:V} {rs:List (Int × Int × Int)} (h:RowV N ob ub v rs) (hw:∀ key,Fix N ub key→ob' key=ob key) (hu:ub≤ub'):RowV N ob' ub' v rs:=by
 rcases h with h | ⟨l,u,h1,h2,h3⟩
 ·exact .inl h
 ·exact .inr ⟨l,u,h1,(hw _ h3).trans h2,h3.up hu⟩
theorem InM.keep {v:V} {l:List Int} (h:InM N ob ub v l) (hw:∀ key,Fix N ub key→ob' key=ob key) (hu:ub≤ub'):InM N ob' ub' v l:=by
 rcases h with h | ⟨l,u,ver,m,h1,h2,h3,h4⟩
 ·exact .inl h
 ·exact .inr ⟨l,u,ver,m,h1,(hw _ h4).trans h2,h3,h4.up hu⟩
theorem Wk.keep (h:Wk g lvl M N A L S P ob ub) (hw:∀ key,Off ub key→key % 2=1→ob' key=ob key) (hu:ub≤ub'):Wk g lvl M N A L S P ob' ub':=by
 have hf:∀ key,Fix N ub key→ob' key=ob key:=fun key hk=>hw key hk.f hk.o
 obtain ⟨o1,o2,o3,o4⟩:=h.odd
 obtain ⟨rv,mr,r1,r2⟩:=h.r
 obtain ⟨av,a1⟩:=h.a
 obtain ⟨lv,l1⟩:=h.l
 obtain ⟨sv,s1⟩:=h.s
 obtain ⟨pv,mp,p1,p2⟩:=h.p
 exact ⟨(hf _ h.fw).trans h.w,⟨rv,mr,(hf _ h.fr).trans r1,fun t=>(r2 t).keep hf hu⟩,⟨av,(hw _ h.fa o1).trans a1⟩,⟨lv,(hw _ h.fl o2).trans l1⟩,⟨sv,(hw _ h.fs o3).trans s1⟩,
  ⟨pv,mp,(hw _ h.fp o4).trans p1,fun t=>(p2 t).keep hf hu⟩,h.fw.up hu,h.fr.up hu,h.fa.up hu,h.fl.up hu,h.fs.up hu,h.fp.up hu,h.odd,h.ne⟩
theorem Wk.at (h:Wk g lvl M N A L S P ob ub) {ob':ZO} (e:ob' N.kA=ob N.kA) (t:Int):Xx ob' .int (.int .i64 0) false (.map N.kA N.uA) (.int .i64 t)=some (.int .i64 (JY A t)):=by
 obtain ⟨ver,h1⟩:=h.a
 exact YC A (by simp [je,e,h1])
theorem Wk.in' {lo:ZO} {k u ver:Nat} {m:List (Int × Int)} (h:lo k=some ⟨u,.mp ver (MP intV m)⟩) (t:Int):Xx lo .int (.int .i64 0) true (.map k u) (.int .i64 t)=some (.tup [.int .i64 (JY m t),.bool (jW m t).isSome]):=by
 rw [W5 (f:=intV) m (by simp [je,h]),JY]
 cases jW m t <;> rfl
theorem Wk.row (h:Wk g lvl M N A L S P ob ub) (t:Int):∃ v,(∀ ob':ZO,ob' N.kR=ob N.kR→Xx ob' .int (.sl none true 0 []) false (.map N.kR N.uR) (.int .i64 t)=some v)∧RowV N ob ub v (rdsT g M t):=by
 obtain ⟨ver,mr,h1,h2⟩:=h.r
 refine ⟨_,fun ob' e=>?_,h2 t⟩
 rw [W5 (f:=joh) mr (by simp [je,e,h1])]
 cases jW mr t <;> rfl
theorem Wk.past (h:Wk g lvl M N A L S P ob ub) (t:Int):∃ v,(∀ ob':ZO,ob' N.kP=ob N.kP→Xx ob' .int .nilmap false (.map N.kP N.uP) (.int .i64 t)=some v)∧InM N ob ub v (P t):=by
 obtain ⟨ver,mp,h1,h2⟩:=h.p
 refine ⟨_,fun ob' e=>?_,h2 t⟩
 rw [W5 (f:=jo2) mp (by simp [je,e,h1])]
 cases jW mp t <;> rfl
theorem Off.ne {key:Nat} (h:Off ub key):∀ m,ub≤m→¬ key=2 * m+1:=h
theorem j8w (hs:Small g) (hW:Wk g lvl M N A L S P ob ub) (t key:Int) (tk:Nat→Bool) (base:Nat) :
 EvO E 282 [.ptr N.kW N.uW 0,.int .i64 t,.int .i64 key] ob tk base ub (.bool (Jm g t key)):=by
 refine Jf (af:=S282) rfl ?_
 have hw:=hW.w
 have gW:=hW.fw.f.ne
 have el:=j9d hs t key
 have ez:(Y6 (JE g t).2 key).2=Jm g t key:=rfl
 rw [ez] at el
 simp (disch:=first | (simp;done) | omega) [S282,j1,hw,wC]
 refine jV el (by simp [j2]) rfl (by simp [j2]) ?_
 rw [JH (by simp [V.plain,J1])]
 simp (disch:=first | (simp;done) | omega) [J1,j1,j7]
 exact ⟨by omega,j3 (by simp) (by simp) rfl⟩
end
def ItAt (N:WN) (ub0:Nat) (ob:ZO) (k u:Nat) (left:List Int) (last:Option Int):Prop :=
 (ob k=some ⟨u,.nomap⟩∧left=[]∧last=none)∨∃ l' u' ver m lf ls,ob k=some ⟨u,.miter l' u' ver (MP intV lf) ls⟩∧ob l'=some ⟨u',.mp ver (MP intV m)⟩∧(Fix N ub0 l'∧l'≠k)∧lf.map (·.1)=left∧∀ a,last=some a→∃ v,ls=some (.int .i64 a,v)
theorem ItAt.keep {N:WN} {ub0:Nat} {ob ob':ZO} {k u:Nat} {left:List Int} {last:Option Int} (h:ItAt N ub0 ob k u left last) (hk:ob' k=ob k) (hw:∀ key,Fix N ub0 key→ob' key=ob key):ItAt N ub0 ob' k u left last:=by
 rcases h with ⟨h1,h2⟩ | ⟨l',u',ver,m,lf,ls,h1,h2,h3,h4⟩
 ·exact .inl ⟨hk.trans h1,h2⟩
 ·exact .inr ⟨l',u',ver,m,lf,ls,hk.trans h1,(hw _ h3.1).trans h2,h3,h4⟩
section
variable {E:Env} {Yf:YF} {st:St} {ub:Nat} {K:St→Nat→Prop} {d:Option Nat} {nm:Bool}
theorem jsn {x:A} (hx:eval E st.tm x = .nilmap) (h:QP K st d ub { v:=.iter (jP d nm st.fb ub) ub,obs:=[(jP d nm st.fb ub,⟨ub,.nomap⟩)] }):j9 E Yf ⟨d,.range false x,none,nm⟩ st ub K:=by
 rw [jS _ rfl rfl]
 simp only [aop,hx,Jb,jN,Jz]
 exact h
theorem jjm {x:A} {N:WN} {ob0:ZO} {ub0:Nat} {L:List Int} (hx:InM N ob0 ub0 (eval E st.tm x) L) (hob:∀ key,Fix N ub0 key→st.ob key=ob0 key) (hn:ub0≤ub) (hnm:nm=true)
 (h:∀ o left,(∀ a,a∈left ↔ a∈L)→(∀ ob',ob' (2 * ub+1)=some o→(∀ key,Fix N ub0 key→ob' key=st.ob key)→ItAt N ub0 ob' (2 * ub+1) ub left none)→QP K st d ub { v:=.iter (2 * ub+1) ub,obs:=[(2 * ub+1,o)] }):j9 E Yf ⟨d,.range false x,none,nm⟩ st ub K:=by
 subst hnm
 rcases hx with ⟨h1,h2⟩ | ⟨l,u,ver,m,h1,h2,h3,h4⟩
 ·refine jsn h1 (h _ [] (by simp [h2]) fun ob' ho _=>.inl ⟨ho,rfl,rfl⟩)
 ·have ho:st.ob l=some ⟨u,.mp ver (MP intV m)⟩:=(hob _ h4).trans h2
  refine jen h1 ho (h _ (m.map (·.1)) h3 fun ob' ho' hw=>.inr ⟨l,u,ver,m,m,none,ho',(hw _ h4).trans ho,⟨h4,h4.f ub hn⟩,rfl,fun a h=>by cases h⟩)
theorem jnc {N:WN} {ub0:Nat} {x:A} {k u:Nat} {left:List Int} {last:Option Int} (hx:eval E st.tm x = .iter k u) (hi:ItAt N ub0 st.ob k u left last) (hro:st.ro≤u) (h0:left=[]→QC K st d ub (.tup [.bool false]))
 (h1:∀ a key b o v,left=a++key::b→(∀ ob',ob' k=some o→(∀ key,key≠k→ob' key=st.ob key)→ItAt N ub0 ob' k u (a++b) (some key))→QP K st d ub { v:=.tup [.bool true,.int .i64 key,v],obs:=[(k,o)] }):j9 E Yf ⟨d,.nextMap x,none,nm⟩ st ub K:=by
 rcases hi with ⟨e1,e2,_⟩ | ⟨l',u',ver,m,lf,ls,e1,e2,e3,e4,_⟩
 ·simp only [j9,wanted,jg,jB]
  refine ⟨[{ v:=.tup [.bool false] }],?_,fun δ hδ=>?_⟩
  ·simp only [Pv.nextL,hx,e1,if_true]
  ·rw [List.mem_singleton] at hδ
   subst hδ
   have:=h0 e2
   rw [Q1]
   exact this
 ·refine jgo hx e1 e2 hro (fun h=>h0 (by rw [← e4];unfold MP at h;rw [List.map_eq_nil_iff] at h;rw [h];rfl)) fun a k' v b hab=>?_
  unfold MP at hab
  obtain ⟨l1,l2,hl,ha,hc⟩:=List.map_eq_append_iff.1 hab
  obtain ⟨p,l3,rfl,hp,hb⟩:=List.map_eq_cons_iff.1 hc
  obtain ⟨pk,pv⟩:=p
  simp only [Prod.mk.injEq] at hp
  obtain ⟨rfl,rfl⟩:=hp
  refine h1 (l1.map (·.1)) pk (l3.map (·.1)) _ _ (by rw [← e4,hl];simp) fun ob' ho hw=>.inr ⟨l',u',ver,m,l1++l3,some (.int .i64 pk,intV pv),?_,(hw _ e3.2).trans e2,e3,by simp,fun a h=>by cases h;exact ⟨_,rfl⟩⟩
  rw [ho,← ha,← hb]
  simp [MP]
theorem jjo {N:WN} {ub0:Nat} {x:A} {k u:Nat} {left:List Int} {key:Int} (hx:eval E st.tm x = .iter k u) (hi:ItAt N ub0 st.ob k u left (some key)) (h:∀ v,QC K st d ub (.tup [.int .i64 key,v])):j9 E Yf ⟨d,.entry x,none,nm⟩ st ub K:=by
 rcases hi with ⟨_,_,e⟩ | ⟨l',u',ver,m,lf,ls,e1,e2,e3,e4,e5⟩
 ·cases e
 ·obtain ⟨v,rfl⟩:=e5 key rfl
  exact jnd hx e1 e2 (h v)
end
section
variable {N:WN} {ob:ZO} {ub:Nat}
theorem j81 {p:Int × Int × Int→Bool} {gf:FuncId} {c1 c2 c3 c4:Nat} (hs:E.sh true gf=false) {v:V} {rs:List (Int × Int × Int)} (hv:RowV N ob ub v rs) (hl:rs.length≤1000000000)
 (hp:∀ r∈rs,∀ (tk:Nat→Bool) (base ub':Nat),ub≤ub'→EvO E gf [.agg (rdC r),.ptr c1 c2 0,.ptr c3 c4 0] ob tk base ub' (.bool (p r))) (tk:Nat→Bool) (base:Nat):EvO E 219 [v,.fn (.func gf) [] [.ptr c1 c2 0,.ptr c3 c4 0]] ob tk base ub (.int .i64 (ja1 p rs)):=by
 refine Jf (af:=S219) rfl ?_
 have hlen:jas v=some (.int .i64 rs.length):=by
  rcases hv with ⟨rfl,rfl⟩ | ⟨l,u,rfl,_⟩ <;> rfl
 have hat:∀ i,(h:i<rs.length)→∃ q,JL 3 v (.int .i64 (i:Int))=some q∧Yb ob (some 3) q=some (.agg (rdC rs[i])):=by
  intro i h
  rcases hv with ⟨rfl,rfl⟩ | ⟨l,u,rfl,ho,_⟩
  ·simp at h
  ·refine ⟨_,idx0 h,?_⟩
   have:=XH jd1 rs i h
   have hlf:=jA jd1 rs
   simp only [Yb,j1,ho,if_true,Option.bind_some,YB]
   rw [if_pos (by rw [hlf];omega),this]
 simp [S219,hlen]
 refine jE [(4,5),(8,18)] rs.length (fun i s=>s.tm 8 = .int .i64 i∧s.ob=ob∧ub≤s.nx∧∀ j (hj:j<rs.length),j<i→p rs[j]=false) rfl rfl ⟨by simp,by simp,by simp;omega,fun _ _ h=>by omega⟩ ?_
 rintro i s hi ⟨h8,ho,hn,hb⟩ f
 have h0:s.tm 0=v:=by rw [f.t 0 (by simp)];simp
 have h1:s.tm 1 = .fn (.func gf) [] [.ptr c1 c2 0,.ptr c3 c4 0]:=by rw [f.t 1 (by simp)];simp
 have h7:s.tm 7 = .int .i64 rs.length:=by rw [f.t 7 (by simp)];simp
 have hd:s.df=[]:=by rw [f.d];simp
 clear f
 by_cases hlt:i<rs.length
 ·have hw:=jz hlt hl
  obtain ⟨q,hq1,hq2⟩:=hat i hlt
  simp [h0,h1,h7,h8,hlt,hq1,ho,hq2]
  refine jat (f:=gf) (first:=[]) (captured:=[.ptr c1 c2 0,.ptr c3 c4 0]) (by simp) hs (by simp [V.strip,V.pureTop,V.pureLeaf]) (v:=.bool (p rs[i])) (by simpa [ho] using hp rs[i] (List.getElem_mem hlt) _ _ _ (by omega)) ?_
  cases hpi:p rs[i]
  ·simp [h8,hw]
   refine ⟨hlt,ho,by omega,?_⟩
   intro j hj hji
   rcases Nat.lt_succ_iff_lt_or_eq.1 hji with h | rfl
   ·exact hb j hj h
   ·exact hpi
  ·simp
   refine j3 (by simpa using hd) ?_ rfl
   simp
   rw [Wt hlt hpi hb]
 ·have:i=rs.length:=by omega
  subst this
  simp [h7,h8]
  refine j3 (by simpa using hd) ?_ rfl
  simp [Qr (fun j hj=>hb j hj hj)]
theorem jyu {p:Int × Int × Int→Bool} {gf:FuncId} {c1 c2 c3 c4:Nat} (hs:E.sh true gf=false) {v:V} {rs:List (Int × Int × Int)} (hv:RowV N ob ub v rs) (hl:rs.length≤1000000000)
 (hp:∀ r∈rs,∀ (tk:Nat→Bool) (base ub':Nat),ub≤ub'→EvO E gf [.agg (rdC r),.ptr c1 c2 0,.ptr c3 c4 0] ob tk base ub' (.bool (p r))) (tk:Nat→Bool) (base:Nat):EvO E 163 [v,.fn (.func gf) [] [.ptr c1 c2 0,.ptr c3 c4 0]] ob tk base ub (.bool (rs.any p)):=by
 refine Jf (af:=S163) rfl ?_
 simp [S163]
 refine Jg (vs:=[v,.fn (.func gf) [] [.ptr c1 c2 0,.ptr c3 c4 0]]) (by simp) rfl (by rw [List.all_cons,Bool.and_eq_false_iff];exact .inr rfl) (j81 hs (hv.keep (fun _ _=>rfl) (by omega)) hl (fun r hr tk base ub' h=>hp r hr tk base ub' (by omega)) _ _) ?_
 simp
 exact j3 rfl (by simp [jbv]) rfl
end
def jpw (g:Hist') (A:List (Int × Int)) (t:Int) (r:Int × Int × Int):Bool:=decide (0≤t) && (!(t == r.2.2) && (Jm g t r.2.1 && decide (JY A r.2.2≤JY A t)))
def rdB (g:Hist') (M:List Int) (lvl:Int) (A L:List (Int × Int)) (P:Int→List Int) (t:Int) (r:Int × Int × Int):Bool:=(jW A r.2.2).isSome &&
 (if lvl=1 then !((rdsT g M t).any fun q=>decide (q.1<r.1) && jpw g A q.2.2 r) else
  if lvl=2 then (P t).all fun a=>!jpw g A a r else ((jW L r.2.1).map (·.2)).getD (-1) == r.2.2)
section
variable {g:Hist'} {lvl:Int} {M:List Int} {N:WN} {A L S:List (Int × Int)} {P:Int→List Int} {ob:ZO} {ub:Nat}
theorem jyt (hs:Small g) (hW:Wk g lvl M N A L S P ob ub) (t:Int) (r:Int × Int × Int) (tk:Nat→Bool) (base:Nat) :
 EvO E 257 [.ptr N.kW N.uW 0,.int .i64 t,.agg (rdC r)] ob tk base ub (.bool (jpw g A t r)):=by
 refine Jf (af:=S257) rfl ?_
 have hw:=hW.w
 have gW:=hW.fw.f.ne
 have gA:=hW.fa.ne
 have hat:=fun (ob':ZO) (h:ob' N.kA=ob N.kA) x=>hW.at h x
 unfold jpw
 by_cases h0:0≤t
 ·cases h1:(t == r.2.2)
  ·have h1':(t != r.2.2)=true:=by simpa using h1
   simp (disch:=first | (simp;done) | omega) [S257,j1,h0,h1',rdC]
   refine j8d (vs:=[.ptr N.kW N.uW 0,.int .i64 t,.int .i64 r.2.1]) (by simp) rfl rfl (j8w hs (hW.keep (fun key hk _=>by simp (disch:=first | (simp;done) | omega) [hk.ne]) (by first | omega | (simp;omega))) t r.2.1 _ _) (YA rfl) ?_
   cases h2:Jm g t r.2.1
   ·simp (disch:=first | (simp;done) | omega)
    exact j3 (by simp) (by simp) rfl
   ·simp (disch:=first | (simp;done) | omega) [j1,hw,wC,gW]
    rw [hat _ (by simp (disch:=first | (simp;done) | omega) [gA])]
    simp (disch:=first | (simp;done) | omega) [j1,hw,wC,gW]
    rw [hat _ (by simp (disch:=first | (simp;done) | omega) [gA])]
    simp
    exact j3 (by simp) (by simp) rfl
  ·have h1':(t != r.2.2)=false:=by simpa using h1
   simp (disch:=first | (simp;done) | omega) [S257,j1,h0,h1',rdC]
   exact j3 (by simp) (by simp) rfl
 ·simp (disch:=first | (simp;done) | omega) [S257,h0,rdC]
  exact j3 (by simp) (by simp) rfl
theorem j8x (hs:Small g) (hW:Wk g lvl M N A L S P ob ub) {r:Int × Int × Int} {kr ur kw uw:Nat} (hr:ob kr=some ⟨ur,.cells (rdC r)⟩) (hwp:ob kw=some ⟨uw,.cells [.ptr N.kW N.uW 0]⟩) (fr:Off ub kr) (fw:Off ub kw) (q:Int × Int × Int) (tk:Nat→Bool) (base:Nat) :
 EvO E 256 [.agg (rdC q),.ptr kr ur 0,.ptr kw uw 0] ob tk base ub (.bool (decide (q.1<r.1) && jpw g A q.2.2 r)):=by
 refine Jf (af:=S256) rfl ?_
 have gr:=fr.ne
 have gw:=fw.ne
 unfold rdC at hr
 by_cases h0:q.1<r.1
 ·simp (disch:=first | (simp;done) | omega) [S256,j1,hr,hwp,gr,gw,h0,rdC]
  refine Jg (vs:=[.ptr N.kW N.uW 0,.int .i64 q.2.2,.agg (rdC r)]) (by simp [rdC]) rfl rfl (jyt hs (hW.keep (fun key hk _=>by simp (disch:=first | (simp;done) | omega) [hk.ne]) (by first | omega | (simp;omega))) q.2.2 r _ _) ?_
  simp
  exact j3 (by simp) (by simp) rfl
 ·simp (disch:=first | (simp;done) | omega) [S256,j1,hr,gr,h0,rdC]
  exact j3 (by simp) (by simp) rfl
theorem j8y (hW:Wk g lvl M N A L S P ob ub) (r:Int × Int × Int) (tk:Nat→Bool) (base:Nat) :
 EvO E 222 [.ptr N.kW N.uW 0,.agg (rdC r)] ob tk base ub (.bool (((jW L r.2.1).map (·.2)).getD (-1) == r.2.2)):=by
 refine Jf (af:=S222) rfl ?_
 have hw:=hW.w
 have gW:=hW.fw.f.ne
 have gL:=hW.fl.ne
 obtain ⟨ver,hl⟩:=hW.l
 have hlk:=fun (ob':ZO) (h:ob' N.kL=ob N.kL) x=>Wk.in' (lo:=ob') (h.trans hl) x
 simp (disch:=first | (simp;done) | omega) [S222,j1,hw,wC,gW,rdC]
 rw [hlk _ (by simp (disch:=first | (simp;done) | omega) [gL])]
 cases hf:jW L r.2.1 with
 | none =>
  simp (disch:=first | (simp;done) | omega) [j1]
  exact j3 (by simp) (by simp) rfl
 | some p =>
  simp (disch:=first | (simp;done) | omega) [j1,JY,hf]
  exact j3 (by simp) (by simp) rfl
theorem j80 (hs:Small g) (hM:(readH g).length≤1000000) (hW:Wk g lvl M N A L S P ob ub) (t:Int) (r:Int × Int × Int) (tk:Nat→Bool) (base:Nat) :
 EvO E 220 [.ptr N.kW N.uW 0,.int .i64 t,.agg (rdC r)] ob tk base ub (.bool (!((rdsT g M t).any fun q=>decide (q.1<r.1) && jpw g A q.2.2 r))):=by
 refine Jf (af:=S220) rfl ?_
 have hw:=hW.w
 have gW:=hW.fw.f.ne
 have gR:=hW.fr.f.ne
 have hlen:=jq5 g M t
 obtain ⟨v,hlk,hrow⟩:=hW.row t
 simp (disch:=first | (simp;done) | omega) [S220,j1,hw,wC,gW,rdC,jg9,V.cells,two_inj]
 rw [hlk _ (by simp (disch:=first | (simp;done) | omega) [gR])]
 simp (disch:=first | (simp;done) | omega)
 refine Jg (vs:=[v,.fn (.func 256) [] [.ptr (2 * (ub+64)+1) (ub+64) 0,.ptr (2 * ub+1) ub 0]]) (by simp) rfl (by rw [List.all_cons,Bool.and_eq_false_iff];exact .inr rfl) (jyu (p:=fun q=>decide (q.1<r.1) && jpw g A q.2.2 r) (N:=N) rfl (hrow.keep (fun key h=>?_) (by first | omega | (simp;omega))) (by omega) (fun q _ tk base ub' h=>j8x hs (hW.keep (fun key h1 _=>?_) (by first | omega | (simp at h;omega))) (r:=r) ?_ ?_ (fun m hm=>by first | omega | (simp at h;omega)) (fun m hm=>by first | omega | (simp at h;omega)) q tk base) _ _) ?_
 ·simp (disch:=first | (simp;done) | omega) [h.f.ne]
 ·simp (disch:=first | (simp;done) | omega) [h1.ne]
 ·simp [rdC]
 ·simp (disch:=first | (simp;done) | omega) [two_inj]
 ·simp
  exact j3 (by simp) (by simp) rfl
theorem j8z (hs:Small g) (hW:Wk g lvl M N A L S P ob ub) (t:Int) (r:Int × Int × Int) (tk:Nat→Bool) (base:Nat) :
 EvO E 221 [.ptr N.kW N.uW 0,.int .i64 t,.agg (rdC r)] ob tk base ub (.bool ((P t).all fun a=>!jpw g A a r)):=by
 refine Jf (af:=S221) rfl ?_
 have hw:=hW.w
 have gW:=hW.fw.f.ne
 have gP:=hW.fp.ne
 obtain ⟨v,hlk,hin⟩:=hW.past t
 simp (disch:=first | (simp;done) | omega) [S221,j1,hw,wC,gW,rdC]
 rw [hlk _ (by simp (disch:=first | (simp;done) | omega) [gP])]
 simp
 refine jjm (N:=N) (ob0:=ob) (ub0:=ub) (L:=P t) (by simpa using hin) (fun key hk=>by simp (disch:=first | (simp;done) | omega) [hk.f.ne]) (by first | omega | (simp;omega)) rfl fun o left hmem hit=>?_
 simp
 refine JV fun st hst=>?_
 obtain ⟨u14,hu14⟩:∃ u,u=ub+512:=⟨_,rfl⟩
 have g0:st.tm 0 = .ptr N.kW N.uW 0:=by rw [hst];simp
 have g5:st.tm 5 = .ptr (2 * ub+1) ub 0:=by rw [hst];simp
 have g14:st.tm 14 = .iter (2 * u14+1) u14:=by rw [hst,hu14];simp [Nat.add_assoc]
 have gi:ItAt N ub st.ob (2 * u14+1) u14 left none:=by
  have h:=hit st.ob (by rw [hst];simp) fun key hk=>by rw [hst];simp (disch:=first | (simp;done) | omega) [hk.f.ne]
  simp only [Nat.add_assoc,Nat.reduceAdd] at h
  rw [hu14]
  exact h
 have gw:Was ub ob st.ob:=fun key hk=>by rw [hst];simp (disch:=first | (simp;done) | omega) [show ∀ m,ub≤m→¬ key=2 * m+1 from hk]
 have g5o:st.ob (2 * ub+1)=some ⟨ub,.cells (rdC r)⟩:=by rw [hst];simp (disch:=first | (simp;done) | omega) [rdC,two_inj];omega
 have gn:u14<st.nx:=by rw [hst,hu14];simp
 have gd:st.df=[]:=by rw [hst];simp
 have gr:st.ro=ub:=by rw [hst];simp
 clear hst hit
 refine Y3 (n:=left.length) [(6,7),(15,22)] (fun n s=>∃ left last,n=left.length∧ItAt N ub s.ob (2 * u14+1) u14 left last∧(∀ a∈left,a∈P t)∧(∀ a∈P t,a∈left∨jpw g A a r=false)∧Was ub ob s.ob∧s.ob (2 * ub+1)=some ⟨ub,.cells (rdC r)⟩∧u14<s.nx) rfl rfl ⟨left,none,rfl,gi,fun a ha=>(hmem a).1 ha,fun a ha=>.inl ((hmem a).2 ha),gw,g5o,gn⟩ ?_
 clear hmem left gi gw g5o gn
 rintro n s ⟨left,last,rfl,si,hsub,hall,sw,s5o,sn⟩ f
 have s0:s.tm 0 = .ptr N.kW N.uW 0:=by rw [f.t 0 (by simp)];simp [g0]
 have s5:s.tm 5 = .ptr (2 * ub+1) ub 0:=by rw [f.t 5 (by simp)];simp [g5]
 have s14:s.tm 14 = .iter (2 * u14+1) u14:=by rw [f.t 14 (by simp)];simp [g14]
 have sd:s.df=[]:=by rw [f.d];simp [gd]
 have sr:s.ro=ub:=by rw [f.r];simp [gr]
 clear f
 simp
 refine jnc (N:=N) (ub0:=ub) (k:=2 * u14+1) (u:=u14) (left:=left) (last:=last) (by simp [s14]) si (by simp [sr];omega) (fun h=>?_) (fun a key b o v hab hit=>?_)
 ·subst h
  have:((P t).all fun a=>!jpw g A a r)=true:=List.all_eq_true.2 fun a ha=>by
   rcases hall a ha with h | h
   ·cases h
   ·rw [h];rfl
  simp
  exact j3 (by simp [sd]) (by simp [this]) rfl
 ·subst hab
  have hkey:key∈P t:=hsub key (by simp)
  simp
  refine jjo (N:=N) (ub0:=ub) (k:=2 * u14+1) (u:=u14) (left:=a++b) (key:=key) (by simp [s14]) (hit _ (by simp) fun key hk=>by simp [hk]) fun v'=>?_
  have e5:¬ ub=u14:=by omega
  simp (disch:=first | (simp;done) | omega) [s0,s5,j1,rdC,s5o,two_inj,e5]
  refine Jg (vs:=[.ptr N.kW N.uW 0,.int .i64 key,.agg (rdC r)]) (by simp [rdC]) rfl rfl (jyt hs (hW.keep (fun key hk _=>by simp [hk u14 (by omega),sw key hk]) (by first | omega | (simp;omega))) key r _ _) ?_
  cases hb:jpw g A key r
  ·simp
   refine ⟨(a++b).length,by simp,a++b,rfl,⟨some key,hit _ (by simp) (fun key hk=>by simp [hk])⟩,fun x hx=>hsub x (List.mem_append.2 ((List.mem_append.1 hx).imp id (List.mem_cons_of_mem _))),fun x hx=>?_,fun key hk=>by simp [hk u14 (by omega),sw key hk],by simp [two_inj,e5,s5o,rdC],by first | omega | (simp;omega)⟩
   rcases hall x hx with h | h
   ·simp only [List.mem_append,List.mem_cons] at h ⊢
    rcases h with h | rfl | h
    ·exact .inl (.inl h)
    ·exact .inr hb
    ·exact .inl (.inr h)
   ·exact .inr h
  ·have:((P t).all fun a=>!jpw g A a r)=false:=by
    rw [List.all_eq_false]
    exact ⟨key,hkey,by simp [hb]⟩
   simp
   exact j3 (by simp [sd]) (by simp [this]) rfl
theorem j82 (hs:Small g) (hM:(readH g).length≤1000000) (hW:Wk g lvl M N A L S P ob ub) (t:Int) (r:Int × Int × Int) (tk:Nat→Bool) (base:Nat) :
 EvO E 165 [.ptr N.kW N.uW 0,.int .i64 t,.agg (rdC r)] ob tk base ub (.bool (rdB g M lvl A L P t r)):=by
 refine Jf (af:=S165) rfl ?_
 have hw:=hW.w
 have gW:=hW.fw.f.ne
 have gA:=hW.fa.ne
 obtain ⟨ver,ha⟩:=hW.a
 have hlk:=fun (ob':ZO) (h:ob' N.kA=ob N.kA) x=>Wk.in' (lo:=ob') (h.trans ha) x
 have hkeep:∀ (ob':ZO) (nx':Nat),Was ub ob ob'→ub≤nx'→Wk g lvl M N A L S P ob' nx':=fun ob' nx' h h'=>hW.keep (fun key hk _=>h key hk) h'
 simp (disch:=first | (simp;done) | omega) [S165,j1,hw,wC,gW,rdC]
 rw [hlk _ (by simp (disch:=first | (simp;done) | omega) [gA])]
 unfold rdB
 cases hf:(jW A r.2.2).isSome
 ·simp (disch:=first | (simp;done) | omega)
  exact j3 (by simp) (by simp) rfl
 ·simp (disch:=first | (simp;done) | omega) [j1,hw,wC,gW]
  by_cases e1:lvl=1
  ·simp (disch:=first | (simp;done) | omega) [e1,j1]
   refine Jg (vs:=[.ptr N.kW N.uW 0,.int .i64 t,.agg (rdC r)]) (by simp [rdC]) rfl rfl (j80 hs hM (hkeep _ _ (fun key hk=>by simp (disch:=first | (simp;done) | omega) [show ∀ m,ub≤m→¬ key=2 * m+1 from hk]) (by first | omega | (simp;omega))) t r _ _) ?_
   simp
   exact j3 (by simp) (by simp) rfl
  ·have b1:(lvl == 1)=false:=by simpa using e1
   by_cases e2:lvl=2
   ·simp (disch:=first | (simp;done) | omega) [e2,j1]
    refine Jg (vs:=[.ptr N.kW N.uW 0,.int .i64 t,.agg (rdC r)]) (by simp [rdC]) rfl rfl (j8z hs (hkeep _ _ (fun key hk=>by simp (disch:=first | (simp;done) | omega) [show ∀ m,ub≤m→¬ key=2 * m+1 from hk]) (by first | omega | (simp;omega))) t r _ _) ?_
    simp
    exact j3 (by simp) (by simp) rfl
   ·have b2:(lvl == 2)=false:=by simpa using e2
    simp (disch:=first | (simp;done) | omega) [b1,b2,j1]
    refine Jg (vs:=[.ptr N.kW N.uW 0,.agg (rdC r)]) (by simp [rdC]) rfl rfl (j8y (hkeep _ _ (fun key hk=>by simp (disch:=first | (simp;done) | omega) [show ∀ m,ub≤m→¬ key=2 * m+1 from hk]) (by first | omega | (simp;omega))) r _ _) ?_
    simp
    exact j3 (by simp) (by simp [e1,e2]) rfl
theorem j83 (hs:Small g) (hM:(readH g).length≤1000000) (hW:Wk g lvl M N A L S P ob ub) {t:Int} {kw uw kt ut:Nat} (hwp:ob kw=some ⟨uw,.cells [.ptr N.kW N.uW 0]⟩) (htp:ob kt=some ⟨ut,.cells [.int .i64 t]⟩) (fw:Off ub kw) (ft:Off ub kt) (r:Int × Int × Int) (tk:Nat→Bool) (base:Nat) :
 EvO E 164 [.agg (rdC r),.ptr kw uw 0,.ptr kt ut 0] ob tk base ub (.bool (!rdB g M lvl A L P t r)):=by
 refine Jf (af:=S164) rfl ?_
 have gw:=fw.ne
 have gt:=ft.ne
 simp (disch:=first | (simp;done) | omega) [S164,j1,hwp,htp,gw,gt,rdC]
 refine Jg (vs:=[.ptr N.kW N.uW 0,.int .i64 t,.agg (rdC r)]) (by simp [rdC]) rfl rfl (j82 hs hM (hW.keep (fun key hk _=>by simp (disch:=first | (simp;done) | omega) [show ∀ m,ub≤m→¬ key=2 * m+1 from hk]) (by first | omega | (simp;omega))) t r _ _) ?_
 simp
 exact j3 (by simp) (by simp) rfl
end
end Go.Pv.T
namespace Go.Pv
open Go
def Env.other (E:Env) (fs1:FuncId→Option AF) (mn1:FuncId→Bool):Env :=
 { fc:=E.fc,fs:=fs1,sh:=E.sh,fz:=E.fz,tw:=E.tw,gl:=E.gl,srt:=E.srt,mn:=mn1 }
section
variable (E:Env) (fs1:FuncId→Option AF) (mn1:FuncId→Bool)
theorem jbx:eval (E.other fs1 mn1)=eval E:=by funext tm x;cases x <;> rfl
theorem jb6:jB (E.other fs1 mn1)=jB E:=by funext nm ρ op;cases op <;> rfl
theorem jfv:Q3 (E.other fs1 mn1)=Q3 E:=by
 funext call o st ub
 unfold Q3
 rw [jbx,jb6]
 rfl
theorem jos:jgc (E.other fs1 mn1)=jgc E:=by
 funext call ops
 induction ops with
 | nil=>rfl
 | cons o r ih=>funext st ub;simp only [jgc,jfv,ih]
theorem jly:Y0 (E.other fs1 mn1)=Y0 E:=by
 funext call ops
 induction ops with
 | nil=>rfl
 | cons o r ih =>
  funext st ub
  unfold Y0
  rw [jbx,jb6]
  simp only [ih]
  rfl
theorem Qs (call:Y→Callers) (y:Y) (N:Nat):∀ c,jc (E.other fs1 mn1) call y N c=jc E call y N c:=by
 intro c
 induction c <;> funext st <;> simp only [jc,jos,jly,jfv,jbx, *]
end
theorem Jy {E:Env} {fs1:FuncId→Option AF} {mn1:FuncId→Bool} (hf:∀ f af,E.fs f=some af→fs1 f=some af) (hm:∀ f,E.mn f=false) :
 ∀ n,FLe (jQ E n) (jQ (E.other fs1 mn1) n)
 | 0=>fun y y' hy=>⟨fun _ _ _ h=>(by cases h),fun _ _ _ _ _ _ _ h=>(by cases h),fun _ _ _ _ _ _ _ _ h=>(by cases h),hy⟩
 | n+1=>by
  intro y y' hy
  have hc:=jd (E:=E) (Jy (mn1:=mn1) hf hm n) (Nat.le_refl n)
  refine ⟨fun f a=>?_,fun f a ob tk b u=>?_,fun f a ob tk ro b u=>?_,hy⟩
  ·simp only [jQ,Qs]
   exact (le.rfl' (E.fc f)).bind fun af=>jan (hc _ _ _ (YLe.refl _) _)
  ·simp only [jQ,Qs]
   by_cases hz:E.fz f
   ·have hz':(E.other fs1 mn1).fz f=true:=hz
    simp only [hz,hz',if_true]
    refine (le.rfl' _).bind fun a'=>?_
    exact ((Jy (mn1:=mn1) hf hm n _ _ (YLe.refl _)).d f a').bind fun r=>le.rfl' _
   ·have hz':¬ (E.other fs1 mn1).fz f=true:=hz
    simp only [hz,hz',Bool.false_eq_true,if_false]
    refine (show le (E.fs f) (fs1 f) from fun af h=>hf f af h).bind fun af=>jan (hc _ _ _ (YLe.refl _) _)
  ·simp only [jQ,Qs]
   by_cases hz:E.tw f
   ·have hz':(E.other fs1 mn1).tw f=true:=hz
    simp only [hz,hz',if_true]
    refine (le.rfl' _).bind fun a'=>?_
    exact ((Jy (mn1:=mn1) hf hm n _ _ (YLe.refl _)).d f a').bind fun r=>le.rfl' _
   have hz':¬ (E.other fs1 mn1).tw f=true:=hz
   simp only [hz,hz',Bool.false_eq_true,if_false]
   by_cases hs:E.srt f
   ·have hs':(E.other fs1 mn1).srt f=true:=hs
    simp only [hs,hs',if_true]
    exact le.rfl' _
   have hs':¬ (E.other fs1 mn1).srt f=true:=hs
   simp only [hs,hs',Bool.false_eq_true,if_false]
   refine (show le (E.fs f) (fs1 f) from fun af h=>hf f af h).bind fun af=>?_
   intro r hr
   rw [hm f] at hr
   obtain ⟨l,hl,hr⟩:=Option.bind_eq_some_iff.1 hr
   rw [hc _ _ _ hy _ l hl,Option.bind_some]
   have h1:∃ x q,l=[x]∧endS af.res x=some q∧r=[q]:=by
    match l,hr with
    | [x],hr =>
     simp only [Bool.false_eq_true,if_false,Option.map_eq_some_iff] at hr
     obtain ⟨q,hq,rfl⟩:=hr
     exact ⟨x,q,rfl,hq,rfl⟩
    | [],hr=>simp at hr
    | _::_::_,hr=>simp at hr
   obtain ⟨x,q,rfl,hq,rfl⟩:=h1
   show (if mn1 f=true then _ else _)=_
   by_cases h1:mn1 f=true
   ·simp [h1,hq]
   ·simp [h1,hq]
section
variable {E:Env} {fs1:FuncId→Option AF} {mn1:FuncId→Bool} (hf:∀ f af,E.fs f=some af→fs1 f=some af) (hm:∀ f,E.mn f=false)
include hf hm
theorem Ev.other {f:FuncId} {args:List V} {r:V} (h:Ev E f args r):Ev (E.other fs1 mn1) f args r:=by
 obtain ⟨n,h⟩:=h
 exact ⟨n,(Jy hf hm n _ _ (YLe.refl _)).d _ _ _ h⟩
theorem EvO.other {f:FuncId} {args:List V} {ob:ZO} {tk:Nat→Bool} {base ub:Nat} {r:V} (h:EvO E f args ob tk base ub r):EvO (E.other fs1 mn1) f args ob tk base ub r:=by
 obtain ⟨n,h⟩:=h
 exact ⟨n,(Jy hf hm n _ _ (YLe.refl _)).o _ _ _ _ _ _ _ h⟩
theorem EvS.other {y:Nat→Y} {f:FuncId} {args:List V} {ob:ZO} {tk:Nat→Bool} {ro base ub:Nat} {r:V × (ZO) × (Nat→Bool) × Nat} (h:EvS E y f args ob tk ro base ub r):EvS (E.other fs1 mn1) y f args ob tk ro base ub r:=by
 obtain ⟨n,h⟩:=h
 exact ⟨n,(Jy hf hm n _ _ (YLe.refl _)).s _ _ _ _ _ _ _ _ h⟩
end
theorem EvSL.imp {E:Env} {y:Nat→Y} {f:FuncId} {args:List V} {ob:ZO} {tk:Nat→Bool} {ro base ub:Nat} {P Q:V × (ZO) × (Nat→Bool) × Nat→Prop} (h:EvSL E y f args ob tk ro base ub P) (hpq:∀ r,P r→Q r):EvSL E y f args ob tk ro base ub Q:=by
 obtain ⟨n,l,h1,h2,h3⟩:=h
 exact ⟨n,l,h1,h2,fun r hr=>hpq r (h3 r hr)⟩
end Go.Pv
namespace Go.Pv.T
open Go Go.Pv
end Go.Pv.T
namespace Go.Pv.T
open Go Go.Pv
structure Mtx (ob:ZO) (lo hi kP uP n:Nat) (rows:List (Nat × Nat)) (f:Nat→Nat→Bool):Prop where
 p:ob kP=some ⟨uP,.cells (rows.map (j3d n)++List.replicate (n - rows.length) (.sl none true 0 []))⟩
 c:∀ b (h:b<rows.length),ob (rows[b]).1=some ⟨(rows[b]).2,.cells ((List.range n).map fun t=>V.bool (f b t))⟩
 k:kP=2 * uP+1∧lo≤uP∧uP<hi
 r:∀ b (h:b<rows.length),(rows[b]).1=2 * (rows[b]).2+1∧uP<(rows[b]).2∧(rows[b]).2<hi
 d:∀ b b' (h:b<rows.length) (h':b'<rows.length),(rows[b]).2=(rows[b']).2→b=b'
theorem Mtx.hi {ob:ZO} {lo hi kP uP n:Nat} {rows:List (Nat × Nat)} {f:Nat→Nat→Bool} (h:Mtx ob lo hi kP uP n rows f) {ob':ZO} {hi':Nat} (hu:hi≤hi') (hP:ob' kP=ob kP) (hr:∀ b (hb:b<rows.length),ob' (rows[b]).1=ob (rows[b]).1):Mtx ob' lo hi' kP uP n rows f :=
 ⟨hP.trans h.p,fun b hb=>(hr b hb).trans (h.c b hb),⟨h.k.1,h.k.2.1,by have:=h.k.2.2;omega⟩,fun b hb=>⟨(h.r b hb).1,(h.r b hb).2.1,by have:=(h.r b hb).2.2;omega⟩,h.d⟩
theorem Mtx.offP {ob:ZO} {lo hi kP uP n:Nat} {rows:List (Nat × Nat)} {f:Nat→Nat→Bool} (h:Mtx ob lo hi kP uP n rows f):Off hi kP:=fun m hm=>by
 have:=h.k
 omega
theorem Mtx.offR {ob:ZO} {lo hi kP uP n:Nat} {rows:List (Nat × Nat)} {f:Nat→Nat→Bool} (h:Mtx ob lo hi kP uP n rows f) {b:Nat} (hb:b<rows.length):Off hi (rows[b]).1:=fun m hm=>by
 have:=h.r b hb
 omega
theorem Mtx.keep {ob:ZO} {lo hi kP uP n:Nat} {rows:List (Nat × Nat)} {f:Nat→Nat→Bool} (h:Mtx ob lo hi kP uP n rows f) {ob':ZO} {hi':Nat} (hu:hi≤hi') (hW:Was hi ob ob'):Mtx ob' lo hi' kP uP n rows f :=
 h.hi hu (hW _ h.offP) fun _ hb=>hW _ (h.offR hb)
theorem Mtx.congr {ob:ZO} {lo hi kP uP n:Nat} {rows:List (Nat × Nat)} {f f':Nat→Nat→Bool} (h:Mtx ob lo hi kP uP n rows f) (e:∀ b a,b<rows.length→a<n→f b a=f' b a):Mtx ob lo hi kP uP n rows f' :=
 ⟨h.p,fun b hb=>by
  rw [h.c b hb]
  congr 3
  refine List.map_congr_left fun a ha=>?_
  rw [e b a hb (List.mem_range.1 ha)],h.k,h.r,h.d⟩
theorem jn9 (n t:Nat) (F:Nat→V) (x:V) (h:t<n):j7 ((List.range n).map F) t [x]=(List.range n).map fun a=>if a=t then x else F a:=by
 unfold j7
 refine List.ext_getElem (by simp;omega) fun i h1 h2=>?_
 simp only [List.length_cons,List.length_nil,List.getElem_append,List.getElem_map,List.getElem_range,List.length_append,List.length_take,List.length_map,List.length_range,List.getElem_take,List.getElem_drop]
 rcases Nat.lt_trichotomy i t with hi | hi | hi
 ·rw [dif_pos (by omega),dif_pos (by omega),if_neg (by omega)]
 ·subst hi
  rw [dif_pos (by omega),dif_neg (by omega),if_pos rfl]
  simp
 ·rw [dif_neg (by omega),if_neg (by omega)]
  congr 1
  omega
theorem Mtx.set {ob:ZO} {lo hi kP uP n:Nat} {rows:List (Nat × Nat)} {f:Nat→Nat→Bool} (h:Mtx ob lo hi kP uP n rows f) {b t:Nat} {x:Bool} (hb:b<rows.length) (ht:t<n) {ob':ZO} {hi':Nat} (hu:hi≤hi')
 (h1:ob' (rows[b]).1=some ⟨(rows[b]).2,.cells (j7 ((List.range n).map fun t=>V.bool (f b t)) t [.bool x])⟩) (h2:∀ key,Off hi key→key≠(rows[b]).1→ob' key=ob key):Mtx ob' lo hi' kP uP n rows fun b' a=>if b'=b∧a=t then x else f b' a:=by
 have hk:=h.k
 have hrb:=h.r b hb
 refine ⟨(h2 _ h.offP (by omega)).trans h.p,fun b' hb'=>?_,⟨hk.1,hk.2.1,by omega⟩,fun b' hb'=>⟨(h.r b' hb').1,(h.r b' hb').2.1,by have:=(h.r b' hb').2.2;omega⟩,h.d⟩
 by_cases e:b'=b
 ·subst e
  rw [h1,jn9 n t _ _ ht]
  congr 3
  refine List.map_congr_left fun a _=>?_
  by_cases e2:a=t <;> simp [e2]
 ·have hne:(rows[b']).1≠(rows[b]).1:=fun e'=>e (h.d b' b hb' hb (by have:=h.r b' hb';omega))
  rw [h2 _ (h.offR hb') hne,h.c b' hb']
  simp [e]
theorem Mtx.row {ob:ZO} {lo hi kP uP n:Nat} {rows:List (Nat × Nat)} (h:Mtx ob lo hi kP uP n rows fun _ _=>false) (hn:rows.length<n) {ob':ZO} {u hi':Nat} (h0:hi≤u) (hu:u<hi')
 (hP:ob' kP=some ⟨uP,.cells (j7 (rows.map (j3d n)++List.replicate (n - rows.length) (.sl none true 0 [])) rows.length [j3d n (2 * u+1,u)])⟩) (h1:ob' (2 * u+1)=some ⟨u,.cells (jaf n [.bool false])⟩) (h2:∀ key,Off hi key→key≠kP→ob' key=ob key) :
 Mtx ob' lo hi' kP uP n (rows++[(2 * u+1,u)]) fun _ _=>false:=by
 have hk:=h.k
 refine ⟨?_,fun b hb=>?_,⟨hk.1,hk.2.1,by omega⟩,fun b hb=>?_,fun b b' hb hb' e=>?_⟩
 ·rw [hP]
  congr 3
  unfold j7
  rw [List.take_left' (by simp),List.drop_append,show n - rows.length=n - (rows++[(2 * u+1,u)]).length+1 by simp;omega,List.replicate_succ]
  simp
 ·rcases Nat.lt_or_ge b rows.length with hlt | hge
  ·rw [List.getElem_append_left hlt]
   have:=h.r b hlt
   rw [h2 _ (h.offR hlt) (by omega),h.c b hlt]
  ·have:b=rows.length:=by simp at hb;omega
   subst this
   rw [List.getElem_concat_length rfl]
   simp only
   rw [h1,jbf]
   congr 3
   refine List.ext_getElem (by simp) fun i _ _=>by simp
 ·rcases Nat.lt_or_ge b rows.length with hlt | hge
  ·rw [List.getElem_append_left hlt]
   have:=h.r b hlt
   omega
  ·have:b=rows.length:=by simp at hb;omega
   subst this
   rw [List.getElem_concat_length rfl]
   simp only
   exact ⟨trivial,by omega,hu⟩
 ·rcases Nat.lt_or_ge b rows.length with hlt | hge
  ·rcases Nat.lt_or_ge b' rows.length with hlt' | hge'
   ·rw [List.getElem_append_left hlt,List.getElem_append_left hlt'] at e
    exact h.d b b' hlt hlt' e
   ·have:b'=rows.length:=by simp at hb';omega
    subst this
    rw [List.getElem_append_left hlt,List.getElem_concat_length rfl] at e
    have:=h.r b hlt
    simp only at e
    omega
  ·have hbe:b=rows.length:=by simp at hb;omega
   subst hbe
   rcases Nat.lt_or_ge b' rows.length with hlt' | hge'
   ·rw [List.getElem_append_left hlt',List.getElem_concat_length rfl] at e
    have:=h.r b' hlt'
    simp only at e
    omega
   ·simp at hb';omega
/-! What goes before,by loops. -/
def jC (g:Hist') (lvl:Int) (M:List Int) (N:JN) (v:V):List V:=[.int .i64 lvl,jI g.sn JJ g.ss,jI g.kn JJ g.ks,jI g.tn ji g.ts,.sl N.tr N.nr (readH g).length ((readH g).flatMap jG),jI N.nm intC M,.map N.kA N.uA,v]
structure CI (g:Hist') (lvl:Int) (M:List Int) (N:JN) (ob0:ZO) (ub kP uP:Nat) (rows:List (Nat × Nat)) (f:Nat→Nat→Bool) (ob:ZO) (nx:Nat):Prop where
 m:Mtx ob ub nx kP uP g.ts.length rows f
 j:ob N.kJ=some ⟨N.uJ,.cells (jC g lvl M N (.osl kP uP 0 g.ts.length 1))⟩
 w:∀ key,Off ub key→key≠N.kJ→ob key=ob0 key
 fj:Off ub N.kJ
section
variable {g:Hist'} {lvl:Int} {M:List Int} {N:JN} {ob0:ZO} {ub kP uP:Nat} {rows:List (Nat × Nat)} {f:Nat→Nat→Bool} {ob ob':ZO} {nx nx':Nat}
theorem CI.le (h:CI g lvl M N ob0 ub kP uP rows f ob nx):ub<nx:=by
 have:=h.m.k
 omega
theorem CI.keep (h:CI g lvl M N ob0 ub kP uP rows f ob nx) (hu:nx≤nx') (hW:Was nx ob ob'):CI g lvl M N ob0 ub kP uP rows f ob' nx' :=
 have hl:=h.le
 ⟨h.m.keep hu hW,(hW _ (h.fj.up (by omega))).trans h.j,fun key hk hne=>(hW _ (hk.up (by omega))).trans (h.w key hk hne),h.fj⟩
theorem CI.congr {f':Nat→Nat→Bool} (h:CI g lvl M N ob0 ub kP uP rows f ob nx) (e:∀ b a,b<rows.length→a<g.ts.length→f b a=f' b a):CI g lvl M N ob0 ub kP uP rows f' ob nx :=
 ⟨h.m.congr e,h.j,h.w,h.fj⟩
theorem CI.set (h:CI g lvl M N ob0 ub kP uP rows f ob nx) {b t:Nat} {x:Bool} (hb:b<rows.length) (ht:t<g.ts.length) (hu:nx≤nx')
 (h1:ob' (rows[b]).1=some ⟨(rows[b]).2,.cells (j7 ((List.range g.ts.length).map fun t=>V.bool (f b t)) t [.bool x])⟩) (h2:∀ key,Off nx key→key≠(rows[b]).1→ob' key=ob key):CI g lvl M N ob0 ub kP uP rows (fun b' a=>if b'=b∧a=t then x else f b' a) ob' nx':=by
 have hl:=h.le
 have hk:=h.m.k
 have hr:=h.m.r b hb
 have hne:∀ key,Off ub key→key≠(rows[b]).1:=fun key hk e=>hk (rows[b]).2 (by omega) (by omega)
 exact ⟨h.m.set hb ht hu h1 h2,(h2 _ (h.fj.up (by omega)) (hne _ h.fj)).trans h.j,fun key hk hn=>(h2 _ (hk.up (by omega)) (hne _ hk)).trans (h.w key hk hn),h.fj⟩
theorem CI.row (h:CI g lvl M N ob0 ub kP uP rows (fun _ _=>false) ob nx) (hn:rows.length<g.ts.length) {u:Nat} (h0:nx≤u) (hu:u<nx')
 (hP:ob' kP=some ⟨uP,.cells (j7 (rows.map (j3d g.ts.length)++List.replicate (g.ts.length - rows.length) (.sl none true 0 [])) rows.length [j3d g.ts.length (2 * u+1,u)])⟩) (h1:ob' (2 * u+1)=some ⟨u,.cells (jaf g.ts.length [.bool false])⟩) (h2:∀ key,Off nx key→key≠kP→ob' key=ob key) :
 CI g lvl M N ob0 ub kP uP (rows++[(2 * u+1,u)]) (fun _ _=>false) ob' nx':=by
 have hl:=h.le
 have hk:=h.m.k
 have hne:∀ key,Off ub key→key≠kP:=fun key hk' e=>hk' uP (by omega) (by omega)
 exact ⟨h.m.row hn h0 hu hP h1 h2,(h2 _ (h.fj.up (by omega)) (hne _ h.fj)).trans h.j,fun key hk' hn'=>(h2 _ (hk'.up (by omega)) (hne _ hk')).trans (h.w key hk' hn'),h.fj⟩
end
theorem idx1 {l u n x:Nat} {kk:IntKind} (hx:x<n):JL 1 (.osl l u 0 n 1) (.int kk (x:Int))=some (.ptr l u x):=idxN rfl hx
theorem jqp {g:Hist'} {t:Nat} (htl:t<g.ts.length):(g.ts.flatMap ji)[t * 3]? = some (.int .i64 (jv g t)):=by
 have:=jb j8 g.ts htl (by decide:0<3)
 rw [Nat.add_zero] at this
 rw [this]
 simp [ji,jv,htl]
def Old (ob:ZO) (ub:Nat) (ob':ZO):Prop:=∀ k,(∀ m,ub≤m→k≠2 * m+1)→ob' k=ob k
def NewAt (ub:Nat) (l:List Int) (v:V) (ob':ZO) (ub':Nat):Prop:=∃ m,ub≤m∧m<ub'∧v = .osl (2 * m+1) m 0 l.length 1∧ob' (2 * m+1)=some ⟨m,.cells (l.flatMap intC)⟩
theorem jhp {E:Env} {Yf:YF} {st:St} {ub:Nat} {K:St→Nat→Prop} {d:Option Nat} {nm o:Bool} {sz bytes l u off n z:Nat} {cs:List V} {s x:A} (hs:eval E st.tm s = .osl l u off n z) (hx:jM st.ob sz (eval E st.tm x)=some []) (ho:st.ob l=some ⟨u,.cells cs⟩)
 (h:QC K st d ub (.osl l u off n z)):j9 E Yf ⟨d,.append o sz bytes s x,none,nm⟩ st ub K:=by
 have hoc:j1 st.ob l u=some cs:=by simp [j1,ho]
 rw [jS _ rfl rfl]
 simp only [aop,hs,hx,hoc,Option.bind_some,if_true,WF,Q1]
 exact h
@[simp] theorem eqVV_sl (ob:ZO) (neg nl:Bool) (t t':Option (Nat × Nat)) (n:Nat) (cs:List V):jxn ob neg .sl (.sl t nl n cs) (.sl t' true 0 [])=some (.bool (xor neg nl)):=rfl
def CopyP (ob:ZO) (tk:Nat→Bool) (ub:Nat) (l:List Int) (r:V × (ZO) × (Nat→Bool) × Nat):Prop:=NewAt ub l r.1 r.2.1 r.2.2.2∧Old ob ub r.2.1∧r.2.2.1=tk∧ub≤r.2.2.2
theorem sv68 {Yf:YF} (l:List Int) (hl:l.length≤1000000000) {ob:ZO} {tk:Nat→Bool} {ro base ub:Nat} (hro:ro≤ub):∃ r,EvS E Yf.y 68 [jI false intC l] ob tk ro base ub r∧CopyP ob tk ub l r:=by
 refine Qb (af:=S68) rfl (by decide) ?_
 show wpC E Yf S68.body _ (WU S68.res _)
 simp [S68,jI]
 refine YQ (cs:=[]) rfl rfl rfl ?_
 simp
 by_cases hn:l=[]
 ·subst hn
  refine jhp (l:=2 * (ub+192)+1) (u:=ub+192) (off:=0) (n:=0) (z:=1) (cs:=[]) (by simp) (by simp [jM]) (by simp) ?_
  simp
  refine Wc (by simp) ⟨⟨ub+192,by omega,by simp;try omega,by simp,by simp⟩,fun k hk=>?_,by simp [jo],by simp;try omega⟩
  have:=hk (ub+192) (by omega)
  simp [this]
 ·have hne:l.flatMap intC≠[]:=fun e=>hn (by have:=congrArg List.length e;rw [jA jF] at this;exact List.length_eq_zero_iff.1 (by simpa using this))
  have hd:(l.flatMap intC).length / 1=l.length:=by rw [jA jF];simp
  refine QE (l:=2 * (ub+192)+1) (u:=ub+192) (n:=0) (cs:=[]) (ys:=l.flatMap intC) (by simp) (by simp [jM,jA jF]) (by simp) hne (by simp;omega) (by simp) (by decide) (by simp [intC]) (by rw [hd];omega) (by rw [hd];omega) ?_
  rw [hd]
  simp
  refine Wc (by simp) ⟨⟨ub+320,by omega,by simp;try omega,by simp,by simp⟩,fun k hk=>?_,by simp [j2u],by simp;try omega⟩
  have h1:=hk (ub+192) (by omega)
  have h2:=hk (ub+320) (by omega)
  simp [h1,h2]
theorem sv68n {Yf:YF} {ob:ZO} {tk:Nat→Bool} {ro base ub:Nat}:∃ r,EvS E Yf.y 68 [.sl none true 0 []] ob tk ro base ub r∧r.1 = .sl none true 0 []∧r.2.1=ob∧r.2.2.1=tk∧ub≤r.2.2.2:=by
 refine Qb (af:=S68) rfl (by decide) ?_
 show wpC E Yf S68.body _ (WU S68.res _)
 simp [S68]
 exact Wc (by simp) ⟨by simp,by simp,by simp,by simp;omega⟩
theorem evo70 {S C:List Int} {l u:Nat} {t:Option (Nat × Nat)} {nl:Bool} {ob:ZO} {ub:Nat} (ho:ob l=some ⟨u,.cells (S.flatMap intC)⟩) (_:Off ub l) (_:S.length≤1000000000) (hC:C.length≤1000000000) (tk:Nat→Bool) (base:Nat) :
 EvO E 70 [.osl l u 0 S.length 1,.sl t nl C.length (C.flatMap intC)] ob tk base ub (.bool (S == C)):=by
 refine Jf (af:=S70) rfl ?_
 by_cases hn:S.length=C.length
 ·simp [S70,hn]
  refine JV fun st hst=>?_
  have g0:st.tm 0 = .osl l u 0 C.length 1:=by rw [hst];simp
  have g1:st.tm 1 = .sl t nl C.length (C.flatMap intC):=by rw [hst];simp
  have g12:st.tm 12 = .int .i64 C.length:=by rw [hst];simp
  have g13:st.tm 13 = .int .i64 0:=by rw [hst];simp
  have gd:st.df=[]:=by rw [hst];simp
  have go:st.ob l=some ⟨u,.cells (S.flatMap intC)⟩:=by rw [hst];simpa using ho
  clear hst
  refine jE [(4,5),(13,25)] C.length (fun i x=>x.tm 13 = .int .i64 i∧(∀ k,k<i→S[k]? = C[k]?)∧x.ob l=some ⟨u,.cells (S.flatMap intC)⟩) rfl rfl ⟨by simpa using g13,fun k h=>by omega,go⟩ ?_
  rintro i x hi ⟨x13,hall,xo⟩ f
  have x0:x.tm 0 = .osl l u 0 C.length 1:=by rw [f.t 0 (by simp)];simp [g0]
  have x1:x.tm 1 = .sl t nl C.length (C.flatMap intC):=by rw [f.t 1 (by simp)];simp [g1]
  have x12:x.tm 12 = .int .i64 C.length:=by rw [f.t 12 (by simp)];simp [g12]
  have xd:x.df=[]:=by rw [f.d];simp [gd]
  clear f
  by_cases hlt:i<C.length
  ·have hwk:=jz hlt (by omega)
   have h1:=Jh S (i:=i) (by omega)
   have h2:=Jh C hlt
   have hi1:=idx1 (l:=l) (u:=u) (kk:=.i64) hlt
   have hi2:=Y1 jF t nl C .i64 hlt
   rw [Nat.mul_one] at hi2
   by_cases e:S[i]=C[i]
   ·simp [x13,x12,x0,x1,hlt,hi1,hi2,j1,xo,h1,h2,e,hwk]
    intro k hk
    rcases Nat.lt_succ_iff_lt_or_eq.1 hk with h | h
    ·exact hall k h
    ·subst h;simp [hlt,show k<S.length by omega,e]
   ·have hne:(S == C)=false:=by
     rw [beq_eq_false_iff_ne]
     intro h
     subst h
     exact e rfl
    have e':(S[i] != C[i])=true:=by simpa using e
    simp [x13,x12,x0,x1,hlt,hi1,hi2,j1,xo,h1,h2,e']
    exact j3 (by simp [xd]) (by simp [hne]) rfl
  ·have:i=C.length:=by omega
   subst this
   have he:S=C:=List.ext_getElem? fun k=>by
    rcases Nat.lt_or_ge k C.length with h | h
    ·exact hall k h
    ·rw [List.getElem?_eq_none (by omega),List.getElem?_eq_none h]
   simp [x13,x12]
   exact j3 (by simp [xd]) (by simp [he]) rfl
 ·have hne:(S == C)=false:=by
   rw [beq_eq_false_iff_ne]
   intro h
   subst h
   exact hn rfl
  have hn':((S.length:Int) != (C.length:Int))=true:=by simp;omega
  simp [S70,hn']
  exact j3 (by simp) (by simp [hne]) rfl
theorem ev70 {nl:Bool} {n:Nat} {cs:List V}:Ev E 70 [.sl none true 0 [],.sl none nl n cs] (.bool (n == 0)):=by
 refine jT (af:=F70) rfl ?_
 by_cases hn:n=0
 ·subst hn
  simp [F70]
  refine JV fun st hst=>?_
  have g12:st.tm 12 = .int .i64 (0:Nat):=by rw [hst];simp
  have g13:st.tm 13 = .int .i64 0:=by rw [hst];simp
  have gd:st.df=[]:=by rw [hst];simp
  clear hst
  refine jE [(4,5),(13,25)] 0 (fun i x=>x.tm 13 = .int .i64 i) rfl rfl (by simpa using g13) ?_
  rintro i x hi x13 f
  have x12:x.tm 12 = .int .i64 (0:Nat):=by rw [f.t 12 (by simp)];simp [g12]
  have xd:x.df=[]:=by rw [f.d];simp [gd]
  have:i=0:=by omega
  subst this
  simp [x13,x12]
  exact j3 (by simp [xd]) (by simp) rfl
 ·have h0:((0:Int) != (n:Int))=true:=by simp;omega
  simp [F70,h0]
  exact j3 rfl (by simp [hn]) rfl
theorem js6 {α:Type} {f:α→V} {x y z:A} {l u ver:Nat} {k:Int} {a:α} {st:St} {ub:Nat} {K:List FP→St→Prop} {d:Option Nat} {nm:Bool} {r:List AOpr} (m:List (Int × α)) (hm:eval E st.tm x = .map l u) (hk:eval E st.tm y = .int .i64 k) (hv:(eval E st.tm z).strip=f a)
 (ho:st.ob l=some ⟨u,.mp ver (MP f m)⟩) (hro:st.ro≤u) (h:Wq E r K (eval E st.tm) (.mapSet .int x y z) st d ub { v:=jx,obs:=[(l,⟨u,.mp (ver+1) (MP f (mset m k a))⟩)] }):jJ E (⟨d,.mapSet .int x y z,none,nm⟩::r) st ub K:=by
 have hob:je st.ob l u=some (MP f m):=by simp [je,ho]
 have hver:J7 st.ob l=ver:=by simp [J7,ho]
 rw [Ja rfl]
 simp only [aop,hm,hk,jaw,if_true,hob,Option.bind_some,W9,hver,hv]
 rw [if_pos (by simpa using hro)]
 unfold mset at h
 cases hf:jW m k with
 | none =>
  rw [hf] at h
  simp only [Option.map_none,jN]
  simpa [MP] using h
 | some p =>
  rw [hf] at h
  simp only [Option.map_some,jN]
  have e:(MP f m).set p.1 (V.int .i64 k,f a)=MP f (m.set p.1 (k,a)):=by simp [MP,List.map_set]
  rw [e]
  exact h
def jjv (g:Hist') (lvl:Int) (M O:List Int):Bool:=jto g lvl M O == 0 && jth g lvl M O
theorem err0 {g:Hist'} {lvl:Int} {M O:List Int} (h:jto g lvl M O=0):jw g=true∧1≤lvl∧lvl≤3∧jce g M=true∧J5 g O=true:=by
 unfold jto at h
 cases h1:jw g
 ·simp [h1] at h
 ·cases h2:jce g M
  ·simp [h1,h2] at h
  ·cases h3:J5 g O
   ·simp [h1,h2,h3] at h
   ·simp [h1,h2,h3] at h
    exact ⟨rfl,by omega,by omega,rfl,rfl⟩
end Go.Pv.T
namespace Go.Pv.T
open Go Go.Pv
end Go.Pv.T
namespace Go.Pv.T
open Go Go.Pv
end Go.Pv.T
namespace Go.Pv.T
open Go Go.Pv
end Go.Pv.T
namespace Go.Pv.T
open Go Go.Pv
section
variable {F:Env} {Yf:YF} {st:St} {ub:Nat} {K:St→Nat→Prop} {d:Option Nat} {nm:Bool}
theorem jjp {q:A} {xs:List A} {f:FuncId} {first captured vs:List V} {P:V × (ZO) × (Nat→Bool) × Nat→Prop} (hq:eval F st.tm q = .fn (.func f) first captured) (hx:first++xs.map (eval F st.tm)++captured=vs) (hs:F.sh nm f=true)
 (he:EvSL F Yf.y f vs st.ob st.tk st.ro ((st.fb+d.getD 0+1) * 1024) ub P) (h:∀ v ob' tk' ub',P (v,ob',tk',ub')→K (joi st d v ob' tk') ub'):j9 F Yf ⟨d,.callV q xs,none,nm⟩ st ub K:=by
 have hsh:jB F nm (eval F st.tm) (.callV q xs)=some (f,vs):=by simp only [jB,hq,hs,hx,Bool.not_true,Bool.false_and,Bool.false_eq_true,if_false]
 simp only [j9,wanted,jg,hq,hsh]
 exact .inl ⟨hs,he.imp fun r hr=>h r.1 r.2.1 r.2.2.1 r.2.2.2 hr⟩
theorem jeo {f:FuncId} {xs:List A} {vs:List V} {P:V × (ZO) × (Nat→Bool) × Nat→Prop} (hx:xs.map (eval F st.tm)=vs) (hs:F.sh nm f=true)
 (he:EvSL F Yf.y f vs st.ob st.tk st.ro ((st.fb+d.getD 0+1) * 1024) ub P) (h:∀ v ob' tk' ub',P (v,ob',tk',ub')→K (joi st d v ob' tk') ub'):j9 F Yf ⟨d,.call f xs,none,nm⟩ st ub K :=
 jwo hx hs (he.imp fun r hr=>h r.1 r.2.1 r.2.2.1 r.2.2.2 hr)
end
theorem QF {F:Env} {α:Type} {f:α→V} {x y z:A} {l u ver:Nat} {k:Int} {a:α} {st:St} {ub:Nat} {K:List FP→St→Prop} {d:Option Nat} {nm:Bool} {r:List AOpr} (m:List (Int × α)) (hm:eval F st.tm x = .map l u) (hk:eval F st.tm y = .int .i64 k) (hv:(eval F st.tm z).strip=f a)
 (ho:st.ob l=some ⟨u,.mp ver (MP f m)⟩) (hro:st.ro≤u) (h:Wq F r K (eval F st.tm) (.mapSet .int x y z) st d ub { v:=jx,obs:=[(l,⟨u,.mp (ver+1) (MP f (mset m k a))⟩)] }):jJ F (⟨d,.mapSet .int x y z,none,nm⟩::r) st ub K:=by
 have hob:je st.ob l u=some (MP f m):=by simp [je,ho]
 have hver:J7 st.ob l=ver:=by simp [J7,ho]
 rw [Ja rfl]
 simp only [aop,hm,hk,jaw,if_true,hob,Option.bind_some,W9,hver,hv]
 rw [if_pos (by simpa using hro)]
 unfold mset at h
 cases hf:jW m k with
 | none =>
  rw [hf] at h
  simp only [Option.map_none,jN]
  simpa [MP] using h
 | some p =>
  rw [hf] at h
  simp only [Option.map_some,jN]
  have e:(MP f m).set p.1 (V.int .i64 k,f a)=MP f (m.set p.1 (k,a)):=by simp [MP,List.map_set]
  rw [e]
  exact h
section
variable {g:Hist'} {lvl:Int} {M:List Int} {N:WN} {A L S:List (Int × Int)} {P:Int→List Int} {ob:ZO} {ub:Nat}
theorem jc1 {α:Type} {m:List (Int × α)} {k x:Int} {a:α}:x∈(mset m k a).map (·.1) ↔ x∈m.map (·.1)∨x=k:=by rw [jef];exact jjf
theorem Wk.setP (h:Wk g lvl M N A L S P ob ub) {mp:List (Int × Nat × Nat)} (p2:∀ x,InM N ob ub (((jW mp x).map fun p=>jo2 p.2).getD .nilmap) (P x)) {t:Int} {ob':ZO} {ub' ver' uM vm:Nat} {m:List (Int × Int)} {K:List Int} (hu:ub≤ub') (hu1:ub≤uM) (hu2:uM<ub')
 (hk:∀ key,Off ub key→key % 2=1→key≠N.kP→ob' key=ob key) (hP:ob' N.kP=some ⟨N.uP,.mp ver' (MP jo2 (mset mp t (2 * uM+1,uM)))⟩) (hM:ob' (2 * uM+1)=some ⟨uM,.mp vm (MP intV m)⟩) (hK:∀ x,x∈m.map (·.1) ↔ x∈K) :
 Wk g lvl M N A L S (fun x=>if x=t then K else P x) ob' ub':=by
 have hf:∀ key,Fix N ub key→ob' key=ob key:=fun key h=>hk key h.f h.o h.p
 obtain ⟨o1,o2,o3,o4⟩:=h.odd
 obtain ⟨n1,n2,n3,n4,n5,n6⟩:=h.ne
 obtain ⟨rv,mr,r1,r2⟩:=h.r
 obtain ⟨av,a1⟩:=h.a
 obtain ⟨lv,l1⟩:=h.l
 obtain ⟨sv,s1⟩:=h.s
 refine ⟨(hf _ h.fw).trans h.w,⟨rv,mr,(hf _ h.fr).trans r1,fun t=>(r2 t).keep hf hu⟩,⟨av,(hk _ h.fa o1 n3).trans a1⟩,⟨lv,(hk _ h.fl o2 n5).trans l1⟩,⟨sv,(hk _ h.fs o3 n6).trans s1⟩,
  ⟨ver',_,hP,fun x=>?_⟩,h.fw.up hu,h.fr.up hu,h.fa.up hu,h.fl.up hu,h.fs.up hu,h.fp.up hu,h.odd,h.ne⟩
 have e:((jW (mset mp t (2 * uM+1,uM)) x).map fun p=>jo2 p.2)=if x=t then some (jo2 (2 * uM+1,uM)) else (jW mp x).map fun p=>jo2 p.2:=by
  have:=X2 t (2 * uM+1,uM) x mp
  have h2:∀ o:Option (Nat × Nat × Nat),(o.map fun p=>jo2 p.2)=(o.map (·.2)).map jo2:=fun o=>by cases o <;> rfl
  rw [h2,this,h2]
  split <;> rfl
 rw [e]
 by_cases hx:x=t
 ·simp only [if_pos hx,Option.getD_some]
  exact .inr ⟨_,_,vm,m,rfl,hM,hK,fun e=>h.fa.ne uM hu1 e.symm,fun e=>h.fl.ne uM hu1 e.symm,fun e=>h.fs.ne uM hu1 e.symm,fun e=>h.fp.ne uM hu1 e.symm,Off.new hu2,by omega⟩
 ·simp only [if_neg hx]
  exact (p2 x).keep hf hu
theorem Wk.setA (h:Wk g lvl M N A L S P ob ub) {A':List (Int × Int)} {ob':ZO} {ub' ver':Nat} (hu:ub≤ub') (hk:∀ key,Off ub key→key % 2=1→key≠N.kA→ob' key=ob key) (hA:ob' N.kA=some ⟨N.uA,.mp ver' (MP intV A')⟩):Wk g lvl M N A' L S P ob' ub':=by
 have hf:∀ key,Fix N ub key→ob' key=ob key:=fun key h=>hk key h.f h.o h.a
 obtain ⟨o1,o2,o3,o4⟩:=h.odd
 obtain ⟨n1,n2,n3,n4,n5,n6⟩:=h.ne
 obtain ⟨rv,mr,r1,r2⟩:=h.r
 obtain ⟨lv,l1⟩:=h.l
 obtain ⟨sv,s1⟩:=h.s
 obtain ⟨pv,mp,p1,p2⟩:=h.p
 exact ⟨(hf _ h.fw).trans h.w,⟨rv,mr,(hf _ h.fr).trans r1,fun t=>(r2 t).keep hf hu⟩,⟨ver',hA⟩,⟨lv,(hk _ h.fl o2 n1.symm).trans l1⟩,⟨sv,(hk _ h.fs o3 n2.symm).trans s1⟩,
  ⟨pv,mp,(hk _ h.fp o4 n3.symm).trans p1,fun x=>(p2 x).keep hf hu⟩,h.fw.up hu,h.fr.up hu,h.fa.up hu,h.fl.up hu,h.fs.up hu,h.fp.up hu,h.odd,h.ne⟩
theorem Wk.setL (h:Wk g lvl M N A L S P ob ub) {L':List (Int × Int)} {ob':ZO} {ub' ver':Nat} (hu:ub≤ub') (hk:∀ key,Off ub key→key % 2=1→key≠N.kL→ob' key=ob key) (hL:ob' N.kL=some ⟨N.uL,.mp ver' (MP intV L')⟩):Wk g lvl M N A L' S P ob' ub':=by
 have hf:∀ key,Fix N ub key→ob' key=ob key:=fun key h=>hk key h.f h.o h.l
 obtain ⟨o1,o2,o3,o4⟩:=h.odd
 obtain ⟨n1,n2,n3,n4,n5,n6⟩:=h.ne
 obtain ⟨rv,mr,r1,r2⟩:=h.r
 obtain ⟨av,a1⟩:=h.a
 obtain ⟨sv,s1⟩:=h.s
 obtain ⟨pv,mp,p1,p2⟩:=h.p
 exact ⟨(hf _ h.fw).trans h.w,⟨rv,mr,(hf _ h.fr).trans r1,fun t=>(r2 t).keep hf hu⟩,⟨av,(hk _ h.fa o1 n1).trans a1⟩,⟨ver',hL⟩,⟨sv,(hk _ h.fs o3 n4.symm).trans s1⟩,
  ⟨pv,mp,(hk _ h.fp o4 n5.symm).trans p1,fun x=>(p2 x).keep hf hu⟩,h.fw.up hu,h.fr.up hu,h.fa.up hu,h.fl.up hu,h.fs.up hu,h.fp.up hu,h.odd,h.ne⟩
theorem Wk.setS (h:Wk g lvl M N A L S P ob ub) {S':List (Int × Int)} {ob':ZO} {ub' ver':Nat} (hu:ub≤ub') (hk:∀ key,Off ub key→key % 2=1→key≠N.kS→ob' key=ob key) (hS:ob' N.kS=some ⟨N.uS,.mp ver' (MP intV S')⟩):Wk g lvl M N A L S' P ob' ub':=by
 have hf:∀ key,Fix N ub key→ob' key=ob key:=fun key h=>hk key h.f h.o h.s
 obtain ⟨o1,o2,o3,o4⟩:=h.odd
 obtain ⟨n1,n2,n3,n4,n5,n6⟩:=h.ne
 obtain ⟨rv,mr,r1,r2⟩:=h.r
 obtain ⟨av,a1⟩:=h.a
 obtain ⟨lv,l1⟩:=h.l
 obtain ⟨pv,mp,p1,p2⟩:=h.p
 exact ⟨(hf _ h.fw).trans h.w,⟨rv,mr,(hf _ h.fr).trans r1,fun t=>(r2 t).keep hf hu⟩,⟨av,(hk _ h.fa o1 n2).trans a1⟩,⟨lv,(hk _ h.fl o2 n4).trans l1⟩,⟨ver',hS⟩,
  ⟨pv,mp,(hk _ h.fp o4 n6.symm).trans p1,fun x=>(p2 x).keep hf hu⟩,h.fw.up hu,h.fr.up hu,h.fa.up hu,h.fl.up hu,h.fs.up hu,h.fp.up hu,h.odd,h.ne⟩
def AddR (ob:ZO) (ub uM:Nat) (K:List Int) (r:V × (ZO) × (Nat→Bool) × Nat):Prop :=
 ub≤r.2.2.2∧(∀ key,Off ub key→key≠2 * uM+1→r.2.1 key=ob key)∧∃ ver m,r.2.1 (2 * uM+1)=some ⟨uM,.mp ver (MP intV m)⟩∧∀ x,x∈m.map (·.1) ↔ x∈K
theorem j3w {Yf:YF} {ub0:Nat} (hW:Wk g lvl M N A L S P ob ub0) {u4 u2 uM ver:Nat} {m:List (Int × Int)} {K:List Int} (h4:ob (2 * u4+1)=some ⟨u4,.cells [.map (2 * uM+1) uM]⟩) (h2:ob (2 * u2+1)=some ⟨u2,.cells [.ptr N.kW N.uW 0]⟩) (hM:ob (2 * uM+1)=some ⟨uM,.mp ver (MP intV m)⟩)
 (hK:∀ x,x∈m.map (·.1) ↔ x∈K) (hu:ub0≤uM) (huM:uM<ub) (hu4:u4<ub) (_:u2<ub) (n4:u4≠uM) (n2:u2≠uM) {ro:Nat} (hro:ro≤uM) (a:Int) (tk:Nat→Bool) (base:Nat) :
 EvSL E1 Yf.y 218 [.int .i64 a,.ptr (2 * u4+1) u4 0,.ptr (2 * u2+1) u2 0] ob tk ro base ub (AddR ob ub uM (K++a::P a)):=by
 refine jh6 (af:=S218) rfl ?_
 show wpC E1 Yf S218.body _ (WU S218.res _)
 have hw:=hW.w
 have gW:=hW.fw.f.ne
 have gP:=hW.fp.ne
 obtain ⟨v,hlk,hin⟩:=hW.past a
 have hl:=YC (ob:=ob) (l:=2 * uM+1) (u:=uM) (k:=a) m (by simp [je,hM])
 simp (disch:=first | (simp;done) | omega) [S218,j1,h4]
 rw [hl]
 simp
 refine W6 (f:=intV) (a:=IntKind.i64.wrap (JY m a+1)) (ver:=ver) (l:=2 * uM+1) (u:=uM) (k:=a) m (by simp) (by simp) (by simp [intV]) (by simpa using hM) (by simp;omega) ?_
 have eW:N.kW≠2 * uM+1:=fun h=>gW uM hu h
 have eP:N.kP≠2 * uM+1:=fun h=>gP uM hu h
 simp (disch:=first | (simp;done) | omega) [j1,h2,two_inj,n2,hw,wC,eW]
 rw [hlk _ (by simp [eP])]
 simp
 refine jjm (N:=N) (ob0:=ob) (ub0:=ub0) (L:=P a) (by simpa using hin) (fun key hk=>by simp [hk.f.ne uM hu]) (by first | omega | (simp;omega)) rfl fun o left hmem hit=>?_
 simp
 refine JV fun st hst=>?_
 obtain ⟨u15,hu15⟩:∃ u,u=ub+704:=⟨_,rfl⟩
 have g1:st.tm 1 = .ptr (2 * u4+1) u4 0:=by rw [hst];simp
 have g15:st.tm 15 = .iter (2 * u15+1) u15:=by rw [hst,hu15];simp [Nat.add_assoc]
 have eM:¬ uM=u15:=by omega
 have gi:ItAt N ub0 st.ob (2 * u15+1) u15 left none:=by
  have h:=hit st.ob (by rw [hst];simp) fun key hk=>by rw [hst];simp [hk.f.ne uM hu];try (intro h;exact absurd h (hk.f.ne _ (by omega)))
  simp only [Nat.add_assoc,Nat.reduceAdd] at h
  rw [hu15]
  exact h
 have gw:∀ key,Off ub key→key≠2 * uM+1→st.ob key=ob key:=fun key hk hne=>by rw [hst];simp (disch:=first | (simp;done) | omega) [hk.ne,hne]
 have gM:st.ob (2 * uM+1)=some ⟨uM,.mp (ver+1) (MP intV (mset m a (IntKind.i64.wrap (JY m a+1))))⟩:=by rw [hst];simp (disch:=first | (simp;done) | omega) [two_inj];omega
 have gn:u15<st.nx:=by rw [hst,hu15];simp
 have gd:st.df=[]:=by rw [hst];simp
 have gr:st.ro=ro:=by rw [hst];simp
 clear hst hit
 obtain ⟨J,hJ⟩:∃ J:Nat→St→Prop,J=fun n s=>∃ left last ver m',n=left.length∧ItAt N ub0 s.ob (2 * u15+1) u15 left last∧s.ob (2 * uM+1)=some ⟨uM,.mp ver (MP intV m')⟩∧(∀ x,x∈m'.map (·.1)→x∈K++a::P a)∧(∀ x,x∈K++a::P a→x∈m'.map (·.1)∨x∈left)∧(∀ x∈left,x∈P a)∧(∀ key,Off ub key→key≠2 * uM+1→s.ob key=ob key)∧u15<s.nx:=⟨_,rfl⟩
 refine Y3 (n:=left.length) [(4,4),(16,23)] J rfl rfl
  (by rw [hJ];exact ⟨left,none,_,_,rfl,gi,gM,fun x hx=>by
   rw [jc1,hK] at hx
   simp only [List.mem_append,List.mem_cons]
   exact hx.imp id .inl,fun x hx=>by
   rw [jc1,hK]
   simp only [List.mem_append,List.mem_cons] at hx
   rcases hx with h | h | h
   ·exact .inl (.inl h)
   ·exact .inl (.inr h)
   ·exact .inr ((hmem x).2 h),fun x hx=>(hmem x).1 hx,gw,gn⟩) ?_
 clear hmem left gi gw gM gn
 intro n s hJs f
 rw [hJ] at hJs
 obtain ⟨left,last,ver',m',rfl,si,sM,h1,h2',hsub,sw,sn⟩:=hJs
 have s1:s.tm 1 = .ptr (2 * u4+1) u4 0:=by rw [f.t 1 (by simp)];simp [g1]
 have s15:s.tm 15 = .iter (2 * u15+1) u15:=by rw [f.t 15 (by simp)];simp [g15]
 have sd:s.df=[]:=by rw [f.d];simp [gd]
 have sr:s.ro=ro:=by rw [f.r];simp [gr]
 clear f
 simp
 refine jnc (N:=N) (ub0:=ub0) (k:=2 * u15+1) (u:=u15) (left:=left) (last:=last) (by simp [s15]) si (by first | omega | (simp [sr];omega)) (fun h=>?_) (fun l1 key l2 o v hab hit=>?_)
 ·subst h
  simp
  refine jnr (.inl rfl) (by simp [sd]) ⟨by first | omega | (simp;omega),fun key hk hne=>by simpa using sw key hk hne,_,m',by simpa using sM,fun x=>⟨h1 x,fun hx=>(h2' x hx).resolve_right (by simp)⟩⟩
 ·subst hab
  have hkey:key∈P a:=hsub key (by simp)
  have h4':s.ob (2 * u4+1)=some ⟨u4,.cells [.map (2 * uM+1) uM]⟩:=(sw _ (Off.new hu4) (by omega)).trans h4
  have e4:¬ u4=u15:=by omega
  simp
  refine jjo (N:=N) (ub0:=ub0) (k:=2 * u15+1) (u:=u15) (left:=l1++l2) (key:=key) (by simp [s15]) (hit _ (by simp) fun key hk=>by simp [hk]) fun v'=>?_
  simp (disch:=first | (simp;done) | omega) [s1,j1,h4',two_inj,e4]
  have hl':=fun (ob':ZO) (h:ob' (2 * uM+1)=s.ob (2 * uM+1))=>YC (ob:=ob') (l:=2 * uM+1) (u:=uM) (k:=key) m' (by simp [je,h,sM])
  rw [hl' _ (by simp [two_inj,eM])]
  simp
  refine W6 (f:=intV) (a:=IntKind.i64.wrap (JY m' key+1)) (ver:=ver') (l:=2 * uM+1) (u:=uM) (k:=key) m' (by simp) (by simp) (by simp [intV]) (by simpa [two_inj,eM] using sM) (by first | omega | (simp [sr];omega)) ?_
  simp
  refine ⟨(l1++l2).length,by simp,?_⟩
  rw [hJ]
  refine ⟨l1++l2,some key,ver'+1,mset m' key (IntKind.i64.wrap (JY m' key+1)),rfl,(hit (upd s.ob (2 * u15+1) (some o)) (by simp) fun key hk=>J2 _ _ hk).keep (by simp [two_inj,Ne.symm eM]) (fun key hk=>by simp [hk.f.ne uM hu,j6]),by simp,fun x hx=>?_,fun x hx=>?_,fun x hx=>hsub x (List.mem_append.2 ((List.mem_append.1 hx).imp id (List.mem_cons_of_mem _))),fun key' hk hne=>by simp [hne,hk.ne u15 (by omega),sw key' hk hne],by first | omega | (simp;omega)⟩
  ·rw [jc1] at hx
   rcases hx with h | rfl
   ·exact h1 x h
   ·exact List.mem_append.2 (.inr (List.mem_cons_of_mem _ hkey))
  ·rw [jc1]
   rcases h2' x hx with h | h
   ·exact .inl (.inl h)
   ·simp only [List.mem_append,List.mem_cons] at h ⊢
    rcases h with h | rfl | h
    ·exact .inr (.inl h)
    ·exact .inl (.inr rfl)
    ·exact .inr (.inr h)
end
section
variable {g:Hist'} {lvl:Int} {M:List Int} {N:WN} {A L S:List (Int × Int)} {P:Int→List Int} {ob:ZO} {ub:Nat}
theorem RowV.len {v:V} {rs:List (Int × Int × Int)} (h:RowV N ob ub v rs):jas v=some (.int .i64 rs.length):=by
 rcases h with ⟨rfl,rfl⟩ | ⟨l,u,rfl,_⟩ <;> rfl
theorem RowV.at {v:V} {rs:List (Int × Int × Int)} (hv:RowV N ob ub v rs) {i:Nat} (h:i<rs.length):∃ q,JL 3 v (.int .i64 (i:Int))=some q∧∀ ob':ZO,(∀ key,Fix N ub key→ob' key=ob key)→Yb ob' (some 3) q=some (.agg (rdC rs[i])):=by
 rcases hv with ⟨rfl,rfl⟩ | ⟨l,u,rfl,ho,hf⟩
 ·simp at h
 ·refine ⟨_,idx0 h,fun ob' hk=>?_⟩
  have:=XH jd1 rs i h
  have hlf:=jA jd1 rs
  simp only [Yb,j1,hk _ hf,ho,if_true,Option.bind_some,YB]
  rw [if_pos (by rw [hlf];omega),this]
def j3f (P:Int→List Int) (r:Int × Int × Int):List Int:=if 0≤r.2.2 then r.2.2::P r.2.2 else []
def jbl (P:Int→List Int) (rs:List (Int × Int × Int)):List Int:=rs.flatMap (j3f P)
def jz3 (g:Hist') (P:Int→List Int) (S:List (Int × Int)) (n:Nat):List Int:=match (jW S (jv g n)).map (·.2) with | some a=>a::P a | none=>[]
def CauR (g:Hist') (lvl:Int) (M:List Int) (N:WN) (A L S:List (Int × Int)) (P:Int→List Int) (n:Nat) (ob:ZO) (ub:Nat) (r:V × (ZO) × (Nat→Bool) × Nat):Prop :=
 r.1 = .tup []∧ub≤r.2.2.2∧(∀ key,Off ub key→key≠N.kP→r.2.1 key=ob key)∧Wk g lvl M N A L S (fun x=>if x=n then jbl P (rdsT g M n)++jz3 g P S n else P x) r.2.1 r.2.2.2
theorem sv162 {Yf:YF} (hW:Wk g lvl M N A L S P ob ub) (hM:(readH g).length≤1000000) {n:Nat} (hn:n<g.ts.length) (_:g.ts.length≤1000000) {ro:Nat} (hro:ro≤N.uP) (hro2:ro≤ub) (tk:Nat→Bool) (base:Nat) :
 EvSL E1 Yf.y 162 [.ptr N.kW N.uW 0,.int .i64 (n:Int)] ob tk ro base ub (CauR g lvl M N A L S P n ob ub):=by
 refine jh6 (af:=S162) rfl ?_
 show wpC E1 Yf S162.body _ (WU S162.res _)
 have hw:=hW.w
 have gW:=hW.fw.f.ne
 have gR:=hW.fr.f.ne
 have gP:=hW.fp.ne
 have gS:=hW.fs.ne
 obtain ⟨v,hlk,hrow⟩:=hW.row (n:Int)
 have hlen:=jq5 g M n
 simp (disch:=first | (simp;done) | omega) [S162,j1,hw,wC,gW,V.cells,jg9,j7,two_inj,Nat.add_assoc]
 refine ⟨by first | omega | (simp;omega),?_⟩
 rw [hlk _ (by simp (disch:=first | (simp;done) | omega) [gR])]
 simp (disch:=first | (simp;done) | omega) [hrow.len]
 obtain ⟨rs,hrs⟩:∃ rs,rs=rdsT g M n:=⟨_,rfl⟩
 rw [← hrs] at hrow hlen ⊢
 refine JV fun st hst=>?_
 obtain ⟨uM,huM⟩:∃ u,u=ub+64:=⟨_,rfl⟩
 obtain ⟨u4,hu4⟩:∃ u,u=ub+128:=⟨_,rfl⟩
 have g0:st.tm 1 = .int .i64 n:=by rw [hst];simp
 have g2:st.tm 2 = .ptr (2 * ub+1) ub 0:=by rw [hst];simp
 have g4:st.tm 4 = .ptr (2 * u4+1) u4 0:=by rw [hst,hu4];simp
 have g5:st.tm 5 = .fn (.func 218) [] [.ptr (2 * u4+1) u4 0,.ptr (2 * ub+1) ub 0]:=by rw [hst,hu4];simp
 have g17:st.tm 17=v:=by rw [hst];simp
 have g18:st.tm 18 = .int .i64 rs.length:=by rw [hst];simp
 have g19:st.tm 19 = .int .i64 0:=by rw [hst];simp
 have gd:st.df=[]:=by rw [hst];simp
 have gr:st.ro=ro:=by rw [hst];simp
 have gn:u4<st.nx:=by rw [hst,hu4];simp
 have gw:Was ub ob st.ob:=fun key hk=>by rw [hst];simp (disch:=first | (simp;done) | omega) [hk.ne]
 have gM:st.ob (2 * uM+1)=some ⟨uM,.mp 0 (MP intV ([]:List (Int × Int)))⟩:=by rw [hst,huM];simp (disch:=first | (simp;done) | omega) [two_inj,MP]
 have g4o:st.ob (2 * u4+1)=some ⟨u4,.cells [.map (2 * uM+1) uM]⟩:=by rw [hst,hu4,huM];simp (disch:=first | (simp;done) | omega)
 have g2o:st.ob (2 * ub+1)=some ⟨ub,.cells [.ptr N.kW N.uW 0]⟩:=by rw [hst];simp (disch:=first | (simp;done) | omega) [two_inj]
 clear hst
 obtain ⟨J,hJ⟩:∃ J:Nat→St→Prop,J=fun i s=>s.tm 19 = .int .i64 i∧(∃ ver m,s.ob (2 * uM+1)=some ⟨uM,.mp ver (MP intV m)⟩∧∀ x,x∈m.map (·.1) ↔ x∈jbl P (rs.take i))∧Was ub ob s.ob∧s.ob (2 * u4+1)=some ⟨u4,.cells [.map (2 * uM+1) uM]⟩∧s.ob (2 * ub+1)=some ⟨ub,.cells [.ptr N.kW N.uW 0]⟩∧u4<s.nx:=⟨_,rfl⟩
 refine jE [(7,7),(19,30)] rs.length J rfl rfl (by rw [hJ];exact ⟨by simpa using g19,⟨_,[],gM,fun x=>by simp [jbl]⟩,gw,g4o,g2o,gn⟩) ?_
 clear gw gM g4o g2o gn
 intro i s hi hJs f
 rw [hJ] at hJs
 obtain ⟨s19,⟨ver,m,sM,hK⟩,sw,s4o,s2o,sn⟩:=hJs
 have s1:s.tm 1 = .int .i64 n:=by rw [f.t 1 (by simp)];simp [g0]
 have s2:s.tm 2 = .ptr (2 * ub+1) ub 0:=by rw [f.t 2 (by simp)];simp [g2]
 have s4:s.tm 4 = .ptr (2 * u4+1) u4 0:=by rw [f.t 4 (by simp)];simp [g4]
 have s5:s.tm 5 = .fn (.func 218) [] [.ptr (2 * u4+1) u4 0,.ptr (2 * ub+1) ub 0]:=by rw [f.t 5 (by simp)];simp [g5]
 have s17:s.tm 17=v:=by rw [f.t 17 (by simp)];simp [g17]
 have s18:s.tm 18 = .int .i64 rs.length:=by rw [f.t 18 (by simp)];simp [g18]
 have sd:s.df=[]:=by rw [f.d];simp [gd]
 have sr:s.ro=ro:=by rw [f.r];simp [gr]
 clear f
 have n2:∀ m,s.nx≤m→¬ ub=m:=fun m hm=>by omega
 have n4:∀ m,s.nx≤m→¬ u4=m:=fun m hm=>by omega
 have nM:∀ m,s.nx≤m→¬ uM=m:=fun m hm=>by omega
 have hWs:∀ (ob':ZO),Was ub ob ob'→Wk g lvl M N A L S P ob' ub:=fun ob' h=>hW.keep (fun key hk _=>h key hk) (Nat.le_refl _)
 by_cases hlt:i<rs.length
 ·have hwk:=jz hlt (by omega)
  obtain ⟨q,hq1,hq2⟩:=hrow.at hlt
  have htake:jbl P (rs.take (i+1))=jbl P (rs.take i)++j3f P rs[i]:=by
   unfold jbl
   rw [List.take_add_one,List.getElem?_eq_getElem hlt,List.flatMap_append]
   simp only [Option.toList_some,List.flatMap_cons,List.flatMap_nil,List.append_nil]
  simp (disch:=first | (simp;done) | omega) [s19,s18,s17,hlt,hq1]
  rw [hq2 _ fun key hk=>by simp [sw key hk.f]]
  simp (disch:=first | (simp;done) | omega) [j1,rdC,j7]
  refine ⟨by first | omega | (simp [sr];omega),?_⟩
  by_cases hge:0≤(rs[i]).2.2
  ·simp (disch:=first | (simp;done) | omega) [hge,j1,s5]
   refine jjp (f:=218) (first:=[]) (captured:=[.ptr (2 * u4+1) u4 0,.ptr (2 * ub+1) ub 0]) (vs:=[.int .i64 (rs[i]).2.2,.ptr (2 * u4+1) u4 0,.ptr (2 * ub+1) ub 0]) (by simp) (by simp) rfl
    (j3w (K:=jbl P (rs.take i)) (hWs _ ?_) (m:=m) (ver:=ver) (uM:=uM) ?_ ?_ ?_ hK (by omega) ?_ ?_ ?_ (by omega) (by omega) ?_ _ _ _) ?_
   ·exact fun key hk=>by simp (disch:=first | (simp;done) | omega) [hk.ne,sw key hk]
   ·simp (disch:=first | (simp;done) | omega) [two_inj,n4,s4o]
   ·simp (disch:=first | (simp;done) | omega) [two_inj,n2,s2o]
   ·simp (disch:=first | (simp;done) | omega) [two_inj,nM,sM]
   ·first | omega | (simp;omega)
   ·first | omega | (simp;omega)
   ·first | omega | (simp;omega)
   ·first | omega | (simp [sr];omega)
   rintro v1 ob1 tk1 ub1 ⟨a1,a2,ver1,m1,a3,a4⟩
   simp only at a1 a2 a3 a4
   simp [s19,hwk,hlt]
   rw [hJ]
   refine ⟨by simp,⟨ver1,m1,by simpa using a3,fun x=>?_⟩,fun key hk=>?_,?_,?_,by first | omega | (simp;omega)⟩
   ·rw [a4,htake]
    simp [j3f,hge]
   ·have:=a2 key (hk.up (by first | omega | (simp;omega))) (hk uM (by omega))
    simp at this ⊢
    rw [this]
    simp (disch:=first | (simp;done) | omega) [hk.ne,sw key hk]
   ·have:=a2 (2 * u4+1) (Off.new (by first | omega | (simp;omega))) (by omega)
    simp at this ⊢
    rw [this]
    simp (disch:=first | (simp;done) | omega) [two_inj,n4,s4o]
   ·have:=a2 (2 * ub+1) (Off.new (by first | omega | (simp;omega))) (by omega)
    simp at this ⊢
    rw [this]
    simp (disch:=first | (simp;done) | omega) [two_inj,n2,s2o]
  ·have hge':¬ 0≤(rs[i]).2.2:=hge
   simp (disch:=first | (simp;done) | omega) [hge,s19,hwk,hlt]
   rw [hJ]
   refine ⟨by simp,⟨ver,m,by simp (disch:=first | (simp;done) | omega) [two_inj,nM,sM],fun x=>?_⟩,fun key hk=>by simp (disch:=first | (simp;done) | omega) [hk.ne,sw key hk],by simp (disch:=first | (simp;done) | omega) [two_inj,n4,s4o],by simp (disch:=first | (simp;done) | omega) [two_inj,n2,s2o],by first | omega | (simp;omega)⟩
   rw [hK,htake]
   simp [j3f,hge]
 ·have:i=rs.length:=by omega
  subst this
  rw [List.take_length] at hK
  clear hlt hi
  have hWk:=hWs s.ob sw
  have hw2:=hWk.w
  have eM:∀ key,Off ub key→¬ key=2 * uM+1:=fun key hk=>hk uM (by omega)
  simp [s19,s18]
  generalize hKF:jlk E1 Yf (C.draw [ql 52 2,_,_,_,_,_,_] _) (WU [] (CauR g lvl M N A L S P n ob ub))=KF
  have rest:∀ x:St,x.tm 1 = .int .i64 n→x.tm 2 = .ptr (2 * ub+1) ub 0→x.tm 4 = .ptr (2 * u4+1) u4 0→x.df=[]→x.ro=ro→u4<x.nx→Was ub ob x.ob→x.ob (2 * u4+1)=some ⟨u4,.cells [.map (2 * uM+1) uM]⟩→x.ob (2 * ub+1)=some ⟨ub,.cells [.ptr N.kW N.uW 0]⟩ →
   (∃ ver m,x.ob (2 * uM+1)=some ⟨uM,.mp ver (MP intV m)⟩∧∀ y,y∈m.map (·.1) ↔ y∈jbl P rs++jz3 g P S n)→KF .nrm x:=by
   rintro x x1 x2 x4 xd xr xn xw x4o x2o ⟨ver,m,xM,hK⟩
   rw [← hKF]
   have hWx:=hWs x.ob xw
   have hwx:=hWx.w
   obtain ⟨pv,mp,p1,p2⟩:=hWx.p
   simp (disch:=first | (simp;done) | omega) [x2,x4,x1,j1,x2o,hwx,wC,x4o]
   refine QF (f:=jo2) (a:=(2 * uM+1,uM)) (ver:=pv) (l:=N.kP) (u:=N.uP) (k:=(n:Int)) mp (by simp) (by simp) (by simp [jo2,V.strip]) (by simpa using p1) (by simp [xr];omega) ?_
   simp (disch:=first | (simp;done) | omega)
   have eP:=fun h:N.kP=2 * uM+1=>gP uM (by omega) h
   refine jnr (.inl rfl) (by simp [xd]) ⟨rfl,by first | omega | (simp;omega),fun key hk hne=>by simp [hne,xw key hk],?_⟩
   rw [hrs] at hK
   exact hWx.setP (uM:=uM) (t:=(n:Int)) p2 (ver':=pv+1) (vm:=ver) (m:=m) (by first | omega | (simp;omega)) (by omega) (by first | omega | (simp;omega)) (fun key hk _ hne=>by simp [hne]) (by simp) (by simp [xM];exact fun h=>absurd h.symm eP) hK
  obtain ⟨sver,hs1⟩:=hWk.s
  have hlks:=fun (ob':ZO) (h:ob' N.kS=s.ob N.kS) x=>Wk.in' (lo:=ob') (h.trans hs1) x
  have hsf:=jqp hn
  simp (disch:=first | (simp;done) | omega) [s2,s1,j1,s2o,hw2,wC,j5 j8,hsf]
  rw [hlks _ (by simp)]
  cases hf:jW S (jv g n) with
  | none =>
   simp
   exact rest _ (by simp [s1]) (by simp [s2]) (by simp [s4]) (by simp [sd]) (by simp [sr]) (by first | omega | (simp;omega)) (by simpa using sw) (by simpa using s4o) (by simpa using s2o) ⟨ver,m,by simpa using sM,fun x=>by rw [hK];simp [jz3,hf]⟩
  | some p =>
   simp [JY,hf]
   refine jjp (f:=218) (first:=[]) (captured:=[.ptr (2 * u4+1) u4 0,.ptr (2 * ub+1) ub 0]) (vs:=[.int .i64 p.2,.ptr (2 * u4+1) u4 0,.ptr (2 * ub+1) ub 0]) (by simp [s5]) (by simp) rfl
    (j3w (K:=jbl P rs) (hWs _ (by simpa using sw)) (m:=m) (ver:=ver) (uM:=uM) (by simpa using s4o) (by simpa using s2o) (by simpa using sM) hK (by omega) (by first | omega | (simp;omega)) (by first | omega | (simp;omega)) (by first | omega | (simp;omega)) (by omega) (by omega) (by first | omega | (simp [sr];omega)) _ _ _) ?_
   rintro v1 ob1 tk1 ub1 ⟨a1,a2,ver1,m1,a3,a4⟩
   simp only at a1 a2 a3 a4
   simp
   refine rest _ (by simp [s1]) (by simp [s2]) (by simp [s4]) (by simp [sd]) (by simp [sr]) (by first | omega | (simp at a1 ⊢;omega)) (fun key hk=>?_) ?_ ?_ ⟨ver1,m1,by simpa using a3,fun x=>by rw [a4];simp [jz3,hf]⟩
   ·have:=a2 key (hk.up (by first | omega | (simp;omega))) (hk uM (by omega))
    simp at this ⊢
    rw [this,sw key hk]
   ·have:=a2 (2 * u4+1) (Off.new (by first | omega | (simp;omega))) (by omega)
    simp at this ⊢
    rw [this,s4o]
   ·have:=a2 (2 * ub+1) (Off.new (by first | omega | (simp;omega))) (by omega)
    simp at this ⊢
    rw [this,s2o]
end
theorem j1z {f:FuncId} {af:AF} (h:E.fs f=some af):fs1 f=some af:=by
 unfold fs1
 split
 all_goals first
  | exact h
  | cases h
theorem Ev.e1 {f:FuncId} {args:List V} {r:V} (h:Ev E f args r):Ev E1 f args r:=Ev.other (fs1:=fs1) (mn1:=E1.mn) (fun _ _=>j1z) (fun _=>rfl) h
theorem EvO.e1 {f:FuncId} {args:List V} {ob:ZO} {tk:Nat→Bool} {base ub:Nat} {r:V} (h:EvO E f args ob tk base ub r):EvO E1 f args ob tk base ub r:=EvO.other (fs1:=fs1) (mn1:=E1.mn) (fun _ _=>j1z) (fun _=>rfl) h
theorem EvS.e1 {y:Nat→Y} {f:FuncId} {args:List V} {ob:ZO} {tk:Nat→Bool} {ro base ub:Nat} {r:V × (ZO) × (Nat→Bool) × Nat} (h:EvS E y f args ob tk ro base ub r):EvS E1 y f args ob tk ro base ub r:=EvS.other (fs1:=fs1) (mn1:=E1.mn) (fun _ _=>j1z) (fun _=>rfl) h
section
variable {g:Hist'} {lvl:Int} {M:List Int} {N:WN} {A L S:List (Int × Int)} {P:Int→List Int} {ob:ZO} {ub:Nat}
def jbj (g:Hist') (M:List Int) (S:List (Int × Int)) (P:Int→List Int) (n:Nat):Int→List Int:=fun x=>if x=n then jbl P (rdsT g M n)++jz3 g P S n else P x
def jfk (g:Hist') (M:List Int) (lvl:Int) (A L S:List (Int × Int)) (P:Int→List Int) (n:Nat):Bool :=
 !(((jW S (jv g n)).map (·.2)).any fun a=>decide ((n:Int)<a)) && ((badH g n).isEmpty && (rdsT g M n).all (rdB g M lvl A L (jbj g M S P n) n))
def opsN (g:Hist') (n:Nat):List Op':=(g.ts.getD n ⟨0,0,true,[]⟩).ops
def TxnR (g:Hist') (lvl:Int) (M:List Int) (N:WN) (A L S:List (Int × Int)) (P:Int→List Int) (n:Nat) (p:Int) (ub:Nat) (r:V × (ZO) × (Nat→Bool) × Nat):Prop :=
 ub≤r.2.2.2∧r.1 = .bool (jfk g M lvl A L S P n)∧(jfk g M lvl A L S P n=true→Wk g lvl M N (mset A n p) (putL n L (opsN g n) (opsN g n).length) (mset S (jv g n) n) (jbj g M S P n) r.2.1 r.2.2.2)
theorem sv107 {Yf:YF} (hs:Small g) (hW:Wk g lvl M N A L S P ob ub) {n:Nat} (hn:n<g.ts.length) (p:Int) {ro:Nat} (r1:ro≤N.uA) (r2:ro≤N.uL) (r3:ro≤N.uS) (r4:ro≤N.uP) (r5:ro≤ub) (tk:Nat→Bool) (base:Nat) :
 EvSL E1 Yf.y 107 [.ptr N.kW N.uW 0,.int .i64 (n:Int),.int .i64 p] ob tk ro base ub (TxnR g lvl M N A L S P n p ub):=by
 have hM:=YM hs
 have hts:=hs.ts
 obtain ⟨vb,evb,hvb⟩:=ev114 hs (n:Int)
 refine jh6 (af:=S107) rfl ?_
 show wpC E1 Yf S107.body _ (WU S107.res _)
 have hw:=hW.w
 have gW:=hW.fw.f.ne
 have gS:=hW.fs.ne
 have hsf:=jqp hn
 obtain ⟨sver,hs1⟩:=hW.s
 have hlks:=fun (ob':ZO) (h:ob' N.kS=ob N.kS) x=>Wk.in' (lo:=ob') (h.trans hs1) x
 simp (disch:=first | (simp;done) | omega) [S107,j1,hw,wC,gW,V.cells,jg9,two_inj,Nat.add_assoc,j5 j8,hsf]
 rw [hlks _ (by simp (disch:=first | (simp;done) | omega) [gS])]
 simp (disch:=first | (simp;done) | omega)
 generalize hKF:jlk E1 Yf (C.region [_,_,_,_]) _=KF
 obtain ⟨ut,hut⟩:∃ u,u=ub+64:=⟨_,rfl⟩
 have rest:∀ x:St,x.tm 2 = .int .i64 p→x.tm 3 = .ptr (2 * ub+1) ub 0→x.tm 4 = .ptr (2 * ut+1) ut 0→x.tm 7 = .int .i64 (jv g n)→x.tm 36 = .bool false→x.tm 40 = .agg (j2 g)→x.tm 41 = .int .i64 n→x.df=[]→x.ro=ro→ut<x.nx→Was ub ob x.ob →
  x.ob (2 * ub+1)=some ⟨ub,.cells [.ptr N.kW N.uW 0]⟩→x.ob (2 * ut+1)=some ⟨ut,.cells [.int .i64 n]⟩→(((jW S (jv g n)).map (·.2)).any fun a=>decide ((n:Int)<a))=false→KF .nrm x:=by
  intro x x2 x3 x4 x7 x36 x40 x41 xd xr xn xw x3o x4o hany
  rw [← hKF]
  clear hKF KF
  simp [x36]
  refine jV (Ev.e1 evb) (by simp [j2,x40,x41]) rfl (by simp [j2]) ?_
  refine YL hvb fun tr addr=>?_
  simp [x36]
  have hx:=hW.keep (ub':=x.nx) (fun key hk _=>xw key hk) (by omega)
  cases hb:(badH g n).isEmpty
  ·have hpos:0<(badH g n).length:=by
    cases h:badH g n with
    | nil=>rw [h] at hb;cases hb
    | cons a l=>simp
   simp [hpos]
   exact Wc (by simp [xd]) ⟨by simp;omega,by simp [jfk,hb],fun h=>by simp [jfk,hb] at h⟩
  ·have hpos:¬ 0<(badH g n).length:=by
    cases h:badH g n with
    | nil=>simp
    | cons a l=>rw [h] at hb;cases hb
   simp [hpos,x3,x4,j1,x3o,x4o]
   refine jeo (vs:=[.ptr N.kW N.uW 0,.int .i64 (n:Int)]) (by simp) rfl (sv162 (hx.keep (fun key _ _=>by first | rfl | simp) (by first | omega | (simp;omega))) hM hn (by omega) (by first | omega | (simp [xr];omega)) (by first | omega | (simp [xr];omega)) _ _) ?_
   rintro v1 ob1 tk1 ub1 ⟨a1,a2,a3,a4⟩
   simp only at a1 a2 a3 a4
   subst a1
   have b3:ob1 (2 * ub+1)=some ⟨ub,.cells [.ptr N.kW N.uW 0]⟩:=by
    have:=a3 (2 * ub+1) (Off.new (by first | omega | (simp;omega))) (fun h=>hW.fp.ne ub (Nat.le_refl _) h.symm)
    simp at this
    rw [this,x3o]
   have b4:ob1 (2 * ut+1)=some ⟨ut,.cells [.int .i64 n]⟩:=by
    have:=a3 (2 * ut+1) (Off.new (by first | omega | (simp;omega))) (fun h=>hW.fp.ne ut (by omega) h.symm)
    simp at this
    rw [this,x4o]
   have a2':x.nx+64+64+64+64≤ub1:=by omega
   change Wk g lvl M N A L S (jbj g M S P n) ob1 ub1 at a4
   obtain ⟨v,hlk,hrow⟩:=a4.row (n:Int)
   have w1:=a4.w
   have hlen:=jq5 g M n
   simp (disch:=first | (simp;done) | omega) [x3,x4,j1,b3,b4,w1,wC]
   rw [hlk _ (by simp)]
   simp
   refine Jg (vs:=[v,.fn (.func 164) [] [.ptr (2 * ub+1) ub 0,.ptr (2 * ut+1) ut 0]]) (by simp [x3,x4]) rfl (by rw [List.all_cons,Bool.and_eq_false_iff];exact .inr rfl) (EvO.e1 (jyu (p:=fun r=>!rdB g M lvl A L (jbj g M S P n) n r) (N:=N) rfl (hrow.keep (fun key h=>by first | rfl | simp) (by first | omega | (simp;omega))) (by omega) (fun q _ tk base ub' h =>
    j83 hs hM (a4.keep (fun key h1 _=>by first | rfl | simp) (by first | omega | (simp at h;omega))) (t:=(n:Int)) (by simpa using b3) (by simpa using b4) (fun m hm=>by first | omega | (simp at h;omega)) (fun m hm=>by first | omega | (simp at h;omega)) q tk base) _ _)) ?_
   have hany2:(rdsT g M n).any (fun r=>!rdB g M lvl A L (jbj g M S P n) n r) = !(rdsT g M n).all (rdB g M lvl A L (jbj g M S P n) n):=by rw [List.not_all_eq_any_not]
   rw [hany2]
   have hst:jfk g M lvl A L S P n=(rdsT g M n).all (rdB g M lvl A L (jbj g M S P n) n):=by simp [jfk,hany,hb]
   cases hall:(rdsT g M n).all (rdB g M lvl A L (jbj g M S P n) n)
   ·simp
    exact Wc (by simp [xd]) ⟨by first | omega | (simp;omega),by simp [hst,hall],fun h=>by rw [hst,hall] at h;cases h⟩
   ·simp (disch:=first | (simp;done) | omega) [x3,x4,x2,j1,b3,b4,w1,wC]
    obtain ⟨va,ha⟩:=a4.a
    obtain ⟨vs,hs2⟩:=a4.s
    obtain ⟨n1,n2,n3,n4,n5,n6⟩:=hW.ne
    refine QF (f:=intV) (a:=p) (ver:=va) (l:=N.kA) (u:=N.uA) (k:=(n:Int)) A (by simp) (by simp) (by simp [intV]) (by simpa using ha) (by first | omega | (simp [xr];omega)) ?_
    have dW:=a4.fw
    have e1:2 * ub+1≠N.kA:=fun h=>hW.fa.ne ub (by omega) h.symm
    have e2:2 * ut+1≠N.kA:=fun h=>hW.fa.ne ut (by omega) h.symm
    have e3:2 * ub+1≠N.kS:=fun h=>hW.fs.ne ub (by omega) h.symm
    have e4:2 * ut+1≠N.kS:=fun h=>hW.fs.ne ut (by omega) h.symm
    simp (disch:=first | (simp;done) | omega) [x3,x4,x7,j1,b3,b4,w1,wC,e1,e2,dW.a]
    refine QF (f:=intV) (a:=(n:Int)) (ver:=vs) (l:=N.kS) (u:=N.uS) (k:=jv g n) S (by simp) (by simp) (by simp [intV]) (by simpa [Ne.symm n2] using hs2) (by first | omega | (simp [xr];omega)) ?_
    have hl3:(g.ts.flatMap ji)[n * 3+2]? = some (jI (g.ts[n]).nl opC (g.ts[n]).ops):=by rw [jb j8 g.ts hn (by decide:2<3)];rfl
    have hops:(g.ts[n]).ops=opsN g n:=by simp [opsN,List.getD_eq_getElem?_getD,hn]
    have hol:(opsN g n).length≤1000:=by rw [← hops];exact hs.os _ (List.getElem_mem hn)
    rw [hops] at hl3
    simp (disch:=first | (simp;done) | omega) [x3,x4,j1,b3,b4,w1,wC,e1,e2,e3,e4,dW.a,dW.s,j5 j8,hl3]
    refine JV fun st hst=>?_
    have g3:st.tm 3 = .ptr (2 * ub+1) ub 0:=by rw [hst];simp [x3]
    have g4:st.tm 4 = .ptr (2 * ut+1) ut 0:=by rw [hst];simp [x4]
    have g77:st.tm 77=jI (g.ts[n]).nl opC (opsN g n):=by rw [hst];simp
    have g78:st.tm 78 = .int .i64 (opsN g n).length:=by rw [hst];simp [jI]
    have g79:st.tm 79 = .int .i64 0:=by rw [hst];simp
    have gd:st.df=[]:=by rw [hst];simp [xd]
    have gr:st.ro=ro:=by rw [hst];simp [xr]
    have gW5:Wk g lvl M N (mset A n p) L (mset S (jv g n) n) (jbj g M S P n) st.ob st.nx:=by
     have h1:=a4.setA (ver':=va+1) (A':=mset A n p) (ob':=upd ob1 N.kA (some ⟨N.uA,.mp (va+1) (MP intV (mset A n p))⟩)) (ub':=ub1) (Nat.le_refl _) (fun key _ _ h=>J2 _ _ h) (by simp)
     have h2:=h1.setS (ver':=vs+1) (S':=mset S (jv g n) n) (ob':=upd (upd ob1 N.kA (some ⟨N.uA,.mp (va+1) (MP intV (mset A n p))⟩)) N.kS (some ⟨N.uS,.mp (vs+1) (MP intV (mset S (jv g n) n))⟩)) (ub':=ub1) (Nat.le_refl _) (fun key _ _ h=>J2 _ _ h) (by simp)
     exact h2.keep (fun key _ _=>by rw [hst];simp [j6]) (by rw [hst];simp;omega)
    have g3o:st.ob (2 * ub+1)=some ⟨ub,.cells [.ptr N.kW N.uW 0]⟩:=by rw [hst];simp [e1,e3,b3]
    have g4o:st.ob (2 * ut+1)=some ⟨ut,.cells [.int .i64 n]⟩:=by rw [hst];simp [e2,e4,b4]
    have gn:ut<st.nx:=by rw [hst];simp;omega
    clear hst
    obtain ⟨J,hJ⟩:∃ J:Nat→St→Prop,J=fun i s=>s.tm 79 = .int .i64 i∧Wk g lvl M N (mset A n p) (putL n L (opsN g n) i) (mset S (jv g n) n) (jbj g M S P n) s.ob s.nx∧s.ob (2 * ub+1)=some ⟨ub,.cells [.ptr N.kW N.uW 0]⟩∧s.ob (2 * ut+1)=some ⟨ut,.cells [.int .i64 n]⟩∧ut<s.nx:=⟨_,rfl⟩
    refine jE [(11,11),(79,92)] (opsN g n).length J rfl rfl (by rw [hJ];exact ⟨by simpa using g79,gW5,g3o,g4o,gn⟩) ?_
    clear gW5 g3o g4o gn
    intro i s hi hJs f
    rw [hJ] at hJs
    obtain ⟨s79,sW,s3o,s4o,sn⟩:=hJs
    have s3:s.tm 3 = .ptr (2 * ub+1) ub 0:=by rw [f.t 3 (by simp)];simp [g3]
    have s4:s.tm 4 = .ptr (2 * ut+1) ut 0:=by rw [f.t 4 (by simp)];simp [g4]
    have s77:s.tm 77=jI (g.ts[n]).nl opC (opsN g n):=by rw [f.t 77 (by simp)];simp [g77]
    have s78:s.tm 78 = .int .i64 (opsN g n).length:=by rw [f.t 78 (by simp)];simp [g78]
    have sd:s.df=[]:=by rw [f.d];simp [gd]
    have sr:s.ro=ro:=by rw [f.r];simp [gr]
    clear f
    by_cases hlt:i<(opsN g n).length
    ·have hwk:=jz hlt (by omega)
     have n3':∀ m,s.nx≤m→¬ ub=m:=fun m hm=>by omega
     have n4':∀ m,s.nx≤m→¬ ut=m:=fun m hm=>by omega
     have wW:=sW.w
     have gW':=sW.fw.f.ne
     have gL':=sW.fl.ne
     obtain ⟨vl,hl⟩:=sW.l
     have e5:2 * ub+1≠N.kL:=fun h=>hW.fl.ne ub (by omega) h.symm
     have e6:2 * ut+1≠N.kL:=fun h=>hW.fl.ne ut (by omega) h.symm
     have hput:putL n L (opsN g n) (i+1)=if ((opsN g n)[i]).w then mset (putL n L (opsN g n) i) ((opsN g n)[i]).key n else putL n L (opsN g n) i:=by rw [putL,List.getElem?_eq_getElem hlt]
     simp (disch:=first | (simp;done) | omega) [s79,s78,s77,hlt,j5 jH,jX jH,opC,j1,j7]
     refine ⟨by first | omega | (simp [sr];omega),?_⟩
     cases hwr:((opsN g n)[i]).w
     ·simp (disch:=first | (simp;done) | omega) [s79,hwk,hlt]
      rw [hJ]
      refine ⟨by simp,?_,by simp (disch:=first | (simp;done) | omega) [two_inj,n3',s3o],by simp (disch:=first | (simp;done) | omega) [two_inj,n4',s4o],by first | omega | (simp;omega)⟩
      rw [hput,hwr]
      exact sW.keep (fun key hk _=>by simp (disch:=first | (simp;done) | omega) [hk.ne]) (by first | omega | (simp;omega))
     ·simp (disch:=first | (simp;done) | omega) [s3,s4,j1,two_inj,n3',n4',s3o,s4o,gW',wW,wC]
      refine QF (f:=intV) (a:=(n:Int)) (ver:=vl) (l:=N.kL) (u:=N.uL) (k:=((opsN g n)[i]).key) (putL n L (opsN g n) i) (by simp) (by simp) (by simp [intV]) (by simpa (disch:=first | (simp;done) | omega) [gL'] using hl) (by first | omega | (simp [sr];omega)) ?_
      simp (disch:=first | (simp;done) | omega) [s79,hwk,hlt]
      rw [hJ]
      refine ⟨by simp,?_,by simp (disch:=first | (simp;done) | omega) [two_inj,n3',s3o,e5],by simp (disch:=first | (simp;done) | omega) [two_inj,n4',s4o,e6],by first | omega | (simp;omega)⟩
      rw [hput,hwr]
      exact sW.setL (ver':=vl+1) (by first | omega | (simp;omega)) (fun key hk _ h=>by simp (disch:=first | (simp;done) | omega) [hk.ne,h]) (by simp)
    ·have:i=(opsN g n).length:=by omega
     subst this
     simp [s79,s78]
     refine Wc (by simp [sd]) ⟨by first | omega | (simp;omega),by simp [hst,hall],fun _=>?_⟩
     exact sW.keep (fun key _ _=>by simp) (by first | omega | (simp;omega))
 cases hf:jW S (jv g n) with
 | none =>
  simp (disch:=first | (simp;done) | omega) [j1,two_inj,Nat.add_assoc,hw,wC,gW]
  refine rest _ (by simp) (by simp) (by simp [hut]) (by simp) (by simp) (by simp [j2]) (by simp) (by simp) (by simp) (by simp;omega) (fun key hk=>by simp (disch:=first | (simp;done) | omega) [hk.ne]) (by simp (disch:=first | (simp;done) | omega) [two_inj]) (by simp (disch:=first | (simp;done) | omega) [hut]) (by simp [hf])
 | some q =>
  by_cases hc:(n:Int)<q.2
  ·simp (disch:=first | (simp;done) | omega) [j1,Nat.add_assoc,JY,hf,hc]
   rw [← hKF]
   simp
   refine Wc (by simp) ⟨by simp;omega,by simp [jfk,hf,hc],fun h=>by simp [jfk,hf,hc] at h⟩
  ·simp (disch:=first | (simp;done) | omega) [j1,two_inj,Nat.add_assoc,hw,wC,gW,JY,hf,hc]
   refine rest _ (by simp) (by simp) (by simp [hut]) (by simp) (by simp) (by simp [j2]) (by simp) (by simp) (by simp) (by simp;omega) (fun key hk=>by simp (disch:=first | (simp;done) | omega) [hk.ne]) (by simp (disch:=first | (simp;done) | omega) [two_inj]) (by simp (disch:=first | (simp;done) | omega) [hut]) (by simp [hf];omega)
end
section
variable {g:Hist'} {lvl:Int} {M O:List Int}
theorem jv7 (P:Int→List Int) (rs:List (Int × Int × Int)):jbl P rs=(rs.filter fun r=>decide (0≤r.2.2)).flatMap fun r=>r.2.2::P r.2.2:=by
 unfold jbl
 induction rs with
 | nil=>rfl
 | cons r rs ih =>
  rw [List.flatMap_cons,List.filter_cons,ih]
  by_cases h:0≤r.2.2
  ·simp [j3f,h]
  ·simp [j3f,h]
theorem j70 {k n:Nat} (h:O.getD k 0=n):jbl (We g M O k) (rdsT g M n)++jz3 g (We g M O k) (wsM g O k) n=jlf g M O (We g M O k) k:=by
 unfold jlf jz3
 rw [jv7,h,jkf,Int.toNat_natCast]
 try rfl
theorem jjb {k n:Nat} (h:O.getD k 0=n):jbj g M (wsM g O k) (We g M O k) n=We g M O (k+1):=by
 funext x
 unfold jbj
 rw [j70 h]
 simp only [We,h]
theorem jzp {k n:Nat} (h:O.getD k 0=n):jfk g M lvl (atM O k) (wlM g O k) (wsM g O k) (We g M O k) n=Qw g M O lvl k:=by
 unfold jfk Qw
 rw [jkf,h,Int.toNat_natCast]
 congr 2
 refine congrArg (fun f=>(rdsT g M (n:Int)).all f) (funext fun r=>?_)
 unfold rdB jq3
 rw [h]
 have hn:jbj g M (wsM g O k) (We g M O k) n n=jlf g M O (We g M O k) k:=by
  rw [jjb h]
  exact if_pos h.symm
 rw [hn,jp8]
 rfl
theorem jzc {k n:Nat} (h:O.getD k 0=n) (hmay:X9 g=true) (hn:n<g.ts.length):putL n (wlM g O k) (opsN g n) (opsN g n).length=wlM g O (k+1):=by
 have:(JE g (n:Int)).2=opsN g n:=by
  unfold JE opsN
  simp [hmay,hn]
 rw [wlM,h,this]
theorem jy5 {k n:Nat} (h:O.getD k 0=n):mset (wsM g O k) (jv g n) n=wsM g O (k+1):=by rw [wsM,h,Int.toNat_natCast]
theorem j2r {k n:Nat} (h:O.getD k 0=n):mset (atM O k) n k=atM O (k+1):=by rw [atM,h]
theorem sv56 {Yf:YF} {N:WN} {ob:ZO} {ub:Nat} (hs:Small g) (hm:jce g M=true) (ho:J5 g O=true) {on:Bool} (hO:O.length≤1000000) (hW:Wk g lvl M N (atM O 0) (wlM g O 0) (wsM g O 0) (We g M O 0) ob ub) {ro:Nat} (r1:ro≤N.uA) (r2:ro≤N.uL) (r3:ro≤N.uS) (r4:ro≤N.uP) (r5:ro≤ub) (tk:Nat→Bool) (base:Nat) :
 EvSL E1 Yf.y 56 [.ptr N.kW N.uW 0,jI on intC O] ob tk ro base ub (fun r=>r.1 = .bool (jn7 g M O lvl)):=by
 have hmay:=jdf (W4 hm)
 refine jh6 (af:=S56) rfl ?_
 show wpC E1 Yf S56.body _ (WU S56.res _)
 simp [S56]
 obtain ⟨J,hJ⟩:∃ J:Nat→St→Prop,J=fun i s=>s.tm 9 = .int .i64 i∧Xh (Qw g M O lvl) i=true∧Wk g lvl M N (atM O i) (wlM g O i) (wsM g O i) (We g M O i) s.ob s.nx∧ub≤s.nx:=⟨_,rfl⟩
 refine jE [(4,6),(9,19)] O.length J rfl rfl (by rw [hJ];exact ⟨by simp,rfl,hW.keep (fun key _ _=>by simp) (by first | omega | (simp;omega)),by first | omega | (simp;omega)⟩) ?_
 intro i s hi hJs f
 rw [hJ] at hJs
 obtain ⟨s9,hall,sW,sn⟩:=hJs
 have s0:s.tm 0 = .ptr N.kW N.uW 0:=by rw [f.t 0 (by simp)];simp
 have s7:s.tm 7=jI on intC O:=by rw [f.t 7 (by simp)];simp
 have s8:s.tm 8 = .int .i64 O.length:=by rw [f.t 8 (by simp)];simp [jI]
 have sd:s.df=[]:=by rw [f.d];simp
 have sr:s.ro=ro:=by rw [f.r];simp
 clear f
 by_cases hlt:i<O.length
 ·have hwk:=jz hlt (by omega)
  have h1:=Jh O hlt
  obtain ⟨n,en,hn⟩:=jg0 ho hlt
  have hget:O.getD i 0=n:=(jgs hlt).trans en
  have hnl:=Xj hn
  simp (disch:=first | (simp;done) | omega) [s9,s8,s7,s0,hlt,j5 jF,h1,en]
  refine jeo (vs:=[.ptr N.kW N.uW 0,.int .i64 (n:Int),.int .i64 (i:Int)]) (by simp) rfl (sv107 hs (sW.keep (fun key _ _=>by first | rfl | simp) (by first | omega | (simp;omega))) hnl (i:Int) (by first | omega | (simp [sr];omega)) (by first | omega | (simp [sr];omega)) (by first | omega | (simp [sr];omega)) (by first | omega | (simp [sr];omega)) (by first | omega | (simp [sr];omega)) _ _) ?_
  rintro v1 ob1 tk1 ub1 ⟨a1,a2,a3⟩
  simp only at a1 a2 a3
  rw [jzp hget] at a2 a3
  subst a2
  cases hst:Qw g M O lvl i
  ·simp
   exact Wc (by simp [sd]) (by simp [jn7,Js hlt hst])
  ·simp [s9,hwk,hlt]
   rw [hJ]
   have h3:=a3 hst
   rw [jzc hget hmay hnl,jy5 hget,j2r hget,jjb hget] at h3
   exact ⟨by simp,by simp [Xh,hall,hst],h3.keep (fun key _ _=>by simp) (by first | omega | (simp;omega)),by first | omega | (simp;omega)⟩
 ·have:i=O.length:=by omega
  subst this
  simp [s9,s8]
  exact Wc (by simp [sd]) (by simp [jn7,hall])
end
end Go.Pv.T
namespace Go.Pv.T
open Go Go.Pv
end Go.Pv.T
namespace Go.Pv.T
open Go Go.Pv
end Go.Pv.T
namespace Go.Pv.T
open Go Go.Pv
section
variable {E:Env} {st:St} {ub:Nat} {K:List FP→St→Prop} {d:Option Nat} {nm:Bool} {r:List AOpr}
end
theorem ju4 {α:Type} {f:α→List V} {k:Nat} (hf:∀ a,(f a).length=k) (nl:Bool) (l:List α) (n:Nat) (kk:IntKind):Qf k none (some (.int kk ((min l.length n:Nat):Int))) (jI nl f l)=some (.sl none nl (min l.length n) ((l.take n).flatMap f)):=by
 have h1:=jks (kk:=kk) (t:=none) (nl:=nl) (sz:=k) (cs:=l.flatMap f) (n:=l.length) (k:=min l.length n) (Nat.min_le_left _ _) (jA hf _)
 refine Eq.trans h1 ?_
 rw [jdk hf]
 congr 2
 rcases Nat.le_total l.length n with h | h
 ·rw [Nat.min_eq_left h,List.take_length,List.take_of_length_le h]
 ·rw [Nat.min_eq_right h]
theorem job {st:St} {k:Nat} {v:V} (h:v.pureLeaf=true):JW st (k+1) v=some v:=by
 cases v with
 | sl t nl n cs=>cases t with
  | none=>rfl
  | some t=>cases h
 | osl l u a n s=>cases h
 | _=>simp [JW,h]
theorem jdm {st:St} {k:Nat}:∀ {l:List V},l.all V.pureLeaf=true→l.mapM (JW st (k+1))=some l
 | [],_=>rfl
 | v::l,h=>by
  rw [List.all_cons,Bool.and_eq_true] at h
  rw [List.mapM_cons,job h.1,jdm h.2]
  rfl
theorem jwb (l:List Op'):(l.flatMap opC).all V.pureLeaf=true:=by
 rw [List.all_flatMap,List.all_eq_true]
 intro t _
 rfl
theorem jm7 {f:V→Option V}:∀ {l m l' m':List V},l.mapM f=some l'→m.mapM f=some m'→(l++m).mapM f=some (l'++m')
 | [],m,l',m',h,h'=>by
  cases (show some []=some l' from h)
  exact h'
 | v::l,m,l',m',h,h'=>by
  rw [List.mapM_cons] at h
  rw [List.cons_append,List.mapM_cons]
  cases hv:f v with
  | none=>rw [hv] at h;cases h
  | some v' =>
   rw [hv] at h
   cases hl:l.mapM f with
   | none=>rw [hl] at h;cases h
   | some r =>
    rw [hl] at h
    cases (show some (v'::r)=some l' from h)
    rw [jm7 hl h']
    rfl
def txU (p:Txn' × Nat):List V:=[.int .i64 p.1.s,.int .i64 p.1.f,.osl (2 * p.2+1) p.2 0 p.1.ops.length 4]
@[simp] theorem WJ (p:Txn' × Nat):(txU p).length=3:=rfl
structure InO (ob:ZO) (lo hi:Nat) (p:Txn' × Nat):Prop where
 nl:p.1.nl=false
 lo:lo≤p.2
 hi:p.2<hi
 ob:∃ X,ob (2 * p.2+1)=some ⟨p.2,.cells X⟩∧p.1.ops.length * 4≤X.length∧X.take (p.1.ops.length * 4)=p.1.ops.flatMap opC
theorem InO.frame {ob ob':ZO} {lo hi hi':Nat} {p:Txn' × Nat} (h:InO ob lo hi p) (ho:ob' (2 * p.2+1)=ob (2 * p.2+1)) (hh:hi≤hi'):InO ob' lo hi' p :=
 ⟨h.nl,h.lo,by have:=h.hi;omega,by rw [ho];exact h.ob⟩
def TsO (ob:ZO) (lo hi:Nat) (P:List (Txn' × Nat)) (v:V):Prop :=
 (∀ p∈P,InO ob lo hi p)∧((P=[]∧v = .sl none true 0 [])∨(P≠[]∧∃ u,lo≤u∧u<hi∧(∀ p∈P,p.2≠u)∧v = .osl (2 * u+1) u 0 P.length 3∧ob (2 * u+1)=some ⟨u,.cells (P.flatMap txU)⟩))
theorem TsO.frame {ob ob':ZO} {lo hi hi':Nat} {P:List (Txn' × Nat)} {v:V} (h:TsO ob lo hi P v) (ho:∀ u,lo≤u→u<hi→ob' (2 * u+1)=ob (2 * u+1)) (hh:hi≤hi'):TsO ob' lo hi' P v:=by
 refine ⟨fun p hp=>(h.1 p hp).frame (ho _ (h.1 p hp).lo (h.1 p hp).hi) hh,?_⟩
 rcases h.2 with h2 | ⟨hne,u,h1,h2,h3,h4,h5⟩
 ·exact .inl h2
 ·exact .inr ⟨hne,u,h1,by omega,h3,h4,by rw [ho u h1 h2];exact h5⟩
theorem ju3 {st:St} {lo hi:Nat} {p:Txn' × Nat} (h:InO st.ob lo hi p) (hr:st.ro≤lo):JW st 5 (.osl (2 * p.2+1) p.2 0 p.1.ops.length 4)=some (jI p.1.nl opC p.1.ops):=by
 obtain ⟨X,h1,h2,h3⟩:=h.ob
 have hlo:=h.lo
 have hoc:j1 st.ob (2 * p.2+1) p.2=some X:=by simp [j1,h1]
 show ((j1 st.ob (2 * p.2+1) p.2).bind fun cs=>if Nat.ble st.ro p.2=true∧0+p.1.ops.length * 4≤cs.length then (((cs.drop 0).take (p.1.ops.length * 4)).mapM (JW st 4)).map fun cs'=>V.sl none false p.1.ops.length cs' else none)=_
 rw [hoc,Option.bind_some,if_pos ⟨Nat.ble_eq ▸ (by omega),by omega⟩,List.drop_zero,h3,jdm (jwb _),h.nl]
 rfl
theorem jim {st:St} {lo hi:Nat} (hr:st.ro≤lo):∀ {P:List (Txn' × Nat)},(∀ p∈P,InO st.ob lo hi p)→(P.flatMap txU).mapM (JW st 5)=some ((P.map (·.1)).flatMap ji)
 | [],_=>rfl
 | p::P,h=>by
  rw [List.flatMap_cons,List.map_cons,List.flatMap_cons]
  refine jm7 ?_ (jim hr fun q hq=>h q (List.mem_cons_of_mem _ hq))
  have:=ju3 (h p (List.mem_cons_self ..)) hr
  show [V.int .i64 p.1.s,.int .i64 p.1.f,.osl (2 * p.2+1) p.2 0 p.1.ops.length 4].mapM (JW st 5)=_
  rw [List.mapM_cons,List.mapM_cons,List.mapM_cons,this]
  rfl
theorem TsO.out {st:St} {lo hi:Nat} {P:List (Txn' × Nat)} {v:V} (h:TsO st.ob lo hi P v) (hr:st.ro≤lo):jb2 st v P.isEmpty P.length ((P.map (·.1)).flatMap ji):=by
 rcases h.2 with ⟨rfl,rfl⟩ | ⟨hne,u,h1,h2,h3,rfl,h5⟩
 ·exact Q4 _ none true 0 []
 ·intro keep i
  have hoc:j1 st.ob (2 * u+1) u=some (P.flatMap txU):=by simp [j1,h5]
  have hs:JW st 6 (.osl (2 * u+1) u 0 P.length 3)=some (.sl none false P.length ((P.map (·.1)).flatMap ji)):=by
   show ((j1 st.ob (2 * u+1) u).bind fun cs=>if Nat.ble st.ro u=true∧0+P.length * 3≤cs.length then (((cs.drop 0).take (P.length * 3)).mapM (JW st 5)).map fun cs'=>V.sl none false P.length cs' else none)=_
   rw [hoc,Option.bind_some,if_pos ⟨Nat.ble_eq ▸ (by omega),by rw [jA WJ];omega⟩,List.drop_zero,← jA WJ P,List.take_length,jim hr h.1]
   rfl
  have he:P.isEmpty=false:=by cases P <;> simp_all
  rw [he]
  refine ⟨_,by simp only [jr,hs,Option.bind_some,hoc,Option.map_some];rfl,?_⟩
  split
  ·exact .inr ⟨_,rfl⟩
  ·exact .inl rfl
section
variable {Yf:YF} {st:St} {ub:Nat} {K:St→Nat→Prop} {d:Nat}
theorem jwn {α:Type} {f:α→List V} {l:List α} {z sz bytes:Nat} {s x:A} (hs:eval E st.tm s = .osl (2 * z+1) z 0 0 sz) (ho:st.ob (2 * z+1)=some ⟨z,.cells []⟩) (hro:st.ro≤z)
 (hx:jM st.ob sz (eval E st.tm x)=some (l.flatMap f)) (hf:∀ a,(f a).length=sz) (h0:0<sz) (hp:(l.flatMap f).all V.leaf=true) (hb:l.length * bytes≤140737488355328) (hb2:l.length≤140737488355328)
 (h:∀ (s1:St) (u:Nat),(u=z∨u=ub)→s1.ob (2 * u+1)=some ⟨u,.cells (l.flatMap f)⟩→(∀ key,key≠2 * z+1→key≠2 * ub+1→s1.ob key=st.ob key)→(∀ t,s1.tm t=if t=d then .osl (2 * u+1) u 0 l.length sz else st.tm t)→s1.df=st.df→s1.ro=st.ro→s1.fb=st.fb→s1.tk=st.tk→K s1 (ub+64)) :
 j9 E Yf ⟨some d,.append true sz bytes s x,none,true⟩ st ub K:=by
 cases l with
 | nil =>
  rw [jS _ rfl rfl]
  simp only [aop,hs,hx,Option.bind_some,List.flatMap_nil,if_true]
  have hoc:j1 st.ob (2 * z+1) z=some []:=by simp [j1,ho]
  rw [hoc,Option.bind_some,WF]
  show QP K st (some d) ub _
  rw [jav]
  exact h _ z (.inl rfl) (by simpa using ho) (fun key _ _=>by simp) (fun t=>by rw [jj5];rfl) rfl rfl rfl (by simp)
 | cons a l =>
  have h1:((a::l).flatMap f).length / sz=(a::l).length:=by rw [jA hf];exact Nat.mul_div_cancel _ h0
  have hne:(a::l).flatMap f≠[]:=fun e=>by have:=congrArg List.length e;rw [jA hf] at this;have:=Nat.mul_pos (show 0<(a::l).length by simp) h0;simp_all
  refine QE (l:=2 * z+1) (u:=z) (n:=0) (cs:=[]) (ys:=(a::l).flatMap f) hs hx ho hne hro (by simp) h0 hp (by rw [h1,Nat.zero_add];exact hb) (by rw [h1,Nat.zero_add];exact hb2) ?_
  rw [jav,h1,Nat.zero_add]
  refine h _ ub (.inr rfl) ?_ (fun key k1 k2=>?_) (fun t=>by rw [jj5];rfl) rfl rfl rfl ?_
  ·simp [jP]
  ·simp [jP,k1,k2]
  ·rfl
theorem jln {lo hi:Nat} {P:List (Txn' × Nat)} {p:Txn' × Nat} {s x:A} (hT:TsO st.ob lo hi P (eval E st.tm s)) (hle:hi≤ub) (hro:st.ro≤lo) (hx:jM st.ob 3 (eval E st.tm x)=some (txU p)) (hp:InO st.ob hi ub p) (hlh:lo≤hi) (hlen:P.length≤100000)
 (h:∀ (s1:St) (v':V),TsO s1.ob lo (ub+64) (P++[p]) v'→(∀ key,(∀ u,lo≤u→u<hi→key≠2 * u+1)→key≠2 * ub+1→s1.ob key=st.ob key)→(∀ t,s1.tm t=if t=d then v' else st.tm t)→s1.df=st.df→s1.ro=st.ro→s1.fb=st.fb→s1.tk=st.tk→K s1 (ub+64)) :
 j9 E Yf ⟨some d,.append true 3 40 s x,none,true⟩ st ub K:=by
 have hpl:=hp.lo
 have hph:=hp.hi
 rcases hT.2 with ⟨rfl,h0⟩ | ⟨hne,u,h1,h2,h3,h4,h5⟩
 ·refine QW (n:=0) (cs:=[]) (ys:=txU p) h0 hx (by simp [txU]) (by decide) rfl (by simp) (by simp) ?_
  rw [jav,show (txU p).length / 3=1 by rw [WJ]]
  refine h _ (.osl (2 * ub+1) ub 0 1 3) ⟨?_,.inr ⟨by simp,ub,by omega,by omega,?_,by simp,?_⟩⟩ (fun key k1 k2=>?_) (fun t=>by rw [jj5];rfl) rfl rfl rfl ?_
  ·intro q hq
   simp only [List.nil_append,List.mem_singleton] at hq
   subst hq
   refine ⟨hp.nl,by omega,by omega,?_⟩
   have:¬ 2 * q.2=2 * ub:=by omega
   simpa [jP,Jr,this] using hp.ob
  ·intro q hq
   simp only [List.nil_append,List.mem_singleton] at hq
   subst hq
   omega
  ·simp [jP,Jr]
  ·simp [jP,Jr,k2]
  ·rfl
 ·refine QE (l:=2 * u+1) (u:=u) (n:=P.length) (cs:=P.flatMap txU) (ys:=txU p) h4 hx h5 (by simp [txU]) (by omega) (by rw [jA WJ];omega) (by decide) rfl (by simp;omega) (by simp;omega) ?_
  rw [jav,show (txU p).length / 3=1 by rw [WJ]]
  refine h _ (.osl (2 * ub+1) ub 0 (P.length+1) 3) ⟨?_,.inr ⟨by simp,ub,by omega,by omega,?_,by simp,?_⟩⟩ (fun key k1 k2=>?_) (fun t=>by rw [jj5];rfl) rfl rfl rfl ?_
  ·intro q hq
   rw [List.mem_append,List.mem_singleton] at hq
   rcases hq with hq | rfl
   ·have hi:=hT.1 q hq
    refine ⟨hi.nl,hi.lo,by have:=hi.hi;omega,?_⟩
    have e1:¬ 2 * q.2=2 * ub:=by have:=hi.hi;omega
    have e2:¬ 2 * q.2=2 * u:=by have:=h3 q hq;omega
    simpa [jP,e1,e2] using hi.ob
   ·refine ⟨hp.nl,by omega,by omega,?_⟩
    have e1:¬ 2 * q.2=2 * ub:=by omega
    have e2:¬ 2 * q.2=2 * u:=by omega
    simpa [jP,e1,e2] using hp.ob
  ·intro q hq
   rw [List.mem_append,List.mem_singleton] at hq
   rcases hq with hq | rfl
   ·have:=(hT.1 q hq).hi;omega
   ·omega
  ·simp [jP]
   exact List.take_of_length_le (by rw [jA WJ];omega)
  ·have e:=k1 u h1 h2
   simp [jP,e,k2]
  ·rfl
end
section
variable {E:Env} {st:St} {ub:Nat} {K:List FP→St→Prop} {d:Option Nat} {r:List AOpr}
theorem Qm {sz n:Nat} {zero:List V} {parts:List (Nat × Nat × A)} {cs:List V} (hf:fill zero (ju (eval E st.tm) parts)=some cs) (hl:cs.length=n * sz) (hp:cs.all V.leaf=true)
 (h:Wq E r K (eval E st.tm) (.buildSl true sz zero parts n) st d ub { v:=.osl (2 * ub+1) ub 0 n sz,obs:=[(2 * ub+1,⟨ub,.cells cs⟩)] }):jJ E (⟨d,.buildSl true sz zero parts n,none,true⟩::r) st ub K:=by
 rw [Ja rfl]
 simp only [aop,hf,Option.bind_some,if_true]
 rw [if_pos ⟨hl,hp⟩,Jb,jN]
 exact h
end
theorem jer {α β:Type} {l:List α} {m:List β} (h:l.length=m.length):l.isEmpty=m.isEmpty:=by
 cases l <;> cases m <;> simp_all
def StO (ob:ZO) (lo hi:Nat) (l:List (List UInt8)) (v:V):Prop :=
 (l=[]∧v = .sl none true 0 [])∨(l≠[]∧∃ u,lo≤u∧u<hi∧v = .osl (2 * u+1) u 0 l.length 1∧ob (2 * u+1)=some ⟨u,.cells (l.flatMap JJ)⟩)
theorem StO.frame {ob ob':ZO} {lo hi lo' hi':Nat} {l:List (List UInt8)} {v:V} (h:StO ob lo hi l v) (ho:∀ u,lo≤u→u<hi→ob' (2 * u+1)=ob (2 * u+1)) (hl:lo'≤lo) (hh:hi≤hi'):StO ob' lo' hi' l v:=by
 rcases h with h | ⟨hne,u,h1,h2,h3,h4⟩
 ·exact .inl h
 ·exact .inr ⟨hne,u,by omega,by omega,h3,by rw [ho u h1 h2];exact h4⟩
theorem StO.leaf {ob:ZO} {lo hi:Nat} {l:List (List UInt8)} {v:V} (h:StO ob lo hi l v):v.leaf=true∧v.cells=[v]:=by
 rcases h with ⟨_,rfl⟩ | ⟨_,u,_,_,rfl,_⟩ <;> exact ⟨rfl,rfl⟩
theorem TsO.leaf {ob:ZO} {lo hi:Nat} {P:List (Txn' × Nat)} {v:V} (h:TsO ob lo hi P v):v.leaf=true∧v.cells=[v]:=by
 rcases h.2 with ⟨_,rfl⟩ | ⟨_,u,_,_,_,rfl,_⟩ <;> exact ⟨rfl,rfl⟩
theorem StO.out {st:St} {lo hi:Nat} {l:List (List UInt8)} {v:V} (h:StO st.ob lo hi l v) (hr:st.ro≤lo):jb2 st v l.isEmpty l.length (l.flatMap JJ):=by
 rcases h with ⟨rfl,rfl⟩ | ⟨hne,u,h1,h2,rfl,h4⟩
 ·exact Q4 _ none true 0 []
 ·have he:l.isEmpty=false:=by cases l <;> simp_all
  rw [he]
  exact jin h4 (by rw [jA Y4,Nat.mul_one]) (by omega) (by rw [List.all_flatMap,List.all_eq_true];intro _ _;rfl)
theorem JZ (st:St) (d:Option Nat) (v:V) (l k:Nat) (o':Obj') (ks:List Nat):(st.app d { v:=v,obs:=[(l,o')],kill:=ks }).ob k=if k=l then some o' else if ks.any (Nat.beq k) then none else st.ob k:=by
 simp [St.app,JK,j6]
theorem jeq {E:Env} {st:St} {ub:Nat} {K:List FP→St→Prop} {d:Option Nat} {r:List AOpr} {lo hi:Nat} {l:List (List UInt8)} {c:List UInt8} {s x:A} (hS:StO st.ob lo hi l (eval E st.tm s)) (hx:jM st.ob 1 (eval E st.tm x)=some (JJ c)) (hro:st.ro≤lo) (hlen:l.length≤1000)
 (h:∀ ks:List Nat,(∀ k∈ks,∃ u,lo≤u∧u<hi∧k=2 * u+1)→Wq E r K (eval E st.tm) (.append true 1 16 s x) st d ub { v:=.osl (2 * ub+1) ub 0 (l.length+1) 1,obs:=[(2 * ub+1,⟨ub,.cells ((l++[c]).flatMap JJ)⟩)],kill:=ks }) :
 jJ E (⟨d,.append true 1 16 s x,none,true⟩::r) st ub K:=by
 rw [Ja rfl]
 rcases hS with ⟨rfl,h0⟩ | ⟨hne,u,h1,h2,h3,h4⟩
 ·simp only [aop,h0,hx,Option.bind_some]
  rw [if_neg (by simp [JJ]),if_pos (show (true && true)=true from rfl),if_pos ⟨by decide,rfl,by simp [JJ],by simp [JJ]⟩,Jb,jN]
  have:=h [] (fun k hk=>by cases hk)
  have e:([]++[c]).flatMap JJ=JJ c:=by simp
  rw [e] at this
  have e2:(JJ c).length / 1=1:=by simp [JJ]
  rw [e2]
  exact this
 ·have hoc:j1 st.ob (2 * u+1) u=some (l.flatMap JJ):=by simp [j1,h4]
  simp only [aop,h3,hx,Option.bind_some,hoc]
  have hll:(l.flatMap JJ).length=l.length:=by rw [jA Y4,Nat.mul_one]
  rw [if_neg (by simp [JJ]),if_pos ⟨Nat.ble_eq ▸ (by omega),trivial,trivial,by rw [hll];omega,by decide,rfl,by simp [JJ];omega,by simp [JJ];omega⟩,jN]
  have:=h [2 * u+1] (fun k hk=>by simp only [List.mem_singleton] at hk;exact ⟨u,h1,h2,hk⟩)
  have e:(l++[c]).flatMap JJ=(l.flatMap JJ).take (l.length * 1)++JJ c:=by
   rw [List.take_of_length_le (by rw [hll];omega),List.flatMap_append]
   simp
  rw [e] at this
  have e2:(JJ c).length / 1=1:=by simp [JJ]
  rw [e2]
  exact this
theorem jy2 {ks:List Nat} {key:Nat} (h:∀ k∈ks,key≠k):ks.any (Nat.beq key)=false:=by
 rw [List.any_eq_false]
 intro k hk he
 exact h k hk (Nat.eq_of_beq_eq_true he)
def jfo:C:=tlC (tlC S51.body)
def jfn:C:=tlC jfo
def jhv:C:=tlC jfn
def jxh:C:=tlC jhv
structure FewO (h:Hist') (ob0:ZO) (ub ro:Nat) (s:St) (a b N1 N2:Nat) (Sv Kv Tv:V) (P:List (Txn' × Nat)):Prop where
 t1:s.tm 1 = .ptr (2 * ub+1) ub 0
 t2:s.tm 2 = .ptr (2 * (ub+64)+1) (ub+64) 0
 t3:s.tm 3 = .ptr (2 * (ub+192)+1) (ub+192) 0
 d:s.df=[]
 ro:s.ro=ro
 o1:s.ob (2 * ub+1)=some ⟨ub,.cells (j2 h)⟩
 o2:s.ob (2 * (ub+64)+1)=some ⟨ub+64,.cells [.sl none true 0 [],.sl none true 0 [],.sl none true 0 []]⟩
 o3:s.ob (2 * (ub+192)+1)=some ⟨ub+192,.cells [Sv,Kv,Tv]⟩
 gS:StO s.ob (ub+256) N1 (YE a h.ss) Sv
 gK:StO s.ob N1 N2 (YE b h.ks) Kv
 gT:TsO s.ob N2 s.nx P Tv
 n0:ub+256≤N1
 n1:N1≤N2
 n2:N2≤s.nx
 fr:∀ key,(∀ m,ub≤m→key≠2 * m+1)→s.ob key=ob0 key
theorem few0S {h:Hist'} {Yf:YF} {ob:ZO} {tk:Nat→Bool} {ro base ub:Nat} {Q:Ex→St→Prop} (hro:ro≤ub) (hrest:∀ s,FewO h ob ub ro s 0 0 s.nx s.nx (.sl none true 0 []) (.sl none true 0 []) (.sl none true 0 []) []→wpC E Yf jfo s Q) :
 wpC E Yf S51.body (Jj [.agg (j2 h)] ob tk ro base ub) Q:=by
 have e:S51.body = .seq (hdC S51.body) (.seq (hdC (tlC S51.body)) jfo):=rfl
 rw [e]
 simp [hdC,tlC,S51,j2,j1,j7]
 have a1:¬ 2 * ub=2 * (ub+64):=by omega
 have a2:¬ 2 * ub=2 * (ub+64+64+64):=by omega
 have a3:¬ 2 * (ub+64)=2 * (ub+64+64+64):=by omega
 refine ⟨by omega,hrest _ ⟨by simp,by simp,by simp,by simp,by simp,by simp [j2,a1,a2],by simp [a3],by simp,.inl ⟨rfl,rfl⟩,.inl ⟨rfl,rfl⟩,⟨by simp,.inl ⟨rfl,rfl⟩⟩,by simp,Nat.le_refl _,Nat.le_refl _,fun key hk=>?_⟩⟩
 have e1:=hk ub (Nat.le_refl _)
 have e2:=hk (ub+64) (by omega)
 have e3:=hk (ub+64+64+64) (by omega)
 simp [e1,e2,e3]
theorem jxk:jfo = .seq (hdC jfo) jfn:=rfl
theorem few1O {h:Hist'} {Yf:YF} {ob0:ZO} {ub ro:Nat} {s0:St} {Q:Ex→St→Prop} (hru:ro≤ub) (hs:FewO h ob0 ub ro s0 0 0 s0.nx s0.nx (.sl none true 0 []) (.sl none true 0 []) (.sl none true 0 []) [])
 (hrest:∀ s Sv,FewO h ob0 ub ro s 25 0 s.nx s.nx Sv (.sl none true 0 []) (.sl none true 0 []) []→wpC E Yf jfn s Q):wpC E Yf jfo s0 Q:=by
 rw [jxk]
 obtain ⟨f1,f2,f3,fd,fr,o1,o2,o3,gS,gK,gT,n0,n1,n2,ff⟩:=hs
 simp [hdC,jfo,tlC,S51]
 refine jE [(4,4),(9,37)] 25 (fun i s=>s.tm 4 = .int .i64 i∧i≤h.ss.length∧∃ Sv,FewO h ob0 ub ro s i 0 s.nx s.nx Sv (.sl none true 0 []) (.sl none true 0 []) []) rfl rfl ?_ ?_
 ·refine ⟨by simp,by simp,.sl none true 0 [],⟨by simp [f1],by simp [f2],by simp [f3],by simp [fd],by simp [fr],by simp [o1],by simp [o2],by simp [o3],.inl ⟨rfl,rfl⟩,.inl ⟨rfl,rfl⟩,⟨by simp,.inl ⟨rfl,rfl⟩⟩,by simp;omega,Nat.le_refl _,Nat.le_refl _,fun key hk=>by simp [ff key hk]⟩⟩
 rintro i s hi ⟨h4,hle,Sv,f1,f2,f3,fd,fr,o1,o2,o3,gS,gK,gT,n0,n1,n2,ff⟩ f
 clear f
 have hend:¬ (i<h.ss.length∧i<25)→∀ s':St,(s'.tm 1=s.tm 1∧s'.tm 2=s.tm 2∧s'.tm 3=s.tm 3)→s'.df=s.df→s'.ro=s.ro→s'.ob=s.ob→s.nx≤s'.nx→wpC E Yf jfn s' Q:=by
  intro hx s' ⟨q1,q2,q3⟩ e2 e3 e4 e5
  refine hrest s' Sv ⟨q1.trans f1,q2.trans f2,q3.trans f3,by rw [e2];exact fd,by rw [e3];exact fr,by rw [e4];exact o1,by rw [e4];exact o2,by rw [e4];exact o3,?_,.inl ⟨rfl,rfl⟩,⟨by simp,.inl ⟨rfl,rfl⟩⟩,by omega,Nat.le_refl _,Nat.le_refl _,fun key hk=>by rw [e4];exact ff key hk⟩
  rw [← jnp hle hi hx,e4]
  exact gS.frame (fun _ _ _=>rfl) (Nat.le_refl _) e5
 have o1':s.ob (2 * ub+1)=some ⟨ub,.cells [jI h.sn JJ h.ss,jI h.kn JJ h.ks,jI h.tn ji h.ts]⟩:=o1
 by_cases hlt:i<h.ss.length
 ·by_cases hl5:i<25
  ·have hw:=jz hl5 (by omega)
   have hl5':(i:Int)<25:=by omega
   obtain ⟨c,hc⟩:∃ c,h.ss[i]=c:=⟨_,rfl⟩
   have hsi:=jfu h.ss hlt
   have hsn:=jj1 hlt hl5
   rw [hc] at hsi hsn
   have hmn:=jbk c.length 100
   have hst:=jmm (l:=c) (kk:=.i64) (Nat.min_le_left c.length 100)
   have htk:=jdj c
   rw [htk] at hst
   rw [show ((100:Nat):Int)=100 from rfl] at hmn
   simp [hmn,hst,h4,f1,o1',j1,hlt,hl5',f3,o3,j5 Y4,hsi]
   refine Qm (cs:=[.str (c.take 100)]) (by simp [j7]) rfl rfl ?_
   simp
   have e24:s.nx≤(s.nx+64+64+64+64+64+64+64+64+64+64+64+64+64+64+64+64+64+64+64+64+64+64+64+64):=by omega
   have e25:s.nx≤(s.nx+64+64+64+64+64+64+64+64+64+64+64+64+64+64+64+64+64+64+64+64+64+64+64+64+64):=by omega
   have e26:(s.nx+64+64+64+64+64+64+64+64+64+64+64+64+64+64+64+64+64+64+64+64+64+64+64+64)<(s.nx+64+64+64+64+64+64+64+64+64+64+64+64+64+64+64+64+64+64+64+64+64+64+64+64+64):=by omega
   have hll:=jnn i h.ss
   refine jeq (lo:=ub+256) (hi:=s.nx) (l:=YE i h.ss) (c:=c.take 100) ?_ (by simp [jM,j1];rfl) (by simp [fr];omega) (by omega) fun ks hks=>?_
   ·simp
    refine gS.frame (fun u h1 h2=>?_) (Nat.le_refl _) (Nat.le_refl _)
    have e1:¬ 2 * u=2 * (s.nx+64+64+64+64+64+64+64+64+64+64+64+64+64+64+64+64+64+64+64+64+64+64+64+64):=by omega
    simp [e1]
   rw [← hsn]
   have hlen:(YE i h.ss).length+1=(YE (i+1) h.ss).length:=by rw [hsn];simp
   rw [hlen]
   have hno:∀ key,(∀ u,ub+256≤u→u<s.nx→key≠2 * u+1)→ks.any (Nat.beq key)=false:=fun key hk=>jy2 fun k hkk=>by
    obtain ⟨u,h1,h2,h3⟩:=hks k hkk
    rw [h3];exact hk u h1 h2
   have hn1:=hno (2 * ub+1) (fun u _ _=>by omega)
   have hn2:=hno (2 * (ub+64)+1) (fun u _ _=>by omega)
   have hn3:=hno (2 * (ub+192)+1) (fun u _ _=>by omega)
   have w1:¬ 2 * ub=2 * (s.nx+64+64+64+64+64+64+64+64+64+64+64+64+64+64+64+64+64+64+64+64+64+64+64+64+64):=by omega
   have w2:¬ 2 * (ub+64)=2 * (s.nx+64+64+64+64+64+64+64+64+64+64+64+64+64+64+64+64+64+64+64+64+64+64+64+64+64):=by omega
   have w3:¬ 2 * (ub+192)=2 * (s.nx+64+64+64+64+64+64+64+64+64+64+64+64+64+64+64+64+64+64+64+64+64+64+64+64+64):=by omega
   have w4:¬ 2 * ub=2 * (s.nx+64+64+64+64+64+64+64+64+64+64+64+64+64+64+64+64+64+64+64+64+64+64+64+64):=by omega
   have w5:¬ 2 * (ub+64)=2 * (s.nx+64+64+64+64+64+64+64+64+64+64+64+64+64+64+64+64+64+64+64+64+64+64+64+64):=by omega
   have w6:¬ 2 * (ub+192)=2 * (s.nx+64+64+64+64+64+64+64+64+64+64+64+64+64+64+64+64+64+64+64+64+64+64+64+64):=by omega
   have w7:¬ 2 * (s.nx+64+64+64+64+64+64+64+64+64+64+64+64+64+64+64+64+64+64+64+64+64+64+64+64+64)=2 * (ub+192):=by omega
   have w8:¬ 2 * ub=2 * (ub+192):=by omega
   have w9:¬ 2 * (ub+64)=2 * (ub+192):=by omega
   simp [f3,j1,JZ,hn3,w3,w6,o3,fr,j7,h4,hw]
   refine ⟨by omega,?_,?_⟩
   ·simp [XI,Qo,jfh,jch,rdOb,rdTk,lOf,Delta.wo,Delta.wt]
    exact nbeq (by omega)
   have hne:YE (i+1) h.ss≠[]:=by rw [hsn];simp
   refine ⟨hl5,by omega,.osl (2 * (s.nx+64+64+64+64+64+64+64+64+64+64+64+64+64+64+64+64+64+64+64+64+64+64+64+64+64)+1) (s.nx+64+64+64+64+64+64+64+64+64+64+64+64+64+64+64+64+64+64+64+64+64+64+64+64+64) 0 (YE (i+1) h.ss).length 1,⟨by simp [f1],by simp [f2],by simp [f3],by simp [fd],by simp [fr],by simp [JZ,hn1,w1,w4,w8,o1],by simp [JZ,hn2,w2,w5,w9,o2],by simp,
    .inr ⟨hne,(s.nx+64+64+64+64+64+64+64+64+64+64+64+64+64+64+64+64+64+64+64+64+64+64+64+64+64),by omega,by simp,rfl,by simp [JZ,w7]⟩,.inl ⟨rfl,rfl⟩,⟨by simp,.inl ⟨rfl,rfl⟩⟩,by simp;omega,Nat.le_refl _,Nat.le_refl _,fun key hk=>?_⟩⟩
   have k1:=hk (ub+192) (by omega)
   have k2:=hk (s.nx+64+64+64+64+64+64+64+64+64+64+64+64+64+64+64+64+64+64+64+64+64+64+64+64+64) (by omega)
   have k3:=hk (s.nx+64+64+64+64+64+64+64+64+64+64+64+64+64+64+64+64+64+64+64+64+64+64+64+64) (by omega)
   have k4:=hno key (fun u h1 h2=>hk u (by omega))
   simp [JZ,k1,k2,k3,k4]
   exact ff key hk
  ·have hl5':¬ (i:Int)<25:=by omega
   simp [h4,f1,o1',j1,hlt,hl5']
   exact hend (by omega) _ ⟨by simp,by simp,by simp⟩ (by simp) (by simp) (by funext k;simp) (by simp;omega)
 ·simp [h4,f1,o1',j1,hlt]
  exact hend (by omega) _ ⟨by simp,by simp,by simp⟩ (by simp) (by simp) (by funext k;simp) (by simp;omega)
theorem jxj:jfn = .seq (hdC jfn) jhv:=rfl
theorem few2O {h:Hist'} {Yf:YF} {ob0:ZO} {ub ro:Nat} {s0:St} {Q:Ex→St→Prop} {N1:Nat} {S0:V} (hru:ro≤ub) (hs:FewO h ob0 ub ro s0 25 0 N1 s0.nx S0 (.sl none true 0 []) (.sl none true 0 []) [])
 (hrest:∀ s Kv,FewO h ob0 ub ro s 25 45 N1 s.nx S0 Kv (.sl none true 0 []) []→wpC E Yf jhv s Q):wpC E Yf jfn s0 Q:=by
 rw [jxj]
 obtain ⟨f1,f2,f3,fd,fr,o1,o2,o3,gS,gK,gT,n0,n1,n2,ff⟩:=hs
 simp [hdC,jfn,jfo,tlC,S51]
 refine jE [(5,5),(38,66)] 45 (fun i s=>s.tm 5 = .int .i64 i∧i≤h.ks.length∧∃ Kv,FewO h ob0 ub ro s 25 i N1 s.nx S0 Kv (.sl none true 0 []) []) rfl rfl ?_ ?_
 ·refine ⟨by simp,by simp,.sl none true 0 [],⟨by simp [f1],by simp [f2],by simp [f3],by simp [fd],by simp [fr],by simp [o1],by simp [o2],by simp [o3],gS.frame (fun _ _ _=>by simp) (Nat.le_refl _) (Nat.le_refl _),.inl ⟨rfl,rfl⟩,⟨by simp,.inl ⟨rfl,rfl⟩⟩,n0,by simp;omega,Nat.le_refl _,fun key hk=>by simp [ff key hk]⟩⟩
 rintro i s hi ⟨h4,hle,Kv,f1,f2,f3,fd,fr,o1,o2,o3,gS,gK,gT,n0,n1,n2,ff⟩ f
 clear f
 have hend:¬ (i<h.ks.length∧i<45)→∀ s':St,(s'.tm 1=s.tm 1∧s'.tm 2=s.tm 2∧s'.tm 3=s.tm 3)→s'.df=s.df→s'.ro=s.ro→s'.ob=s.ob→s.nx≤s'.nx→wpC E Yf jhv s' Q:=by
  intro hx s' ⟨q1,q2,q3⟩ e2 e3 e4 e5
  refine hrest s' Kv ⟨q1.trans f1,q2.trans f2,q3.trans f3,by rw [e2];exact fd,by rw [e3];exact fr,by rw [e4];exact o1,by rw [e4];exact o2,by rw [e4];exact o3,by rw [e4];exact gS,?_,⟨by simp,.inl ⟨rfl,rfl⟩⟩,n0,by omega,Nat.le_refl _,fun key hk=>by rw [e4];exact ff key hk⟩
  rw [← jnp hle hi hx,e4]
  exact gK.frame (fun _ _ _=>rfl) (Nat.le_refl _) e5
 have o1':s.ob (2 * ub+1)=some ⟨ub,.cells [jI h.sn JJ h.ss,jI h.kn JJ h.ks,jI h.tn ji h.ts]⟩:=o1
 by_cases hlt:i<h.ks.length
 ·by_cases hl5:i<45
  ·have hw:=jz hl5 (by omega)
   have hl5':(i:Int)<45:=by omega
   obtain ⟨c,hc⟩:∃ c,h.ks[i]=c:=⟨_,rfl⟩
   have hsi:=jfu h.ks hlt
   have hsn:=jj1 hlt hl5
   rw [hc] at hsi hsn
   have hmn:=jbk c.length 100
   have hst:=jmm (l:=c) (kk:=.i64) (Nat.min_le_left c.length 100)
   have htk:=jdj c
   rw [htk] at hst
   rw [show ((100:Nat):Int)=100 from rfl] at hmn
   simp [hmn,hst,h4,f1,o1',j1,hlt,hl5',f3,o3,j5 Y4,hsi]
   refine Qm (cs:=[.str (c.take 100)]) (by simp [j7]) rfl rfl ?_
   simp
   have e24:s.nx≤(s.nx+64+64+64+64+64+64+64+64+64+64+64+64+64+64+64+64+64+64+64+64+64+64+64+64):=by omega
   have e25:s.nx≤(s.nx+64+64+64+64+64+64+64+64+64+64+64+64+64+64+64+64+64+64+64+64+64+64+64+64+64):=by omega
   have e26:(s.nx+64+64+64+64+64+64+64+64+64+64+64+64+64+64+64+64+64+64+64+64+64+64+64+64)<(s.nx+64+64+64+64+64+64+64+64+64+64+64+64+64+64+64+64+64+64+64+64+64+64+64+64+64):=by omega
   have hll:=jnn i h.ks
   refine jeq (lo:=N1) (hi:=s.nx) (l:=YE i h.ks) (c:=c.take 100) ?_ (by simp [jM,j1];rfl) (by simp [fr];omega) (by omega) fun ks hks=>?_
   ·simp
    refine gK.frame (fun u h1 h2=>?_) (Nat.le_refl _) (Nat.le_refl _)
    have e1:¬ 2 * u=2 * (s.nx+64+64+64+64+64+64+64+64+64+64+64+64+64+64+64+64+64+64+64+64+64+64+64+64):=by omega
    simp [e1]
   rw [← hsn]
   have hlen:(YE i h.ks).length+1=(YE (i+1) h.ks).length:=by rw [hsn];simp
   rw [hlen]
   have hno:∀ key,(∀ u,N1≤u→u<s.nx→key≠2 * u+1)→ks.any (Nat.beq key)=false:=fun key hk=>jy2 fun k hkk=>by
    obtain ⟨u,h1,h2,h3⟩:=hks k hkk
    rw [h3];exact hk u h1 h2
   have hn1:=hno (2 * ub+1) (fun u _ _=>by omega)
   have hn2:=hno (2 * (ub+64)+1) (fun u _ _=>by omega)
   have hn3:=hno (2 * (ub+192)+1) (fun u _ _=>by omega)
   have w1:¬ 2 * ub=2 * (s.nx+64+64+64+64+64+64+64+64+64+64+64+64+64+64+64+64+64+64+64+64+64+64+64+64+64):=by omega
   have w2:¬ 2 * (ub+64)=2 * (s.nx+64+64+64+64+64+64+64+64+64+64+64+64+64+64+64+64+64+64+64+64+64+64+64+64+64):=by omega
   have w3:¬ 2 * (ub+192)=2 * (s.nx+64+64+64+64+64+64+64+64+64+64+64+64+64+64+64+64+64+64+64+64+64+64+64+64+64):=by omega
   have w4:¬ 2 * ub=2 * (s.nx+64+64+64+64+64+64+64+64+64+64+64+64+64+64+64+64+64+64+64+64+64+64+64+64):=by omega
   have w5:¬ 2 * (ub+64)=2 * (s.nx+64+64+64+64+64+64+64+64+64+64+64+64+64+64+64+64+64+64+64+64+64+64+64+64):=by omega
   have w6:¬ 2 * (ub+192)=2 * (s.nx+64+64+64+64+64+64+64+64+64+64+64+64+64+64+64+64+64+64+64+64+64+64+64+64):=by omega
   have w7:¬ 2 * (s.nx+64+64+64+64+64+64+64+64+64+64+64+64+64+64+64+64+64+64+64+64+64+64+64+64+64)=2 * (ub+192):=by omega
   have w8:¬ 2 * ub=2 * (ub+192):=by omega
   have w9:¬ 2 * (ub+64)=2 * (ub+192):=by omega
   simp [f3,j1,JZ,hn3,w3,w6,o3,fr,j7,h4,hw]
   refine ⟨by omega,?_,?_⟩
   ·simp [XI,Qo,jfh,jch,rdOb,rdTk,lOf,Delta.wo,Delta.wt]
    exact nbeq (by omega)
   have hne:YE (i+1) h.ks≠[]:=by rw [hsn];simp
   refine ⟨hl5,by omega,.osl (2 * (s.nx+64+64+64+64+64+64+64+64+64+64+64+64+64+64+64+64+64+64+64+64+64+64+64+64+64)+1) (s.nx+64+64+64+64+64+64+64+64+64+64+64+64+64+64+64+64+64+64+64+64+64+64+64+64+64) 0 (YE (i+1) h.ks).length 1,⟨by simp [f1],by simp [f2],by simp [f3],by simp [fd],by simp [fr],by simp [JZ,hn1,w1,w4,w8,o1],by simp [JZ,hn2,w2,w5,w9,o2],by simp,
    gS.frame (fun u h1 h2=>?_) (Nat.le_refl _) (Nat.le_refl _),.inr ⟨hne,(s.nx+64+64+64+64+64+64+64+64+64+64+64+64+64+64+64+64+64+64+64+64+64+64+64+64+64),by omega,by simp,rfl,by simp [JZ,w7]⟩,⟨by simp,.inl ⟨rfl,rfl⟩⟩,n0,by first | omega | (simp;omega),Nat.le_refl _,fun key hk=>?_⟩⟩
   ·have k1:¬ 2 * u=2 * (ub+192):=by omega
    have k2:¬ 2 * u=2 * (s.nx+64+64+64+64+64+64+64+64+64+64+64+64+64+64+64+64+64+64+64+64+64+64+64+64+64):=by omega
    have k3:¬ 2 * u=2 * (s.nx+64+64+64+64+64+64+64+64+64+64+64+64+64+64+64+64+64+64+64+64+64+64+64+64):=by omega
    have k4:=hno (2 * u+1) (fun u' _ _=>by omega)
    simp [JZ,k1,k2,k3,k4]
   have k1:=hk (ub+192) (by omega)
   have k2:=hk (s.nx+64+64+64+64+64+64+64+64+64+64+64+64+64+64+64+64+64+64+64+64+64+64+64+64+64) (by omega)
   have k3:=hk (s.nx+64+64+64+64+64+64+64+64+64+64+64+64+64+64+64+64+64+64+64+64+64+64+64+64) (by omega)
   have k4:=hno key (fun u h1 h2=>hk u (by omega))
   simp [JZ,k1,k2,k3,k4]
   exact ff key hk
  ·have hl5':¬ (i:Int)<45:=by omega
   simp [h4,f1,o1',j1,hlt,hl5']
   exact hend (by omega) _ ⟨by simp,by simp,by simp⟩ (by simp) (by simp) (by funext k;simp) (by simp;omega)
 ·simp [h4,f1,o1',j1,hlt]
  exact hend (by omega) _ ⟨by simp,by simp,by simp⟩ (by simp) (by simp) (by funext k;simp) (by simp;omega)
section
variable {g:Hist'} {lvl:Int} {M:List Int}
theorem jjr {N:WN} {ob0:ZO} {ub0:Nat} {v:V} {rs:List (Int × Int × Int)} {r:Int × Int × Int} {s x:A} {st:St} {ub:Nat} {K:List FP→St→Prop} {d:Option Nat} {q:List AOpr} (hs:eval E st.tm s=v) (hv:RowV N ob0 ub0 v rs) (hob:∀ l u,v = .osl l u 0 rs.length 3→st.ob l=ob0 l∧st.ro≤u)
 (hx:jM st.ob 3 (eval E st.tm x)=some (rdC r)) (hl:rs.length≤1000000)
 (h:∀ kill:List Nat,(kill=[]∨∃ l u,v = .osl l u 0 rs.length 3∧kill=[l])→Wq E q K (eval E st.tm) (.append true 3 24 s x) st d ub { v:=.osl (2 * ub+1) ub 0 (rs.length+1) 3,obs:=[(2 * ub+1,⟨ub,.cells ((rs++[r]).flatMap rdC)⟩)],kill:=kill }):jJ E (⟨d,.append true 3 24 s x,none,true⟩::q) st ub K:=by
 have hne:rdC r≠[]:=by simp [rdC]
 have hlf:(rdC r).all V.leaf=true:=rfl
 have hfl:=jA jd1 rs
 rw [Ja rfl]
 rcases hv with ⟨rfl,rfl⟩ | ⟨l,u,rfl,ho,hf⟩
 ·simp only [aop,hs,hx,Option.bind_some,if_neg hne,Bool.and_self,if_true,Jz,jec]
  rw [if_pos ⟨by decide,hlf,by simp [rdC],by simp [rdC]⟩]
  simp only [Jb,jN]
  have:=h [] (.inl rfl)
  simpa [rdC] using this
 ·obtain ⟨e1,e2⟩:=hob l u rfl
  have hoc:j1 st.ob l u=some (rs.flatMap rdC):=by simp [j1,e1,ho]
  simp only [aop,hs,hx,hoc,Option.bind_some,if_neg hne,Jz,jec]
  rw [if_pos ⟨Nat.ble_eq ▸ e2,trivial,trivial,by omega,by decide,hlf,by simp [rdC];omega,by simp [rdC];omega⟩,jN]
  have:=h [l] (.inr ⟨l,u,rfl,rfl⟩)
  rw [show (rs.flatMap rdC).take (rs.length * 3)=rs.flatMap rdC from List.take_of_length_le (by omega)]
  simpa [rdC,List.flatMap_append] using this
def rdG (g:Hist') (M:List Int) (i:Nat) (t:Int):List (Int × Int × Int):=((jW (jvg g M i) t).map (·.2)).getD []
theorem jve {i:Nat} {p:Int × Int} {m:Int} (h1:(readH g)[i]? = some p) (h2:M[i]? = some m) (t:Int):rdG g M (i+1) t=if t=p.1 then rdG g M i t++[(p.2,Xy g p,m)] else rdG g M i t:=by
 unfold rdG
 rw [jq6 h1 h2,X2]
 by_cases h:t=p.1
 ·subst h
  simp
 ·simp [h]
def jad (mr:List (Int × Nat × Nat × Nat)) (t:Int):V:=((jW mr t).map fun p=>joh p.2).getD (.sl none true 0 [])
theorem jdw (mr:List (Int × Nat × Nat × Nat)) (k:Int) (a:Nat × Nat × Nat) (t:Int):jad (mset mr k a) t=if t=k then joh a else jad mr t:=by
 unfold jad
 have:=X2 k a t mr
 have h2:∀ o:Option (Nat × Nat × Nat × Nat),(o.map fun p=>joh p.2)=(o.map (·.2)).map joh:=fun o=>by cases o <;> rfl
 rw [h2,this,h2]
 split <;> rfl
theorem RowV.inv {N:WN} {ob:ZO} {ub l u n:Nat} {rs:List (Int × Int × Int)} (h:RowV N ob ub (.osl l u 0 n 3) rs):n=rs.length∧ob l=some ⟨u,.cells (rs.flatMap rdC)⟩∧Fix N ub l:=by
 rcases h with ⟨h,_⟩ | ⟨l',u',h,h2,h3⟩
 ·cases h
 ·cases h
  exact ⟨rfl,h2,h3⟩
def RdI (g:Hist') (M:List Int) (N:WN) (n0 i:Nat) (ob:ZO) (ub:Nat):Prop :=
 ∃ ver mr,ob N.kR=some ⟨N.uR,.mp ver (MP joh mr)⟩∧(∀ t,RowV N ob ub (jad mr t) (rdG g M i t))∧(∀ t l u n,jad mr t = .osl l u 0 n 3→l=2 * u+1∧n0≤u)∧∀ t t' l u n n',jad mr t = .osl l u 0 n 3→jad mr t' = .osl l u 0 n' 3→t=t'
def BegW (g:Hist') (lvl:Int) (M O:List Int) (ob:ZO) (ub:Nat) (r:V × (ZO) × (Nat→Bool) × Nat):Prop :=
 ub≤r.2.2.2∧Was ub ob r.2.1∧∃ N:WN,r.1 = .ptr N.kW N.uW 0∧Wk g lvl M N (atM O 0) (wlM g O 0) (wsM g O 0) (We g M O 0) r.2.1 r.2.2.2∧ub≤N.uA∧ub≤N.uL∧ub≤N.uS∧ub≤N.uP
theorem sv55 {Yf:YF} (hs:Small g) (hm:jce g M=true) (lvl:Int) (O:List Int) {nl:Bool} {ob:ZO} {tk:Nat→Bool} {ro base ub:Nat} (hro:ro≤ub) :
 ∃ r,EvS E Yf.y 55 [.int .i64 lvl,.agg (j2 g),jI nl intC M] ob tk ro base ub r∧BegW g lvl M O ob ub r:=by
 have hw:=W4 hm
 have hM:=jli hm
 have hR:=YM hs
 have hmay:=jdf hw
 obtain ⟨vr,evr,hvr⟩:=ev86 hs
 have hrd:jbg g=readH g:=by simp [jbg,hw]
 rw [hrd] at hvr
 refine Qb (af:=S55) rfl (by decide) ?_
 show wpC E Yf S55.body _ (WU S55.res _)
 simp (disch:=first | (simp;done) | omega) [S55,j1,j2,V.cells,Nat.add_assoc]
 refine W6 (f:=intV) (a:=(-1:Int)) (ver:=0) (k:=-1) [] rfl rfl rfl (by simp [MP]) (by simp;omega) ?_
 simp (disch:=first | (simp;done) | omega) [j1,V.cells,Nat.add_assoc,j7,two_inj,mset,jW,jI]
 refine jV evr (by simp [j2,jI]) rfl (by simp [j2,jI]) ?_
 refine YL hvr fun tr addr=>?_
 simp (disch:=first | (simp;done) | omega)
 refine JV fun st hst=>?_
 obtain ⟨uR,hR1⟩:∃ u,u=ub+256:=⟨_,rfl⟩
 obtain ⟨uA,hA1⟩:∃ u,u=ub+320:=⟨_,rfl⟩
 obtain ⟨uL,hL1⟩:∃ u,u=ub+512:=⟨_,rfl⟩
 obtain ⟨uS,hS1⟩:∃ u,u=ub+576:=⟨_,rfl⟩
 obtain ⟨uP,hP1⟩:∃ u,u=ub+640:=⟨_,rfl⟩
 obtain ⟨uW,hW1⟩:∃ u,u=ub+768:=⟨_,rfl⟩
 obtain ⟨N,hN⟩:∃ N:WN,N=⟨2 * uW+1,uW,2 * uR+1,uR,2 * uA+1,uA,2 * uL+1,uL,2 * uS+1,uS,2 * uP+1,uP⟩:=⟨_,rfl⟩
 have g2:st.tm 2=jI nl intC M:=by rw [hst];simp [jI]
 have g4:st.tm 4 = .ptr (2 * ub+1) ub 0:=by rw [hst];simp
 have g7:st.tm 7 = .ptr (2 * uW+1) uW 0:=by rw [hst,hW1];simp
 have g21:st.tm 21 = .sl tr (readH g).isEmpty (readH g).length ((readH g).flatMap jG):=by rw [hst];simp
 have g22:st.tm 22 = .int .i64 (readH g).length:=by rw [hst];simp
 have g23:st.tm 23 = .int .i64 0:=by rw [hst];simp
 have gd:st.df=[]:=by rw [hst];simp
 have gr:st.ro=ro:=by rw [hst];simp
 have gn:uW<st.nx:=by rw [hst,hW1];simp
 have gw:Was ub ob st.ob:=fun key hk=>by rw [hst];simp (disch:=first | (simp;done) | omega) [show ∀ m,ub≤m→¬ key=2 * m+1 from hk]
 have pB:st.ob (2 * ub+1)=some ⟨ub,.cells (j2 g)⟩:=by rw [hst];simp (disch:=first | (simp;done) | omega) [two_inj,j2];exact ⟨rfl,rfl,rfl⟩
 have pW:st.ob (2 * uW+1)=some ⟨uW,.cells (wC g lvl N)⟩:=by rw [hst,hN,hW1,hR1,hA1,hL1,hS1,hP1];simp (disch:=first | (simp;done) | omega) [wC];exact ⟨rfl,rfl,rfl⟩
 have pR:st.ob (2 * uR+1)=some ⟨uR,.mp 0 (MP joh ([]:List (Int × Nat × Nat × Nat)))⟩:=by rw [hst,hR1];simp (disch:=first | (simp;done) | omega) [two_inj,MP]
 have pA:st.ob (2 * uA+1)=some ⟨uA,.mp 1 (MP intV [(-1,-1)])⟩:=by rw [hst,hA1];simp (disch:=first | (simp;done) | omega) [two_inj]
 have pL:st.ob (2 * uL+1)=some ⟨uL,.mp 0 (MP intV ([]:List (Int × Int)))⟩:=by rw [hst,hL1];simp (disch:=first | (simp;done) | omega) [two_inj,MP]
 have pS:st.ob (2 * uS+1)=some ⟨uS,.mp 0 (MP intV ([]:List (Int × Int)))⟩:=by rw [hst,hS1];simp (disch:=first | (simp;done) | omega) [two_inj,MP]
 have pP:st.ob (2 * uP+1)=some ⟨uP,.mp 0 (MP jo2 ([]:List (Int × Nat × Nat)))⟩:=by rw [hst,hP1];simp (disch:=first | (simp;done) | omega) [two_inj,MP]
 clear hst
 obtain ⟨o1,o2,o3,o4,o5,o6⟩:ub<uR∧uR<uA∧uA<uL∧uL<uS∧uS<uP∧uP<uW:=by omega
 clear hR1 hA1 hL1 hS1 hP1 hW1
 obtain ⟨ob1,hob1⟩:∃ o,o=st.ob:=⟨_,rfl⟩
 obtain ⟨n0,hn0⟩:∃ n,n=st.nx:=⟨_,rfl⟩
 rw [← hob1] at gw pB pW pR pA pL pS pP
 rw [← hn0] at gn
 obtain ⟨J,hJ⟩:∃ J:Nat→St→Prop,J=fun i s=>s.tm 23 = .int .i64 i∧RdI g M N n0 i s.ob s.nx∧(∀ key,Off n0 key→key≠2 * uR+1→s.ob key=ob1 key)∧n0≤s.nx:=⟨_,rfl⟩
 have hNR:N.kR=2 * uR+1∧N.uR=uR:=by rw [hN];exact ⟨rfl,rfl⟩
 refine jE [(8,9),(23,62)] (readH g).length J rfl rfl (by
  rw [hJ]
  refine ⟨by simpa using g23,⟨0,[],by rw [hNR.1,hNR.2,← hob1];exact pR,fun t=>.inl ⟨rfl,rfl⟩,fun t l u n h=>by simp [jad,jW] at h,fun t t' l u n n' h=>by simp [jad,jW] at h⟩,fun key _ _=>by rw [hob1],by omega⟩) ?_
 clear pR
 intro i s hi hJs f
 rw [hJ] at hJs
 obtain ⟨s23,sR,sw,sn⟩:=hJs
 have s2:s.tm 2=jI nl intC M:=by rw [f.t 2 (by simp)];simp [g2]
 have s4:s.tm 4 = .ptr (2 * ub+1) ub 0:=by rw [f.t 4 (by simp)];simp [g4]
 have s7:s.tm 7 = .ptr (2 * uW+1) uW 0:=by rw [f.t 7 (by simp)];simp [g7]
 have s21:s.tm 21 = .sl tr (readH g).isEmpty (readH g).length ((readH g).flatMap jG):=by rw [f.t 21 (by simp)];simp [g21]
 have s22:s.tm 22 = .int .i64 (readH g).length:=by rw [f.t 22 (by simp)];simp [g22]
 have sd:s.df=[]:=by rw [f.d];simp [gd]
 have sr:s.ro=ro:=by rw [f.r];simp [gr]
 clear f
 by_cases hlt:i<(readH g).length
 ·have hwk:=jz hlt (by omega)
  have hiM:i<M.length:=by omega
  obtain ⟨a,k,ha,hk,e,hkey,hc⟩:=jq2 hmay hlt
  have hix:=Y1 jj tr (readH g).isEmpty (readH g) .i64 hlt
  have hpa:=fun ob=>jai (readH g) ob hlt
  simp only [e] at hpa
  have hmi:=Jh M hiM
  have hl3:(g.ts.flatMap ji)[a * 3+2]? = some (jI (g.ts[a]).nl opC (g.ts[a]).ops):=by rw [jb j8 g.ts ha (by decide:2<3)];rfl
  have hlk:((g.ts[a]).ops.flatMap opC)[k * 4+1]? = some (.int .i64 ((g.ts[a]).ops[k]).key):=by rw [jb jH (g.ts[a]).ops hk (by decide:1<4)];rfl
  have qB:s.ob (2 * ub+1)=some ⟨ub,.cells (j2 g)⟩:=by rw [sw _ (Off.new (by omega)) (by omega)];exact pB
  have qW:s.ob (2 * uW+1)=some ⟨uW,.cells (wC g lvl N)⟩:=by rw [sw _ (Off.new (by omega)) (by omega)];exact pW
  obtain ⟨ver,mr,rR,rr,ru,rj⟩:=sR
  rw [hNR.1,hNR.2] at rR
  have hrow:=fun (ob':ZO) (h:ob' (2 * uR+1)=s.ob (2 * uR+1)) (t:Int)=>show Xx ob' .int (.sl none true 0 []) false (.map (2 * uR+1) uR) (.int .i64 t)=some (jad mr t) by
   rw [W5 (f:=joh) mr (by simp [je,h,rR])]
   unfold jad
   cases jW mr t <;> rfl
  have nB:∀ m,s.nx≤m→¬ ub=m:=fun m hm=>by omega
  have nW:∀ m,s.nx≤m→¬ uW=m:=fun m hm=>by omega
  have nR:∀ m,s.nx≤m→¬ uR=m:=fun m hm=>by omega
  simp (disch:=first | (simp;done) | omega) [s23,s22,s21,s7,hlt,hix,hpa,j1,j7,two_inj,nW,qW,wC,hNR]
  refine ⟨by first | omega | (simp [sr];omega),?_⟩
  rw [hrow _ (by simp (disch:=first | (simp;done) | omega) [two_inj,nR])]
  simp (disch:=first | (simp;done) | omega) [j1,j7,two_inj,nB,qB,s4,j2,j5 j8,j5 jH,j5 jF,hl3,hlk,hmi,s2,Nat.add_assoc]
  obtain ⟨key,hkey'⟩:∃ key,key=Xy g (readH g)[i]:=⟨_,rfl⟩
  rw [← hkey'] at hkey
  rw [← hkey]
  refine Qm (cs:=rdC ((k:Int),key,M[i])) (by simp [j7,rdC]) rfl rfl ?_
  simp
  refine jjr (N:=N) (ob0:=s.ob) (ub0:=s.nx) (rs:=rdG g M i a) (r:=((k:Int),key,M[i])) (v:=jad mr a) (by simp) (rr a) (fun l u h=>?_) ?_ ?_ fun kill hkill=>?_
  ·have h1:=(h ▸ rr a:RowV N s.ob s.nx (.osl l u 0 (rdG g M i a).length 3) (rdG g M i a)).inv
   have h2:=ru _ _ _ _ h
   have h3:=h1.2.2.f.ne
   exact ⟨by simp (disch:=first | (simp;done) | omega) [h3],by first | omega | (simp [sr];omega)⟩
  ·simp [jM,j1,rdC]
  ·have:=j0a g M i (a:Int)
   unfold rdG
   omega
  have hk0:∀ key,Off n0 key→kill.any (Nat.beq key)=false:=fun key hkey=>by
   rcases hkill with rfl | ⟨l,u,h,rfl⟩
   ·rfl
   ·obtain ⟨h1,h2⟩:=ru _ _ _ _ h
    subst h1
    simp only [List.any_cons,List.any_nil,Bool.or_false]
    exact Yr (hkey u h2)
  have hk1:∀ m,s.nx≤m→kill.any (Nat.beq (2 * m+1))=false:=fun m hm=>by
   rcases hkill with rfl | ⟨l,u,h,rfl⟩
   ·rfl
   ·have h1:=(h ▸ rr a:RowV N s.ob s.nx (.osl l u 0 (rdG g M i a).length 3) (rdG g M i a)).inv
    simp only [List.any_cons,List.any_nil,Bool.or_false]
    exact Yr fun e=>h1.2.2.f m hm e.symm
  have hkR:=hk0 (2 * uR+1) (Off.new (by omega))
  have hkW:=hk0 (2 * uW+1) (Off.new (by omega))
  have hk9:=hk1 (s.nx+256) (by omega)
  have hk60:=hk1 (s.nx+2496) (by omega)
  simp
  refine js6 (f:=joh) (a:=(2 * (s.nx+2560)+1,s.nx+2560,(rdG g M i a).length+1)) (ver:=ver) (l:=2 * uR+1) (u:=uR) (k:=(a:Int)) mr (by simp) (by simp) (by simp [joh,V.strip]) (by simp (disch:=first | (simp;done) | omega) [JZ,hkR,two_inj,nR,rR]) (by first | omega | (simp [sr];omega)) ?_
  generalize hfl:List.flatMap rdC _++_=cs61
  simp (disch:=first | (simp;done) | omega) [XI,Qo,jfh,jch,rdOb,rdTk,lOf,Delta.wo,Delta.wt,List.any_append,hkW,hk9]
  refine ⟨⟨Yr (by omega),Yr (by omega),Yr (by omega),Yr (by omega),Yr (by omega),Yr (by omega),Yr (by omega)⟩,?_⟩
  simp [s23,hwk,hlt]
  rw [hJ]
  have hcs:cs61=(rdG g M i a++[((k:Int),key,M[i])]).flatMap rdC:=by rw [← hfl];simp [List.flatMap_append]
  have hstep:=fun t=>jve (g:=g) (M:=M) (i:=i) (p:=((a:Int),(k:Int))) (m:=M[i]) (by rw [List.getElem?_eq_getElem hlt,e]) (List.getElem?_eq_getElem hiM) t
  simp only at hstep
  rw [show Xy g ((a:Int),(k:Int))=key by rw [hkey',e]] at hstep
  have hA':joh (2 * (s.nx+2560)+1,s.nx+2560,(rdG g M i a).length+1) = .osl (2 * (s.nx+2560)+1) (s.nx+2560) 0 ((rdG g M i a).length+1) 3:=rfl
  have hfixN:∀ ub',s.nx+2560<ub'→Fix N ub' (2 * (s.nx+2560)+1):=fun ub' h=>by
   rw [hN]
   exact ⟨by show _≠2 * uA+1;omega,by show _≠2 * uL+1;omega,by show _≠2 * uS+1;omega,by show _≠2 * uP+1;omega,Off.new h,by omega⟩
  refine ⟨by simp,⟨ver+1,mset mr a (2 * (s.nx+2560)+1,s.nx+2560,(rdG g M i a).length+1),by rw [hNR.1,hNR.2];simp,fun t=>?_,fun t l u n h=>?_,fun t t' l u n n' h h'=>?_⟩,fun key hk hne=>?_,by first | omega | (simp;omega)⟩
  ·rw [jdw,hstep t]
   by_cases ht:t=a
   ·rw [if_pos ht,if_pos ht,hA',ht]
    refine .inr ⟨2 * (s.nx+2560)+1,s.nx+2560,by simp,?_,hfixN _ (by first | omega | (simp;done) | (simp;omega))⟩
    rw [← hcs]
    simp (disch:=first | (simp;done) | omega) [JZ,two_inj,show ¬ s.nx+2560=uR from by omega]
   ·rw [if_neg ht,if_neg ht]
    rcases rr t with h | ⟨l,u,h1,h2,h3⟩
    ·exact .inl h
    ·obtain ⟨l1,l2⟩:=ru _ _ _ _ h1
     have hkl:kill.any (Nat.beq l)=false:=by
      rcases hkill with rfl | ⟨l0,u0,h0,rfl⟩
      ·rfl
      ·simp only [List.any_cons,List.any_nil,Bool.or_false]
       refine Yr fun e=>ht ?_
       subst e
       obtain ⟨l3,l4⟩:=ru _ _ _ _ h0
       have:u=u0:=by omega
       subst this
       exact rj _ _ _ _ _ _ h1 h0
     refine .inr ⟨l,u,h1,?_,h3.up (by first | omega | (simp;omega))⟩
     have f1:=h3.f.ne
     have f2:¬ l=2 * uR+1:=by omega
     simp (disch:=first | (simp;done) | omega) [JZ,f1,f2,hkl,h2]
  ·rw [jdw] at h
   by_cases ht:t=a
   ·rw [if_pos ht,hA'] at h
    cases h
    exact ⟨rfl,by omega⟩
   ·rw [if_neg ht] at h
    exact ru _ _ _ _ h
  ·rw [jdw] at h h'
   have hoff:∀ t:Int,t≠(a:Int)→jad mr t≠.osl (2 * (s.nx+2560)+1) (s.nx+2560) 0 n 3∧jad mr t≠.osl (2 * (s.nx+2560)+1) (s.nx+2560) 0 n' 3:=fun t _=>by
    constructor <;>
    ·intro h
     have:=(h ▸ rr t:RowV N s.ob s.nx _ (rdG g M i t)).inv
     exact this.2.2.f (s.nx+2560) (by omega) rfl
   by_cases ht:t=a
   ·by_cases ht':t'=a
    ·rw [ht,ht']
    ·rw [if_pos ht,hA'] at h
     rw [if_neg ht'] at h'
     cases h
     exact absurd h' (hoff t' ht').2
   ·by_cases ht':t'=a
    ·rw [if_pos ht',hA'] at h'
     rw [if_neg ht] at h
     cases h'
     exact absurd h (hoff t ht).1
    ·rw [if_neg ht] at h
     rw [if_neg ht'] at h'
     exact rj _ _ _ _ _ _ h h'
  ·have f1:=hk.ne
   simp (disch:=first | (simp;done) | omega) [JZ,f1,hne,hk0 key hk,sw key hk hne]
 ·have:i=(readH g).length:=by omega
  subst this
  clear hlt hi
  obtain ⟨ver,mr,rR,rr,ru,rj⟩:=sR
  have st':=fun (u:Nat) (h1:u<n0) (h2:u≠uR)=>sw (2 * u+1) (Off.new h1) (by omega)
  simp [s23,s22,s7]
  refine Wc (by simp [sd]) ⟨by first | omega | (simp;omega),fun key hk=>?_,N,by rw [hN];simp,?_,by rw [hN];show ub≤uA;omega,by rw [hN];show ub≤uL;omega,by rw [hN];show ub≤uS;omega,by rw [hN];show ub≤uP;omega⟩
  ·simp
   rw [sw key (hk.up (by omega)) (hk uR (by omega))]
   exact gw key hk
  ·have hWk:Wk g lvl M N (atM O 0) (wlM g O 0) (wsM g O 0) (We g M O 0) s.ob s.nx:=by
    have hfx:∀ u,u<n0→u≠uA→u≠uL→u≠uS→u≠uP→Fix N s.nx (2 * u+1):=fun u h1 h2 h3 h4 h5=>by
     rw [hN]
     exact ⟨by show _≠2 * uA+1;omega,by show _≠2 * uL+1;omega,by show _≠2 * uS+1;omega,by show _≠2 * uP+1;omega,Off.new (by omega),by omega⟩
    refine ⟨?_,⟨ver,mr,rR,fun t=>?_⟩,⟨1,?_⟩,⟨0,?_⟩,⟨0,?_⟩,⟨0,[],?_,fun t=>.inl ⟨rfl,rfl⟩⟩,?_,?_,?_,?_,?_,?_,?_,?_⟩
    ·have:=(st' uW (by omega) (by omega)).trans pW
     rw [hN] at this ⊢;exact this
    ·have:=rr t
     unfold rdG at this
     rw [jvf] at this
     exact this
    ·have:=(st' uA (by omega) (by omega)).trans pA
     rw [hN];exact this
    ·have:=(st' uL (by omega) (by omega)).trans pL
     rw [hN];exact this
    ·have:=(st' uS (by omega) (by omega)).trans pS
     rw [hN];exact this
    ·have:=(st' uP (by omega) (by omega)).trans pP
     rw [hN];exact this
    ·have:=hfx uW (by omega) (by omega) (by omega) (by omega) (by omega)
     rw [hN] at this ⊢;exact this
    ·have:=hfx uR (by omega) (by omega) (by omega) (by omega) (by omega)
     rw [hN] at this ⊢;exact this
    ·rw [hN];exact Off.new (by omega)
    ·rw [hN];exact Off.new (by omega)
    ·rw [hN];exact Off.new (by omega)
    ·rw [hN];exact Off.new (by omega)
    ·rw [hN];refine ⟨?_,?_,?_,?_⟩ <;> simp <;> omega
    ·rw [hN];refine ⟨?_,?_,?_,?_,?_,?_⟩ <;> simp <;> omega
   exact hWk.keep (fun key _ _=>by simp) (by first | omega | (simp;omega))
end
def jh0 (g:Hist') (lvl:Int) (M O:List Int):Int:=if !jw g then 4 else if lvl<1∨3<lvl then 2 else if jce g M && (J5 g O && XV g lvl M O) then 0 else 14
theorem ev54 {g:Hist'} (hs:Small g) (hw:jw g=true) {on:Bool} {O:List Int} (hon:on=true→O=[]) (hO:O.length≤1000000000):Ev E 54 [.agg (j2 g),jI on intC O] (.bool (J5 g O)):=by
 obtain ⟨vc,evc,hvc⟩:=ev71 hs
 refine jT (af:=F54) rfl ?_
 rw [jtr hw] at hvc
 have hcl:=jhx g
 have hts:=hs.ts
 simp [F54,j2]
 cases on
 ·refine Y7 (vs:=[jI false intC O]) (by simp) rfl (sv68 O hO (by simp)) ?_
  rintro v ob1 tk1 ub1 ⟨⟨m,hm1,hm2,hv,hmo⟩,hold,htk,hub⟩
  simp only at hv hmo hold htk hub hm2
  subst hv
  simp
  refine Y7 (vs:=[.osl (2 * m+1) m 0 O.length 1]) (by simp) rfl (sv69 (XW O).symm (Qx O) hO hmo (by simp) (fun k hk=>by omega) (by simp)) ?_
  rintro w ob2 tk2 ub2 ⟨h1,h2,h3,h4⟩
  simp only at h1 h2 h3 h4
  have o4:ob2 4=some ⟨0,.cells (j2 g)⟩:=by
   rw [h2 4 (by omega) (fun k hk=>by omega)]
   simp
   rw [hold 4 (fun k hk=>by omega)]
   simp [j2]
  simp [j1,o4,j2]
  refine jV evc (by simp [j2]) rfl (by simp [j2]) ?_
  refine YL hvc fun tc addc=>?_
  simp
  refine Jg (vs:=[.osl (2 * m+1) m 0 O.length 1,.sl tc (comL g).isEmpty (comL g).length ((comL g).flatMap intC)]) (by simp) rfl rfl (by
   have hl:=(XW O).length_eq
   rw [← hl]
   exact evo70 (by simpa using h1) (fun k hk=>by omega) (by rw [hl];exact hO) (by omega) _ _) ?_
  rw [jcd hw (XW O).symm (Qx O)]
  simp
  exact j3 (by simp) (by simp) rfl
 ·have:=hon rfl
  subst this
  refine Y7 (vs:=[.sl none true 0 []]) (by simp [jI]) rfl sv68n ?_
  rintro v ob1 tk1 ub1 ⟨h1,h2,h3,h4⟩
  simp only at h1 h2 h3 h4
  subst h1 h2
  simp
  refine Y7 (vs:=[.sl none true 0 []]) (by simp) rfl j3v ?_
  rintro w ob2 tk2 ub2 ⟨h1,h2,h5⟩
  simp only at h1 h2 h5
  subst h1
  simp [j1]
  refine jV evc (by simp [j2]) rfl (by simp [j2]) ?_
  refine YL hvc fun tc addc=>?_
  simp
  refine jV (ev70 (nl:=(comL g).isEmpty) (n:=(comL g).length) (cs:=(comL g).flatMap intC)) (by simp) rfl (by simp) ?_
  have:=jcd (g:=g) (O:=[]) hw (S:=[]) (.refl _) .nil
  rw [← this]
  simp
  refine j3 (by simp) ?_ rfl
  cases comL g <;> simp
theorem jsv {F:Env} {Yf:YF} {f:FuncId} {xs:List A} {st:St} {ub:Nat} {K:St→Nat→Prop} {d:Option Nat} {nm:Bool} {vs:List V} {P:V × (ZO) × (Nat→Bool) × Nat→Prop} (hx:xs.map (eval F st.tm)=vs) (hs:F.sh nm f=true)
 (he:∃ r,EvS F Yf.y f vs st.ob st.tk st.ro ((st.fb+d.getD 0+1) * 1024) ub r∧P r) (h:∀ v ob' tk' ub',P (v,ob',tk',ub')→K (joi st d v ob' tk') ub'):j9 F Yf ⟨d,.call f xs,none,nm⟩ st ub K:=by
 obtain ⟨r,hr,hP⟩:=he
 exact QD hx hs ⟨r,hr,h r.1 r.2.1 r.2.2.1 r.2.2.2 hP⟩
theorem ev18 {g:Hist'} (hs:Small g) (lvl:Int) {mn on:Bool} {M O:List Int} (hM:M.length≤1000000) (hO:O.length≤1000000) (hon:on=true→O=[]):Ev E1 18 [.int .i64 lvl,.agg (j2 g),.agg [jI mn intC M,jI on intC O]] (.int .i64 (jh0 g lvl M O)):=by
 have e52:=Ev.e1 (ev52 hs)
 have e53:=Ev.e1 (ev53 hs (b:=mn) M hM)
 rw [is_eq] at e53
 refine jT (af:=F18) rfl ?_
 simp (disch:=first | (simp;done) | omega) [F18,j1,j2]
 refine jV e52 (by simp [j2]) rfl (by simp [j2]) ?_
 unfold jh0
 cases hw:jw g
 ·simp
  exact j3 rfl (by simp) rfl
 have e54:=Ev.e1 (ev54 hs hw (on:=on) hon (O:=O) (by omega))
 simp
 by_cases c1:lvl<1
 ·simp [c1]
  exact j3 rfl (by simp) rfl
 by_cases c2:3<lvl
 ·simp [c1,c2]
  exact j3 rfl (by simp) rfl
 simp (disch:=first | (simp;done) | omega) [c1,c2,j1,jI]
 refine J0 e53 (by simp [j2,jI]) rfl (by simp [j2,jI]) ?_
 cases hm:jce g M
 ·simp (disch:=first | (simp;done) | omega)
  exact j3 (by simp) (by simp) rfl
 simp (disch:=first | (simp;done) | omega) [j1]
 refine J0 e54 (by simp [j2,jI]) rfl (by simp [j2,jI]) ?_
 cases ho:J5 g O
 ·simp (disch:=first | (simp;done) | omega)
  exact j3 (by simp) (by simp) rfl
 simp (disch:=first | (simp;done) | omega) [j1]
 have h55:∀ (ob:ZO) (tk:Nat→Bool) (base ub:Nat),∃ r,EvS E1 noYF.y 55 [.int .i64 lvl,.agg (j2 g),jI mn intC M] ob tk 0 base ub r∧BegW g lvl M O ob ub r:=fun ob tk base ub=>by
  obtain ⟨r,h1,h2⟩:=sv55 (Yf:=noYF) hs hm lvl O (nl:=mn) (ob:=ob) (tk:=tk) (ro:=0) (base:=base) (ub:=ub) (by omega)
  exact ⟨r,EvS.e1 h1,h2⟩
 refine jsv (vs:=[.int .i64 lvl,.agg (j2 g),jI mn intC M]) (by simp [j2,jI]) rfl (h55 _ _ _ _) ?_
 rintro v ob1 tk1 ub1 ⟨b1,b2,N,b3,b4,b5,b6,b7,b8⟩
 simp only at b1 b2 b3 b4
 subst b3
 have o129:ob1 129=some ⟨64,.cells [jI mn intC M,jI on intC O]⟩:=by
  rw [b2 129 (fun m hm=>by first | omega | (simp at hm;omega))]
  simp [jI]
 simp (disch:=first | (simp;done) | omega) [j1,o129,jI]
 refine jeo (vs:=[.ptr N.kW N.uW 0,jI on intC O]) (by simp [jI]) rfl (sv56 hs hm ho hO (b4.keep (fun key _ _=>by first | rfl | simp) (by first | omega | (simp;done) | (simp;omega))) (by first | omega | (simp;done) | (simp;omega)) (by first | omega | (simp;done) | (simp;omega)) (by first | omega | (simp;done) | (simp;omega)) (by first | omega | (simp;done) | (simp;omega)) (by first | omega | (simp;done) | (simp;omega)) _ _) ?_
 rintro v2 ob2 tk2 ub2 h2
 simp only at h2
 subst h2
 rw [jn6 hm ho (by omega) (by omega)]
 cases XV g lvl M O
 ·simp
  exact j3 (by simp) (by simp) rfl
 ·simp
  exact j3 (by simp) (by simp) rfl
def j24 (r:V) (M O:List Int):Prop:=∃ a b:Option (Nat × Nat),r = .agg [.sl a false M.length (M.flatMap intC),.sl b false O.length (O.flatMap intC)]∧(∀ p∈a.toList++b.toList,p.1<64)
theorem endC2 {st:St} {p l u:Nat} {x y:V} {M O:List Int} {P:V→Prop} (hP:∀ r,j24 r M O→P r) (hd:st.df=[]) (hp:st.tm p = .ptr l u 0) (ho:st.ob l=some ⟨u,.cells [x,y]⟩)
 (hx:jb2 st x false M.length (M.flatMap intC)) (hy:jb2 st y false O.length (O.flatMap intC)):jep [.cell p (some 2)] P .ret st:=by
 have h1:(j1 st.ob l u)=some [x,y]:=by simp [j1,ho]
 have hres:[ARes.cell p (some 2)].mapM (jm st)=some [.agg [x,y]]:=by simp [jm,hp,h1]
 obtain ⟨a,ha,ha'⟩:=hx (nodup (List.flatMap V.toks [.agg [x,y]])) 0
 obtain ⟨b,hb,hb'⟩:=hy (nodup (List.flatMap V.toks [.agg [x,y]])) 1
 refine ⟨.agg [.sl a false M.length (M.flatMap intC),.sl b false O.length (O.flatMap intC)],?_,hP _ ⟨a,b,rfl,?_⟩⟩
 ·simp only [ja3,YW hd,YO hd,if_true,hres,Option.bind_some,Yh]
  generalize nodup (List.flatMap V.toks [.agg [x,y]])=keep at *
  simp only [JD,XM,XN,ha,hb,Nat.zero_add,Option.bind_some,Option.map_some]
  have hnd:nodup (List.flatMap V.toks [.agg [.sl a false M.length (M.flatMap intC),.sl b false O.length (O.flatMap intC)]])=true:=by
   simp only [List.flatMap_cons,List.flatMap_nil,List.append_nil,V.toks,jdh]
   rcases ha' with rfl | ⟨_,rfl⟩ <;> rcases hb' with rfl | ⟨_,rfl⟩ <;> rfl
  rw [if_pos hnd]
 ·intro p hp
  simp only [List.mem_append] at hp
  rcases hp with hp | hp
  ·rcases ha' with rfl | ⟨_,rfl⟩
   ·simp at hp
   ·simp at hp;subst hp;simp
  ·rcases hb' with rfl | ⟨_,rfl⟩
   ·simp at hp
   ·simp at hp;subst hp;simp
theorem jkx {ub:Nat} {r:V} {M O:List Int} {K:Delta→Prop} (h:j24 r M O) (hK:∀ a b add,K { v:=.agg [.sl a false M.length (M.flatMap intC),.sl b false O.length (O.flatMap intC)],add:=add }):wpD (Xv ub r) K:=by
 obtain ⟨a,b,rfl,hlt⟩:=h
 have e:∀ x y:V,toksRes (.agg [x,y])=x.tok++y.tok:=fun x y=>by simp [toksRes,V.toks]
 have hall:(toksRes (.agg [.sl a false M.length (M.flatMap intC),.sl b false O.length (O.flatMap intC)])).all (fun i=>Nat.blt i 64)=true:=by
  rw [e,List.all_eq_true]
  intro i hi
  have:∃ p∈a.toList++b.toList,p.1=i:=by
   rw [List.mem_append,j3u,j3u] at hi
   rcases hi with ⟨p,hp,h⟩ | ⟨p,hp,h⟩
   ·exact ⟨p,by simp [hp],h⟩
   ·exact ⟨p,by simp [hp],h⟩
  obtain ⟨p,hp,rfl⟩:=this
  rw [Nat.blt_eq]
  exact hlt p hp
 have hin:∀ (t:Option (Nat × Nat)) (nl:Bool) (n:Nat) (cs:List V),∃ t',Xq ub (.sl t nl n cs) = .sl t' nl n cs:=fun t nl n cs=>by
  cases t with
  | none=>exact ⟨none,rfl⟩
  | some p=>exact ⟨_,rfl⟩
 obtain ⟨a',ha⟩:=hin a false M.length (M.flatMap intC)
 obtain ⟨b',hb⟩:=hin b false O.length (O.flatMap intC)
 rw [Xv,if_pos hall,jN]
 have:=hK a' b' ((toksRes (.agg [.sl a false M.length (M.flatMap intC),.sl b false O.length (O.flatMap intC)])).map (ub + ·))
 have e2:Qp ub (.agg [.sl a false M.length (M.flatMap intC),.sl b false O.length (O.flatMap intC)]) = .agg [.sl a' false M.length (M.flatMap intC),.sl b' false O.length (O.flatMap intC)]:=by
  simp [Qp,jaz,ha,hb]
 rw [e2]
 exact this
def WB (l:List Int):List Int:=l.take (min l.length 60)
theorem Wu (l:List Int):(WB l).length≤60:=by unfold WB;rw [List.length_take];omega
theorem ev16 {a b:Bool} (M O:List Int):∃ r,Ev E 16 [.agg [jI a intC M,jI b intC O]] r∧j24 r (WB M) (WB O):=by
 have hm1:Qk false [.int .i64 (M.length:Int),.int .i64 60]=some (.int .i64 ((min M.length 60:Nat):Int)):=jbk M.length 60
 have hm2:Qk false [.int .i64 (O.length:Int),.int .i64 60]=some (.int .i64 ((min O.length 60:Nat):Int)):=jbk O.length 60
 have hs1:=jkr jF none a M (Nat.min_le_left M.length 60)
 have hs2:=jkr jF none b O (Nat.min_le_left O.length 60)
 have l1:=Wu M
 have l2:=Wu O
 change Qf _ _ _ _=some (.sl none _ (WB M).length ((WB M).flatMap intC)) at hs1
 change Qf _ _ _ _=some (.sl none _ (WB O).length ((WB O).flatMap intC)) at hs2
 obtain ⟨vm,evm,hvm⟩:=ev25 a (WB M) (by omega)
 obtain ⟨vo,evo,hvo⟩:=ev25 b (WB O) (by omega)
 refine XS (af:=F16) rfl (by decide) ?_
 simp [F16,jI,j1,hm1,hs1]
 refine J0 evm (by simp [jI]) rfl (by simp [jI]) ?_
 refine YL hvm fun a1 add1=>?_
 simp [j1,hm2,hs2]
 refine J0 evo (by simp [jI]) rfl (by simp [jI]) ?_
 refine YL hvo fun a2 add2=>?_
 simp [j1,j7]
 exact endC2 (l:=4) (u:=64) (x:=.sl a1 false (WB M).length ((WB M).flatMap intC)) (y:=.sl a2 false (WB O).length ((WB O).flatMap intC)) (fun r h=>h) (by simp) (by simp) (by simp) (Q4 _ _ _ _ _) (Q4 _ _ _ _ _)
theorem ev17 {g:Hist'} (hs:Small g) (lvl:Int) {mn on:Bool} {M O:List Int} (hM:M.length≤1000000) (hO:O.length≤1000000):Ev E 17 [.int .i64 lvl,.agg (j2 g),.agg [jI mn intC M,jI on intC O]] (.int .i64 (jh0 g lvl M O)):=by
 have e21:=ev21 hs
 have e22:=ev22 hs (b:=mn) M (by omega)
 have e23:=ev23 hs (nl:=on) O hO
 refine jT (af:=F17) rfl ?_
 simp [F17,j1,j2]
 refine jV e21 (by simp [j2]) rfl (by simp [j2]) ?_
 unfold jh0
 cases hw:jw g
 ·simp
  exact j3 rfl (by simp) rfl
 simp
 by_cases c1:lvl<1
 ·simp [c1]
  exact j3 rfl (by simp) rfl
 by_cases c2:3<lvl
 ·simp [c1,c2]
  exact j3 rfl (by simp) rfl
 simp [c1,c2,j1,jI]
 refine jV e22 (by simp [j2,jI]) rfl (by simp [j2,jI]) ?_
 cases hm:jce g M
 ·simp
  exact j3 rfl (by simp) rfl
 simp [j1]
 refine jV e23 (by simp [j2,jI]) rfl (by simp [j2,jI]) ?_
 cases ho:J5 g O
 ·simp
  exact j3 rfl (by simp) rfl
 have e24:=ev24 hs (nl:=mn) (on:=on) lvl hm ho
 simp [j1]
 refine jV e24 (by simp [j2,jI]) rfl (by simp [j2,jI]) ?_
 cases XV g lvl M O
 ·simp
  exact j3 rfl (by simp) rfl
 ·simp
  exact j3 rfl (by simp) rfl
theorem ev19 {g:Hist'} (hs:Small g) (lvl:Int) {mn on:Bool} {M O:List Int} (hM:M.length≤1000000) (hO:O.length≤1000000) (hon:on=true→O=[]):Ev E1 19 [.int .i64 lvl,.agg (j2 g),.agg [jI mn intC M,jI on intC O]] (.bool (jh0 g lvl M O == 0)):=by
 have e18:=ev18 hs lvl (mn:=mn) (on:=on) hM hO hon
 refine jT (af:=F19) rfl ?_
 simp [F19,j1,j2,jI]
 refine jV e18 (by simp [j2,jI]) rfl (by simp [j2,jI]) ?_
 simp
 exact j3 rfl (by simp) rfl
def j3s:List UInt8:=[98,101,103,105,110,32,115,10,114,101,97,100,32,115,32,120,32,110,105,108,10,111,107,32,115]
def H20:Hist':=⟨false,[[115]],false,[[120]],false,[⟨0,1,false,[⟨false,0,⟨0,0⟩⟩]⟩]⟩
theorem k20:(jQ E 100 noY).d 57 [.str j3s]=some (.tup [(.agg [(.sl (some (0,1)) false 1 [(.str [115])]),(.sl (some (1,1)) false 1 [(.str [120])]),(.sl (some (2,3)) false 1 [(.int .i64 0),(.int .i64 1),(.sl none false 1 [(.bool false),(.int .i64 0),(.int .i64 0),(.int .i64 0)])])]),(.int .i64 0),(.int .i64 0)]):=by kernel_rfl
end Go.Pv.T
namespace Go.Pv.T
open Go Go.Pv
end Go.Pv.T
namespace Go.Pv.T
open Go Go.Pv
end Go.Pv.T
namespace Go.Pv.T
open Go Go.Pv
theorem jxi:jhv = .seq (hdC jhv) jxh:=rfl
theorem few3O {h:Hist'} {Yf:YF} {ob0:ZO} {ub ro:Nat} {s0:St} {Q:Ex→St→Prop} {N1 N2:Nat} {S0 K0:V} (hru:ro≤ub) (hs:FewO h ob0 ub ro s0 25 45 N1 N2 S0 K0 (.sl none true 0 []) [])
 (hrest:∀ s Tv P,P.map (·.1)=(h.ts.take 45).map fewT→FewO h ob0 ub ro s 25 45 N1 N2 S0 K0 Tv P→wpC E Yf jxh s Q):wpC E Yf jhv s0 Q:=by
 rw [jxi]
 obtain ⟨f1,f2,f3,fd,fr,o1,o2,o3,gS,gK,gT,n0,n1,n2,ff⟩:=hs
 simp [hdC,jhv,jfn,jfo,tlC,S51]
 refine jE [(6,7),(67,98)] 45 (fun i s=>s.tm 6 = .int .i64 i∧i≤h.ts.length∧∃ Tv P,P.map (·.1)=(h.ts.take i).map fewT∧FewO h ob0 ub ro s 25 45 N1 N2 S0 K0 Tv P) rfl rfl ?_ ?_
 ·refine ⟨by simp,by simp,.sl none true 0 [],[],by simp,⟨by simp [f1],by simp [f2],by simp [f3],by simp [fd],by simp [fr],by simp [o1],by simp [o2],by simp [o3],gS.frame (fun _ _ _=>by simp) (Nat.le_refl _) (Nat.le_refl _),gK.frame (fun _ _ _=>by simp) (Nat.le_refl _) (Nat.le_refl _),⟨by simp,.inl ⟨rfl,rfl⟩⟩,n0,n1,by simp;omega,fun key hk=>by simp [ff key hk]⟩⟩
 rintro i s hi ⟨h4,hle,Tv,P,hP,f1,f2,f3,fd,fr,o1,o2,o3,gS,gK,gT,n0,n1,n2,ff⟩ f
 clear f
 have hend:¬ (i<h.ts.length∧i<45)→∀ s':St,(s'.tm 1=s.tm 1∧s'.tm 2=s.tm 2∧s'.tm 3=s.tm 3)→s'.df=s.df→s'.ro=s.ro→s'.ob=s.ob→s.nx≤s'.nx→wpC E Yf jxh s' Q:=by
  intro hx s' ⟨q1,q2,q3⟩ e2 e3 e4 e5
  refine hrest s' Tv P (hP.trans (j13 hle hi hx)) ⟨q1.trans f1,q2.trans f2,q3.trans f3,by rw [e2];exact fd,by rw [e3];exact fr,by rw [e4];exact o1,by rw [e4];exact o2,by rw [e4];exact o3,by rw [e4];exact gS,by rw [e4];exact gK,?_,n0,n1,by omega,fun key hk=>by rw [e4];exact ff key hk⟩
  exact gT.frame (fun _ _ _=>by rw [e4]) e5
 have o1':s.ob (2 * ub+1)=some ⟨ub,.cells [jI h.sn JJ h.ss,jI h.kn JJ h.ks,jI h.tn ji h.ts]⟩:=o1
 by_cases hlt:i<h.ts.length
 ·by_cases hl5:i<45
  ·have hw:=jz hl5 (by omega)
   have hl5':(i:Int)<45:=by omega
   obtain ⟨t,ht⟩:∃ t,h.ts[i]=t:=⟨_,rfl⟩
   have hmn:=jbk t.ops.length 25
   rw [show ((25:Nat):Int)=25 from rfl] at hmn
   have hss:=ju4 jH t.nl t.ops 25 .i64
   have hmm:min t.ops.length 25=(t.ops.take 25).length:=by rw [List.length_take,Nat.min_comm]
   rw [hmm] at hss hmn
   generalize hL:t.ops.take 25=L at *
   have hLl:L.length≤25:=by rw [← hL,List.length_take];omega
   have hlfO:(L.flatMap opC).all V.leaf=true:=by rw [List.all_flatMap,List.all_eq_true];intro _ _;rfl
   obtain ⟨z,hz⟩:∃ z,s.nx=z:=⟨_,rfl⟩
   simp [h4,f1,o1',j1,hlt,hl5',j5 j8,jX j8,ht,ji,fr,j7,hz]
   refine ⟨by omega,?_⟩
   refine YQ (cs:=[]) rfl rfl rfl ?_
   simp [j1]
   obtain ⟨zB,hB⟩:∃ y,(z+64+64+64+64+64+64+64+64+64+64+64+64+64+64+64+64)=y:=⟨_,rfl⟩
   obtain ⟨zA,hA⟩:∃ y,(z+64+64+64+64+64+64+64+64+64+64+64+64+64+64)=y:=⟨_,rfl⟩
   have hAB:zB=zA+128:=by omega
   have hA0:z+896=zA:=by omega
   rw [hB,hA]
   have w1:¬ 2 * zA=2 * zB:=by omega
   have w2:¬ 2 * zB=2 * zA:=by omega
   simp [j1,w1,hmn,hss]
   refine jwn (f:=opC) (l:=L) (z:=zB) (by simp) (by simp) (by simp [fr];omega) (by simp [jI,jM,jA jH]) jH (by decide) hlfO (by omega) (by omega) ?_
   intro s1 u hu c0 cf ct cd cr cb ck
   have hu1:zB≤u:=by omega
   have hu2:u≤zB+512:=by omega
   have cA:s1.ob (2 * zA+1)=some ⟨zA,.cells [.int .i64 t.s,.int .i64 t.f,jI t.nl opC t.ops]⟩:=by
    rw [cf _ (by omega) (by omega)];simp [w1]
   have cO:∀ key,key≠2 * zA+1→key≠2 * zB+1→key≠2 * (zB+512)+1→s1.ob key=s.ob key:=by
    intro key k1 k2 k3
    rw [cf _ k2 (by omega)]
    simp [k1,k2]
   have v1:¬ 2 * zA=2 * (ub+192):=by omega
   have v2:¬ 2 * (ub+192)=2 * zA:=by omega
   have c3:s1.ob (2 * (ub+192)+1)=some ⟨ub+192,.cells [S0,K0,Tv]⟩:=(cO _ (by omega) (by omega) (by omega)).trans o3
   have hra:ro≤zA:=by omega
   simp [ct,j1,cA,cr,fr,j7,f3,c3,v2,hra]
   obtain ⟨p,hp⟩:∃ p,(fewT t,u)=p:=⟨_,rfl⟩
   have hpu:txU p=[.int .i64 t.s,.int .i64 t.f,.osl (2 * u+1) u 0 L.length 4]:=by
    rw [← hp]
    simp [txU,fewT,← hL]
   refine YQ (cs:=txU p) (by rw [hpu];simp [j7]) rfl (by rw [hpu];rfl) ?_
   simp
   obtain ⟨zE,hE⟩:∃ y,(zB+64+64+64+64+64+64+64+64+64+64+64+64+64+64)=y:=⟨_,rfl⟩
   have hE0:zB+896=zE:=by omega
   rw [hE]
   have hPl:P.length=i:=by
    have:=congrArg List.length hP
    rw [List.length_map,List.length_map,List.length_take] at this
    omega
   have hp2:p.2=u:=by rw [← hp]
   have hp1:p.1=fewT t:=by rw [← hp]
   have hpo:p.1.ops=L:=by rw [hp1];exact hL
   rw [hz] at gT n2
   have hsame:∀ y,y<z→s1.ob (2 * y+1)=s.ob (2 * y+1):=fun y y2=>cO _ (by omega) (by omega) (by omega)
   refine jln (lo:=N2) (hi:=z) (P:=P) (p:=p) ?_ (by omega) (by simp [cr,fr];omega) (by simp [jM,j1];rfl) ?_ n2 (by omega) ?_
   ·simp
    refine gT.frame (fun y y1 y2=>?_) (Nat.le_refl _)
    have e1:¬ 2 * y=2 * zE:=by omega
    have e2:¬ 2 * y=2 * zA:=by omega
    simp [e1,e2]
    exact hsame y y2
   ·refine ⟨by rw [hp1];rfl,by rw [hp2];omega,by rw [hp2];omega,L.flatMap opC,?_,?_,?_⟩
    ·rw [hp2]
     have e1:¬ 2 * u=2 * zE:=by omega
     have e2:¬ 2 * u=2 * zA:=by omega
     simp [e1,e2]
     exact c0
    ·rw [hpo,jA jH];exact Nat.le_refl _
    ·rw [hpo,← jA jH,List.take_length]
   intro s4 v4 hT4 x4 xt xd xr xb xk
   obtain ⟨hlf4,hc4⟩:=hT4.leaf
   have x5:∀ y,(y<N2)→s4.ob (2 * y+1)=s.ob (2 * y+1):=by
    intro y hy
    rw [x4 _ (fun y y1 y2=>by omega) (by omega)]
    have e1:¬ 2 * y=2 * zE:=by omega
    have e2:¬ 2 * y=2 * zA:=by omega
    simp [e1,e2]
    exact hsame y (by omega)
   have x3:=(x5 (ub+192) (by omega)).trans o3
   have hP1:(P++[p]).map (·.1)=(h.ts.take (i+1)).map fewT:=by
    rw [List.map_append,hP,List.take_succ_eq_append_getElem hlt,List.map_append,ht,← hp]
    rfl
   simp [xt,ct,f3,j1,x3,xr,cr,fr,j7,hlf4,hc4,h4,hw]
   have b1:¬ 2 * ub=2 * (ub+192):=by omega
   have b2:¬ 2 * (ub+64)=2 * (ub+192):=by omega
   refine ⟨by omega,hl5,by omega,v4,P++[p],by rw [hP1,List.map_take],⟨by simp [xt,ct,f1],by simp [xt,ct,f2],by simp [xt,ct,f3],by simp [xd,cd,fd],by simp [xr,cr,fr],by simp [b1];exact (x5 ub (by omega)).trans o1,by simp [b2];exact (x5 (ub+64) (by omega)).trans o2,by simp,
    gS.frame (fun y h1 h2=>?_) (Nat.le_refl _) (Nat.le_refl _),gK.frame (fun y h1 h2=>?_) (Nat.le_refl _) (Nat.le_refl _),hT4.frame (fun y h1 h2=>?_) (by simp <;> omega),n0,n1,by simp <;> omega,fun key hk=>?_⟩⟩
   ·have e1:¬ 2 * y=2 * (ub+192):=by omega
    simp [e1]
    exact x5 y (by omega)
   ·have e1:¬ 2 * y=2 * (ub+192):=by omega
    simp [e1]
    exact x5 y (by omega)
   ·have e1:¬ 2 * y=2 * (ub+192):=by omega
    simp [e1]
   ·have e1:=hk (ub+192) (by omega)
    have e2:=hk zE (by omega)
    have e3:=hk zA (by omega)
    simp [e1]
    rw [x4 _ (fun y y1 y2=>hk y (by omega)) (hk _ (by omega))]
    simp [e2,e3]
    exact (cO key e3 (hk zB (by omega)) (hk (zB+512) (by omega))).trans (ff key hk)
  ·have hl5':¬ (i:Int)<45:=by omega
   simp [h4,f1,o1',j1,hlt,hl5']
   exact hend (by omega) _ ⟨by simp,by simp,by simp⟩ (by simp) (by simp) (by funext k;simp) (by simp;omega)
 ·simp [h4,f1,o1',j1,hlt]
  exact hend (by omega) _ ⟨by simp,by simp,by simp⟩ (by simp) (by simp) (by funext k;simp) (by simp;omega)
def FewP (h:Hist') (ob:ZO) (ub:Nat) (r:V × (ZO) × (Nat→Bool) × Nat):Prop :=
 ∃ Sv Kv Tv P N1 N2,r.1 = .agg [Sv,Kv,Tv]∧StO r.2.1 (ub+256) N1 (YE 25 h.ss) Sv∧StO r.2.1 N1 N2 (YE 45 h.ks) Kv∧TsO r.2.1 N2 r.2.2.2 P Tv∧P.map (·.1)=(h.ts.take 45).map fewT∧ub+256≤N1∧N1≤N2∧N2≤r.2.2.2 ∧
  ∀ key,(∀ m,ub≤m→key≠2 * m+1)→r.2.1 key=ob key
theorem sv51 {Yf:YF} {h:Hist'} {ob:ZO} {tk:Nat→Bool} {ro base ub:Nat} (hro:ro≤ub):∃ r,EvS E Yf.y 51 [.agg (j2 h)] ob tk ro base ub r∧FewP h ob ub r:=by
 refine Qb (af:=S51) rfl (by decide) ?_
 show wpC E Yf S51.body _ (WU S51.res _)
 refine few0S hro fun s1 h1=>?_
 refine few1O hro h1 fun s2 Sv h2=>?_
 refine few2O hro h2 fun s3 Kv h3=>?_
 refine few3O hro h3 fun s4 Tv P hP h4=>?_
 obtain ⟨f1,f2,f3,fd,fr,o1,o2,o3,gS,gK,gT,n0,n1,n2,ff⟩:=h4
 obtain ⟨lS,cS⟩:=gS.leaf
 obtain ⟨lK,cK⟩:=gK.leaf
 obtain ⟨lT,cT⟩:=gT.leaf
 have b1:¬ 2 * (ub+192)=2 * (ub+64):=by omega
 have hre:S51.res=[.cell 2 (some 3)]:=rfl
 rw [hre]
 generalize hP':WU [.cell 2 (some 3)] (FewP h ob ub)=Q
 simp [jxh,jhv,jfn,jfo,tlC,S51,f2,f3,o2,o3,j1,fr,j7,lS,lK,lT]
 refine ⟨by omega,?_⟩
 rw [← hP']
 refine ⟨(.agg [Sv,Kv,Tv],_,_,_),by simp [endS,fd,jm,f2,j1];exact ⟨rfl,rfl,rfl⟩,Sv,Kv,Tv,P,_,_,rfl,gS.frame (fun y h1 h2=>?_) (Nat.le_refl _) (Nat.le_refl _),gK.frame (fun y h1 h2=>?_) (Nat.le_refl _) (Nat.le_refl _),gT.frame (fun y h1 h2=>?_) ?_,hP,n0,n1,?_,fun key hk=>?_⟩
 ·have e1:¬ 2 * y=2 * (ub+64):=by omega
  simp [e1]
 ·have e1:¬ 2 * y=2 * (ub+64):=by omega
  simp [e1]
 ·have e1:¬ 2 * y=2 * (ub+64):=by omega
  simp [e1]
 ·simp;omega
 ·simp;omega
 ·have e1:=hk (ub+64) (by omega)
  simp [e1]
  exact ff key hk
def jbd (t:Txn'):Txn':={ t with ops:=t.ops.take 6 }
def QX (h:Hist'):Hist':=if 8<(jci h).ts.length then { jci h with tn:=true,ts:=[] } else { jci h with ts:=(jci h).ts.map jbd }
def mixT (P:List (Txn' × Nat)) (i:Nat):List (Txn' × Nat):=P.mapIdx fun j p=>if j<i then (jbd p.1,p.2) else p
theorem WT {P:List (Txn' × Nat)} {i:Nat}:(mixT P i).length=P.length:=by simp [mixT]
theorem jr8 {P:List (Txn' × Nat)}:mixT P 0=P:=by
 apply List.ext_getElem?
 intro n
 simp [mixT]
theorem jv4 {P:List (Txn' × Nat)}:(mixT P P.length).map (·.1)=(P.map (·.1)).map jbd:=by
 apply List.ext_getElem?
 intro n
 simp only [mixT,List.getElem?_map,List.getElem?_mapIdx]
 cases h:P[n]? with
 | none=>rfl
 | some o =>
  have:=(List.getElem?_eq_some_iff.1 h).1
  simp [this]
theorem jlh {P:List (Txn' × Nat)} {i:Nat} (h:i<P.length):(mixT P i)[i]'(by rw [WT];exact h)=P[i]:=by simp [mixT]
theorem jjd {P:List (Txn' × Nat)} {i:Nat} (_:i<P.length):mixT P (i+1)=(mixT P i).modify i fun p=>(jbd p.1,p.2):=by
 apply List.ext_getElem?
 intro n
 simp only [mixT,List.getElem?_mapIdx,List.getElem?_modify]
 cases hn:P[n]? with
 | none=>simp
 | some o =>
  simp only [Option.map_some,Option.map_eq_map]
  by_cases h3:i=n
  ·subst h3
   simp
  ·simp only [if_neg h3]
   by_cases h1:n<i
   ·rw [if_pos h1,if_pos (by omega)]
   ·rw [if_neg (by omega),if_neg h1]
theorem jqb:∀ {P:List (Txn' × Nat)} {i:Nat} (h:i<P.length),j7 (P.flatMap txU) (i * 3+2) [.osl (2 * (P[i]).2+1) (P[i]).2 0 (jbd (P[i]).1).ops.length 4]=(P.modify i fun p=>(jbd p.1,p.2)).flatMap txU
 | [],_,h=>by simp at h
 | p::P,0,_=>by simp [List.modify_cons,j7,txU,jbd]
 | p::P,i+1,h=>by
  have ih:=jqb (P:=P) (i:=i) (by simpa using h)
  simp only [List.modify_cons,Nat.add_one_ne_zero,if_false,Nat.add_sub_cancel,List.flatMap_cons,List.getElem_cons_succ]
  rw [← ih]
  have:(i+1) * 3+2=(txU p).length+(i * 3+2):=by simp;omega
  rw [this]
  simp only [j7,Nat.add_assoc]
  rw [List.take_length_add_append,List.drop_length_add_append]
  simp only [List.append_assoc]
theorem InO.six {ob:ZO} {lo hi:Nat} {p:Txn' × Nat} (h:InO ob lo hi p):InO ob lo hi (jbd p.1,p.2):=by
 obtain ⟨X,h1,h2,h3⟩:=h.ob
 refine ⟨h.nl,h.lo,h.hi,X,h1,?_,?_⟩
 ·simp only [jbd,List.length_take];omega
 ·have e:X.take ((jbd p.1).ops.length * 4)=(X.take (p.1.ops.length * 4)).take ((jbd p.1).ops.length * 4):=by
   rw [List.take_take]
   congr 1
   simp only [jbd,List.length_take]
   omega
  rw [e,h3,juv]
  congr 1
  simp only [jbd,List.length_take]
  rcases Nat.le_total p.1.ops.length 6 with h' | h'
  ·rw [Nat.min_eq_right h',List.take_length,List.take_of_length_le h']
  ·rw [Nat.min_eq_left h']
theorem ju5 {L u n i:Nat} (h:i≤n):Qf 4 none (some (.int .i64 (i:Int))) (.osl L u 0 n 4)=some (.osl L u 0 i 4):=by
 simp [Qf,X3,h]
theorem TsO.len {ob:ZO} {lo hi:Nat} {P:List (Txn' × Nat)} {v:V} (h:TsO ob lo hi P v):jas v=some (.int .i64 P.length):=by
 rcases h.2 with ⟨rfl,rfl⟩ | ⟨_,u,_,_,_,rfl,_⟩ <;> rfl
theorem ev15 (h:Hist'):∃ v,Ev E 15 [.agg (j2 h)] v∧jpt v (QX h):=by
 refine XS (af:=F15) rfl (by decide) ?_
 generalize hPP:(jep [.cell 2 (some 3)] fun r=>jpt r (QX h))=PP
 simp [F15,j2,j1,hPP]
 refine Y7 (vs:=[.agg (j2 h)]) (by simp [j2]) rfl (sv51 (h:=h) (Nat.zero_le _)) ?_
 rintro v ob1 tk1 ub1 ⟨Sv,Kv,Tv,P,N1,N2,hv,gS,gK,gT,hP,n0,n1,n2,ff⟩
 simp only at hv gS gK gT hP n0 n1 n2 ff
 subst hv
 obtain ⟨lS,cS⟩:=gS.leaf
 obtain ⟨lK,cK⟩:=gK.leaf
 obtain ⟨lT,cT⟩:=gT.leaf
 have hTl:=gT.len
 have b1:ob1 1=some ⟨0,.cells (j2 h)⟩:=by rw [ff 1 (fun m hm=>by omega)];simp [j2]
 have b2:ob1 129=some ⟨64,.cells [.sl none true 0 [],.sl none true 0 [],.sl none true 0 []]⟩:=by rw [ff 129 (fun m hm=>by omega)];simp
 have e1:(QX h).ss=YE 25 h.ss:=by unfold QX;split <;> rfl
 have e2:(QX h).sn=(YE 25 h.ss).isEmpty:=by unfold QX;split <;> rfl
 have e3:(QX h).ks=YE 45 h.ks:=by unfold QX;split <;> rfl
 have e4:(QX h).kn=(YE 45 h.ks).isEmpty:=by unfold QX;split <;> rfl
 have hPl:(jci h).ts.length=P.length:=by
  show ((h.ts.take 45).map fewT).length=P.length
  rw [← hP,List.length_map]
 simp [b1,j1,j2,j7]
 generalize hK:jlk E noYF _ PP=K
 have rest:∀ (s:St) (P':List (Txn' × Nat)) (Tv':V),P'.length≤8→(QX h).ts=(P'.map (·.1)).map jbd→(QX h).tn=P'.isEmpty→s.tm 1 = .ptr 1 0 0→s.tm 2 = .ptr 129 64 0→s.df=[]→s.ro=0→s.fb=0→ub1≤s.nx →
  s.ob 1=some ⟨0,.cells [Sv,Kv,Tv']⟩→s.ob 129=some ⟨64,.cells [.sl none true 0 [],.sl none true 0 [],.sl none true 0 []]⟩→StO s.ob (192+256) N1 (YE 25 h.ss) Sv→StO s.ob N1 N2 (YE 45 h.ks) Kv→TsO s.ob N2 ub1 P' Tv'→K .nrm s:=by
  intro s P' Tv' hl8 ht8 hn8 g1 g2 gd gr gb gn p1 p2 gS gK gT
  rw [← hK,jhn]
  clear hK
  have lT':=gT.leaf
  simp
  refine jE [(3,3),(11,37)] P'.length (fun i s=>s.tm 3 = .int .i64 i∧s.ob 1=some ⟨0,.cells [Sv,Kv,Tv']⟩∧s.ob 129=some ⟨64,.cells [.sl none true 0 [],.sl none true 0 [],.sl none true 0 []]⟩∧StO s.ob (192+256) N1 (YE 25 h.ss) Sv∧StO s.ob N1 N2 (YE 45 h.ks) Kv∧TsO s.ob N2 ub1 (mixT P' i) Tv') rfl rfl
   ⟨by simp,by simp [p1],by simp [p2],gS.frame (fun _ _ _=>by simp) (Nat.le_refl _) (Nat.le_refl _),gK.frame (fun _ _ _=>by simp) (Nat.le_refl _) (Nat.le_refl _),by rw [jr8];exact gT.frame (fun _ _ _=>by simp) (Nat.le_refl _)⟩ ?_
  clear gS gK
  rintro i s1 hi ⟨h3,o1,o2,gS,gK,gX⟩ f
  have f1:s1.tm 1 = .ptr 1 0 0:=by rw [f.t 1 (by simp)];simp [g1]
  have f2:s1.tm 2 = .ptr 129 64 0:=by rw [f.t 2 (by simp)];simp [g2]
  have fd:s1.df=[]:=by rw [f.d];simp [gd]
  have fb:s1.fb=0:=by rw [f.b];simp [gb]
  have fr:s1.ro=0:=by rw [f.r];simp [gr]
  clear f
  have hXl:=gX.len
  rw [WT] at hXl
  by_cases hlt:i<P'.length
  ·have hw:=jz hlt (by omega)
   have hl3:i<(mixT P' i).length:=by rw [WT];exact hlt
   rcases gX.2 with ⟨he,_⟩ | ⟨hne,u,h1,h2,h4,rfl,h5⟩
   ·rw [he] at hl3;simp at hl3
   have hin:=gX.1 (P'[i]) (by rw [← jlh hlt];exact List.getElem_mem hl3)
   have hixT:JL 3 (.osl (2 * u+1) u 0 (mixT P' i).length 3) (.int .i64 (i:Int))=some (.ptr (2 * u+1) u (i * 3)):=by simp [JL,hl3]
   have hcell:((mixT P' i).flatMap txU)[i * 3+2]? = some (.osl (2 * (P'[i]).2+1) (P'[i]).2 0 (P'[i]).1.ops.length 4):=by
    rw [jb WJ _ hl3 (by decide:2<3),jlh hlt]
    rfl
   have hset:=jqb (P:=mixT P' i) (i:=i) hl3
   rw [← jjd hlt] at hset
   simp only [jlh hlt] at hset
   have hmn:=jbk (P'[i]).1.ops.length 6
   rw [show ((6:Nat):Int)=6 from rfl] at hmn
   have hsl:=fun L u=>ju5 (L:=L) (u:=u) (n:=(P'[i]).1.ops.length) (i:=min (P'[i]).1.ops.length 6) (Nat.min_le_left _ _)
   have hs6:(jbd (P'[i]).1).ops.length=min (P'[i]).1.ops.length 6:=by simp only [jbd,List.length_take,Nat.min_comm]
   rw [hs6] at hset
   have n1':¬ 2 * u=0:=by omega
   have n2':¬ 2 * u=128:=by omega
   have hlen:i * 3+2+1≤((mixT P' i).flatMap txU).length:=by rw [jA WJ];omega
   simp [h3,f1,o1,j1,hXl,hlt,hixT,h5,hcell,hmn,hsl,fr,n1',n2',hset]
   have hq:∀ q∈mixT P' (i+1),InO s1.ob N2 ub1 q∧q.2≠u:=by
    intro q hq
    rw [jjd hlt] at hq
    rcases jgh hq with hq | ⟨x,hx,rfl⟩
    ·exact ⟨gX.1 q hq,h4 q hq⟩
    ·have hx':=List.mem_of_getElem? hx
     exact ⟨(gX.1 x hx').six,h4 x hx'⟩
   have hll:(mixT P' (i+1)).length=(mixT P' i).length:=by rw [WT,WT]
   refine ⟨by have:=hlen;simp only [List.length_flatMap,WJ] at this;exact this,hw,o2,gS.frame (fun y y1 y2=>?_) (Nat.le_refl _) (Nat.le_refl _),gK.frame (fun y y1 y2=>?_) (Nat.le_refl _) (Nat.le_refl _),fun q hqm=>?_,.inr ⟨?_,u,h1,h2,fun q hqm=>(hq q hqm).2,by rw [hll],by simp⟩⟩
   ·have w:¬ 2 * y=2 * u:=by omega
    simp [w]
   ·have w:¬ 2 * y=2 * u:=by omega
    simp [w]
   ·obtain ⟨a,b⟩:=hq q hqm
    have w:¬ 2 * q.2=2 * u:=by omega
    exact a.frame (by simp [w]) (Nat.le_refl _)
   ·intro e
    rw [e] at hll
    simp at hll
    omega
  ·have:i=P'.length:=by omega
   subst this
   simp [h3,f1,o1,j1,hXl,f2,o2,j7,fr,gS.leaf.1,gK.leaf.1,lT'.1]
   rw [← hPP]
   have hml:(mixT P' P'.length).isEmpty=(QX h).tn:=by rw [hn8];exact jer WT
   refine kE1 (g:=QX h) (l:=129) (u:=64) (x:=Sv) (y:=Kv) (z:=Tv') (by simp [fd]) (by simp [f2]) (by simp) ?_ ?_ ?_
   ·rw [e1,e2]
    refine StO.out (lo:=192+256) (hi:=N1) (gS.frame (fun y q1 q2=>?_) (Nat.le_refl _) (Nat.le_refl _)) (by simp [fr])
    have w:¬ 2 * y=128:=by omega
    simp [w]
   ·rw [e3,e4]
    refine StO.out (lo:=N1) (hi:=N2) (gK.frame (fun y q1 q2=>?_) (Nat.le_refl _) (Nat.le_refl _)) (by simp [fr])
    have w:¬ 2 * y=128:=by omega
    simp [w]
   ·have hl9:(QX h).ts.length=(mixT P' P'.length).length:=by rw [ht8,WT];simp
    rw [hl9,← hml,ht8,← jv4]
    refine TsO.out (lo:=N2) (hi:=ub1) (gX.frame (fun y q1 q2=>?_) (Nat.le_refl _)) (by simp [fr])
    have w:¬ 2 * y=128:=by omega
    simp [w]
 refine ⟨⟨lS,lK,lT⟩,?_⟩
 simp [hTl]
 have q1:∀ y,192≤y→¬ 2 * y=0:=fun y hy=>by omega
 by_cases h8:8<P.length
 ·have h8':(8:Int)<(P.length:Int):=by omega
  simp [h8',j1,j7]
  exact rest _ [] (.sl none true 0 []) (by simp) (by unfold QX;rw [if_pos (by rw [hPl];exact h8)];rfl) (by unfold QX;rw [if_pos (by rw [hPl];exact h8)];rfl) (by simp) (by simp) (by simp) (by simp) (by simp) (by simp <;> omega) (by simp) (by simp [b2])
   (gS.frame (fun y y1 y2=>by simp [q1 y (by omega)]) (Nat.le_refl _) (Nat.le_refl _)) (gK.frame (fun y y1 y2=>by simp [q1 y (by omega)]) (Nat.le_refl _) (Nat.le_refl _)) ⟨by simp,.inl ⟨rfl,rfl⟩⟩
 ·have h8':¬ (8:Int)<(P.length:Int):=by omega
  simp [h8']
  exact rest _ P Tv (by omega) (by unfold QX;rw [if_neg (by rw [hPl];exact h8),hP];rfl) (by unfold QX;rw [if_neg (by rw [hPl];exact h8)];show ((h.ts.take 45).map fewT).isEmpty=_;rw [← hP];exact jer (by simp)) (by simp) (by simp) (by simp) (by simp) (by simp) (by simp <;> omega) (by simp) (by simp [b2])
   (gS.frame (fun y y1 y2=>by simp [q1 y (by omega)]) (Nat.le_refl _) (Nat.le_refl _)) (gK.frame (fun y y1 y2=>by simp [q1 y (by omega)]) (Nat.le_refl _) (Nat.le_refl _)) (gT.frame (fun y y1 y2=>by simp [q1 y (by omega)]) (Nat.le_refl _))
theorem j35 (h:Hist'):Small (QX h):=by
 have hs:=jqm h
 unfold QX
 split
 ·exact ⟨hs.ss,hs.sl,hs.ks,hs.kl,by simp,by simp⟩
 ·refine ⟨hs.ss,hs.sl,hs.ks,hs.kl,by simpa using hs.ts,fun t ht=>?_⟩
  simp only [List.mem_map] at ht
  obtain ⟨t',ht',rfl⟩:=ht
  have:=hs.os t' ht'
  simp only [jbd,List.length_take]
  omega
theorem jxg (h:Hist'):QX (QX h)=QX h:=by
 have e1:YE 25 (jci h).ss=(jci h).ss:=jno 25 h.ss
 have e2:YE 45 (jci h).ks=(jci h).ks:=jno 45 h.ks
 by_cases c:8<(jci h).ts.length
 ·have e:QX h = { jci h with tn:=true,ts:=[] }:=by unfold QX;rw [if_pos c]
  have e0:jci { jci h with tn:=true,ts:=[] } = { jci h with tn:=true,ts:=[] }:=by
   show Hist'.mk _ _ _ _ _ _=_
   simp only [e1,e2]
   rfl
  rw [e]
  unfold QX
  rw [e0]
  rfl
 ·have e:QX h = { jci h with ts:=(jci h).ts.map jbd }:=by unfold QX;rw [if_neg c]
  have e3:(((jci h).ts.map jbd).take 45).map fewT=(jci h).ts.map jbd:=by
   show ((((h.ts.take 45).map fewT).map jbd).take 45).map fewT=((h.ts.take 45).map fewT).map jbd
   rw [← List.map_take,← List.map_take,List.take_take,List.map_map,List.map_map,List.map_map]
   refine List.map_congr_left fun t _=>?_
   simp [fewT,jbd,List.take_take]
  have e0:jci { jci h with ts:=(jci h).ts.map jbd } = { jci h with ts:=(jci h).ts.map jbd }:=by
   show Hist'.mk _ _ _ _ _ _=_
   simp only [e1,e2,e3]
   simp [jci]
   cases h.ts <;> simp
  rw [e]
  unfold QX
  rw [e0]
  have c':¬ 8<((jci h).ts.map jbd).length:=by simpa using c
  simp only
  rw [if_neg c',List.map_map]
  congr 1
  refine List.map_congr_left fun t _=>?_
  simp [jbd,List.take_take]
theorem jtn {g:Hist'} {lvl:Int} {M O:List Int} (h:jto g lvl M O=0):jjv g lvl M O=XV g lvl M O:=by
 obtain ⟨_,h1,h3,hm,ho⟩:=err0 h
 simp [jjv,h,jw7 h1 h3 hm ho]
theorem err_lvl {g:Hist'} {M O:List Int}:jto g 2 M O=jto g 1 M O∧jto g 3 M O=jto g 1 M O:=by simp [jto]
theorem h32 {g:Hist'} {M O:List Int} (h:jjv g 3 M O=true):jjv g 2 M O=true:=by
 have h0:jto g 3 M O=0:=by
  unfold jjv at h
  simp only [Bool.and_eq_true,beq_iff_eq] at h
  exact h.1
 obtain ⟨_,_,_,hm,ho⟩:=err0 h0
 rw [jtn h0] at h
 have h0':jto g 2 M O=0:=by rw [err_lvl.1,← err_lvl.2];exact h0
 rw [jtn h0']
 exact j4b hm ho h
theorem jkq:Small H20:=⟨by decide,by decide,by decide,by decide,by decide,by decide⟩
theorem c20a:jh0 H20 3 [-1] [0]=0:=by decide +kernel
theorem c20b:jh0 H20 3 [-1] []=14:=by decide +kernel
theorem c20c:jh0 H20 1 [-1] [0]=0:=by decide +kernel
theorem ev20:Ev E1 20 [] (.bool true):=by
 have e1:=ev18 jkq 3 (mn:=false) (on:=false) (M:=[-1]) (O:=[0]) (by decide) (by decide) (by simp)
 have e2:=ev18 jkq 3 (mn:=false) (on:=true) (M:=[-1]) (O:=[]) (by decide) (by decide) (by simp)
 have e3:=ev19 jkq 1 (mn:=false) (on:=false) (M:=[-1]) (O:=[0]) (by decide) (by decide) (by simp)
 rw [c20a] at e1
 rw [c20b] at e2
 rw [c20c] at e3
 have e57:Ev E 57 [.str j3s] _:=⟨100,k20⟩
 refine jT (af:=F20) rfl ?_
 simp [F20]
 refine jV (Ev.e1 e57) rfl rfl rfl ?_
 simp [Xv,toksRes,V.toks,V.tok,Qp,jaz,Xq,Nat.blt,j1,j7]
 refine jL (cs:=[.int .i64 (-1)]) (by simp [j7]) rfl rfl ?_
 try simp
 refine jL (cs:=[.int .i64 0]) (by simp [j7]) rfl rfl ?_
 simp [j7]
 refine jV e1 (by simp [jI,intC,j2,H20,JJ,ji,opC,V.strip,V.strip1]) rfl (by simp [jI,intC,j2]) ?_
 simp [j1]
 refine jL (cs:=[.int .i64 (-1)]) (by simp [j7]) rfl rfl ?_
 simp [j7]
 refine jV e2 (by simp [jI,intC,j2,H20,JJ,ji,opC,V.strip,V.strip1]) rfl (by simp [jI,intC,j2]) ?_
 simp [j1]
 refine jL (cs:=[.int .i64 (-1)]) (by simp [j7]) rfl rfl ?_
 try simp
 refine jL (cs:=[.int .i64 0]) (by simp [j7]) rfl rfl ?_
 simp [j7]
 refine jV e3 (by simp [jI,intC,j2,H20,JJ,ji,opC,V.strip,V.strip1]) rfl (by simp [jI,intC,j2]) ?_
 simp
 exact j3 rfl (by simp) rfl
theorem jj2 (l:List Int):WB (WB l)=WB l:=by
 have:=Wu l
 unfold WB at this ⊢
 rw [List.take_of_length_le]
 omega
theorem ev3 (lvl:Int) (h:Hist') {mn on:Bool} (M O:List Int):Ev E1 3 [.int .i64 lvl,.agg (j2 h),.agg [jI mn intC M,jI on intC O]] (.bool true):=by
 obtain ⟨r,ev,hr⟩:=ev15 h
 obtain ⟨r2,ev2,hr2⟩:=ev15 (QX h)
 rw [jxg] at hr2
 have hs:=j35 h
 generalize QX h=g at *
 obtain ⟨c,ec,hc⟩:=ev16 (a:=mn) (b:=on) M O
 have l1:=Wu M
 have l2:=Wu O
 have f1:=jj2 M
 have f2:=jj2 O
 generalize WB M=M' at *
 generalize WB O=O' at *
 obtain ⟨c2,ec2,hc2⟩:=ev16 (a:=false) (b:=false) M' O'
 rw [f1,f2] at hc2
 have e17:=ev17 hs lvl (mn:=false) (on:=false) (M:=M') (O:=O') (by omega) (by omega)
 have e18:=ev18 hs lvl (mn:=false) (on:=false) (M:=M') (O:=O') (by omega) (by omega) (by simp)
 have e19:=ev19 hs lvl (mn:=false) (on:=false) (M:=M') (O:=O') (by omega) (by omega) (by simp)
 generalize jh0 g lvl M' O'=x0 at *
 refine jT (af:=F3) rfl ?_
 simp [F3,j2,j1]
 refine J0 (Ev.e1 ev) (by simp [j2,jI]) rfl (by simp [j2,jI]) ?_
 refine jkw hr fun a1 b1 c1 add1=>?_
 simp [j1,jI]
 refine J0 (Ev.e1 ec) (by simp [jI]) rfl (by simp [jI]) ?_
 refine jkx hc fun a2 b2 add2=>?_
 simp [j1,j7]
 refine jV (Ev.e1 e17) (by simp [j2,jI]) rfl (by simp [j2,jI]) ?_
 simp [j1]
 refine J0 (Ev.e1 ev2) (by simp [j2,jI]) rfl (by simp [j2,jI]) ?_
 refine jkw hr2 fun a4 b4 c4 add4=>?_
 simp [j1]
 refine J0 (Ev.e1 ec2) (by simp [jI]) rfl (by simp [jI]) ?_
 refine jkx hc2 fun a5 b5 add5=>?_
 simp
 refine J0 e18 (by simp [j2,jI]) rfl (by simp [j2,jI]) ?_
 simp [j1]
 refine J0 (Ev.e1 ev2) (by simp [j2,jI]) rfl (by simp [j2,jI]) ?_
 refine jkw hr2 fun a6 b6 c6 add6=>?_
 simp [j1]
 refine J0 (Ev.e1 ec2) (by simp [jI]) rfl (by simp [jI]) ?_
 refine jkx hc2 fun a7 b7 add7=>?_
 simp
 refine J0 e19 (by simp [j2,jI]) rfl (by simp [j2,jI]) ?_
 simp
 refine J0 ev20 (by simp) rfl (by simp) ?_
 simp
 exact j3 rfl (by simp) rfl
end Go.Pv.T
namespace Go.Pv.T
open Go Go.Pv Go.Proofs Go.Shelf
def renS:Ren where
 f:=fun x=>match x with
  | 189=>69
  | 125=>118
  | 257=>117
  | 128=>187
  | 129=>188
  | 294=>178
  | 295=>179
  | 296=>180
  | 297=>181
  | 298=>182
  | 299=>183
  | 216=>184
  | 300=>185
  | 301=>186
  | 328=>238
  | 329=>239
  | 330=>240
  | 331=>241
  | 332=>242
  | 215=>243
  | 343=>275
  | n=>n
 t:=fun x=>match x with
  | 28=>26
  | 3=>3
  | 46=>160
  | 0=>0
  | 51=>236
  | 53=>165
  | 4=>4
  | 183=>230
  | 182=>229
  | 131=>157
  | 5=>5
  | 9=>9
  | 218=>275
  | 222=>279
  | 228=>307
  | 229=>304
  | n=>n
 g:=fun x=>x
theorem j76:Lays.n189 Tryz.prog renS where
 mixed:=by kernel_rfl
 f125:=Tryz.func118.trans (congrArg some (by kernel_rfl))
 f128:=Tryz.func187.trans (congrArg some (by kernel_rfl))
 f129:=Tryz.func188.trans (congrArg some (by kernel_rfl))
 f189:=Tryz.func69.trans (congrArg some (by kernel_rfl))
 f215:=Tryz.func243.trans (congrArg some (by kernel_rfl))
 f216:=Tryz.func184.trans (congrArg some (by kernel_rfl))
 f257:=Tryz.func117.trans (congrArg some (by kernel_rfl))
 f294:=Tryz.func178.trans (congrArg some (by kernel_rfl))
 f295:=Tryz.func179.trans (congrArg some (by kernel_rfl))
 f296:=Tryz.func180.trans (congrArg some (by kernel_rfl))
 f297:=Tryz.func181.trans (congrArg some (by kernel_rfl))
 f298:=Tryz.func182.trans (congrArg some (by kernel_rfl))
 f299:=Tryz.func183.trans (congrArg some (by kernel_rfl))
 f300:=Tryz.func185.trans (congrArg some (by kernel_rfl))
 f301:=Tryz.func186.trans (congrArg some (by kernel_rfl))
 f328:=Tryz.func238.trans (congrArg some (by kernel_rfl))
 f329:=Tryz.func239.trans (congrArg some (by kernel_rfl))
 f330:=Tryz.func240.trans (congrArg some (by kernel_rfl))
 f331:=Tryz.func241.trans (congrArg some (by kernel_rfl))
 f332:=Tryz.func242.trans (congrArg some (by kernel_rfl))
 f343:=Tryz.func275.trans (congrArg some (by kernel_rfl))
 t0:=Tryz.underlying0
 a0:=Tryz.isAgg0
 z0:=Tryz.sizeOf0
 v0:=Tryz.zeroValue0
 t3:=Tryz.underlying3
 a3:=Tryz.isAgg3
 z3:=Tryz.sizeOf3
 v3:=Tryz.zeroValue3
 t4:=Tryz.underlying4
 a4:=Tryz.isAgg4
 z4:=Tryz.sizeOf4
 v4:=Tryz.zeroValue4
 t5:=Tryz.underlying5
 a5:=Tryz.isAgg5
 z5:=Tryz.sizeOf5
 v5:=Tryz.zeroValue5
 t9:=Tryz.underlying9
 a9:=Tryz.isAgg9
 z9:=Tryz.sizeOf9
 v9:=Tryz.zeroValue9
 t28:=Tryz.underlying26
 a28:=Tryz.isAgg26
 z28:=Tryz.sizeOf26
 v28:=Tryz.zeroValue26
 t46:=Tryz.underlying160
 a46:=Tryz.isAgg160
 z46:=Tryz.sizeOf160
 v46:=Tryz.zeroValue160
 t51:=Tryz.underlying236
 a51:=Tryz.isAgg236
 z51:=Tryz.sizeOf236
 v51:=Tryz.zeroValue236
 t53:=Tryz.underlying165
 a53:=Tryz.isAgg165
 z53:=Tryz.sizeOf165
 v53:=Tryz.zeroValue165
 t131:=Tryz.underlying157
 a131:=Tryz.isAgg157
 z131:=Tryz.sizeOf157
 v131:=Tryz.zeroValue157
 t182:=Tryz.underlying229
 a182:=Tryz.isAgg229
 z182:=Tryz.sizeOf229
 v182:=Tryz.zeroValue229
 t183:=Tryz.underlying230
 a183:=Tryz.isAgg230
 z183:=Tryz.sizeOf230
 v183:=Tryz.zeroValue230
 t218:=Tryz.underlying275
 a218:=Tryz.isAgg275
 z218:=Tryz.sizeOf275
 v218:=Tryz.zeroValue275
 t222:=Tryz.underlying279
 a222:=Tryz.isAgg279
 z222:=Tryz.sizeOf279
 v222:=Tryz.zeroValue279
 t228:=Tryz.underlying307
 a228:=Tryz.isAgg307
 z228:=Tryz.sizeOf307
 v228:=Tryz.zeroValue307
 t229:=Tryz.underlying304
 a229:=Tryz.isAgg304
 z229:=Tryz.sizeOf304
 v229:=Tryz.zeroValue304
theorem jko:jmb Tryz.prog 69:=by
 refine ⟨⟨Tryz.f69,_,Tryz.func69,rfl,by kernel_rfl⟩,fun p cap w=>?_,fun blk off cap zs w h1 h2 h3=>?_⟩
 ·exact Any.slices_Sort_int_none j76 p cap w
 ·exact Any.slices_Sort_int j76 blk off cap zs w h1 h2 h3
end Go.Pv.T
namespace Go.Pv.T
open Go Go.Pv Go.Proofs
abbrev Jzz:=ja Tryz.prog false
theorem j4 {P:Program} {r:Bool} {f:FuncId} {fn:Func} {af:AF} (h1:P.funcs[f]? = some fn) (m:Bool:=false) (h2:j2g P m r fn=some af:=by kernel_rfl) (h3:(fn.name == "runtime.NumGoroutine")=false:=by kernel_rfl) (h4:af.body.dstOk fn.ntmps=true:=by kernel_rfl):ja P r f af:=by
  unfold j2g at h2
  cases hb:fn.body with
  | none=>rw [hb] at h2;cases h2
  | some c =>
    rw [hb,Option.bind_some] at h2
    cases hc:comp P m r c with
    | none=>rw [hc] at h2;cases h2
    | some b =>
      rw [hc,Option.bind_some] at h2
      cases hr:fn.results.toList.mapM (YX P) with
      | none=>rw [hr] at h2;cases h2
      | some res =>
        rw [hr] at h2
        cases h2
        exact ⟨m,fn,c,h1,hb,hc,hr,h3,h4⟩
theorem j50:Jzz 284 F284:=j4 Tryz.func284
theorem j5z:Jzz 285 F285:=j4 Tryz.func285
theorem j5y:Jzz 286 F286:=j4 Tryz.func286
theorem j5x:Jzz 288 F288:=j4 Tryz.func288
theorem j5w:Jzz 289 F289:=j4 Tryz.func289
theorem j5v:Jzz 293 F293:=j4 Tryz.func293
theorem j5u:Jzz 300 F300:=j4 Tryz.func300
theorem j5t:Jzz 304 F304:=j4 Tryz.func304
theorem j5s:Jzz 307 F307:=j4 Tryz.func307
theorem j5r:Jzz 320 F320:=j4 Tryz.func320
theorem j7e:Jzz 155 F155:=j4 Tryz.func155
theorem j7d:Jzz 157 F157:=j4 Tryz.func157
theorem j7c:Jzz 158 F158:=j4 Tryz.func158
theorem j7b:Jzz 159 F159:=j4 Tryz.func159
theorem j7a:Jzz 160 F160:=j4 Tryz.func160
theorem j69:Jzz 161 F161:=j4 Tryz.func161
theorem j68:Jzz 166 F166:=j4 Tryz.func166
theorem j67:Jzz 167 F167:=j4 Tryz.func167
theorem j66:Jzz 170 F170:=j4 Tryz.func170
theorem j65:Jzz 172 F172:=j4 Tryz.func172
theorem j64:Jzz 173 F173:=j4 Tryz.func173
theorem j63:Jzz 174 F174:=j4 Tryz.func174
theorem j62:Jzz 175 F175:=j4 Tryz.func175
theorem j61:Jzz 176 F176:=j4 Tryz.func176
theorem j60:Jzz 177 F177:=j4 Tryz.func177
theorem j6z:Jzz 188 F188:=j4 Tryz.func188
theorem j6y:Jzz 212 F212:=j4 Tryz.func212
theorem j6x:Jzz 214 F214:=j4 Tryz.func214
theorem j6w:Jzz 216 F216:=j4 Tryz.func216
theorem j6v:Jzz 217 F217:=j4 (m:=true) Tryz.func217
theorem j6u:Jzz 223 F223:=j4 Tryz.func223
theorem j6t:Jzz 224 F224:=j4 Tryz.func224
theorem j6s:Jzz 225 F225:=j4 Tryz.func225
theorem j6r:Jzz 226 F226:=j4 Tryz.func226
theorem j6q:Jzz 227 F227:=j4 Tryz.func227
theorem j6p:Jzz 228 F228:=j4 Tryz.func228
theorem j6o:Jzz 229 F229:=j4 Tryz.func229
theorem j6n:Jzz 230 F230:=j4 Tryz.func230
theorem j6m:Jzz 233 F233:=j4 Tryz.func233
theorem j6l:Jzz 234 F234:=j4 Tryz.func234
theorem j6k:Jzz 235 F235:=j4 Tryz.func235
theorem j6j:Jzz 236 F236:=j4 Tryz.func236
theorem j6i:Jzz 251 F251:=j4 Tryz.func251
theorem j6h:Jzz 252 F252:=j4 Tryz.func252
theorem j6g:Jzz 253 F253:=j4 Tryz.func253
theorem j6f:Jzz 254 F254:=j4 Tryz.func254
theorem j6e:Jzz 258 F258:=j4 Tryz.func258
theorem j6d:Jzz 259 F259:=j4 Tryz.func259
theorem j6c:Jzz 261 F261:=j4 Tryz.func261
theorem j6b:Jzz 262 F262:=j4 Tryz.func262
theorem j6a:Jzz 263 F263:=j4 Tryz.func263
theorem j59:Jzz 264 F264:=j4 Tryz.func264
theorem j58:Jzz 265 F265:=j4 Tryz.func265
theorem j57:Jzz 266 F266:=j4 Tryz.func266
theorem j56:Jzz 267 F267:=j4 Tryz.func267
theorem j55:Jzz 268 F268:=j4 Tryz.func268
theorem j54:Jzz 269 F269:=j4 Tryz.func269
theorem j53:Jzz 273 F273:=j4 Tryz.func273
theorem j52:Jzz 280 F280:=j4 Tryz.func280
theorem j51:Jzz 281 F281:=j4 Tryz.func281
theorem okc3:Jzz 3 F3:=j4 Tryz.func3
theorem okc15:Jzz 15 F15:=j4 (m:=true) Tryz.func15
theorem okc16:Jzz 16 F16:=j4 Tryz.func16
theorem okc17:Jzz 17 F17:=j4 Tryz.func17
theorem okc18:Jzz 18 F18:=j4 (m:=true) Tryz.func18
theorem okc19:Jzz 19 F19:=j4 Tryz.func19
theorem okc20:Jzz 20 F20:=j4 Tryz.func20
theorem okc21:Jzz 21 F21:=j4 Tryz.func21
theorem okc22:Jzz 22 F22:=j4 Tryz.func22
theorem okc23:Jzz 23 F23:=j4 Tryz.func23
theorem okc24:Jzz 24 F24:=j4 Tryz.func24
theorem okc25:Jzz 25 F25:=j4 Tryz.func25
theorem okc31:Jzz 31 F31:=j4 Tryz.func31
theorem okc33:Jzz 33 F33:=j4 Tryz.func33
theorem okc39:Jzz 39 F39:=j4 Tryz.func39
theorem okc40:Jzz 40 F40:=j4 Tryz.func40
theorem okc52:Jzz 52 F52:=j4 Tryz.func52
theorem okc53:Jzz 53 F53:=j4 Tryz.func53
theorem okc54:Jzz 54 F54:=j4 Tryz.func54
theorem okc57:Jzz 57 F57:=j4 Tryz.func57
theorem okc58:Jzz 58 F58:=j4 (m:=true) Tryz.func58
theorem okc59:Jzz 59 F59:=j4 Tryz.func59
theorem okc60:Jzz 60 F60:=j4 Tryz.func60
theorem okc61:Jzz 61 F61:=j4 Tryz.func61
theorem okc62:Jzz 62 F62:=j4 Tryz.func62
theorem okc63:Jzz 63 F63:=j4 Tryz.func63
theorem okc64:Jzz 64 F64:=j4 Tryz.func64
theorem okc70:Jzz 70 F70:=j4 Tryz.func70
theorem okc71:Jzz 71 F71:=j4 Tryz.func71
theorem okc74:Jzz 74 F74:=j4 Tryz.func74
theorem okc75:Jzz 75 F75:=j4 Tryz.func75
theorem okc84:Jzz 84 F84:=j4 Tryz.func84
theorem okc86:Jzz 86 F86:=j4 Tryz.func86
theorem j7v:Jzz 103 F103:=j4 Tryz.func103
theorem j7u:Jzz 104 F104:=j4 Tryz.func104
theorem j7t:Jzz 105 F105:=j4 Tryz.func105
theorem j7s:Jzz 106 F106:=j4 (m:=true) Tryz.func106
theorem j7r:Jzz 108 F108:=j4 Tryz.func108
theorem j7q:Jzz 109 F109:=j4 (m:=true) Tryz.func109
theorem j7p:Jzz 110 F110:=j4 Tryz.func110
theorem j7o:Jzz 112 F112:=j4 Tryz.func112
theorem j7n:Jzz 114 F114:=j4 Tryz.func114
theorem j7m:Jzz 116 F116:=j4 Tryz.func116
theorem j7l:Jzz 118 F118:=j4 Tryz.func118
theorem j7k:Jzz 120 F120:=j4 Tryz.func120
theorem j7j:Jzz 121 F121:=j4 Tryz.func121
theorem j7i:Jzz 122 F122:=j4 Tryz.func122
theorem j7h:Jzz 127 F127:=j4 Tryz.func127
theorem j7g:Jzz 136 F136:=j4 Tryz.func136
theorem j7f:Jzz 152 F152:=j4 Tryz.func152
theorem j8o {f:FuncId} {af:AF} (h:fc_2 f=some af):Jzz f af:=by
  unfold fc_2 at h
  split at h
  · cases h;exact j50
  · cases h;exact j5z
  · cases h;exact j5y
  · cases h;exact j5x
  · cases h;exact j5w
  · cases h;exact j5v
  · cases h;exact j5u
  · cases h;exact j5t
  · cases h;exact j5s
  · cases h;exact j5r
  · cases h
theorem j8p {f:FuncId} {af:AF} (h:fc_1 f=some af):Jzz f af:=by
  unfold fc_1 at h
  split at h
  · cases h;exact j7e
  · cases h;exact j7d
  · cases h;exact j7c
  · cases h;exact j7b
  · cases h;exact j7a
  · cases h;exact j69
  · cases h;exact j68
  · cases h;exact j67
  · cases h;exact j66
  · cases h;exact j65
  · cases h;exact j64
  · cases h;exact j63
  · cases h;exact j62
  · cases h;exact j61
  · cases h;exact j60
  · cases h;exact j6z
  · cases h;exact j6y
  · cases h;exact j6x
  · cases h;exact j6w
  · cases h;exact j6v
  · cases h;exact j6u
  · cases h;exact j6t
  · cases h;exact j6s
  · cases h;exact j6r
  · cases h;exact j6q
  · cases h;exact j6p
  · cases h;exact j6o
  · cases h;exact j6n
  · cases h;exact j6m
  · cases h;exact j6l
  · cases h;exact j6k
  · cases h;exact j6j
  · cases h;exact j6i
  · cases h;exact j6h
  · cases h;exact j6g
  · cases h;exact j6f
  · cases h;exact j6e
  · cases h;exact j6d
  · cases h;exact j6c
  · cases h;exact j6b
  · cases h;exact j6a
  · cases h;exact j59
  · cases h;exact j58
  · cases h;exact j57
  · cases h;exact j56
  · cases h;exact j55
  · cases h;exact j54
  · cases h;exact j53
  · cases h;exact j52
  · cases h;exact j51
  · exact j8o h
theorem fcOk {f:FuncId} {af:AF} (h:fc f=some af):Jzz f af:=by
  unfold fc at h
  split at h
  · cases h;exact okc3
  · cases h;exact okc15
  · cases h;exact okc16
  · cases h;exact okc17
  · cases h;exact okc18
  · cases h;exact okc19
  · cases h;exact okc20
  · cases h;exact okc21
  · cases h;exact okc22
  · cases h;exact okc23
  · cases h;exact okc24
  · cases h;exact okc25
  · cases h;exact okc31
  · cases h;exact okc33
  · cases h;exact okc39
  · cases h;exact okc40
  · cases h;exact okc52
  · cases h;exact okc53
  · cases h;exact okc54
  · cases h;exact okc57
  · cases h;exact okc58
  · cases h;exact okc59
  · cases h;exact okc60
  · cases h;exact okc61
  · cases h;exact okc62
  · cases h;exact okc63
  · cases h;exact okc64
  · cases h;exact okc70
  · cases h;exact okc71
  · cases h;exact okc74
  · cases h;exact okc75
  · cases h;exact okc84
  · cases h;exact okc86
  · cases h;exact j7v
  · cases h;exact j7u
  · cases h;exact j7t
  · cases h;exact j7s
  · cases h;exact j7r
  · cases h;exact j7q
  · cases h;exact j7p
  · cases h;exact j7o
  · cases h;exact j7n
  · cases h;exact j7m
  · cases h;exact j7l
  · cases h;exact j7k
  · cases h;exact j7j
  · cases h;exact j7i
  · cases h;exact j7h
  · cases h;exact j7g
  · cases h;exact j7f
  · exact j8p h
theorem oks51:ja Tryz.prog true 51 S51:=j4 (m:=true) Tryz.func51
theorem oks55:ja Tryz.prog true 55 S55:=j4 (m:=true) Tryz.func55
theorem oks68:ja Tryz.prog true 68 S68:=j4 (m:=true) Tryz.func68
theorem oks70:ja Tryz.prog true 70 S70:=j4 (m:=true) Tryz.func70
theorem j5p:ja Tryz.prog true 111 S111:=j4 (m:=true) Tryz.func111
theorem j5o:ja Tryz.prog true 153 S153:=j4 (m:=true) Tryz.func153
theorem j5n:ja Tryz.prog true 154 S154:=j4 (m:=true) Tryz.func154
theorem j5m:ja Tryz.prog true 156 S156:=j4 (m:=true) Tryz.func156
theorem j5k:ja Tryz.prog true 163 S163:=j4 (m:=true) Tryz.func163
theorem j5j:ja Tryz.prog true 164 S164:=j4 (m:=true) Tryz.func164
theorem j5i:ja Tryz.prog true 165 S165:=j4 (m:=true) Tryz.func165
theorem j5h:ja Tryz.prog true 168 S168:=j4 (m:=true) Tryz.func168
theorem j5g:ja Tryz.prog true 169 S169:=j4 (m:=true) Tryz.func169
theorem j5f:ja Tryz.prog true 171 S171:=j4 (m:=true) Tryz.func171
theorem j5e:ja Tryz.prog true 213 S213:=j4 (m:=true) Tryz.func213
theorem j5d:ja Tryz.prog true 215 S215:=j4 (m:=true) Tryz.func215
theorem j5b:ja Tryz.prog true 219 S219:=j4 (m:=true) Tryz.func219
theorem j5a:ja Tryz.prog true 220 S220:=j4 (m:=true) Tryz.func220
theorem j49:ja Tryz.prog true 221 S221:=j4 (m:=true) Tryz.func221
theorem j48:ja Tryz.prog true 222 S222:=j4 (m:=true) Tryz.func222
theorem j47:ja Tryz.prog true 231 S231:=j4 (m:=true) Tryz.func231
theorem j46:ja Tryz.prog true 232 S232:=j4 (m:=true) Tryz.func232
theorem j45:ja Tryz.prog true 237 S237:=j4 (m:=true) Tryz.func237
theorem j44:ja Tryz.prog true 255 S255:=j4 (m:=true) Tryz.func255
theorem j43:ja Tryz.prog true 256 S256:=j4 (m:=true) Tryz.func256
theorem j42:ja Tryz.prog true 257 S257:=j4 (m:=true) Tryz.func257
theorem j41:ja Tryz.prog true 270 S270:=j4 (m:=true) Tryz.func270
theorem j40:ja Tryz.prog true 271 S271:=j4 (m:=true) Tryz.func271
theorem j4z:ja Tryz.prog true 272 S272:=j4 (m:=true) Tryz.func272
theorem j4y:ja Tryz.prog true 274 S274:=j4 (m:=true) Tryz.func274
theorem j4x:ja Tryz.prog true 282 S282:=j4 (m:=true) Tryz.func282
theorem j4w:ja Tryz.prog true 291 S291:=j4 (m:=true) Tryz.func291
theorem j4v:ja Tryz.prog true 292 S292:=j4 (m:=true) Tryz.func292
theorem j4u:ja Tryz.prog true 294 S294:=j4 (m:=true) Tryz.func294
theorem j4t:ja Tryz.prog true 295 S295:=j4 (m:=true) Tryz.func295
theorem j4s:ja Tryz.prog true 296 S296:=j4 (m:=true) Tryz.func296
theorem j4r:ja Tryz.prog true 303 S303:=j4 (m:=true) Tryz.func303
theorem j4q:ja Tryz.prog true 305 S305:=j4 (m:=true) Tryz.func305
theorem j4p:ja Tryz.prog true 312 S312:=j4 (m:=true) Tryz.func312
theorem fsOk {f:FuncId} {af:AF} (h:fs f=some af):ja Tryz.prog true f af:=by
  unfold fs at h
  split at h
  · cases h;exact oks51
  · cases h;exact oks55
  · cases h;exact oks68
  · cases h;exact oks70
  · cases h;exact j5p
  · cases h;exact j5o
  · cases h;exact j5n
  · cases h;exact j5m
  · cases h;exact j5k
  · cases h;exact j5j
  · cases h;exact j5i
  · cases h;exact j5h
  · cases h;exact j5g
  · cases h;exact j5f
  · cases h;exact j5e
  · cases h;exact j5d
  · cases h;exact j5b
  · cases h;exact j5a
  · cases h;exact j49
  · cases h;exact j48
  · cases h;exact j47
  · cases h;exact j46
  · cases h;exact j45
  · cases h;exact j44
  · cases h;exact j43
  · cases h;exact j42
  · cases h;exact j41
  · cases h;exact j40
  · cases h;exact j4z
  · cases h;exact j4y
  · cases h;exact j4x
  · cases h;exact j4w
  · cases h;exact j4v
  · cases h;exact j4u
  · cases h;exact j4t
  · cases h;exact j4s
  · cases h;exact j4r
  · cases h;exact j4q
  · cases h;exact j4p
  · cases h
theorem envOk:EnvOk Tryz.prog E:=⟨fun _ _ h=>fcOk h,fun _ _ h=>fsOk h,fun f h=>by
  have e:f=69:=by simpa [E,srl] using h
  subst e;exact jko⟩
theorem oks56:ja Tryz.prog true 56 S56:=j4 (m:=true) Tryz.func56
theorem j5q:ja Tryz.prog true 107 S107:=j4 (m:=true) Tryz.func107
theorem j5l:ja Tryz.prog true 162 S162:=j4 (m:=true) Tryz.func162
theorem j5c:ja Tryz.prog true 218 S218:=j4 (m:=true) Tryz.func218
theorem fs1Ok {f:FuncId} {af:AF} (h:fs1 f=some af):ja Tryz.prog true f af:=by
  unfold fs1 at h
  split at h
  · cases h;exact oks56
  · cases h;exact j5q
  · cases h;exact j5l
  · cases h;exact j5c
  · exact fsOk h
theorem j9i:EnvOk Tryz.prog E1:=⟨fun _ _ h=>fcOk h,fun _ _ h=>fs1Ok h,fun f h=>by
  have e:f=69:=by simpa [E1,E,srl] using h
  subst e;exact jko⟩
end Go.Pv.T
namespace Go.Pv.T
open Go Go.Pv Go.Proofs Go.ChangeShapes Go.WideShapes Go.ChangeAt Go.RowKit Go.Proofs.YtphecmnehkdihaaGreatDoor
theorem own:ownKnob Tryz.prog.godebug=none:=by kernel_rfl
theorem jsl:laidOutB Tryz.prog=true:=by kernel_rfl
theorem mixed:Tryz.prog.follows .mixedOrders=true:=by kernel_rfl
def jo5:List (String × DataW Unit):=[("unicode/utf8.acceptRanges",Rows.laid_unicode_utf8_acceptRanges),("deemster/event.words",Rows.laid_deemster_event_words),("unicode/utf8.first",Rows.laid_unicode_utf8_first)]
def jyl:V→Value
  | .int k n=>.int k n
  | .str s=>.string ⟨s.toArray⟩
  | _=>.nilFunc
def putCells (h:Array Obj) (g:Nat) (cs:Array Value):Array Obj:=h.modify g fun
    | .cells _ t frozen=>.cells cs t frozen
    | o=>o
def jma:Array Value:=#[.int .u8 128,.int .u8 191,.int .u8 160,.int .u8 191,.int .u8 128,.int .u8 159,.int .u8 144,.int .u8 191,.int .u8 128,.int .u8 143,.int .u8 0,.int .u8 0,.int .u8 0,.int .u8 0,.int .u8 0,.int .u8 0,.int .u8 0,.int .u8 0,.int .u8 0,.int .u8 0,.int .u8 0,.int .u8 0,.int .u8 0,.int .u8 0,.int .u8 0,.int .u8 0,.int .u8 0,.int .u8 0,.int .u8 0,.int .u8 0,.int .u8 0,.int .u8 0]
noncomputable def laidWorld (os:Os):World :=
  let w0:=World.holding Tryz.prog os ⟨#[],#[],[]⟩
  { w0 with heap:=putCells (putCells (putCells w0.heap 1 (words.map jyl).toArray) 2 (utf8first.map jyl).toArray) 3 jma }
theorem jxo (os:Os) (args:Array Value):laidMetH Tryz.prog jo5 ((laidWorld os).forCall (fun _ _=>0) ⟨#[],args,[]⟩).memory:=by
  rw [MakeChecks.laidMetH_plain _ _ _ (by kernel_rfl)]
  exact laidMet_of_run' 8 (by kernel_rfl) (by kernel_rfl)
theorem gWords:Tryz.prog.globalNamed "deemster/event.words" = some 1:=by kernel_rfl
theorem gFirst:Tryz.prog.globalNamed "unicode/utf8.first" = some 2:=by kernel_rfl
theorem tWords:(Tryz.prog.globals[1]?).map (·.type)=some 300:=by kernel_rfl
theorem tFirst:(Tryz.prog.globals[2]?).map (·.type)=some 319:=by kernel_rfl
def Y2 (W:World):IMap:=fun b o=>W.cell? ⟨b,o,none⟩
theorem jtu (W:World):jkd (Y2 W) W:=fun _ _ _ h=>h
def jm8:DataW Unit→V
  | .lit (.int k n)=>.int k n
  | .lit (.string s)=>.str s
  | _=>.undef
theorem jt0     {W:World} {t e:TypeId} {n fuel:Nat} {cs:List Value} {ds:List (DataW Unit)} {p:List MemPlace} (ht:Tryz.prog.underlying t=some (.array n e)) (hc:Tryz.prog.cellsOf e=1)
    (he:Tryz.prog.underlying e=some .string∨∃ k,Tryz.prog.underlying e=some (.int k)) (h:DataW.trod (fun _=>()) Tryz.prog W 0 (fun _=>true) false fuel t cs=some (.agg ds,p)) (I:IMap) :
    ∀ (j:Nat) (d:DataW Unit),ds[j]? = some d→∃ x,cs[j]? = some x∧RepP I x (jm8 d):=by
  obtain ⟨xs,m,rfl,hx,hlen,hn,hel⟩:=DataW.trod_array ht h
  intro j d hd
  simp only [Prod.mk.injEq,DataW.agg.injEq] at hx
  rw [hx.1,List.getElem?_map] at hd
  cases hy:xs[j]? with
  | none=>simp [hy] at hd
  | some y =>
    rw [hy] at hd
    simp only [Option.map_some,Option.some.injEq] at hd
    have hj:j<n:=by rw [← hn];exact (List.getElem?_eq_some_iff.1 hy).1
    have:=hel j hj
    rw [hc,Nat.mul_one,hy] at this
    have one:∀ c,(cs.drop j).take 1=[c]→cs[j]? = some c:=by
      intro c hcc
      have:=congrArg List.head? hcc
      simpa [List.head?_take,List.head?_drop] using this
    rcases he with he | ⟨k,he⟩
    · obtain ⟨s,e1,e2,_⟩:=DataW.trod_string he this
      refine ⟨_,one _ e1,?_⟩
      rw [← hd,e2]
      exact RepP.str s
    · obtain ⟨s,e1,e2,_⟩:=DataW.trod_int he this
      refine ⟨_,one _ e1,?_⟩
      rw [← hd,e2]
      exact RepP.int k s
theorem jtj    {W:World} {nm:String} {g:Nat} {cs:Array Value} {ds:List (DataW Unit)} (hg:Tryz.prog.globalNamed nm=some g) (hv:W.var? Tryz.prog nm=some cs) (hp:(ds.map jm8 ).all V.pureLeaf=true)
    (h:∀ (j:Nat) (d:DataW Unit),ds[j]? = some d→∃ x,cs.toList[j]? = some x∧RepP (Y2 W) x (jm8 d)):RepP (Y2 W) (.pointer (some ⟨g,0,none⟩)) (.eptr (ds.map jm8) 0):=by
  have hc:=World.var?_cell hg hv
  refine RepP.eptr g 0 0 (ds.map jm8) (fun j=>(cs[j]?).getD .nilFunc) (fun j hj=>?_) (fun j v hj=>?_) (fun j v hj=>?_)
  · rw [List.length_map] at hj
    obtain ⟨x,hx,_⟩:=h j ds[j] (List.getElem?_eq_getElem hj)
    have hx':cs[j]? = some x:=by simpa using hx
    show W.cell? ⟨g,0+j,none⟩=_
    rw [Nat.zero_add,hc j,hx']
    rfl
  · exact List.all_eq_true.1 hp v (List.mem_of_getElem? hj)
  · rw [List.getElem?_map] at hj
    cases hd:ds[j]? with
    | none=>rw [hd] at hj;cases hj
    | some d =>
      rw [hd] at hj
      cases hj
      obtain ⟨x,hx,hr⟩:=h j d hd
      have hx':cs[j]? = some x:=by simpa using hx
      rw [hx']
      exact hr
def aggOf:DataW Unit→List (DataW Unit)
  | .agg l=>l
  | _=>[]
theorem jur:(aggOf Rows.laid_deemster_event_words).map jm8=words:=by kernel_rfl
theorem jxe:(aggOf Rows.laid_unicode_utf8_first).map jm8=utf8first:=by kernel_rfl
theorem jtk:Rows.laid_unicode_utf8_first = .agg (aggOf Rows.laid_unicode_utf8_first):=by kernel_rfl
theorem jn5:((aggOf Rows.laid_deemster_event_words).map jm8).all V.pureLeaf=true:=by kernel_rfl
theorem jph:((aggOf Rows.laid_unicode_utf8_first).map jm8).all V.pureLeaf=true:=by kernel_rfl
theorem jj7       {H:Type} {enc:TypeId × Value→H} {W W':World} (hb:Below W.heap.size W W'):∀ {ts:List TypeId} {vs:List Value} {ds:List (DataW H)} {ps:List MemPlace},
    (∀ t∈ts,Tryz.prog.readableRec t=true∧t<Tryz.prog.types.size)→(∀ x∈ps,x.block<W.heap.size) →
    DataW.TrodAll enc Tryz.prog W 0 (fun _=>true) true ts vs ds ps→DataW.TrodAll enc Tryz.prog W' 0 (fun b=>decide (b<W.heap.size)) true ts vs ds ps
  | [],[],[],_,_,_,h=>h
  | t::ts,v::vs,d::ds,_,ht,hlt,⟨p,q,h1,h2,e⟩=>by
    subst e
    exact ⟨p,q,Below.trod jsl (ht t (List.mem_cons_self ..)).1 (ht t (List.mem_cons_self ..)).2 h1 hb (fun x hx=>hlt x (List.mem_append_left _ hx)),
      jj7 hb (fun t' h'=>ht t' (List.mem_cons_of_mem _ h')) (fun x hx=>hlt x (List.mem_append_right _ hx)) h2,rfl⟩
  | [],_::_,_,_,_,_,h=>h.elim
  | [],[],_::_,_,_,_,h=>h.elim
  | _::_,[],_,_,_,_,h=>h.elim
  | _::_,_::_,[],_,_,_,h=>h.elim
theorem jrc       {H:Type} {enc:TypeId × Value→H} {fn:Func} {s:ChangeSpec} {W W':World} {args:Array Value} {ds gs:List (DataW H)} {before:List MemPlace} (hW:DataW.Whole enc Tryz.prog fn.params.toList s.vars false W args.toList ds gs before)
    (hv:s.vars=[]) (hr:fn.resultTypes = #[4]) (hs:(s.fn H ds).results=[.lit (.bool true)]) (ha:(s.fn H ds).args=ds) (hvs:(s.fn H ds).vars=[])
    (ht:∀ t∈fn.params.toList,Tryz.prog.readableRec t=true∧t<Tryz.prog.types.size) (hg:W.grownBy W' none):s.post enc Tryz.prog fn false true false false W args (.bool true) W':=by
  have hb:Below W.heap.size W W':=(Below.refl _ W).grown hg (Nat.le_refl _) (fun _ h=>by cases h)
  have hW':=hW
  obtain ⟨p,q,hA,hV,rfl,_,_⟩:=hW
  rw [hv] at hV
  obtain ⟨rfl,rfl⟩:=trodVars_none hV
  have hlt:∀ x∈p,x.block<W.heap.size:=fun x hx=>by simpa using hW'.lt x (List.mem_append_left _ hx)
  refine ⟨ds,[],_,[],p,[],hW',?_,?_,?_,hb.frame _,fun h=>by cases h⟩
  · rw [List.append_nil,hs,hr]
    exact trodAll_mk1 (shut_bool Tryz.underlying4 _)
  · rw [List.append_nil,ha]
    exact jj7 hb ht hlt hA
  · rw [List.append_nil,hvs,hv]
    rfl
end Go.Pv.T
namespace Go.Pv.T
open Go Go.Pv Go.Proofs Go.ChangeShapes Go.WideShapes Go.ChangeAt Go.RowKit
inductive Ty where
 | bool
 | int (k:IntKind)
 | str
 | unit
 | pair (a b:Ty)
 | slice (t:Ty)
def Ty.cells:Ty→Nat
 | .unit=>0
 | .pair a b=>a.cells+b.cells
 | _=>1
inductive Sh:Ty→List V→Prop where
 | bool (b:Bool):Sh .bool [.bool b]
 | int (k:IntKind) (n:Int):Sh (.int k) [.int k n]
 | str (s:List UInt8):Sh .str [.str s]
 | unit:Sh .unit []
 | pair {a b:Ty} {va vb:List V} (ha:Sh a va) (hb:Sh b vb):Sh (.pair a b) (va++vb)
 | nil {t:Ty}:Sh (.slice t) [.sl none true 0 []]
 | slice {t:Ty} (es:List (List V)) (hn:es.length≤maxLen) (h:∀ e∈es,Sh t e):Sh (.slice t) [.sl none false es.length es.flatten]
def WW (P:Program) (g:TypeId→Option Ty):List Field→Nat→Option Ty
 | [],_=>some .unit
 | f::r,off=>if f.offset=off then (g f.type).bind fun a=>if P.cellsOf f.type=a.cells then (WW P g r (off+a.cells)).map (.pair a) else none else none
def jzj (P:Program):Nat→TypeId→Option Ty
 | 0,_=>none
 | n+1,t=>match P.underlying t with
  | some .bool=>some .bool
  | some (.int k)=>some (.int k)
  | some .string=>some .str
  | some (.slice e)=>(jzj P n e).bind fun ty=>if P.cellsOf e=ty.cells then some (.slice ty) else none
  | some (.struct fs)=>(WW P (jzj P n) fs.toList 0).bind fun ty=>if P.cellsOf t=ty.cells then some ty else none
  | _=>none
theorem Sh.len {t:Ty} {vs:List V} (h:Sh t vs):vs.length=t.cells:=by
 induction h with
 | pair _ _ iha ihb=>simp [Ty.cells,iha,ihb]
 | _=>rfl
theorem Sh.pure {t:Ty} {vs:List V} (h:Sh t vs):∀ v∈vs,v.pureLeaf=true:=by
 induction h with
 | pair _ _ iha ihb=>intro v hv;rcases List.mem_append.1 hv with h | h;exact iha v h;exact ihb v h
 | unit=>intro v hv;cases hv
 | _=>intro v hv;rw [List.mem_singleton] at hv;subst hv;rfl
def Reps (I:IMap) (cs:List Value) (vs:List V):Prop:=cs.length=vs.length∧∀ (j:Nat) (x:Value) (v:V),cs[j]? = some x→vs[j]? = some v→RepP I x v
theorem Reps.one {I:IMap} {x:Value} {v:V} (h:RepP I x v):Reps I [x] [v] :=
 ⟨rfl,fun j y u hj hu=>by
  match j,hj,hu with
  | 0,hj,hu=>cases hj;cases hu;exact h
  | j+1,hj,_=>simp at hj⟩
theorem jht {α:Type} {sz:Nat} (hs:0<sz):∀ (es:List (List α)),(∀ e∈es,e.length=sz)→∀ j,es.flatten[j]? = (es[j / sz]?).bind fun e=>e[j % sz]?
 | [],_,j=>by simp
 | e::es,h,j=>by
  have he:=h e (List.mem_cons_self ..)
  rw [List.flatten_cons,List.getElem?_append,he]
  split
  ·rename_i hlt
   rw [Nat.div_eq_of_lt hlt,Nat.mod_eq_of_lt hlt]
   rfl
  ·rename_i hge
   have hj:j=(j - sz)+sz:=by omega
   rw [jht hs es (fun e he=>h e (List.mem_cons_of_mem _ he)) (j - sz)]
   conv=>rhs;rw [hj,Nat.add_div_right _ hs,Nat.add_mod_right]
   rfl
theorem jnm {α:Type} {sz:Nat}:∀ (es:List (List α)),(∀ e∈es,e.length=sz)→es.flatten.length=es.length * sz
 | [],_=>by simp
 | e::es,h=>by
  rw [List.flatten_cons,List.length_append,h e (List.mem_cons_self ..),jnm es (fun e he=>h e (List.mem_cons_of_mem _ he)),List.length_cons,Nat.succ_mul]
  omega
section
variable {H:Type} {enc:TypeId × Value→H} {W:World} {P:Program}
theorem jiy {α:Type} {p:Nat→α→Prop}:∀ (n:Nat),(∀ i,i<n→∃ a,p i a)→∃ l:List α,l.length=n∧∀ i a,l[i]? = some a→p i a
 | 0,_=>⟨[],rfl,fun i a h=>by simp at h⟩
 | n+1,h=>by
  obtain ⟨l,h1,h2⟩:=jiy n (fun i hi=>h i (by omega))
  obtain ⟨a,ha⟩:=h n (by omega)
  refine ⟨l++[a],by simp [h1],fun i b hb=>?_⟩
  rw [List.getElem?_append] at hb
  split at hb
  ·exact h2 i b hb
  ·rename_i hge
   have:i=n:=by
    have:=(List.getElem?_eq_some_iff.1 hb).1
    simp at this
    omega
   subst this
   simp [h1] at hb
   subst hb
   exact ha
theorem jgt {g:TypeId→Option Ty} {n:Nat} {cs:List Value} (ih:∀ t ty,g t=some ty→∀ cs x,DataW.trod enc P W 0 (fun _=>true) true n t cs=some x→∃ vs,Sh ty vs∧Reps (Y2 W) cs vs) :
 ∀ (fs:List Field) (off:Nat) (ty:Ty),WW P g fs off=some ty→(∀ f∈fs,∃ x,DataW.trod enc P W 0 (fun _=>true) true n f.type ((cs.drop f.offset).take (P.cellsOf f.type))=some x)→cs.length=off+ty.cells →
  ∃ vs,Sh ty vs∧Reps (Y2 W) (cs.drop off) vs
 | [],off,ty,h,_,hl=>by
  simp only [WW,Option.some.injEq] at h
  subst h
  simp only [Ty.cells,Nat.add_zero] at hl
  exact ⟨[],.unit,by simp [hl],fun j x v _ hv=>by simp at hv⟩
 | f::r,off,ty,h,hx,hl=>by
  simp only [WW] at h
  split at h
  ·rename_i hoff
   cases hg:g f.type with
   | none=>rw [hg] at h;cases h
   | some a =>
    rw [hg,Option.bind_some] at h
    split at h
    ·rename_i hc
     cases hr:WW P g r (off+a.cells) with
     | none=>rw [hr] at h;cases h
     | some b =>
      rw [hr] at h
      cases h
      simp only [Ty.cells] at hl
      obtain ⟨x,hx0⟩:=hx f (List.mem_cons_self ..)
      obtain ⟨va,ha,hra⟩:=ih f.type a hg _ _ hx0
      obtain ⟨vb,hb,hrb⟩:=jgt ih r (off+a.cells) b hr (fun f' hf=>hx f' (List.mem_cons_of_mem _ hf)) (by omega)
      refine ⟨va++vb,.pair ha hb,?_,fun j y u hj hu=>?_⟩
      ·have:=ha.len;have:=hb.len
       simp only [List.length_drop,List.length_append]
       omega
      ·rw [hoff,hc] at hra
       rw [List.getElem?_append] at hu
       rw [ha.len] at hu
       rw [List.getElem?_drop] at hj
       split at hu
       ·rename_i hlt
        exact hra.2 j y u (by rw [List.getElem?_take,if_pos hlt,List.getElem?_drop];exact hj) hu
       ·rename_i hge
        exact hrb.2 (j - a.cells) y u (by rw [List.getElem?_drop,show off+a.cells+(j - a.cells)=off+j from by omega];exact hj) hu
    ·cases h
  ·cases h
theorem jqz:∀ (n:Nat) (t:TypeId) (ty:Ty),jzj P n t=some ty→∀ (fuel:Nat) (cs:List Value) (x:DataW H × List MemPlace),DataW.trod enc P W 0 (fun _=>true) true fuel t cs=some x→∃ vs,Sh ty vs∧Reps (Y2 W) cs vs
 | 0,_,_,h,_,_,_,_=>by cases h
 | n+1,t,ty,h,fuel,cs,x,hx=>by
  simp only [jzj] at h
  split at h
  ·rename_i ht
   cases h
   obtain ⟨b,rfl,_⟩:=DataW.trod_bool ht hx
   exact ⟨_,.bool b,Reps.one (.bool b)⟩
  ·rename_i k ht
   cases h
   obtain ⟨b,rfl,_⟩:=DataW.trod_int ht hx
   exact ⟨_,.int k b,Reps.one (.int k b)⟩
  ·rename_i ht
   cases h
   obtain ⟨s,rfl,_⟩:=DataW.trod_string ht hx
   exact ⟨_,.str s.data.toList,Reps.one (.str s)⟩
  ·rename_i e ht
   cases he:jzj P n e with
   | none=>rw [he] at h;cases h
   | some te =>
    rw [he,Option.bind_some] at h
    split at h
    ·rename_i hc
     cases h
     rcases DataW.trod_slice ht hx with ⟨rfl,_⟩ | ⟨a,len,cap,elems,rest,m,_,rfl,_,_,hl,hm,hlen,hel,_,_⟩
     ·exact ⟨_,.nil,Reps.one .slnil⟩
     ·have each:∀ i,i<len→∃ vs,Sh te vs∧∃ c,W.cells? 0 (a.add (i * te.cells)) te.cells=some c∧Reps (Y2 W) c vs:=by
       intro i hi
       have h1:=hel i hi
       rw [List.getElem?_eq_getElem (by omega),hc] at h1
       obtain ⟨c,hc1,hc2⟩:=Option.bind_eq_some_iff.1 h1
       obtain ⟨vs,h3,h4⟩:=jqz n e te he m c _ hc2
       exact ⟨vs,h3,c,hc1,h4⟩
      obtain ⟨es,h1,h2⟩:=jiy len each
      have hsh:∀ e∈es,Sh te e:=fun e he=>by
       obtain ⟨i,hi⟩:=List.getElem?_of_mem he
       exact (h2 i e hi).1
      have hsz:∀ e∈es,e.length=te.cells:=fun e he=>(hsh e he).len
      have key:∀ (j:Nat) (v:V),es.flatten[j]? = some v→0<te.cells∧j / te.cells<len∧∃ y,W.cell? ((a.add (j / te.cells * te.cells)).add (j % te.cells))=some y∧RepP (Y2 W) y v∧v.pureLeaf=true:=by
       intro j v hj
       have h0:0<te.cells:=by
        rcases Nat.eq_zero_or_pos te.cells with h | h
        ·have:=jnm es hsz
         rw [h,Nat.mul_zero] at this
         rw [List.length_eq_zero_iff.1 this] at hj
         simp at hj
        ·exact h
       rw [jht h0 es hsz] at hj
       cases hee:es[j / te.cells]? with
       | none=>rw [hee] at hj;cases hj
       | some e =>
        rw [hee,Option.bind_some] at hj
        have hlt:j / te.cells<len:=by rw [← h1];exact (List.getElem?_eq_some_iff.1 hee).1
        obtain ⟨hse,c,hcc,hrr⟩:=h2 _ e hee
        have hme:=Nat.mod_lt j h0
        have hcell:=(World.cells?_some hcc).2.2 _ hme
        have hclen:c.length=te.cells:=by rw [hrr.1,hse.len]
        rw [List.getElem?_eq_getElem (by omega)] at hcell
        exact ⟨h0,hlt,_,hcell,hrr.2 _ _ v (List.getElem?_eq_getElem (by omega)) hj,hse.pure v (List.mem_of_getElem? hj)⟩
      have spot:es.flatten≠[]→a.spot=none:=by
       intro hne
       obtain ⟨v,hv⟩:∃ v,es.flatten[0]? = some v:=by
        cases hf:es.flatten with
        | nil=>exact absurd hf hne
        | cons v l=>exact ⟨v,rfl⟩
       obtain ⟨h0,_,y,hy,_⟩:=key 0 v hv
       rw [Nat.zero_div,Nat.zero_mod,Nat.zero_mul] at hy
       simpa [Addr.add] using World.cell?_spot hy
      have cellAt:∀ (j:Nat) (v:V),es.flatten[j]? = some v→∃ y,W.cell? ⟨a.block,a.off+j,none⟩=some y∧RepP (Y2 W) y v:=by
       intro j v hj
       obtain ⟨h0,_,y,hy,hr,_⟩:=key j v hj
       have hs:=spot (fun h=>by rw [h] at hj;simp at hj)
       obtain ⟨b,off,sp⟩:=a
       simp only at hs
       subst hs
       rw [add_plain,add_plain] at hy
       refine ⟨y,?_,hr⟩
       rw [← hy,Nat.add_assoc,Nat.div_add_mod']
      rw [← h1] at hl
      refine ⟨_,.slice es (Nat.le_trans hl hm) hsh,Reps.one ?_⟩
      rw [h1] at hl ⊢
      refine RepP.sl a len cap es.flatten (fun j=>(W.cell? ⟨a.block,a.off+j,none⟩).getD .nilFunc) spot hl hm (fun j hj=>?_) (fun j v hj=>?_) (fun j v hj=>?_)
      ·obtain ⟨y,hy,_⟩:=cellAt j _ (List.getElem?_eq_getElem hj)
       show W.cell? _=some ((W.cell? _).getD _)
       rw [hy]
       rfl
      ·exact (key j v hj).2.2.choose_spec.2.2
      ·obtain ⟨y,hy,hr⟩:=cellAt j v hj
       show RepP _ ((W.cell? _).getD _) v
       rw [hy]
       exact hr
    ·cases h
  ·rename_i fs ht
   cases hf:WW P (jzj P n) fs.toList 0 with
   | none=>rw [hf] at h;cases h
   | some b =>
    rw [hf,Option.bind_some] at h
    split at h
    ·rename_i hc
     cases h
     obtain ⟨xs,m,rfl,_,hl,hn,hel⟩:=DataW.trod_struct ht hx
     have:=jgt (n:=m) (cs:=cs) (fun t ty h cs x hx=>jqz n t ty h m cs x hx) fs.toList 0 ty hf (fun f hfm=>by
      obtain ⟨i,hi⟩:=List.getElem?_of_mem hfm
      have hi':fs[i]? = some f:=by simpa using hi
      have h1:=hel i f hi'
      have hlt:i<xs.length:=by rw [hn];exact (Array.getElem?_eq_some_iff.1 hi').1
      rw [List.getElem?_eq_getElem hlt] at h1
      exact ⟨_,h1⟩) (by rw [Nat.zero_add,hl,hc])
     simpa using this
    ·cases h
  ·cases h
end
end Go.Pv.T
namespace Go.Pv.T
open Go Go.Pv Go.Proofs Go.ChangeShapes Go.WideShapes Go.ChangeAt Go.RowKit Go.Proofs.YtphecmnehkdihaaGreatDoor
theorem jxu      {W:World} {t e:TypeId} {n fuel:Nat} {cs:List Value} {ds:List (DataW Unit)} {p:List MemPlace} {f0 f1:Field} {k0 k1:IntKind} (ht:Tryz.prog.underlying t=some (.array n e)) (hc:Tryz.prog.cellsOf e=2)
    (he:Tryz.prog.underlying e=some (.struct #[f0,f1])) (o0:f0.offset=0) (o1:f1.offset=1) (c0:Tryz.prog.cellsOf f0.type=1) (c1:Tryz.prog.cellsOf f1.type=1)
    (u0:Tryz.prog.underlying f0.type=some (.int k0)) (u1:Tryz.prog.underlying f1.type=some (.int k1)) (h:DataW.trod (fun _=>()) Tryz.prog W 0 (fun _=>true) false fuel t cs=some (.agg ds,p)) (I:IMap) :
    ∀ (j:Nat) (d:DataW Unit),(ds.map aggOf).flatten[j]? = some d→∃ x,cs[j]? = some x∧RepP I x (jm8 d):=by
  obtain ⟨xs,m,rfl,hx,hlen,hn,hel⟩:=DataW.trod_array ht h
  simp only [Prod.mk.injEq,DataW.agg.injEq] at hx
  have one:∀ (l:List Value) (j:Nat) c,(l.drop j).take 1=[c]→l[j]? = some c:=by
    intro l j c hcc
    have:=congrArg List.head? hcc
    simpa [List.head?_take,List.head?_drop] using this
  have each:∀ (j:Nat) (y:DataW Unit × List MemPlace),xs[j]? = some y→∃ d0 d1 x0 x1,y.1 = .agg [d0,d1]∧cs[j * 2]? = some x0∧RepP I x0 (jm8 d0)∧cs[j * 2+1]? = some x1∧RepP I x1 (jm8 d1):=by
    intro j y hy
    have hj:j<n:=by rw [← hn];exact (List.getElem?_eq_some_iff.1 hy).1
    have h2:=hel j hj
    rw [hc,hy] at h2
    obtain ⟨y0,y1,m',e1,hl2,g0,g1⟩:=trod_struct2 he h2
    rw [o0,c0] at g0
    rw [o1,c1] at g1
    obtain ⟨z0,a0,b0,_⟩:=DataW.trod_int u0 g0
    obtain ⟨z1,a1,b1,_⟩:=DataW.trod_int u1 g1
    have q0:=one _ _ _ a0
    have q1:=one _ _ _ a1
    rw [List.getElem?_take,if_pos (by omega),List.getElem?_drop] at q0 q1
    refine ⟨y0.1,y1.1,_,_,by rw [e1],by simpa using q0,?_,q1,?_⟩
    · rw [b0];exact RepP.int k0 z0
    · rw [b1];exact RepP.int k1 z1
  have hds:ds=xs.map (·.1):=hx.1
  have len2:∀ e∈ds.map aggOf,e.length=2:=by
    intro e he
    rw [hds,List.map_map] at he
    obtain ⟨y,hy,rfl⟩:=List.mem_map.1 he
    obtain ⟨j,hj⟩:=List.getElem?_of_mem hy
    obtain ⟨d0,d1,x0,x1,e,_⟩:=each j y hj
    simp only [Function.comp,e,aggOf,List.length_cons,List.length_nil]
  intro k d hd
  rw [jht (by decide) _ len2] at hd
  rw [hds,List.map_map,List.getElem?_map] at hd
  cases hy:xs[k / 2]? with
  | none=>rw [hy] at hd;cases hd
  | some y =>
    rw [hy] at hd
    obtain ⟨d0,d1,x0,x1,e,g0,r0,g1,r1⟩:=each _ y hy
    simp only [Option.map_some,Option.bind_some,Function.comp,e,aggOf] at hd
    rcases Nat.mod_two_eq_zero_or_one k with hk | hk
    · rw [hk] at hd
      cases hd
      rw [show k / 2 * 2=k from by omega] at g0
      exact ⟨x0,g0,r0⟩
    · rw [hk] at hd
      cases hd
      rw [show k / 2 * 2+1=k from by omega] at g1
      exact ⟨x1,g1,r1⟩
def accD:List (DataW Unit):=((aggOf Rows.laid_unicode_utf8_acceptRanges).map aggOf).flatten
theorem gAcc:Tryz.prog.globalNamed "unicode/utf8.acceptRanges" = some 3:=by kernel_rfl
theorem j95:accD.map jm8=accR:=by kernel_rfl
theorem j2x:Rows.laid_unicode_utf8_acceptRanges = .agg (aggOf Rows.laid_unicode_utf8_acceptRanges):=by kernel_rfl
theorem jxw:(accD.map jm8).all V.pureLeaf=true:=by kernel_rfl
theorem tAcc:(Tryz.prog.globals[3]?).map (·.type)=some 322:=by kernel_rfl
theorem glOk {W:World} (h:laidMetH Tryz.prog jo5 W):GlOk E (Y2 W):=by
  rw [MakeChecks.laidMetH_plain _ _ _ (by kernel_rfl)] at h
  obtain ⟨ps,⟨g2,t2,cs2,f2,p2,q2,hg2,ht2,hv2,hd2,⟨g0,t0,cs0,f0,p0,q0,hg0,ht0,hv0,hd0,⟨g1,t1,cs1,f1,p1,q1,hg1,ht1,hv1,hd1,_,_⟩,_⟩,_⟩,_,_⟩:=h
  obtain rfl:=Option.some.inj (gWords.symm.trans hg0)
  obtain rfl:=Option.some.inj (gFirst.symm.trans hg1)
  obtain rfl:=Option.some.inj (tWords.symm.trans ht0)
  obtain rfl:=Option.some.inj (tFirst.symm.trans ht1)
  obtain rfl:=Option.some.inj (gAcc.symm.trans hg2)
  obtain rfl:=Option.some.inj (tAcc.symm.trans ht2)
  intro g cs hcs
  simp only [E] at hcs
  split at hcs
  · cases hcs
    rw [← jur]
    exact jtj gWords hv0 jn5 (jt0 Tryz.underlying300 (by kernel_rfl) (Or.inl (by kernel_rfl)) hd0 _)
  · cases hcs
    rw [← jxe]
    rw [jtk] at hd1
    exact jtj gFirst hv1 jph (jt0 Tryz.underlying319 (by kernel_rfl) (Or.inr ⟨.u8,by kernel_rfl⟩) hd1 _)
  · cases hcs
    rw [← j95]
    rw [j2x] at hd2
    exact jtj gAcc hv2 jxw (jxu (k0:=.u8) (k1:=.u8) Tryz.underlying322 (by kernel_rfl) Tryz.underlying321 rfl rfl (by kernel_rfl) (by kernel_rfl) (by kernel_rfl) (by kernel_rfl) hd2 _)
  · cases hcs
abbrev j3r:Ty:=.pair (.int .i64) (.pair (.int .i64) .unit)
abbrev opTy:Ty:=.pair .bool (.pair (.int .i64) (.pair j3r .unit))
abbrev j3t:Ty:=.pair (.int .i64) (.pair (.int .i64) (.pair (.slice opTy) .unit))
abbrev jyp:Ty:=.pair (.slice .str) (.pair (.slice .str) (.pair (.slice j3t) .unit))
theorem Q5 {α:Type} {t:Ty} {f:α→List V} (hf:∀ e,Sh t e→∃ a,e=f a) {vs:List V} (h:Sh (.slice t) vs):∃ nl l,vs=[jI nl f l]:=by
 cases h with
 | nil=>exact ⟨true,[],rfl⟩
 | slice es hn h =>
  have all:∀ es:List (List V),(∀ e∈es,Sh t e)→∃ l:List α,es=l.map f:=by
   intro es
   induction es with
   | nil=>intro _;exact ⟨[],rfl⟩
   | cons e es ih =>
    intro h
    obtain ⟨a,rfl⟩:=hf e (h e (List.mem_cons_self ..))
    obtain ⟨l,rfl⟩:=ih (fun e he=>h e (List.mem_cons_of_mem _ he))
    exact ⟨a::l,rfl⟩
  obtain ⟨l,rfl⟩:=all es h
  exact ⟨false,l,by simp [jI,List.flatMap]⟩
theorem j39 {vs:List V} (h:Sh j3r vs):∃ v:Val',vs=J1 v:=by
 cases h with
 | pair ha hb=>cases ha with
  | int _ k=>cases hb with
   | pair hc hd=>cases hc with
    | int _ n=>cases hd;exact ⟨⟨k,n⟩,rfl⟩
theorem sh_op {vs:List V} (h:Sh opTy vs):∃ o:Op',vs=opC o:=by
 cases h with
 | pair ha hb=>cases ha with
  | bool w=>cases hb with
   | pair hc hd=>cases hc with
    | int _ k=>cases hd with
     | pair he hf =>
      obtain ⟨v,rfl⟩:=j39 he
      cases hf
      exact ⟨⟨w,k,v⟩,rfl⟩
theorem j4a {vs:List V} (h:Sh j3t vs):∃ t:Txn',vs=ji t:=by
 cases h with
 | pair ha hb=>cases ha with
  | int _ s=>cases hb with
   | pair hc hd=>cases hc with
    | int _ f=>cases hd with
     | pair he hf =>
      obtain ⟨nl,l,rfl⟩:=Q5 (f:=opC) (fun e=>sh_op) he
      cases hf
      exact ⟨⟨s,f,nl,l⟩,rfl⟩
theorem jx7 {vs:List V} (h:Sh .str vs):∃ s:List UInt8,vs=JJ s:=by
 cases h with
 | str s=>exact ⟨s,rfl⟩
theorem jzt {vs:List V} (h:Sh jyp vs):∃ g:Hist',vs=j2 g:=by
 cases h with
 | pair ha hb=>cases hb with
  | pair hc hd=>cases hd with
   | pair he hf =>
    obtain ⟨n0,l0,rfl⟩:=Q5 (f:=JJ) (fun e=>jx7) ha
    obtain ⟨n1,l1,rfl⟩:=Q5 (f:=JJ) (fun e=>jx7) hc
    obtain ⟨n2,l2,rfl⟩:=Q5 (f:=ji) (fun e=>j4a) he
    cases hf
    exact ⟨⟨n0,l0,n1,l1,n2,l2⟩,rfl⟩
theorem jjk {v:V} (h:v.pureLeaf=true):v.leaf=true:=by cases v <;> first | rfl | cases h
section
variable {H:Type} {enc:TypeId × Value→H} {W:World} {v:Value} {d:DataW H} {p:List MemPlace} {base:Nat}
theorem jfs {t:TypeId} {fs:Array Field} {n:Nat} {ty:Ty} (ht:Tryz.prog.underlying t=some (.struct fs)) (hty:jzj Tryz.prog n t=some ty) (hval:Value.okWide Tryz.prog W .any base t v)
 (h:DataW.Trod enc Tryz.prog W 0 (fun _=>true) true t v d p):∃ vs,Sh ty vs∧RepP (Y2 W) v (.agg vs):=by
 obtain ⟨cs,rfl,_⟩:=okWide_struct ht hval
 obtain ⟨fuel,hf⟩:=h
 obtain ⟨vs,hs,hr⟩:=jqz n t ty hty fuel _ _ hf
 refine ⟨vs,hs,RepP.agg cs vs (by simpa [Value.cells] using hr.1) (fun j v hj=>jjk (hs.pure v (List.mem_of_getElem? hj))) (fun j x v hx hv=>hr.2 j x v (by simpa [Value.cells] using hx) hv)⟩
theorem jz9 (ts:List TypeId) (h:(ts.all fun t=>Tryz.prog.readableRec t && decide (t<Tryz.prog.types.size))=true) (t:TypeId) (ht:t∈ts):Tryz.prog.readableRec t=true∧t<Tryz.prog.types.size:=by
 have:=List.all_eq_true.1 h t ht
 simpa using this
theorem jw8 (hval:Value.okWide Tryz.prog W .any base 25 v) (h:DataW.Trod enc Tryz.prog W 0 (fun _=>true) true 25 v d p):∃ g:Hist',RepP (Y2 W) v (.agg (j2 g)):=by
 obtain ⟨vs,hs,hr⟩:=jfs (n:=8) (ty:=jyp) Tryz.underlying25 (by kernel_rfl) hval h
 obtain ⟨g,rfl⟩:=jzt hs
 exact ⟨g,hr⟩
theorem j1v (hval:Value.okWide Tryz.prog W .any base 3 v):∃ n:Int,RepP (Y2 W) v (.int .i64 n):=by
 obtain ⟨n,rfl⟩:=okWide_int Tryz.underlying3 hval
 exact ⟨n,RepP.int .i64 n⟩
end
theorem jl1 {f:FuncId} {W:World} {args:Array Value} {vs:List V} (hL:laidMetH Tryz.prog jo5 W) (hlen:args.size=vs.length) (hr:∀ (j:Nat) (x:Value) (v:V),args[j]? = some x→vs[j]? = some v→RepP (Y2 W) x v)
 (he:Ev E1 f vs (.bool true)):Calls Tryz.prog f args W fun e w'=>e = .returned (.bool true)∧W.grownBy w' none:=by
 refine (Ev.sound mixed j9i he W (Y2 W) args (jtu W) (glOk hL) hlen hr).mono fun e W' ⟨x,τ,I',h1,h2,_,_,_,h3,_⟩=>⟨?_,h2⟩
 rw [h1]
 have h4:RepP I' x (.bool true):=h3
 cases h4
 rfl
abbrev jyx:Ty:=.pair (.slice (.int .i64)) (.pair (.slice (.int .i64)) .unit)
theorem jzu {vs:List V} (h:Sh jyx vs):∃ (a b:Bool) (M O:List Int),vs=[jI a intC M,jI b intC O]:=by
 cases h with
 | pair ha hb=>cases hb with
  | pair hc hd =>
   obtain ⟨n0,l0,rfl⟩:=Q5 (f:=intC) (fun e he=>by cases he with | int _ k=>exact ⟨k,rfl⟩) ha
   obtain ⟨n1,l1,rfl⟩:=Q5 (f:=intC) (fun e he=>by cases he with | int _ k=>exact ⟨k,rfl⟩) hc
   cases hd
   exact ⟨n0,n1,l0,l1,rfl⟩
section
variable {H:Type} {enc:TypeId × Value→H} {W:World} {v:Value} {d:DataW H} {p:List MemPlace} {base:Nat}
theorem jxs (hval:Value.okWide Tryz.prog W .any base 28 v) (h:DataW.Trod enc Tryz.prog W 0 (fun _=>true) true 28 v d p):∃ (a b:Bool) (M O:List Int),RepP (Y2 W) v (.agg [jI a intC M,jI b intC O]):=by
 obtain ⟨vs,hs,hr⟩:=jfs (n:=8) (ty:=jyx) Tryz.underlying28 (by kernel_rfl) hval h
 obtain ⟨a,b,M,O,rfl⟩:=jzu hs
 exact ⟨a,b,M,O,hr⟩
end
end Go.Pv.T
