/- Axioms: the reference's walk of past. -/
import Derived.Test.YtphecmnehkdihaaGreatDoorGE
set_option maxRecDepth 100000
namespace Go.Pv.T
open Go Go.Pv
theorem j34 (bs:List Bool):bs.map V.bool=bs.flatMap blC:=by induction bs <;> simp_all [blC]
theorem bl_end {st:St}{q l u n:Nat}{bs:List Bool}{P:V→Prop}(hP:∀r,SlR r false n (bs.flatMap blC)→P r) (hd:st.df=[]) (hv:st.tm q=.osl l u 0 n 1) (ho:st.ob l=some ⟨u,.cells (bs.flatMap blC)⟩) (hl:bs.length=n) (_:0<n) (hr:st.ro=0):jem [.t q] P .ret st:=by
 have hbl:(bs.flatMap blC).length=n:=by rw[j8 jme,Nat.mul_one,hl]
 have hoc:j1 st.ob l u=some (bs.flatMap blC):=by simp[j1,ho]
 have hsb:(bs.flatMap blC).mapM (JU st 5)=some (bs.flatMap blC):=by
  clear hoc ho hbl hl hP
  induction bs with
  | nil=>rfl
  | cons b bs ih=>
   rw[List.flatMap_cons]
   show(V.bool b::bs.flatMap blC).mapM (JU st 5)=_
   rw[List.mapM_cons,ih]
   rfl
 have hs:JU st 6 (.osl l u 0 n 1)=some (.sl none false n (bs.flatMap blC)):=by
  show((j1 st.ob l u).bind fun cs=>if Nat.ble st.ro u=true∧0+n*1≤cs.length then (((cs.drop 0).take (n*1)).mapM (JU st 5)).map fun cs'=>V.sl none false n cs' else none)=_
  rw[hoc,Option.bind_some,if_pos ⟨Nat.ble_eq▸(by omega),by omega⟩,List.drop_zero,Nat.mul_one,List.take_of_length_le (by omega),hsb]
  rfl
 have ho:∃t:Option (Nat × Nat),jm st true 0 (.osl l u 0 n 1)=some (.sl t false n (bs.flatMap blC))∧∀p∈t.toList,p.1<64:=by
  simp only[jm,hs,Option.bind_some,hoc,Option.map_some]
  refine⟨_,rfl,fun p hp=>?_⟩
  split at hp
  ·simp at hp;subst hp;decide
  ·simp at hp
 obtain⟨t,hto,htt⟩:=ho
 have hr':[ARes.t q].mapM (jp st)=some [.osl l u 0 n 1]:=by simp[jp,hv]
 refine⟨.sl t false n (bs.flatMap blC),?_,hP _ ⟨t,rfl,htt⟩⟩
 simp only[jbf,Ys hd,Yo hd,if_true,hr',Option.bind_some,W7]
 have hn:nodup ([V.osl l u 0 n 1].flatMap V.toks)=true:=rfl
 rw[hn]
 simp only[JL,XZ,hto,Option.bind_some,Option.map_some]
 cases t <;> rfl
theorem ev75 {g:Hist'}(hs:Small g) {nl:Bool}{M:List Int}(hM:M.length=(readH g).length) {t:Nat}(ht:t<g.ts.length) :
 ∃v,Ev E 75 [.agg (j2 g),jH false jI (readH g),jH nl intC M,.int .i64 (t:Int)] v∧SlR v false g.ts.length (((List.range g.ts.length).map (farB g M t)).flatMap blC):=by
 have hts:=hs.ts
 have hn0:0<g.ts.length:=by omega
 refine YR (af:=F75) rfl (by decide) ?_
 simp[F75,j2,j1]
 refine jxn (n:=g.ts.length) (by simp) (by simp) (by omega) (by omega) (by omega) rfl (by decide) ?_
 simp[jbm]
 refine JJ fun st hst=>?_
 have g1:st.tm 1=jH false jI (readH g):=by rw[hst];simp
 have g2:st.tm 2=jH nl intC M:=by rw[hst];simp
 have g3:st.tm 3=.int .i64 (t:Int):=by rw[hst];simp
 have g4:st.tm 4=.ptr 8 0 0:=by rw[hst];simp
 have g9:st.tm 9=.osl 32 320 0 g.ts.length 1:=by rw[hst];simp
 have g10:st.tm 10=.bool true:=by rw[hst];simp
 have p8:st.ob 8=some ⟨0,.cells (j2 g)⟩:=by rw[hst];simp[j2]
 have p32:st.ob 32=some ⟨320,.cells ((List.replicate g.ts.length false).map V.bool)⟩:=by rw[hst];simp
 have gd:st.df=[]:=by rw[hst];simp
 have gr:st.ro=0:=by rw[hst];simp
 have gb:st.fb=0:=by rw[hst];simp
 clear hst
 obtain⟨J,hJ⟩:∃J:Nat→St→Prop,J=fun k s=>∃bs m,FarS g M t bs∧(m=false→∀a b,a<g.ts.length→b<g.ts.length→jey g M t bs a b=false)∧bs.count false+(if m then 1 else 0)≤k ∧
  s.tm 1=jH false jI (readH g)∧s.tm 2=jH nl intC M∧s.tm 3=.int .i64 (t:Int)∧s.tm 4=.ptr 8 0 0∧s.tm 9=.osl 32 320 0 g.ts.length 1∧s.tm 10=.bool m∧s.ob 8=some ⟨0,.cells (j2 g)⟩∧s.ob 32=some ⟨320,.cells (bs.map V.bool)⟩∧s.df=[]∧s.ro=0∧s.fb=0:=⟨_,rfl⟩
 refine WH (n:=g.ts.length+1) J (by
  rw[hJ]
  exact⟨List.replicate g.ts.length false,true,⟨by simp,fun a h=>by simp[List.getD_eq_getElem?_getD,List.getElem?_replicate]at h;split at h <;> cases h⟩,(fun h=>by cases h),by simp,g1,g2,g3,g4,g9,g10,p8,p32,gd,gr,gb⟩) ?_
 intro k s hJs
 rw[hJ]at hJs
 obtain⟨bs0,m,hF,hcl,hk,s1,s2,s3,s4,s9,s10,o8,o32,sd,sr,sb⟩:=hJs
 cases m
 ·simp[s10]
  have hall:=j3l hF ht (hcl rfl)
  rw[hall,j34]at o32
  refine bl_end (l:=32) (u:=320) (n:=g.ts.length) (bs:=(List.range g.ts.length).map (farB g M t)) (fun r h=>h) (by simp[sd]) (by simp[s9]) (by simpa using o32) (by simp) hn0 (by simp[sr])
 ·simp only[if_true]at hk
  simp[s10]
  obtain⟨I,hI⟩:∃I:Nat→St→Prop,I=fun i s=>s.tm 11=.int .i64 i∧∃bs m,FarR g M t bs0 i 0 bs m∧s.tm 10=.bool m∧s.ob 8=some ⟨0,.cells (j2 g)⟩∧s.ob 32=some ⟨320,.cells (bs.map V.bool)⟩:=⟨_,rfl⟩
  refine jF [(10,12),(18,58)] g.ts.length I rfl rfl (by
   rw[hI]
   exact⟨by simp,bs0,false,⟨hF,fun _=>⟨rfl,fun a b h _=>by omega⟩,fun h=>by cases h⟩,by simp,by simpa using o8,by simpa using o32⟩) ?_
  intro i w hi hIw f
  rw[hI]at hIw
  obtain⟨w11,bs1,m1,hR,w10,v8,v32⟩:=hIw
  have f1:w.tm 1=jH false jI (readH g):=by rw[f.t 1 (by simp)];simp[s1]
  have f2:w.tm 2=jH nl intC M:=by rw[f.t 2 (by simp)];simp[s2]
  have f3:w.tm 3=.int .i64 (t:Int):=by rw[f.t 3 (by simp)];simp[s3]
  have f4:w.tm 4=.ptr 8 0 0:=by rw[f.t 4 (by simp)];simp[s4]
  have f9:w.tm 9=.osl 32 320 0 g.ts.length 1:=by rw[f.t 9 (by simp)];simp[s9]
  have fd:w.df=[]:=by rw[f.d];simp[sd]
  have fr:w.ro=0:=by rw[f.r];simp[sr]
  have fb:w.fb=0:=by rw[f.b];simp[sb]
  clear f
  by_cases hlt:i<g.ts.length
  ·simp[w11,f4,v8,j1,j2,hlt]
   obtain⟨I2,hI2⟩:∃I2:Nat→St→Prop,I2=fun j s=>s.tm 12=.int .i64 j∧∃bs m,FarR g M t bs0 i j bs m∧s.tm 10=.bool m∧s.ob 8=some ⟨0,.cells (j2 g)⟩∧s.ob 32=some ⟨320,.cells (bs.map V.bool)⟩:=⟨_,rfl⟩
   refine jF [(10,10),(12,12),(25,58)] g.ts.length I2 rfl rfl (by
    rw[hI2]
    exact⟨by simp,bs1,m1,hR,by simpa using w10,by simpa using v8,by simpa using v32⟩) ?_
   intro j x hj hIx f
   rw[hI2]at hIx
   obtain⟨x12,bs,m,hR2,x10,y8,y32⟩:=hIx
   have x1:x.tm 1=jH false jI (readH g):=by rw[f.t 1 (by simp)];simp[f1]
   have x2:x.tm 2=jH nl intC M:=by rw[f.t 2 (by simp)];simp[f2]
   have x3:x.tm 3=.int .i64 (t:Int):=by rw[f.t 3 (by simp)];simp[f3]
   have x4:x.tm 4=.ptr 8 0 0:=by rw[f.t 4 (by simp)];simp[f4]
   have x9:x.tm 9=.osl 32 320 0 g.ts.length 1:=by rw[f.t 9 (by simp)];simp[f9]
   have x11:x.tm 11=.int .i64 (i:Int):=by rw[f.t 11 (by simp)];simp[w11]
   have xd:x.df=[]:=by rw[f.d];simp[fd]
   have xr:x.ro=0:=by rw[f.r];simp[fr]
   have xb:x.fb=0:=by rw[f.b];simp[fb]
   clear f
   by_cases hjt:j<g.ts.length
   ·have hw:=jv hjt (by omega)
    have hnx:=hR2.next ht hlt hjt
    have hbl:bs.length=g.ts.length:=hR2.1.1
    have hio:=idxN (l:=32) (u:=320) (n:=g.ts.length) (kk:=.i64) (X:=(i:Int)) rfl hlt
    have hjo:=idxN (l:=32) (u:=320) (n:=g.ts.length) (kk:=.i64) (X:=(j:Int)) rfl hjt
    have hbi:=joe bs (i:=i) (by omega)
    have hbj:=joe bs (i:=j) (by omega)
    have hgi:bs.getD i false=bs[i]:=by simp[List.getD_eq_getElem?_getD,show i<bs.length by omega]
    have hgj:bs.getD j false=bs[j]:=by simp[List.getD_eq_getElem?_getD,show j<bs.length by omega]
    have est:=ev122 hs (nl:=nl) hM hlt hjt
    have hjb:((j:Int) == (t:Int))=(j == t):=by rw[Bool.eq_iff_iff];simp;omega
    unfold jey at hnx
    rw[hgi,hgj]at hnx
    have hsp:=jow bs i true (by omega)
    have done1:∀ (x':St) (bs':List Bool) (m':Bool),FarR g M t bs0 i (j+1) bs' m'→x'.tm 12=.int .i64 ((j+1:Nat):Int)→x'.tm 10=.bool m'→x'.ob 8=some ⟨0,.cells (j2 g)⟩→x'.ob 32=some ⟨320,.cells (bs'.map V.bool)⟩→I2 (j+1) x':=fun x' bs' m' a1 a2 a3 a4 a5=>by rw[hI2];exact⟨a2,bs',m',a1,a3,a4,a5⟩
    cases ci:bs[i]
    ·have key:∀c:Bool,Wt g M i j=c→((j == t) || bs[j])=true→FarR g M t bs0 i (j+1) (if c then bs.set i true else bs) (m || c):=fun c hc hq=>by
      rw[ci,hc,hq]at hnx
      simpa using hnx
     cases ct:(j == t)
     ·cases cj:bs[j]
      ·rw[ci,ct,cj]at hnx
       simp at hnx
       simp[x12,x4,x3,x9,x11,y8,y32,j1,j2,hjt,hio,hjo,hbi,hbj,ci,cj,hjb,ct,hw]
       exact done1 _ bs m hnx (by simp) (by simp[x10]) (by simp[y8,j2]) (by simp[y32])
      ·rw[ct,cj]at key
       cases cs:Wt g M i j
       ·have hk2:=key false cs rfl
        rw[cs]at est
        simp at hk2
        simp[x12,x4,x3,x9,x11,x1,x2,y8,y32,j1,j2,hjt,hio,hjo,hbi,hbj,ci,cj,hjb,ct]
        refine jU est (by simp[j2]) rfl (by simp[j2]) ?_
        simp[hw,x12,hjt]
        exact done1 _ bs m hk2 (by simp) (by simp[x10]) (by simp[y8,j2]) (by simp[y32])
       ·have hk2:=key true cs rfl
        rw[cs]at est
        simp at hk2
        simp[x12,x4,x3,x9,x11,x1,x2,y8,y32,j1,j2,hjt,hio,hjo,hbi,hbj,ci,cj,hjb,ct]
        refine jU est (by simp[j2]) rfl (by simp[j2]) ?_
        simp[hw,x12,hjt,x9,x11,hio,y32,j1,hsp,xr]
        exact⟨by omega,done1 _ (bs.set i true) true hk2 (by simp) (by simp) (by simp[y8,j2]) (by simp[List.map_set])⟩
     ·cases cs:Wt g M i j
      ·have hk2:=key false cs (by rw[ct];rfl)
       rw[cs]at est
       simp at hk2
       simp[x12,x4,x3,x9,x11,x1,x2,y8,y32,j1,j2,hjt,hio,hbi,ci,hjb,ct]
       refine jU est (by simp[j2]) rfl (by simp[j2]) ?_
       simp[hw,x12,hjt]
       exact done1 _ bs m hk2 (by simp) (by simp[x10]) (by simp[y8,j2]) (by simp[y32])
      ·have hk2:=key true cs (by rw[ct];rfl)
       rw[cs]at est
       simp at hk2
       simp[x12,x4,x3,x9,x11,x1,x2,y8,y32,j1,j2,hjt,hio,hbi,ci,hjb,ct]
       refine jU est (by simp[j2]) rfl (by simp[j2]) ?_
       simp[hw,x12,hjt,x9,x11,hio,y32,j1,hsp,xr]
       exact⟨by omega,done1 _ (bs.set i true) true hk2 (by simp) (by simp) (by simp[y8,j2]) (by simp[List.map_set])⟩
    ·rw[ci]at hnx
     simp at hnx
     simp[x12,x4,x9,x11,y8,y32,j1,j2,hjt,hio,hbi,ci,hw]
     exact done1 _ bs m hnx (by simp) (by simp[x10]) (by simp[y8,j2]) (by simp[y32])
   ·have:j=g.ts.length:=by omega
    subst this
    have hw:=jv hlt (by omega)
    simp[x12,x4,y8,j1,j2,x11,hw,hlt]
    rw[hI]
    exact⟨by simp,bs,m,hR2.row,by simpa using x10,by simpa[j2] using y8,by simpa using y32⟩
  ·have:i=g.ts.length:=by omega
   subst this
   simp[w11,f4,v8,j1,j2]
   refine⟨k - 1,by omega,?_⟩
   rw[hJ]
   refine⟨bs1,m1,hR.1,fun hm a b ha hb=>?_,?_,by simpa using f1,by simpa using f2,by simpa using f3,by simpa using f4,by simpa using f9,by simpa using w10,by simpa[j2] using v8,by simpa using v32,by simp[fd],by simp[fr],by simp[fb]⟩
   ·rw[(hR.2.1 hm).1]
    exact(hR.2.1 hm).2 a b (.inl ha) hb
   ·cases m1
    ·rw[(hR.2.1 rfl).1];simp;omega
    ·have:=hR.2.2 rfl;simp;omega
theorem ev33 {g:Hist'}(hs:Small g) {nl on:Bool}{M O:List Int}(hM:M.length=(readH g).length) (hO:O.length≤1000000) (lvl:Int) {q:Nat}(hq:q<(readH g).length) {t:Nat}(ht:t<g.ts.length) (hqt:((readH g)[q]).1=t) :
 ∃v,Ev E 33 [.int .i64 lvl,.agg (j2 g),jH nl intC M,jH on intC O,.int .i64 (q:Int)] v∧SlR v false (jdu g lvl M O (readH g)[q]).length ((jdu g lvl M O (readH g)[q]).flatMap intC):=by
 have hts:=hs.ts
 have hRl:=W4 hs
 obtain⟨vr,evr,hvr⟩:=ev31 hs
 obtain⟨vp,evp,hvp⟩:=ev75 hs (nl:=nl) hM ht
 refine YR (af:=F33) rfl (by decide) ?_
 obtain⟨p,hp⟩:∃p,(readH g)[q]=p:=⟨_,rfl⟩
 have hpl:=jr4 (readH g) hq
 have hld:=jc jl (fun _=>none) (readH g) hq
 rw[hp]at hqt hpl ⊢
 obtain⟨F,hF⟩:∃F,(fun i=>Wp g lvl M O p i)=F:=⟨_,rfl⟩
 have hFi:∀i,Wp g lvl M O p i=F i:=fun i=>congrFun hF i
 have hL:jdu g lvl M O p=Yq F g.ts.length:=by unfold jdu;rw[← hF]
 rw[hL]
 have hR1:lvl=1→∀i:Nat,F i=rcB (readH g) M p i:=fun h i=>by rw[← hFi];simp[Wp,h]
 have hR2:lvl=2→∀i,F i=farB g M t i:=fun h i=>by rw[← hFi];simp[Wp,h,hqt]
 have hR3:lvl=3→∀i:Nat,F i=(JF g i && decide (atO O i<atO O t)):=fun h i=>by rw[← hFi];simp[Wp,h,hqt]
 have hR4:lvl≠1→lvl≠2→lvl≠3→∀i,F i=false:=fun h1 h2 h3 i=>by rw[← hFi];simp[Wp,h1,h2,h3]
 clear hFi hF
 obtain⟨B,hB⟩:∃B,(List.range g.ts.length).map (farB g M t)=B:=⟨_,rfl⟩
 rw[hB]at hvp
 have hBl:B.length=g.ts.length:=by rw[← hB];simp
 have hBi:∀i (h:i<B.length),B[i]=farB g M t i:=fun i h=>by simp[← hB]
 clear hL
 generalize readH g=R at *
 simp[F33,j2,j1]
 refine jU evr (by simp[j2]) rfl (by simp[j2]) ?_
 refine Wx hvr fun tr addr=>?_
 simp
 refine jX (cs:=[]) rfl rfl rfl ?_
 have hpa:=fun ob=>jc4 R ob hq
 simp only[hp]at hpa
 simp[j1,hq,Jx jl,hpa,j7]
 simp only[hqt]at hpa hpl
 simp[hqt]
 refine jU evp (by simp[j2,jH]) rfl (by simp[j2]) ?_
 rw[← hBl]at hvp
 refine Wx hvp fun tp addp=>?_
 simp
 refine JJ fun st hst=>?_
 have g0:st.tm 0=.int .i64 lvl:=by rw[hst];simp
 have g2:st.tm 2=jH nl intC M:=by rw[hst];simp
 have g3:st.tm 3=jH on intC O:=by rw[hst];simp
 have g6:st.tm 6=.ptr 12 0 0:=by rw[hst];simp
 have g11:st.tm 11=.sl tr false R.length (R.flatMap jI):=by rw[hst];simp
 have g13:st.tm 13=.ptr 26 704 0:=by rw[hst];simp
 have g14:st.tm 14=.sl tp false B.length (B.flatMap blC):=by rw[hst];simp
 have g15:st.tm 15=.int .i64 0:=by rw[hst];simp
 have p12:st.ob 12=some ⟨0,.cells (j2 g)⟩:=by rw[hst];simp[j2]
 have p26:st.ob 26=some ⟨704,.cells [.int .i64 (t:Int),.int .i64 p.2]⟩:=by rw[hst];simp
 have gG:GrowT st.tk st.nx intC 1 (Yq F 0) (st.tm 12):=by rw[hst];exact⟨_,by simp[Yq];rfl,by simp[JC],by simp⟩
 have gd:st.df=[]:=by rw[hst];simp
 have gr:st.ro=0:=by rw[hst];simp
 have gb:st.fb=0:=by rw[hst];simp
 clear hst
 obtain⟨I,hI⟩:∃I:Nat→St→Prop,I=fun i s=>s.tm 15=.int .i64 i∧s.ob 12=some ⟨0,.cells (j2 g)⟩∧s.ob 26=some ⟨704,.cells [.int .i64 (t:Int),.int .i64 p.2]⟩∧GrowT s.tk s.nx intC 1 (Yq F i) (s.tm 12):=⟨_,rfl⟩
 refine jF [(12,12),(15,17),(31,105)] g.ts.length I rfl rfl (by
  rw[hI]
  exact⟨by simpa using g15,p12,p26,gG⟩) ?_
 intro i s hi hIs f
 rw[hI]at hIs
 obtain⟨s15,o12,o26,hG⟩:=hIs
 have s0:s.tm 0=.int .i64 lvl:=by rw[f.t 0 (by simp)];simp[g0]
 have s2:s.tm 2=jH nl intC M:=by rw[f.t 2 (by simp)];simp[g2]
 have s3:s.tm 3=jH on intC O:=by rw[f.t 3 (by simp)];simp[g3]
 have s6:s.tm 6=.ptr 12 0 0:=by rw[f.t 6 (by simp)];simp[g6]
 have s11:s.tm 11=.sl tr false R.length (R.flatMap jI):=by rw[f.t 11 (by simp)];simp[g11]
 have s13:s.tm 13=.ptr 26 704 0:=by rw[f.t 13 (by simp)];simp[g13]
 have s14:s.tm 14=.sl tp false B.length (B.flatMap blC):=by rw[f.t 14 (by simp)];simp[g14]
 have sd:s.df=[]:=by rw[f.d];simp[gd]
 have sr:s.ro=0:=by rw[f.r];simp[gr]
 have sb:s.fb=0:=by rw[f.b];simp[gb]
 clear f
 by_cases hlt:i<g.ts.length
 ·have hw:=jv hlt (by omega)
  have hlf:=je0 F i
  simp[s15,s6,o12,j1,j2,hlt,s0]
  generalize hKK:jqs E Y0 _ _=KK
  have rest:∀x:St,x.tm 16=.bool (F i)→x.tm 15=.int .i64 i→x.ob=s.ob→x.tk=s.tk→s.nx≤x.nx→x.tm 12=s.tm 12→KK .nrm x:=by
   intro x x16 x15 xo xk xn x12
   rw[← hKK]
   clear hKK
   have hsuc:Yq F (i+1)=Yq F i++(if F i then [(i:Int)] else []):=rfl
   cases hf:F i
   ·rw[hf]at x16 hsuc
    simp only[Bool.false_eq_true,if_false,List.append_nil]at hsuc
    simp[x16,x15,hw,hlt]
    rw[hI]
    refine⟨by simp,by simp[xo,o12],by simp[xo,o26],?_⟩
    rw[hsuc]
    simpa[x12,xk] using hG.mono (nx':=x.nx+64+64+64+64) (fun _ _ h=>h) (by omega)
   ·rw[hf]at x16 hsuc
    simp only[if_true]at hsuc
    simp[x16,x15]
    refine jX (cs:=intC i) (by simp[j7,intC]) rfl rfl ?_
    simp[intC]
    refine jby (hi:=s.nx) (f:=intC) (l:=Yq F i) (a:=(i:Int)) (v:=s.tm 12) (hG.mono (fun u _ h=>by simp[JC,xk,h]) (Nat.le_refl _)) (by simp[x12]) (by simp[jM,intC]) jB (by decide) (by simp[intC,V.pureLeaf]) (by omega) (by omega) (fun del hdel=>?_)
    rw[← hsuc]
    have hlen:(Yq F i).length+1=(Yq F (i+1)).length:=by rw[hsuc];simp
    rw[hlen]
    obtain⟨Q,hQ⟩:∃Q,Yq F (i+1)=Q:=⟨_,rfl⟩
    rw[hQ]
    simp[x15,hw,hlt]
    rw[hI]
    refine⟨by simp,by simp[xo,o12],by simp[xo,o26],?_⟩
    rw[hQ]
    exact⟨_,by simp;rfl,by simp[JC],by simp⟩
  by_cases e1:lvl=1
  ·simp[e1]
   have hc:=hR1 e1 i
   unfold rcB at hc
   refine jF [(16,17),(41,75)] R.length (fun k x=>x.tm 17=.int .i64 k∧(∃acc,x.tm 16=.bool acc∧(acc || ((R.drop k).zip (M.drop k)).any fun y=>y.1.1 == p.1 && (decide (y.1.2<p.2) && y.2 == (i:Int)))=F i)∧x.ob=s.ob∧x.tk=s.tk∧s.nx≤x.nx) rfl rfl ⟨by simp,⟨false,by simp,by simpa using hc.symm⟩,by simp,by simp,by simp;omega⟩ ?_
   rintro k x hk ⟨x17,⟨acc,x16,hacc⟩,xo,xk,xn⟩ f
   have x15:x.tm 15=.int .i64 i:=by rw[f.t 15 (by simp)];simp[s15]
   have x2:x.tm 2=jH nl intC M:=by rw[f.t 2 (by simp)];simp[s2]
   have x11:x.tm 11=.sl tr false R.length (R.flatMap jI):=by rw[f.t 11 (by simp)];simp[s11]
   have x13:x.tm 13=.ptr 26 704 0:=by rw[f.t 13 (by simp)];simp[s13]
   have x12:x.tm 12=s.tm 12:=by rw[f.t 12 (by simp)];simp
   clear f
   have x26:x.ob 26=some ⟨704,.cells [.int .i64 (t:Int),.int .i64 p.2]⟩:=by rw[xo];exact o26
   by_cases hkt:k<R.length
   ·have hwk:=jv hkt (by omega)
    have hkm:k<M.length:=by omega
    have h1:=JP M hkm
    have h2:=jr4 R hkt
    rw[List.drop_eq_getElem_cons hkt,List.drop_eq_getElem_cons hkm,List.zip_cons_cons,List.any_cons,← Bool.or_assoc]at hacc
    rw[hqt]at hacc
    cases acc
    ·cases c1:((R[k]).1 == (t:Int))
     ·rw[c1]at hacc
      simp[x17,x16,x11,x13,x26,j1,hkt,Jx jl,h2,c1,hwk]
      exact⟨by simpa[hqt] using hacc,xo,xk,by omega⟩
     ·by_cases c2:(R[k]).2<p.2
      ·cases c3:(M[k] == (i:Int))
       ·rw[c1,c3,decide_eq_true c2]at hacc
        simp[x17,x16,x11,x13,x26,x2,x15,j1,hkt,hkm,Jx jl,j6 jB,h1,h2,c1,c2,c3,hwk]
        exact⟨by simpa[hqt] using hacc,xo,xk,by omega⟩
       ·rw[c1,c3,decide_eq_true c2]at hacc
        simp[x17,x16,x11,x13,x26,x2,x15,j1,hkt,hkm,Jx jl,j6 jB,h1,h2,c1,c2,c3,hwk]
        exact⟨by simpa[hqt] using hacc,xo,xk,by omega⟩
      ·rw[c1,decide_eq_false c2]at hacc
       simp[x17,x16,x11,x13,x26,j1,hkt,Jx jl,h2,c1,c2,hwk]
       exact⟨by simpa[hqt] using hacc,xo,xk,by omega⟩
    ·simp[x17,x16,x11,hkt,hwk]
     exact⟨by simpa[hqt] using hacc,xo,xk,by omega⟩
   ·have:k=R.length:=by omega
    subst this
    rw[List.drop_length]at hacc
    simp at hacc
    simp[x17,x11]
    exact rest _ (by simp[x16,hacc]) (by simp[x15]) (by simp[xo]) (by simp[xk]) (by simp;omega) (by simp[x12])
  ·have b1:(lvl == 1)=false:=by simpa using e1
   by_cases e2:lvl=2
   ·have hbx:=bl_at B (i:=i) (by omega)
    rw[hBi i (by omega),← hR2 e2 i]at hbx
    have hix:=Jx jme tp false B .i64 (i:=i) (by omega)
    rw[Nat.mul_one]at hix
    simp[e2,s14,s15,hix,hbx]
    exact rest _ (by simp) (by simp[s15]) (by simp) (by simp) (by simp;omega) (by simp)
   ·have b2:(lvl == 2)=false:=by simpa using e2
    by_cases e3:lvl=3
    ·have hff:(g.ts.flatMap ji)[i*3+1]? = some (.int .i64 (g.ts[i]).f):=by rw[jh jA g.ts hlt (by decide:1<3)];rfl
     have hFi:=hR3 e3 i
     rw[jhz hlt]at hFi
     have ea:=j3q (a:=on) O (by omega) (i:Int)
     have eb:=j3q (a:=on) O (by omega) (t:Int)
     cases c1:((g.ts[i]).f == 1)
     ·rw[c1,Bool.false_and]at hFi
      simp[e3,s6,o12,j1,j2,s15,hlt,j6 jA,hff,c1]
      exact rest _ (by simp[hFi]) (by simp[s15]) (by simp) (by simp) (by simp;omega) (by simp)
     ·rw[c1,Bool.true_and]at hFi
      simp[e3,s6,o12,j1,j2,s15,hlt,j6 jA,hff,c1,s3]
      refine X6 ea (by simp) rfl (by simp) ?_
      simp[s13,o26,j1,s3]
      refine X6 eb (by simp) rfl (by simp) ?_
      simp
      exact rest _ (by simp[hFi]) (by simp[s15]) (by simp) (by simp) (by simp;omega) (by simp)
    ·have b3:(lvl == 3)=false:=by simpa using e3
     simp[b1,b2,b3]
     exact rest _ (by simp[hR4 e1 e2 e3]) (by simp[s15]) (by simp) (by simp) (by simp;omega) (by simp)
 ·have:i=g.ts.length:=by omega
  subst this
  obtain⟨u,hu,_,_⟩:=hG
  simp[s15,s6,o12,j1,j2]
  exact slE (t:=some (u,1)) (nl:=false) (k:=(Yq F g.ts.length).length) (cs:=(Yq F g.ts.length).flatMap intC) (fun r h=>h) (by simp[sd]) (by simp[hu])
theorem ja8 (g:Hist'):(comL g).length≤g.ts.length:=X3 JE g.ts g.ts.length
theorem jk2 {g:Hist'}(hm:XU g=true) {q:Nat}(hq:q<(readH g).length):∃ (i k:Nat) (hi:i<g.ts.length) (hk:k<(g.ts[i]).ops.length),(readH g)[q]=((i:Int),(k:Int))∧Q3 g (readH g)[q]=((g.ts[i]).ops[k]).key∧JF g i=true:=by
 obtain⟨i,k,t,e,ht,hc,hk,_⟩:=jd3 (List.getElem_mem hq)
 obtain⟨hi,rfl⟩:=List.getElem?_eq_some_iff.1 ht
 refine⟨i,k,hi,hk,e,?_,by simpa[JF,hi] using hc⟩
 rw[e]
 have:opAt g (i:Int) (k:Int)=some (g.ts[i]).ops[k]:=by
  unfold opAt
  simp[hm,hi,hk,List.getD_eq_getElem?_getD]
 unfold Q3
 simp only[this]
theorem Yw {g:Hist'}(h:JT g=true):XU g=true:=by
 unfold JT at h
 simp only[Bool.and_eq_true]at h
 exact h.1
theorem ev24 {g:Hist'}(hs:Small g) {nl on:Bool}(lvl:Int) {M O:List Int}(hmp:WX g M=true) (ho:JB g O=true):Ev E 24 [.int .i64 lvl,.agg (j2 g),jH nl intC M,jH on intC O] (.bool (Jm g lvl M O)):=by
 have hts:=hs.ts
 have hRl:=W4 hs
 have hMl:=jbt hmp
 have hOl:=ji3 ho
 have hcl:=ja8 g
 have hmay:=Yw (Jt hmp)
 have e39:=ev39 g hts
 obtain⟨vr,evr,hvr⟩:=ev31 hs
 have hcm:numsTo JE g.ts g.ts.length=comL g:=rfl
 rw[hcm]at e39
 refine jT (af:=F24) rfl ?_
 unfold Jm
 obtain⟨f1,hf1⟩:∃f,sesB g O=f:=⟨_,rfl⟩
 obtain⟨f2,hf2⟩:∃f,jas g lvl M O=f:=⟨_,rfl⟩
 rw[hf1,hf2]
 simp[F24,j2,j1]
 refine X6 e39 (by simp[j2]) rfl (by simp[j2]) ?_
 refine Wx (nl:=false) (n:=(comL g).length) (cs:=(comL g).flatMap intC) ⟨_,rfl,by simp⟩ fun tc addc=>?_
 simp[j1]
 refine X6 evr (by simp[j2]) rfl (by simp[j2]) ?_
 refine Wx hvr fun tr addr=>?_
 simp
 refine JJ fun st hst=>?_
 have g0:st.tm 0=.int .i64 lvl:=by rw[hst];simp
 have g2:st.tm 2=jH nl intC M:=by rw[hst];simp
 have g3:st.tm 3=jH on intC O:=by rw[hst];simp
 have g5:st.tm 5=.ptr 10 0 0:=by rw[hst];simp
 have g9:st.tm 9=.sl tc false (comL g).length ((comL g).flatMap intC):=by rw[hst];simp
 have g10:st.tm 10=.sl tr false (readH g).length ((readH g).flatMap jI):=by rw[hst];simp
 have g11:st.tm 11=.int .i64 0:=by rw[hst];simp
 have p10:st.ob 10=some ⟨0,.cells (j2 g)⟩:=by rw[hst];simp[j2]
 have gd:st.df=[]:=by rw[hst];simp
 have gr:st.ro=0:=by rw[hst];simp
 have gb:st.fb=0:=by rw[hst];simp
 clear hst
 refine jF [(8,8),(11,12),(23,75)] (comL g).length (fun i s=>s.tm 11=.int .i64 i∧s.ob 10=some ⟨0,.cells (j2 g)⟩∧∀k,k<i→f1 k=true) rfl rfl ⟨by simpa using g11,p10,fun k hk=>by omega⟩ ?_
 rintro i s hi ⟨s11,o10,hall⟩ fr
 have s0:s.tm 0=.int .i64 lvl:=by rw[fr.t 0 (by simp)];simp[g0]
 have s2:s.tm 2=jH nl intC M:=by rw[fr.t 2 (by simp)];simp[g2]
 have s3:s.tm 3=jH on intC O:=by rw[fr.t 3 (by simp)];simp[g3]
 have s5:s.tm 5=.ptr 10 0 0:=by rw[fr.t 5 (by simp)];simp[g5]
 have s9:s.tm 9=.sl tc false (comL g).length ((comL g).flatMap intC):=by rw[fr.t 9 (by simp)];simp[g9]
 have s10:s.tm 10=.sl tr false (readH g).length ((readH g).flatMap jI):=by rw[fr.t 10 (by simp)];simp[g10]
 have sd:s.df=[]:=by rw[fr.d];simp[gd]
 have sr:s.ro=0:=by rw[fr.r];simp[gr]
 have sb:s.fb=0:=by rw[fr.b];simp[gb]
 clear fr
 have ix:∀ {k:Nat},k<(comL g).length→Jr 1 (.sl tc false (comL g).length ((comL g).flatMap intC)) (.int .i64 (k:Int))=some (.eptr ((comL g).flatMap intC) k):=fun {k} h=>by have:=Jx jB tc false (comL g) .i64 h;rwa [Nat.mul_one]at this
 by_cases hlt:i<(comL g).length
 ·have hw:=jv hlt (by omega)
  obtain⟨vb,evb,hvb⟩:=ev40 hs ((comL g)[i])
  have h1:=JP (comL g) hlt
  have hfi:f1 i=((badH g ((comL g)[i])).isEmpty && XX (Wn g O i) i):=by rw[← hf1,sesB,js hlt]
  simp[s11,s9,s5,o10,j1,j2,hlt,ix hlt,h1]
  refine X6 evb (by simp[j2]) rfl (by simp[j2]) ?_
  refine Wx hvb fun tb addb=>?_
  cases hbe:(badH g ((comL g)[i])).isEmpty
  ·rw[hbe,Bool.false_and]at hfi
   have hbl:0<(badH g ((comL g)[i])).length:=List.length_pos_iff.2 (fun e=>by rw[e]at hbe;cases hbe)
   simp[hbl]
   exact j3 (by simp[sd]) (by simp[Xn hlt hfi]) rfl
  ·rw[hbe,Bool.true_and]at hfi
   have hbl:¬ 0<(badH g ((comL g)[i])).length:=by rw[List.isEmpty_iff]at hbe;rw[hbe];simp
   simp[hbl]
   refine jF [(8,8),(12,12),(37,75)] i (fun k x=>x.tm 12=.int .i64 k∧x.ob 10=some ⟨0,.cells (j2 g)⟩∧∀j,j<k→Wn g O i j=true) rfl rfl ⟨by simp,by simpa[j2] using o10,fun k hk=>by omega⟩ ?_
   rintro k x hk ⟨x12,y10,hal⟩ fr
   have x3:x.tm 3=jH on intC O:=by rw[fr.t 3 (by simp)];simp[s3]
   have x5:x.tm 5=.ptr 10 0 0:=by rw[fr.t 5 (by simp)];simp[s5]
   have x9:x.tm 9=.sl tc false (comL g).length ((comL g).flatMap intC):=by rw[fr.t 9 (by simp)];simp[s9]
   have x11:x.tm 11=.int .i64 i:=by rw[fr.t 11 (by simp)];simp[s11]
   have xd:x.df=[]:=by rw[fr.d];simp[sd]
   clear fr
   by_cases hki:k<i
   ·have hkl:k<(comL g).length:=by omega
    have hwk:=jv hki (by omega)
    have h2:=JP (comL g) hkl
    obtain⟨a,ea,hca⟩:=comL_mem.1 (List.getElem_mem hkl)
    obtain⟨b,eb,hcb⟩:=comL_mem.1 (List.getElem_mem hlt)
    have hal':Wn g O i k=(!(sesAt g a == sesAt g b) || decide (atO O a<atO O b)):=by unfold Wn;rw[js hkl,js hlt,ea,eb];rfl
    have ha:=JS hca
    have hb:=JS hcb
    rw[jc1 ha,jc1 hb]at hal'
    have sa:(g.ts.flatMap ji)[a*3]? = some (.int .i64 (g.ts[a]).s):=by have:=jh jA g.ts ha (by decide:0<3);rw[Nat.add_zero]at this;rw[this];rfl
    have sb':(g.ts.flatMap ji)[b*3]? = some (.int .i64 (g.ts[b]).s):=by have:=jh jA g.ts hb (by decide:0<3);rw[Nat.add_zero]at this;rw[this];rfl
    have e1:=j3q (a:=on) O (by omega) (a:Int)
    have e2:=j3q (a:=on) O (by omega) (b:Int)
    rw[ea]at h2
    rw[eb]at h1
    cases hse:((g.ts[a]).s == (g.ts[b]).s)
    ·rw[hse]at hal'
     simp at hal'
     simp[x12,x11,x5,x9,y10,j1,j2,hki,ix hkl,ix hlt,h1,h2,ha,hb,j6 jA,sa,sb',hse,hwk]
     intro j hj
     rcases Nat.lt_succ_iff_lt_or_eq.1 hj with h|h
     ·exact hal j h
     ·subst h;exact hal'
    ·rw[hse]at hal'
     simp only[Bool.not_true,Bool.false_or]at hal'
     simp[x12,x11,x5,x9,x3,y10,j1,j2,hki,ix hkl,ix hlt,h1,h2,ha,hb,j6 jA,sa,sb',hse]
     refine X6 e1 (by simp) rfl (by simp) ?_
     simp[x11,x9,x3,ix hlt,h1]
     refine X6 e2 (by simp) rfl (by simp) ?_
     by_cases hle:atO O a<atO O b
     ·rw[decide_eq_true hle]at hal'
      simp[show ¬ atO O (b:Int)≤atO O (a:Int) by omega,x12,hwk,hki]
      refine⟨by simpa[j2] using y10,fun j hj=>?_⟩
      rcases Nat.lt_succ_iff_lt_or_eq.1 hj with h|h
      ·exact hal j h
      ·subst h;exact hal'
     ·rw[decide_eq_false hle]at hal'
      simp[show atO O (b:Int)≤atO O (a:Int) by omega]
      exact j3 (by simp[xd]) (by simp[Xn hlt (hfi.trans (Xn hki hal'))]) rfl
   ·have:k=i:=by omega
    subst this
    simp[x12,x11,hw,hlt]
    refine⟨by simpa[j2] using y10,fun j hj=>?_⟩
    rcases Nat.lt_succ_iff_lt_or_eq.1 hj with h|h
    ·exact hall j h
    ·subst h;rw[hfi];exact andTo_iff.2 hal
 ·have:i=(comL g).length:=by omega
  subst this
  rw[andTo_iff.2 hall,Bool.true_and]
  clear hall hf1
  simp[s11,s9]
  refine jF [(8,8),(13,18),(76,163)] (readH g).length (fun i s=>s.tm 13=.int .i64 i∧s.ob 10=some ⟨0,.cells (j2 g)⟩∧∀k,k<i→f2 k=true) rfl rfl ⟨by simp,by simpa using o10,fun k hk=>by omega⟩ ?_
  rintro i w hi ⟨w13,v10,hall⟩ fr
  have w0:w.tm 0=.int .i64 lvl:=by rw[fr.t 0 (by simp)];simp[s0]
  have w2:w.tm 2=jH nl intC M:=by rw[fr.t 2 (by simp)];simp[s2]
  have w3:w.tm 3=jH on intC O:=by rw[fr.t 3 (by simp)];simp[s3]
  have w5:w.tm 5=.ptr 10 0 0:=by rw[fr.t 5 (by simp)];simp[s5]
  have w10:w.tm 10=.sl tr false (readH g).length ((readH g).flatMap jI):=by rw[fr.t 10 (by simp)];simp[s10]
  have wd:w.df=[]:=by rw[fr.d];simp[sd]
  have wr:w.ro=0:=by rw[fr.r];simp[sr]
  have wb:w.fb=0:=by rw[fr.b];simp[sb]
  clear fr
  by_cases hlt:i<(readH g).length
  ·have hw:=jv hlt (by omega)
   have him:i<M.length:=by omega
   obtain⟨a,k,ha,hk,hp,hkey,hca⟩:=jk2 hmay hlt
   have hpa:=jc4 (readH g) w.ob hlt
   have hmi:=JP M him
   obtain⟨vs,evs,hvs⟩:=ev33 hs (nl:=nl) (on:=on) (M:=M) (O:=O) hMl (by omega) lvl hlt ha (by rw[hp])
   have hfi:f2 i=(decide (M[i]<0∨atO O M[i]<atO O a) && (jdu g lvl M O (readH g)[i]).all (okB g O (readH g)[i] M[i])):=by
    rw[← hf2,jas,List.getElem?_eq_getElem hlt,List.getElem?_eq_getElem him]
    simp only[hp]
   have e1:=j3q (a:=on) O (by omega) M[i]
   have e2:=j3q (a:=on) O (by omega) (a:Int)
   rw[hp]at hpa
   simp only at hpa
   obtain⟨m,hme⟩:∃m,M[i]=m:=⟨_,rfl⟩
   rw[hme]at hmi hfi e1
   obtain⟨p,hpe⟩:∃p,(readH g)[i]=p:=⟨_,rfl⟩
   rw[hpe]at hp hkey hvs hfi
   obtain⟨S,hS⟩:∃S,jdu g lvl M O p=S:=⟨_,rfl⟩
   rw[hS]at hvs hfi
   have hSm:∀x∈S,∃n:Nat,x=n∧n<g.ts.length:=fun x hx=>by
    rw[← hS]at hx
    obtain⟨n,h1,h2,_⟩:=filTo_mem.1 hx
    exact⟨n,h2,h1⟩
   have hSl:S.length≤1000:=by
    rw[← hS]
    exact Nat.le_trans (je0 _ _) hts
   clear hS
   simp[w13,w10,hlt,Jx jl,hpa,j7,wb,j1,wr,w2,him,j6 jB,hmi]
   generalize hKK:jqs E Y0 _ _=KK
   have rest:∀x:St,∀u,(decide (m<0∨atO O m<atO O a)=true)→x.tm 103=.bool false→x.tm 0=.int .i64 lvl→x.tm 2=jH nl intC M→x.tm 3=jH on intC O→x.tm 5=.ptr 10 0 0→x.tm 13=.int .i64 i→x.tm 14=.ptr 28 u 0→x.ob 10=some ⟨0,.cells (j2 g)⟩→x.ob 28=some ⟨u,.cells [.int .i64 (a:Int),.int .i64 (k:Int)]⟩→x.df=[]→x.ro=0→x.fb=0→KK .nrm x:=by
    intro x u hc x103 x0 x2 x3 x5 x13 x14 y10 y28 xd xr xb
    rw[← hKK]
    clear hKK
    rw[hc,Bool.true_and]at hfi
    simp[x103,x0,x2,x3,x5,x13,y10,j1,j2]
    refine jU evs (by simp[j2]) rfl (by simp[j2]) ?_
    refine Wx hvs fun ts adds=>?_
    have ix:∀ {j:Nat},j<S.length→Jr 1 (.sl ts false S.length (S.flatMap intC)) (.int .i64 (j:Int))=some (.eptr (S.flatMap intC) j):=fun {j} h=>by have:=Jx jB ts false S .i64 h;rwa [Nat.mul_one]at this
    have hl3:(g.ts.flatMap ji)[a*3+2]? = some (jH (g.ts[a]).nl opC (g.ts[a]).ops):=by rw[jh jA g.ts ha (by decide:2<3)];rfl
    have hlk:((g.ts[a]).ops.flatMap opC)[k*4+1]? = some (.int .i64 ((g.ts[a]).ops[k]).key):=by rw[jh jK (g.ts[a]).ops hk (by decide:1<4)];rfl
    simp
    refine jF [(8,8),(16,18),(110,163)] S.length (fun j y=>y.tm 16=.int .i64 j∧y.ob 10=some ⟨0,.cells (j2 g)⟩∧y.ob 28=some ⟨u,.cells [.int .i64 (a:Int),.int .i64 (k:Int)]⟩∧∀q,q<j→okB g O p m (S.getD q 0)=true) rfl rfl ⟨by simp,by simpa[j2] using y10,by simpa using y28,fun q hq=>by omega⟩ ?_
    rintro j y hj ⟨y16,z10,z28,hok⟩ fr
    have y2:y.tm 2=jH nl intC M:=by rw[fr.t 2 (by simp)];simp[x2]
    have y3:y.tm 3=jH on intC O:=by rw[fr.t 3 (by simp)];simp[x3]
    have y5:y.tm 5=.ptr 10 0 0:=by rw[fr.t 5 (by simp)];simp[x5]
    have y13:y.tm 13=.int .i64 i:=by rw[fr.t 13 (by simp)];simp[x13]
    have y14:y.tm 14=.ptr 28 u 0:=by rw[fr.t 14 (by simp)];simp[x14]
    have y15:y.tm 15=.sl ts false S.length (S.flatMap intC):=by rw[fr.t 15 (by simp)];simp
    have yd:y.df=[]:=by rw[fr.d];simp[xd]
    have yr:y.ro=0:=by rw[fr.r];simp[xr]
    have yb:y.fb=0:=by rw[fr.b];simp[xb]
    clear fr
    by_cases hjt:j<S.length
    ·have hwj:=jv hjt (by omega)
     have h2:=JP S hjt
     obtain⟨b,eb,hb⟩:=hSm _ (List.getElem_mem hjt)
     have el:=ev64 hs (b:Int) ((g.ts[a]).ops[k]).key
     have ez:(Wa (Jl g (b:Int)).2 ((g.ts[a]).ops[k]).key).2=Y1 g b (Q3 g p):=by rw[hkey];rfl
     rw[ez]at el
     have hokj:okB g O p m (S.getD j 0)=((b:Int) == m || (!Y1 g b (Q3 g p) || decide (atO O b<atO O m))):=by rw[js hjt,eb];rfl
     have e3:=j3q (a:=on) O (by omega) (b:Int)
     rw[eb]at h2
     simp[y16,y15,y14,y5,z10,z28,j1,j2,hjt,ix hjt,h2,ha,hk,j6 jA,j6 jK,hl3,hlk]
     refine X6 el (by simp[j2]) rfl (by simp[j2]) ?_
     rw[Jk (by simp[V.plain,jz])]
     generalize (Wa (Jl g (b:Int)).2 ((g.ts[a]).ops[k]).key).1=rv at *
     generalize Y1 g b (Q3 g p)=rb at *
     simp[jz,j7,yb,yr,j1]
     refine⟨by simp[XP,jae,je2,jb4,rdOb,rdTk,lOf,Delta.wo,Delta.wt,y5];decide,?_⟩
     have next:okB g O p m (S.getD j 0)=true→∀q,q<j+1→okB g O p m (S.getD q 0)=true:=fun h q hq=>by
      rcases Nat.lt_succ_iff_lt_or_eq.1 hq with h'|h'
      ·exact hok q h'
      ·subst h';exact h
     cases hbm:((b:Int) == m)
     ·have hbn:((b:Int) != m)=true:=by rw[bne,hbm];rfl
      rw[hbm,Bool.false_or]at hokj
      cases rb
      ·simp at hokj
       simp[y16,y15,y2,y13,ix hjt,h2,him,j6 jB,hmi,hbn,hwj,hjt,z10,z28,j2]
       exact next hokj
      ·simp only[Bool.not_true,Bool.false_or]at hokj
       simp[y16,y15,y2,y3,y13,ix hjt,h2,him,j6 jB,hmi,hbn]
       refine X6 e3 (by simp) rfl (by simp) ?_
       simp[y2,y3,y13,him,j6 jB,hmi]
       refine X6 e1 (by simp) rfl (by simp) ?_
       by_cases hle:atO O b<atO O m
       ·rw[decide_eq_true hle]at hokj
        simp[show ¬ atO O m≤atO O b by omega,y16,hwj,hjt,z10,z28,j2]
        exact next hokj
       ·rw[decide_eq_false hle]at hokj
        simp[show atO O m≤atO O b by omega]
        exact j3 (by simp[yd]) (by
         have:S.all (okB g O p m)=false:=by
          cases h:S.all (okB g O p m)
          ·rfl
          ·have:=List.all_eq_true.1 h _ (List.getElem_mem hjt)
           rw[← js hjt (d:=0),hokj]at this
           cases this
         simp[Xn hlt (hfi.trans this)]) rfl
     ·have hbn:((b:Int) != m)=false:=by rw[bne,hbm];rfl
      rw[hbm,Bool.true_or]at hokj
      simp[y16,y15,y2,y13,ix hjt,h2,him,j6 jB,hmi,hbn,hwj,hjt,z10,z28,j2]
      exact next hokj
    ·have:j=S.length:=by omega
     subst this
     clear hjt
     have hall2:S.all (okB g O p m)=true:=by
      rw[List.all_eq_true]
      intro z hz
      obtain⟨q,hq,e⟩:=List.getElem_of_mem hz
      have:=hok q hq
      rwa [js hq,e]at this
     simp[y16,y15,y13,hw,hlt]
     refine⟨by simpa[j2] using z10,fun q hq=>?_⟩
     rcases Nat.lt_succ_iff_lt_or_eq.1 hq with h|h
     ·exact hall q h
     ·subst h;rw[hfi];exact hall2
   by_cases hm0:m<0
   ·simp[show ¬ 0≤m by omega]
    exact rest _ (w.nx+64+64+64+64+64+64+64+64) (by simp[hm0]) (by simp) (by simp[w0]) (by simp[w2]) (by simp[w3]) (by simp[w5]) (by simp[w13]) (by simp) (by simp[v10]) (by simp) (by simp[wd]) (by simp[wr]) (by simp[wb])
   ·simp[show 0≤m by omega,w3,w2,w13,him,j6 jB,hmi]
    refine X6 e1 (by simp) rfl (by simp) ?_
    simp[j1,w3]
    refine X6 e2 (by simp) rfl (by simp) ?_
    by_cases hle:atO O m<atO O (a:Int)
    ·simp[show ¬ atO O (a:Int)≤atO O m by omega]
     exact rest _ (w.nx+64+64+64+64+64+64+64+64) (by simp[hle]) (by simp) (by simp[w0]) (by simp[w2]) (by simp[w3]) (by simp[w5]) (by simp[w13]) (by simp) (by simp[v10]) (by simp) (by simp[wd]) (by simp[wr]) (by simp[wb])
    ·simp[show atO O (a:Int)≤atO O m by omega]
     rw[← hKK]
     simp
     exact j3 (by simp[wd]) (by simp[Xn hlt (hfi.trans (by simp[hm0,hle]))]) rfl
  ·have:i=(readH g).length:=by omega
   subst this
   simp[w13,w10]
   exact j3 (by simp[wd]) (by simp[andTo_iff.2 hall]) rfl
def Off (ub key:Nat):Prop:=∀m,ub≤m→¬ key=2*m+1
theorem Off.up {ub ub' key:Nat}(h:Off ub key) (hu:ub≤ub'):Off ub' key:=fun m hm=>h m (Nat.le_trans hu hm)
theorem Off.new {ub m:Nat}(h:m<ub):Off ub (2*m+1):=fun k hk e=>by omega
def Was (ub:Nat) (ob ob':ZO):Prop:=∀key,Off ub key→ob' key=ob key
theorem Was.trans {ub ub1:Nat}{ob ob1 ob2:ZO}(h:Was ub ob ob1) (h':Was ub1 ob1 ob2) (hu:ub≤ub1):Was ub ob ob2:=fun key hk=>(h' key (hk.up hu)).trans (h key hk)
theorem Was.refl (ub:Nat) (ob:ZO):Was ub ob ob:=fun _ _=>rfl
structure JN where
 tr:Option (Nat × Nat)
 nr:Bool
 nm:Bool
 kJ:Nat
 uJ:Nat
 kA:Nat
 uA:Nat
 kP:Nat
 uP:Nat
 rows:List (Nat × Nat)
def farL (g:Hist') (M:List Int) (b:Nat):List Bool:=(List.range g.ts.length).map (farB g M b)
def j4q (n:Nat) (r:Nat × Nat):V:=.osl r.1 r.2 0 n 1
structure Jd (g:Hist') (lvl:Int) (M O:List Int) (N:JN) (ob:ZO) (ub:Nat):Prop where
 j:ob N.kJ=some ⟨N.uJ,.cells [.int .i64 lvl,jH g.sn JK g.ss,jH g.kn JK g.ks,jH g.tn ji g.ts,.sl N.tr N.nr (readH g).length ((readH g).flatMap jI),jH N.nm intC M,.map N.kA N.uA,if lvl=2 then .osl N.kP N.uP 0 g.ts.length 1 else .sl none true 0 []]⟩
 a:∃ver,ob N.kA=some ⟨N.uA,.mp ver (MP jbe (atM O O.length))⟩
 p:lvl=2→ob N.kP=some ⟨N.uP,.cells (N.rows.map (j4q g.ts.length))⟩∧N.rows.length=g.ts.length∧(∀b (h:b<N.rows.length),ob (N.rows[b]).1=some ⟨(N.rows[b]).2,.cells ((farL g M b).map V.bool)⟩)∧Off ub N.kP∧∀r∈N.rows,Off ub r.1
 fj:Off ub N.kJ
 fa:Off ub N.kA
 odd:N.kJ % 2=1∧N.kA % 2=1∧(lvl=2→N.kP % 2=1∧∀r∈N.rows,r.1 % 2=1)
theorem Jd.keep {g:Hist'}{lvl:Int}{M O:List Int}{N:JN}{ob ob':ZO}{ub ub':Nat}(h:Jd g lvl M O N ob ub) (hw:Was ub ob ob') (hu:ub≤ub'):Jd g lvl M O N ob' ub':=by
 refine⟨(hw _ h.fj).trans h.j,?_,fun h2=>?_,h.fj.up hu,h.fa.up hu,h.odd⟩
 ·obtain⟨ver,e⟩:=h.a
  exact⟨ver,(hw _ h.fa).trans e⟩
 ·obtain⟨p1,p2,p3,p4,p5⟩:=h.p h2
  exact⟨(hw _ p4).trans p1,p2,fun b hb=>(hw _ (p5 _ (List.getElem_mem hb))).trans (p3 b hb),p4.up hu,fun r hr=>(p5 r hr).up hu⟩
theorem Jd.map {g:Hist'}{lvl:Int}{M O:List Int}{N:JN}{ob:ZO}{ub:Nat}(h:Jd g lvl M O N ob ub) (ho:JB g O=true) {t:Int}(ht:t = -1∨t∈comL g):XV ob .int (.int .i64 0) false (.map N.kA N.uA) (.int .i64 t)=some (.int .i64 (atO O t)):=by
 obtain⟨ver,e⟩:=h.a
 rw[QS (atM O O.length) (by simp[jQ,e]),atM_eq ho ht]
theorem idx0 {l u n x sz:Nat}{kk:IntKind}(hx:x<n):Jr sz (.osl l u 0 n sz) (.int kk (x:Int))=some (.ptr l u (x*sz)):=by simp[Jr,hx]
theorem XI {a b:Nat}(h:¬ a=b):Nat.beq a b=false:=by
 cases e:Nat.beq a b
 ·rfl
 ·exact absurd (Nat.eq_of_beq_eq_true e) h
end Go.Pv.T
namespace Go.Pv.T
open Go Go.Pv
end Go.Pv.T
namespace Go.Pv.T
open Go Go.Pv
theorem two_inj {a b:Nat}:(2*a=2*b)=(a=b):=propext ⟨fun h=>by omega,fun h=>by rw[h]⟩
theorem jwm {l u o:Nat}:(V.ptr l u o).leaf=true:=rfl
def rdC (r:Int × Int × Int):List V:=[.int .i64 r.1,.int .i64 r.2.1,.int .i64 r.2.2]
theorem jk4 (r:Int × Int × Int):(rdC r).length=3:=rfl
structure WN where
 kW:Nat
 uW:Nat
 kR:Nat
 uR:Nat
 kA:Nat
 uA:Nat
 kL:Nat
 uL:Nat
 kS:Nat
 uS:Nat
 kP:Nat
 uP:Nat
def wC (g:Hist') (lvl:Int) (N:WN):List V:=[.int .i64 lvl,jH g.sn JK g.ss,jH g.kn JK g.ks,jH g.tn ji g.ts,.map N.kR N.uR,.map N.kA N.uA,.map N.kL N.uL,.map N.kS N.uS,.map N.kP N.uP]
structure Fix (N:WN) (ub key:Nat):Prop where
 a:key≠N.kA
 l:key≠N.kL
 s:key≠N.kS
 p:key≠N.kP
 f:Off ub key
 o:key % 2=1
def RowV (N:WN) (ob:ZO) (ub:Nat) (v:V) (rs:List (Int × Int × Int)):Prop :=
 (v=.sl none true 0 []∧rs=[])∨∃l u,v=.osl l u 0 rs.length 3∧ob l=some ⟨u,.cells (rs.flatMap rdC)⟩∧Fix N ub l
def InM (N:WN) (ob:ZO) (ub:Nat) (v:V) (L:List Int):Prop :=
 (v=.nilmap∧L=[])∨∃l u ver m,v=.map l u∧ob l=some ⟨u,.mp ver (MP jbe m)⟩∧(∀a,a∈m.map (·.1) ↔ a∈L)∧Fix N ub l
def mapV (p:Nat × Nat):V:=.map p.1 p.2
def rowV (p:Nat × Nat × Nat):V:=.osl p.1 p.2.1 0 p.2.2 3
structure Wk (g:Hist') (lvl:Int) (M:List Int) (N:WN) (A L S:List (Int × Int)) (P:Int→List Int) (ob:ZO) (ub:Nat):Prop where
 w:ob N.kW=some ⟨N.uW,.cells (wC g lvl N)⟩
 r:∃ver mr,ob N.kR=some ⟨N.uR,.mp ver (MP rowV mr)⟩∧∀t,RowV N ob ub (((jf mr t).map fun p=>rowV p.2).getD (.sl none true 0 [])) (rdsT g M t)
 a:∃ver,ob N.kA=some ⟨N.uA,.mp ver (MP jbe A)⟩
 l:∃ver,ob N.kL=some ⟨N.uL,.mp ver (MP jbe L)⟩
 s:∃ver,ob N.kS=some ⟨N.uS,.mp ver (MP jbe S)⟩
 p:∃ver mp,ob N.kP=some ⟨N.uP,.mp ver (MP mapV mp)⟩∧∀t,InM N ob ub (((jf mp t).map fun p=>mapV p.2).getD .nilmap) (P t)
 fw:Fix N ub N.kW
 fr:Fix N ub N.kR
 fa:Off ub N.kA
 fl:Off ub N.kL
 fs:Off ub N.kS
 fp:Off ub N.kP
 odd:N.kA % 2=1∧N.kL % 2=1∧N.kS % 2=1∧N.kP % 2=1
 ne:N.kA≠N.kL∧N.kA≠N.kS∧N.kA≠N.kP∧N.kL≠N.kS∧N.kL≠N.kP∧N.kS≠N.kP
section
variable {g:Hist'}{lvl:Int}{M:List Int}{N:WN}{A L S:List (Int × Int)}{P:Int→List Int}{ob ob':ZO}{ub ub':Nat}
theorem Fix.up {key:Nat}(h:Fix N ub key) (hu:ub≤ub'):Fix N ub' key:=⟨h.a,h.l,h.s,h.p,h.f.up hu,h.o⟩
theorem RowV.keep {v:V}{rs:List (Int × Int × Int)}(h:RowV N ob ub v rs) (hw:∀key,Fix N ub key→ob' key=ob key) (hu:ub≤ub'):RowV N ob' ub' v rs:=by
 rcases h with h|⟨l,u,h1,h2,h3⟩
 ·exact .inl h
 ·exact .inr ⟨l,u,h1,(hw _ h3).trans h2,h3.up hu⟩
theorem InM.keep {v:V}{l:List Int}(h:InM N ob ub v l) (hw:∀key,Fix N ub key→ob' key=ob key) (hu:ub≤ub'):InM N ob' ub' v l:=by
 rcases h with h|⟨l,u,ver,m,h1,h2,h3,h4⟩
 ·exact .inl h
 ·exact .inr ⟨l,u,ver,m,h1,(hw _ h4).trans h2,h3,h4.up hu⟩
theorem Wk.keep (h:Wk g lvl M N A L S P ob ub) (hw:∀key,Off ub key→key % 2=1→ob' key=ob key) (hu:ub≤ub'):Wk g lvl M N A L S P ob' ub':=by
 have hf:∀key,Fix N ub key→ob' key=ob key:=fun key hk=>hw key hk.f hk.o
 obtain⟨o1,o2,o3,o4⟩:=h.odd
 obtain⟨rv,mr,r1,r2⟩:=h.r
 obtain⟨av,a1⟩:=h.a
 obtain⟨lv,l1⟩:=h.l
 obtain⟨sv,s1⟩:=h.s
 obtain⟨pv,mp,p1,p2⟩:=h.p
 exact⟨(hf _ h.fw).trans h.w,⟨rv,mr,(hf _ h.fr).trans r1,fun t=>(r2 t).keep hf hu⟩,⟨av,(hw _ h.fa o1).trans a1⟩,⟨lv,(hw _ h.fl o2).trans l1⟩,⟨sv,(hw _ h.fs o3).trans s1⟩,
  ⟨pv,mp,(hw _ h.fp o4).trans p1,fun t=>(p2 t).keep hf hu⟩,h.fw.up hu,h.fr.up hu,h.fa.up hu,h.fl.up hu,h.fs.up hu,h.fp.up hu,h.odd,h.ne⟩
theorem Wk.at (h:Wk g lvl M N A L S P ob ub) {ob':ZO}(e:ob' N.kA=ob N.kA) (t:Int):XV ob' .int (.int .i64 0) false (.map N.kA N.uA) (.int .i64 t)=some (.int .i64 (XD A t)):=by
 obtain⟨ver,h1⟩:=h.a
 exact QS A (by simp[jQ,e,h1])
theorem Wk.row (h:Wk g lvl M N A L S P ob ub) (t:Int):∃v,(∀ob':ZO,ob' N.kR=ob N.kR→XV ob' .int (.sl none true 0 []) false (.map N.kR N.uR) (.int .i64 t)=some v)∧RowV N ob ub v (rdsT g M t):=by
 obtain⟨ver,mr,h1,h2⟩:=h.r
 refine⟨_,fun ob' e=>?_,h2 t⟩
 rw[jgk (f:=rowV) mr (by simp[jQ,e,h1])]
 cases jf mr t <;> rfl
theorem Off.ne {key:Nat}(h:Off ub key):∀m,ub≤m→¬ key=2*m+1:=h
end
end Go.Pv.T
namespace Go.Pv.T
abbrev R3:Type:=Option (List Nat) × Bool × List Nat
def loopM (rec:Nat→List Nat→List Nat→R3) (nx:Nat→Nat→Bool) (w:Nat) (done:List Nat):List Nat→List Nat→R3
 | [],vis=>(none,false,vis)
 | t::r,vis=>if w.testBit t || (!nx w t || vis.contains (w ||| 1 <<< t)) then loopM rec nx w done r vis else
  match rec (w ||| 1 <<< t) (done++[t]) vis with
  | (none,false,v)=>loopM rec nx w done r v
  | x=>x
def onM (nx:Nat→Nat→Bool) (C:List Nat) (most:Int):Nat→Nat→List Nat→List Nat→R3
 | 0,w,done,vis=>if (vis.length:Int)=most then (none,true,vis) else (some done,false,vis++[w])
 | n+1,w,done,vis=>if (vis.length:Int)=most then (none,true,vis) else loopM (onM nx C most n) nx w done C (vis++[w])
theorem jcr (w t a:Nat):(w ||| 1 <<< t).testBit a=(w.testBit a || decide (t=a)):=by
 rw[Nat.testBit_or,Nat.one_shiftLeft,Nat.testBit_two_pow]
def cnt (C:List Nat) (w:Nat):Nat:=(C.filter fun t=>w.testBit t).length
theorem joc {w t:Nat}:∀ {C:List Nat},C.Nodup→t∈C→w.testBit t=false→cnt C (w ||| 1 <<< t)=cnt C w+1
 | [],_,h,_=>by cases h
 | c::C,hn,h,hw=>by
  rw[List.nodup_cons]at hn
  unfold cnt
  rw[List.filter_cons,List.filter_cons]
  by_cases e:t=c
  ·subst e
   have:(C.filter fun a=>(w ||| 1 <<< t).testBit a)=C.filter fun a=>w.testBit a:=by
    refine List.filter_congr fun a ha=>?_
    have:t≠a:=fun e=>hn.1 (e▸ha)
    rw[jcr];simp[this]
   rw[this,jcr]
   simp[hw]
  ·have h':t∈C:=by
    rcases List.mem_cons.1 h with h|h
    ·exact absurd h e
    ·exact h
   have ih:=joc hn.2 h' hw
   unfold cnt at ih
   rw[jcr]
   simp only[e,decide_false,Bool.or_false]
   split
   ·simp only[List.length_cons,ih]
   ·exact ih
def jfk (nx:Nat→Nat→Bool):Nat→List Nat→Bool
 | _,[]=>true
 | w,t::r=>!w.testBit t && (nx w t && jfk nx (w ||| 1 <<< t) r)
def Full (nx:Nat→Nat→Bool) (C:List Nat) (w:Nat) (L:List Nat):Prop:=(∀t∈L,t∈C)∧cnt C w+L.length=C.length∧jfk nx w L=true
def j0j (nx:Nat→Nat→Bool) (C:List Nat) (w:Nat):Prop:=∀L,¬ Full nx C w L
def jtf:List Nat→List Nat→Bool
 | a::l,b::m=>if a=b then jtf l m else decide (a<b)
 | _,_=>false
section
variable {nx:Nat→Nat→Bool}{C:List Nat}{most:Int}
theorem Full.cons {w t:Nat}{L:List Nat}(hn:C.Nodup) (h:Full nx C w (t::L)):t∈C∧w.testBit t=false∧nx w t=true∧Full nx C (w ||| 1 <<< t) L:=by
 obtain⟨h1,h2,h3⟩:=h
 simp only[jfk,Bool.and_eq_true,Bool.not_eq_true']at h3
 have ht:=h1 t (List.mem_cons_self ..)
 refine⟨ht,h3.1,h3.2.1,fun a ha=>h1 a (List.mem_cons_of_mem _ ha),?_,h3.2.2⟩
 rw[joc hn ht h3.1]
 simp only[List.length_cons]at h2
 omega
structure Found (nx:Nat→Nat→Bool) (C:List Nat) (w:Nat) (done vis:List Nat) (r:R3):Prop where
 sub:∀v∈vis,v∈r.2.2
 no:r.1=none→r.2.1=false→j0j nx C w∧∀v∈r.2.2,v∈vis∨j0j nx C v
 yes:∀l,r.1=some l→r.2.1=false∧∃L,l=done++L∧Full nx C w L∧∀L',Full nx C w L'→jtf L' L=false
theorem jbv {n:Nat}(hn:C.Nodup) (hC:C.Pairwise (· < ·)) {w:Nat}{done:List Nat}(hw:cnt C w+(n+1)=C.length) {vis0:List Nat}
 (ih:∀w done vis,cnt C w+n=C.length→(∀v∈vis,j0j nx C v∨cnt C v<cnt C w)→Found nx C w done vis (onM nx C most n w done vis)) :
 ∀ (r pre vis:List Nat),C=pre++r→(∀v∈vis0,v∈vis)→(∀v∈vis,j0j nx C v∨cnt C v≤cnt C w)→(∀v∈vis,v∈vis0∨v=w∨j0j nx C v)→(∀t∈pre,w.testBit t=false→nx w t=true→j0j nx C (w ||| 1 <<< t)) →
  Found nx C w done vis0 (loopM (onM nx C most n) nx w done r vis)
 | [],pre,vis,e,h0,h1,h2,h3=>by
  have hd:j0j nx C w:=fun L hL=>by
   cases L with
   | nil=>
    have:=hL.2.1
    simp at this
    omega
   | cons t L=>
    obtain⟨a,b,c,d⟩:=hL.cons hn
    rw[e,List.append_nil]at a
    exact h3 t a b c L d
  refine⟨h0,fun _ _=>⟨hd,fun v hv=>?_⟩,fun l h=>by cases h⟩
  rcases h2 v hv with h|h|h
  ·exact .inl h
  ·exact .inr (h▸hd)
  ·exact .inr h
 | t::r,pre,vis,e,h0,h1,h2,h3=>by
  have ht:t∈C:=by rw[e];simp
  have e':C=(pre++[t])++r:=by rw[e];simp
  rw[loopM]
  split
  ·rename_i hc
   refine jbv hn hC hw ih r (pre++[t]) vis e' h0 h1 h2 fun a ha hb hx=>?_
   rcases List.mem_append.1 ha with h|h
   ·exact h3 a h hb hx
   ·have:=List.mem_singleton.1 h
    subst this
    simp only[hb,hx,Bool.not_true,Bool.false_or,List.contains_eq_mem,decide_eq_true_eq]at hc
    rcases h1 _ hc with h|h
    ·exact h
    ·rw[joc hn ht hb]at h
     omega
  ·rename_i hc
   simp only[Bool.or_eq_true,Bool.not_eq_true',not_or,Bool.not_eq_true,Bool.not_eq_false,List.contains_eq_mem,decide_eq_false_iff_not]at hc
   obtain⟨hb,hx,hv⟩:=hc
   have hcnt:=joc hn ht hb
   have hF:=ih (w ||| 1 <<< t) (done++[t]) vis (by omega) fun v hv=>(h1 v hv).imp id fun h=>by omega
   rcases hr:onM nx C most n (w ||| 1 <<< t) (done++[t]) vis with⟨o,sp,v⟩
   rw[hr]at hF
   cases o with
   | some l=>
    simp only
    obtain⟨f1,L,f2,f3,f4⟩:=hF.yes l rfl
    refine⟨fun x hx=>hF.sub x (h0 x hx),fun h=>(by cases h),fun l' h=>?_⟩
    cases h
    refine⟨f1,t::L,by rw[f2];simp,⟨fun a ha=>?_,?_,?_⟩,fun L' hL'=>?_⟩
    ·rcases List.mem_cons.1 ha with h|h
     ·exact h▸ht
     ·exact f3.1 a h
    ·have:=f3.2.1
     simp only[List.length_cons]
     omega
    ·simp[jfk,hb,hx,f3.2.2]
    ·cases L' with
     | nil=>rfl
     | cons a L'=>
      obtain⟨q1,q2,q3,q4⟩:=hL'.cons hn
      rw[jtf]
      split
      ·rename_i ea
       subst ea
       exact f4 L' q4
      ·rename_i ea
       rw[decide_eq_false_iff_not]
       intro hlt
       have:a∈pre:=by
        rw[e]at q1
        rcases List.mem_append.1 q1 with h|h
        ·exact h
        ·rcases List.mem_cons.1 h with h|h
         ·exact absurd h ea
         ·rw[e]at hC
          have:=List.rel_of_pairwise_cons (List.pairwise_append.1 hC).2.1 h
          omega
       exact h3 a this q2 q3 L' q4
   | none=>
    cases sp with
    | true=>exact⟨fun x hx=>hF.sub x (h0 x hx),fun _ h=>(by cases h),fun l h=>(by cases h)⟩
    | false=>
     simp only
     obtain⟨f1,f2⟩:=hF.no rfl rfl
     refine jbv hn hC hw ih r (pre++[t]) v e' (fun x hx=>hF.sub x (h0 x hx)) (fun x hx=>?_) (fun x hx=>?_) fun a ha hb hx=>?_
     ·rcases f2 x hx with h|h
      ·exact h1 x h
      ·exact .inl h
     ·rcases f2 x hx with h|h
      ·exact h2 x h
      ·exact .inr (.inr h)
     ·rcases List.mem_append.1 ha with h|h
      ·exact h3 a h hb hx
      ·have:=List.mem_singleton.1 h
       subst this
       exact f1
theorem jnk (hn:C.Nodup) (hC:C.Pairwise (· < ·)):∀ (n w:Nat) (done vis:List Nat),cnt C w+n=C.length→(∀v∈vis,j0j nx C v∨cnt C v<cnt C w)→Found nx C w done vis (onM nx C most n w done vis)
 | 0,w,done,vis,hw,hv=>by
  rw[onM]
  split
  ·exact⟨fun _ h=>h,fun _ h=>(by cases h),fun l h=>(by cases h)⟩
  ·refine⟨fun v h=>List.mem_append.2 (.inl h),fun h=>(by cases h),fun l h=>?_⟩
   cases h
   refine⟨rfl,[],by simp,⟨fun _ h=>(by cases h),by simpa using hw,rfl⟩,fun L' hL'=>?_⟩
   cases L' <;> rfl
 | n+1,w,done,vis,hw,hv=>by
  rw[onM]
  split
  ·exact⟨fun _ h=>h,fun _ h=>(by cases h),fun l h=>(by cases h)⟩
  ·refine jbv hn hC hw (jnk hn hC n) C [] (vis++[w]) rfl (fun v h=>List.mem_append.2 (.inl h)) (fun v h=>?_) (fun v h=>?_) fun t h=>by cases h
   ·rcases List.mem_append.1 h with h|h
    ·exact(hv v h).imp id Nat.le_of_lt
    ·rw[List.mem_singleton.1 h];exact .inr (Nat.le_refl _)
   ·rcases List.mem_append.1 h with h|h
    ·exact .inl h
    ·exact .inr (.inl (List.mem_singleton.1 h))
def j0h (C vis:List Nat):Prop:=vis.Nodup∧∀v∈vis,∀t,v.testBit t=true→t∈C
theorem jek {n:Nat}(hn:C.Nodup) {w:Nat}(hw:∀t,w.testBit t=true→t∈C)
 (ih:∀w done vis,(∀t,w.testBit t=true→t∈C)→w ∉ vis→j0h C vis→j0h C (onM nx C most n w done vis).2.2) :
 ∀ (r vis done:List Nat),(∀t∈r,t∈C)→j0h C vis→j0h C (loopM (onM nx C most n) nx w done r vis).2.2
 | [],vis,done,_,h=>h
 | t::r,vis,done,hr,h=>by
  rw[loopM]
  split
  ·exact jek hn hw ih r vis done (fun a ha=>hr a (List.mem_cons_of_mem _ ha)) h
  ·rename_i hc
   simp only[Bool.or_eq_true,Bool.not_eq_true',not_or,Bool.not_eq_true,Bool.not_eq_false,List.contains_eq_mem,decide_eq_false_iff_not]at hc
   have hm:=ih (w ||| 1 <<< t) (done++[t]) vis (fun a ha=>by
    rw[jcr,Bool.or_eq_true]at ha
    rcases ha with ha|ha
    ·exact hw a ha
    ·exact(of_decide_eq_true ha)▸hr t (List.mem_cons_self ..)) hc.2.2 h
   rcases he:onM nx C most n (w ||| 1 <<< t) (done++[t]) vis with⟨o,sp,v⟩
   rw[he]at hm
   cases o with
   | some l=>exact hm
   | none=>
    cases sp with
    | true=>exact hm
    | false=>exact jek hn hw ih r v done (fun a ha=>hr a (List.mem_cons_of_mem _ ha)) hm
theorem jsh (hn:C.Nodup):∀ (n w:Nat) (done vis:List Nat),(∀t,w.testBit t=true→t∈C)→w ∉ vis→j0h C vis→j0h C (onM nx C most n w done vis).2.2
 | n,w,done,vis,hw,hv,h=>by
  have h':j0h C (vis++[w]):=by
   refine⟨?_,fun v hv=>?_⟩
   ·rw[List.nodup_append]
    exact⟨h.1,by simp,fun a ha b hb e=>hv (by rw[List.mem_singleton]at hb;rw[← hb,← e];exact ha)⟩
   ·rcases List.mem_append.1 hv with hv|hv
    ·exact h.2 v hv
    ·rw[List.mem_singleton.1 hv];exact hw
  cases n with
  | zero=>
   rw[onM]
   split
   ·exact h
   ·exact h'
  | succ n=>
   rw[onM]
   split
   ·exact h
   ·exact jek hn hw (fun w done vis=>jsh hn n w done vis) C _ done (fun _ h=>h) h'
theorem jth:∀ {O C:List Nat},O.Nodup→(∀x∈O,x∈C)→O.length≤C.length
 | [],_,_,_=>Nat.zero_le _
 | x::r,C,hn,hs=>by
  rw[List.nodup_cons]at hn
  have hx:=hs x (List.mem_cons_self ..)
  have:=jth (O:=r) (C:=C.erase x) hn.2 fun y hy=>(List.mem_erase_of_ne fun(e:y=x)=>hn.1 (e▸hy)).2 (hs y (List.mem_cons_of_mem _ hy))
  rw[List.length_erase_of_mem hx]at this
  have hp:0<C.length:=List.length_pos_of_mem hx
  simp only[List.length_cons]
  omega
def j39:List Nat→List Nat
 | []=>[0]
 | t::C=>j39 C++(j39 C).map fun w=>w ||| 1 <<< t
theorem jof:∀ (C:List Nat),(j39 C).length=2 ^ C.length
 | []=>rfl
 | t::C=>by
  simp only[j39,List.length_append,List.length_map,jof C,List.length_cons,Nat.pow_succ]
  omega
theorem jh9:∀ {C:List Nat}{w:Nat},C.Nodup→(∀t,w.testBit t=true→t∈C)→w∈j39 C
 | [],w,_,h=>by
  have:w=0:=Nat.eq_of_testBit_eq fun i=>by
   rw[Nat.zero_testBit]
   cases hb:w.testBit i
   ·rfl
   ·cases h i hb
  simp[j39,this]
 | c::C,w,hn,h=>by
  rw[List.nodup_cons]at hn
  rw[j39,List.mem_append,List.mem_map]
  by_cases hc:w.testBit c=true
  ·refine .inr ⟨w ^^^ 1 <<< c,jh9 hn.2 fun t ht=>?_,Nat.eq_of_testBit_eq fun i=>?_⟩
   ·rw[Nat.testBit_xor,Nat.one_shiftLeft,Nat.testBit_two_pow]at ht
    by_cases e:c=t
    ·subst e
     simp[hc]at ht
    ·simp only[e,decide_false,Bool.bne_false]at ht
     rcases List.mem_cons.1 (h t ht) with h|h
     ·exact absurd h.symm e
     ·exact h
   ·rw[jcr,Nat.testBit_xor,Nat.one_shiftLeft,Nat.testBit_two_pow]
    by_cases e:c=i
    ·subst e;simp[hc]
    ·simp[e]
  ·refine .inl (jh9 hn.2 fun t ht=>?_)
   rcases List.mem_cons.1 (h t ht) with h'|h'
   ·subst h';exact absurd ht hc
   ·exact h'
theorem jxd (hn:C.Nodup) {vis:List Nat}(h:j0h C vis):vis.length≤2 ^ C.length:=by
 rw[← jof]
 exact jth h.1 fun v hv=>jh9 hn (h.2 v hv)
end
end Go.Pv.T
namespace Go.Pv.T
open Go Go.Pv
def setC (w:Nat):List V:=[.int .u64 w,.int .u64 0,.int .u64 0,.int .u64 0,.int .u64 0,.int .u64 0,.int .u64 0,.int .u64 0]
theorem jit:setC 0=j5p:=rfl
theorem jl3 {n:Nat}(h:n<64):IntKind.i64.wrap ((n:Int) / 64)=0:=by
 rw[show(n:Int) / 64=0 by omega];rfl
theorem jl2 {n:Nat}(h:n<64):(n:Int).tmod 64=n:=Int.tmod_eq_of_lt (by omega) (by omega)
theorem j0x {w n:Nat}(hn:n<64):Xx .shr (.int .u64 (w:Int)) (.int .i64 (n:Int))=some (.int .u64 ((w >>> n:Nat):Int)):=by
 simp only[Xx,QM]
 rw[if_neg (by omega)]
 congr 2
 rw[Int.toNat_natCast,show IntKind.u64.bits=64 from rfl,Nat.min_eq_left (Nat.le_of_lt hn),Nat.shiftRight_eq_div_pow,Int.fdiv_eq_ediv_of_nonneg _ (Int.le_of_lt (Int.pow_pos (by decide)))]
 simp
theorem jg1 {n:Nat}(h:n<64):Xx .shl (.int .u64 1) (.int .i64 (n:Int))=some (.int .u64 ((1 <<< n:Nat):Int)):=by
 have hp:2 ^ n<2 ^ 64:=Nat.pow_lt_pow_right (by decide) h
 have:=jq7 (a:=1) (k:=n) rfl (by omega) (by omega)
 rw[Nat.one_shiftLeft]
 rw[Nat.one_mul]at this
 exact this
theorem j35 (w n:Nat):((((w >>> n) &&& 1:Nat):Int) == 1)=w.testBit n:=by
 rw[Nat.testBit,Nat.and_comm 1,Nat.and_one_is_mod]
 rcases Nat.mod_two_eq_zero_or_one (w >>> n) with h|h <;> rw[h] <;> rfl
theorem j47 {w n:Nat}(hw:w<2 ^ 64):w >>> n<2 ^ 64:=by
 rw[Nat.shiftRight_eq_div_pow]
 exact Nat.lt_of_le_of_lt (Nat.div_le_self _ _) hw
theorem jnj {n:Nat}(h:n<64):1 <<< n<2 ^ 64:=by
 rw[Nat.one_shiftLeft]
 exact Nat.pow_lt_pow_right (by decide) h
theorem or_lt {w n:Nat}(hw:w<2 ^ 64) (h:n<64):w ||| 1 <<< n<2 ^ 64:=Nat.or_lt_two_pow hw (jnj h)
def jqa (w n:Nat):Nat:=(BitVec.ofNat 64 w &&& ~~~ BitVec.ofNat 64 (1 <<< n)).toNat
theorem jyt {w n:Nat}(hw:w<2 ^ 64) (hn:n<64) (h:w.testBit n=false):jqa (w ||| 1 <<< n) n=w:=by
 unfold jqa
 refine Nat.eq_of_testBit_eq fun i=>?_
 rw[BitVec.testBit_toNat,BitVec.getLsbD_and,BitVec.getLsbD_not,BitVec.getLsbD_ofNat,BitVec.getLsbD_ofNat,jcr,Nat.one_shiftLeft,Nat.testBit_two_pow]
 by_cases hi:i<64
 ·by_cases e:n=i
  ·subst e
   simp[h]
  ·simp[hi,e]
 ·have:w.testBit i=false:=Nat.testBit_lt_two_pow (Nat.lt_of_lt_of_le hw (Nat.pow_le_pow_right (by decide) (by omega)))
  simp[hi,this]
theorem jot {a b:Nat}:Xx .andNot (.int .u64 (a:Int)) (.int .u64 (b:Int))=some (.int .u64 (((BitVec.ofNat 64 a &&& ~~~ BitVec.ofNat 64 b).toNat:Nat):Int)):=by
 simp only[Xx,XN,if_true]
 rw[show IntKind.u64.bits=64 from rfl,BitVec.ofInt_natCast,BitVec.ofInt_natCast,IntKind.wrap_u64]
 congr 2
 have:=(BitVec.ofNat 64 a &&& ~~~ BitVec.ofNat 64 b).isLt
 omega
@[simp] theorem eqVV_pn (ob:ZO) (neg:Bool) (l u o:Nat):jvg ob neg .ptr (.ptr l u o) .nilptr=some (.bool (xor neg false)):=rfl
@[simp] theorem idxArr0 (k u:Nat):QA 8 1 (.ptr k u 0) (.int .i64 0)=some (.ptr k u 0):=rfl
section
variable {ob:ZO}{ub k u w n:Nat}
theorem ev189 (hn:n<500):Ev E 189 [.int .i64 (n:Int)] (.bool true):=by
 refine jT (af:=F189) rfl ?_
 simp[F189]
 exact j3 (by simp) (by simp;omega) rfl
theorem juo (hn:n<500) (tk:Nat→Bool) (base:Nat):EvO E 128 [.ptr k u 0,.int .i64 (n:Int)] ob tk base ub (.int .i64 0):=by
 refine Jj (af:=S128) rfl ?_
 simp[S128]
 refine jU (ev189 hn) (by simp) rfl (by simp) ?_
 simp
 exact j3 (by simp) (by simp) rfl
theorem jj6 (hk:ob k=some ⟨u,.cells (setC w)⟩) (ho:Off ub k) (hn:n<64) (hw:w<2 ^ 64) (tk:Nat→Bool) (base:Nat):EvO E 124 [.ptr k u 0,.int .i64 (n:Int)] ob tk base ub (.bool (w.testBit n)):=by
 refine Jj (af:=S124) rfl ?_
 have g:=ho.ne
 simp[S124]
 refine JI (vs:=[.ptr k u 0,.int .i64 n]) (by simp) rfl rfl (juo (by omega) _ _) ?_
 have h1:=j0x (w:=w) hn
 have h2:=jkt (m:=1) (b:=1) rfl (j47 (n:=n) hw) (by decide)
 have h3:=j35 w n
 generalize w >>> n &&& 1=z at h2 h3
 generalize w >>> n=q at h1 h2
 simp(disch:=first|(simp;done)|omega) [jl3 hn,jl2 hn,j1,g,hk,setC,h1,h2,h3]
 exact j3 (by simp) (by simp) rfl
def PutR (ob:ZO) (ub k u w:Nat) (r:V × (ZO) × (Nat→Bool) × Nat):Prop :=
 r.1=.int .i64 0∧(∀key,Off ub key→r.2.1 key=if key=k then some ⟨u,.cells (setC w)⟩ else ob key)∧ub≤r.2.2.2
theorem sv81 {Yf:YF}{tk:Nat→Bool}{ro base:Nat}(hk:ob k=some ⟨u,.cells (setC w)⟩) (ho:Off ub k) (hro:ro≤u) (hn:n<64) (hw:w<2 ^ 64) :
 ∃r,EvS E Yf.y 81 [.ptr k u 0,.int .i64 (n:Int)] ob tk ro base ub r∧PutR ob ub k u (w ||| 1 <<< n) r:=by
 refine Wo (af:=S81) rfl (by decide) ?_
 show wpC E Yf S81.body _ (jab S81.res _)
 have g:=ho.ne
 simp[S81]
 refine JI (vs:=[.ptr k u 0,.int .i64 n]) (by simp) rfl rfl (juo (by omega) _ _) ?_
 have h1:=jg1 hn
 have h2:=jik hw (jnj hn)
 generalize w ||| 1 <<< n=z at h2 ⊢
 generalize 1 <<< n=q at h1 h2
 simp(disch:=first|(simp;done)|omega) [jl3 hn,jl2 hn,j1,g,hk,setC,h1,h2,j7]
 refine⟨hro,QG (by simp) ⟨by simp,fun key hk=>?_,by simp;omega⟩⟩
 have g:=hk.ne
 simp(disch:=first|(simp;done)|omega) [g,j5,setC]
theorem sv125 {Yf:YF}{tk:Nat→Bool}{ro base:Nat}(hk:ob k=some ⟨u,.cells (setC w)⟩) (ho:Off ub k) (hro:ro≤u) (hn:n<64) :
 ∃r,EvS E Yf.y 125 [.ptr k u 0,.int .i64 (n:Int)] ob tk ro base ub r∧PutR ob ub k u (jqa w n) r:=by
 refine Wo (af:=S125) rfl (by decide) ?_
 show wpC E Yf S125.body _ (jab S125.res _)
 have g:=ho.ne
 simp[S125]
 refine JI (vs:=[.ptr k u 0,.int .i64 n]) (by simp) rfl rfl (juo (by omega) _ _) ?_
 have h1:=jg1 hn
 have h2:=jot (a:=w) (b:=1 <<< n)
 rw[show(BitVec.ofNat 64 w &&& ~~~ BitVec.ofNat 64 (1 <<< n)).toNat=jqa w n from rfl]at h2
 generalize jqa w n=z at h2 ⊢
 generalize 1 <<< n=q at h1 h2
 simp(disch:=first|(simp;done)|omega) [jl3 hn,jl2 hn,j1,g,hk,setC,h1,h2,j7]
 refine⟨hro,QG (by simp) ⟨by simp,fun key hk=>?_,by simp;omega⟩⟩
 have g:=hk.ne
 simp(disch:=first|(simp;done)|omega) [g,j5,setC]
def NewR (ob:ZO) (ub:Nat) (r:V × (ZO) × (Nat→Bool) × Nat):Prop :=
 ∃m,ub≤m∧m<r.2.2.2∧r.1=.ptr (2*m+1) m 0∧∀key,r.2.1 key=if key=2*m+1 then some ⟨m,.cells (setC 0)⟩ else ob key
theorem j5a {Yf:YF}{tk:Nat→Bool}{ro base:Nat}:∃r,EvS E Yf.y 78 [.sl none true 0 []] ob tk ro base ub r∧NewR ob ub r:=by
 refine Wo (af:=S78) rfl (by decide) ?_
 show wpC E Yf S78.body _ (jab S78.res _)
 simp[S78,V.cells]
 refine⟨1,?_⟩
 simp
 exact QG (by simp) ⟨ub+128,by omega,by simp,by simp,fun key=>by simp[setC,j5,Nat.add_assoc]⟩
end
def jfl (g:Hist') (M:List Int) (s:Nat→Bool) (t:Nat):Bool :=
 XX (fun a=>!JF g a || (!(sesAt g a == sesAt g t) || s a)) t && ((readH g).zip M).all fun x=>
  if x.1.1=(t:Int) then decide (x.2<0) || s x.2.toNat else s x.1.1.toNat || (!(decide (x.2<0) || s x.2.toNat) || !Y1 g t (Q3 g x.1))
def nxM (g:Hist') (M:List Int) (w t:Nat):Bool:=jfl g M (fun a=>w.testBit a) t
def comN (g:Hist'):List Nat:=(comL g).map Int.toNat
def ints (L:List Nat):List Int:=L.map fun a:Nat=>(a:Int)
theorem QI (g:Hist'):ints (comN g)=comL g:=by
 unfold ints comN
 rw[List.map_map]
 refine(List.map_congr_left fun x hx=>?_).trans (List.map_id _)
 obtain⟨k,rfl,_⟩:=comL_mem.1 hx
 simp
theorem comN_mem {g:Hist'}{a:Nat}:a∈comN g ↔ JF g a=true:=by
 unfold comN
 rw[List.mem_map]
 constructor
 ·rintro⟨x,hx,rfl⟩
  obtain⟨k,rfl,hk⟩:=comL_mem.1 hx
  simpa using hk
 ·exact fun h=>⟨a,comL_mem.2 ⟨a,rfl,h⟩,by simp⟩
theorem jhy (g:Hist'):(comN g).Pairwise (· < ·):=by
 have h:=je4 g
 rw[← QI]at h
 unfold ints at h
 rw[List.pairwise_map]at h
 exact h.imp fun h=>by omega
theorem jb8 (g:Hist'):(comN g).Nodup:=(jhy g).imp fun h=>Nat.ne_of_lt h
theorem Qb (g:Hist'):(comN g).length=(comL g).length:=by simp[comN]
def JZ (w:Nat) (L:List Nat):Nat:=L.foldl (fun w t=>w ||| 1 <<< t) w
theorem jh3 (a:Nat):∀ (L:List Nat) (w:Nat),(JZ w L).testBit a=(w.testBit a || L.contains a)
 | [],w=>by simp[JZ]
 | x::r,w=>by
  have:=jh3 a r (w ||| 1 <<< x)
  unfold JZ at this ⊢
  rw[List.foldl_cons,this,jcr,List.contains_cons,Bool.or_assoc]
  congr 2
  rw[Bool.eq_iff_iff,decide_eq_true_eq,beq_iff_eq]
  exact eq_comm
theorem jne {nx:Nat→Nat→Bool}:∀ {w:Nat}{L:List Nat},jfk nx w L=true ↔ ∀pre t post,L=pre++t::post→(JZ w pre).testBit t=false∧nx (JZ w pre) t=true
 | w,[]=>⟨fun _ pre t post h=>(by cases pre <;> cases h),fun _=>rfl⟩
 | w,x::r=>by
  rw[jfk,Bool.and_eq_true,Bool.and_eq_true,jne]
  constructor
  ·rintro⟨h1,h2,h3⟩ pre t post e
   cases pre with
   | nil=>
    cases e
    exact⟨by simpa[JZ] using h1,h2⟩
   | cons a pre=>
    cases e
    exact h3 pre t post rfl
  ·intro h
   refine⟨by simpa[JZ] using(h [] x r rfl).1,(h [] x r rfl).2,fun pre t post e=>?_⟩
   subst e
   exact h (x::pre) t post rfl
section
variable {g:Hist'}{M:List Int}{O:List Int}
theorem Qy {s s':Nat→Bool}{t:Nat}(h:∀a,s a=s' a):jfl g M s t=jfl g M s' t:=by
 have:s=s':=funext h
 rw[this]
theorem jjf {s:Nat→Bool}{t:Nat}(hm:WX g M=true):jfl g M s t=true ↔ (∀a,a<t→JF g a=true→sesAt g a=sesAt g t→s a=true) ∧
 ∀ (i:Nat) (p:Int × Int) (m:Int),(readH g)[i]? = some p→M[i]? = some m→(p.1=t→m<0∨s m.toNat=true)∧(p.1≠t→s p.1.toNat=true∨¬ (m<0∨s m.toNat=true)∨Y1 g t (Q3 g p)=false):=by
 have hl:=jbt hm
 unfold jfl
 rw[Bool.and_eq_true,andTo_iff,List.all_eq_true]
 refine and_congr ?_ ?_
 ·refine forall_congr' fun a=>forall_congr' fun _=>?_
  cases JF g a <;> by_cases h:sesAt g a=sesAt g t <;> simp[h]
 ·constructor
  ·intro h i p m hp hM
   have:=h (p,m) (List.mem_iff_getElem?.2 ⟨i,List.getElem?_zip_eq_some.2 ⟨hp,hM⟩⟩)
   simp only at this
   refine⟨fun e=>?_,fun e=>?_⟩
   ·rw[if_pos e]at this
    simpa using this
   ·rw[if_neg e]at this
    simp only[Bool.or_eq_true,Bool.not_eq_true',Bool.or_eq_false_iff,decide_eq_false_iff_not]at this
    rcases this with h|h|h
    ·exact .inl h
    ·exact .inr (.inl fun h'=>h'.elim h.1 fun h2=>by rw[h.2]at h2;cases h2)
    ·exact .inr (.inr h)
  ·rintro h ⟨p,m⟩ hx
   obtain⟨i,hi⟩:=List.mem_iff_getElem?.1 hx
   obtain⟨h1,h2⟩:=List.getElem?_zip_eq_some.1 hi
   obtain⟨q1,q2⟩:=h i p m h1 h2
   simp only
   split
   ·rename_i e
    simpa using q1 e
   ·rename_i e
    simp only[Bool.or_eq_true,Bool.not_eq_true',Bool.or_eq_false_iff,decide_eq_false_iff_not]
    rcases q2 e with h|h|h
    ·exact .inl h
    ·exact .inr (.inl ⟨fun h'=>h (.inl h'),by
      cases hs:s m.toNat
      ·rfl
      ·exact absurd (.inr hs) h⟩)
    ·exact .inr (.inr h)
theorem jug (hm:WX g M=true) (ho:JB g O=true) (hb:∀t∈comL g,badH g t=[]):Jm g 3 M O=true ↔ SS g O∧FF g M O ∧
 ∀ (i:Nat) (p:Int × Int) (m:Int),(readH g)[i]? = some p→M[i]? = some m→∀t:Nat,JF g t=true→atO O t<atO O p.1→okB g O p m t=true:=by
 have hget:∀ {j:Nat}(hj:j<(comL g).length),(comL g).getD j 0=(comL g)[j]:=fun hj=>by simp[List.getD_eq_getElem?_getD,List.getElem?_eq_getElem hj]
 constructor
 ·intro h
  unfold Jm at h
  rw[Bool.and_eq_true]at h
  have hf:FF g M O:=fun i p m hp he=>(jru h.2 hp he).1
  refine⟨fun a b ha hb hab hse=>jrg hm ho h.1 hf (by unfold Wt;rw[ha,hb];simp[hab,hse]),hf,fun i p m hp he t ht hlt=>?_⟩
  have:=(jru h.2 hp he).2
  rw[List.all_eq_true]at this
  refine this t ?_
  rw[jdu,filTo_mem]
  exact⟨t,JS ht,rfl,by simp[Wp,ht,hlt]⟩
 ·rintro⟨hs,hf,hk⟩
  unfold Jm
  rw[Bool.and_eq_true,andTo_iff,andTo_iff]
  refine⟨fun j hj=>?_,fun i hi=>?_⟩
  ·unfold sesB
   rw[hget hj,Bool.and_eq_true,andTo_iff]
   refine⟨by simp[hb _ (List.getElem_mem hj)],fun i hi=>?_⟩
   have hi':i<(comL g).length:=by omega
   have hlt:=List.pairwise_iff_getElem.1 (je4 g) i j hi' hj hi
   obtain⟨a,ea,ha⟩:=comL_mem.1 (List.getElem_mem hi')
   obtain⟨b,eb,hb⟩:=comL_mem.1 (List.getElem_mem hj)
   unfold Wn
   rw[hget hj,hget hi',ea,eb]
   simp only[Int.toNat_natCast]
   by_cases hse:sesAt g a=sesAt g b
   ·simp[hs a b ha hb (by omega) hse]
   ·simp[hse]
  ·unfold jas
   obtain⟨m,he,hmo⟩:=jhl hm (List.getElem?_eq_getElem hi)
   rw[List.getElem?_eq_getElem hi,he]
   simp only[Bool.and_eq_true,decide_eq_true_eq]
   refine⟨hf i _ m (List.getElem?_eq_getElem hi) he,?_⟩
   rw[List.all_eq_true]
   intro x hx
   rw[jdu,filTo_mem]at hx
   obtain⟨t,h1,rfl,h2⟩:=hx
   simp only[Wp,show ¬ (3:Int)=1 by decide,show ¬ (3:Int)=2 by decide,if_false,if_true,Bool.and_eq_true,decide_eq_true_eq]at h2
   exact hk i _ m (List.getElem?_eq_getElem hi) he t h2.1 h2.2
theorem jf7 (hm:WX g M=true) (hb:∀t∈comL g,badH g t=[]) {L:List Nat}(ho:JB g (ints L)=true):jfk (nxM g M) 0 L=Jm g 3 M (ints L):=by
 obtain⟨O,hO⟩:∃O,O=ints L:=⟨_,rfl⟩
 rw[← hO]at ho ⊢
 have hnd:=YG ho
 have hmm:∀ (a:Nat) (l:List Nat),(a:Int)∈ints l ↔ a∈l:=fun a l=>by
  unfold ints
  rw[List.mem_map]
  constructor
  ·rintro⟨b,h,e⟩
   have:b=a:=by omega
   exact this▸h
  ·exact fun h=>⟨a,h,rfl⟩
 have hmem:∀a:Nat,(a:Int)∈O ↔ a∈L:=fun a=>by rw[hO];exact hmm a L
 have hperm:=X1 ho
 have hcom:∀a:Nat,a∈L ↔ JF g a=true:=fun a=>by
  rw[← hmem,hperm.mem_iff,comL_mem]
  constructor
  ·rintro⟨k,e,h⟩
   have:k=a:=by omega
   exact this▸h
  ·exact fun h=>⟨a,rfl,h⟩
 have hin:∀ {x:Int},x∈comL g→x∈O:=fun h=>hperm.mem_iff.2 h
 -- where one stands
 have hpos:∀ (pre:List Nat) (t:Nat) (post:List Nat),L=pre++t::post→atO O t=pre.length∧∀a:Nat,a∈pre ↔ JF g a=true∧atO O a<atO O t:=fun pre t post e=>by
  have hk:pre.length<O.length:=by rw[hO,e,ints,List.length_map];simp
  have he:O[pre.length]=(t:Int):=by simp[hO,e,ints]
  have h1:atO O t=pre.length:=by rw[← he];exact jh4 hnd hk
  refine⟨h1,fun a=>?_⟩
  have h2:O.take pre.length=ints pre:=by rw[hO,e];unfold ints;rw[List.map_append,List.take_left' (by simp)]
  have h3:=hmm a pre
  rw[← h3,← h2,h1]
  constructor
  ·intro h
   have hc:=(hcom a).1 ((hmem a).1 (List.mem_of_mem_take h))
   exact⟨hc,(jrc ho (comL_mem.2 ⟨a,rfl,hc⟩) (by omega)).1 h⟩
  ·rintro⟨hc,h⟩
   exact(jrc ho (comL_mem.2 ⟨a,rfl,hc⟩) (by omega)).2 h
 have hLnd:L.Nodup:=by
  rw[hO,ints]at hnd
  exact(List.pairwise_map.1 hnd).imp fun h e=>h (by rw[e])
 have hp:jfk (nxM g M) 0 L=true ↔ ∀t:Nat,JF g t=true→jfl g M (fun a=>JF g a && decide (atO O a<atO O t)) t=true:=by
  rw[jne]
  have hs:∀ (pre:List Nat) (t:Nat) (post:List Nat),L=pre++t::post→∀a,(JZ 0 pre).testBit a=(JF g a && decide (atO O a<atO O t)):=fun pre t post e a=>by
   rw[jh3,Nat.zero_testBit,Bool.false_or,Bool.eq_iff_iff,List.contains_iff_mem,(hpos pre t post e).2 a,Bool.and_eq_true,decide_eq_true_eq]
  constructor
  ·intro h t ht
   obtain⟨pre,post,e⟩:=List.append_of_mem ((hcom t).2 ht)
   have:=(h pre t post e).2
   rw[nxM,Qy (hs pre t post e)]at this
   exact this
  ·intro h pre t post e
   have ht:JF g t=true:=(hcom t).1 (by rw[e];simp)
   refine⟨?_,?_⟩
   ·rw[hs pre t post e]
    simp
   ·rw[nxM,Qy (hs pre t post e)]
    exact h t ht
 rw[Bool.eq_iff_iff,hp,jug hm ho hb]
 have hone:=ju2 ho
 have hge:∀t:Nat,JF g t=true→0≤atO O t:=fun t ht=>ju3 ho (comL_mem.2 ⟨t,rfl,ht⟩)
 have hsrc:∀ {i:Nat}{m:Int},M[i]? = some m→m = -1∨∃k:Nat,m=k∧JF g k=true:=fun h=>(jlo hm (List.mem_of_getElem? h)).imp id comL_mem.1
 have hrd:∀ {i:Nat}{p:Int × Int},(readH g)[i]? = some p→∃k:Nat,p.1=k∧JF g k=true:=fun h=>comL_mem.1 (jc3 (List.mem_of_getElem? h))
 constructor
 ·intro h
  have h':=fun t ht=>(jjf hm).1 (h t ht)
  refine⟨fun a b ha hb hab hse=>?_,fun i p m hp' he=>?_,fun i p m hp' he t ht hlt=>?_⟩
  ·have:=(h' b hb).1 a hab ha hse
   simp only[Bool.and_eq_true,decide_eq_true_eq]at this
   exact this.2
  ·obtain⟨k,ek,hk⟩:=hrd hp'
   rcases((h' k hk).2 i p m hp' he).1 ek with h|h
   ·exact .inl h
   ·simp only[Bool.and_eq_true,decide_eq_true_eq]at h
    rcases hsrc he with h2|⟨q,e,_⟩
    ·exact .inl (by omega)
    ·rw[e]at h ⊢
     rw[ek]
     exact .inr h.2
  ·obtain⟨k,ek,hk⟩:=hrd hp'
   have hne:p.1≠t:=fun e=>by rw[e]at hlt;omega
   unfold okB
   simp only[Bool.or_eq_true,beq_iff_eq,Bool.not_eq_true',decide_eq_true_eq]
   rcases((h' t ht).2 i p m hp' he).2 hne with h|h|h
   ·simp only[Bool.and_eq_true,decide_eq_true_eq]at h
    rw[ek]at h hlt
    simp only[Int.toNat_natCast]at h
    omega
   ·rcases hsrc he with h2|⟨q,e,hq⟩
    ·exact absurd (.inl (by omega)) h
    ·subst e
     simp only[Int.toNat_natCast,Bool.and_eq_true,decide_eq_true_eq,hq,true_and]at h
     by_cases e:(t:Int)=q
     ·exact .inl e
     ·refine .inr (.inr ?_)
      have h3:atO O t≠atO O q:=fun e2=>e (jmg (hin (comL_mem.2 ⟨t,rfl,ht⟩)) e2)
      omega
   ·exact .inr (.inl h)
 ·rintro⟨hs,hf,hk⟩ t ht
  refine(jjf hm).2 ⟨fun a hat ha hse=>?_,fun i p m hp' he=>⟨fun e=>?_,fun e=>?_⟩⟩
  ·simp[ha,hs a t ha ht hat hse]
  ·rcases hsrc he with h2|⟨q,eq,hq⟩
   ·exact .inl (by omega)
   ·have:=hf i p m hp' he
    rw[e,eq]at this
    rw[eq]
    refine .inr ?_
    simp only[Int.toNat_natCast,hq,Bool.true_and,decide_eq_true_eq]
    omega
  ·obtain⟨k,ek,hkc⟩:=hrd hp'
   by_cases hlt:atO O k<atO O t
   ·exact .inl (by rw[ek];simp[hkc,hlt])
   ·have hkt:atO O t<atO O k:=by
     have h3:atO O t≠atO O k:=fun e2=>e (ek.trans (jmg (hin (comL_mem.2 ⟨t,rfl,ht⟩)) e2).symm)
     omega
    have:=hk i p m hp' he t ht (by rw[ek];exact hkt)
    unfold okB at this
    simp only[Bool.or_eq_true,beq_iff_eq,Bool.not_eq_true',decide_eq_true_eq]at this
    rcases hsrc he with h2|⟨q,eq,hq⟩
    ·subst h2
     rcases this with h|h|h
     ·omega
     ·exact .inr (.inr h)
     ·have:=hge t ht
      omega
    ·subst eq
     rcases this with h|h|h
     ·have e2:t=q:=by omega
      subst e2
      exact .inr (.inl (by simp))
     ·exact .inr (.inr h)
     ·refine .inr (.inl ?_)
      simp only[Int.toNat_natCast,hq,Bool.true_and,decide_eq_true_eq]
      omega
end
def je (w:Nat):List Nat:=(List.range 9).filter fun i=>w.testBit i
def jtc (w:Nat):Nat:=(je w).headD 0
theorem bitsUp_mem {w a:Nat}:a∈je w ↔ a<9∧w.testBit a=true:=by simp[je]
theorem je9:je 0=[]:=rfl
theorem j9n:((List.range 512).all fun w=>w == 0 || (je w == jtc w::je (w &&& (w - 1)) && decide (w &&& (w - 1)<512)))=true:=by kernel_rfl
theorem jka {w:Nat}(hw:w<512) (h:w≠0):je w=jtc w::je (w &&& (w - 1))∧w &&& (w - 1)<512:=by
 have:=List.all_eq_true.1 j9n w (List.mem_range.2 hw)
 simpa[h] using this
theorem k190:((List.range 512).all fun w=>w == 0 || (match (callers E 2 noY).d 190 [.int .u64 (w:Nat)] with|some r=>V.eqb r (.int .i64 (jtc w:Nat))|none=>false))=true:=by kernel_rfl
theorem ev190 {w:Nat}(hw:w<512) (h:w≠0):Ev E 190 [.int .u64 (w:Nat)] (.int .i64 (jtc w:Nat)):=by
 have:=List.all_eq_true.1 k190 w (List.mem_range.2 hw)
 simp only[beq_iff_eq,Bool.or_eq_true,h,false_or]at this
 split at this
 ·rename_i r hr
  exact⟨2,by rw[hr,QE _ _ this]⟩
 ·cases this
theorem j9g {w:Nat}(hw:w<512) (h:w≠0):jtc w<9:=by
 have:jtc w∈je w:=by rw[(jka hw h).1];exact List.mem_cons_self ..
 exact(bitsUp_mem.1 this).1
theorem jh2 (w:Nat):(je w).length≤9:=by
 unfold je
 exact Nat.le_trans (List.length_filter_le _ _) (by simp)
theorem j1g {w i:Nat}(h:i<8):(setC w)[i]? = some (.int .u64 (if i=0 then w else 0:Nat)):=by
 match i,h with
 | 0,_=>rfl
 | 1,_=>rfl
 | 2,_=>rfl
 | 3,_=>rfl
 | 4,_=>rfl
 | 5,_=>rfl
 | 6,_=>rfl
 | 7,_=>rfl
section
variable {ob:ZO}{ub k u w:Nat}
theorem jz5 (hk:ob k=some ⟨u,.cells (setC w)⟩) (ho:Off ub k) (hw:w<512) (tk:Nat→Bool) (base:Nat):EvO E 130 [.ptr k u 0] ob tk base ub (jjx (ints (je w))):=by
 refine Jj (af:=S130) rfl ?_
 have g:=ho.ne
 have hl8:(setC w).length=8:=rfl
 simp[S130,j1,hk,hl8]
 refine JJ fun st hst=>?_
 have g3:st.tm 3=.sl none true 0 []:=by rw[hst];simp
 have g11:st.tm 11=.agg (setC w):=by rw[hst];simp[setC]
 have g12:st.tm 12=.int .i64 0:=by rw[hst];simp
 have gd:st.df=[]:=by rw[hst];simp
 have gr:st.ro=ub:=by rw[hst];simp
 have gn:ub≤st.nx:=by rw[hst];simp;omega
 clear hst
 obtain⟨n0,hn0⟩:∃n,n=st.nx:=⟨_,rfl⟩
 obtain⟨P,hP⟩:∃P:Nat→Nat→Prop,P=fun hi u=>ub≤u∧u<hi:=⟨_,rfl⟩
 obtain⟨J,hJ⟩:∃J:Nat→St→Prop,J=fun i s=>s.tm 12=.int .i64 i∧IntsO s.ob (P s.nx) (if i=0 then [] else ints (je w)) (s.tm 3)∧ub≤s.nx:=⟨_,rfl⟩
 refine jF [(3,5),(12,30)] 8 J rfl rfl (by rw[hJ];exact⟨by simpa using g12,.inl ⟨rfl,g3⟩,gn⟩) ?_
 intro i s hi hJs f
 rw[hJ]at hJs
 obtain⟨s12,sI,sn⟩:=hJs
 have s11:s.tm 11=.agg (setC w):=by rw[f.t 11 (by simp)];simp[g11]
 have sd:s.df=[]:=by rw[f.d];simp[gd]
 have sr:s.ro=ub:=by rw[f.r];simp[gr]
 clear f
 by_cases hlt:i<8
 ·have hwk:=jv hlt (by decide)
  have hix:jeu none 8 1 (.agg (setC w)) (.int .i64 (i:Int))=some (.int .u64 (if i=0 then w else 0:Nat)):=by
   have:=j1g (w:=w) hlt
   have h2:(i:Int)<8:=by omega
   simp[jeu,h2,Xz,this]
  have h2:(i:Int)<8:=by omega
  generalize hx0:(if i=0 then w else 0:Nat)=x0 at hix
  simp[s12,s11,h2,hix]
  refine JJ fun st hst=>?_
  have t3:st.tm 3=s.tm 3:=by rw[hst];simp
  have t4:st.tm 4=.int .i64 i:=by rw[hst];simp[s12]
  have t5:st.tm 5=.int .u64 x0:=by rw[hst];simp
  have t12:st.tm 12=.int .i64 i:=by rw[hst];simp[s12]
  have td:st.df=[]:=by rw[hst];simp[sd]
  have tr:st.ro=ub:=by rw[hst];simp[sr]
  have to:st.ob=s.ob:=by rw[hst];simp
  have tn:s.nx≤st.nx:=by rw[hst];simp;omega
  clear hst
  obtain⟨J2,hJ2⟩:∃J2:Nat→St→Prop,J2=fun n s=>∃x L,n=(je x).length∧x<512∧(x=0∨i=0)∧s.tm 5=.int .u64 (x:Nat)∧L++ints (je x)=ints (je w)∧IntsO s.ob (P s.nx) L (s.tm 3)∧ub≤s.nx:=⟨_,rfl⟩
  refine YW (n:=(je x0).length) [(3,3),(5,5),(16,29)] J2 rfl rfl ?_ ?_
  ·rw[hJ2]
   by_cases hi0:i=0
   ·rw[if_pos hi0]at hx0 sI
    subst hx0
    refine⟨w,[],rfl,hw,.inr hi0,t5,rfl,?_,by omega⟩
    rw[to,t3]
    exact sI.frame (fun _ _=>rfl) fun u hu=>by rw[hP]at hu ⊢;exact⟨hu.1,by have:=hu.2;omega⟩
   ·rw[if_neg hi0]at hx0 sI
    subst hx0
    refine⟨0,ints (je w),rfl,by decide,.inl rfl,t5,by simp[je9,ints],?_,by omega⟩
    rw[to,t3]
    exact sI.frame (fun _ _=>rfl) fun u hu=>by rw[hP]at hu ⊢;exact⟨hu.1,by have:=hu.2;omega⟩
  ·intro n q hq f
   rw[hJ2]at hq
   obtain⟨x,L,rfl,hx,hxi,q5,hL,qI,qn⟩:=hq
   have q4:q.tm 4=.int .i64 i:=by rw[f.t 4 (by simp)];simp[t4]
   have q12:q.tm 12=.int .i64 i:=by rw[f.t 12 (by simp)];simp[t12]
   have qd:q.df=[]:=by rw[f.d];simp[td]
   have qr:q.ro=ub:=by rw[f.r];simp[tr]
   clear f
   by_cases h0:x=0
   ·subst h0
    simp[q5,q12,hwk,hlt]
    rw[hJ]
    rw[je9,show ints []=[] from rfl,List.append_nil]at hL
    subst hL
    refine⟨by simp,?_,by simp;omega⟩
    simp
    exact qI.frame (fun _ _=>rfl) fun u hu=>by rw[hP]at hu ⊢;exact⟨hu.1,by have:=hu.2;simp at this ⊢;omega⟩
   ·have hi0:i=0:=hxi.resolve_left h0
    subst hi0
    obtain⟨e1,e2⟩:=jka hx h0
    have ex:((x:Int) != 0)=true:=by simp;omega
    have hlow:=j9g hx h0
    have hsub:IntKind.u64.wrap ((x:Int) - 1)=((x - 1:Nat):Int):=by
     rw[IntKind.wrap_u64]
     omega
    have hand:=jkt (a:=x) (b:=x - 1) (m:=((x - 1:Nat):Int)) rfl (by omega) (by omega)
    generalize x &&& (x - 1)=y at hand e1 e2
    rw[← hsub]at hand
    have hz:IntKind.i64.wrap ((jtc x:Nat):Int)=((jtc x:Nat):Int):=JG (by omega) (by omega)
    have hlen:L.length≤9:=by
     have h1:=congrArg List.length hL
     have h2:=jh2 w
     simp[ints]at h1
     omega
    simp[q5,q4,ex]
    refine jU (ev190 hx h0) (by simp) rfl (by simp) ?_
    simp[hz,show IntKind.i64.wrap 0=0 from rfl]
    refine Xg (cs:=[.int .i64 ((jtc x:Nat):Int)]) (by simp[j7]) rfl rfl ?_
    simp
    refine jbz (p:=P q.nx) (l:=L) (z:=((jtc x:Nat):Int)) (X:=2*(q.nx+512)+1) (uX:=q.nx+512) (by simp) (qI.frame (fun u hu=>?_) fun _ h=>h) (by simp[Nat.add_assoc]) (by simp[Nat.add_assoc]) (fun u hu=>by rw[hP]at hu;simp[qr];exact hu.1) (by omega) fun kl hkl=>?_
    ·rw[hP]at hu
     have:=hu.2
     simp(disch:=first|(simp;done)|omega) [two_inj]
     intro e
     omega
    simp[q5,hand]
    refine⟨(je y).length,by rw[e1];simp,?_⟩
    rw[hJ2]
    refine⟨y,L++[((jtc x:Nat):Int)],rfl,e2,.inr rfl,by simp,by rw[← hL,e1];simp[ints],.inr ⟨by simp,q.nx+576,by simp[Nat.add_assoc],by simp[Nat.add_assoc,jmi],?_⟩,by simp;omega⟩
    rw[hP]
    simp
    omega
 ·have:i=8:=by omega
  subst this
  simp[s12]
  exact Q5 (by simp[sd]) (by simp) sI (fun u hu=>by rw[hP]at hu;simp[sr];exact hu.1)
end
structure FN where
 kF:Nat
 uF:Nat
 kA:Nat
 uA:Nat
 kW:Nat
 uW:Nat
 kV:Nat
 uV:Nat
def jfj:Option (Nat × Nat)→V
 | none=>.nilptr
 | some p=>.ptr p.1 p.2 0
def fdC (g:Hist') (N:FN) (rv al ov:V) (most:Int) (sp:Bool):List V:=[jH g.sn JK g.ss,jH g.kn JK g.ks,jH g.tn ji g.ts,rv,.map N.kA N.uA,.map N.kW N.uW,al,.map N.kV N.uV,.int .i64 most,.bool sp,ov]
structure FixF (N:FN) (n0 key:Nat):Prop where
 f:key≠N.kF
 v:key≠N.kV
 o:Off n0 key
def RowF (N:FN) (n0:Nat) (ob:ZO) (v:V) (rs:List (Int × Int × Int)):Prop:=(v=.sl none true 0 []∧rs=[])∨∃l u,v=.osl l u 0 rs.length 3∧ob l=some ⟨u,.cells (rs.flatMap rdC)⟩∧FixF N n0 l
def SetsF (N:FN) (n0:Nat) (ob:ZO) (k u:Nat) (C:List Nat) (f:Nat→Nat):Prop :=
 FixF N n0 k∧∃ver m,ob k=some ⟨u,.mp ver (MK .i64 jfj m)⟩∧∀t∈C,∃l u,Qz m (t:Int) none=some (l,u)∧ob l=some ⟨u,.cells (setC (f t))⟩∧FixF N n0 l
structure Fd (N:FN) (rv:V) (rs:List (Int × Int × Int)) (C:List Nat) (fA fW:Nat→Nat) (n0:Nat) (ob:ZO):Prop where
 r:RowF N n0 ob rv rs
 a:SetsF N n0 ob N.kA N.uA C fA
 w:SetsF N n0 ob N.kW N.uW C fW
theorem RowF.keep {N:FN}{n0:Nat}{ob ob':ZO}{v:V}{rs:List (Int × Int × Int)}(h:RowF N n0 ob v rs) (hw:∀key,FixF N n0 key→ob' key=ob key):RowF N n0 ob' v rs:=by
 rcases h with h|⟨l,u,h1,h2,h3⟩
 ·exact .inl h
 ·exact .inr ⟨l,u,h1,(hw _ h3).trans h2,h3⟩
theorem SetsF.keep {N:FN}{n0:Nat}{ob ob':ZO}{k u:Nat}{C:List Nat}{f:Nat→Nat}(h:SetsF N n0 ob k u C f) (hw:∀key,FixF N n0 key→ob' key=ob key):SetsF N n0 ob' k u C f:=by
 obtain⟨h0,ver,m,h1,h2⟩:=h
 refine⟨h0,ver,m,(hw _ h0).trans h1,fun t ht=>?_⟩
 obtain⟨l,u,h3,h4,h5⟩:=h2 t ht
 exact⟨l,u,h3,(hw _ h5).trans h4,h5⟩
theorem Fd.keep {N:FN}{rv:V}{rs:List (Int × Int × Int)}{C:List Nat}{fA fW:Nat→Nat}{n0:Nat}{ob ob':ZO}(h:Fd N rv rs C fA fW n0 ob) (hw:∀key,FixF N n0 key→ob' key=ob key):Fd N rv rs C fA fW n0 ob' :=
 ⟨h.r.keep hw,h.a.keep hw,h.w.keep hw⟩
theorem SetsF.at {N:FN}{n0:Nat}{ob:ZO}{k u:Nat}{C:List Nat}{f:Nat→Nat}(h:SetsF N n0 ob k u C f) {t:Nat}(ht:t∈C):∃l v,(∀ob':ZO,ob' k=ob k→XV ob' .int .nilptr false (.map k u) (.int .i64 (t:Int))=some (.ptr l v 0))∧ob l=some ⟨v,.cells (setC (f t))⟩∧FixF N n0 l:=by
 obtain⟨_,ver,m,h1,h2⟩:=h
 obtain⟨l,v,h3,h4,h5⟩:=h2 t ht
 refine⟨l,v,fun ob' e=>?_,h4,h5⟩
 rw[jbw (q:=.i64) (f:=jfj) m (by simp[jQ,e,h1])]
 unfold Qz at h3
 cases hm:jf m (t:Int) with
 | none=>rw[hm]at h3;cases h3
 | some p=>
  rw[hm]at h3
  simp only at h3
  simp[h3,jfj]
def jbi (w:Nat) (x:Int):Bool:=decide (x<0) || w.testBit x.toNat
def barB (w t W:Nat) (r:Int × Int × Int):Bool:=if r.1=t then !jbi w r.2.1 else !w.testBit r.1.toNat && (jbi w r.2.1 && W.testBit r.2.2.toNat)
def jw7 (rs:List (Int × Int × Int)) (fA fW:Nat→Nat) (w t:Nat):Bool:=(je (fA t)).all (fun a=>w.testBit a) && !(rs.any (barB w t (fW t)))
def RdOk (r:Int × Int × Int):Prop:=(0≤r.1∧r.1<64)∧r.2.1<64∧0≤r.2.2∧r.2.2<64
section
variable {ob:ZO}{ub k u w:Nat}
theorem jz4 (hk:ob k=some ⟨u,.cells (setC w)⟩) (ho:Off ub k) (hw:w<2 ^ 64) {x:Int}(hx:x<64) (tk:Nat→Bool) (base:Nat):EvO E 134 [.ptr k u 0,.int .i64 x] ob tk base ub (.bool (jbi w x)):=by
 refine Jj (af:=S134) rfl ?_
 unfold jbi
 by_cases h:x<0
 ·simp[S134,h]
  exact j3 (by simp) (by simp) rfl
 ·obtain⟨n,rfl⟩:∃n:Nat,x=n:=⟨x.toNat,by omega⟩
  simp[S134,h]
  refine JI (vs:=[.ptr k u 0,.int .i64 n]) (by simp) rfl rfl (jj6 hk (ho.up (by omega)) (by omega) hw _ _) ?_
  simp
  exact j3 (by simp) (by simp) rfl
theorem evo131 {kb vb:Nat}(hb:ob kb=some ⟨vb,.cells [.ptr k u 0]⟩) (hk:ob k=some ⟨u,.cells (setC w)⟩) (fb:Off ub kb) (ho:Off ub k) (hw:w<2 ^ 64) {a:Nat}(ha:a<64) (tk:Nat→Bool) (base:Nat):EvO E 131 [.int .i64 (a:Int),.ptr kb vb 0] ob tk base ub (.bool (!w.testBit a)):=by
 refine Jj (af:=S131) rfl ?_
 simp[S131,j1,hb]
 refine JI (vs:=[.ptr k u 0,.int .i64 a]) (by simp) rfl rfl (jj6 hk (ho.up (by omega)) ha hw _ _) ?_
 simp
 exact j3 (by simp) (by simp) rfl
theorem j3n {p:Int→Bool}{gf:FuncId}{c1 c2:Nat}(hs:E.sh true gf=false) {t:Option (Nat × Nat)}{nl:Bool}{L:List Int}(hl:L.length≤1000000000)
 (hp:∀r∈L,∀ (tk:Nat→Bool) (base ub':Nat),ub≤ub'→EvO E gf [.int .i64 r,.ptr c1 c2 0] ob tk base ub' (.bool (p r))) (tk:Nat→Bool) (base:Nat):EvO E 147 [.sl t nl L.length (L.flatMap intC),.fn (.func gf) [] [.ptr c1 c2 0]] ob tk base ub (.int .i64 (Ql p L)):=by
 refine Jj (af:=S147) rfl ?_
 simp[S147]
 refine jF [(4,5),(8,18)] L.length (fun i s=>s.tm 8=.int .i64 i∧s.ob=ob∧ub≤s.nx∧∀j (hj:j<L.length),j<i→p L[j]=false) rfl rfl ⟨by simp,by simp,by simp;omega,fun _ _ h=>by omega⟩ ?_
 rintro i s hi ⟨h8,ho,hn,hb⟩ f
 have h0:s.tm 0=.sl t nl L.length (L.flatMap intC):=by rw[f.t 0 (by simp)];simp
 have h1:s.tm 1=.fn (.func gf) [] [.ptr c1 c2 0]:=by rw[f.t 1 (by simp)];simp
 have h7:s.tm 7=.int .i64 L.length:=by rw[f.t 7 (by simp)];simp
 have hd:s.df=[]:=by rw[f.d];simp
 clear f
 by_cases hlt:i<L.length
 ·have hw:=jv hlt hl
  have hix:=Jx jB t nl L .i64 hlt
  have hia:=JP L hlt
  simp[h0,h1,h7,h8,hlt,hix,hia]
  refine Q4 (f:=gf) (first:=[]) (captured:=[.ptr c1 c2 0]) (by simp) hs (by simp[V.strip,V.pureTop,V.pureLeaf]) (v:=.bool (p L[i])) (by simpa[ho] using hp L[i] (List.getElem_mem hlt) _ _ _ (by omega)) ?_
  cases hpi:p L[i]
  ·simp[h8,hw]
   refine⟨hlt,ho,by omega,?_⟩
   intro j hj hji
   rcases Nat.lt_succ_iff_lt_or_eq.1 hji with h|rfl
   ·exact hb j hj h
   ·exact hpi
  ·simp
   refine j3 (by simpa using hd) ?_ rfl
   simp
   rw[Ye hlt hpi hb]
 ·have:i=L.length:=by omega
  subst this
  simp[h7,h8]
  refine j3 (by simpa using hd) ?_ rfl
  simp[Wd (fun j hj=>hb j hj hj)]
theorem evo129 {p:Int→Bool}{gf:FuncId}{c1 c2:Nat}(hs:E.sh true gf=false) {t:Option (Nat × Nat)}{nl:Bool}{L:List Int}(hl:L.length≤1000000000)
 (hp:∀r∈L,∀ (tk:Nat→Bool) (base ub':Nat),ub≤ub'→EvO E gf [.int .i64 r,.ptr c1 c2 0] ob tk base ub' (.bool (p r))) (tk:Nat→Bool) (base:Nat):EvO E 129 [.sl t nl L.length (L.flatMap intC),.fn (.func gf) [] [.ptr c1 c2 0]] ob tk base ub (.bool (L.any p)):=by
 refine Jj (af:=S129) rfl ?_
 simp[S129]
 refine JI (vs:=[.sl t nl L.length (L.flatMap intC),.fn (.func gf) [] [.ptr c1 c2 0]]) (by simp) rfl (by rw[List.all_cons,Bool.and_eq_false_iff];exact .inr rfl) (j3n hs hl (fun r hr tk base ub' h=>hp r hr tk base ub' (by omega)) _ _) ?_
 simp
 exact j3 rfl (by simp[QX]) rfl
variable {N:FN}{n0:Nat}
theorem evo191 {p:Int × Int × Int→Bool}{gf:FuncId}{c1 c2 c3 c4 c5 c6:Nat}(hs:E.sh true gf=false) {v:V}{rs:List (Int × Int × Int)}(hv:RowF N n0 ob v rs) (hl:rs.length≤1000000000)
 (hp:∀r∈rs,∀ (tk:Nat→Bool) (base ub':Nat),ub≤ub'→EvO E gf [.agg (rdC r),.ptr c1 c2 0,.ptr c3 c4 0,.ptr c5 c6 0] ob tk base ub' (.bool (p r))) (tk:Nat→Bool) (base:Nat):EvO E 191 [v,.fn (.func gf) [] [.ptr c1 c2 0,.ptr c3 c4 0,.ptr c5 c6 0]] ob tk base ub (.int .i64 (Ql p rs)):=by
 refine Jj (af:=S191) rfl ?_
 have hlen:ja2 v=some (.int .i64 rs.length):=by
  rcases hv with⟨rfl,rfl⟩|⟨l,u,rfl,_⟩ <;> rfl
 have hat:∀i,(h:i<rs.length)→∃q,Jr 3 v (.int .i64 (i:Int))=some q∧WZ ob (some 3) q=some (.agg (rdC rs[i])):=by
  intro i h
  rcases hv with⟨rfl,rfl⟩|⟨l,u,rfl,ho,_⟩
  ·simp at h
  ·refine⟨_,idx0 h,?_⟩
   have:=Xj jk4 rs i h
   have hlf:=j8 jk4 rs
   simp only[WZ,j1,ho,if_true,Option.bind_some,W5]
   rw[if_pos (by rw[hlf];omega),this]
 simp[S191,hlen]
 refine jF [(4,5),(8,18)] rs.length (fun i s=>s.tm 8=.int .i64 i∧s.ob=ob∧ub≤s.nx∧∀j (hj:j<rs.length),j<i→p rs[j]=false) rfl rfl ⟨by simp,by simp,by simp;omega,fun _ _ h=>by omega⟩ ?_
 rintro i s hi ⟨h8,ho,hn,hb⟩ f
 have h0:s.tm 0=v:=by rw[f.t 0 (by simp)];simp
 have h1:s.tm 1=.fn (.func gf) [] [.ptr c1 c2 0,.ptr c3 c4 0,.ptr c5 c6 0]:=by rw[f.t 1 (by simp)];simp
 have h7:s.tm 7=.int .i64 rs.length:=by rw[f.t 7 (by simp)];simp
 have hd:s.df=[]:=by rw[f.d];simp
 clear f
 by_cases hlt:i<rs.length
 ·have hw:=jv hlt hl
  obtain⟨q,hq1,hq2⟩:=hat i hlt
  simp[h0,h1,h7,h8,hlt,hq1,ho,hq2]
  refine Q4 (f:=gf) (first:=[]) (captured:=[.ptr c1 c2 0,.ptr c3 c4 0,.ptr c5 c6 0]) (by simp) hs (by simp[V.strip,V.pureTop,V.pureLeaf]) (v:=.bool (p rs[i])) (by simpa[ho] using hp rs[i] (List.getElem_mem hlt) _ _ _ (by omega)) ?_
  cases hpi:p rs[i]
  ·simp[h8,hw]
   refine⟨hlt,ho,by omega,?_⟩
   intro j hj hji
   rcases Nat.lt_succ_iff_lt_or_eq.1 hji with h|rfl
   ·exact hb j hj h
   ·exact hpi
  ·simp
   refine j3 (by simpa using hd) ?_ rfl
   simp
   rw[Ye hlt hpi hb]
 ·have:i=rs.length:=by omega
  subst this
  simp[h7,h8]
  refine j3 (by simpa using hd) ?_ rfl
  simp[Wd (fun j hj=>hb j hj hj)]
theorem evo132 {p:Int × Int × Int→Bool}{gf:FuncId}{c1 c2 c3 c4 c5 c6:Nat}(hs:E.sh true gf=false) {v:V}{rs:List (Int × Int × Int)}(hv:RowF N n0 ob v rs) (hl:rs.length≤1000000000)
 (hp:∀r∈rs,∀ (tk:Nat→Bool) (base ub':Nat),ub≤ub'→EvO E gf [.agg (rdC r),.ptr c1 c2 0,.ptr c3 c4 0,.ptr c5 c6 0] ob tk base ub' (.bool (p r))) (tk:Nat→Bool) (base:Nat):EvO E 132 [v,.fn (.func gf) [] [.ptr c1 c2 0,.ptr c3 c4 0,.ptr c5 c6 0]] ob tk base ub (.bool (rs.any p)):=by
 refine Jj (af:=S132) rfl ?_
 simp[S132]
 refine JI (vs:=[v,.fn (.func gf) [] [.ptr c1 c2 0,.ptr c3 c4 0,.ptr c5 c6 0]]) (by simp) rfl (by rw[List.all_cons,Bool.and_eq_false_iff];exact .inr rfl) (evo191 (N:=N) (n0:=n0) hs (hv.keep (fun _ _=>rfl)) hl (fun r hr tk base ub' h=>hp r hr tk base ub' (by omega)) _ _) ?_
 simp
 exact j3 rfl (by simp[QX]) rfl
end
section
variable {ob:ZO}{ub kS uS w n0 t:Nat}{N:FN}{g:Hist'}{rv al ov:V}{most:Int}{sp:Bool}{rs:List (Int × Int × Int)}{C:List Nat}{fA fW:Nat→Nat}
theorem evo133 (hd:Fd N rv rs C fA fW n0 ob) (hF:ob N.kF=some ⟨N.uF,.cells (fdC g N rv al ov most sp)⟩) (oF:Off ub N.kF) (hS:ob kS=some ⟨uS,.cells (setC w)⟩) (oS:Off ub kS) (hn:n0≤ub) (hw:w<2 ^ 64) (ht:t∈C) (hW:fW t<2 ^ 64)
 {kt vt ks vs kf vf:Nat}(bt:ob kt=some ⟨vt,.cells [.int .i64 (t:Int)]⟩) (bs:ob ks=some ⟨vs,.cells [.ptr kS uS 0]⟩) (bf:ob kf=some ⟨vf,.cells [.ptr N.kF N.uF 0]⟩) (ot:Off ub kt) (os:Off ub ks) (of:Off ub kf) {r:Int × Int × Int}(hr:RdOk r) (tk:Nat→Bool) (base:Nat) :
 EvO E 133 [.agg (rdC r),.ptr kt vt 0,.ptr ks vs 0,.ptr kf vf 0] ob tk base ub (.bool (barB w t (fW t) r)):=by
 refine Jj (af:=S133) rfl ?_
 have g1:=ot.ne
 have g2:=os.ne
 have g3:=of.ne
 have g4:=oF.ne
 have g5:=oS.ne
 obtain⟨⟨r1,r2⟩,r3,r4,r5⟩:=hr
 obtain⟨a,ha⟩:∃a:Nat,r.1=a:=⟨r.1.toNat,by omega⟩
 obtain⟨b,hb⟩:∃b:Nat,r.2.2=b:=⟨r.2.2.toNat,by omega⟩
 unfold barB
 have hoS:∀m,ub≤m→(upd ob (2*m+1) (some ⟨m,.cells (rdC r)⟩)) kS=some ⟨uS,.cells (setC w)⟩:=fun m hm=>by rw[J6 _ _ (g5 m hm)];exact hS
 by_cases h0:r.1=t
 ·simp(disch:=first|(simp;done)|omega) [S133,j1,rdC,V.cells,bt,g1,bs,g2,h0]
  refine JI (vs:=[.ptr kS uS 0,.int .i64 r.2.1]) (by simp) rfl rfl (jz4 (w:=w) (by simp(disch:=first|(simp;done)|omega) [g5,hS]) (oS.up (by omega)) hw r3 _ _) ?_
  simp
  exact j3 (by simp) (by simp) rfl
 ·have h0':(r.1 == (t:Int))=false:=by simpa using h0
  simp(disch:=first|(simp;done)|omega) [S133,j1,rdC,V.cells,bt,g1,bs,g2,h0']
  have q1:0≤r.1:=r1
  refine jen (vs:=[.ptr kS uS 0,.int .i64 r.1]) (by simp) rfl rfl (by rw[ha];exact jj6 (w:=w) (n:=a) (by simp(disch:=first|(simp;done)|omega) [g5,hS]) (oS.up (by first|omega|(simp;omega))) (by omega) hw _ _) (Jo rfl) ?_
  have ea:r.1.toNat=a:=by omega
  have eb:r.2.2.toNat=b:=by omega
  rw[ea,eb,if_neg h0]
  obtain⟨l,v,hlk,hl,fl⟩:=hd.w.at ht
  have gW:=hd.w.1.o.up hn
  have gl:=(fl.o.up hn)
  cases hb1:w.testBit a
  ·simp(disch:=first|(simp;done)|omega) [j1,rdC,bs,g2]
   refine jen (vs:=[.ptr kS uS 0,.int .i64 r.2.1]) (by simp) rfl rfl (jz4 (w:=w) (by simp(disch:=first|(simp;done)|omega) [g5,hS]) (oS.up (by first|omega|(simp;omega))) hw r3 _ _) (Jo rfl) ?_
   cases hb2:jbi w r.2.1
   ·simp(disch:=first|(simp;done)|omega)
    exact j3 (by simp) (by simp) rfl
   ·simp(disch:=first|(simp;done)|omega) [j1,rdC,bf,g3,hF,g4,fdC,bt,g1]
    rw[hlk _ (by simp(disch:=first|(simp;done)|omega) [gW.ne])]
    simp(disch:=first|(simp;done)|omega) [j1,rdC]
    refine JI (vs:=[.ptr l v 0,.int .i64 r.2.2]) (by simp) rfl rfl (by rw[hb];exact jj6 (w:=fW t) (n:=b) (by simp(disch:=first|(simp;done)|omega) [gl.ne,hl]) (gl.up (by first|omega|(simp;omega))) (by omega) hW _ _) ?_
    simp
    exact j3 (by simp) (by simp) rfl
  ·simp(disch:=first|(simp;done)|omega)
   exact j3 (by simp) (by simp) rfl
theorem evo82 (hd:Fd N rv rs C fA fW n0 ob) (hF:ob N.kF=some ⟨N.uF,.cells (fdC g N rv al ov most sp)⟩) (oF:Off ub N.kF) (hS:ob kS=some ⟨uS,.cells (setC w)⟩) (oS:Off ub kS) (hn:n0≤ub) (hw:w<2 ^ 64) (ht:t∈C) (hA:fA t<512) (hW:fW t<2 ^ 64)
 (hrs:∀r∈rs,RdOk r) (hl:rs.length≤1000000) (tk:Nat→Bool) (base:Nat):EvO E 82 [.ptr N.kF N.uF 0,.ptr kS uS 0,.int .i64 (t:Int)] ob tk base ub (.bool (jw7 rs fA fW w t)):=by
 refine Jj (af:=S82) rfl ?_
 have g4:=oF.ne
 have g5:=oS.ne
 have gA:=(hd.a.1.o.up hn)
 obtain⟨l,v,hlk,hl',fl⟩:=hd.a.at ht
 have gl:=fl.o.up hn
 simp(disch:=first|(simp;done)|omega) [S82,j1,V.cells,two_inj,hF,g4,fdC,jwm,Nat.add_assoc]
 rw[hlk _ (by simp(disch:=first|(simp;done)|omega) [gA.ne])]
 simp(disch:=first|(simp;done)|omega) [j1]
 refine j2z (vs:=[.ptr l v 0]) (l:=ints (je (fA t))) (by simp) rfl rfl ⟨_,jz5 (w:=fA t) (by simp(disch:=first|(simp;done)|omega) [gl.ne,hl']) (gl.up (by first|omega|(simp;omega))) hA _ _,numR_intsV _⟩ fun tt nl add=>?_
 simp(disch:=first|(simp;done)|omega)
 have hlen:(ints (je (fA t))).length≤1000000000:=by
  have:=jh2 (fA t)
  simp only[ints,List.length_map]
  omega
 refine JI (vs:=[.sl tt nl (ints (je (fA t))).length ((ints (je (fA t))).flatMap intC),.fn (.func 131) [] [.ptr (2*(ub+64)+1) (ub+64) 0]]) (by simp) rfl (by rw[List.all_cons,Bool.and_eq_false_iff];exact .inr rfl) (evo129 (p:=fun x=>!w.testBit x.toNat) rfl hlen (fun x hx tk base ub' h=>?_) _ _) ?_
 ·unfold ints at hx
  obtain⟨a,ha,rfl⟩:=List.mem_map.1 hx
  have:=(bitsUp_mem.1 ha).1
  exact evo131 (w:=w) (k:=kS) (u:=uS) (by simp(disch:=first|(simp;done)|omega) [two_inj,Nat.add_assoc]) (by simp(disch:=first|(simp;done)|omega) [g5,hS]) (Off.new (by first|omega|(simp at h;omega))) (oS.up (by first|omega|(simp at h;omega))) hw (by omega) tk base
 have eall:((ints (je (fA t))).any fun x=>!w.testBit x.toNat) = !(je (fA t)).all fun a=>w.testBit a:=by
  unfold ints
  rw[List.any_map,List.not_all_eq_any_not]
  rfl
 rw[eall]
 unfold jw7
 cases hall:(je (fA t)).all fun a=>w.testBit a
 ·simp
  exact j3 (by simp) (by simp) rfl
 ·simp(disch:=first|(simp;done)|omega) [j1,two_inj,hF,g4,fdC,Nat.add_assoc]
  refine JI (vs:=[rv,.fn (.func 133) [] [.ptr (2*(ub+128)+1) (ub+128) 0,.ptr (2*(ub+64)+1) (ub+64) 0,.ptr (2*ub+1) ub 0]]) (by simp) rfl (by rw[List.all_cons,Bool.and_eq_false_iff];exact .inr rfl)
   (evo132 (N:=N) (n0:=n0) (p:=barB w t (fW t)) rfl (hd.r.keep fun key h=>?_) (by omega) (fun r hr tk base ub' h=>evo133 (g:=g) (kS:=kS) (uS:=uS) (rv:=rv) (al:=al) (ov:=ov) (most:=most) (sp:=sp) (n0:=n0) (hd.keep fun key h=>?_) ?_ (oF.up ?_) ?_ (oS.up ?_) ?_ hw ht hW ?_ ?_ ?_ (Off.new ?_) (Off.new ?_) (Off.new ?_) (hrs r hr) tk base) _ _) ?_
  ·simp(disch:=first|(simp;done)|omega) [(h.o.up hn).ne]
  ·simp(disch:=first|(simp;done)|omega) [(h.o.up hn).ne]
  ·simp(disch:=first|(simp;done)|omega) [g4,hF]
  ·first|omega|(simp at h;omega)
  ·simp(disch:=first|(simp;done)|omega) [g5,hS]
  ·first|omega|(simp at h;omega)
  ·first|omega|(simp at h;omega)
  ·simp(disch:=first|(simp;done)|omega) [two_inj,Nat.add_assoc]
  ·simp(disch:=first|(simp;done)|omega) [two_inj,Nat.add_assoc]
  ·simp(disch:=first|(simp;done)|omega) [two_inj,Nat.add_assoc]
  ·first|omega|(simp at h;omega)
  ·first|omega|(simp at h;omega)
  ·first|omega|(simp at h;omega)
  ·simp
   exact j3 (by simp) (by simp) rfl
end
theorem j9m:((List.range 512).all fun w=>JZ 0 (je w) == w)=true:=by kernel_rfl
theorem j0r {w:Nat}(hw:w<512):JZ 0 (je w)=w:=by
 simpa using List.all_eq_true.1 j9m w (List.mem_range.2 hw)
theorem jqi {L:List Nat}{i:Nat}(h:i<L.length) (w:Nat):JZ w (L.take (i+1))=JZ w (L.take i) ||| 1 <<< L[i]:=by
 unfold JZ
 rw[List.take_succ_eq_append_getElem h,List.foldl_append]
 rfl
theorem Yg:∀ {L:List Nat}{w:Nat},w<2 ^ 64→(∀a∈L,a<64)→JZ w L<2 ^ 64
 | [],_,hw,_=>hw
 | a::L,w,hw,h=>Yg (L:=L) (or_lt hw (h a (List.mem_cons_self ..))) fun b hb=>h b (List.mem_cons_of_mem _ hb)
theorem QV (L:List Nat):(ints L).length=L.length:=by simp[ints]
theorem j3b (L:List Nat) {i:Nat}(h:i<(ints L).length):(ints L)[i]=((L[i]'(by simpa[ints] using h):Nat):Int):=by simp[ints]
section
variable {ob:ZO}{ub k u w:Nat}
theorem jz6 (hk:ob k=some ⟨u,.cells (setC w)⟩) (ho:Off ub k) (hw:w<512) (tk:Nat→Bool) (base:Nat):EvO E 123 [.ptr k u 0] ob tk base ub (.int .u64 (w:Nat)):=by
 refine Jj (af:=S123) rfl ?_
 have hlen:=jh2 w
 simp[S123]
 obtain⟨nl,hsl⟩:=numR_intsV (ints (je w))
 refine JI (vs:=[.ptr k u 0]) (by simp) rfl rfl (jz5 hk (ho.up (by first|omega|(simp;omega))) hw _ _) ?_
 refine Wx hsl fun tt add=>?_
 simp
 refine jF [(3,5),(9,17)] (je w).length (fun i s=>s.tm 9=.int .i64 i∧s.tm 3=.int .u64 (JZ 0 ((je w).take i):Nat)) rfl rfl ⟨by simp,by simp[JZ]⟩ ?_
 rintro i s hi ⟨h9,h3⟩ f
 have h7:s.tm 7=.sl tt nl (ints (je w)).length ((ints (je w)).flatMap intC):=by rw[f.t 7 (by simp)];simp
 have h8:s.tm 8=.int .i64 (ints (je w)).length:=by rw[f.t 8 (by simp)];simp
 have hd:s.df=[]:=by rw[f.d];simp
 clear f
 by_cases hlt:i<(je w).length
 ·have hlt':i<(ints (je w)).length:=by rw[QV];exact hlt
  have hwk:=jv hlt' (by rw[QV];omega)
  have hix:=Jx jB tt nl (ints (je w)) .i64 hlt'
  have hia:=JP (ints (je w)) hlt'
  have hb:=(bitsUp_mem.1 (List.getElem_mem hlt)).1
  rw[j3b]at hia
  have e1:=jg1 (n:=(je w)[i]) (by omega)
  have e2:=jik (a:=JZ 0 ((je w).take i)) (b:=1 <<< (je w)[i]) (Yg (by decide) fun a ha=>by have:=(bitsUp_mem.1 (List.mem_of_mem_take ha)).1;omega) (jnj (by omega))
  rw[← jqi hlt]at e2
  generalize 1 <<< (je w)[i]=p1 at e1 e2
  generalize hp2:JZ 0 ((je w).take (i+1))=p2 at e2
  generalize JZ 0 ((je w).take i)=p3 at e2 h3
  simp[h7,h8,h9,h3,hlt',hix,hia,e1,e2,hwk]
  exact⟨hlt,by rw[hp2]⟩
 ·have:i=(je w).length:=by omega
  subst this
  rw[List.take_length,j0r hw]at h3
  simp[h8,h9,QV,h3]
  exact j3 (by simpa using hd) (by simp) rfl
end
end Go.Pv.T
namespace Go.Pv.T
open Go Go.Pv
end Go.Pv.T
namespace Go.Pv.T
open Go Go.Pv
structure Mtx (ob:ZO) (lo hi kP uP n:Nat) (rows:List (Nat × Nat)) (f:Nat→Nat→Bool):Prop where
 p:ob kP=some ⟨uP,.cells (rows.map (j4q n)++List.replicate (n - rows.length) (.sl none true 0 []))⟩
 c:∀b (h:b<rows.length),ob (rows[b]).1=some ⟨(rows[b]).2,.cells ((List.range n).map fun t=>V.bool (f b t))⟩
 k:kP=2*uP+1∧lo≤uP∧uP<hi
 r:∀b (h:b<rows.length),(rows[b]).1=2*(rows[b]).2+1∧uP<(rows[b]).2∧(rows[b]).2<hi
 d:∀b b' (h:b<rows.length) (h':b'<rows.length),(rows[b]).2=(rows[b']).2→b=b'
theorem Mtx.hi {ob:ZO}{lo hi kP uP n:Nat}{rows:List (Nat × Nat)}{f:Nat→Nat→Bool}(h:Mtx ob lo hi kP uP n rows f) {ob':ZO}{hi':Nat}(hu:hi≤hi') (hP:ob' kP=ob kP) (hr:∀b (hb:b<rows.length),ob' (rows[b]).1=ob (rows[b]).1):Mtx ob' lo hi' kP uP n rows f :=
 ⟨hP.trans h.p,fun b hb=>(hr b hb).trans (h.c b hb),⟨h.k.1,h.k.2.1,by have:=h.k.2.2;omega⟩,fun b hb=>⟨(h.r b hb).1,(h.r b hb).2.1,by have:=(h.r b hb).2.2;omega⟩,h.d⟩
theorem Mtx.offP {ob:ZO}{lo hi kP uP n:Nat}{rows:List (Nat × Nat)}{f:Nat→Nat→Bool}(h:Mtx ob lo hi kP uP n rows f):Off hi kP:=fun m hm=>by
 have:=h.k
 omega
theorem Mtx.offR {ob:ZO}{lo hi kP uP n:Nat}{rows:List (Nat × Nat)}{f:Nat→Nat→Bool}(h:Mtx ob lo hi kP uP n rows f) {b:Nat}(hb:b<rows.length):Off hi (rows[b]).1:=fun m hm=>by
 have:=h.r b hb
 omega
theorem Mtx.keep {ob:ZO}{lo hi kP uP n:Nat}{rows:List (Nat × Nat)}{f:Nat→Nat→Bool}(h:Mtx ob lo hi kP uP n rows f) {ob':ZO}{hi':Nat}(hu:hi≤hi') (hW:Was hi ob ob'):Mtx ob' lo hi' kP uP n rows f :=
 h.hi hu (hW _ h.offP) fun _ hb=>hW _ (h.offR hb)
theorem Mtx.congr {ob:ZO}{lo hi kP uP n:Nat}{rows:List (Nat × Nat)}{f f':Nat→Nat→Bool}(h:Mtx ob lo hi kP uP n rows f) (e:∀b a,b<rows.length→a<n→f b a=f' b a):Mtx ob lo hi kP uP n rows f' :=
 ⟨h.p,fun b hb=>by
  rw[h.c b hb]
  congr 3
  refine List.map_congr_left fun a ha=>?_
  rw[e b a hb (List.mem_range.1 ha)],h.k,h.r,h.d⟩
theorem jov (n t:Nat) (F:Nat→V) (x:V) (h:t<n):j7 ((List.range n).map F) t [x]=(List.range n).map fun a=>if a=t then x else F a:=by
 unfold j7
 refine List.ext_getElem (by simp;omega) fun i h1 h2=>?_
 simp only[List.length_cons,List.length_nil,List.getElem_append,List.getElem_map,List.getElem_range,List.length_append,List.length_take,List.length_map,List.length_range,List.getElem_take,List.getElem_drop]
 rcases Nat.lt_trichotomy i t with hi|hi|hi
 ·rw[dif_pos (by omega),dif_pos (by omega),if_neg (by omega)]
 ·subst hi
  rw[dif_pos (by omega),dif_neg (by omega),if_pos rfl]
  simp
 ·rw[dif_neg (by omega),if_neg (by omega)]
  congr 1
  omega
theorem Mtx.set {ob:ZO}{lo hi kP uP n:Nat}{rows:List (Nat × Nat)}{f:Nat→Nat→Bool}(h:Mtx ob lo hi kP uP n rows f) {b t:Nat}{x:Bool}(hb:b<rows.length) (ht:t<n) {ob':ZO}{hi':Nat}(hu:hi≤hi')
 (h1:ob' (rows[b]).1=some ⟨(rows[b]).2,.cells (j7 ((List.range n).map fun t=>V.bool (f b t)) t [.bool x])⟩) (h2:∀key,Off hi key→key≠(rows[b]).1→ob' key=ob key):Mtx ob' lo hi' kP uP n rows fun b' a=>if b'=b∧a=t then x else f b' a:=by
 have hk:=h.k
 have hrb:=h.r b hb
 refine⟨(h2 _ h.offP (by omega)).trans h.p,fun b' hb'=>?_,⟨hk.1,hk.2.1,by omega⟩,fun b' hb'=>⟨(h.r b' hb').1,(h.r b' hb').2.1,by have:=(h.r b' hb').2.2;omega⟩,h.d⟩
 by_cases e:b'=b
 ·subst e
  rw[h1,jov n t _ _ ht]
  congr 3
  refine List.map_congr_left fun a _=>?_
  by_cases e2:a=t <;> simp[e2]
 ·have hne:(rows[b']).1≠(rows[b]).1:=fun e'=>e (h.d b' b hb' hb (by have:=h.r b' hb';omega))
  rw[h2 _ (h.offR hb') hne,h.c b' hb']
  simp[e]
theorem Mtx.row {ob:ZO}{lo hi kP uP n:Nat}{rows:List (Nat × Nat)}(h:Mtx ob lo hi kP uP n rows fun _ _=>false) (hn:rows.length<n) {ob':ZO}{u hi':Nat}(h0:hi≤u) (hu:u<hi')
 (hP:ob' kP=some ⟨uP,.cells (j7 (rows.map (j4q n)++List.replicate (n - rows.length) (.sl none true 0 [])) rows.length [j4q n (2*u+1,u)])⟩) (h1:ob' (2*u+1)=some ⟨u,.cells (jat n [.bool false])⟩) (h2:∀key,Off hi key→key≠kP→ob' key=ob key) :
 Mtx ob' lo hi' kP uP n (rows++[(2*u+1,u)]) fun _ _=>false:=by
 have hk:=h.k
 refine⟨?_,fun b hb=>?_,⟨hk.1,hk.2.1,by omega⟩,fun b hb=>?_,fun b b' hb hb' e=>?_⟩
 ·rw[hP]
  congr 3
  unfold j7
  rw[List.take_left' (by simp),List.drop_append,show n - rows.length=n - (rows++[(2*u+1,u)]).length+1 by simp;omega,List.replicate_succ]
  simp
 ·rcases Nat.lt_or_ge b rows.length with hlt|hge
  ·rw[List.getElem_append_left hlt]
   have:=h.r b hlt
   rw[h2 _ (h.offR hlt) (by omega),h.c b hlt]
  ·have:b=rows.length:=by simp at hb;omega
   subst this
   rw[List.getElem_concat_length rfl]
   simp only
   rw[h1,jbm]
   congr 3
   refine List.ext_getElem (by simp) fun i _ _=>by simp
 ·rcases Nat.lt_or_ge b rows.length with hlt|hge
  ·rw[List.getElem_append_left hlt]
   have:=h.r b hlt
   omega
  ·have:b=rows.length:=by simp at hb;omega
   subst this
   rw[List.getElem_concat_length rfl]
   simp only
   exact⟨trivial,by omega,hu⟩
 ·rcases Nat.lt_or_ge b rows.length with hlt|hge
  ·rcases Nat.lt_or_ge b' rows.length with hlt'|hge'
   ·rw[List.getElem_append_left hlt,List.getElem_append_left hlt']at e
    exact h.d b b' hlt hlt' e
   ·have:b'=rows.length:=by simp at hb';omega
    subst this
    rw[List.getElem_append_left hlt,List.getElem_concat_length rfl]at e
    have:=h.r b hlt
    simp only at e
    omega
  ·have hbe:b=rows.length:=by simp at hb;omega
   subst hbe
   rcases Nat.lt_or_ge b' rows.length with hlt'|hge'
   ·rw[List.getElem_append_left hlt',List.getElem_concat_length rfl]at e
    have:=h.r b' hlt'
    simp only at e
    omega
   ·simp at hb';omega
/-! What goes before,by loops. -/
def sB (g:Hist') (a b:Nat):Bool:=JF g a && (JF g b && (decide (a<b) && sesAt g a == sesAt g b))
def jC (g:Hist') (lvl:Int) (M:List Int) (N:JN) (v:V):List V:=[.int .i64 lvl,jH g.sn JK g.ss,jH g.kn JK g.ks,jH g.tn ji g.ts,.sl N.tr N.nr (readH g).length ((readH g).flatMap jI),jH N.nm intC M,.map N.kA N.uA,v]
structure CI (g:Hist') (lvl:Int) (M:List Int) (N:JN) (ob0:ZO) (ub kP uP:Nat) (rows:List (Nat × Nat)) (f:Nat→Nat→Bool) (ob:ZO) (nx:Nat):Prop where
 m:Mtx ob ub nx kP uP g.ts.length rows f
 j:ob N.kJ=some ⟨N.uJ,.cells (jC g lvl M N (.osl kP uP 0 g.ts.length 1))⟩
 w:∀key,Off ub key→key≠N.kJ→ob key=ob0 key
 fj:Off ub N.kJ
section
variable {g:Hist'}{lvl:Int}{M:List Int}{N:JN}{ob0:ZO}{ub kP uP:Nat}{rows:List (Nat × Nat)}{f:Nat→Nat→Bool}{ob ob':ZO}{nx nx':Nat}
theorem CI.le (h:CI g lvl M N ob0 ub kP uP rows f ob nx):ub<nx:=by
 have:=h.m.k
 omega
theorem CI.keep (h:CI g lvl M N ob0 ub kP uP rows f ob nx) (hu:nx≤nx') (hW:Was nx ob ob'):CI g lvl M N ob0 ub kP uP rows f ob' nx' :=
 have hl:=h.le
 ⟨h.m.keep hu hW,(hW _ (h.fj.up (by omega))).trans h.j,fun key hk hne=>(hW _ (hk.up (by omega))).trans (h.w key hk hne),h.fj⟩
theorem CI.congr {f':Nat→Nat→Bool}(h:CI g lvl M N ob0 ub kP uP rows f ob nx) (e:∀b a,b<rows.length→a<g.ts.length→f b a=f' b a):CI g lvl M N ob0 ub kP uP rows f' ob nx :=
 ⟨h.m.congr e,h.j,h.w,h.fj⟩
theorem CI.set (h:CI g lvl M N ob0 ub kP uP rows f ob nx) {b t:Nat}{x:Bool}(hb:b<rows.length) (ht:t<g.ts.length) (hu:nx≤nx')
 (h1:ob' (rows[b]).1=some ⟨(rows[b]).2,.cells (j7 ((List.range g.ts.length).map fun t=>V.bool (f b t)) t [.bool x])⟩) (h2:∀key,Off nx key→key≠(rows[b]).1→ob' key=ob key):CI g lvl M N ob0 ub kP uP rows (fun b' a=>if b'=b∧a=t then x else f b' a) ob' nx':=by
 have hl:=h.le
 have hk:=h.m.k
 have hr:=h.m.r b hb
 have hne:∀key,Off ub key→key≠(rows[b]).1:=fun key hk e=>hk (rows[b]).2 (by omega) (by omega)
 exact⟨h.m.set hb ht hu h1 h2,(h2 _ (h.fj.up (by omega)) (hne _ h.fj)).trans h.j,fun key hk hn=>(h2 _ (hk.up (by omega)) (hne _ hk)).trans (h.w key hk hn),h.fj⟩
theorem CI.row (h:CI g lvl M N ob0 ub kP uP rows (fun _ _=>false) ob nx) (hn:rows.length<g.ts.length) {u:Nat}(h0:nx≤u) (hu:u<nx')
 (hP:ob' kP=some ⟨uP,.cells (j7 (rows.map (j4q g.ts.length)++List.replicate (g.ts.length - rows.length) (.sl none true 0 [])) rows.length [j4q g.ts.length (2*u+1,u)])⟩) (h1:ob' (2*u+1)=some ⟨u,.cells (jat g.ts.length [.bool false])⟩) (h2:∀key,Off nx key→key≠kP→ob' key=ob key) :
 CI g lvl M N ob0 ub kP uP (rows++[(2*u+1,u)]) (fun _ _=>false) ob' nx':=by
 have hl:=h.le
 have hk:=h.m.k
 have hne:∀key,Off ub key→key≠kP:=fun key hk' e=>hk' uP (by omega) (by omega)
 exact⟨h.m.row hn h0 hu hP h1 h2,(h2 _ (h.fj.up (by omega)) (hne _ h.fj)).trans h.j,fun key hk' hn'=>(h2 _ (hk'.up (by omega)) (hne _ hk')).trans (h.w key hk' hn'),h.fj⟩
end
@[simp] theorem eqVV_sl (ob:ZO) (neg nl:Bool) (t t':Option (Nat × Nat)) (n:Nat) (cs:List V):jvg ob neg .sl (.sl t nl n cs) (.sl t' true 0 [])=some (.bool (xor neg nl)):=rfl
end Go.Pv.T
namespace Go.Pv.T
open Go Go.Pv
end Go.Pv.T
namespace Go.Pv.T
open Go Go.Pv
theorem jht {st:St}{ub:Nat}{K:List FP→St→Prop}{d:Option Nat}{nm:Bool}{r:List AOpr}(h:YT E r K (eval E st.tm) .mkMap st d ub { v:=.map (jL d nm st.fb ub) ub,obs:=[(jL d nm st.fb ub,⟨ub,.mp 0 []⟩)] }):jG E (⟨d,.mkMap,none,nm⟩::r) st ub K:=by
 rw[J8 rfl]
 simp only[aop,Jh,jN,X9]
 exact h
end Go.Pv.T
namespace Go.Pv.T
open Go Go.Pv
end Go.Pv.T
namespace Go.Pv.T
open Go Go.Pv
end Go.Pv.T
namespace Go.Pv.T
open Go Go.Pv
section
variable {E:Env}{st:St}{ub:Nat}{K:List FP→St→Prop}{d:Option Nat}{nm:Bool}{r:List AOpr}
end
theorem jv9 {α:Type}{f:α→List V}{k:Nat}(hf:∀a,(f a).length=k) (nl:Bool) (l:List α) (n:Nat) (kk:IntKind):Wu k none (some (.int kk ((min l.length n:Nat):Int))) (jH nl f l)=some (.sl none nl (min l.length n) ((l.take n).flatMap f)):=by
 have h1:=jrl (kk:=kk) (t:=none) (nl:=nl) (sz:=k) (cs:=l.flatMap f) (n:=l.length) (k:=min l.length n) (Nat.min_le_left _ _) (j8 hf _)
 refine Eq.trans h1 ?_
 rw[jdn hf]
 congr 2
 rcases Nat.le_total l.length n with h|h
 ·rw[Nat.min_eq_left h,List.take_length,List.take_of_length_le h]
 ·rw[Nat.min_eq_right h]
theorem jox {st:St}{k:Nat}{v:V}(h:v.pureLeaf=true):JU st (k+1) v=some v:=by
 cases v with
 | sl t nl n cs=>cases t with
  | none=>rfl
  | some t=>cases h
 | osl l u a n s=>cases h
 | _=>simp[JU,h]
theorem jdq {st:St}{k:Nat}:∀ {l:List V},l.all V.pureLeaf=true→l.mapM (JU st (k+1))=some l
 | [],_=>rfl
 | v::l,h=>by
  rw[List.all_cons,Bool.and_eq_true]at h
  rw[List.mapM_cons,jox h.1,jdq h.2]
  rfl
theorem jxh (l:List Op'):(l.flatMap opC).all V.pureLeaf=true:=by
 rw[List.all_flatMap,List.all_eq_true]
 intro t _
 rfl
theorem jnr {f:V→Option V}:∀ {l m l' m':List V},l.mapM f=some l'→m.mapM f=some m'→(l++m).mapM f=some (l'++m')
 | [],m,l',m',h,h'=>by
  cases (show some []=some l' from h)
  exact h'
 | v::l,m,l',m',h,h'=>by
  rw[List.mapM_cons]at h
  rw[List.cons_append,List.mapM_cons]
  cases hv:f v with
  | none=>rw[hv]at h;cases h
  | some v'=>
   rw[hv]at h
   cases hl:l.mapM f with
   | none=>rw[hl]at h;cases h
   | some r=>
    rw[hl]at h
    cases (show some (v'::r)=some l' from h)
    rw[jnr hl h']
    rfl
def txU (p:Txn' × Nat):List V:=[.int .i64 p.1.s,.int .i64 p.1.f,.osl (2*p.2+1) p.2 0 p.1.ops.length 4]
@[simp] theorem WM (p:Txn' × Nat):(txU p).length=3:=rfl
structure InO (ob:ZO) (lo hi:Nat) (p:Txn' × Nat):Prop where
 nl:p.1.nl=false
 lo:lo≤p.2
 hi:p.2<hi
 ob:∃X,ob (2*p.2+1)=some ⟨p.2,.cells X⟩∧p.1.ops.length*4≤X.length∧X.take (p.1.ops.length*4)=p.1.ops.flatMap opC
theorem InO.frame {ob ob':ZO}{lo hi hi':Nat}{p:Txn' × Nat}(h:InO ob lo hi p) (ho:ob' (2*p.2+1)=ob (2*p.2+1)) (hh:hi≤hi'):InO ob' lo hi' p :=
 ⟨h.nl,h.lo,by have:=h.hi;omega,by rw[ho];exact h.ob⟩
def TsO (ob:ZO) (lo hi:Nat) (P:List (Txn' × Nat)) (v:V):Prop :=
 (∀p∈P,InO ob lo hi p)∧((P=[]∧v=.sl none true 0 [])∨(P≠[]∧∃u,lo≤u∧u<hi∧(∀p∈P,p.2≠u)∧v=.osl (2*u+1) u 0 P.length 3∧ob (2*u+1)=some ⟨u,.cells (P.flatMap txU)⟩))
theorem TsO.frame {ob ob':ZO}{lo hi hi':Nat}{P:List (Txn' × Nat)}{v:V}(h:TsO ob lo hi P v) (ho:∀u,lo≤u→u<hi→ob' (2*u+1)=ob (2*u+1)) (hh:hi≤hi'):TsO ob' lo hi' P v:=by
 refine⟨fun p hp=>(h.1 p hp).frame (ho _ (h.1 p hp).lo (h.1 p hp).hi) hh,?_⟩
 rcases h.2 with h2|⟨hne,u,h1,h2,h3,h4,h5⟩
 ·exact .inl h2
 ·exact .inr ⟨hne,u,h1,by omega,h3,h4,by rw[ho u h1 h2];exact h5⟩
theorem jv8 {st:St}{lo hi:Nat}{p:Txn' × Nat}(h:InO st.ob lo hi p) (hr:st.ro≤lo):JU st 5 (.osl (2*p.2+1) p.2 0 p.1.ops.length 4)=some (jH p.1.nl opC p.1.ops):=by
 obtain⟨X,h1,h2,h3⟩:=h.ob
 have hlo:=h.lo
 have hoc:j1 st.ob (2*p.2+1) p.2=some X:=by simp[j1,h1]
 show((j1 st.ob (2*p.2+1) p.2).bind fun cs=>if Nat.ble st.ro p.2=true∧0+p.1.ops.length*4≤cs.length then (((cs.drop 0).take (p.1.ops.length*4)).mapM (JU st 4)).map fun cs'=>V.sl none false p.1.ops.length cs' else none)=_
 rw[hoc,Option.bind_some,if_pos ⟨Nat.ble_eq▸(by omega),by omega⟩,List.drop_zero,h3,jdq (jxh _),h.nl]
 rfl
theorem jip {st:St}{lo hi:Nat}(hr:st.ro≤lo):∀ {P:List (Txn' × Nat)},(∀p∈P,InO st.ob lo hi p)→(P.flatMap txU).mapM (JU st 5)=some ((P.map (·.1)).flatMap ji)
 | [],_=>rfl
 | p::P,h=>by
  rw[List.flatMap_cons,List.map_cons,List.flatMap_cons]
  refine jnr ?_ (jip hr fun q hq=>h q (List.mem_cons_of_mem _ hq))
  have:=jv8 (h p (List.mem_cons_self ..)) hr
  show[V.int .i64 p.1.s,.int .i64 p.1.f,.osl (2*p.2+1) p.2 0 p.1.ops.length 4].mapM (JU st 5)=_
  rw[List.mapM_cons,List.mapM_cons,List.mapM_cons,this]
  rfl
theorem TsO.out {st:St}{lo hi:Nat}{P:List (Txn' × Nat)}{v:V}(h:TsO st.ob lo hi P v) (hr:st.ro≤lo):jfe st v P.isEmpty P.length ((P.map (·.1)).flatMap ji):=by
 rcases h.2 with⟨rfl,rfl⟩|⟨hne,u,h1,h2,h3,rfl,h5⟩
 ·exact jc0 _ none true 0 []
 ·intro keep i
  have hoc:j1 st.ob (2*u+1) u=some (P.flatMap txU):=by simp[j1,h5]
  have hs:JU st 6 (.osl (2*u+1) u 0 P.length 3)=some (.sl none false P.length ((P.map (·.1)).flatMap ji)):=by
   show((j1 st.ob (2*u+1) u).bind fun cs=>if Nat.ble st.ro u=true∧0+P.length*3≤cs.length then (((cs.drop 0).take (P.length*3)).mapM (JU st 5)).map fun cs'=>V.sl none false P.length cs' else none)=_
   rw[hoc,Option.bind_some,if_pos ⟨Nat.ble_eq▸(by omega),by rw[j8 WM];omega⟩,List.drop_zero,← j8 WM P,List.take_length,jip hr h.1]
   rfl
  have he:P.isEmpty=false:=by cases P <;> simp_all
  rw[he]
  refine⟨_,by simp only[jm,hs,Option.bind_some,hoc,Option.map_some];rfl,?_⟩
  split
  ·exact .inr ⟨_,rfl⟩
  ·exact .inl rfl
section
variable {Yf:YF}{st:St}{ub:Nat}{K:St→Nat→Prop}{d:Nat}
theorem jxt {α:Type}{f:α→List V}{l:List α}{z sz bytes:Nat}{s x:A}(hs:eval E st.tm s=.osl (2*z+1) z 0 0 sz) (ho:st.ob (2*z+1)=some ⟨z,.cells []⟩) (hro:st.ro≤z)
 (hx:jM st.ob sz (eval E st.tm x)=some (l.flatMap f)) (hf:∀a,(f a).length=sz) (h0:0<sz) (hp:(l.flatMap f).all V.leaf=true) (hb:l.length*bytes≤140737488355328) (hb2:l.length≤140737488355328)
 (h:∀ (s1:St) (u:Nat),(u=z∨u=ub)→s1.ob (2*u+1)=some ⟨u,.cells (l.flatMap f)⟩→(∀key,key≠2*z+1→key≠2*ub+1→s1.ob key=st.ob key)→(∀t,s1.tm t=if t=d then .osl (2*u+1) u 0 l.length sz else st.tm t)→s1.df=st.df→s1.ro=st.ro→s1.fb=st.fb→s1.tk=st.tk→K s1 (ub+64)) :
 j9 E Yf ⟨some d,.append true sz bytes s x,none,true⟩ st ub K:=by
 cases l with
 | nil=>
  rw[jS _ rfl rfl]
  simp only[aop,hs,hx,Option.bind_some,List.flatMap_nil,if_true]
  have hoc:j1 st.ob (2*z+1) z=some []:=by simp[j1,ho]
  rw[hoc,Option.bind_some,Yi]
  show jad K st (some d) ub _
  rw[ja4]
  exact h _ z (.inl rfl) (by simpa using ho) (fun key _ _=>by simp) (fun t=>by rw[jkc];rfl) rfl rfl rfl (by simp)
 | cons a l=>
  have h1:((a::l).flatMap f).length / sz=(a::l).length:=by rw[j8 hf];exact Nat.mul_div_cancel _ h0
  have hne:(a::l).flatMap f≠[]:=fun e=>by have:=congrArg List.length e;rw[j8 hf]at this;have:=Nat.mul_pos (show 0<(a::l).length by simp) h0;simp_all
  refine QT (l:=2*z+1) (u:=z) (n:=0) (cs:=[]) (ys:=(a::l).flatMap f) hs hx ho hne hro (by simp) h0 hp (by rw[h1,Nat.zero_add];exact hb) (by rw[h1,Nat.zero_add];exact hb2) ?_
  rw[ja4,h1,Nat.zero_add]
  refine h _ ub (.inr rfl) ?_ (fun key k1 k2=>?_) (fun t=>by rw[jkc];rfl) rfl rfl rfl ?_
  ·simp[jL]
  ·simp[jL,k1,k2]
  ·rfl
theorem jlx {lo hi:Nat}{P:List (Txn' × Nat)}{p:Txn' × Nat}{s x:A}(hT:TsO st.ob lo hi P (eval E st.tm s)) (hle:hi≤ub) (hro:st.ro≤lo) (hx:jM st.ob 3 (eval E st.tm x)=some (txU p)) (hp:InO st.ob hi ub p) (hlh:lo≤hi) (hlen:P.length≤100000)
 (h:∀ (s1:St) (v':V),TsO s1.ob lo (ub+64) (P++[p]) v'→(∀key,(∀u,lo≤u→u<hi→key≠2*u+1)→key≠2*ub+1→s1.ob key=st.ob key)→(∀t,s1.tm t=if t=d then v' else st.tm t)→s1.df=st.df→s1.ro=st.ro→s1.fb=st.fb→s1.tk=st.tk→K s1 (ub+64)) :
 j9 E Yf ⟨some d,.append true 3 40 s x,none,true⟩ st ub K:=by
 have hpl:=hp.lo
 have hph:=hp.hi
 rcases hT.2 with⟨rfl,h0⟩|⟨hne,u,h1,h2,h3,h4,h5⟩
 ·refine Yp (n:=0) (cs:=[]) (ys:=txU p) h0 hx (by simp[txU]) (by decide) rfl (by simp) (by simp) ?_
  rw[ja4,show(txU p).length / 3=1 by rw[WM]]
  refine h _ (.osl (2*ub+1) ub 0 1 3) ⟨?_,.inr ⟨by simp,ub,by omega,by omega,?_,by simp,?_⟩⟩ (fun key k1 k2=>?_) (fun t=>by rw[jkc];rfl) rfl rfl rfl ?_
  ·intro q hq
   simp only[List.nil_append,List.mem_singleton]at hq
   subst hq
   refine⟨hp.nl,by omega,by omega,?_⟩
   have:¬ 2*q.2=2*ub:=by omega
   simpa[jL,Jz,this] using hp.ob
  ·intro q hq
   simp only[List.nil_append,List.mem_singleton]at hq
   subst hq
   omega
  ·simp[jL,Jz]
  ·simp[jL,Jz,k2]
  ·rfl
 ·refine QT (l:=2*u+1) (u:=u) (n:=P.length) (cs:=P.flatMap txU) (ys:=txU p) h4 hx h5 (by simp[txU]) (by omega) (by rw[j8 WM];omega) (by decide) rfl (by simp;omega) (by simp;omega) ?_
  rw[ja4,show(txU p).length / 3=1 by rw[WM]]
  refine h _ (.osl (2*ub+1) ub 0 (P.length+1) 3) ⟨?_,.inr ⟨by simp,ub,by omega,by omega,?_,by simp,?_⟩⟩ (fun key k1 k2=>?_) (fun t=>by rw[jkc];rfl) rfl rfl rfl ?_
  ·intro q hq
   rw[List.mem_append,List.mem_singleton]at hq
   rcases hq with hq|rfl
   ·have hi:=hT.1 q hq
    refine⟨hi.nl,hi.lo,by have:=hi.hi;omega,?_⟩
    have e1:¬ 2*q.2=2*ub:=by have:=hi.hi;omega
    have e2:¬ 2*q.2=2*u:=by have:=h3 q hq;omega
    simpa[jL,e1,e2] using hi.ob
   ·refine⟨hp.nl,by omega,by omega,?_⟩
    have e1:¬ 2*q.2=2*ub:=by omega
    have e2:¬ 2*q.2=2*u:=by omega
    simpa[jL,e1,e2] using hp.ob
  ·intro q hq
   rw[List.mem_append,List.mem_singleton]at hq
   rcases hq with hq|rfl
   ·have:=(hT.1 q hq).hi;omega
   ·omega
  ·simp[jL]
   exact List.take_of_length_le (by rw[j8 WM];omega)
  ·have e:=k1 u h1 h2
   simp[jL,e,k2]
  ·rfl
end
section
variable {E:Env}{st:St}{ub:Nat}{K:List FP→St→Prop}{d:Option Nat}{r:List AOpr}
theorem jac {sz n:Nat}{zero:List V}{parts:List (Nat × Nat × A)}{cs:List V}(hf:fill zero (jr (eval E st.tm) parts)=some cs) (hl:cs.length=n*sz) (hp:cs.all V.leaf=true)
 (h:YT E r K (eval E st.tm) (.buildSl true sz zero parts n) st d ub { v:=.osl (2*ub+1) ub 0 n sz,obs:=[(2*ub+1,⟨ub,.cells cs⟩)] }):jG E (⟨d,.buildSl true sz zero parts n,none,true⟩::r) st ub K:=by
 rw[J8 rfl]
 simp only[aop,hf,Option.bind_some,if_true]
 rw[if_pos ⟨hl,hp⟩,Jh,jN]
 exact h
end
theorem jep {α β:Type}{l:List α}{m:List β}(h:l.length=m.length):l.isEmpty=m.isEmpty:=by
 cases l <;> cases m <;> simp_all
def StO (ob:ZO) (lo hi:Nat) (l:List (List UInt8)) (v:V):Prop :=
 (l=[]∧v=.sl none true 0 [])∨(l≠[]∧∃u,lo≤u∧u<hi∧v=.osl (2*u+1) u 0 l.length 1∧ob (2*u+1)=some ⟨u,.cells (l.flatMap JK)⟩)
theorem StO.frame {ob ob':ZO}{lo hi lo' hi':Nat}{l:List (List UInt8)}{v:V}(h:StO ob lo hi l v) (ho:∀u,lo≤u→u<hi→ob' (2*u+1)=ob (2*u+1)) (hl:lo'≤lo) (hh:hi≤hi'):StO ob' lo' hi' l v:=by
 rcases h with h|⟨hne,u,h1,h2,h3,h4⟩
 ·exact .inl h
 ·exact .inr ⟨hne,u,by omega,by omega,h3,by rw[ho u h1 h2];exact h4⟩
theorem StO.leaf {ob:ZO}{lo hi:Nat}{l:List (List UInt8)}{v:V}(h:StO ob lo hi l v):v.leaf=true∧v.cells=[v]:=by
 rcases h with⟨_,rfl⟩|⟨_,u,_,_,rfl,_⟩ <;> exact⟨rfl,rfl⟩
theorem TsO.leaf {ob:ZO}{lo hi:Nat}{P:List (Txn' × Nat)}{v:V}(h:TsO ob lo hi P v):v.leaf=true∧v.cells=[v]:=by
 rcases h.2 with⟨_,rfl⟩|⟨_,u,_,_,_,rfl,_⟩ <;> exact⟨rfl,rfl⟩
theorem StO.out {st:St}{lo hi:Nat}{l:List (List UInt8)}{v:V}(h:StO st.ob lo hi l v) (hr:st.ro≤lo):jfe st v l.isEmpty l.length (l.flatMap JK):=by
 rcases h with⟨rfl,rfl⟩|⟨hne,u,h1,h2,rfl,h4⟩
 ·exact jc0 _ none true 0 []
 ·have he:l.isEmpty=false:=by cases l <;> simp_all
  rw[he]
  exact jiq h4 (by rw[j8 Y7,Nat.mul_one]) (by omega) (by rw[List.all_flatMap,List.all_eq_true];intro _ _;rfl)
theorem jw (st:St) (d:Option Nat) (v:V) (l k:Nat) (o':Obj') (ks:List Nat):(st.app d { v:=v,obs:=[(l,o')],kill:=ks }).ob k=if k=l then some o' else if ks.any (Nat.beq k) then none else st.ob k:=by
 simp[St.app,JO,j5]
theorem jeo {E:Env}{st:St}{ub:Nat}{K:List FP→St→Prop}{d:Option Nat}{r:List AOpr}{lo hi:Nat}{l:List (List UInt8)}{c:List UInt8}{s x:A}(hS:StO st.ob lo hi l (eval E st.tm s)) (hx:jM st.ob 1 (eval E st.tm x)=some (JK c)) (hro:st.ro≤lo) (hlen:l.length≤1000)
 (h:∀ks:List Nat,(∀k∈ks,∃u,lo≤u∧u<hi∧k=2*u+1)→YT E r K (eval E st.tm) (.append true 1 16 s x) st d ub { v:=.osl (2*ub+1) ub 0 (l.length+1) 1,obs:=[(2*ub+1,⟨ub,.cells ((l++[c]).flatMap JK)⟩)],kill:=ks }) :
 jG E (⟨d,.append true 1 16 s x,none,true⟩::r) st ub K:=by
 rw[J8 rfl]
 rcases hS with⟨rfl,h0⟩|⟨hne,u,h1,h2,h3,h4⟩
 ·simp only[aop,h0,hx,Option.bind_some]
  rw[if_neg (by simp[JK]),if_pos (show(true && true)=true from rfl),if_pos ⟨by decide,rfl,by simp[JK],by simp[JK]⟩,Jh,jN]
  have:=h [] (fun k hk=>by cases hk)
  have e:([]++[c]).flatMap JK=JK c:=by simp
  rw[e]at this
  have e2:(JK c).length / 1=1:=by simp[JK]
  rw[e2]
  exact this
 ·have hoc:j1 st.ob (2*u+1) u=some (l.flatMap JK):=by simp[j1,h4]
  simp only[aop,h3,hx,Option.bind_some,hoc]
  have hll:(l.flatMap JK).length=l.length:=by rw[j8 Y7,Nat.mul_one]
  rw[if_neg (by simp[JK]),if_pos ⟨Nat.ble_eq▸(by omega),trivial,trivial,by rw[hll];omega,by decide,rfl,by simp[JK];omega,by simp[JK];omega⟩,jN]
  have:=h [2*u+1] (fun k hk=>by simp only[List.mem_singleton]at hk;exact⟨u,h1,h2,hk⟩)
  have e:(l++[c]).flatMap JK=(l.flatMap JK).take (l.length*1)++JK c:=by
   rw[List.take_of_length_le (by rw[hll];omega),List.flatMap_append]
   simp
  rw[e]at this
  have e2:(JK c).length / 1=1:=by simp[JK]
  rw[e2]
  exact this
theorem j0f {ks:List Nat}{key:Nat}(h:∀k∈ks,key≠k):ks.any (Nat.beq key)=false:=by
 rw[List.any_eq_false]
 intro k hk he
 exact h k hk (Nat.eq_of_beq_eq_true he)
def jfq:C:=tlC (tlC S51.body)
def jfp:C:=tlC jfq
def jhx:C:=tlC jfp
def jym:C:=tlC jhx
structure FewO (h:Hist') (ob0:ZO) (ub ro:Nat) (s:St) (a b N1 N2:Nat) (Sv Kv Tv:V) (P:List (Txn' × Nat)):Prop where
 t1:s.tm 1=.ptr (2*ub+1) ub 0
 t2:s.tm 2=.ptr (2*(ub+64)+1) (ub+64) 0
 t3:s.tm 3=.ptr (2*(ub+192)+1) (ub+192) 0
 d:s.df=[]
 ro:s.ro=ro
 o1:s.ob (2*ub+1)=some ⟨ub,.cells (j2 h)⟩
 o2:s.ob (2*(ub+64)+1)=some ⟨ub+64,.cells [.sl none true 0 [],.sl none true 0 [],.sl none true 0 []]⟩
 o3:s.ob (2*(ub+192)+1)=some ⟨ub+192,.cells [Sv,Kv,Tv]⟩
 gS:StO s.ob (ub+256) N1 (Yu a h.ss) Sv
 gK:StO s.ob N1 N2 (Yu b h.ks) Kv
 gT:TsO s.ob N2 s.nx P Tv
 n0:ub+256≤N1
 n1:N1≤N2
 n2:N2≤s.nx
 fr:∀key,(∀m,ub≤m→key≠2*m+1)→s.ob key=ob0 key
theorem few0S {h:Hist'}{Yf:YF}{ob:ZO}{tk:Nat→Bool}{ro base ub:Nat}{Q:Ex→St→Prop}(hro:ro≤ub) (hrest:∀s,FewO h ob ub ro s 0 0 s.nx s.nx (.sl none true 0 []) (.sl none true 0 []) (.sl none true 0 []) []→wpC E Yf jfq s Q) :
 wpC E Yf S51.body (X7 [.agg (j2 h)] ob tk ro base ub) Q:=by
 have e:S51.body=.seq (hdC S51.body) (.seq (hdC (tlC S51.body)) jfq):=rfl
 rw[e]
 simp[hdC,tlC,S51,j2,j1,j7]
 have a1:¬ 2*ub=2*(ub+64):=by omega
 have a2:¬ 2*ub=2*(ub+64+64+64):=by omega
 have a3:¬ 2*(ub+64)=2*(ub+64+64+64):=by omega
 refine⟨by omega,hrest _ ⟨by simp,by simp,by simp,by simp,by simp,by simp[j2,a1,a2],by simp[a3],by simp,.inl ⟨rfl,rfl⟩,.inl ⟨rfl,rfl⟩,⟨by simp,.inl ⟨rfl,rfl⟩⟩,by simp,Nat.le_refl _,Nat.le_refl _,fun key hk=>?_⟩⟩
 have e1:=hk ub (Nat.le_refl _)
 have e2:=hk (ub+64) (by omega)
 have e3:=hk (ub+64+64+64) (by omega)
 simp[e1,e2,e3]
theorem jyp:jfq=.seq (hdC jfq) jfp:=rfl
theorem few1O {h:Hist'}{Yf:YF}{ob0:ZO}{ub ro:Nat}{s0:St}{Q:Ex→St→Prop}(hru:ro≤ub) (hs:FewO h ob0 ub ro s0 0 0 s0.nx s0.nx (.sl none true 0 []) (.sl none true 0 []) (.sl none true 0 []) [])
 (hrest:∀s Sv,FewO h ob0 ub ro s 25 0 s.nx s.nx Sv (.sl none true 0 []) (.sl none true 0 []) []→wpC E Yf jfp s Q):wpC E Yf jfq s0 Q:=by
 rw[jyp]
 obtain⟨f1,f2,f3,fd,fr,o1,o2,o3,gS,gK,gT,n0,n1,n2,ff⟩:=hs
 simp[hdC,jfq,tlC,S51]
 refine jF [(4,4),(9,37)] 25 (fun i s=>s.tm 4=.int .i64 i∧i≤h.ss.length∧∃Sv,FewO h ob0 ub ro s i 0 s.nx s.nx Sv (.sl none true 0 []) (.sl none true 0 []) []) rfl rfl ?_ ?_
 ·refine⟨by simp,by simp,.sl none true 0 [],⟨by simp[f1],by simp[f2],by simp[f3],by simp[fd],by simp[fr],by simp[o1],by simp[o2],by simp[o3],.inl ⟨rfl,rfl⟩,.inl ⟨rfl,rfl⟩,⟨by simp,.inl ⟨rfl,rfl⟩⟩,by simp;omega,Nat.le_refl _,Nat.le_refl _,fun key hk=>by simp[ff key hk]⟩⟩
 rintro i s hi ⟨h4,hle,Sv,f1,f2,f3,fd,fr,o1,o2,o3,gS,gK,gT,n0,n1,n2,ff⟩ f
 clear f
 have hend:¬ (i<h.ss.length∧i<25)→∀s':St,(s'.tm 1=s.tm 1∧s'.tm 2=s.tm 2∧s'.tm 3=s.tm 3)→s'.df=s.df→s'.ro=s.ro→s'.ob=s.ob→s.nx≤s'.nx→wpC E Yf jfp s' Q:=by
  intro hx s' ⟨q1,q2,q3⟩ e2 e3 e4 e5
  refine hrest s' Sv ⟨q1.trans f1,q2.trans f2,q3.trans f3,by rw[e2];exact fd,by rw[e3];exact fr,by rw[e4];exact o1,by rw[e4];exact o2,by rw[e4];exact o3,?_,.inl ⟨rfl,rfl⟩,⟨by simp,.inl ⟨rfl,rfl⟩⟩,by omega,Nat.le_refl _,Nat.le_refl _,fun key hk=>by rw[e4];exact ff key hk⟩
  rw[← jn9 hle hi hx,e4]
  exact gS.frame (fun _ _ _=>rfl) (Nat.le_refl _) e5
 have o1':s.ob (2*ub+1)=some ⟨ub,.cells [jH h.sn JK h.ss,jH h.kn JK h.ks,jH h.tn ji h.ts]⟩:=o1
 by_cases hlt:i<h.ss.length
 ·by_cases hl5:i<25
  ·have hw:=jv hl5 (by omega)
   have hl5':(i:Int)<25:=by omega
   obtain⟨c,hc⟩:∃c,h.ss[i]=c:=⟨_,rfl⟩
   have hsi:=jfw h.ss hlt
   have hsn:=jj5 hlt hl5
   rw[hc]at hsi hsn
   have hmn:=jei c.length 100
   have hst:=jm3 (l:=c) (kk:=.i64) (Nat.min_le_left c.length 100)
   have htk:=jdm c
   rw[htk]at hst
   rw[show((100:Nat):Int)=100 from rfl]at hmn
   simp[hmn,hst,h4,f1,o1',j1,hlt,hl5',f3,o3,j6 Y7,hsi]
   refine jac (cs:=[.str (c.take 100)]) (by simp[j7]) rfl rfl ?_
   simp
   have e24:s.nx≤(s.nx+64+64+64+64+64+64+64+64+64+64+64+64+64+64+64+64+64+64+64+64+64+64+64+64):=by omega
   have e25:s.nx≤(s.nx+64+64+64+64+64+64+64+64+64+64+64+64+64+64+64+64+64+64+64+64+64+64+64+64+64):=by omega
   have e26:(s.nx+64+64+64+64+64+64+64+64+64+64+64+64+64+64+64+64+64+64+64+64+64+64+64+64)<(s.nx+64+64+64+64+64+64+64+64+64+64+64+64+64+64+64+64+64+64+64+64+64+64+64+64+64):=by omega
   have hll:=jn8 i h.ss
   refine jeo (lo:=ub+256) (hi:=s.nx) (l:=Yu i h.ss) (c:=c.take 100) ?_ (by simp[jM,j1];rfl) (by simp[fr];omega) (by omega) fun ks hks=>?_
   ·simp
    refine gS.frame (fun u h1 h2=>?_) (Nat.le_refl _) (Nat.le_refl _)
    have e1:¬ 2*u=2*(s.nx+64+64+64+64+64+64+64+64+64+64+64+64+64+64+64+64+64+64+64+64+64+64+64+64):=by omega
    simp[e1]
   rw[← hsn]
   have hlen:(Yu i h.ss).length+1=(Yu (i+1) h.ss).length:=by rw[hsn];simp
   rw[hlen]
   have hno:∀key,(∀u,ub+256≤u→u<s.nx→key≠2*u+1)→ks.any (Nat.beq key)=false:=fun key hk=>j0f fun k hkk=>by
    obtain⟨u,h1,h2,h3⟩:=hks k hkk
    rw[h3];exact hk u h1 h2
   have hn1:=hno (2*ub+1) (fun u _ _=>by omega)
   have hn2:=hno (2*(ub+64)+1) (fun u _ _=>by omega)
   have hn3:=hno (2*(ub+192)+1) (fun u _ _=>by omega)
   have w1:¬ 2*ub=2*(s.nx+64+64+64+64+64+64+64+64+64+64+64+64+64+64+64+64+64+64+64+64+64+64+64+64+64):=by omega
   have w2:¬ 2*(ub+64)=2*(s.nx+64+64+64+64+64+64+64+64+64+64+64+64+64+64+64+64+64+64+64+64+64+64+64+64+64):=by omega
   have w3:¬ 2*(ub+192)=2*(s.nx+64+64+64+64+64+64+64+64+64+64+64+64+64+64+64+64+64+64+64+64+64+64+64+64+64):=by omega
   have w4:¬ 2*ub=2*(s.nx+64+64+64+64+64+64+64+64+64+64+64+64+64+64+64+64+64+64+64+64+64+64+64+64):=by omega
   have w5:¬ 2*(ub+64)=2*(s.nx+64+64+64+64+64+64+64+64+64+64+64+64+64+64+64+64+64+64+64+64+64+64+64+64):=by omega
   have w6:¬ 2*(ub+192)=2*(s.nx+64+64+64+64+64+64+64+64+64+64+64+64+64+64+64+64+64+64+64+64+64+64+64+64):=by omega
   have w7:¬ 2*(s.nx+64+64+64+64+64+64+64+64+64+64+64+64+64+64+64+64+64+64+64+64+64+64+64+64+64)=2*(ub+192):=by omega
   have w8:¬ 2*ub=2*(ub+192):=by omega
   have w9:¬ 2*(ub+64)=2*(ub+192):=by omega
   simp[f3,j1,jw,hn3,w3,w6,o3,fr,j7,h4,hw]
   refine⟨by omega,?_,?_⟩
   ·simp[XP,jae,je2,jb4,rdOb,rdTk,lOf,Delta.wo,Delta.wt]
    exact nbeq (by omega)
   have hne:Yu (i+1) h.ss≠[]:=by rw[hsn];simp
   refine⟨hl5,by omega,.osl (2*(s.nx+64+64+64+64+64+64+64+64+64+64+64+64+64+64+64+64+64+64+64+64+64+64+64+64+64)+1) (s.nx+64+64+64+64+64+64+64+64+64+64+64+64+64+64+64+64+64+64+64+64+64+64+64+64+64) 0 (Yu (i+1) h.ss).length 1,⟨by simp[f1],by simp[f2],by simp[f3],by simp[fd],by simp[fr],by simp[jw,hn1,w1,w4,w8,o1],by simp[jw,hn2,w2,w5,w9,o2],by simp,
    .inr ⟨hne,(s.nx+64+64+64+64+64+64+64+64+64+64+64+64+64+64+64+64+64+64+64+64+64+64+64+64+64),by omega,by simp,rfl,by simp[jw,w7]⟩,.inl ⟨rfl,rfl⟩,⟨by simp,.inl ⟨rfl,rfl⟩⟩,by simp;omega,Nat.le_refl _,Nat.le_refl _,fun key hk=>?_⟩⟩
   have k1:=hk (ub+192) (by omega)
   have k2:=hk (s.nx+64+64+64+64+64+64+64+64+64+64+64+64+64+64+64+64+64+64+64+64+64+64+64+64+64) (by omega)
   have k3:=hk (s.nx+64+64+64+64+64+64+64+64+64+64+64+64+64+64+64+64+64+64+64+64+64+64+64+64) (by omega)
   have k4:=hno key (fun u h1 h2=>hk u (by omega))
   simp[jw,k1,k2,k3,k4]
   exact ff key hk
  ·have hl5':¬ (i:Int)<25:=by omega
   simp[h4,f1,o1',j1,hlt,hl5']
   exact hend (by omega) _ ⟨by simp,by simp,by simp⟩ (by simp) (by simp) (by funext k;simp) (by simp;omega)
 ·simp[h4,f1,o1',j1,hlt]
  exact hend (by omega) _ ⟨by simp,by simp,by simp⟩ (by simp) (by simp) (by funext k;simp) (by simp;omega)
theorem jyo:jfp=.seq (hdC jfp) jhx:=rfl
theorem few2O {h:Hist'}{Yf:YF}{ob0:ZO}{ub ro:Nat}{s0:St}{Q:Ex→St→Prop}{N1:Nat}{S0:V}(hru:ro≤ub) (hs:FewO h ob0 ub ro s0 25 0 N1 s0.nx S0 (.sl none true 0 []) (.sl none true 0 []) [])
 (hrest:∀s Kv,FewO h ob0 ub ro s 25 45 N1 s.nx S0 Kv (.sl none true 0 []) []→wpC E Yf jhx s Q):wpC E Yf jfp s0 Q:=by
 rw[jyo]
 obtain⟨f1,f2,f3,fd,fr,o1,o2,o3,gS,gK,gT,n0,n1,n2,ff⟩:=hs
 simp[hdC,jfp,jfq,tlC,S51]
 refine jF [(5,5),(38,66)] 45 (fun i s=>s.tm 5=.int .i64 i∧i≤h.ks.length∧∃Kv,FewO h ob0 ub ro s 25 i N1 s.nx S0 Kv (.sl none true 0 []) []) rfl rfl ?_ ?_
 ·refine⟨by simp,by simp,.sl none true 0 [],⟨by simp[f1],by simp[f2],by simp[f3],by simp[fd],by simp[fr],by simp[o1],by simp[o2],by simp[o3],gS.frame (fun _ _ _=>by simp) (Nat.le_refl _) (Nat.le_refl _),.inl ⟨rfl,rfl⟩,⟨by simp,.inl ⟨rfl,rfl⟩⟩,n0,by simp;omega,Nat.le_refl _,fun key hk=>by simp[ff key hk]⟩⟩
 rintro i s hi ⟨h4,hle,Kv,f1,f2,f3,fd,fr,o1,o2,o3,gS,gK,gT,n0,n1,n2,ff⟩ f
 clear f
 have hend:¬ (i<h.ks.length∧i<45)→∀s':St,(s'.tm 1=s.tm 1∧s'.tm 2=s.tm 2∧s'.tm 3=s.tm 3)→s'.df=s.df→s'.ro=s.ro→s'.ob=s.ob→s.nx≤s'.nx→wpC E Yf jhx s' Q:=by
  intro hx s' ⟨q1,q2,q3⟩ e2 e3 e4 e5
  refine hrest s' Kv ⟨q1.trans f1,q2.trans f2,q3.trans f3,by rw[e2];exact fd,by rw[e3];exact fr,by rw[e4];exact o1,by rw[e4];exact o2,by rw[e4];exact o3,by rw[e4];exact gS,?_,⟨by simp,.inl ⟨rfl,rfl⟩⟩,n0,by omega,Nat.le_refl _,fun key hk=>by rw[e4];exact ff key hk⟩
  rw[← jn9 hle hi hx,e4]
  exact gK.frame (fun _ _ _=>rfl) (Nat.le_refl _) e5
 have o1':s.ob (2*ub+1)=some ⟨ub,.cells [jH h.sn JK h.ss,jH h.kn JK h.ks,jH h.tn ji h.ts]⟩:=o1
 by_cases hlt:i<h.ks.length
 ·by_cases hl5:i<45
  ·have hw:=jv hl5 (by omega)
   have hl5':(i:Int)<45:=by omega
   obtain⟨c,hc⟩:∃c,h.ks[i]=c:=⟨_,rfl⟩
   have hsi:=jfw h.ks hlt
   have hsn:=jj5 hlt hl5
   rw[hc]at hsi hsn
   have hmn:=jei c.length 100
   have hst:=jm3 (l:=c) (kk:=.i64) (Nat.min_le_left c.length 100)
   have htk:=jdm c
   rw[htk]at hst
   rw[show((100:Nat):Int)=100 from rfl]at hmn
   simp[hmn,hst,h4,f1,o1',j1,hlt,hl5',f3,o3,j6 Y7,hsi]
   refine jac (cs:=[.str (c.take 100)]) (by simp[j7]) rfl rfl ?_
   simp
   have e24:s.nx≤(s.nx+64+64+64+64+64+64+64+64+64+64+64+64+64+64+64+64+64+64+64+64+64+64+64+64):=by omega
   have e25:s.nx≤(s.nx+64+64+64+64+64+64+64+64+64+64+64+64+64+64+64+64+64+64+64+64+64+64+64+64+64):=by omega
   have e26:(s.nx+64+64+64+64+64+64+64+64+64+64+64+64+64+64+64+64+64+64+64+64+64+64+64+64)<(s.nx+64+64+64+64+64+64+64+64+64+64+64+64+64+64+64+64+64+64+64+64+64+64+64+64+64):=by omega
   have hll:=jn8 i h.ks
   refine jeo (lo:=N1) (hi:=s.nx) (l:=Yu i h.ks) (c:=c.take 100) ?_ (by simp[jM,j1];rfl) (by simp[fr];omega) (by omega) fun ks hks=>?_
   ·simp
    refine gK.frame (fun u h1 h2=>?_) (Nat.le_refl _) (Nat.le_refl _)
    have e1:¬ 2*u=2*(s.nx+64+64+64+64+64+64+64+64+64+64+64+64+64+64+64+64+64+64+64+64+64+64+64+64):=by omega
    simp[e1]
   rw[← hsn]
   have hlen:(Yu i h.ks).length+1=(Yu (i+1) h.ks).length:=by rw[hsn];simp
   rw[hlen]
   have hno:∀key,(∀u,N1≤u→u<s.nx→key≠2*u+1)→ks.any (Nat.beq key)=false:=fun key hk=>j0f fun k hkk=>by
    obtain⟨u,h1,h2,h3⟩:=hks k hkk
    rw[h3];exact hk u h1 h2
   have hn1:=hno (2*ub+1) (fun u _ _=>by omega)
   have hn2:=hno (2*(ub+64)+1) (fun u _ _=>by omega)
   have hn3:=hno (2*(ub+192)+1) (fun u _ _=>by omega)
   have w1:¬ 2*ub=2*(s.nx+64+64+64+64+64+64+64+64+64+64+64+64+64+64+64+64+64+64+64+64+64+64+64+64+64):=by omega
   have w2:¬ 2*(ub+64)=2*(s.nx+64+64+64+64+64+64+64+64+64+64+64+64+64+64+64+64+64+64+64+64+64+64+64+64+64):=by omega
   have w3:¬ 2*(ub+192)=2*(s.nx+64+64+64+64+64+64+64+64+64+64+64+64+64+64+64+64+64+64+64+64+64+64+64+64+64):=by omega
   have w4:¬ 2*ub=2*(s.nx+64+64+64+64+64+64+64+64+64+64+64+64+64+64+64+64+64+64+64+64+64+64+64+64):=by omega
   have w5:¬ 2*(ub+64)=2*(s.nx+64+64+64+64+64+64+64+64+64+64+64+64+64+64+64+64+64+64+64+64+64+64+64+64):=by omega
   have w6:¬ 2*(ub+192)=2*(s.nx+64+64+64+64+64+64+64+64+64+64+64+64+64+64+64+64+64+64+64+64+64+64+64+64):=by omega
   have w7:¬ 2*(s.nx+64+64+64+64+64+64+64+64+64+64+64+64+64+64+64+64+64+64+64+64+64+64+64+64+64)=2*(ub+192):=by omega
   have w8:¬ 2*ub=2*(ub+192):=by omega
   have w9:¬ 2*(ub+64)=2*(ub+192):=by omega
   simp[f3,j1,jw,hn3,w3,w6,o3,fr,j7,h4,hw]
   refine⟨by omega,?_,?_⟩
   ·simp[XP,jae,je2,jb4,rdOb,rdTk,lOf,Delta.wo,Delta.wt]
    exact nbeq (by omega)
   have hne:Yu (i+1) h.ks≠[]:=by rw[hsn];simp
   refine⟨hl5,by omega,.osl (2*(s.nx+64+64+64+64+64+64+64+64+64+64+64+64+64+64+64+64+64+64+64+64+64+64+64+64+64)+1) (s.nx+64+64+64+64+64+64+64+64+64+64+64+64+64+64+64+64+64+64+64+64+64+64+64+64+64) 0 (Yu (i+1) h.ks).length 1,⟨by simp[f1],by simp[f2],by simp[f3],by simp[fd],by simp[fr],by simp[jw,hn1,w1,w4,w8,o1],by simp[jw,hn2,w2,w5,w9,o2],by simp,
    gS.frame (fun u h1 h2=>?_) (Nat.le_refl _) (Nat.le_refl _),.inr ⟨hne,(s.nx+64+64+64+64+64+64+64+64+64+64+64+64+64+64+64+64+64+64+64+64+64+64+64+64+64),by omega,by simp,rfl,by simp[jw,w7]⟩,⟨by simp,.inl ⟨rfl,rfl⟩⟩,n0,by first|omega|(simp;omega),Nat.le_refl _,fun key hk=>?_⟩⟩
   ·have k1:¬ 2*u=2*(ub+192):=by omega
    have k2:¬ 2*u=2*(s.nx+64+64+64+64+64+64+64+64+64+64+64+64+64+64+64+64+64+64+64+64+64+64+64+64+64):=by omega
    have k3:¬ 2*u=2*(s.nx+64+64+64+64+64+64+64+64+64+64+64+64+64+64+64+64+64+64+64+64+64+64+64+64):=by omega
    have k4:=hno (2*u+1) (fun u' _ _=>by omega)
    simp[jw,k1,k2,k3,k4]
   have k1:=hk (ub+192) (by omega)
   have k2:=hk (s.nx+64+64+64+64+64+64+64+64+64+64+64+64+64+64+64+64+64+64+64+64+64+64+64+64+64) (by omega)
   have k3:=hk (s.nx+64+64+64+64+64+64+64+64+64+64+64+64+64+64+64+64+64+64+64+64+64+64+64+64) (by omega)
   have k4:=hno key (fun u h1 h2=>hk u (by omega))
   simp[jw,k1,k2,k3,k4]
   exact ff key hk
  ·have hl5':¬ (i:Int)<45:=by omega
   simp[h4,f1,o1',j1,hlt,hl5']
   exact hend (by omega) _ ⟨by simp,by simp,by simp⟩ (by simp) (by simp) (by funext k;simp) (by simp;omega)
 ·simp[h4,f1,o1',j1,hlt]
  exact hend (by omega) _ ⟨by simp,by simp,by simp⟩ (by simp) (by simp) (by funext k;simp) (by simp;omega)
def rdsF (g:Hist') (M:List Int):List (Int × Int × Int):=((readH g).zip M).map fun x=>(x.1.1,x.2,Q3 g x.1)
theorem jg9 {g:Hist'}{M:List Int}(h:M.length=(readH g).length):(rdsF g M).length=(readH g).length:=by simp[rdsF,h]
theorem j1p {g:Hist'}{M:List Int}{i:Nat}(h1:i<(readH g).length) (h2:i<M.length):(rdsF g M)[i]? = some ((readH g)[i].1,M[i],Q3 g (readH g)[i]):=by
 unfold rdsF
 rw[List.getElem?_map,show((readH g).zip M)[i]? = some ((readH g)[i],M[i]) from List.getElem?_zip_eq_some.2 ⟨List.getElem?_eq_getElem h1,List.getElem?_eq_getElem h2⟩]
 rfl
def YS (g:Hist') (t a:Nat):Bool:=sesAt g a == sesAt g t
def WF (g:Hist') (t i:Nat):Nat:=JZ 0 ((List.range i).filter fun key=>Y1 g t key)
def RowG (ob:ZO) (lo hi:Nat) (v:V) (rs:List (Int × Int × Int)):Prop:=(v=.sl none true 0 []∧rs=[])∨∃u,v=.osl (2*u+1) u 0 rs.length 3∧ob (2*u+1)=some ⟨u,.cells (rs.flatMap rdC)⟩∧lo≤u∧u<hi
theorem RowG.frame {ob ob':ZO}{lo hi hi':Nat}{v:V}{rs:List (Int × Int × Int)}(h:RowG ob lo hi v rs) (hf:∀u,lo≤u→u<hi→ob' (2*u+1)=ob (2*u+1)) (hh:hi≤hi'):RowG ob' lo hi' v rs:=by
 rcases h with h|⟨u,h1,h2,h3,h4⟩
 ·exact .inl h
 ·exact .inr ⟨u,h1,(hf u h3 h4).trans h2,h3,by omega⟩
theorem jpz {v:V}{rs:List (Int × Int × Int)}{r:Int × Int × Int}{s x:A}{st:St}{lo hi ub:Nat}{K:List FP→St→Prop}{d:Option Nat}{q:List AOpr}(hs:eval E st.tm s=v) (hv:RowG st.ob lo hi v rs) (hro:st.ro≤lo)
 (hx:jM st.ob 3 (eval E st.tm x)=some (rdC r)) (hl:rs.length≤1000000)
 (h:∀kill:List Nat,(kill=[]∨∃u,v=.osl (2*u+1) u 0 rs.length 3∧kill=[2*u+1]∧lo≤u∧u<hi)→YT E q K (eval E st.tm) (.append true 3 24 s x) st d ub { v:=.osl (2*ub+1) ub 0 (rs.length+1) 3,obs:=[(2*ub+1,⟨ub,.cells ((rs++[r]).flatMap rdC)⟩)],kill:=kill }):jG E (⟨d,.append true 3 24 s x,none,true⟩::q) st ub K:=by
 have hne:rdC r≠[]:=by simp[rdC]
 have hlf:(rdC r).all V.leaf=true:=rfl
 have hfl:=j8 jk4 rs
 rw[J8 rfl]
 rcases hv with⟨rfl,rfl⟩|⟨u,rfl,ho,h1,h2⟩
 ·simp only[aop,hs,hx,Option.bind_some,if_neg hne,Bool.and_self,if_true,X9,jeg]
  rw[if_pos ⟨by decide,hlf,by simp[rdC],by simp[rdC]⟩]
  simp only[Jh,jN]
  have:=h [] (.inl rfl)
  simpa[rdC] using this
 ·have hoc:j1 st.ob (2*u+1) u=some (rs.flatMap rdC):=by simp[j1,ho]
  simp only[aop,hs,hx,hoc,Option.bind_some,if_neg hne,X9,jeg]
  rw[if_pos ⟨Nat.ble_eq▸(by omega),trivial,trivial,by omega,by decide,hlf,by simp[rdC];omega,by simp[rdC];omega⟩,jN]
  have:=h [2*u+1] (.inr ⟨u,rfl,rfl,h1,h2⟩)
  rw[show(rs.flatMap rdC).take (rs.length*3)=rs.flatMap rdC from List.take_of_length_le (by omega)]
  simpa[rdC,List.flatMap_append] using this
theorem jpl {α:Type}(m:List (Int × α)) (k:Int) (a:α):∃i,jf (YH m k a) k=some (i,a):=by
 have:=Q1 k a k m
 rw[if_pos rfl]at this
 cases h:jf (YH m k a) k with
 | none=>rw[h]at this;cases this
 | some p=>
  rw[h]at this
  simp only[Option.map_some,Option.some.injEq]at this
  exact⟨p.1,by rw[← this]⟩
theorem jpm {α:Type}(m:List (Int × α)) (k k':Int) (a z:α):Qz (YH m k a) k' z=if k'=k then a else Qz m k' z:=by
 rw[jnq,jnq,Q1]
 split <;> rfl
theorem j9h {ob:ZO}{l u:Nat}{k:Int}{m:List (Int × Option (Nat × Nat))}{p:Nat × Nat}(h:jQ ob l u=some (MK .i64 jfj (YH m k (some p)))):XV ob .int .nilptr false (.map l u) (.int .i64 k)=some (.ptr p.1 p.2 0):=by
 rw[jbw (q:=.i64) (f:=jfj) _ h]
 obtain⟨i,hi⟩:=jpl m k (some p)
 rw[hi]
 rfl
theorem jez (p:Nat→Bool) (L:List Nat) (x:Nat):JZ 0 ((L++[x]).filter p)=if p x then JZ 0 (L.filter p) ||| 1 <<< x else JZ 0 (L.filter p):=by
 rw[List.filter_append,List.filter_cons,List.filter_nil]
 cases p x
 ·simp
 ·rw[if_pos rfl,if_pos rfl,JZ,List.foldl_append]
  rfl
theorem jfo {L:List Nat}(h:L.Pairwise (· < ·)) {j t:Nat}(hj:j<L.length) (ht:t=L[j]) (p:Nat→Bool):L.filter (fun a=>decide (a<t) && p a)=(L.take j).filter p:=by
 subst ht
 have hp:=List.pairwise_iff_getElem.1 h
 have e:L.filter (fun a=>decide (a<L[j]) && p a)=(L.take j++L.drop j).filter (fun a=>decide (a<L[j]) && p a):=by rw[List.take_append_drop]
 rw[e,List.filter_append]
 have h1:(L.drop j).filter (fun a=>decide (a<L[j]) && p a)=[]:=by
  rw[List.filter_eq_nil_iff]
  intro a ha
  obtain⟨i,hi,rfl⟩:=List.getElem_of_mem ha
  rw[List.length_drop]at hi
  rw[List.getElem_drop]
  have:¬ L[j+i]<L[j]:=by
   rcases Nat.eq_zero_or_pos i with h0|h0
   ·subst h0;simp
   ·have:=hp j (j+i) hj (by omega) (by omega)
    omega
  simp[this]
 rw[h1,List.append_nil]
 refine List.filter_congr fun a ha=>?_
 obtain⟨i,hi,rfl⟩:=List.getElem_of_mem ha
 rw[List.length_take]at hi
 rw[List.getElem_take]
 simp[hp i j (by omega) hj (by omega)]
structure SB (ob:ZO) (lo hi k u:Nat) (T:List Nat) (v f:Nat→Nat):Prop where
 m:∃m,ob k=some ⟨u,.mp (2*T.length) (MK .i64 jfj m)⟩∧∀t∈T,Qz m (t:Int) none=some (2*v t+1,v t)
 s:∀t∈T,ob (2*v t+1)=some ⟨v t,.cells (setC (f t))⟩∧lo≤v t∧v t<hi
theorem SB.snoc {ob ob':ZO}{lo hi hi' k u t x:Nat}{T:List Nat}{v f:Nat→Nat}{m:List (Int × Option (Nat × Nat))}(h:SB ob lo hi k u T v f) (hm:∀z∈T,Qz m (z:Int) none=some (2*v z+1,v z))
 (hk:ob' k=some ⟨u,.mp (2*(T.length+1)) (MK .i64 jfj (YH m (t:Int) (some (2*x+1,x))))⟩) (hs:∀z∈T,ob' (2*v z+1)=ob (2*v z+1)) (hx:ob' (2*x+1)=some ⟨x,.cells (setC (f t))⟩) (h1:lo≤x) (h2:x<hi') (h3:hi≤hi') (ht:t ∉ T) :
 SB ob' lo hi' k u (T++[t]) (fun z=>if z=t then x else v z) f:=by
 refine⟨⟨_,by rw[List.length_append];exact hk,fun z hz=>?_⟩,fun z hz=>?_⟩
 ·rw[jpm]
  by_cases e:z=t
  ·subst e
   simp
  ·have e2:¬ (z:Int)=t:=by omega
   rw[if_neg e2,if_neg e]
   rcases List.mem_append.1 hz with hz|hz
   ·exact hm z hz
   ·exact absurd (List.mem_singleton.1 hz) e
 ·by_cases e:z=t
  ·subst e
   simp only[if_true]
   exact⟨hx,h1,h2⟩
  ·rcases List.mem_append.1 hz with hz|hz
   ·simp only[if_neg e]
    obtain⟨q1,q2,q3⟩:=h.s z hz
    exact⟨(hs z hz).trans q1,q2,by omega⟩
   ·exact absurd (List.mem_singleton.1 hz) e
theorem jyq {T:List Nat}{vA vW:Nat→Nat}{t a w hi:Nat}(h:∀z∈T,∀z'∈T,vA z≠vW z') (h1:∀z∈T,vA z<hi) (h2:∀z∈T,vW z<hi) (ha:hi≤a) (hw:hi≤w) (hne:a≠w) :
 ∀z∈T++[t],∀z'∈T++[t],(if z=t then a else vA z)≠(if z'=t then w else vW z'):=by
 intro z hz z' hz'
 have m:∀ {y},y∈T++[t]→¬ y=t→y∈T:=fun hy e=>by
  rcases List.mem_append.1 hy with h|h
  ·exact h
  ·exact absurd (List.mem_singleton.1 h) e
 by_cases e:z=t
 ·by_cases e':z'=t
  ·rw[if_pos e,if_pos e'];exact hne
  ·rw[if_pos e,if_neg e']
   have:=h2 z' (m hz' e')
   omega
 ·by_cases e':z'=t
  ·rw[if_neg e,if_pos e']
   have:=h1 z (m hz e)
   omega
  ·rw[if_neg e,if_neg e']
   exact h z (m hz e) z' (m hz' e')
theorem jnz {T:List Nat}{v:Nat→Nat}{t a hi:Nat}(h:∀z∈T,∀z'∈T,v z=v z'→z=z') (h1:∀z∈T,v z<hi) (ha:hi≤a) :
 ∀z∈T++[t],∀z'∈T++[t],(if z=t then a else v z)=(if z'=t then a else v z')→z=z':=by
 intro z hz z' hz' heq
 have m:∀ {y},y∈T++[t]→¬ y=t→y∈T:=fun hy e=>by
  rcases List.mem_append.1 hy with h|h
  ·exact h
  ·exact absurd (List.mem_singleton.1 h) e
 by_cases e:z=t
 ·by_cases e':z'=t
  ·rw[e,e']
  ·rw[if_pos e,if_neg e']at heq
   have:=h1 z' (m hz' e')
   omega
 ·by_cases e':z'=t
  ·rw[if_neg e,if_pos e']at heq
   have:=h1 z (m hz e)
   omega
  ·rw[if_neg e,if_neg e']at heq
   exact h z (m hz e) z' (m hz' e') heq
def Wm (g:Hist') (t:Nat):Nat:=JZ 0 ((comN g).filter fun a=>decide (a<t) && YS g t a)
def WG (g:Hist') (t:Nat):Nat:=WF g t g.ks.length
theorem SB.sets {N:FN}{ob ob':ZO}{lo hi n0 k u:Nat}{T:List Nat}{v f:Nat→Nat}(h:SB ob lo hi k u T v f) (h0:FixF N n0 k) (hk:ob' k=ob k) (hs:∀z∈T,ob' (2*v z+1)=ob (2*v z+1)∧FixF N n0 (2*v z+1)):SetsF N n0 ob' k u T f:=by
 obtain⟨m,h1,h2⟩:=h.m
 exact⟨h0,_,m,hk.trans h1,fun t ht=>⟨_,_,h2 t ht,(hs t ht).1.trans (h.s t ht).1,(hs t ht).2⟩⟩
def BegF (g:Hist') (M:List Int) (ob:ZO) (ub:Nat) (r:V × (ZO) × (Nat→Bool) × Nat):Prop :=
 ub≤r.2.2.2∧Was ub ob r.2.1∧∃ (N:FN) (rv:V) (tc:Option (Nat × Nat)),r.1=.ptr N.kF N.uF 0∧r.2.1 N.kF=some ⟨N.uF,.cells (fdC g N rv (.sl tc (comL g).isEmpty (comL g).length ((comL g).flatMap intC)) (.sl none true 0 []) 0 false)⟩ ∧
  Fd N rv (rdsF g M) (comN g) (Wm g) (WG g) r.2.2.2 r.2.1∧r.2.1 N.kV=some ⟨N.uV,.mp 0 (MK .u64 jbe [])⟩∧Off r.2.2.2 N.kF∧Off r.2.2.2 N.kV∧N.kF≠N.kV∧ub≤N.uF∧ub≤N.uV
section
variable {g:Hist'}{M:List Int}
set_option maxHeartbeats 4000000 in
theorem sv76 {Yf:YF}(hs:Small g) (hm:WX g M=true) {nl:Bool}{ob:ZO}{tk:Nat→Bool}{ro base ub:Nat}(hro:ro≤ub) :
 ∃r,EvS E Yf.y 76 [.agg (j2 g),jH nl intC M] ob tk ro base ub r∧BegF g M ob ub r:=by
 have hw:=Jt hm
 have hM:=jbt hm
 have hR:=W4 hs
 have hmay:=Yw hw
 obtain⟨vr,evr,hvr⟩:=ev86 hs
 have hrd:jbn g=readH g:=by simp[jbn,hw]
 rw[hrd]at hvr
 obtain⟨vc,evc,hvc⟩:=ev71 hs
 rw[jut hw]at hvc
 refine Wo (af:=S76) rfl (by decide) ?_
 show wpC E Yf S76.body _ (jab S76.res _)
 simp(disch:=first|(simp;done)|omega) [S76,j1,j2,V.cells,Nat.add_assoc]
 refine jht ?_
 simp(disch:=first|(simp;done)|omega)
 refine jht ?_
 simp(disch:=first|(simp;done)|omega) [j1,two_inj,Nat.add_assoc]
 refine X6 evc (by simp[j2,jH]) rfl (by simp[j2,jH]) ?_
 refine Wx hvc fun tc addc=>?_
 simp(disch:=first|(simp;done)|omega)
 refine jht ?_
 simp(disch:=first|(simp;done)|omega) [j7,V.cells,XP,jae,je2,jb4,rdOb,rdTk,lOf,Delta.wo,Delta.wt,jH,Nat.add_assoc]
 refine⟨⟨XI (by omega),XI (by omega),XI (by omega),XI (by omega),XI (by omega),XI (by omega),XI (by omega),XI (by omega),XI (by omega)⟩,?_⟩
 simp(disch:=first|(simp;done)|omega) [j1,two_inj]
 refine jU evr (by simp[j2,jH]) rfl (by simp[j2,jH]) ?_
 refine Wx hvr fun tr addr=>?_
 simp(disch:=first|(simp;done)|omega)
 refine JJ fun st hst=>?_
 obtain⟨uA,hA1⟩:∃u,u=ub+192:=⟨_,rfl⟩
 obtain⟨uW,hW1⟩:∃u,u=ub+256:=⟨_,rfl⟩
 obtain⟨uV,hV1⟩:∃u,u=ub+448:=⟨_,rfl⟩
 obtain⟨uF,hF1⟩:∃u,u=ub+576:=⟨_,rfl⟩
 obtain⟨N,hN⟩:∃N:FN,N=⟨2*uF+1,uF,2*uA+1,uA,2*uW+1,uW,2*uV+1,uV⟩:=⟨_,rfl⟩
 obtain⟨al,hal⟩:∃al:V,al=.sl tc (comL g).isEmpty (comL g).length ((comL g).flatMap intC):=⟨_,rfl⟩
 have g1:st.tm 1=jH nl intC M:=by rw[hst];simp[jH]
 have g2:st.tm 2=.ptr (2*ub+1) ub 0:=by rw[hst];simp
 have g5:st.tm 5=.ptr (2*uF+1) uF 0:=by rw[hst,hF1];simp
 have g24:st.tm 24=.sl tr (readH g).isEmpty (readH g).length ((readH g).flatMap jI):=by rw[hst];simp
 have g25:st.tm 25=.int .i64 (readH g).length:=by rw[hst];simp
 have g26:st.tm 26=.int .i64 0:=by rw[hst];simp
 have gd:st.df=[]:=by rw[hst];simp
 have gr:st.ro=ro:=by rw[hst];simp
 have gn:uF<st.nx:=by rw[hst,hF1];simp
 have gw:Was ub ob st.ob:=fun key hk=>by rw[hst];simp(disch:=first|(simp;done)|omega) [show ∀m,ub≤m→¬ key=2*m+1 from hk]
 have pB:st.ob (2*ub+1)=some ⟨ub,.cells (j2 g)⟩:=by rw[hst];simp(disch:=first|(simp;done)|omega) [two_inj,j2,jH]
 have pF:st.ob (2*uF+1)=some ⟨uF,.cells (fdC g N (.sl none true 0 []) al (.sl none true 0 []) 0 false)⟩:=by rw[hst,hN,hF1,hA1,hW1,hV1,hal];simp(disch:=first|(simp;done)|omega) [fdC,jH]
 have pA:st.ob (2*uA+1)=some ⟨uA,.mp 0 (MK .i64 jfj [])⟩:=by rw[hst,hA1];simp(disch:=first|(simp;done)|omega) [two_inj,MK]
 have pW:st.ob (2*uW+1)=some ⟨uW,.mp 0 (MK .i64 jfj [])⟩:=by rw[hst,hW1];simp(disch:=first|(simp;done)|omega) [two_inj,MK]
 have pV:st.ob (2*uV+1)=some ⟨uV,.mp 0 (MK .u64 jbe [])⟩:=by rw[hst,hV1];simp(disch:=first|(simp;done)|omega) [two_inj,MK]
 clear hst
 obtain⟨o1,o2,o3,o4⟩:ub<uA∧uA<uW∧uW<uV∧uV<uF:=by omega
 clear hA1 hW1 hV1 hF1
 obtain⟨ob1,hob1⟩:∃o,o=st.ob:=⟨_,rfl⟩
 obtain⟨n0,hn0⟩:∃n,n=st.nx:=⟨_,rfl⟩
 rw[← hob1]at gw pB pF pA pW pV
 rw[← hn0]at gn
 have hfl:=jg9 (g:=g) hM
 obtain⟨J,hJ⟩:∃J:Nat→St→Prop,J=fun i s=>s.tm 26=.int .i64 i∧(∃rv,s.ob (2*uF+1)=some ⟨uF,.cells (fdC g N rv al (.sl none true 0 []) 0 false)⟩∧RowG s.ob n0 s.nx rv ((rdsF g M).take i))∧(∀key,Off n0 key→key≠2*uF+1→s.ob key=ob1 key)∧n0≤s.nx:=⟨_,rfl⟩
 refine jF [(6,7),(26,59)] (readH g).length J rfl rfl (by
  rw[hJ]
  exact⟨by simpa using g26,⟨_,by rw[← hob1];exact pF,.inl ⟨rfl,rfl⟩⟩,fun key _ _=>by rw[hob1],by omega⟩) ?_
 clear pF
 intro i s hi hJs f
 rw[hJ]at hJs
 obtain⟨s26,⟨rv,sF,sR⟩,sw,sn⟩:=hJs
 have s1:s.tm 1=jH nl intC M:=by rw[f.t 1 (by simp)];simp[g1]
 have s2:s.tm 2=.ptr (2*ub+1) ub 0:=by rw[f.t 2 (by simp)];simp[g2]
 have s5:s.tm 5=.ptr (2*uF+1) uF 0:=by rw[f.t 5 (by simp)];simp[g5]
 have s24:s.tm 24=.sl tr (readH g).isEmpty (readH g).length ((readH g).flatMap jI):=by rw[f.t 24 (by simp)];simp[g24]
 have s25:s.tm 25=.int .i64 (readH g).length:=by rw[f.t 25 (by simp)];simp[g25]
 have sd:s.df=[]:=by rw[f.d];simp[gd]
 have sr:s.ro=ro:=by rw[f.r];simp[gr]
 clear f
 have qB:s.ob (2*ub+1)=some ⟨ub,.cells (j2 g)⟩:=by rw[sw _ (Off.new (by omega)) (by omega)];exact pB
 have nB:∀m,s.nx≤m→¬ ub=m:=fun m hm=>by omega
 have nF:∀m,s.nx≤m→¬ uF=m:=fun m hm=>by omega
 by_cases hlt:i<(readH g).length
 ·have hwk:=jv hlt (by omega)
  have hiM:i<M.length:=by omega
  obtain⟨a,k,ha,hk,e,hkey,hc⟩:=jk2 hmay hlt
  have hix:=Jx jl tr (readH g).isEmpty (readH g) .i64 hlt
  have hpa:=fun ob=>jc4 (readH g) ob hlt
  have hrd1:=j1p hlt hiM
  simp only[e]at hpa hrd1
  have hmi:=JP M hiM
  have hl3:(g.ts.flatMap ji)[a*3+2]? = some (jH (g.ts[a]).nl opC (g.ts[a]).ops):=by rw[jh jA g.ts ha (by decide:2<3)];rfl
  have hlk:((g.ts[a]).ops.flatMap opC)[k*4+1]? = some (.int .i64 ((g.ts[a]).ops[k]).key):=by rw[jh jK (g.ts[a]).ops hk (by decide:1<4)];rfl
  simp(disch:=first|(simp;done)|omega) [s26,s25,s24,s5,hlt,hix,hpa,j1,j7,two_inj,nF,sF,fdC]
  refine⟨by first|omega|(simp[sr];omega),?_⟩
  simp(disch:=first|(simp;done)|omega) [j1,j7,two_inj,nB,qB,s1,s2,j2,j6 jA,j6 jK,j6 jB,hl3,hlk,hmi,Nat.add_assoc]
  obtain⟨key,hkey'⟩:∃key,key=Q3 g (readH g)[i]:=⟨_,rfl⟩
  rw[← hkey']at hkey
  rw[← hkey]
  refine jac (cs:=rdC ((a:Int),M[i],key)) (by simp[j7,rdC]) rfl rfl ?_
  simp
  refine jpz (lo:=n0) (hi:=s.nx) (rs:=(rdsF g M).take i) (r:=((a:Int),M[i],key)) (v:=rv) (by simp) ?_ ?_ ?_ ?_ fun kill hkill=>?_
  ·refine sR.frame (fun u h1 h2=>?_) (Nat.le_refl _)
   have h3:∀m,s.nx≤m→¬ u=m:=fun m hm=>by omega
   simp(disch:=first|(simp;done)|omega) [two_inj,h3]
  ·first|omega|(simp[sr];omega)
  ·simp[jM,j1,rdC]
  ·rw[List.length_take]
   omega
  have hk0:∀key,Off n0 key→kill.any (Nat.beq key)=false:=fun key hkey=>by
   rcases hkill with rfl|⟨u,h,rfl,h1,h2⟩
   ·rfl
   ·simp only[List.any_cons,List.any_nil,Bool.or_false]
    exact XI (hkey u h1)
  have hk1:∀m,s.nx≤m→kill.any (Nat.beq (2*m+1))=false:=fun m hm=>by
   rcases hkill with rfl|⟨u,h,rfl,h1,h2⟩
   ·rfl
   ·simp only[List.any_cons,List.any_nil,Bool.or_false]
    exact XI (by omega)
  have hkF:=hk0 (2*uF+1) (Off.new (by omega))
  generalize hcs:List.flatMap rdC (List.take i (rdsF g M)++[(((a:Nat):Int),M[i],key)])=cs56
  simp(disch:=first|(simp;done)|omega) [j1,two_inj,nF,sF,fdC,hkF,jw,j7,XP,jae,je2,jb4,rdOb,rdTk,lOf,Delta.wo,Delta.wt,List.any_append]
  refine⟨by first|omega|(simp[sr];omega),XI (by omega),?_⟩
  simp[s26,hwk,hlt]
  rw[hJ]
  refine⟨by simp,⟨.osl (2*(s.nx+2048)+1) (s.nx+2048) 0 (((rdsF g M).take i).length+1) 3,?_,.inr ⟨s.nx+2048,?_,?_,by omega,by first|omega|(simp;done)|(simp;omega)⟩⟩,fun key hk hne=>?_,by first|omega|(simp;done)|(simp;omega)⟩
  ·simp(disch:=first|(simp;done)|omega) [fdC]
  ·rw[List.length_take,List.length_take]
   congr 1
   omega
  ·have hg2:(rdsF g M)[i]'(by omega)=(((a:Nat):Int),M[i],key):=by
    obtain⟨_,h2⟩:=List.getElem?_eq_some_iff.1 hrd1
    rw[h2,hkey',e]
   rw[List.take_succ_eq_append_getElem (by omega),hg2,hcs]
   simp(disch:=first|(simp;done)|omega) [jw,two_inj,show ¬ s.nx+2048=uF from by omega]
  ·have f1:=hk.ne
   simp(disch:=first|(simp;done)|omega) [jw,f1,hne,hk0 key hk,sw key hk hne]
 ·have:i=(readH g).length:=by omega
  subst this
  clear hlt hi
  rw[List.take_of_length_le (by omega)]at sR
  have eB:=qB
  simp(disch:=first|(simp;done)|omega) [s26,s25,s5,j1,sF,fdC,two_inj]
  rw[hal]
  simp
  refine JJ fun st hst=>?_
  have g2:st.tm 2=.ptr (2*ub+1) ub 0:=by rw[hst];simp[s2]
  have g5:st.tm 5=.ptr (2*uF+1) uF 0:=by rw[hst];simp[s5]
  have g63:st.tm 63=.sl tc (comL g).isEmpty (comL g).length ((comL g).flatMap intC):=by rw[hst];simp
  have g64:st.tm 64=.int .i64 (comL g).length:=by rw[hst];simp
  have g65:st.tm 65=.int .i64 0:=by rw[hst];simp
  have gd:st.df=[]:=by rw[hst];simp[sd]
  have gr:st.ro=ro:=by rw[hst];simp[sr]
  have go:st.ob=s.ob:=by rw[hst];simp
  have gn2:s.nx≤st.nx:=by rw[hst];simp;omega
  clear hst
  obtain⟨ob2,hob2⟩:∃o,o=st.ob:=⟨_,rfl⟩
  obtain⟨n1,hn1⟩:∃n,n=st.nx:=⟨_,rfl⟩
  rw[← go,← hob2]at sF sR sw qB
  have qA:ob2 (2*uA+1)=some ⟨uA,.mp 0 (MK .i64 jfj [])⟩:=by rw[sw _ (Off.new (by omega)) (by omega)];exact pA
  have qW:ob2 (2*uW+1)=some ⟨uW,.mp 0 (MK .i64 jfj [])⟩:=by rw[sw _ (Off.new (by omega)) (by omega)];exact pW
  have qV:ob2 (2*uV+1)=some ⟨uV,.mp 0 (MK .u64 jbe [])⟩:=by rw[sw _ (Off.new (by omega)) (by omega)];exact pV
  have gw2:Was ub ob ob2:=fun key hk=>by rw[sw key (hk.up (by omega)) (hk uF (by omega))];exact gw key hk
  have sR2:RowG ob2 n0 n1 rv (rdsF g M):=sR.frame (fun _ _ _=>rfl) (by omega)
  have hn01:n0≤n1:=by omega
  clear sw pA pW pV sR gw go gn2 sn s26 s1 s2 s5 s24 s25 sd sr nB nF eB
  obtain⟨J2,hJ2⟩:∃J2:Nat→St→Prop,J2=fun i s=>s.tm 65=.int .i64 i∧(∀key,Off n1 key→key≠2*uA+1→key≠2*uW+1→s.ob key=ob2 key)∧n1≤s.nx ∧
   ∃vA vW,SB s.ob n1 s.nx (2*uA+1) uA ((comN g).take i) vA (Wm g)∧SB s.ob n1 s.nx (2*uW+1) uW ((comN g).take i) vW (WG g)∧(∀t∈(comN g).take i,∀t'∈(comN g).take i,vA t≠vW t') ∧
    (∀t∈(comN g).take i,∀t'∈(comN g).take i,vA t=vA t'→t=t')∧∀t∈(comN g).take i,∀t'∈(comN g).take i,vW t=vW t'→t=t':=⟨_,rfl⟩
  refine jF [(8,9),(11,14),(65,142)] (comL g).length J2 rfl rfl (by
   rw[hJ2]
   exact⟨by simpa using g65,fun key _ _ _=>by rw[hob2],by omega,fun _=>0,fun _=>0,⟨⟨[],by rw[← hob2];exact qA,fun t h=>(by cases h)⟩,fun t h=>(by cases h)⟩,⟨⟨[],by rw[← hob2];exact qW,fun t h=>(by cases h)⟩,fun t h=>(by cases h)⟩,fun t h=>(by cases h),fun t h=>(by cases h),fun t h=>(by cases h)⟩) ?_
  intro i s hi hJs f
  rw[hJ2]at hJs
  obtain⟨s65,sw,sn,vA,vW,sA,sW,hAW,hAA,hWW⟩:=hJs
  have s2:s.tm 2=.ptr (2*ub+1) ub 0:=by rw[f.t 2 (by simp)];simp[g2]
  have s5:s.tm 5=.ptr (2*uF+1) uF 0:=by rw[f.t 5 (by simp)];simp[g5]
  have s63:s.tm 63=.sl tc (comL g).isEmpty (comL g).length ((comL g).flatMap intC):=by rw[f.t 63 (by simp)];simp[g63]
  have s64:s.tm 64=.int .i64 (comL g).length:=by rw[f.t 64 (by simp)];simp[g64]
  have sd:s.df=[]:=by rw[f.d];simp[gd]
  have sr:s.ro=ro:=by rw[f.r];simp[gr]
  clear f
  have hcl:=Qb g
  by_cases hlt:i<(comL g).length
  ·have hltN:i<(comN g).length:=by omega
   have hts:=hs.ts
   have hcts:(comN g).length≤1000:=by
    have:=ja8 g
    omega
   have hK:jlp=1000000000000:=rfl
   have hwk:=jv hlt (by omega)
   obtain⟨t,ht⟩:∃t,t=(comN g)[i]:=⟨_,rfl⟩
   have hti:(comL g)[i]=(t:Int):=by
    have h1:(comL g)[i]? = (ints (comN g))[i]?:=by rw[QI]
    rw[List.getElem?_eq_getElem hlt]at h1
    unfold ints at h1
    rw[List.getElem?_map,List.getElem?_eq_getElem hltN]at h1
    simpa[ht] using h1
   have hix:=Jx jB tc (comL g).isEmpty (comL g) .i64 hlt
   have hia:=JP (comL g) hlt
   rw[hti]at hia
   obtain⟨mA,hmA,hmA2⟩:=sA.m
   obtain⟨mW,hmW,hmW2⟩:=sW.m
   have hTl:((comN g).take i).length=i:=by rw[List.length_take];omega
   rw[hTl]at hmA hmW
   have xF:s.ob (2*uF+1)=some ⟨uF,.cells (fdC g N rv al (.sl none true 0 []) 0 false)⟩:=by rw[sw _ (Off.new (by omega)) (by omega) (by omega)];exact sF
   have xB:s.ob (2*ub+1)=some ⟨ub,.cells (j2 g)⟩:=by rw[sw _ (Off.new (by omega)) (by omega) (by omega)];exact qB
   have nB:∀m,s.nx≤m→¬ ub=m:=fun m hm=>by omega
   have nF:∀m,s.nx≤m→¬ uF=m:=fun m hm=>by omega
   have nA:∀m,s.nx≤m→¬ uA=m:=fun m hm=>by omega
   have nW:∀m,s.nx≤m→¬ uW=m:=fun m hm=>by omega
   have nWA:¬ uW=uA:=by omega
   have hNk:N.kA=2*uA+1∧N.uA=uA∧N.kW=2*uW+1∧N.uW=uW:=by rw[hN];exact⟨rfl,rfl,rfl,rfl⟩
   simp(disch:=first|(simp;done)|omega) [s65,s64,s63,s5,hlt,hix,hia,j1,xF,fdC,hNk]
   refine jzx (by simp) rfl rfl rfl ?_
   simp
   refine jzx (by simp) rfl rfl rfl ?_
   simp
   refine jgo (q:=.i64) (f:=jfj) (a:=none) (ver:=2*i) (k:=(t:Int)) (l:=2*uA+1) (u:=uA) mA (by simp) (by simp) rfl (by simp(disch:=first|(simp;done)|omega) [two_inj,nA,hmA]) (by first|omega|(simp[sr];omega)) (by omega) ?_
   simp
   refine jjt (q:=.i64) (f:=jfj) (a:=some (2*(s.nx+1024)+1,s.nx+1024)) (ver:=2*i+1) (k:=(t:Int)) (l:=2*uA+1) (u:=uA) (YH mA (t:Int) (Qz mA (t:Int) none)) (by simp) (by simp) (by simp[jfj,V.strip]) (js4 mA t _) (by simp) (by first|omega|(simp[sr];omega)) (by omega) ?_
   rw[jnp]
   simp
   refine jgo (q:=.i64) (f:=jfj) (a:=none) (ver:=2*i) (k:=(t:Int)) (l:=2*uW+1) (u:=uW) mW (by simp) (by simp) rfl (by simp(disch:=first|(simp;done)|omega) [two_inj,nW,hmW,nWA]) (by first|omega|(simp[sr];omega)) (by omega) ?_
   simp
   refine jjt (q:=.i64) (f:=jfj) (a:=some (2*(s.nx+1088)+1,s.nx+1088)) (ver:=2*i+1) (k:=(t:Int)) (l:=2*uW+1) (u:=uW) (YH mW (t:Int) (Qz mW (t:Int) none)) (by simp) (by simp) (by simp[jfj,V.strip]) (js4 mW t _) (by simp) (by first|omega|(simp[sr];omega)) (by omega) ?_
   rw[jnp]
   simp
   refine⟨jw8 (by simp(disch:=first|(simp;done)|omega) [js1,jpk,Q0,je2,jb4,rdOb,rdTk,lOf,Delta.wo,Delta.wt,s5,j1,xF,fdC,hNk,two_inj];and_intros <;> exact XI (by omega)),?_⟩
   have hsl:Wu 1 none (some (.int .i64 (i:Int))) (.sl tc (comL g).isEmpty (comL g).length ((comL g).flatMap intC))=some (.sl none (comL g).isEmpty i (((comL g).take i).flatMap intC)):=by
    rw[jky jB tc _ (comL g) (show i≤_ by omega),List.length_take,Nat.min_eq_left (by omega)]
   have nFW:¬ uF=uW:=by omega
   have nFA:¬ uF=uA:=by omega
   simp(disch:=first|(simp;done)|omega) [s5,j1,xF,fdC,two_inj,nF,nFW,nFA]
   rw[hal,hsl]
   simp
   refine JJ fun st hst=>?_
   obtain⟨ua,hua⟩:∃u,u=s.nx+1024:=⟨_,rfl⟩
   obtain⟨uw,huw⟩:∃u,u=s.nx+1088:=⟨_,rfl⟩
   have g2:st.tm 2=.ptr (2*ub+1) ub 0:=by rw[hst];simp[s2]
   have g5:st.tm 5=.ptr (2*uF+1) uF 0:=by rw[hst];simp[s5]
   have g9:st.tm 9=.int .i64 t:=by rw[hst];simp
   have g65:st.tm 65=.int .i64 i:=by rw[hst];simp[s65]
   have g91:st.tm 91=.sl none (comL g).isEmpty i (((comL g).take i).flatMap intC):=by rw[hst];simp
   have g92:st.tm 92=.int .i64 i:=by rw[hst];simp
   have g93:st.tm 93=.int .i64 0:=by rw[hst];simp
   have g63:st.tm 63=.sl tc (comL g).isEmpty (comL g).length ((comL g).flatMap intC):=by rw[hst];simp[s63]
   have g64:st.tm 64=.int .i64 (comL g).length:=by rw[hst];simp[s64]
   have gd:st.df=[]:=by rw[hst];simp[sd]
   have gr:st.ro=ro:=by rw[hst];simp[sr]
   have gn:uw<st.nx:=by rw[hst,huw];simp
   have gw:∀key,Off s.nx key→key≠2*uA+1→key≠2*uW+1→st.ob key=s.ob key:=fun key hk h1 h2=>by rw[hst];simp(disch:=first|(simp;done)|omega) [hk.ne,h1,h2]
   have pa:st.ob (2*ua+1)=some ⟨ua,.cells (setC 0)⟩:=by rw[hst,hua];simp(disch:=first|(simp;done)|omega) [two_inj,Nat.add_assoc,jit,show ¬ s.nx+1024=uA by omega,show ¬ s.nx+1024=uW by omega]
   have pw:st.ob (2*uw+1)=some ⟨uw,.cells (setC 0)⟩:=by rw[hst,huw];simp(disch:=first|(simp;done)|omega) [two_inj,Nat.add_assoc,jit,show ¬ s.nx+1088=uA by omega,show ¬ s.nx+1088=uW by omega]
   have pA:st.ob (2*uA+1)=some ⟨uA,.mp (2*(i+1)) (MK .i64 jfj (YH mA (t:Int) (some (2*ua+1,ua))))⟩:=by rw[hst,hua];simp(disch:=first|(simp;done)|omega) [two_inj,Nat.add_assoc,show ¬ uA=uW by omega,Nat.mul_add]
   have pW:st.ob (2*uW+1)=some ⟨uW,.mp (2*(i+1)) (MK .i64 jfj (YH mW (t:Int) (some (2*uw+1,uw))))⟩:=by rw[hst,huw];simp(disch:=first|(simp;done)|omega) [two_inj,Nat.add_assoc,Nat.mul_add]
   clear hst
   obtain⟨ob3,hob3⟩:∃o,o=st.ob:=⟨_,rfl⟩
   obtain⟨n3,hn3⟩:∃n,n=st.nx:=⟨_,rfl⟩
   rw[← hob3]at gw pa pw pA pW
   rw[← hn3]at gn
   have hhd:XO g=true:=by
    unfold XU at hmay
    simp only[Bool.and_eq_true]at hmay
    exact hmay.1
   unfold XO at hhd
   simp only[Bool.and_eq_true,decide_eq_true_eq]at hhd
   obtain⟨_,_,_,hks,htl⟩:=hhd
   have hcom:∀ {x:Nat},x∈comN g→x<g.ts.length:=fun h=>JS (comN_mem.1 h)
   have htt:t<g.ts.length:=hcom (ht▸List.getElem_mem hltN)
   have hses:∀ {x:Nat}(h:x<g.ts.length),(g.ts.flatMap ji)[x*3]? = some (.int .i64 (sesAt g x)):=fun {x} h=>by
    have:=jh jA g.ts h (by decide:0<3)
    rw[Nat.add_zero]at this
    rw[this]
    simp[ji,sesAt,h]
   obtain⟨J3,hJ3⟩:∃J3:Nat→St→Prop,J3=fun j s=>s.tm 93=.int .i64 j∧s.ob (2*ua+1)=some ⟨ua,.cells (setC (JZ 0 (((comN g).take j).filter (YS g t))))⟩∧(∀key,Off n3 key→key≠2*ua+1→s.ob key=ob3 key)∧n3≤s.nx:=⟨_,rfl⟩
   refine jF [(11,11),(93,118)] i J3 rfl rfl (by
    rw[hJ3]
    exact⟨by simpa using g93,by rw[← hob3];exact pa,fun key _ _=>by rw[hob3],by omega⟩) ?_
   intro j q hj hJq f
   rw[hJ3]at hJq
   obtain⟨q93,qa,qw,qn⟩:=hJq
   have q2:q.tm 2=.ptr (2*ub+1) ub 0:=by rw[f.t 2 (by simp)];simp[g2]
   have q5:q.tm 5=.ptr (2*uF+1) uF 0:=by rw[f.t 5 (by simp)];simp[g5]
   have q9:q.tm 9=.int .i64 t:=by rw[f.t 9 (by simp)];simp[g9]
   have q91:q.tm 91=.sl none (comL g).isEmpty i (((comL g).take i).flatMap intC):=by rw[f.t 91 (by simp)];simp[g91]
   have q92:q.tm 92=.int .i64 i:=by rw[f.t 92 (by simp)];simp[g92]
   have q63:q.tm 63=.sl tc (comL g).isEmpty (comL g).length ((comL g).flatMap intC):=by rw[f.t 63 (by simp)];simp[g63]
   have q64:q.tm 64=.int .i64 (comL g).length:=by rw[f.t 64 (by simp)];simp[g64]
   have q65:q.tm 65=.int .i64 i:=by rw[f.t 65 (by simp)];simp[g65]
   have qd:q.df=[]:=by rw[f.d];simp[gd]
   have qr:q.ro=ro:=by rw[f.r];simp[gr]
   clear f
   have zF:q.ob (2*uF+1)=some ⟨uF,.cells (fdC g N rv al (.sl none true 0 []) 0 false)⟩:=by rw[qw _ (Off.new (by omega)) (by omega),gw _ (Off.new (by omega)) (by omega) (by omega)];exact xF
   have zB:q.ob (2*ub+1)=some ⟨ub,.cells (j2 g)⟩:=by rw[qw _ (Off.new (by omega)) (by omega),gw _ (Off.new (by omega)) (by omega) (by omega)];exact xB
   by_cases hjl:j<i
   ·have hjN:j<(comN g).length:=by omega
    obtain⟨x,hx⟩:∃x,x=(comN g)[j]:=⟨_,rfl⟩
    have hxl:x<g.ts.length:=hcom (hx▸List.getElem_mem hjN)
    have hji:(comL g)[j]'(by omega)=(x:Int):=by
     have h1:(comL g)[j]? = (ints (comN g))[j]?:=by rw[QI]
     rw[List.getElem?_eq_getElem (show j<(comL g).length by omega)]at h1
     unfold ints at h1
     rw[List.getElem?_map,List.getElem?_eq_getElem hjN]at h1
     simpa[hx] using h1
    have hjl':j<((comL g).take i).length:=by rw[List.length_take];omega
    have hlT:((comL g).take i).length=i:=by rw[List.length_take];omega
    have hjx:=Jx jB none (comL g).isEmpty ((comL g).take i) .i64 hjl'
    have hja:=JP ((comL g).take i) hjl'
    rw[List.getElem_take,hji]at hja
    rw[hlT]at hjx
    have hwj:=jv hjl (by omega)
    have hse1:=hses hxl
    have hse2:=hses htt
    simp(disch:=first|(simp;done)|omega) [q93,q92,q91,q9,q2,hjl,hjx,hja,j1,zB,j2,j6 jA,hse1,hse2]
    have hstep:JZ 0 (((comN g).take (j+1)).filter (YS g t))=if sesAt g x == sesAt g t then JZ 0 (((comN g).take j).filter (YS g t)) ||| 1 <<< x else JZ 0 (((comN g).take j).filter (YS g t)):=by
     rw[List.take_succ_eq_append_getElem hjN,← hx,jez]
     rfl
    cases hsm:sesAt g x == sesAt g t
    ·simp[q93,hwj,hjl]
     rw[hJ3]
     rw[hsm]at hstep
     refine⟨by simp,by rw[hstep];simpa using qa,fun key hk hne=>by simp[qw key hk hne],by first|omega|(simp;done)|(simp;omega)⟩
    ·rw[hsm,if_pos rfl]at hstep
     have hbl:JZ 0 (((comN g).take j).filter (YS g t))<2 ^ 64:=Yg (by decide) fun y hy=>by
      have:=hcom (List.mem_of_mem_take (List.mem_filter.1 hy).1)
      omega
     simp(disch:=first|(simp;done)|omega) [q5,q9,j1,zF,fdC,hNk]
     rw[j9h (p:=(2*ua+1,ua)) (k:=(t:Int)) (m:=mA) (by simp[jQ];rw[qw _ (Off.new (by omega)) (by omega),pA];simp)]
     simp
     refine JR (vs:=[.ptr (2*ua+1) ua 0,.int .i64 x]) (by simp) rfl (sv81 (w:=JZ 0 (((comN g).take j).filter (YS g t))) (by simpa using qa) (Off.new (by first|omega|(simp;done)|(simp;omega))) (by first|omega|(simp[qr];omega)) (by omega) hbl) ?_
     rintro v ob4 tk4 ub4 ⟨r1,r2,r3⟩
     simp only at r1 r2 r3
     simp[q93,hwj,hjl]
     rw[hJ3]
     refine⟨by simp,?_,fun key hk hne=>?_,by first|omega|(simp;done)|(simp;omega)⟩
     ·simp
      rw[r2 _ (Off.new (by first|omega|(simp;done)|(simp;omega))),if_pos rfl,hstep]
     ·simp
      rw[r2 key (hk.up (by first|omega|(simp;done)|(simp;omega))),if_neg hne]
      simp[qw key hk hne]
   ·have:j=i:=by omega
    subst this
    clear hjl hj
    simp(disch:=first|(simp;done)|omega) [q93,q92,q2,j1,zB,j2]
    refine JJ fun st hst=>?_
    have g2:st.tm 2=.ptr (2*ub+1) ub 0:=by rw[hst];simp[q2]
    have g5:st.tm 5=.ptr (2*uF+1) uF 0:=by rw[hst];simp[q5]
    have g9:st.tm 9=.int .i64 t:=by rw[hst];simp[q9]
    have g65:st.tm 65=.int .i64 j:=by rw[hst];simp[q65]
    have g121:st.tm 121=.int .i64 g.ks.length:=by rw[hst];simp[jH]
    have g122:st.tm 122=.int .i64 0:=by rw[hst];simp
    have g63:st.tm 63=.sl tc (comL g).isEmpty (comL g).length ((comL g).flatMap intC):=by rw[hst];simp[q63]
    have g64:st.tm 64=.int .i64 (comL g).length:=by rw[hst];simp[q64]
    have gd:st.df=[]:=by rw[hst];simp[qd]
    have gr:st.ro=ro:=by rw[hst];simp[qr]
    have go:st.ob=q.ob:=by rw[hst];simp
    have gn4:q.nx≤st.nx:=by rw[hst];simp;omega
    clear hst
    obtain⟨ob5,hob5⟩:∃o,o=st.ob:=⟨_,rfl⟩
    obtain⟨n5,hn5⟩:∃n,n=st.nx:=⟨_,rfl⟩
    rw[← go,← hob5]at qa qw zF zB
    obtain⟨J5,hJ5⟩:∃J5:Nat→St→Prop,J5=fun k s=>s.tm 122=.int .i64 k∧s.ob (2*uw+1)=some ⟨uw,.cells (setC (WF g t k))⟩∧(∀key,Off n5 key→key≠2*uw+1→s.ob key=ob5 key)∧n5≤s.nx:=⟨_,rfl⟩
    refine jF [(12,14),(122,141)] g.ks.length J5 rfl rfl (by
     rw[hJ5]
     exact⟨by simpa using g122,by rw[← hob5,qw _ (Off.new (by omega)) (by omega)];exact pw,fun key _ _=>by rw[hob5],by omega⟩) ?_
    intro k y hk hJy f
    rw[hJ5]at hJy
    obtain⟨y122,yw,yk,yn⟩:=hJy
    have y2:y.tm 2=.ptr (2*ub+1) ub 0:=by rw[f.t 2 (by simp)];simp[g2]
    have y5:y.tm 5=.ptr (2*uF+1) uF 0:=by rw[f.t 5 (by simp)];simp[g5]
    have y9:y.tm 9=.int .i64 t:=by rw[f.t 9 (by simp)];simp[g9]
    have y65:y.tm 65=.int .i64 j:=by rw[f.t 65 (by simp)];simp[g65]
    have y121:y.tm 121=.int .i64 g.ks.length:=by rw[f.t 121 (by simp)];simp[g121]
    have yd:y.df=[]:=by rw[f.d];simp[gd]
    have yr:y.ro=ro:=by rw[f.r];simp[gr]
    clear f
    have wF:y.ob (2*uF+1)=some ⟨uF,.cells (fdC g N rv al (.sl none true 0 []) 0 false)⟩:=by rw[yk _ (Off.new (by omega)) (by omega)];exact zF
    have wB:y.ob (2*ub+1)=some ⟨ub,.cells (j2 g)⟩:=by rw[yk _ (Off.new (by omega)) (by omega)];exact zB
    by_cases hkl:k<g.ks.length
    ·have hwk2:=jv hkl (by omega)
     have el:=ev116 hs t k
     have ez:(Wa (Jl g t).2 (k:Int)).2=Y1 g t k:=rfl
     rw[ez]at el
     simp(disch:=first|(simp;done)|omega) [y122,y121,y9,y2,hkl,j1,wB,j2]
     refine jU el (by simp[j2]) rfl (by simp[j2]) ?_
     rw[Jk (by simp[V.plain,jz])]
     simp(disch:=first|(simp;done)|omega) [jz,j1,j7]
     refine⟨by first|omega|(simp[yr];omega),?_⟩
     have hstep:WF g t (k+1)=if Y1 g t k then WF g t k ||| 1 <<< k else WF g t k:=by
      unfold WF
      rw[List.range_succ,jez]
     cases hlv:Y1 g t k
     ·simp[y122,hwk2,hkl]
      rw[hJ5]
      rw[hlv]at hstep
      refine⟨by simp,by rw[hstep];simp(disch:=first|(simp;done)|omega) [two_inj,yw,show ∀m,y.nx≤m→¬ uw=m from fun m hm=>by omega],fun key hk hne=>by simp(disch:=first|(simp;done)|omega) [hk.ne,yk key hk hne],by first|omega|(simp;done)|(simp;omega)⟩
     ·rw[hlv,if_pos rfl]at hstep
      have hbl:WF g t k<2 ^ 64:=Yg (by decide) fun z hz=>by
       have:=List.mem_range.1 (List.mem_filter.1 hz).1
       omega
      have nuw:∀m,y.nx≤m→¬ uw=m:=fun m hm=>by omega
      have nW5:∀m,y.nx≤m→¬ uW=m:=fun m hm=>by omega
      have nF5:∀m,y.nx≤m→¬ uF=m:=fun m hm=>by omega
      simp(disch:=first|(simp;done)|omega) [y5,y9,j1,wF,fdC,hNk,two_inj,nF5]
      rw[j9h (p:=(2*uw+1,uw)) (k:=(t:Int)) (m:=mW) (by simp(disch:=first|(simp;done)|omega) [jQ,two_inj,nW5];rw[yk _ (Off.new (by omega)) (by omega),qw _ (Off.new (by omega)) (by omega),pW];simp)]
      simp
      refine JR (vs:=[.ptr (2*uw+1) uw 0,.int .i64 k]) (by simp) rfl (sv81 (w:=WF g t k) (by simp(disch:=first|(simp;done)|omega) [two_inj,nuw,yw]) (Off.new (by first|omega|(simp;done)|(simp;omega))) (by first|omega|(simp[yr];omega)) (by omega) hbl) ?_
      rintro v ob4 tk4 ub4 ⟨r1,r2,r3⟩
      simp only at r1 r2 r3
      simp[y122,hwk2,hkl]
      rw[hJ5]
      refine⟨by simp,?_,fun key hk hne=>?_,by first|omega|(simp;done)|(simp;omega)⟩
      ·simp
       rw[r2 _ (Off.new (by first|omega|(simp;done)|(simp;omega))),if_pos rfl,hstep]
      ·simp
       rw[r2 key (hk.up (by first|omega|(simp;done)|(simp;omega))),if_neg hne]
       simp(disch:=first|(simp;done)|omega) [hk.ne,yk key hk hne]
    ·have:k=g.ks.length:=by omega
     subst this
     have hchain:∀key,Off s.nx key→key≠2*uA+1→key≠2*uW+1→y.ob key=s.ob key:=fun key hk h1 h2=>by
      rw[yk key (hk.up (by omega)) (hk uw (by omega)),qw key (hk.up (by omega)) (hk ua (by omega)),gw key hk h1 h2]
     have hA9:y.ob (2*uA+1)=some ⟨uA,.mp (2*(j+1)) (MK .i64 jfj (YH mA (t:Int) (some (2*ua+1,ua))))⟩:=by rw[yk _ (Off.new (by omega)) (by omega),qw _ (Off.new (by omega)) (by omega),pA]
     have hW9:y.ob (2*uW+1)=some ⟨uW,.mp (2*(j+1)) (MK .i64 jfj (YH mW (t:Int) (some (2*uw+1,uw))))⟩:=by rw[yk _ (Off.new (by omega)) (by omega),qw _ (Off.new (by omega)) (by omega),pW]
     have ha9:y.ob (2*ua+1)=some ⟨ua,.cells (setC (Wm g t))⟩:=by
      rw[yk _ (Off.new (by omega)) (by omega),qa]
      unfold Wm
      rw[jfo (jhy g) hltN ht]
     simp[y122,y121,y65,hwk,hlt]
     rw[hJ2]
     have eT:(comN g).take (j+1)=(comN g).take j++[t]:=by rw[List.take_succ_eq_append_getElem hltN,ht]
     have htT:t ∉ (comN g).take j:=fun h=>by
      obtain⟨i,hi,e⟩:=List.getElem_of_mem h
      rw[List.length_take]at hi
      rw[List.getElem_take]at e
      have:=List.pairwise_iff_getElem.1 (jhy g) i j (by omega) hltN (by omega)
      omega
     refine⟨by simp,fun key hk h1 h2=>?_,by first|omega|(simp;done)|(simp;omega),fun z=>if z=t then ua else vA z,fun z=>if z=t then uw else vW z,?_,?_,?_,?_,?_⟩
     ·simp
      rw[hchain key (hk.up (by omega)) h1 h2]
      exact sw key hk h1 h2
     ·rw[eT]
      refine sA.snoc hmA2 (by rw[hTl];simpa using hA9) (fun z hz=>?_) (by simpa using ha9) (by omega) (by first|omega|(simp;done)|(simp;omega)) (by first|omega|(simp;done)|(simp;omega)) htT
      have:=(sA.s z hz).2
      simp
      exact hchain _ (Off.new (by omega)) (by omega) (by omega)
     ·rw[eT]
      refine sW.snoc hmW2 (by rw[hTl];simpa using hW9) (fun z hz=>?_) (by simpa[WG] using yw) (by omega) (by first|omega|(simp;done)|(simp;omega)) (by first|omega|(simp;done)|(simp;omega)) htT
      have:=(sW.s z hz).2
      simp
      exact hchain _ (Off.new (by omega)) (by omega) (by omega)
     ·rw[eT]
      exact jyq hAW (fun z hz=>(sA.s z hz).2.2) (fun z hz=>(sW.s z hz).2.2) (by omega) (by omega) (by omega)
     ·rw[eT]
      exact jnz hAA (fun z hz=>(sA.s z hz).2.2) (by omega)
     ·rw[eT]
      exact jnz hWW (fun z hz=>(sW.s z hz).2.2) (by omega)
  ·have:i=(comL g).length:=by omega
   subst this
   rw[List.take_of_length_le (by omega)]at sA sW hAW hAA hWW
   simp[s65,s64,s5]
   have xF:s.ob (2*uF+1)=some ⟨uF,.cells (fdC g N rv al (.sl none true 0 []) 0 false)⟩:=by rw[sw _ (Off.new (by omega)) (by omega) (by omega)];exact sF
   have xV:s.ob (2*uV+1)=some ⟨uV,.mp 0 (MK .u64 jbe [])⟩:=by rw[sw _ (Off.new (by omega)) (by omega) (by omega)];exact qV
   have hNk:N.kF=2*uF+1∧N.uF=uF∧N.kA=2*uA+1∧N.uA=uA∧N.kW=2*uW+1∧N.uW=uW∧N.kV=2*uV+1∧N.uV=uV:=by rw[hN];exact⟨rfl,rfl,rfl,rfl,rfl,rfl,rfl,rfl⟩
   obtain⟨k1,k2,k3,k4,k5,k6,k7,k8⟩:=hNk
   have hfix:∀u n,u<n→u≠uF→u≠uV→FixF N n (2*u+1):=fun u n h1 h2 h3=>⟨by rw[k1];omega,by rw[k7];omega,Off.new h1⟩
   refine QG (by simp[sd]) ⟨by first|omega|(simp;done)|(simp;omega),fun key hk=>?_,N,rv,tc,by simp[k1,k2],by rw[k1,k2,← hal];simpa using xF,⟨?_,?_,?_⟩,by rw[k7,k8];simpa using xV,by rw[k1];exact Off.new (by first|omega|(simp;done)|(simp;omega)),by rw[k7];exact Off.new (by first|omega|(simp;done)|(simp;omega)),by rw[k1,k7];omega,by rw[k2];omega,by rw[k8];omega⟩
   ·simp
    rw[sw key (hk.up (by omega)) (hk uA (by omega)) (hk uW (by omega))]
    exact gw2 key hk
   ·rcases sR2 with h|⟨u,h1,h2,h3,h4⟩
    ·exact .inl h
    ·refine .inr ⟨2*u+1,u,h1,?_,hfix u _ (by first|omega|(simp;done)|(simp;omega)) (by omega) (by omega)⟩
     simp
     rw[sw _ (Off.new (by omega)) (by omega) (by omega)]
     exact h2
   ·rw[k3,k4]
    refine sA.sets (hfix uA _ (by first|omega|(simp;done)|(simp;omega)) (by omega) (by omega)) (by simp) fun z hz=>?_
    have:=(sA.s z hz).2
    exact⟨by simp,hfix _ _ (by first|omega|(simp;done)|(simp;omega)) (by omega) (by omega)⟩
   ·rw[k5,k6]
    refine sW.sets (hfix uW _ (by first|omega|(simp;done)|(simp;omega)) (by omega) (by omega)) (by simp) fun z hz=>?_
    have:=(sW.s z hz).2
    exact⟨by simp,hfix _ _ (by first|omega|(simp;done)|(simp;omega)) (by omega) (by omega)⟩
end
section
variable {g:Hist'}{M:List Int}
theorem jm9 (hmay:XU g=true) {i:Nat}(hi:i<(readH g).length):∃k:Nat,Q3 g (readH g)[i]=k∧k<g.ks.length:=by
 obtain⟨a,b,ha,hb,e,hk,hc⟩:=jk2 hmay hi
 unfold XU at hmay
 simp only[Bool.and_eq_true,List.all_eq_true]at hmay
 have:=hmay.2.2.1 (g.ts[a].ops[b]) (by
  unfold Qw
  exact List.mem_flatMap.2 ⟨g.ts[a],List.getElem_mem ha,List.getElem_mem hb⟩)
 simp only[opB,Y3,Bool.and_eq_true,decide_eq_true_eq]at this
 exact⟨(Q3 g (readH g)[i]).toNat,by rw[hk];omega,by rw[hk];omega⟩
theorem jhj (hmay:XU g=true):g.ks.length≤40∧g.ts.length≤40:=by
 unfold XU at hmay
 simp only[Bool.and_eq_true]at hmay
 have h:=hmay.1
 unfold XO at h
 simp only[Bool.and_eq_true,decide_eq_true_eq]at h
 exact⟨h.2.2.2.1,h.2.2.2.2⟩
theorem j1o (hm:WX g M=true) {r:Int × Int × Int}(hr:r∈rdsF g M):∃ (i:Nat) (p:Int × Int) (m:Int),(readH g)[i]? = some p∧M[i]? = some m∧r=(p.1,m,Q3 g p):=by
 unfold rdsF at hr
 obtain⟨⟨p,m⟩,hx,rfl⟩:=List.mem_map.1 hr
 obtain⟨i,hi⟩:=List.mem_iff_getElem?.1 hx
 obtain⟨h1,h2⟩:=List.getElem?_zip_eq_some.1 hi
 exact⟨i,p,m,h1,h2,rfl⟩
theorem jzk (hm:WX g M=true):∀r∈rdsF g M,RdOk r:=fun r hr=>by
 obtain⟨i,p,m,h1,h2,rfl⟩:=j1o hm hr
 have hmay:=Yw (Jt hm)
 have hl:=jhj hmay
 obtain⟨hi,rfl⟩:=List.getElem?_eq_some_iff.1 h1
 obtain⟨k,hk,hk2⟩:=jm9 hmay hi
 obtain⟨a,ea,ha⟩:=comL_mem.1 (jc3 (List.getElem_mem hi))
 have:=JS ha
 refine⟨⟨by omega,by omega⟩,?_,by show 0≤Q3 g _;omega,by show Q3 g _<64;omega⟩
 show m<64
 rcases jlo hm (List.mem_of_getElem? h2) with h|h
 ·omega
 ·obtain⟨b,eb,hb⟩:=comL_mem.1 h
  have:=JS hb
  omega
theorem jdb (p:Nat→Bool) (L:List Nat) (a:Nat):(JZ 0 (L.filter p)).testBit a=decide (a∈L∧p a=true):=by
 rw[jh3,Nat.zero_testBit,Bool.false_or,Bool.eq_iff_iff,List.contains_iff_mem,List.mem_filter,decide_eq_true_eq]
theorem js0 (hm:WX g M=true) (h8:g.ts.length≤8) (w t:Nat):jw7 (rdsF g M) (Wm g) (WG g) w t=jfl g M (fun a=>w.testBit a) t:=by
 have hmay:=Yw (Jt hm)
 unfold jw7 jfl
 congr 1
 ·rw[Bool.eq_iff_iff,List.all_eq_true,andTo_iff]
  constructor
  ·intro h a ha
   by_cases hc:JF g a=true
   ·by_cases hse:sesAt g a=sesAt g t
    ·have hlt:=JS hc
     have:=h a (bitsUp_mem.2 ⟨by omega,by unfold Wm;rw[jdb,decide_eq_true_eq];exact⟨comN_mem.2 hc,by simp[YS,hse,ha]⟩⟩)
     simp[this]
    ·simp[hse]
   ·simp[hc]
  ·intro h a ha
   have hb:=(bitsUp_mem.1 ha).2
   unfold Wm at hb
   rw[jdb,decide_eq_true_eq]at hb
   obtain⟨h1,h2⟩:=hb
   simp only[YS,Bool.and_eq_true,decide_eq_true_eq,beq_iff_eq]at h2
   have:=h a h2.1
   simpa[comN_mem.1 h1,h2.2] using this
 ·rw[List.not_any_eq_all_not,rdsF,List.all_map,Bool.eq_iff_iff,List.all_eq_true,List.all_eq_true]
  refine forall_congr' fun x=>forall_congr' fun hx=>?_
  obtain⟨p,m⟩:=x
  obtain⟨i,hi⟩:=List.mem_iff_getElem?.1 hx
  obtain⟨h1,h2⟩:=List.getElem?_zip_eq_some.1 hi
  obtain⟨hi',rfl⟩:=List.getElem?_eq_some_iff.1 h1
  obtain⟨k,hk,hk2⟩:=jm9 hmay hi'
  have hW:(WG g t).testBit k=Y1 g t k:=by
   unfold WG WF
   rw[jdb,Bool.eq_iff_iff,decide_eq_true_eq,List.mem_range]
   exact⟨fun h=>h.2,fun h=>⟨hk2,h⟩⟩
  simp only[Function.comp,barB,hk,Int.toNat_natCast,hW,jbi]
  split
  ·cases decide (m<0) <;> cases w.testBit m.toNat <;> rfl
  ·cases w.testBit (readH g)[i].1.toNat <;> cases decide (m<0) <;> cases w.testBit m.toNat <;> cases Y1 g t k <;> rfl
end
def jkm (vis:List Nat):List (Int × Int):=vis.map fun v:Nat=>((v:Int),(1:Int))
theorem jmu (y:Nat):∀vis:List Nat,(match jf (jkm vis) (y:Int) with|some p=>jbe p.2|none=>V.int .i64 0)=.int .i64 (if vis.contains y then 1 else 0)
 | []=>rfl
 | v::vis=>by
  have ih:=jmu y vis
  unfold jkm at ih ⊢
  rw[List.map_cons,jf,List.contains_cons]
  by_cases h:y=v
  ·subst h
   simp[jbe]
  ·have h1:¬ (y:Int)=v:=by omega
   have h2:(y == v)=false:=by simpa using h
   rw[if_neg h1,h2,Bool.false_or,← ih]
   cases jf (vis.map fun v:Nat=>((v:Int),(1:Int))) (y:Int) <;> rfl
theorem j0t {w:Nat}{vis:List Nat}(h:w ∉ vis):YH (jkm vis) (w:Int) 1=jkm (vis++[w]):=by
 have:jf (jkm vis) (w:Int)=none:=by
  rw[mfind_none]
  unfold jkm
  rw[List.map_map,List.mem_map]
  rintro⟨v,hv,e⟩
  have e2:(v:Int)=w:=by simpa using e
  have:v=w:=by omega
  exact h (this▸hv)
 unfold YH
 rw[this]
 simp[jkm]
theorem jmt {ob:ZO}{l u:Nat}{vis:List Nat}{y:Nat}(h:jQ ob l u=some (MK .u64 jbe (jkm vis))):XV ob .int (.int .i64 0) false (.map l u) (.int .u64 (y:Int))=some (.int .i64 (if vis.contains y then 1 else 0)):=by
 rw[jbw (q:=.u64) (f:=jbe) _ h,← jmu y vis]
 cases jf (jkm vis) (y:Int) <;> rfl
def OrdV (ob:ZO) (lo hi:Nat) (ov:V) (done:List Nat):Prop :=
 (ov=.sl none true 0 []∧done=[])∨∃u cs,ov=.osl (2*u+1) u 0 done.length 1∧ob (2*u+1)=some ⟨u,.cells ((ints done).flatMap intC++cs)⟩∧lo≤u∧u<hi
theorem OrdV.frame {ob ob':ZO}{lo hi hi':Nat}{ov:V}{done:List Nat}(h:OrdV ob lo hi ov done) (hf:∀u,lo≤u→u<hi→ob' (2*u+1)=ob (2*u+1)) (hh:hi≤hi'):OrdV ob' lo hi' ov done:=by
 rcases h with h|⟨u,cs,h1,h2,h3,h4⟩
 ·exact .inl h
 ·exact .inr ⟨u,cs,h1,(hf u h3 h4).trans h2,h3,by omega⟩
structure OnC where
 g:Hist'
 M:List Int
 N:FN
 rv:V
 tc:Option (Nat × Nat)
 most:Int
 n0:Nat
 n1:Nat
 uS:Nat
def OnC.al (c:OnC):V:=.sl c.tc (comL c.g).isEmpty (comL c.g).length ((comL c.g).flatMap intC)
structure OnC.Ok (c:OnC):Prop where
 m:WX c.g c.M=true
 l:c.g.ts.length≤8
 f:Off c.n0 c.N.kF
 v:Off c.n0 c.N.kV
 fv:c.N.kF≠c.N.kV
 s:c.n0≤c.uS∧c.uS<c.n1
 r:(rdsF c.g c.M).length≤1000000
structure OnS (c:OnC) (w:Nat) (done vis:List Nat) (sp:Bool) (ob:ZO) (ub:Nat):Prop where
 f:∃ov,ob c.N.kF=some ⟨c.N.uF,.cells (fdC c.g c.N c.rv c.al ov c.most sp)⟩∧OrdV ob c.n1 ub ov done
 d:Fd c.N c.rv (rdsF c.g c.M) (comN c.g) (Wm c.g) (WG c.g) c.n0 ob
 v:∃ver,ob c.N.kV=some ⟨c.N.uV,.mp ver (MK .u64 jbe (jkm vis))⟩
 s:ob (2*c.uS+1)=some ⟨c.uS,.cells (setC w)⟩
def OnC.Rest (c:OnC) (ob ob':ZO):Prop:=∀key,Off c.n1 key→key≠c.N.kF→key≠c.N.kV→key≠2*c.uS+1→ob' key=ob key
theorem OnC.Ok.fix {c:OnC}(h:c.Ok) {key:Nat}(hk:FixF c.N c.n0 key):Off c.n1 key∧key≠c.N.kF∧key≠c.N.kV∧key≠2*c.uS+1:=by
 have:=h.s
 exact⟨hk.o.up (by omega),hk.f,hk.v,hk.o c.uS this.1⟩
def OnR (c:OnC) (w:Nat) (done:List Nat) (R:R3) (ob:ZO) (ub:Nat) (r:V × (ZO) × (Nat→Bool) × Nat):Prop :=
 r.1=.bool R.1.isSome∧ub≤r.2.2.2∧c.Rest ob r.2.1∧∃w' done',OnS c w' done' R.2.2 R.2.1 r.2.1 r.2.2.2∧(∀l,R.1=some l→done'=l)∧(R.1=none→R.2.1=false→w'=w∧done'=done)
theorem jfa {k:Nat}:∀ {L:List Nat}{w:Nat},w<2 ^ k→(∀a∈L,a<k)→JZ w L<2 ^ k
 | [],_,hw,_=>hw
 | a::L,w,hw,h=>by
  refine jfa (L:=L) (w:=w ||| 1 <<< a) (Nat.or_lt_two_pow hw ?_) fun b hb=>h b (List.mem_cons_of_mem _ hb)
  rw[Nat.one_shiftLeft]
  exact Nat.pow_lt_pow_right (by decide) (h a (List.mem_cons_self ..))
section
variable {c:OnC}
theorem cl_lt (hc:c.Ok) {t:Nat}(h:t∈comN c.g):t<8:=by
 have:=JS (comN_mem.1 h)
 have:=hc.l
 omega
theorem jy3 (hc:c.Ok) (t:Nat):Wm c.g t<512:=by
 have:Wm c.g t<2 ^ 9:=jfa (by decide) fun a ha=>by
  have:=cl_lt hc (List.mem_filter.1 ha).1
  omega
 exact this
theorem jqu (hc:c.Ok) (t:Nat):WG c.g t<2 ^ 64:=Yg (by decide) fun a ha=>by
 have:=List.mem_range.1 (List.mem_filter.1 ha).1
 have:=(jhj (Yw (Jt hc.m))).1
 omega
end
def OnP (c:OnC) (n:Nat):Prop:=∀ (Yf:YF) (w:Nat) (done vis:List Nat) (ob:ZO) (tk:Nat→Bool) (ro base ub:Nat),OnS c w done vis false ob ub→done.length+n=(comN c.g).length→w<256→w ∉ vis→c.n1≤ub→ro≤c.n1→ro≤c.N.uF→ro≤c.N.uV→ro≤c.uS →
 ∃r,EvS E Yf.y 77 [.ptr c.N.kF c.N.uF 0,.ptr (2*c.uS+1) c.uS 0] ob tk ro base ub r∧OnR c w done (onM (nxM c.g c.M) (comN c.g) c.most n w done vis) ob ub r
theorem jsi {nx:Nat→Nat→Bool}{C:List Nat}{most:Int}{w:Nat}{done vis:List Nat}(h:(vis.length:Int)=most):∀n,onM nx C most n w done vis=(none,true,vis)
 | 0=>by rw[onM,if_pos h]
 | n+1=>by rw[onM,if_pos h]
theorem jjr {F:Env}{Yf:YF}{lo hi t ub:Nat}{ov:V}{done:List Nat}{s x:A}{st:St}{K:St→Nat→Prop}{d:Option Nat}(hs:eval F st.tm s=ov) (hO:OrdV st.ob lo hi ov done) (hro:st.ro≤lo) (hx:jM st.ob 1 (eval F st.tm x)=some [.int .i64 (t:Int)]) (hl:done.length≤1000)
 (h:∀kl:List Nat,(kl=[]∨∃u,lo≤u∧u<hi∧kl=[2*u+1])→jad K st d ub { v:=.osl (2*ub+1) ub 0 (done.length+1) 1,obs:=[(2*ub+1,⟨ub,.cells ((ints (done++[t])).flatMap intC)⟩)],kill:=kl }):j9 F Yf ⟨d,.append true 1 8 s x,none,true⟩ st ub K:=by
 rcases hO with⟨rfl,rfl⟩|⟨u,cs,rfl,hob,h1,h2⟩
 ·refine Yp hs hx (by simp) (by decide) rfl (by simp) (by simp) ?_
  simpa[intC,jL,ints] using h [] (.inl rfl)
 ·have hlen:((ints done).flatMap intC).length=done.length:=by rw[j8 jB,QV];omega
  refine QT (cs:=(ints done).flatMap intC++cs) hs hx hob (by simp) (by omega) (by rw[List.length_append];omega) (by decide) rfl (by simp;omega) (by simp;omega) ?_
  have:=h [2*u+1] (.inr ⟨u,h1,h2,rfl⟩)
  rw[Nat.mul_one,List.take_left' hlen]
  simpa[intC,jL,ints] using this
section
variable {c:OnC}
theorem OnS.upd {w:Nat}{done vis vis':List Nat}{sp:Bool}{ob ob':ZO}{ub ub':Nat}(h:OnS c w done vis sp ob ub) (hc:c.Ok) (hn:c.n1≤ub) (hu:ub≤ub') (hk:∀key,Off ub key→key≠c.N.kV→ob' key=ob key) (hV:∃ver,ob' c.N.kV=some ⟨c.N.uV,.mp ver (MK .u64 jbe (jkm vis'))⟩):OnS c w done vis' sp ob' ub':=by
 obtain⟨ov,hF,hO⟩:=h.f
 have gS:=hc.s
 refine⟨⟨ov,(hk _ (hc.f.up (by omega)) hc.fv).trans hF,hO.frame (fun u h1 h2=>hk _ (Off.new h2) fun e=>hc.v u (by omega) e.symm) hu⟩,h.d.keep fun key h=>hk _ (h.o.up (by omega)) h.v,hV,(hk _ (Off.new (by omega)) fun e=>hc.v c.uS gS.1 e.symm).trans h.s⟩
theorem OnS.keep {w:Nat}{done vis:List Nat}{sp:Bool}{ob ob':ZO}{ub ub':Nat}(h:OnS c w done vis sp ob ub) (hc:c.Ok) (hn:c.n1≤ub) (hu:ub≤ub') (hk:∀key,Off ub key→ob' key=ob key):OnS c w done vis sp ob' ub':=by
 obtain⟨ver,hV⟩:=h.v
 have gS:=hc.s
 exact h.upd hc hn hu (fun key h _=>hk key h) ⟨ver,(hk _ (hc.v.up (by omega))).trans hV⟩
set_option maxHeartbeats 4000000 in
theorem jsg (hc:c.Ok) (n:Nat) (ih:∀k,n=k+1→OnP c k):OnP c n:=by
 intro Yf w done vis ob tk ro base ub hS hdn hw hwv hn1 ho1 ho2 ho3 ho4
 obtain⟨ov,hF,hO⟩:=hS.f
 obtain⟨ver,hV⟩:=hS.v
 have hKS:=hS.s
 have gS:=hc.s
 have oF:=(hc.f.up (show c.n0≤ub by omega)).ne
 have oV:=(hc.v.up (show c.n0≤ub by omega)).ne
 have nS:∀m,ub≤m→¬ c.uS=m:=fun m hm=>by omega
 have fv:=hc.fv
 have fs:c.N.kF≠2*c.uS+1:=hc.f c.uS gS.1
 have vs:c.N.kV≠2*c.uS+1:=hc.v c.uS gS.1
 have hvl:(jkm vis).length=vis.length:=by simp[jkm]
 refine Wo (af:=S77) rfl (by decide) ?_
 show wpC E Yf S77.body _ (jab S77.res _)
 simp(disch:=first|(simp;done)|omega) [S77,j1,hF,fdC,jQ,hV,hvl]
 by_cases hmost:(vis.length:Int)=c.most
 ·simp(disch:=first|(simp;done)|omega) [hmost,j1,hF,fdC,j7]
  refine⟨ho2,QG (by simp) ?_⟩
  rw[jsi hmost]
  refine⟨by simp,by simp;omega,fun key hk h1 h2 h3=>by simp[h1],w,done,⟨⟨ov,by simp[fdC],hO.frame (fun u h1 h2=>?_) (by simp;omega)⟩,hS.d.keep fun key hk=>by simp[hk.f],⟨ver,by simp[Ne.symm fv,hV]⟩,by simp[Ne.symm fs,hKS]⟩,fun l h=>(by cases h),fun _ h=>(by cases h)⟩
  have:2*u+1≠c.N.kF:=fun e=>hc.f u (by omega) e.symm
  simp[this]
 have hmost':((vis.length:Int) == c.most)=false:=by simpa using hmost
 have hwc:vis.contains w=false:=by simpa using hwv
 simp(disch:=first|(simp;done)|omega) [hmost',j1,hF,fdC]
 refine jen (vs:=[.ptr (2*c.uS+1) c.uS 0]) (by simp) rfl rfl (jz6 (w:=w) (by simpa using hKS) (Off.new (by first|omega|(simp;done)|(simp;omega))) (by omega) _ _) (Jo rfl) ?_
 simp
 rw[jmt (vis:=vis) (y:=w) (by simp[jQ,hV]),hwc,if_neg (by decide)]
 simp[show IntKind.i64.wrap 1=1 from rfl]
 refine jpw (q:=.u64) (f:=jbe) (a:=1) (ver:=ver) (k:=(w:Int)) (l:=c.N.kV) (u:=c.N.uV) (jkm vis) (by simp) (by simp) (by simp[jbe,V.strip]) (by simp[hV]) (by simpa using ho3) ?_
 rw[j0t hwv]
 simp
 have hlen:∀ob':ZO,ja2 ov=some (.int .i64 (done.length:Nat)):=fun _=>by
  rcases hO with⟨rfl,rfl⟩|⟨u,cs,rfl,_⟩ <;> rfl
 have hcl:=Qb c.g
 simp(disch:=first|(simp;done)|omega) [j1,hF,fdC,OnC.al,fv,hlen ob]
 by_cases h0:n=0
 ·subst h0
  have e0:(done.length:Int)=(comL c.g).length:=by omega
  simp[e0]
  refine QG (by simp) ?_
  rw[onM,if_neg hmost]
  refine⟨by simp,by first|omega|(simp;done)|(simp;omega),fun key hk h1 h2 h3=>by simp[h2],w,done,hS.upd hc hn1 (by first|omega|(simp;done)|(simp;omega)) (fun key hk h=>by simp[h]) ⟨ver+1,by simp⟩,fun l h=>by cases h;rfl,fun h=>by cases h⟩
 ·obtain⟨k,rfl⟩:∃k,n=k+1:=⟨n - 1,by omega⟩
  have e0:((done.length:Int) == (comL c.g).length)=false:=by simp;omega
  simp[e0]
  simp(disch:=first|(simp;done)|omega) [j1,hF,fdC,OnC.al,fv]
  refine JJ fun st hst=>?_
  have g0:st.tm 0=.ptr c.N.kF c.N.uF 0:=by rw[hst];simp
  have g1:st.tm 1=.ptr (2*c.uS+1) c.uS 0:=by rw[hst];simp
  have g42:st.tm 42=.sl c.tc (comL c.g).isEmpty (comL c.g).length ((comL c.g).flatMap intC):=by rw[hst];simp
  have g43:st.tm 43=.int .i64 (comL c.g).length:=by rw[hst];simp
  have g44:st.tm 44=.int .i64 0:=by rw[hst];simp
  have gd:st.df=[]:=by rw[hst];simp
  have gr:st.ro=ro:=by rw[hst];simp
  have gn:ub≤st.nx:=by rw[hst];simp;omega
  have gO:OnS c w done (vis++[w]) false st.ob st.nx:=hS.upd hc hn1 gn (fun key hk h=>by rw[hst];simp[h]) ⟨ver+1,by rw[hst];simp⟩
  have gR:c.Rest ob st.ob:=fun key hk h1 h2 h3=>by rw[hst];simp[h2]
  clear hst
  obtain⟨R,hR⟩:∃R,R=loopM (onM (nxM c.g c.M) (comN c.g) c.most k) (nxM c.g c.M) w done (comN c.g) (vis++[w]):=⟨_,rfl⟩
  have hon:onM (nxM c.g c.M) (comN c.g) c.most (k+1) w done vis=R:=by rw[onM,if_neg hmost,hR]
  rw[hon]
  obtain⟨J,hJ⟩:∃J:Nat→St→Prop,J=fun i s=>s.tm 44=.int .i64 i∧(∃vis,OnS c w done vis false s.ob s.nx∧R=loopM (onM (nxM c.g c.M) (comN c.g) c.most k) (nxM c.g c.M) w done ((comN c.g).drop i) vis)∧c.Rest ob s.ob∧ub≤s.nx:=⟨_,rfl⟩
  refine jF [(4,4),(6,6),(44,108)] (comL c.g).length J rfl rfl (by rw[hJ];exact⟨by simpa using g44,⟨_,gO,hR⟩,gR,gn⟩) ?_
  clear gO gR gn hF hV hO hS hKS hR hon hlen
  intro i s hi hJs f
  rw[hJ]at hJs
  obtain⟨s44,⟨vis,sS,sR⟩,sw,sn⟩:=hJs
  have s0:s.tm 0=.ptr c.N.kF c.N.uF 0:=by rw[f.t 0 (by simp)];simp[g0]
  have s1:s.tm 1=.ptr (2*c.uS+1) c.uS 0:=by rw[f.t 1 (by simp)];simp[g1]
  have s42:s.tm 42=.sl c.tc (comL c.g).isEmpty (comL c.g).length ((comL c.g).flatMap intC):=by rw[f.t 42 (by simp)];simp[g42]
  have s43:s.tm 43=.int .i64 (comL c.g).length:=by rw[f.t 43 (by simp)];simp[g43]
  have sd:s.df=[]:=by rw[f.d];simp[gd]
  have sr:s.ro=ro:=by rw[f.r];simp[gr]
  clear f
  by_cases hlt:i<(comL c.g).length
  ·have hltN:i<(comN c.g).length:=by omega
   obtain⟨t,ht⟩:∃t,t=(comN c.g)[i]:=⟨_,rfl⟩
   have htm:t∈comN c.g:=ht▸List.getElem_mem hltN
   have ht8:=cl_lt hc htm
   have hti:(comL c.g)[i]=(t:Int):=by
    have h1:(comL c.g)[i]? = (ints (comN c.g))[i]?:=by rw[QI]
    rw[List.getElem?_eq_getElem hlt]at h1
    unfold ints at h1
    rw[List.getElem?_map,List.getElem?_eq_getElem hltN]at h1
    simpa[ht] using h1
   have hll:=hc.l
   have hcl2:=ja8 c.g
   have hwk:=jv hlt (by omega)
   have hix:=Jx jB c.tc (comL c.g).isEmpty (comL c.g) .i64 hlt
   have hia:=JP (comL c.g) hlt
   rw[hti]at hia
   rw[List.drop_eq_getElem_cons hltN,← ht,loopM]at sR
   obtain⟨ov,hF,hO⟩:=sS.f
   obtain⟨ver,hV⟩:=sS.v
   have hKS:=sS.s
   simp(disch:=first|(simp;done)|omega) [s44,s43,s42,s1,hlt,hix,hia]
   refine jen (vs:=[.ptr (2*c.uS+1) c.uS 0,.int .i64 t]) (by simp) rfl rfl (jj6 (w:=w) (n:=t) (by simpa using hKS) (Off.new (by first|omega|(simp;done)|(simp;omega))) (by omega) (by omega) _ _) (Jo rfl) ?_
   have hnext:=js0 hc.m hc.l w t
   have hskip:(w.testBit t || (!nxM c.g c.M w t || vis.contains (w ||| 1 <<< t)))=true→R=loopM (onM (nxM c.g c.M) (comN c.g) c.most k) (nxM c.g c.M) w done ((comN c.g).drop (i+1)) vis:=fun h=>by rw[sR,if_pos h]
   cases hb:w.testBit t
   ·simp(disch:=first|(simp;done)|omega) [s0,s1]
    refine jen (vs:=[.ptr c.N.kF c.N.uF 0,.ptr (2*c.uS+1) c.uS 0,.int .i64 t]) (by simp) rfl rfl (evo82 (g:=c.g) (rv:=c.rv) (al:=c.al) (ov:=ov) (most:=c.most) (sp:=false) (n0:=c.n0) (w:=w) (t:=t) (sS.d.keep fun _ _=>by simp) (by simpa using hF) (hc.f.up (by first|omega|(simp;done)|(simp;omega))) (by simpa using hKS) (Off.new (by first|omega|(simp;done)|(simp;omega))) (by first|omega|(simp;done)|(simp;omega)) (by omega) htm (jy3 hc t) (jqu hc t) (jzk hc.m) hc.r _ _) (Jo rfl) ?_
    rw[hnext]
    rw[show jfl c.g c.M (fun a=>w.testBit a) t=nxM c.g c.M w t from rfl]
    cases hx:nxM c.g c.M w t
    ·simp(disch:=first|(simp;done)|omega) [s44,hwk,hlt]
     rw[hJ]
     exact⟨by simp,⟨vis,sS.keep hc (by omega) (by first|omega|(simp;done)|(simp;omega)) fun key _=>by simp,hskip (by simp[hx])⟩,fun key hk h1 h2 h3=>by simpa using sw key hk h1 h2 h3,by first|omega|(simp;done)|(simp;omega)⟩
    ·simp(disch:=first|(simp;done)|omega) [s0,s1,j1,hF,fdC]
     refine jen (vs:=[.ptr (2*c.uS+1) c.uS 0]) (by simp) rfl rfl (jz6 (w:=w) (by simpa using hKS) (Off.new (by first|omega|(simp;done)|(simp;omega))) (by omega) _ _) (Jo rfl) ?_
     have e1:=jg1 (n:=t) (by omega)
     have e2:=jik (a:=w) (b:=1 <<< t) (by omega) (jnj (by omega))
     generalize hp1:1 <<< t=p1 at e1 e2 hskip sR
     generalize hp2:w ||| p1=p2 at e2 hskip sR
     simp(disch:=first|(simp;done)|omega) [e1,e2]
     rw[jmt (vis:=vis) (y:=p2) (by simp[jQ,hV])]
     cases hv:vis.contains p2
     ·have hR2:(∀l sp v,onM (nxM c.g c.M) (comN c.g) c.most k p2 (done++[t]) vis=(some l,sp,v)→R=(some l,sp,v))∧(∀v,onM (nxM c.g c.M) (comN c.g) c.most k p2 (done++[t]) vis=(none,true,v)→R=(none,true,v)) ∧
       ∀v,onM (nxM c.g c.M) (comN c.g) c.most k p2 (done++[t]) vis=(none,false,v)→R=loopM (onM (nxM c.g c.M) (comN c.g) c.most k) (nxM c.g c.M) w done ((comN c.g).drop (i+1)) v:=by
       rw[sR,if_neg (by rw[hb,hx,hv];simp)]
       exact⟨fun l sp v h=>by rw[h],fun v h=>by rw[h],fun v h=>by rw[h]⟩
      have hp2':w ||| 1 <<< t=p2:=by rw[hp1];exact hp2
      simp
      refine JR (vs:=[.ptr (2*c.uS+1) c.uS 0,.int .i64 t]) (by simp[s1]) rfl (sv81 (w:=w) (by simpa using hKS) (Off.new (by first|omega|(simp;done)|(simp;omega))) (by first|omega|(simp[sr];omega)) (by omega) (by omega)) ?_
      rintro v1 ob1 tk1 ub1 ⟨r1,r2,r3⟩
      simp only at r1 r2 r3
      rw[hp2']at r2
      have q1:s.nx≤ub1:=by first|omega|(simp at r3;omega)
      have q2:∀key,Off s.nx key→ob1 key=if key=2*c.uS+1 then some ⟨c.uS,.cells (setC p2)⟩ else s.ob key:=fun key hk=>by
       rw[r2 key (hk.up (by first|omega|(simp;done)|(simp;omega)))]
       simp
      clear r1 r2 r3
      have hF1:ob1 c.N.kF=some ⟨c.N.uF,.cells (fdC c.g c.N c.rv c.al ov c.most false)⟩:=by rw[q2 _ (hc.f.up (by omega)),if_neg fs];exact hF
      simp(disch:=first|(simp;done)|omega) [s0,j1,hF1,fdC]
      refine Xg (cs:=[.int .i64 (t:Int)]) (by simp[j7]) rfl rfl ?_
      simp
      refine jjr (lo:=c.n1) (hi:=s.nx) (done:=done) (t:=t) (ov:=ov) (by simp) (hO.frame (fun u h1 h2=>?_) (Nat.le_refl _)) (by simpa[sr] using ho1) (by simp[jM,j1]) (by omega) fun kl hkl=>?_
      ·have h3:∀m,s.nx≤m→¬ u=m:=fun m hm=>by omega
       simp(disch:=first|(simp;done)|omega) [two_inj,h3]
       rw[q2 _ (Off.new h2),if_neg (by omega)]
      have hkF:kl.any (Nat.beq c.N.kF)=false:=by
       rcases hkl with rfl|⟨u,h1,h2,rfl⟩
       ·rfl
       ·simp only[List.any_cons,List.any_nil,Bool.or_false]
        exact XI (hc.f u (by omega))
      have hk1:∀key,Off c.n1 key→kl.any (Nat.beq key)=false:=fun key hk=>by
       rcases hkl with rfl|⟨u,h1,h2,rfl⟩
       ·rfl
       ·simp only[List.any_cons,List.any_nil,Bool.or_false]
        exact XI (hk u h1)
      generalize hcs:List.flatMap intC (ints (done++[t]))=cs9
      simp(disch:=first|(simp;done)|omega) [j1,hF1,fdC,hkF,j7,jw,oF]
      refine⟨by simpa[sr] using ho2,?_⟩
      simp(disch:=first|(simp;done)|omega) [s0,s1]
      refine JR (vs:=[.ptr c.N.kF c.N.uF 0,.ptr (2*c.uS+1) c.uS 0]) (by simp) rfl (ih k rfl Yf p2 (done++[t]) vis _ _ _ _ _ ?_ (by simp;omega) ?_ (by simpa using hv) (by first|omega|(simp;done)|(simp;omega)) (by simpa[sr] using ho1) (by simpa[sr] using ho2) (by simpa[sr] using ho3) (by simpa[sr] using ho4)) ?_
      ·have nkF:¬ 2*(ub1+448)+1=c.N.kF:=fun e=>oF (ub1+448) (by omega) e.symm
       refine⟨⟨.osl (2*(ub1+448)+1) (ub1+448) 0 (done.length+1) 1,by simp[fdC,Nat.add_assoc],.inr ⟨ub1+448,[],by simp,?_,by omega,by first|omega|(simp;done)|(simp;omega)⟩⟩,sS.d.keep fun key hk=>?_,⟨ver,?_⟩,?_⟩
       ·simp(disch:=first|(simp;done)|omega) [jw,Nat.add_assoc,nkF,hcs]
       ·obtain⟨f1,f2,f3,f4⟩:=hc.fix hk
        have f5:=(f1.up (show c.n1≤ub by omega)).ne
        simp(disch:=first|(simp;done)|omega) [jw,f2,f5,hk1 key f1]
        rw[q2 key (f1.up (by omega)),if_neg f4]
       ·have f1:=hc.v.up (show c.n0≤c.n1 by omega)
        have f5:=(f1.up (show c.n1≤ub by omega)).ne
        simp(disch:=first|(simp;done)|omega) [jw,Ne.symm fv,f5,hk1 _ f1]
        rw[q2 _ (f1.up (by omega)),if_neg vs]
        exact hV
       ·have f1:Off c.n1 (2*c.uS+1):=Off.new gS.2
        have f5:=(f1.up (show c.n1≤ub by omega)).ne
        simp(disch:=first|(simp;done)|omega) [jw,Ne.symm fs,f5,hk1 _ f1,two_inj,nS]
        rw[q2 _ (f1.up (by omega)),if_pos rfl]
      ·have:w ||| 1 <<< t<2 ^ 8:=Nat.or_lt_two_pow hw (by rw[Nat.one_shiftLeft];exact Nat.pow_lt_pow_right (by decide) ht8)
       rw[hp2']at this
       exact this
      ·rintro v2 ob2 tk2 ub2 ⟨r1,r2,r3,w',done',r4,r5,r6⟩
       simp only at r1 r2 r3 r4
       have q3:ub1≤ub2:=by first|omega|(simp at r2;omega)
       have hrest:c.Rest ob ob2:=fun key hk h1 h2 h3=>by
        rw[r3 key hk h1 h2 h3,← sw key hk h1 h2 h3]
        have f5:=(hk.up (show c.n1≤ub by omega)).ne
        simp(disch:=first|(simp;done)|omega) [jw,h1,f5,hk1 key hk]
        rw[q2 key (hk.up (by omega)),if_neg h3]
       clear r2 r3
       rcases hon2:onM (nxM c.g c.M) (comN c.g) c.most k p2 (done++[t]) vis with⟨o,sp,vv⟩
       rw[hon2]at r1 r4 r5 r6 hR2
       obtain⟨h1,h2,h3⟩:=hR2
       obtain⟨ov2,hF2,hO2⟩:=r4.f
       cases o with
       | some l=>
        rw[r1]
        simp
        refine QG (by simp[sd]) ?_
        rw[h1 l sp vv rfl]
        exact⟨by simp,by first|omega|(simp;done)|(simp;omega),fun key hk h1 h2 h3=>by simpa using hrest key hk h1 h2 h3,w',done',r4.keep hc (by omega) (by first|omega|(simp;done)|(simp;omega)) fun key _=>by simp,r5,fun h=>by cases h⟩
       | none=>
        rw[r1]
        cases sp with
        | true=>
         simp(disch:=first|(simp;done)|omega) [s0,j1,hF2,fdC]
         refine QG (by simp[sd]) ?_
         rw[h2 vv rfl]
         exact⟨by simp,by first|omega|(simp;done)|(simp;omega),fun key hk h1 h2 h3=>by simpa using hrest key hk h1 h2 h3,w',done',r4.keep hc (by omega) (by first|omega|(simp;done)|(simp;omega)) fun key _=>by simp,fun l h=>(by cases h),fun _ h=>by cases h⟩
        | false=>
         obtain⟨rfl,rfl⟩:=r6 rfl rfl
         rcases hO2 with⟨_,h⟩|⟨u,cs,rfl,hob,hu1,hu2⟩
         ·exact absurd h (by simp)
         have hwm:IntKind.i64.wrap (done.length:Int)=(done.length:Int):=JG (by omega) (by omega)
         have hsl:Wu 1 none (some (.int .i64 (done.length:Int))) (.osl (2*u+1) u 0 (done.length+1) 1)=some (.osl (2*u+1) u 0 done.length 1):=by
          have h1:(done.length:Int)≤(done.length:Int)+1:=by omega
          simp[Wu,Jy,h1]
         simp(disch:=first|(simp;done)|omega) [s0,j1,hF2,fdC,hwm,hsl,j7]
         refine⟨by simpa[sr] using ho2,?_⟩
         simp(disch:=first|(simp;done)|omega) [s1]
         have hS2:=r4.s
         refine JR (vs:=[.ptr (2*c.uS+1) c.uS 0,.int .i64 t]) (by simp) rfl (sv125 (w:=w') (by simpa[Ne.symm fs] using hS2) (Off.new (by first|omega|(simp;done)|(simp;omega))) (by first|omega|(simp[sr];omega)) (by omega)) ?_
         rintro v3 ob3 tk3 ub3 ⟨r7,r8,r9⟩
         simp only at r7 r8 r9
         have q4:ub2≤ub3:=by first|omega|(simp at r9;omega)
         have hdw:jqa w' t=w:=by rw[← hp2'];exact jyt (by omega) (by omega) hb
         rw[hdw]at r8
         have q5:∀key,Off ub2 key→ob3 key=if key=2*c.uS+1 then some ⟨c.uS,.cells (setC w)⟩ else if key=c.N.kF then some ⟨c.N.uF,.cells (fdC c.g c.N c.rv c.al (.osl (2*u+1) u 0 done.length 1) c.most false)⟩ else ob2 key:=fun key hk=>by
          rw[r8 key (hk.up (by first|omega|(simp;done)|(simp;omega)))]
          simp[fdC]
         clear r7 r8 r9
         simp[s44,hwk,hlt]
         rw[hJ]
         obtain⟨ver3,hV3⟩:=r4.v
         refine⟨by simp,⟨vv,⟨⟨.osl (2*u+1) u 0 done.length 1,?_,.inr ⟨u,.int .i64 (t:Int)::cs,rfl,?_,hu1,by first|omega|(simp;done)|(simp;omega)⟩⟩,r4.d.keep fun key hk=>?_,⟨ver3,?_⟩,?_⟩,h3 vv rfl⟩,fun key hk h1 h2 h3=>?_,by first|omega|(simp;done)|(simp;omega)⟩
         ·simp
          rw[q5 _ (hc.f.up (by omega)),if_neg fs,if_pos rfl]
         ·simp
          rw[q5 _ (Off.new (by omega)),if_neg (by omega),if_neg (fun e=>hc.f u (by omega) e.symm),hob]
          simp[ints,intC]
         ·obtain⟨f1,f2,f3,f4⟩:=hc.fix hk
          simp
          rw[q5 key (f1.up (by omega)),if_neg f4,if_neg f2]
         ·simp
          rw[q5 _ (hc.v.up (by omega)),if_neg vs,if_neg (Ne.symm fv)]
          exact hV3
         ·simp
          rw[q5 _ (Off.new (by omega)),if_pos rfl]
         ·simp
          rw[q5 key (hk.up (by omega)),if_neg h3,if_neg h1]
          exact hrest key hk h1 h2 h3
     ·simp[s44,hwk,hlt]
      rw[hJ]
      exact⟨by simp,⟨vis,sS.keep hc (by omega) (by first|omega|(simp;done)|(simp;omega)) fun key _=>by simp,hskip (by rw[hv];simp)⟩,fun key hk h1 h2 h3=>by simpa using sw key hk h1 h2 h3,by first|omega|(simp;done)|(simp;omega)⟩
   ·simp(disch:=first|(simp;done)|omega) [s44,hwk,hlt]
    rw[hJ]
    exact⟨by simp,⟨vis,sS.keep hc (by omega) (by first|omega|(simp;done)|(simp;omega)) fun key _=>by simp,hskip (by simp[hb])⟩,fun key hk h1 h2 h3=>by simpa using sw key hk h1 h2 h3,by first|omega|(simp;done)|(simp;omega)⟩
  ·have:i=(comL c.g).length:=by omega
   subst this
   rw[List.drop_of_length_le (by omega),loopM]at sR
   simp[s44,s43]
   refine QG (by simp[sd]) ?_
   rw[sR]
   exact⟨by simp,by first|omega|(simp;done)|(simp;omega),fun key hk h1 h2 h3=>by simpa using sw key hk h1 h2 h3,w,done,sS.keep hc (by omega) (by first|omega|(simp;done)|(simp;omega)) fun key _=>by simp,fun l h=>(by cases h),fun _ _=>⟨rfl,rfl⟩⟩
theorem sv77 (hc:c.Ok) (n:Nat):OnP c n:=by
 induction n with
 | zero=>exact jsg hc 0 fun k h=>by omega
 | succ n ih=>
  refine jsg hc (n+1) fun k h=>?_
  have:k=n:=by omega
  exact this▸ih
end
def jcv:List Int→List Int→Bool
 | a::l,b::m=>if a=b then jcv l m else decide (a<b)
 | _,_=>false
theorem jgl:∀ (a b:List Nat),jcv (ints a) (ints b)=jtf a b
 | [],_=>rfl
 | _::_,[]=>rfl
 | x::a,y::b=>by
  have:=jgl a b
  unfold ints at this ⊢
  simp only[List.map_cons,jcv,jtf,this]
  by_cases h:x=y
  ·simp[h]
  ·have:¬ (x:Int)=y:=by omega
   rw[if_neg h,if_neg this]
   simp
theorem jf6 {nx:Nat→Nat→Bool}:∀ {L:List Nat}{w:Nat},jfk nx w L=true→L.Nodup∧∀t∈L,w.testBit t=false
 | [],_,_=>⟨List.nodup_nil,fun _ h=>by cases h⟩
 | t::r,w,h=>by
  simp only[jfk,Bool.and_eq_true,Bool.not_eq_true']at h
  obtain⟨h1,_,h2⟩:=h
  obtain⟨q1,q2⟩:=jf6 h2
  have q3:∀a∈r,w.testBit a=false∧¬ t=a:=fun a ha=>by
   have:=q2 a ha
   rw[jcr]at this
   simpa using this
  rw[List.nodup_cons]
  refine⟨⟨fun h=>(q3 t h).2 rfl,q1⟩,fun a ha=>?_⟩
  rcases List.mem_cons.1 ha with h|h
  ·exact h▸h1
  ·exact(q3 a h).1
theorem jh1 (C:List Nat):cnt C 0=0:=by simp[cnt]
theorem jp1 {L:List Nat}(h:L.Nodup):(ints L).Nodup:=List.pairwise_map.2 (List.Pairwise.imp (fun h e=>h (by omega)) h)
def X8 (g:Hist') (M:List Int) (most:Int):R3:=onM (nxM g M) (comN g) most (comN g).length 0 [] []
section
variable {g:Hist'}{M:List Int}{most:Int}
theorem jp5 (hm:WX g M=true) {L:List Nat}(h:Full (nxM g M) (comN g) 0 L):JB g (ints L)=true:=by
 obtain⟨h1,h2,h3⟩:=h
 rw[jec (Jt hm)]
 rw[jh1]at h2
 refine Qu (jp1 (jf6 h3).1) (fun x hx=>?_) ?_
 ·unfold ints at hx
  obtain⟨a,ha,rfl⟩:=List.mem_map.1 hx
  exact comL_mem.2 ⟨a,rfl,comN_mem.1 (h1 a ha)⟩
 ·have:=Qb g
  simp only[ints,List.length_map]
  omega
theorem Wc (g:Hist') (M:List Int) (most:Int):Found (nxM g M) (comN g) 0 [] [] (X8 g M most):=jnk (jb8 g) (jhy g) _ 0 [] [] (by rw[jh1,Nat.zero_add]) fun v h=>by cases h
theorem juk (g:Hist') (M:List Int) (most:Int):(X8 g M most).2.2.length≤2 ^ (comL g).length:=by
 rw[← Qb]
 exact jxd (jb8 g) (jsh (jb8 g) _ 0 [] [] (fun t h=>by simp at h) (by simp) ⟨List.nodup_nil,fun _ h=>by cases h⟩)
theorem QW (hm:WX g M=true) {L:List Nat}(h:(X8 g M most).1=some L):JB g (ints L)=true:=by
 obtain⟨_,L',e,h1,_⟩:=(Wc g M most).yes L h
 rw[List.nil_append]at e
 subst e
 exact jp5 hm h1
theorem jl6 (hm:WX g M=true) (hb:∀t∈comL g,badH g t=[]) {L:List Nat}(h:(X8 g M most).1=some L):Jm g 3 M (ints L)=true:=by
 rw[← jf7 hm hb (QW hm h)]
 obtain⟨_,L',e,h1,_⟩:=(Wc g M most).yes L h
 rw[List.nil_append]at e
 subst e
 exact h1.2.2
theorem jl5 (hm:WX g M=true) (hb:∀t∈comL g,badH g t=[]) (hs:(X8 g M most).2.1=false) {O:List Int}(ho:JB g O=true) (h:Jm g 3 M O=true):∃L,(X8 g M most).1=some L∧jcv O (ints L)=false:=by
 have hp:=X1 ho
 have e:ints (O.map Int.toNat)=O:=by
  unfold ints
  rw[List.map_map]
  refine(List.map_congr_left fun x hx=>?_).trans (List.map_id _)
  obtain⟨k,rfl,_⟩:=comL_mem.1 (hp.mem_iff.1 hx)
  simp
 have hF:Full (nxM g M) (comN g) 0 (O.map Int.toNat):=by
  refine⟨fun t ht=>?_,?_,?_⟩
  ·obtain⟨x,hx,rfl⟩:=List.mem_map.1 ht
   obtain⟨k,rfl,hk⟩:=comL_mem.1 (hp.mem_iff.1 hx)
   exact comN_mem.2 (by simpa using hk)
  ·rw[jh1,Nat.zero_add,List.length_map,hp.length_eq,Qb]
  ·rw[jf7 hm hb (by rw[e];exact ho),e]
   exact h
 cases hr:(X8 g M most).1 with
 | none=>exact absurd hF (((Wc g M most).no hr hs).1 _)
 | some L=>
  obtain⟨_,L',e',_,h2⟩:=(Wc g M most).yes L hr
  rw[List.nil_append]at e'
  subst e'
  refine⟨L,rfl,?_⟩
  have:=h2 _ hF
  rw[← jgl,e]at this
  exact this
end
def YE (hold:List Int→Bool) (found:List Int):Nat→List Int→List Int→Bool
 | 0,head,_=>if found.isEmpty then !hold head else !hold head || !jcv head found
 | n+1,head,left=>XX (fun i=>YE hold found n (head++[left.getD i 0]) (left.eraseIdx i)) left.length
theorem Wf:∀ (l:List Int) (i:Nat) (h:i<l.length),(l[i]::l.eraseIdx i).Perm l
 | x::r,0,_=>by simp
 | x::r,i+1,h=>by
  have:=Wf r i (by simpa using h)
  simp only[List.getElem_cons_succ,List.eraseIdx_cons_succ]
  exact(List.Perm.swap x _ _).trans (List.Perm.cons x this)
theorem jga {hold:List Int→Bool}{found C:List Int}(h:∀O,O.Perm C→hold O=true→found≠[]∧jcv O found=false):∀ (n:Nat) (head left:List Int),left.length=n→(head++left).Perm C→YE hold found n head left=true
 | 0,head,left,hl,hp=>by
  have:left=[]:=List.length_eq_zero_iff.1 hl
  subst this
  rw[List.append_nil]at hp
  rw[YE]
  cases hh:hold head
  ·simp
  ·obtain⟨h1,h2⟩:=h head hp hh
   have:found.isEmpty=false:=by cases found with
    | nil=>exact absurd rfl h1
    | cons=>rfl
   simp[this,h2]
 | n+1,head,left,hl,hp=>by
  rw[YE,andTo_iff]
  intro i hi
  have e:left.getD i 0=left[i]:=by simp[List.getD_eq_getElem?_getD,List.getElem?_eq_getElem hi]
  rw[e]
  refine jga h n _ _ (by rw[List.length_eraseIdx_of_lt hi];omega) (List.Perm.trans ?_ hp)
  rw[List.append_assoc]
  refine List.Perm.append_left head ?_
  exact Wf left i hi
def jgr (g:Hist') (M:List Int) (most:Int):List Int × Int × Int :=
 if !JT g then ([],0,4) else if !WX g M || decide (most<0) then ([],0,2) else
  if (X8 g M most).2.1 then ([],(X8 g M most).2.2.length,13) else match (X8 g M most).1 with
   | none=>([],(X8 g M most).2.2.length,3)
   | some l=>(ints l,(X8 g M most).2.2.length,0)
def jva (r:List Int × Int × Int) (v:V):Prop:=∃nl,(nl=true→r.1=[])∧j40 [.sl none nl r.1.length (r.1.flatMap intC),.int .i64 r.2.1,.int .i64 r.2.2] v
theorem jr8 {st:St}{lo hi:Nat}{ov:V}{done:List Nat}(h:OrdV st.ob lo hi ov done) (hro:st.ro≤lo):∃nl,(nl=true→done=[])∧jy5 st ov (.sl none nl done.length ((ints done).flatMap intC)):=by
 rcases h with⟨rfl,rfl⟩|⟨u,cs,rfl,hob,h1,_⟩
 ·exact⟨true,fun _=>rfl,Jp rfl⟩
 ·refine⟨false,fun h=>(by cases h),jhc rfl fun keep i=>?_⟩
  have hlen:((ints done).flatMap intC).length=done.length:=by rw[j8 jB,QV];omega
  have hoc:j1 st.ob (2*u+1) u=some ((ints done).flatMap intC++cs):=by simp[j1,hob]
  have hs:JU st 6 (.osl (2*u+1) u 0 done.length 1)=some (.sl none false done.length ((ints done).flatMap intC)):=by
   show((j1 st.ob (2*u+1) u).bind fun cs=>if Nat.ble st.ro u=true∧0+done.length*1≤cs.length then (((cs.drop 0).take (done.length*1)).mapM (JU st 5)).map fun cs'=>V.sl none false done.length cs' else none)=_
   rw[hoc,Option.bind_some,if_pos ⟨Nat.ble_eq▸(by omega),by rw[List.length_append];omega⟩,List.drop_zero,Nat.mul_one,List.take_left' hlen,jbk]
   rfl
  simp only[jm,hs,Option.bind_some,hoc,Option.map_some]
  refine⟨_,rfl,?_⟩
  split
  ·exact .inr ⟨1,rfl⟩
  ·exact .inl rfl
theorem QB {st:St}{n e:Int}(hd:st.df=[]) (h6:st.tm 6=.sl none true 0 []) (h7:st.tm 7=.int .i64 n) (h8:st.tm 8=.int .i64 e):jem [.t 6,.t 7,.t 8] (jva ([],n,e)) .ret st :=
 tupE (ns:=[6,7,8]) (vs:=[.sl none true 0 [],.int .i64 n,.int .i64 e]) (ls:=[.sl none true 0 [],.int .i64 n,.int .i64 e]) (fun r h=>⟨true,fun _=>rfl,h⟩) hd (by simp[h6,h7,h8]) (by simp) (by simp) ⟨Jp rfl,Jp rfl,Jp rfl,trivial⟩
theorem juj {st:St}{lo hi:Nat}{ov:V}{l:List Nat}{n e:Int}(hd:st.df=[]) (h6:st.tm 6=ov) (h7:st.tm 7=.int .i64 n) (h8:st.tm 8=.int .i64 e) (hO:OrdV st.ob lo hi ov l) (hro:st.ro≤lo):jem [.t 6,.t 7,.t 8] (jva (ints l,n,e)) .ret st:=by
 obtain⟨nl,h1,h2⟩:=jr8 hO hro
 refine tupE (ns:=[6,7,8]) (vs:=[ov,.int .i64 n,.int .i64 e]) (ls:=[.sl none nl l.length ((ints l).flatMap intC),.int .i64 n,.int .i64 e]) (fun r h=>⟨nl,fun h=>by rw[h1 h];rfl,?_⟩) hd (by simp[h6,h7,h8]) (by simp) (by simp) ⟨h2,Jp rfl,Jp rfl,trivial⟩
 rw[QV]
 exact h
section
variable {g:Hist'}{M:List Int}
set_option maxHeartbeats 4000000 in
theorem ev34 (hs:Small g) (h8:g.ts.length≤8) {mn:Bool}(hM:M.length≤1000000) (most:Int):∃v,Ev E 34 [.agg (j2 g),jH mn intC M,.int .i64 most] v∧jva (jgr g M most) v:=by
 have e52:=ev52 hs
 have e53:=ev53 hs (b:=mn) M hM
 rw[j91]at e53
 refine YR (af:=F34) rfl (by decide) ?_
 simp(disch:=first|(simp;done)|omega) [F34,j1,j2]
 refine jU e52 (by simp[j2]) rfl (by simp[j2]) ?_
 unfold jgr
 cases hw:JT g
 ·simp
  exact QB (by simp) (by simp) (by simp) (by simp)
 simp(disch:=first|(simp;done)|omega) [j1,jH]
 refine jU e53 (by simp[j2,jH]) rfl (by simp[j2,jH]) ?_
 cases hm:WX g M
 ·simp(disch:=first|(simp;done)|omega)
  exact QB (by simp) (by simp) (by simp) (by simp)
 by_cases hmo:most<0
 ·simp(disch:=first|(simp;done)|omega) [hmo]
  exact QB (by simp) (by simp) (by simp) (by simp)
 simp(disch:=first|(simp;done)|omega) [hmo,j1]
 refine JR (vs:=[.agg (j2 g),jH mn intC M]) (by simp[j2,jH]) rfl (sv76 hs hm (by first|omega|(simp;done)|(simp;omega))) ?_
 rintro v1 ob1 tk1 ub1 ⟨b1,b2,N,rv,tc,b3,b4,b5,b6,b7,b8,b9,b10,b11⟩
 simp only at b1 b2 b3 b4 b5 b6 b7 b8
 subst b3
 simp(disch:=first|(simp;done)|omega) [j1,b4,fdC,j7]
 refine JR (vs:=[.sl none true 0 []]) (by simp) rfl j5a ?_
 rintro v2 ob2 tk2 ub2 ⟨m,m1,m2,m3,m4⟩
 simp only at m1 m2 m3 m4
 subst m3
 have hub:ub1≤m:=by first|omega|(simp at m1;omega)
 have hR:=W4 hs
 have hml:=jbt hm
 obtain⟨c,hcd⟩:∃c:OnC,c=⟨g,M,N,rv,tc,most,ub1,ub2,m⟩:=⟨_,rfl⟩
 have hc:c.Ok:=by
  rw[hcd]
  exact⟨hm,h8,b7,b8,b9,⟨hub,m2⟩,by rw[jg9 hml];omega⟩
 have n1:N.kF≠2*m+1:=b7 m hub
 have n2:N.kV≠2*m+1:=b8 m hub
 have q2:∀key,Off ub1 key→ob2 key=if key=N.kF then some ⟨N.uF,.cells (fdC g N rv (.sl tc (comL g).isEmpty (comL g).length ((comL g).flatMap intC)) (.sl none true 0 []) most false)⟩ else ob1 key:=fun key hk=>by
  rw[m4 key,if_neg (hk m hub)]
  simp[fdC]
 have hS:OnS c 0 [] [] false ob2 ub2:=by
  rw[hcd]
  refine⟨⟨.sl none true 0 [],by show ob2 N.kF=_;rw[q2 _ b7,if_pos rfl];rfl,.inl ⟨rfl,rfl⟩⟩,b5.keep fun key hk=>by rw[q2 key hk.o,if_neg hk.f],⟨0,by show ob2 N.kV=_;rw[q2 _ b8,if_neg (Ne.symm b9)];exact b6⟩,by rw[m4,if_pos rfl]⟩
 clear m4
 simp
 refine JR (vs:=[.ptr N.kF N.uF 0,.ptr (2*m+1) m 0]) (by simp) rfl (by
  have h:=sv77 hc (comN g).length Y0 0 [] [] ob2 tk2 0
  rw[hcd]at h hS
  exact h _ ub2 hS (by simp) (by decide) (by simp) (Nat.le_refl _) (Nat.zero_le _) (Nat.zero_le _) (Nat.zero_le _) (Nat.zero_le _)) ?_
 rintro v3 ob3 tk3 ub3 ⟨r1,r2,r3,w',done',r4,r5,r6⟩
 simp only at r1 r2 r4
 rw[show onM (nxM g M) (comN g) most (comN g).length 0 [] []=X8 g M most from rfl]at r1 r4 r5 r6
 obtain⟨ov3,hF3,hO3⟩:=r4.f
 obtain⟨ver3,hV3⟩:=r4.v
 simp only at hF3 hV3 hO3
 generalize X8 g M most=R at r1 r4 r5 r6 hF3 hV3 ⊢
 obtain⟨o,sp,vis⟩:=R
 simp only at r1 r5 r6 hF3 hV3
 have hvl:(jkm vis).length=vis.length:=by simp[jkm]
 rw[r1]
 cases sp with
 | true=>
  simp(disch:=first|(simp;done)|omega) [j1,jQ,hF3,hV3,fdC,hvl]
  exact QB (by simp) (by simp) (by simp) (by simp)
 | false=>
  cases o with
  | none=>
   simp(disch:=first|(simp;done)|omega) [j1,jQ,hF3,hV3,fdC,hvl]
   exact QB (by simp) (by simp) (by simp) (by simp)
  | some l=>
   have:=r5 l rfl
   subst this
   simp(disch:=first|(simp;done)|omega) [j1,jQ,hF3,hV3,fdC,hvl]
   exact juj (by simp) (by simp) (by simp) (by simp) (hO3.frame (fun _ _ _=>by simp) (Nat.le_refl _)) (by simp)
end
def inS (S:List Int) (a:Nat):Bool:=S.contains (a:Int)
def mayF (g:Hist') (M S:List Int) (t:Int):Bool:=WX g M && (decide (0≤t) && (JF g t.toNat && (!S.contains t && jfl g M (fun a=>JF g a && S.contains (a:Int)) t.toNat)))
theorem ev80 {a:Bool}(l:List Int) (hl:l.length≤1000000000) (k:Int):Ev E 80 [jH a intC l,.int .i64 k] (.bool (l.contains k)):=by
 refine jT (af:=F80) rfl ?_
 simp[F80]
 refine jU (ev127 (a:=a) l hl k) (by simp[jH]) rfl (by simp[jH]) ?_
 have:=jc9 k l 0
 simp
 refine j3 (by simp) ?_ rfl
 have h2:decide (0≤idxI l k 0)=l.contains k:=by
  cases h:l.contains k <;> rw[h]at this <;> simp at this ⊢ <;> omega
 simp[h2]
section
variable {g:Hist'}{M:List Int}
set_option maxHeartbeats 4000000 in
theorem ev37 (hs:Small g) (h8:g.ts.length≤8) {mn sn:Bool}(hM:M.length≤1000000) {S:List Int}(hS:S.length≤1000000) (t:Int):Ev E 37 [.agg (j2 g),jH mn intC M,jH sn intC S,.int .i64 t] (.bool (mayF g M S t)):=by
 have e53:=ev53 hs (b:=mn) M hM
 rw[j91]at e53
 refine jT (af:=F37) rfl ?_
 simp(disch:=first|(simp;done)|omega) [F37,j1,j2,jH]
 refine jU e53 (by simp[j2,jH]) rfl (by simp[j2,jH]) ?_
 unfold mayF
 cases hm:WX g M
 ·simp(disch:=first|(simp;done)|omega)
  exact j3 (by simp) (by simp) rfl
 by_cases h0:t<0
 ·simp(disch:=first|(simp;done)|omega) [h0]
  exact j3 (by simp) (by simp;omega) rfl
 obtain⟨n,rfl⟩:∃n:Nat,t=n:=⟨t.toNat,by omega⟩
 have h0':((n:Int)<0)=False:=by simp
 have e80:=ev80 (a:=sn) S (by omega)
 have e1:(decide (0≤(n:Int)))=true:=by simp
 rw[e1,Int.toNat_natCast]
 obtain⟨P,hP⟩:∃P:Nat→Bool,P=fun a=>JF g a && S.contains (a:Int):=⟨_,rfl⟩
 rw[← hP]
 by_cases hn:n<g.ts.length
 ·have hn':((g.ts.length:Int)≤n)=False:=by simp;omega
  have hf:=jh jA g.ts hn (by decide:1<3)
  have hf2:(g.ts.flatMap ji)[n*3+1]? = some (.int .i64 (g.ts[n]).f):=by rw[hf];rfl
  have hix:=j6 jA g.tn g.ts .i64 hn
  unfold jH at hix
  have hcm:JF g n=JE g.ts[n]:=by simp[JF,hn]
  simp(disch:=first|(simp;done)|omega) [j1,hn',h0',hix,hf2]
  cases hc:JE g.ts[n]
  ·have hc':(g.ts[n]).f≠1:=by simpa[JE] using hc
   have hc2:((g.ts[n]).f != 1)=true:=by simpa using hc'
   simp(disch:=first|(simp;done)|omega) [hc2,hcm,hc]
   exact j3 (by simp) (by simp) rfl
  ·have hc':(g.ts[n]).f=1:=by simpa[JE] using hc
   simp(disch:=first|(simp;done)|omega) [hc',hcm,hc]
   refine jU (e80 n) (by simp[jH]) rfl (by simp[jH]) ?_
   cases hS2:S.contains (n:Int)
   ·have hS3:¬ (n:Int)∈S:=by simpa using hS2
    simp(disch:=first|(simp;done)|omega) [j1]
    refine JR (vs:=[.agg (j2 g),jH mn intC M]) (by simp[j2,jH]) rfl (sv76 hs hm (by first|omega|(simp;done)|(simp;omega))) ?_
    rintro v1 ob1 tk1 ub1 ⟨b1,b2,N,rv,tc,b3,b4,b5,b6,b7,b8,b9,b10,b11⟩
    simp only at b1 b2 b3 b4 b5 b6 b7 b8
    subst b3
    simp
    refine JR (vs:=[.sl none true 0 []]) (by simp) rfl j5a ?_
    rintro v2 ob2 tk2 ub2 ⟨m,m1,m2,m3,m4⟩
    simp only at m1 m2 m3 m4
    subst m3
    have hub:ub1≤m:=by first|omega|(simp at m1;omega)
    have hF2:ob2 N.kF=some ⟨N.uF,.cells (fdC g N rv (.sl tc (comL g).isEmpty (comL g).length ((comL g).flatMap intC)) (.sl none true 0 []) 0 false)⟩:=by rw[m4,if_neg (b7 m hub)];exact b4
    simp(disch:=first|(simp;done)|omega) [j1,hF2,fdC]
    refine JJ fun st hst=>?_
    have g2:st.tm 2=jH sn intC S:=by rw[hst];simp[jH]
    have g3:st.tm 3=.int .i64 n:=by rw[hst];simp
    have g9:st.tm 9=.ptr N.kF N.uF 0:=by rw[hst];simp
    have g10:st.tm 10=.ptr (2*m+1) m 0:=by rw[hst];simp
    have g49:st.tm 49=.sl tc (comL g).isEmpty (comL g).length ((comL g).flatMap intC):=by rw[hst];simp
    have g50:st.tm 50=.int .i64 (comL g).length:=by rw[hst];simp
    have g51:st.tm 51=.int .i64 0:=by rw[hst];simp
    have gd:st.df=[]:=by rw[hst];simp
    have gr:st.ro=0:=by rw[hst];simp
    have go:st.ob=ob2:=by rw[hst];simp
    have gn:ub2≤st.nx:=by rw[hst];simp;omega
    clear hst
    have pS:ob2 (2*m+1)=some ⟨m,.cells (setC 0)⟩:=by rw[m4,if_pos rfl]
    have pR:∀key,Off ub1 key→ob2 key=ob1 key:=fun key hk=>by rw[m4,if_neg (hk m hub)];simp
    clear m4
    have hll:=ja8 g
    have hcl:=Qb g
    obtain⟨J,hJ⟩:∃J:Nat→St→Prop,J=fun i s=>s.tm 51=.int .i64 i∧s.ob (2*m+1)=some ⟨m,.cells (setC (JZ 0 (((comN g).take i).filter (inS S))))⟩∧(∀key,Off ub2 key→key≠2*m+1→s.ob key=ob2 key)∧ub2≤s.nx:=⟨_,rfl⟩
    refine jF [(12,12),(51,61)] (comL g).length J rfl rfl (by rw[hJ];exact⟨by simpa using g51,by rw[go];exact pS,fun key _ _=>by rw[go],gn⟩) ?_
    intro i s hi hJs f
    rw[hJ]at hJs
    obtain⟨s51,sS,sw,sn'⟩:=hJs
    have s2:s.tm 2=jH sn intC S:=by rw[f.t 2 (by simp)];simp[g2]
    have s3:s.tm 3=.int .i64 n:=by rw[f.t 3 (by simp)];simp[g3]
    have s9:s.tm 9=.ptr N.kF N.uF 0:=by rw[f.t 9 (by simp)];simp[g9]
    have s10:s.tm 10=.ptr (2*m+1) m 0:=by rw[f.t 10 (by simp)];simp[g10]
    have s49:s.tm 49=.sl tc (comL g).isEmpty (comL g).length ((comL g).flatMap intC):=by rw[f.t 49 (by simp)];simp[g49]
    have s50:s.tm 50=.int .i64 (comL g).length:=by rw[f.t 50 (by simp)];simp[g50]
    have sd:s.df=[]:=by rw[f.d];simp[gd]
    have sr:s.ro=0:=by rw[f.r];simp[gr]
    clear f
    by_cases hlt:i<(comL g).length
    ·have hltN:i<(comN g).length:=by omega
     obtain⟨x,hx⟩:∃x,x=(comN g)[i]:=⟨_,rfl⟩
     have hx8:x<g.ts.length:=JS (comN_mem.1 (hx▸List.getElem_mem hltN))
     have hxi:(comL g)[i]=(x:Int):=by
      have h1:(comL g)[i]? = (ints (comN g))[i]?:=by rw[QI]
      rw[List.getElem?_eq_getElem hlt]at h1
      unfold ints at h1
      rw[List.getElem?_map,List.getElem?_eq_getElem hltN]at h1
      simpa[hx] using h1
     have hwk:=jv hlt (by omega)
     have hix2:=Jx jB tc (comL g).isEmpty (comL g) .i64 hlt
     have hia:=JP (comL g) hlt
     rw[hxi]at hia
     have hstep:JZ 0 (((comN g).take (i+1)).filter (inS S))=if inS S x then JZ 0 (((comN g).take i).filter (inS S)) ||| 1 <<< x else JZ 0 (((comN g).take i).filter (inS S)):=by
      rw[List.take_succ_eq_append_getElem hltN,← hx,jez]
     simp(disch:=first|(simp;done)|omega) [s51,s50,s49,s2,hlt,hix2,hia]
     refine jU (e80 x) (by simp[jH]) rfl (by simp[jH]) ?_
     rw[show S.contains (x:Int)=inS S x from rfl]
     cases hSx:inS S x
     ·rw[hSx]at hstep
      simp[s51,hwk,hlt]
      rw[hJ]
      exact⟨by simp,by rw[hstep];simpa using sS,fun key hk hne=>by simpa using sw key hk hne,by first|omega|(simp;done)|(simp;omega)⟩
     ·rw[hSx,if_pos rfl]at hstep
      have hbl:JZ 0 (((comN g).take i).filter (inS S))<2 ^ 64:=Yg (by decide) fun a ha=>by
       have:=JS (comN_mem.1 (List.mem_of_mem_take (List.mem_filter.1 ha).1))
       omega
      simp[s10]
      refine JR (vs:=[.ptr (2*m+1) m 0,.int .i64 x]) (by simp) rfl (sv81 (w:=JZ 0 (((comN g).take i).filter (inS S))) (by simpa using sS) (Off.new (by first|omega|(simp;done)|(simp;omega))) (by first|omega|(simp[sr];done)|(simp[sr];omega)) (by omega) hbl) ?_
      rintro v3 ob3 tk3 ub3 ⟨r1,r2,r3⟩
      simp only at r1 r2 r3
      simp[s51,hwk,hlt]
      rw[hJ]
      refine⟨by simp,?_,fun key hk hne=>?_,by first|omega|(simp;done)|(simp;omega)⟩
      ·simp
       rw[r2 _ (Off.new (by first|omega|(simp;done)|(simp;omega))),if_pos rfl,hstep]
      ·simp
       rw[r2 key (hk.up (by first|omega|(simp;done)|(simp;omega))),if_neg hne]
       simp[sw key hk hne]
    ·have:i=(comL g).length:=by omega
     subst this
     rw[List.take_of_length_le (by omega)]at sS
     obtain⟨w,hw⟩:∃w,w=JZ 0 ((comN g).filter (inS S)):=⟨_,rfl⟩
     rw[← hw]at sS
     have hw8:w<2 ^ 64:=hw▸Yg (by decide) fun a ha=>by
      have:=JS (comN_mem.1 (List.mem_filter.1 ha).1)
      omega
     have hwP:∀a,w.testBit a=P a:=fun a=>by
      rw[hw,jdb,hP,Bool.eq_iff_iff,decide_eq_true_eq,Bool.and_eq_true,comN_mem]
      rfl
     simp[s51,s50,s9,s10,s3]
     have hn8:n∈comN g:=comN_mem.2 (by rw[hcm,hc])
     have hA:Wm g n<512:=by
      have:Wm g n<2 ^ 9:=jfa (by decide) fun a ha=>by
       have:=JS (comN_mem.1 (List.mem_filter.1 ha).1)
       omega
      exact this
     have hW2:WG g n<2 ^ 64:=Yg (by decide) fun a ha=>by
      have:=List.mem_range.1 (List.mem_filter.1 ha).1
      have:=(jhj (Yw (Jt hm))).1
      omega
     have hR:=W4 hs
     have hml:=jbt hm
     refine JI (vs:=[.ptr N.kF N.uF 0,.ptr (2*m+1) m 0,.int .i64 n]) (by simp) rfl rfl (evo82 (g:=g) (rv:=rv) (al:=.sl tc (comL g).isEmpty (comL g).length ((comL g).flatMap intC)) (ov:=.sl none true 0 []) (most:=0) (sp:=false) (n0:=ub1) (w:=w) (t:=n) (b5.keep fun key hk=>?_) ?_ (b7.up (by first|omega|(simp;done)|(simp;omega))) (by simpa using sS) (Off.new (by first|omega|(simp;done)|(simp;omega))) (by first|omega|(simp;done)|(simp;omega)) hw8 hn8 hA hW2 (jzk hm) (by rw[jg9 hml];omega) _ _) ?_
     ·simp
      rw[sw _ (hk.o.up (by omega)) (hk.o m hub),pR _ hk.o]
     ·simp
      rw[sw _ (b7.up (by omega)) (b7 m hub),pR _ b7]
      exact b4
     ·rw[js0 hm h8,Qy hwP]
      simp
      exact j3 (by simp[sd]) (by simp[hS3]) rfl
   ·have hS3:(n:Int)∈S:=by simpa using hS2
    simp(disch:=first|(simp;done)|omega)
    exact j3 (by simp) (by simp[hS3]) rfl
 ·have hn':(g.ts.length:Int)≤n:=by omega
  have hc:JF g n=false:=by simp[JF,hn]
  simp(disch:=first|(simp;done)|omega) [j1,hn',h0',hc]
  exact j3 (by simp) (by simp) rfl
end
section
variable {g:Hist'}{M:List Int}{ob:ZO}{ub k u:Nat}{st:Nat→Bool}
end
section
variable {g:Hist'}{M:List Int}
end
def j48:List UInt8:=[98,101,103,105,110,32,115,10,114,101,97,100,32,115,32,120,32,110,105,108,10,111,107,32,115]
def H20:Hist':=⟨false,[[115]],false,[[120]],false,[⟨0,1,false,[⟨false,0,⟨0,0⟩⟩]⟩]⟩
theorem k20:(callers E 100 noY).d 57 [.str j48]=some (.tup [(.agg [(.sl (some (0,1)) false 1 [(.str [115])]),(.sl (some (1,1)) false 1 [(.str [120])]),(.sl (some (2,3)) false 1 [(.int .i64 0),(.int .i64 1),(.sl none false 1 [(.bool false),(.int .i64 0),(.int .i64 0),(.int .i64 0)])])]),(.int .i64 0),(.int .i64 0)]):=by kernel_rfl
def jjy (g:Hist') (lvl:Int) (M O:List Int):Bool:=juq g lvl M O == 0 && juh g lvl M O
theorem err0 {g:Hist'}{lvl:Int}{M O:List Int}(h:juq g lvl M O=0):JT g=true∧1≤lvl∧lvl≤3∧WX g M=true∧JB g O=true:=by
 unfold juq at h
 cases h1:JT g
 ·simp[h1]at h
 ·cases h2:WX g M
  ·simp[h1,h2]at h
  ·cases h3:JB g O
   ·simp[h1,h2,h3]at h
   ·simp[h1,h2,h3]at h
    exact⟨rfl,by omega,by omega,rfl,rfl⟩
end Go.Pv.T
namespace Go.Pv.T
open Go Go.Pv
end Go.Pv.T
namespace Go.Pv.T
open Go Go.Pv
end Go.Pv.T
namespace Go.Pv.T
open Go Go.Pv
theorem jyn:jhx=.seq (hdC jhx) jym:=rfl
theorem few3O {h:Hist'}{Yf:YF}{ob0:ZO}{ub ro:Nat}{s0:St}{Q:Ex→St→Prop}{N1 N2:Nat}{S0 K0:V}(hru:ro≤ub) (hs:FewO h ob0 ub ro s0 25 45 N1 N2 S0 K0 (.sl none true 0 []) [])
 (hrest:∀s Tv P,P.map (·.1)=(h.ts.take 45).map fewT→FewO h ob0 ub ro s 25 45 N1 N2 S0 K0 Tv P→wpC E Yf jym s Q):wpC E Yf jhx s0 Q:=by
 rw[jyn]
 obtain⟨f1,f2,f3,fd,fr,o1,o2,o3,gS,gK,gT,n0,n1,n2,ff⟩:=hs
 simp[hdC,jhx,jfp,jfq,tlC,S51]
 refine jF [(6,7),(67,98)] 45 (fun i s=>s.tm 6=.int .i64 i∧i≤h.ts.length∧∃Tv P,P.map (·.1)=(h.ts.take i).map fewT∧FewO h ob0 ub ro s 25 45 N1 N2 S0 K0 Tv P) rfl rfl ?_ ?_
 ·refine⟨by simp,by simp,.sl none true 0 [],[],by simp,⟨by simp[f1],by simp[f2],by simp[f3],by simp[fd],by simp[fr],by simp[o1],by simp[o2],by simp[o3],gS.frame (fun _ _ _=>by simp) (Nat.le_refl _) (Nat.le_refl _),gK.frame (fun _ _ _=>by simp) (Nat.le_refl _) (Nat.le_refl _),⟨by simp,.inl ⟨rfl,rfl⟩⟩,n0,n1,by simp;omega,fun key hk=>by simp[ff key hk]⟩⟩
 rintro i s hi ⟨h4,hle,Tv,P,hP,f1,f2,f3,fd,fr,o1,o2,o3,gS,gK,gT,n0,n1,n2,ff⟩ f
 clear f
 have hend:¬ (i<h.ts.length∧i<45)→∀s':St,(s'.tm 1=s.tm 1∧s'.tm 2=s.tm 2∧s'.tm 3=s.tm 3)→s'.df=s.df→s'.ro=s.ro→s'.ob=s.ob→s.nx≤s'.nx→wpC E Yf jym s' Q:=by
  intro hx s' ⟨q1,q2,q3⟩ e2 e3 e4 e5
  refine hrest s' Tv P (hP.trans (j3j hle hi hx)) ⟨q1.trans f1,q2.trans f2,q3.trans f3,by rw[e2];exact fd,by rw[e3];exact fr,by rw[e4];exact o1,by rw[e4];exact o2,by rw[e4];exact o3,by rw[e4];exact gS,by rw[e4];exact gK,?_,n0,n1,by omega,fun key hk=>by rw[e4];exact ff key hk⟩
  exact gT.frame (fun _ _ _=>by rw[e4]) e5
 have o1':s.ob (2*ub+1)=some ⟨ub,.cells [jH h.sn JK h.ss,jH h.kn JK h.ks,jH h.tn ji h.ts]⟩:=o1
 by_cases hlt:i<h.ts.length
 ·by_cases hl5:i<45
  ·have hw:=jv hl5 (by omega)
   have hl5':(i:Int)<45:=by omega
   obtain⟨t,ht⟩:∃t,h.ts[i]=t:=⟨_,rfl⟩
   have hmn:=jei t.ops.length 25
   rw[show((25:Nat):Int)=25 from rfl]at hmn
   have hss:=jv9 jK t.nl t.ops 25 .i64
   have hmm:min t.ops.length 25=(t.ops.take 25).length:=by rw[List.length_take,Nat.min_comm]
   rw[hmm]at hss hmn
   generalize hL:t.ops.take 25=L at *
   have hLl:L.length≤25:=by rw[← hL,List.length_take];omega
   have hlfO:(L.flatMap opC).all V.leaf=true:=by rw[List.all_flatMap,List.all_eq_true];intro _ _;rfl
   obtain⟨z,hz⟩:∃z,s.nx=z:=⟨_,rfl⟩
   simp[h4,f1,o1',j1,hlt,hl5',j6 jA,jc jA,ht,ji,fr,j7,hz]
   refine⟨by omega,?_⟩
   refine Xg (cs:=[]) rfl rfl rfl ?_
   simp[j1]
   obtain⟨zB,hB⟩:∃y,(z+64+64+64+64+64+64+64+64+64+64+64+64+64+64+64+64)=y:=⟨_,rfl⟩
   obtain⟨zA,hA⟩:∃y,(z+64+64+64+64+64+64+64+64+64+64+64+64+64+64)=y:=⟨_,rfl⟩
   have hAB:zB=zA+128:=by omega
   have hA0:z+896=zA:=by omega
   rw[hB,hA]
   have w1:¬ 2*zA=2*zB:=by omega
   have w2:¬ 2*zB=2*zA:=by omega
   simp[j1,w1,hmn,hss]
   refine jxt (f:=opC) (l:=L) (z:=zB) (by simp) (by simp) (by simp[fr];omega) (by simp[jH,jM,j8 jK]) jK (by decide) hlfO (by omega) (by omega) ?_
   intro s1 u hu c0 cf ct cd cr cb ck
   have hu1:zB≤u:=by omega
   have hu2:u≤zB+512:=by omega
   have cA:s1.ob (2*zA+1)=some ⟨zA,.cells [.int .i64 t.s,.int .i64 t.f,jH t.nl opC t.ops]⟩:=by
    rw[cf _ (by omega) (by omega)];simp[w1]
   have cO:∀key,key≠2*zA+1→key≠2*zB+1→key≠2*(zB+512)+1→s1.ob key=s.ob key:=by
    intro key k1 k2 k3
    rw[cf _ k2 (by omega)]
    simp[k1,k2]
   have v1:¬ 2*zA=2*(ub+192):=by omega
   have v2:¬ 2*(ub+192)=2*zA:=by omega
   have c3:s1.ob (2*(ub+192)+1)=some ⟨ub+192,.cells [S0,K0,Tv]⟩:=(cO _ (by omega) (by omega) (by omega)).trans o3
   have hra:ro≤zA:=by omega
   simp[ct,j1,cA,cr,fr,j7,f3,c3,v2,hra]
   obtain⟨p,hp⟩:∃p,(fewT t,u)=p:=⟨_,rfl⟩
   have hpu:txU p=[.int .i64 t.s,.int .i64 t.f,.osl (2*u+1) u 0 L.length 4]:=by
    rw[← hp]
    simp[txU,fewT,← hL]
   refine Xg (cs:=txU p) (by rw[hpu];simp[j7]) rfl (by rw[hpu];rfl) ?_
   simp
   obtain⟨zE,hE⟩:∃y,(zB+64+64+64+64+64+64+64+64+64+64+64+64+64+64)=y:=⟨_,rfl⟩
   have hE0:zB+896=zE:=by omega
   rw[hE]
   have hPl:P.length=i:=by
    have:=congrArg List.length hP
    rw[List.length_map,List.length_map,List.length_take]at this
    omega
   have hp2:p.2=u:=by rw[← hp]
   have hp1:p.1=fewT t:=by rw[← hp]
   have hpo:p.1.ops=L:=by rw[hp1];exact hL
   rw[hz]at gT n2
   have hsame:∀y,y<z→s1.ob (2*y+1)=s.ob (2*y+1):=fun y y2=>cO _ (by omega) (by omega) (by omega)
   refine jlx (lo:=N2) (hi:=z) (P:=P) (p:=p) ?_ (by omega) (by simp[cr,fr];omega) (by simp[jM,j1];rfl) ?_ n2 (by omega) ?_
   ·simp
    refine gT.frame (fun y y1 y2=>?_) (Nat.le_refl _)
    have e1:¬ 2*y=2*zE:=by omega
    have e2:¬ 2*y=2*zA:=by omega
    simp[e1,e2]
    exact hsame y y2
   ·refine⟨by rw[hp1];rfl,by rw[hp2];omega,by rw[hp2];omega,L.flatMap opC,?_,?_,?_⟩
    ·rw[hp2]
     have e1:¬ 2*u=2*zE:=by omega
     have e2:¬ 2*u=2*zA:=by omega
     simp[e1,e2]
     exact c0
    ·rw[hpo,j8 jK];exact Nat.le_refl _
    ·rw[hpo,← j8 jK,List.take_length]
   intro s4 v4 hT4 x4 xt xd xr xb xk
   obtain⟨hlf4,hc4⟩:=hT4.leaf
   have x5:∀y,(y<N2)→s4.ob (2*y+1)=s.ob (2*y+1):=by
    intro y hy
    rw[x4 _ (fun y y1 y2=>by omega) (by omega)]
    have e1:¬ 2*y=2*zE:=by omega
    have e2:¬ 2*y=2*zA:=by omega
    simp[e1,e2]
    exact hsame y (by omega)
   have x3:=(x5 (ub+192) (by omega)).trans o3
   have hP1:(P++[p]).map (·.1)=(h.ts.take (i+1)).map fewT:=by
    rw[List.map_append,hP,List.take_succ_eq_append_getElem hlt,List.map_append,ht,← hp]
    rfl
   simp[xt,ct,f3,j1,x3,xr,cr,fr,j7,hlf4,hc4,h4,hw]
   have b1:¬ 2*ub=2*(ub+192):=by omega
   have b2:¬ 2*(ub+64)=2*(ub+192):=by omega
   refine⟨by omega,hl5,by omega,v4,P++[p],by rw[hP1,List.map_take],⟨by simp[xt,ct,f1],by simp[xt,ct,f2],by simp[xt,ct,f3],by simp[xd,cd,fd],by simp[xr,cr,fr],by simp[b1];exact(x5 ub (by omega)).trans o1,by simp[b2];exact(x5 (ub+64) (by omega)).trans o2,by simp,
    gS.frame (fun y h1 h2=>?_) (Nat.le_refl _) (Nat.le_refl _),gK.frame (fun y h1 h2=>?_) (Nat.le_refl _) (Nat.le_refl _),hT4.frame (fun y h1 h2=>?_) (by simp <;> omega),n0,n1,by simp <;> omega,fun key hk=>?_⟩⟩
   ·have e1:¬ 2*y=2*(ub+192):=by omega
    simp[e1]
    exact x5 y (by omega)
   ·have e1:¬ 2*y=2*(ub+192):=by omega
    simp[e1]
    exact x5 y (by omega)
   ·have e1:¬ 2*y=2*(ub+192):=by omega
    simp[e1]
   ·have e1:=hk (ub+192) (by omega)
    have e2:=hk zE (by omega)
    have e3:=hk zA (by omega)
    simp[e1]
    rw[x4 _ (fun y y1 y2=>hk y (by omega)) (hk _ (by omega))]
    simp[e2,e3]
    exact(cO key e3 (hk zB (by omega)) (hk (zB+512) (by omega))).trans (ff key hk)
  ·have hl5':¬ (i:Int)<45:=by omega
   simp[h4,f1,o1',j1,hlt,hl5']
   exact hend (by omega) _ ⟨by simp,by simp,by simp⟩ (by simp) (by simp) (by funext k;simp) (by simp;omega)
 ·simp[h4,f1,o1',j1,hlt]
  exact hend (by omega) _ ⟨by simp,by simp,by simp⟩ (by simp) (by simp) (by funext k;simp) (by simp;omega)
def FewP (h:Hist') (ob:ZO) (ub:Nat) (r:V × (ZO) × (Nat→Bool) × Nat):Prop :=
 ∃Sv Kv Tv P N1 N2,r.1=.agg [Sv,Kv,Tv]∧StO r.2.1 (ub+256) N1 (Yu 25 h.ss) Sv∧StO r.2.1 N1 N2 (Yu 45 h.ks) Kv∧TsO r.2.1 N2 r.2.2.2 P Tv∧P.map (·.1)=(h.ts.take 45).map fewT∧ub+256≤N1∧N1≤N2∧N2≤r.2.2.2 ∧
  ∀key,(∀m,ub≤m→key≠2*m+1)→r.2.1 key=ob key
theorem sv51 {Yf:YF}{h:Hist'}{ob:ZO}{tk:Nat→Bool}{ro base ub:Nat}(hro:ro≤ub):∃r,EvS E Yf.y 51 [.agg (j2 h)] ob tk ro base ub r∧FewP h ob ub r:=by
 refine Wo (af:=S51) rfl (by decide) ?_
 show wpC E Yf S51.body _ (jab S51.res _)
 refine few0S hro fun s1 h1=>?_
 refine few1O hro h1 fun s2 Sv h2=>?_
 refine few2O hro h2 fun s3 Kv h3=>?_
 refine few3O hro h3 fun s4 Tv P hP h4=>?_
 obtain⟨f1,f2,f3,fd,fr,o1,o2,o3,gS,gK,gT,n0,n1,n2,ff⟩:=h4
 obtain⟨lS,cS⟩:=gS.leaf
 obtain⟨lK,cK⟩:=gK.leaf
 obtain⟨lT,cT⟩:=gT.leaf
 have b1:¬ 2*(ub+192)=2*(ub+64):=by omega
 have hre:S51.res=[.cell 2 (some 3)]:=rfl
 rw[hre]
 generalize hP':jab [.cell 2 (some 3)] (FewP h ob ub)=Q
 simp[jym,jhx,jfp,jfq,tlC,S51,f2,f3,o2,o3,j1,fr,j7,lS,lK,lT]
 refine⟨by omega,?_⟩
 rw[← hP']
 refine⟨(.agg [Sv,Kv,Tv],_,_,_),by simp[jp9,fd,jp,f2,j1];exact⟨rfl,rfl,rfl⟩,Sv,Kv,Tv,P,_,_,rfl,gS.frame (fun y h1 h2=>?_) (Nat.le_refl _) (Nat.le_refl _),gK.frame (fun y h1 h2=>?_) (Nat.le_refl _) (Nat.le_refl _),gT.frame (fun y h1 h2=>?_) ?_,hP,n0,n1,?_,fun key hk=>?_⟩
 ·have e1:¬ 2*y=2*(ub+64):=by omega
  simp[e1]
 ·have e1:¬ 2*y=2*(ub+64):=by omega
  simp[e1]
 ·have e1:¬ 2*y=2*(ub+64):=by omega
  simp[e1]
 ·simp;omega
 ·simp;omega
 ·have e1:=hk (ub+64) (by omega)
  simp[e1]
  exact ff key hk
def jir (t:Txn'):Txn':={ t with ops:=t.ops.take 6 }
def jdd (h:Hist'):Hist':=if 8<(j4w h).ts.length then { j4w h with tn:=true,ts:=[] } else { j4w h with ts:=(j4w h).ts.map jir }
def mixT (P:List (Txn' × Nat)) (i:Nat):List (Txn' × Nat):=P.mapIdx fun j p=>if j<i then (jir p.1,p.2) else p
theorem WV {P:List (Txn' × Nat)}{i:Nat}:(mixT P i).length=P.length:=by simp[mixT]
theorem js5 {P:List (Txn' × Nat)}:mixT P 0=P:=by
 apply List.ext_getElem?
 intro n
 simp[mixT]
theorem jxa {P:List (Txn' × Nat)}:(mixT P P.length).map (·.1)=(P.map (·.1)).map jir:=by
 apply List.ext_getElem?
 intro n
 simp only[mixT,List.getElem?_map,List.getElem?_mapIdx]
 cases h:P[n]? with
 | none=>rfl
 | some o=>
  have:=(List.getElem?_eq_some_iff.1 h).1
  simp[this]
theorem jln {P:List (Txn' × Nat)}{i:Nat}(h:i<P.length):(mixT P i)[i]'(by rw[WV];exact h)=P[i]:=by simp[mixT]
theorem jjh {P:List (Txn' × Nat)}{i:Nat}(_:i<P.length):mixT P (i+1)=(mixT P i).modify i fun p=>(jir p.1,p.2):=by
 apply List.ext_getElem?
 intro n
 simp only[mixT,List.getElem?_mapIdx,List.getElem?_modify]
 cases hn:P[n]? with
 | none=>simp
 | some o=>
  simp only[Option.map_some,Option.map_eq_map]
  by_cases h3:i=n
  ·subst h3
   simp
  ·simp only[if_neg h3]
   by_cases h1:n<i
   ·rw[if_pos h1,if_pos (by omega)]
   ·rw[if_neg (by omega),if_neg h1]
theorem jq8:∀ {P:List (Txn' × Nat)}{i:Nat}(h:i<P.length),j7 (P.flatMap txU) (i*3+2) [.osl (2*(P[i]).2+1) (P[i]).2 0 (jir (P[i]).1).ops.length 4]=(P.modify i fun p=>(jir p.1,p.2)).flatMap txU
 | [],_,h=>by simp at h
 | p::P,0,_=>by simp[List.modify_cons,j7,txU,jir]
 | p::P,i+1,h=>by
  have ih:=jq8 (P:=P) (i:=i) (by simpa using h)
  simp only[List.modify_cons,Nat.add_one_ne_zero,if_false,Nat.add_sub_cancel,List.flatMap_cons,List.getElem_cons_succ]
  rw[← ih]
  have:(i+1)*3+2=(txU p).length+(i*3+2):=by simp;omega
  rw[this]
  simp only[j7,Nat.add_assoc]
  rw[List.take_length_add_append,List.drop_length_add_append]
  simp only[List.append_assoc]
theorem InO.six {ob:ZO}{lo hi:Nat}{p:Txn' × Nat}(h:InO ob lo hi p):InO ob lo hi (jir p.1,p.2):=by
 obtain⟨X,h1,h2,h3⟩:=h.ob
 refine⟨h.nl,h.lo,h.hi,X,h1,?_,?_⟩
 ·simp only[jir,List.length_take];omega
 ·have e:X.take ((jir p.1).ops.length*4)=(X.take (p.1.ops.length*4)).take ((jir p.1).ops.length*4):=by
   rw[List.take_take]
   congr 1
   simp only[jir,List.length_take]
   omega
  rw[e,h3,jv0]
  congr 1
  simp only[jir,List.length_take]
  rcases Nat.le_total p.1.ops.length 6 with h'|h'
  ·rw[Nat.min_eq_right h',List.take_length,List.take_of_length_le h']
  ·rw[Nat.min_eq_left h']
theorem jwa {L u n i:Nat}(h:i≤n):Wu 4 none (some (.int .i64 (i:Int))) (.osl L u 0 n 4)=some (.osl L u 0 i 4):=by
 simp[Wu,Jy,h]
theorem TsO.len {ob:ZO}{lo hi:Nat}{P:List (Txn' × Nat)}{v:V}(h:TsO ob lo hi P v):ja2 v=some (.int .i64 P.length):=by
 rcases h.2 with⟨rfl,rfl⟩|⟨_,u,_,_,_,rfl,_⟩ <;> rfl
theorem ev15 (h:Hist'):∃v,Ev E 15 [.agg (j2 h)] v∧jqp v (jdd h):=by
 refine YR (af:=F15) rfl (by decide) ?_
 generalize hPP:(jem [.cell 2 (some 3)] fun r=>jqp r (jdd h))=PP
 simp[F15,j2,j1,hPP]
 refine JR (vs:=[.agg (j2 h)]) (by simp[j2]) rfl (sv51 (h:=h) (Nat.zero_le _)) ?_
 rintro v ob1 tk1 ub1 ⟨Sv,Kv,Tv,P,N1,N2,hv,gS,gK,gT,hP,n0,n1,n2,ff⟩
 simp only at hv gS gK gT hP n0 n1 n2 ff
 subst hv
 obtain⟨lS,cS⟩:=gS.leaf
 obtain⟨lK,cK⟩:=gK.leaf
 obtain⟨lT,cT⟩:=gT.leaf
 have hTl:=gT.len
 have b1:ob1 1=some ⟨0,.cells (j2 h)⟩:=by rw[ff 1 (fun m hm=>by omega)];simp[j2]
 have b2:ob1 129=some ⟨64,.cells [.sl none true 0 [],.sl none true 0 [],.sl none true 0 []]⟩:=by rw[ff 129 (fun m hm=>by omega)];simp
 have e1:(jdd h).ss=Yu 25 h.ss:=by unfold jdd;split <;> rfl
 have e2:(jdd h).sn=(Yu 25 h.ss).isEmpty:=by unfold jdd;split <;> rfl
 have e3:(jdd h).ks=Yu 45 h.ks:=by unfold jdd;split <;> rfl
 have e4:(jdd h).kn=(Yu 45 h.ks).isEmpty:=by unfold jdd;split <;> rfl
 have hPl:(j4w h).ts.length=P.length:=by
  show((h.ts.take 45).map fewT).length=P.length
  rw[← hP,List.length_map]
 simp[b1,j1,j2,j7]
 generalize hK:jqs E Y0 _ PP=K
 have rest:∀ (s:St) (P':List (Txn' × Nat)) (Tv':V),P'.length≤8→(jdd h).ts=(P'.map (·.1)).map jir→(jdd h).tn=P'.isEmpty→s.tm 1=.ptr 1 0 0→s.tm 2=.ptr 129 64 0→s.df=[]→s.ro=0→s.fb=0→ub1≤s.nx →
  s.ob 1=some ⟨0,.cells [Sv,Kv,Tv']⟩→s.ob 129=some ⟨64,.cells [.sl none true 0 [],.sl none true 0 [],.sl none true 0 []]⟩→StO s.ob (192+256) N1 (Yu 25 h.ss) Sv→StO s.ob N1 N2 (Yu 45 h.ks) Kv→TsO s.ob N2 ub1 P' Tv'→K .nrm s:=by
  intro s P' Tv' hl8 ht8 hn8 g1 g2 gd gr gb gn p1 p2 gS gK gT
  rw[← hK,jhr]
  clear hK
  have lT':=gT.leaf
  simp
  refine jF [(3,3),(11,37)] P'.length (fun i s=>s.tm 3=.int .i64 i∧s.ob 1=some ⟨0,.cells [Sv,Kv,Tv']⟩∧s.ob 129=some ⟨64,.cells [.sl none true 0 [],.sl none true 0 [],.sl none true 0 []]⟩∧StO s.ob (192+256) N1 (Yu 25 h.ss) Sv∧StO s.ob N1 N2 (Yu 45 h.ks) Kv∧TsO s.ob N2 ub1 (mixT P' i) Tv') rfl rfl
   ⟨by simp,by simp[p1],by simp[p2],gS.frame (fun _ _ _=>by simp) (Nat.le_refl _) (Nat.le_refl _),gK.frame (fun _ _ _=>by simp) (Nat.le_refl _) (Nat.le_refl _),by rw[js5];exact gT.frame (fun _ _ _=>by simp) (Nat.le_refl _)⟩ ?_
  clear gS gK
  rintro i s1 hi ⟨h3,o1,o2,gS,gK,gX⟩ f
  have f1:s1.tm 1=.ptr 1 0 0:=by rw[f.t 1 (by simp)];simp[g1]
  have f2:s1.tm 2=.ptr 129 64 0:=by rw[f.t 2 (by simp)];simp[g2]
  have fd:s1.df=[]:=by rw[f.d];simp[gd]
  have fb:s1.fb=0:=by rw[f.b];simp[gb]
  have fr:s1.ro=0:=by rw[f.r];simp[gr]
  clear f
  have hXl:=gX.len
  rw[WV]at hXl
  by_cases hlt:i<P'.length
  ·have hw:=jv hlt (by omega)
   have hl3:i<(mixT P' i).length:=by rw[WV];exact hlt
   rcases gX.2 with⟨he,_⟩|⟨hne,u,h1,h2,h4,rfl,h5⟩
   ·rw[he]at hl3;simp at hl3
   have hin:=gX.1 (P'[i]) (by rw[← jln hlt];exact List.getElem_mem hl3)
   have hixT:Jr 3 (.osl (2*u+1) u 0 (mixT P' i).length 3) (.int .i64 (i:Int))=some (.ptr (2*u+1) u (i*3)):=by simp[Jr,hl3]
   have hcell:((mixT P' i).flatMap txU)[i*3+2]? = some (.osl (2*(P'[i]).2+1) (P'[i]).2 0 (P'[i]).1.ops.length 4):=by
    rw[jh WM _ hl3 (by decide:2<3),jln hlt]
    rfl
   have hset:=jq8 (P:=mixT P' i) (i:=i) hl3
   rw[← jjh hlt]at hset
   simp only[jln hlt]at hset
   have hmn:=jei (P'[i]).1.ops.length 6
   rw[show((6:Nat):Int)=6 from rfl]at hmn
   have hsl:=fun L u=>jwa (L:=L) (u:=u) (n:=(P'[i]).1.ops.length) (i:=min (P'[i]).1.ops.length 6) (Nat.min_le_left _ _)
   have hs6:(jir (P'[i]).1).ops.length=min (P'[i]).1.ops.length 6:=by simp only[jir,List.length_take,Nat.min_comm]
   rw[hs6]at hset
   have n1':¬ 2*u=0:=by omega
   have n2':¬ 2*u=128:=by omega
   have hlen:i*3+2+1≤((mixT P' i).flatMap txU).length:=by rw[j8 WM];omega
   simp[h3,f1,o1,j1,hXl,hlt,hixT,h5,hcell,hmn,hsl,fr,n1',n2',hset]
   have hq:∀q∈mixT P' (i+1),InO s1.ob N2 ub1 q∧q.2≠u:=by
    intro q hq
    rw[jjh hlt]at hq
    rcases jgg hq with hq|⟨x,hx,rfl⟩
    ·exact⟨gX.1 q hq,h4 q hq⟩
    ·have hx':=List.mem_of_getElem? hx
     exact⟨(gX.1 x hx').six,h4 x hx'⟩
   have hll:(mixT P' (i+1)).length=(mixT P' i).length:=by rw[WV,WV]
   refine⟨by have:=hlen;simp only[List.length_flatMap,WM]at this;exact this,hw,o2,gS.frame (fun y y1 y2=>?_) (Nat.le_refl _) (Nat.le_refl _),gK.frame (fun y y1 y2=>?_) (Nat.le_refl _) (Nat.le_refl _),fun q hqm=>?_,.inr ⟨?_,u,h1,h2,fun q hqm=>(hq q hqm).2,by rw[hll],by simp⟩⟩
   ·have w:¬ 2*y=2*u:=by omega
    simp[w]
   ·have w:¬ 2*y=2*u:=by omega
    simp[w]
   ·obtain⟨a,b⟩:=hq q hqm
    have w:¬ 2*q.2=2*u:=by omega
    exact a.frame (by simp[w]) (Nat.le_refl _)
   ·intro e
    rw[e]at hll
    simp at hll
    omega
  ·have:i=P'.length:=by omega
   subst this
   simp[h3,f1,o1,j1,hXl,f2,o2,j7,fr,gS.leaf.1,gK.leaf.1,lT'.1]
   rw[← hPP]
   have hml:(mixT P' P'.length).isEmpty=(jdd h).tn:=by rw[hn8];exact jep WV
   refine kE1 (g:=jdd h) (l:=129) (u:=64) (x:=Sv) (y:=Kv) (z:=Tv') (by simp[fd]) (by simp[f2]) (by simp) ?_ ?_ ?_
   ·rw[e1,e2]
    refine StO.out (lo:=192+256) (hi:=N1) (gS.frame (fun y q1 q2=>?_) (Nat.le_refl _) (Nat.le_refl _)) (by simp[fr])
    have w:¬ 2*y=128:=by omega
    simp[w]
   ·rw[e3,e4]
    refine StO.out (lo:=N1) (hi:=N2) (gK.frame (fun y q1 q2=>?_) (Nat.le_refl _) (Nat.le_refl _)) (by simp[fr])
    have w:¬ 2*y=128:=by omega
    simp[w]
   ·have hl9:(jdd h).ts.length=(mixT P' P'.length).length:=by rw[ht8,WV];simp
    rw[hl9,← hml,ht8,← jxa]
    refine TsO.out (lo:=N2) (hi:=ub1) (gX.frame (fun y q1 q2=>?_) (Nat.le_refl _)) (by simp[fr])
    have w:¬ 2*y=128:=by omega
    simp[w]
 refine⟨⟨lS,lK,lT⟩,?_⟩
 simp[hTl]
 have q1:∀y,192≤y→¬ 2*y=0:=fun y hy=>by omega
 by_cases h8:8<P.length
 ·have h8':(8:Int)<(P.length:Int):=by omega
  simp[h8',j1,j7]
  exact rest _ [] (.sl none true 0 []) (by simp) (by unfold jdd;rw[if_pos (by rw[hPl];exact h8)];rfl) (by unfold jdd;rw[if_pos (by rw[hPl];exact h8)];rfl) (by simp) (by simp) (by simp) (by simp) (by simp) (by simp <;> omega) (by simp) (by simp[b2])
   (gS.frame (fun y y1 y2=>by simp[q1 y (by omega)]) (Nat.le_refl _) (Nat.le_refl _)) (gK.frame (fun y y1 y2=>by simp[q1 y (by omega)]) (Nat.le_refl _) (Nat.le_refl _)) ⟨by simp,.inl ⟨rfl,rfl⟩⟩
 ·have h8':¬ (8:Int)<(P.length:Int):=by omega
  simp[h8']
  exact rest _ P Tv (by omega) (by unfold jdd;rw[if_neg (by rw[hPl];exact h8),hP];rfl) (by unfold jdd;rw[if_neg (by rw[hPl];exact h8)];show((h.ts.take 45).map fewT).isEmpty=_;rw[← hP];exact jep (by simp)) (by simp) (by simp) (by simp) (by simp) (by simp) (by simp <;> omega) (by simp) (by simp[b2])
   (gS.frame (fun y y1 y2=>by simp[q1 y (by omega)]) (Nat.le_refl _) (Nat.le_refl _)) (gK.frame (fun y y1 y2=>by simp[q1 y (by omega)]) (Nat.le_refl _) (Nat.le_refl _)) (gT.frame (fun y y1 y2=>by simp[q1 y (by omega)]) (Nat.le_refl _))
theorem j5j (h:Hist'):Small (jdd h):=by
 have hs:=jrk h
 unfold jdd
 split
 ·exact⟨hs.ss,hs.sl,hs.ks,hs.kl,by simp,by simp⟩
 ·refine⟨hs.ss,hs.sl,hs.ks,hs.kl,by simpa using hs.ts,fun t ht=>?_⟩
  simp only[List.mem_map]at ht
  obtain⟨t',ht',rfl⟩:=ht
  have:=hs.os t' ht'
  simp only[jir,List.length_take]
  omega
theorem jup {g:Hist'}{lvl:Int}{M O:List Int}(h:juq g lvl M O=0):jjy g lvl M O=Jm g lvl M O:=by
 obtain⟨_,h1,h3,hm,ho⟩:=err0 h
 simp[jjy,h,jyd h1 h3 hm ho]
theorem err_lvl {g:Hist'}{M O:List Int}:juq g 2 M O=juq g 1 M O∧juq g 3 M O=juq g 1 M O:=by simp[juq]
theorem h32 {g:Hist'}{M O:List Int}(h:jjy g 3 M O=true):jjy g 2 M O=true:=by
 have h0:juq g 3 M O=0:=by
  unfold jjy at h
  simp only[Bool.and_eq_true,beq_iff_eq]at h
  exact h.1
 obtain⟨_,_,_,hm,ho⟩:=err0 h0
 rw[jup h0]at h
 have h0':juq g 2 M O=0:=by rw[err_lvl.1,← err_lvl.2];exact h0
 rw[jup h0']
 exact j5q hm ho h
theorem f20:Small H20:=⟨by decide,by decide,by decide,by decide,by decide,by decide⟩
theorem f20a:jgr H20 [-1] 9=([0],2,0):=by decide +kernel
theorem f20b:mayF H20 [-1] [] 0=true:=by decide +kernel
set_option maxHeartbeats 1000000 in
theorem ev36:Ev E 36 [] (.bool true):=by
 obtain⟨v,e1,nl,hn,hv⟩:=ev34 f20 (by decide) (mn:=false) (M:=[-1]) (by decide) 9
 rw[f20a]at hn hv
 obtain rfl:nl=false:=by cases nl;rfl;cases hn rfl
 have e2:=ev37 f20 (by decide) (mn:=false) (sn:=true) (M:=[-1]) (by decide) (S:=[]) (by decide) 0
 rw[f20b]at e2
 have e57:Ev E 57 [.str j48] _:=⟨100,k20⟩
 refine jT (af:=F36) rfl ?_
 simp[F36]
 refine jU e57 rfl rfl rfl ?_
 simp[Y4,toksRes,V.toks,V.tok,jb2,jb1,Y5,Nat.blt,j1,j7]
 refine jX (cs:=[.int .i64 (-1)]) (by simp[j7]) rfl rfl ?_
 simp[j7]
 refine jU e1 (by simp[jH,intC,j2,H20,JK,ji,opC,V.strip,V.strip1]) rfl (by simp[jH,intC,j2]) ?_
 refine jrw hv rfl fun ws add hws=>?_
 obtain⟨x,y,z,rfl,h1,h2,h3⟩:=map3 hws
 obtain⟨t1,rfl⟩:=jal h1
 obtain rfl:=QK h2
 obtain rfl:=QK h3
 have e3:=ev32 (a:=false) (b:=false) [0] [0] (by decide) (by decide)
 rw[show(([0]:List Int) == [0])=true from rfl]at e3
 simp
 refine jX (cs:=[.int .i64 0]) (by simp[j7]) rfl rfl ?_
 simp[j7]
 refine jU e3 (by simp[jH,intC,V.strip,V.strip1]) rfl (by simp[jH,intC]) ?_
 simp[j1,j7]
 refine jX (cs:=[.int .i64 (-1)]) (by simp[j7]) rfl rfl ?_
 simp[j7]
 refine jU e2 (by simp[jH,intC,j2,H20,JK,ji,opC,V.strip,V.strip1]) rfl (by simp[jH,intC,j2]) ?_
 simp
 exact j3 rfl (by simp) rfl
theorem j3k (h:Hist'):(jdd h).ts.length≤8:=by
 unfold jdd
 split
 ·simp
 ·rename_i h8
  simp only[List.length_map]
  omega
theorem jtg (b:List Int):jcv [] b=false:=by cases b <;> rfl
theorem jpp (a:List Int):jcv a []=false:=by cases a <;> rfl
theorem ev25t (b:Bool) (l:List Int) (hl:l.length≤1000000000):Ev E 25 [jH b intC l] (.sl (some (0,1)) false l.length (l.flatMap intC)):=by
 refine jT (af:=F25) rfl ?_
 simp[F25]
 refine jX (cs:=[]) rfl rfl rfl ?_
 simp
 cases l with
 | nil=>
  rw[show oo 5 (AOp.append false 1 8 (A.t 3) (A.t 4))=(⟨some 5,.append false 1 8 (A.t 3) (A.t 4),none,false⟩:AOpr) from rfl,jS _ rfl rfl]
  simp[aop,jH,jM,Yi]
  exact ja7 (u:=64) (by simp) (by simp) (by simp[JC])
 | cons a l=>
  refine X5 (u:=64) (nl:=false) (n:=0) (cs:=[]) (ys:=(a::l).flatMap intC) (by simp) (by simp[JC]) (by simp[jce jB]) (by simp[intC]) (by simp) (by decide) (by simp[intC,V.pureLeaf]) (by rw[j8 jB];omega) (by rw[j8 jB];omega) ?_
  have e1:((a::l).flatMap intC).length / 1=(a::l).length:=by rw[j8 jB];simp
  rw[e1,Nat.zero_add,List.nil_append]
  simp
  exact ja7 (u:=192) (by simp) (by simp) (by simp[JC])
set_option maxHeartbeats 1000000 in
theorem ev85 {an bn:Bool}(a b:List Int) (ha:a.length≤1000000):Ev E 85 [jH an intC a,jH bn intC b] (.bool (jcv a b)):=by
 refine jT (af:=F85) rfl ?_
 simp[F85]
 refine jF [(4,35)] a.length (fun i s=>s.tm 5=.int .i64 i∧jcv a b=jcv (a.drop i) (b.drop i)) rfl rfl ⟨by simp,rfl⟩ ?_
 rintro i s hi ⟨h5,hb⟩ f
 have h0:s.tm 0=jH an intC a:=by rw[f.t 0 (by simp)];simp
 have h1:s.tm 1=jH bn intC b:=by rw[f.t 1 (by simp)];simp
 have hd:s.df=[]:=by rw[f.d];simp
 clear f
 by_cases hlt:i<a.length
 ·have hwk:=jv hlt (by omega)
  have ia:=JP a hlt
  rw[List.drop_eq_getElem_cons hlt]at hb
  by_cases hlb:i<b.length
  ·have ib:=JP b hlb
   rw[List.drop_eq_getElem_cons hlb,jcv]at hb
   cases hc:(a[i] == b[i])
   ·have hc1:¬ a[i]=b[i]:=by simpa using hc
    have hc2:(a[i] != b[i])=true:=by simpa using hc1
    rw[if_neg hc1]at hb
    simp(disch:=first|(simp;done)|omega) [h5,h0,h1,hlt,hlb,j6 jB,ia,ib,hc2]
    exact j3 (by simp[hd]) (by simp[hb]) rfl
   ·have hc1:a[i]=b[i]:=by simpa using hc
    have hc2:(a[i] != b[i])=false:=by simpa using hc1
    rw[if_pos hc1]at hb
    simp(disch:=first|(simp;done)|omega) [h5,h0,h1,hlt,hlb,j6 jB,ia,ib,hc2,hwk]
    exact hb
  ·rw[List.drop_of_length_le (by omega:b.length≤i),jpp]at hb
   simp(disch:=first|(simp;done)|omega) [h5,h0,h1,hlt,hlb]
   exact j3 (by simp[hd]) (by simp[hb]) rfl
 ·have:i=a.length:=by omega
  subst this
  rw[List.drop_of_length_le (Nat.le_refl _),jtg]at hb
  simp(disch:=first|(simp;done)|omega) [h5,h0,h1]
  exact j3 (by simp[hd]) (by simp[hb]) rfl
end Go.Pv.T
