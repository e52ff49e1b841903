/- Part. -/
import Derived.Test.YtmanndcfeicokaaGreatDoorQO
set_option maxRecDepth 100000
set_option maxHeartbeats 8000000
set_option linter.all false
namespace Go.Pv.T
open Go Go.Pv
def jjt (t:Txn'):Txn':={ t with ops:=t.ops.take 6 }
def yB (h:Hist'):Hist':=if 8<(j8v h).ts.length then { j8v h with tn:=true,ts:=[] } else { j8v h with ts:=(j8v h).ts.map jjt }
def mixT (P:List (Txn'×Nat)) (i:Nat):List (Txn'×Nat):=P.mapIdx λj p=>if j<i then (jjt p.1,p.2) else p
def Wk {P:List (Txn'×Nat)}{i:Nat}:(mixT P i).length=P.length:=by simp[mixT]
def jv6 {P:List (Txn'×Nat)}:mixT P 0=P:=by apply di;intro n;simp[mixT]
def j0o {P:List (Txn'×Nat)}:(mixT P P.length).map (·.1)=(P.map (·.1)).map jjt:=by
 apply di;intro n;simp only[mixT,aR,List.getElem?_mapIdx];cases h:P[n]? with
 |none=>rfl
 |some o=>have:=(ag.1 h).1;simp[this]
def jnd {P:List (Txn'×Nat)}{i:Nat}(h:i<P.length):(mixT P i)[i]'(by rw[Wk];exact h)=P[i]:=by simp[mixT]
def jk4 {P:List (Txn'×Nat)}{i:Nat}(_:i<P.length):mixT P (i+1)=(mixT P i).modify i λp=>(jjt p.1,p.2):=by
 apply di;intro n;simp only[mixT,List.getElem?_mapIdx,List.getElem?_modify];cases c:P[n]? with
 |none=>simp
 |some o=>simp only[aO,Option.map_eq_map];by_cases b:i=n;subst b;simp;simp only[za b];by_cases a:n<i;rw[zb a,zb zO];rw[za zO,za a]
def jt2:∀{P:List (Txn'×Nat)}{i:Nat}(h:i<P.length),j2 (P.flatMap txU) (i*3+2) [.osl (2*(P[i]).2+1) (P[i]).2 0 (jjt (P[i]).1).ops.length 4]=(P.modify i λp=>(jjt p.1,p.2)).flatMap txU
 |[],_,h=>by simp at h
 |p::P,0,_=>by simp[fy,j2,txU,jjt]
 |p::P,i+1,h=>by
  have a:=jt2 (P:=P) (i:=i) (zU h);simp only[fy,Nat.add_one_ne_zero,zc,eM,ba,ia];rw[<- a];have:(i+1)*3+2=(txU p).length+(i*3+2):=by simp;omega
  rw[this];simp only[j2,aG];rw[eK,gC];simp only[bm]
def InO.six {ob:ZO}{lo hi:Nat}{p:Txn'×Nat}(h:InO ob lo hi p):InO ob lo hi (jjt p.1,p.2):=by
 obtain⟨X,a,c,b⟩:=h.ob;refine⟨h.nl,h.lo,h.hi,X,a,?_,?_⟩;simp only[jjt,ai];omega;have e:X.take ((jjt p.1).ops.length*4)=(X.take (p.1.ops.length*4)).take ((jjt p.1).ops.length*4):=by rw[List.take_take];congr 1;simp only[jjt,ai];omega
 rw[e,b,jy9];congr 1;simp only[jjt,ai];rcases gW p.1.ops.length 6 with h'|h';rw[fo h',bf,aM h'];rw[cq h']
def jzk {L u n i:Nat}(h:i<=n):YY 4 none (some (.int .i64 (i:Int))) (.osl L u 0 n 4)=some (.osl L u 0 i 4):=by simp[YY,JT,h]
def TsO.len {ob:ZO}{lo hi:Nat}{P:List (Txn'×Nat)}{v:V}(h:TsO ob lo hi P v):Ww v=some (.int .i64 P.length):=by rcases h.2 with⟨rfl,rfl⟩|⟨_,u,_,_,_,rfl,_⟩<;>rfl
def ev9 (h:Hist'):∃v,Ev E 9 [.agg (ya h)] v/\jtj v (yB h):=by
 refine XI rfl zQ ?_;generalize b0:(Q5 [.cell 2 (some 3)] λr=>jtj r (yB h))=PP;conv in(occs:=*)F9=>all_goals cbv
 simp[ya,j0,b0];refine jK (vs:=[.agg (ya h)]) zI rfl (sv27 (h:=h) (bY _)) ?_;rintro v b8 d0 B ⟨Sv,Kv,Tv,P,X,M,hv,D,F,T,hP,n0,n1,n2,ff⟩;simp only at hv D F T hP n0 n1 n2 ff;subst hv;obtain⟨lS,cS⟩:=D.leaf;obtain⟨lK,cK⟩:=F.leaf;obtain⟨lT,cT⟩:=T.leaf;have c1:=T.len;have b1:b8 1=some ⟨0,.cells (ya h)⟩:=by rw[ff 1 (λm hm=>by omega)];simp[ya]
 have b2:b8 129=some ⟨64,.cells [.sl none true 0 [],.sl none true 0 [],.sl none true 0 []]⟩:=by rw[ff 129 (λm hm=>by omega)];simp
 have e1:(yB h).ss=WS 25 h.ss:=by unfold yB;split<;>rfl
 have e2:(yB h).sn=(WS 25 h.ss).isEmpty:=by unfold yB;split<;>rfl
 have e3:(yB h).ks=WS 45 h.ks:=by unfold yB;split<;>rfl
 have e4:(yB h).kn=(WS 45 h.ks).isEmpty:=by unfold yB;split<;>rfl
 have G:(j8v h).ts.length=P.length:=by show((h.ts.take 45).map fewT).length=P.length;rw[<- hP,bp]
 simp[b1,j0,ya,j2];generalize hK:jyl E YO _ PP=K;have H:∀(s:St) (c:List (Txn'×Nat)) (o:V),c.length<=8->(yB h).ts=(c.map (·.1)).map jjt->(yB h).tn=c.isEmpty->s.tm 1=.ptr 1 0 0->s.tm 2=.ptr 129 64 0->s.df=[]->s.ro=0->s.fb=0->B<=s.nx ->
  s.ob 1=some ⟨0,.cells [Sv,Kv,o]⟩->s.ob 129=some ⟨64,.cells [.sl none true 0 [],.sl none true 0 [],.sl none true 0 []]⟩->StO s.ob (192+256) X (WS 25 h.ss) Sv->StO s.ob X M (WS 45 h.ks) Kv->TsO s.ob M B c o->K .nrm s:=by
  intro s c o d1 b6 c0 g1 g2 gd gr gb gn p1 p2 D F T
  rw[<- hK,ji7]
  clear hK
  have c3:=T.leaf
  simp
  refine j7 [(3,3),(11,37)] c.length (λi s=>s.tm 3=.int .i64 i/\s.ob 1=some ⟨0,.cells [Sv,Kv,o]⟩/\s.ob 129=some ⟨64,.cells [.sl none true 0 [],.sl none true 0 [],.sl none true 0 []]⟩/\StO s.ob (192+256) X (WS 25 h.ss) Sv/\StO s.ob X M (WS 45 h.ks) Kv/\TsO s.ob M B (mixT c i) o) rfl rfl
   ⟨zS,by simp[p1],by simp[p2],D.frame (λ_ _ _=>by simp) zK zK,F.frame (λ_ _ _=>by simp) zK zK,by rw[jv6];exact T.frame (λ_ _ _=>by simp) zK⟩ ?_
  clear D F
  rintro i Z hi ⟨h3,o1,o2,D,F,gX⟩ f
  have f1:Z.tm 1=.ptr 1 0 0:=by rw[f.t 1 zS];simp[g1]
  have f2:Z.tm 2=.ptr 129 64 0:=by rw[f.t 2 zS];simp[g2]
  have fd:Z.df=[]:=by rw[f.d];simp[gd]
  have fb:Z.fb=0:=by rw[f.b];simp[gb]
  have fr:Z.ro=0:=by rw[f.r];simp[gr]
  clear f
  have Q:=gX.len
  rw[Wk]at Q
  by_cases j:i<c.length
  ·have hw:=jc j zO;have p:i<(mixT c i).length:=by rw[Wk];exact j
   rcases gX.2 with⟨he,_⟩|⟨c9,u,h1,h2,h4,rfl,h5⟩;rw[he]at p;simp at p;have d2:=gX.1 (c[i]) (by rw[<- jnd j];exact av p);have b7:J0 3 (.osl (2*u+1) u 0 (mixT c i).length 3) (.int .i64 (i:Int))=some (.ptr (2*u+1) u (i*3)):=by simp[J0,p]
   have S:((mixT c i).flatMap txU)[i*3+2]? = some (.osl (2*(c[i]).2+1) (c[i]).2 0 (c[i]).1.ops.length 4):=by rw[jk Wb _ p (by decide:2<3),jnd j];rfl
   have k:=jt2 (P:=mixT c i) (i:=i) p;rw[<- jk4 j]at k;simp only[jnd j]at k;have b9:=ji2 (c[i]).1.ops.length 6;rw[show((6:Nat):Int)=6 from rfl]at b9;have c6:=λL u=>jzk (L:=L) (u:=u) (n:=(c[i]).1.ops.length) (i:=min (c[i]).1.ops.length 6) (ey _ _);have c2:(jjt (c[i]).1).ops.length=min (c[i]).1.ops.length 6:=by simp only[jjt,ai,Nat.min_comm]
   rw[c2]at k;have c4:¬2*u=0:=zO;have c5:¬2*u=128:=zO;have b5:i*3+2+1<=((mixT c i).flatMap txU).length:=by rw[j3 Wb];omega
   simp[h3,f1,o1,j0,Q,j,b7,h5,S,b9,c6,fr,c4,c5,k];have I:∀q∈mixT c (i+1),InO Z.ob M B q/\q.2≠u:=by intro q I;rw[jk4 j]at I;rcases jhm I with I|⟨x,hx,rfl⟩;exact⟨gX.1 q I,h4 q I⟩;have a0:=aH hx;exact⟨(gX.1 x a0).six,h4 x a0⟩
   have O:(mixT c (i+1)).length=(mixT c i).length:=by rw[Wk,Wk]
   refine⟨by have:=b5;simp only[List.length_flatMap,Wb]at this;exact this,hw,o2,D.frame (λy y1 y2=>?_) zK zK,F.frame (λy y1 y2=>?_) zK zK,λq N=>?_,.inr ⟨?_,u,h1,h2,λq N=>(I q N).2,by rw[O],zS⟩⟩;have w:¬2*y=2*u:=zO;simp[w];have w:¬2*y=2*u:=zO;simp[w];obtain⟨a,b⟩:=I q N;have w:¬2*q.2=2*u:=zO;exact a.frame (by simp[w]) zK;intro e;rw[e]at O;simp at O;omega
  ·have:i=c.length:=zO;subst this;simp[h3,f1,o1,j0,Q,f2,o2,j2,fr,D.leaf.1,F.leaf.1,c3.1];rw[<- b0];have c7:(mixT c c.length).isEmpty=(yB h).tn:=by rw[c0];exact jfn Wk
   refine kE1 (g:=yB h) (l:=129) (u:=64) (x:=Sv) (y:=Kv) (z:=o) (by simp[fd]) (by simp[f2]) zS ?_ ?_ ?_;rw[e1,e2];refine StO.out (lo:=192+256) (hi:=X) (D.frame (λy J q2=>?_) zK zK) (by simp[fr]);have w:¬2*y=128:=zO;simp[w];rw[e3,e4];refine StO.out (lo:=X) (hi:=M) (F.frame (λy J q2=>?_) zK zK) (by simp[fr]);have w:¬2*y=128:=zO;simp[w];have c8:(yB h).ts.length=(mixT c c.length).length:=by rw[b6,Wk];simp
   rw[c8,<- c7,b6,<- j0o];refine TsO.out (lo:=M) (hi:=B) (gX.frame (λy J q2=>?_) zK) (by simp[fr]);have w:¬2*y=128:=zO;simp[w]
 refine⟨⟨lS,lK,lT⟩,?_⟩;simp[c1];have J:∀y,192<=y->¬2*y=0:=λy hy=>by omega
 by_cases h8:8<P.length;have U:(8:Int)<(P.length:Int):=zO;simp[U,j0,j2];exact H _ [] (.sl none true 0 []) zS (by unfold yB;rw[zb (by rw[G];exact h8)];rfl) (by unfold yB;rw[zb (by rw[G];exact h8)];rfl) zS zS zS zS zS (by simp<;>omega) zS (by simp[b2])
  (D.frame (λy y1 y2=>by simp[J y zO]) zK zK) (F.frame (λy y1 y2=>by simp[J y zO]) zK zK) ⟨zS,.inl ⟨rfl,rfl⟩⟩
 have U:¬(8:Int)<(P.length:Int):=zO;simp[U];exact H _ P Tv zO (by unfold yB;rw[za (by rw[G];exact h8),hP];rfl) (by unfold yB;rw[za (by rw[G];exact h8)];show((h.ts.take 45).map fewT).isEmpty=_;rw[<- hP];exact jfn zS) zS zS zS zS zS (by simp<;>omega) zS (by simp[b2])
  (D.frame (λy y1 y2=>by simp[J y zO]) zK zK) (F.frame (λy y1 y2=>by simp[J y zO]) zK zK) (T.frame (λy y1 y2=>by simp[J y zO]) zK)
def j9v (h:Hist'):Small (yB h):=by have a:=juf h;unfold yB;split;exact⟨a.ss,a.sl,a.ks,a.kl,zS,zS⟩;refine⟨a.ss,a.sl,a.ks,a.kl,zU a.ts,λt c=>?_⟩;simp only[aI]at c;obtain⟨d,b,rfl⟩:=c;have:=a.os d b;simp only[jjt,ai];omega
end Go.Pv.T
namespace Go.Pv.T
open Go Go.Pv
end Go.Pv.T
namespace Go.Pv.T
open Go Go.Pv
def f20:Small H20:=⟨zQ,zQ,zQ,zQ,zQ,zQ⟩
def jxm (h:Hist'):(yB h).ts.length<=8:=by unfold yB;split;simp;rename_i a;simp only[bp];omega
end Go.Pv.T
namespace Go.Pv.T
open Go Go.Pv
end Go.Pv.T
namespace Go.Pv.T
open Go Go.Pv
section
variable {E:Env}{st:St}{ub:Nat}{K:List FP->St->Prop}{d:Option Nat}{nm:Bool}{r:List AOpr}
def Jq {a b:Nat}(h:a≠b):Nat.beq a b=false:=by cases c:Nat.beq a b;rfl;exact zf (bk c) h
end
section
end
def Jt (g:Hist') (x:Int):Int:=if x<0 then g.ts.length else x
def jzp (g:Hist') (i:Nat):List P2:=((g.ts.length:Int),(yl g).getD i 0)::((List.range i).filter λk=>yC g ((yl g).getD k 0).toNat==yC g ((yl g).getD i 0).toNat).map λk=>((yl g).getD k 0,(yl g).getD i 0)
def j20 (g:Hist') (M:List Int) (i:Nat):P2:=(Jt g (M.getD i 0),((yh g).getD i (0,0)).1)
def askE (g:Hist') (M:List Int) (seen:List Int) (i:Nat):List P2:=(seen.filter λt=>YH g t (ja4 g ((yh g).getD i (0,0)))&&(t != M.getD i 0)).map λt=>(t,Jt g (M.getD i 0))
def jab (g:Hist') (lvl:Int) (M:List Int) (i:Nat):List Int:=jul g lvl M [] ((yh g).getD i (0,0))
def jgc (g:Hist') (lvl:Int) (M:List Int) (a b:Nat):Bool :=
 (a==g.ts.length&&Xv g b)||((Xv g a&&Xv g b&&decide (a<b)&&(yC g a==yC g b)) ||
  (List.range (yh g).length).any λi=>j20 g M i==((a:Int),(b:Int))||(askE g M (jab g lvl M i) i).contains ((a:Int),(b:Int)))
def jyh (g:Hist') (lvl:Int) (M:List Int) (l:List P2):Prop:=∀z,z∈l ↔ (∃i,i<(yl g).length/\z∈jzp g i)\/∃i,i<(yh g).length/\(z=j20 g M i\/z∈askE g M (jab g lvl M i) i)
section
variable {g:Hist'}{lvl:Int}{M:List Int}
def jx0 {i:Nat}(h:i<(yl g).length):∃k:Nat,(yl g).getD i 0=k/\Xv g k=true/\k<g.ts.length:=by
 have e:(yl g).getD i 0=(yl g)[i]:=by simp[aC,aa h]
 obtain⟨k,b,a⟩:=comL_mem.1 (av h);exact⟨k,by rw[e,b],a,Xc a⟩
def j3t {i k:Nat}(hi:i<(yl g).length) (b:k<i):(yl g).getD k 0<(yl g).getD i 0:=by
 have a:=jn5 g;have c:(yl g).getD i 0=(yl g)[i]:=by simp[aC,aa hi]
 have d:(yl g).getD k 0=(yl g)[k]' zO:=by simp[aC,aa (show k<(yl g).length by omega)]
 rw[c,d];exact cL.1 a k i zO hi b
def jg5 {i:Nat}(h:i<(yh g).length):∃k:Nat,((yh g).getD i (0,0)).1=k/\Xv g k=true/\k<g.ts.length:=by
 have e:(yh g).getD i (0,0)=(yh g)[i]:=by simp[aC,aa h]
 obtain⟨k,b,a⟩:=comL_mem.1 (jpa (av h));exact⟨k,by rw[e,b],a,Xc a⟩
def jwc (a:WR g M=true) {i:Nat}(h:i<(yh g).length):M.getD i 0<0\/∃k:Nat,M.getD i 0=k/\Xv g k=true/\k<g.ts.length:=by
 have b:i<M.length:=by rw[Xm a];exact h
 have e:M.getD i 0=M[i]:=by simp[aC,aa b]
 rcases jwb a (av b) with h1|h1;exact .inl (by rw[e,h1];decide);obtain⟨k,d,c⟩:=comL_mem.1 h1;exact .inr ⟨k,by rw[e,d],c,Xc c⟩
def juk {i:Nat}{t:Int}(h:t∈jab g lvl M i):∃k:Nat,t=k/\k<g.ts.length:=by unfold jab jul at h;obtain⟨k,a,e,_⟩:=filTo_mem.1 h;exact⟨k,e,a⟩
def jbn (O:WR g M=true) {l:List P2}(h:jyh g lvl M l):jae (jaa l)=Ja (g.ts.length+1) (jgc g lvl M):=by
 refine jxz λz=>?_;rw[h];constructor;rintro(⟨i,f,d⟩|⟨i,f,d⟩);obtain⟨b,u,r,G⟩:=jx0 f;unfold jzp at d;rw[u]at d;rcases bq.1 d with rfl|d
 exact⟨g.ts.length,b,zO,zO,by simp[jgc,r],rfl⟩;obtain⟨k,o,rfl⟩:=aI.1 d;obtain⟨B,m⟩:=bA.1 o;have n:=aX.1 B;obtain⟨a,p,D,s⟩:=jx0 (show k<(yl g).length by omega);have q:=j3t f n;rw[p]at m ⊢;rw[p,u]at q;refine⟨a,b,zO,zO,?_,rfl⟩;simp only[bh]at m;simp[jgc,D,r,m,ib.1 q];have w:∀a b:Nat,z=((a:Int),(b:Int))->jgc g lvl M a b=true:=λa b e=>by unfold jgc;rw[bD,bD];refine .inr (.inr (bU.2 ⟨i,aX.2 f,?_⟩));rw[bD];rcases d with d|d;exact .inl (by rw[<- d,e];simp);exact .inr (by rw[e]at d;simpa using d)
 obtain⟨b,u,_,G⟩:=jg5 f;have N:∃a:Nat,Jt g (M.getD i 0)=a/\a<g.ts.length+1:=by unfold Jt;rcases jwc O f with h|⟨k,o,_,H⟩;exact⟨g.ts.length,by rw[zb h],zO⟩;exact⟨k,by rw[za zO,o],zO⟩
 obtain⟨a,p,s⟩:=N;rcases d with d|d;have e:z=((a:Int),(b:Int)):=by rw[d,j20,p,u]
 exact⟨a,b,s,zO,w a b e,e⟩;unfold askE at d;obtain⟨t,I,e⟩:=aI.1 d;obtain⟨c,P,J⟩:=juk (bA.1 I).1;have e:z=((c:Int),(a:Int)):=by rw[<- e,P,p]
 exact⟨c,a,zO,zO,w c a e,e⟩;rintro⟨a,b,p,u,j,rfl⟩;unfold jgc at j;rw[bD,bD]at j;rcases j with j|j|j;rw[aj]at j;obtain⟨v,F⟩:=j;have v:a=g.ts.length:=by simpa using v
 obtain⟨i,f,e⟩:=bo (comL_mem.2 ⟨b,rfl,F⟩);refine .inl ⟨i,f,?_⟩;unfold jzp;rw[show(yl g).getD i 0=(b:Int) by simp[aC,aa f,e],v];exact aJ ..;simp only[aj,ze]at j;obtain⟨⟨⟨v,F⟩,Q⟩,K⟩:=j;obtain⟨i,f,e⟩:=bo (comL_mem.2 ⟨b,rfl,F⟩);obtain⟨k,o,L⟩:=bo (comL_mem.2 ⟨a,rfl,v⟩);have y:(yl g).getD i 0=(b:Int):=by simp[aC,aa f,e]
 have x:(yl g).getD k 0=(a:Int):=by simp[aC,aa o,L]
 have n:k<i:=by rcases dx k i with h|h|h;exact h;subst h;rw[y]at x;omega;have:=j3t o h;rw[y,x]at this;omega
 refine .inl ⟨i,f,?_⟩;unfold jzp;refine aQ _ (aI.2 ⟨k,bA.2 ⟨aX.2 n,?_⟩,by rw[y,x]⟩);rw[y,x,bh,bh];exact K;obtain⟨i,f,h⟩:=bU.1 j;refine .inr ⟨i,aX.1 f,?_⟩;rw[bD]at h;rcases h with h|h;exact .inl (by simpa using(beq_iff_eq.1 h).symm);exact .inr (by simpa using h)
end
def yQ (p:P2):List V:=[.int .i64 p.1,.int .i64 p.2]
def Wq (p:P2):(yQ p).length=2:=rfl
def j7n (L:List P2):(L.flatMap yQ).all V.pureLeaf=true:=by rw[fE,ap];intro _ _;rfl
def EdV (ob:ZO) (lo hi:Nat) (v:V) (L:List P2):Prop :=
 (v=.sl none true 0 []/\L=[])\/∃u,v=.osl (2*u+1) u 0 L.length 2/\ob (2*u+1)=some ⟨u,.cells (L.flatMap yQ)⟩/\lo<=u/\u<hi
def EdV.frame {ob ob':ZO}{lo hi hi':Nat}{v:V}{L:List P2}(h:EdV ob lo hi v L) (b:∀u,lo<=u->u<hi->ob' (2*u+1)=ob (2*u+1)) (f:hi<=hi'):EdV ob' lo hi' v L:=by rcases h with h|⟨u,e,c,a,d⟩;exact .inl h;exact .inr ⟨u,e,(b u a d).trans c,a,zO⟩
def EdV.len {ob:ZO}{lo hi:Nat}{v:V}{L:List P2}(h:EdV ob lo hi v L):Ww v=some (.int .i64 (L.length:Nat)):=by rcases h with⟨rfl,rfl⟩|⟨u,rfl,_⟩<;>rfl
def jnn {F:Env}{Yf:YF}{lo hi ub:Nat}{v:V}{L:List P2}{p:P2}{s x:A}{st:St}{K:St->Nat->Prop}{d:Option Nat}(c:yc F st.tm s=v) (j:EdV st.ob lo hi v L) (i:st.ro<=lo) (e:jE st.ob 2 (yc F st.tm x)=some (yQ p)) (l:L.length<=1000000)
 (h:∀a:List Nat,(a=[]\/∃u,lo<=u/\u<hi/\a=[2*u+1]/\st.ob (2*u+1)=some ⟨u,.cells (L.flatMap yQ)⟩)->Q6 K st d ub { v:=.osl (2*ub+1) ub 0 (L.length+1) 2,obs:=[(2*ub+1,⟨ub,.cells ((L++[p]).flatMap yQ)⟩)],kill:=a }):j5 F Yf ⟨d,.append true 2 16 s x,none,true⟩ st ub K:=by
 rcases j with⟨rfl,rfl⟩|⟨u,rfl,b,k,f⟩;refine Js c e (by simp[yQ]) zQ rfl (by simp[yQ]) (by simp[yQ]) ?_;simpa[yQ,jF] using h [] (.inl rfl);have g:=j3 Wq L;refine XT (cs:=L.flatMap yQ) c e b (by simp[yQ]) zO zO zQ rfl (by simp[yQ];omega) (by simp[yQ];omega) ?_;have:=h [2*u+1] (.inr ⟨u,k,f,rfl,b⟩);rw[aM zO];simpa[yQ,jF] using this
section
end
end Go.Pv.T
namespace Go.Pv.T
open Go Go.Pv
end Go.Pv.T
namespace Go.Pv.T
open Go Go.Pv
def IntL (ob:ZO) (lo hi:Nat) (v:V) (L:List Int):Prop:=∃u,v=.osl (2*u+1) u 0 L.length 1/\ob (2*u+1)=some ⟨u,.cells (L.flatMap ye)⟩/\lo<=u/\u<hi
def EdL (ob:ZO) (lo hi:Nat) (v:V) (L:List P2):Prop:=∃u,v=.osl (2*u+1) u 0 L.length 2/\ob (2*u+1)=some ⟨u,.cells (L.flatMap yQ)⟩/\lo<=u/\u<hi
section
end
section
end
def jn3 (g:Hist') (lvl:Int) (M:List Int):Int:=if !jW g then 4 else if lvl<1\/2<lvl\/WR g M=false then 2 else 0
section
end
def jnp {st:St}{ub lo hi:Nat}{K:List FP->St->Prop}{d:Option Nat}{r:List AOpr}{v:V}{L:List P2}{p:P2}{s x:A}(f:yc E st.tm s=v) (m:EdV st.ob lo hi v L) (l:st.ro<=lo) (i:jE st.ob 2 (yc E st.tm x)=some (yQ p)) (q:L.length<=1000000)
 (h:∀e:List Nat,(e=[]\/∃u,lo<=u/\u<hi/\e=[2*u+1])->W1 E r K (yc E st.tm) (.append true 2 16 s x) st d ub { v:=.osl (2*ub+1) ub 0 (L.length+1) 2,obs:=[(2*ub+1,⟨ub,.cells ((L++[p]).flatMap yQ)⟩)],kill:=e }):jC E (⟨d,.append true 2 16 s x,none,true⟩::r) st ub K:=by
 rw[JC rfl];have a:yQ p≠[]:=by simp[yQ]
 have b:(yQ p).all V.leaf=true:=rfl;have k:=j3 Wq L;rcases m with⟨rfl,rfl⟩|⟨u,rfl,n,o,j⟩;simp only[yR,f,i,am,za a,dc,zd,JY,Yd];rw[zb ⟨zQ,b,by simp[yQ],by simp[yQ]⟩];simp only[JZ,jJ];have:=h [] (.inl rfl);simpa[yQ] using this;have c:j0 st.ob (2*u+1) u=some (L.flatMap yQ):=by simp[j0,n]
 simp only[yR,f,i,c,am,za a,JY,Yd];rw[zb ⟨bT▸zO,trivial,trivial,zO,zQ,b,by simp[yQ];omega,by simp[yQ];omega⟩,jJ];have:=h [2*u+1] (.inr ⟨u,o,j,rfl⟩);rw[show(L.flatMap yQ).take (L.length*2)=L.flatMap yQ from aM zO];simpa[yQ,ch] using this
def mkS (g:Hist') (mv rv lv:V):List V:=ya g++[mv,rv,lv]
def MkR (g:Hist') (mv rv:V) (kX uX lo:Nat) (ob:ZO) (ub:Nat) (L:List P2):Prop:=∃lv,ob kX=some ⟨uX,.cells (mkS g mv rv lv)⟩/\EdV ob lo ub lv L
def MkR.keep {g:Hist'}{mv rv:V}{kX uX lo ub b:Nat}{ob ob':ZO}{L:List P2}(h:MkR g mv rv kX uX lo ob ub L) (c:∀a,Off ub a->ob' a=ob a) (f:Off ub kX) (e:ub<=b):MkR g mv rv kX uX lo ob' b L:=by obtain⟨j,i,d⟩:=h;exact⟨j,(c _ f).trans i,d.frame (λu _ h=>c _ (Off.new h)) e⟩
section
variable {g:Hist'}{mv rv:V}{kX uX lo:Nat}{ob:ZO}{ub:Nat}{L:List P2}
def j3n (a:∃b,ob kX=some ⟨uX,.cells (mkS g mv rv b)⟩) (x:Int) (tk:Nat->Bool) (base ub:Nat):EvO E 220 [.ptr kX uX 0,.int .i64 x] ob tk base ub (.int .i64 (Jt g x)):=by
 obtain⟨b,a⟩:=a;refine jo rfl ?_;unfold Jt;by_cases h:x<0
 ·conv in(occs:=*)S220=>all_goals cbv
  simp[j0,a,mkS,ya,h];exact j4 rfl zS rfl
 ·conv in(occs:=*)S220=>all_goals cbv
  simp[h];exact j4 rfl zS rfl
def EdV.at {ob:ZO}{lo hi:Nat}{v:V}{L:List P2}(h:EdV ob lo hi v L):∃b a,lo<=b/\(a<=hi\/a=lo)/\EdV ob b a v L/\∀u,b<=u->u<a->v=.osl (2*u+1) u 0 L.length 2:=by rcases h with⟨a,c⟩|⟨u,a,c,e,f⟩;exact⟨lo,lo,zK,.inr rfl,.inl ⟨a,c⟩,λu h d=>by omega⟩;exact⟨u,u+1,e,.inl zO,.inr ⟨u,a,c,zK,cP _⟩,λw h d=>by rw[a,show w=u by omega]⟩
def j2q (v:V) (L:List P2) (key:Nat):Prop:=∀u,v=.osl (2*u+1) u 0 L.length 2->key≠2*u+1
def EdV.off {ob:ZO}{lo hi:Nat}{v:V}{L:List P2}(h:EdV ob lo hi v L) {key:Nat}(b:Off lo key):j2q v L key:=by
 intro u a;rcases h with⟨rfl,_⟩|⟨w,rfl,_,c,_⟩;cases a;have:w=u:=by injection a
 exact b u zO
def jt7 {Yf:YF}{tk:Nat->Bool}{ro base:Nat}{lv:V}(d:ob kX=some ⟨uX,.cells (mkS g mv rv lv)⟩) (B:EdV ob lo ub lv L) (k:Off lo kX) (x:lo<=ub) (D:ro<=lo) (z:ro<=uX) (N:L.length<=100000) (a b:Int) :
 ∃r,EvS E Yf.y 168 [.ptr kX uX 0,.int .i64 a,.int .i64 b] ob tk ro base ub r/\ub<=r.2.2.2/\(∃h,r.2.1 kX=some ⟨uX,.cells (mkS g mv rv h)⟩/\EdL r.2.1 ub r.2.2.2 h (L++[(Jt g a,Jt g b)]))/\∀c,Off ub c->c≠kX->j2q lv L c->r.2.1 c=ob c:=by
 have n:=(k.up x).ne;obtain⟨I,f,O,M,H,J⟩:=B.at;refine J7 rfl zQ ?_;show wpC E Yf S168.body _ (Jd S168.res _);conv in(occs:=*)S168=>all_goals cbv
 simp(disch:=try exact zD)[S168,j0,d,mkS,ya];refine jb4 (vs:=[.ptr kX uX 0,.int .i64 a]) zS rfl rfl (j3n (g:=g) (mv:=mv) (rv:=rv) ⟨lv,by simpa using d⟩ _ _ _ _) (JI rfl) ?_;simp;refine jb4 (vs:=[.ptr kX uX 0,.int .i64 b]) zS rfl rfl (j3n (g:=g) (mv:=mv) (rv:=rv) ⟨lv,by simpa using d⟩ _ _ _ _) (JI rfl) ?_;simp[j2];refine Xp (cs:=[.int .i64 (Jt g a),.int .i64 (Jt g b)]) (by simp[j2]) rfl rfl ?_;simp;refine jnp (lo:=I) (hi:=f) (v:=lv) (L:=L) (p:=(Jt g a,Jt g b)) zS (H.frame (λu f j=>?_) zK) zP (by simp[jE,j0,yQ]) zO λK q=>?_;have t:∀m,ub<=m->¬u=m:=λm l=>by omega
 simp(disch:=try exact zD)[yi,t];have i:∀c,j2q lv L c->K.any (Nat.beq c)=false:=λc k=>by rcases q with rfl|⟨u,f,j,rfl⟩;rfl;simp only[bG,bP,bx];exact X2 (k u (J u f j))
 have o:=i _ (B.off k);generalize w:List.flatMap yQ (L++[(Jt g a,Jt g b)])=cs9;simp(disch:=try exact zD)[j0,d,mkS,ya,o,jG,n,j2];have G:∀m,ub<=m->Nat.beq kX (2*m+1)=false:=λm l=>Jq (n m l);have s:∀m,ub<=m->Nat.beq (2*m+1) kX=false:=λm l=>Jq (dg (n m l));refine⟨z,by simp(disch:=try exact zD)[Jp,Q7,Qt,ja7,yx,yy,yO,uOf,Delta.wo,Delta.wt,G,s],?_⟩;refine jec (.inl rfl) zS ⟨zL,⟨.osl (2*(ub+832)+1) (ub+832) 0 (L.length+1) 2,by simp[mkS,ya,aG],ub+832,zS,?_,zO,zL⟩,λc f j F=>?_⟩;simp(disch:=try exact zD)[jG,yi,aG,w];exact λe=>zf e.symm (n _ zO);have t:=f.ne;simp(disch:=try exact zD)[jG,j,t,i c F]
def sv168 {Yf:YF}{tk:Nat->Bool}{ro base:Nat}(p:MkR g mv rv kX uX lo ob ub L) (q:Off lo kX) (d:lo<=ub) (h:ro<=lo) (i:ro<=uX) (m:L.length<=100000) (a b:Int) :
 ∃r,EvS E Yf.y 168 [.ptr kX uX 0,.int .i64 a,.int .i64 b] ob tk ro base ub r/\ub<=r.2.2.2/\MkR g mv rv kX uX lo r.2.1 r.2.2.2 (L++[(Jt g a,Jt g b)])/\∀c,Off lo c->c≠kX->r.2.1 c=ob c:=by
 obtain⟨B,e,j⟩:=p;obtain⟨r,v,n,⟨f,o,u,t,x,z,w⟩,l⟩:=jt7 (Yf:=Yf) (tk:=tk) (ro:=ro) (base:=base) e j q d h i m a b;exact⟨r,v,n,⟨f,o,.inr ⟨u,t,x,zO,w⟩⟩,λc k s=>l c (k.up d) s (j.off k)⟩
end
def ptC (u:Nat):List V:=[.ptr (2*u+1) u 0]
def jir (u:Nat):(ptC u).length=1:=rfl
def slU (o:Option Nat) (n sz:Nat):V:=match o with
 |none=>.sl none true 0 []
 |some u=>.osl (2*u+1) u 0 n sz
structure Gr (lo hi uG:Nat) (ut uf ue:Option Nat) (tu fu:List Nat) (WT WF:Nat->Nat) (T:List P2) (ob:ZO):Prop where
 o:ob (2*uG+1)=some ⟨uG,.cells [slU ut tu.length 1,slU uf fu.length 1,slU ue T.length 2,.bool true]⟩
 t:∀u,ut=some u->ob (2*u+1)=some ⟨u,.cells (tu.flatMap ptC)⟩
 f:∀u,uf=some u->ob (2*u+1)=some ⟨u,.cells (fu.flatMap ptC)⟩
 e:∀u,ue=some u->ob (2*u+1)=some ⟨u,.cells (T.flatMap yQ)⟩
 z:(ut=none->tu=[])/\(uf=none->fu=[])/\(ue=none->T=[])
 st:∀i (h:i<tu.length),ob (2*tu[i]+1)=some ⟨tu[i],.cells (yt (WT i))⟩
 sf:∀i (h:i<fu.length),ob (2*fu[i]+1)=some ⟨fu[i],.cells (yt (WF i))⟩
 nT:tu.Nodup
 nF:fu.Nodup
 nX:∀x∈tu,x ∉ fu
 nS:∀x,x∈tu\/x∈fu->x≠uG/\ut≠some x/\uf≠some x/\ue≠some x
 nG:ut≠some uG/\uf≠some uG/\ue≠some uG
 nU:∀x,ut=some x->uf≠some x/\ue≠some x
 nV:∀x,uf=some x->ue≠some x
 rG:lo<=uG/\uG<hi
 rL:∀x,ut=some x\/uf=some x\/ue=some x->lo<=x/\x<hi
 rS:∀x,x∈tu\/x∈fu->lo<=x/\x<hi
section
variable {lo hi hi' uG:Nat}{ut uf ue:Option Nat}{tu fu:List Nat}{WT WF:Nat->Nat}{T:List P2}{ob ob':ZO}
def Gr.keep (h:Gr lo hi uG ut uf ue tu fu WT WF T ob) (c:∀x,lo<=x->x<hi->ob' (2*x+1)=ob (2*x+1)) (d:hi<=hi'):Gr lo hi' uG ut uf ue tu fu WT WF T ob':=by
 have g:=λx a=>c x (h.rL x a).1 (h.rL x a).2;have j:=λx a=>c x (h.rS x a).1 (h.rS x a).2;exact⟨(c uG h.rG.1 h.rG.2).trans h.o,λu b=>(g u (.inl b)).trans (h.t u b),λu b=>(g u (.inr (.inl b))).trans (h.f u b),λu b=>(g u (.inr (.inr b))).trans (h.e u b),h.z,
  λi hi=>(j _ (.inl (av hi))).trans (h.st i hi),λi hi=>(j _ (.inr (av hi))).trans (h.sf i hi),h.nT,h.nF,h.nX,h.nS,h.nG,h.nU,h.nV,
  ⟨h.rG.1,aS h.rG.2 d⟩,λx a=>⟨(h.rL x a).1,aS (h.rL x a).2 d⟩,λx a=>⟨(h.rS x a).1,aS (h.rS x a).2 d⟩⟩
def Gr.wide {lo':Nat}(h:Gr lo hi uG ut uf ue tu fu WT WF T ob) (b:lo'<=lo):Gr lo' hi uG ut uf ue tu fu WT WF T ob :=
 ⟨h.o,h.t,h.f,h.e,h.z,h.st,h.sf,h.nT,h.nF,h.nX,h.nS,h.nG,h.nU,h.nV,⟨bH b h.rG.1,h.rG.2⟩,λx a=>⟨bH b (h.rL x a).1,(h.rL x a).2⟩,λx a=>⟨bH b (h.rS x a).1,(h.rS x a).2⟩⟩
def Gr.off (h:Gr lo hi uG ut uf ue tu fu WT WF T ob) {x:Nat}(a:x<hi):Off hi (2*x+1):=Off.new a
def jiz {b:Type}{l:List b}(h:l.Nodup) {i j:Nat}(hi:i<l.length) (a:j<l.length) (e:l[i]=l[j]):i=j:=by rcases dx i j with h1|h1|h1;exact zf e (cL.1 h i j hi a h1);exact h1;exact zf e.symm (cL.1 h j i a hi h1)
def Gr.putT (h:Gr lo hi uG ut uf ue tu fu WT WF T ob) {a w:Nat}(m:a<tu.length) (n:ob' (2*tu[a]+1)=some ⟨tu[a],.cells (yt w)⟩) (g:∀x,lo<=x->x<hi->x≠tu[a]->ob' (2*x+1)=ob (2*x+1)) (d:hi<=hi') :
 Gr lo hi' uG ut uf ue tu fu (λi=>if i=a then w else WT i) WF T ob':=by
 have l:tu[a]∈tu:=av m;obtain⟨p,r,s,v⟩:=h.nS _ (.inl l);have j:=λx (b:ut=some x\/uf=some x\/ue=some x)=>g x (h.rL x b).1 (h.rL x b).2 (λe=>by subst e;rcases b with b|b|b<;>contradiction);have k:=λx b=>g x (h.rS x b).1 (h.rS x b).2;refine⟨(g uG h.rG.1 h.rG.2 (dg p)).trans h.o,λu c=>(j u (.inl c)).trans (h.t u c),λu c=>(j u (.inr (.inl c))).trans (h.f u c),λu c=>(j u (.inr (.inr c))).trans (h.e u c),h.z,
  λi hi=>?_,λi hi=>(k _ (.inr (av hi)) (λe=>h.nX _ l (e▸av hi))).trans (h.sf i hi),h.nT,h.nF,h.nX,h.nS,h.nG,h.nU,h.nV,
  ⟨h.rG.1,aS h.rG.2 d⟩,λx b=>⟨(h.rL x b).1,aS (h.rL x b).2 d⟩,λx b=>⟨(h.rS x b).1,aS (h.rS x b).2 d⟩⟩
 by_cases e:i=a;subst e;rw[zb rfl];exact n;rw[za e];exact(k _ (.inl (av hi)) (λq=>e (jiz h.nT hi m q))).trans (h.st i hi)
def Gr.putF (h:Gr lo hi uG ut uf ue tu fu WT WF T ob) {a w:Nat}(m:a<fu.length) (n:ob' (2*fu[a]+1)=some ⟨fu[a],.cells (yt w)⟩) (g:∀x,lo<=x->x<hi->x≠fu[a]->ob' (2*x+1)=ob (2*x+1)) (d:hi<=hi') :
 Gr lo hi' uG ut uf ue tu fu WT (λi=>if i=a then w else WF i) T ob':=by
 have l:fu[a]∈fu:=av m;obtain⟨p,r,s,v⟩:=h.nS _ (.inr l);have j:=λx (b:ut=some x\/uf=some x\/ue=some x)=>g x (h.rL x b).1 (h.rL x b).2 (λe=>by subst e;rcases b with b|b|b<;>contradiction);have k:=λx b=>g x (h.rS x b).1 (h.rS x b).2;refine⟨(g uG h.rG.1 h.rG.2 (dg p)).trans h.o,λu c=>(j u (.inl c)).trans (h.t u c),λu c=>(j u (.inr (.inl c))).trans (h.f u c),λu c=>(j u (.inr (.inr c))).trans (h.e u c),h.z,
  λi hi=>(k _ (.inl (av hi)) (λe=>h.nX _ (av hi) (e▸l))).trans (h.st i hi),λi hi=>?_,h.nT,h.nF,h.nX,h.nS,h.nG,h.nU,h.nV,
  ⟨h.rG.1,aS h.rG.2 d⟩,λx b=>⟨(h.rL x b).1,aS (h.rL x b).2 d⟩,λx b=>⟨(h.rS x b).1,aS (h.rS x b).2 d⟩⟩
 by_cases e:i=a;subst e;rw[zb rfl];exact n;rw[za e];exact(k _ (.inr (av hi)) (λq=>e (jiz h.nF hi m q))).trans (h.sf i hi)
def Gr.edge (h:Gr lo hi uG ut uf ue tu fu WT WF T ob) {x:Nat}{p:P2}(m:ob' (2*uG+1)=some ⟨uG,.cells [slU ut tu.length 1,slU uf fu.length 1,slU (some x) (T.length+1) 2,.bool true]⟩) (s:ob' (2*x+1)=some ⟨x,.cells ((T++[p]).flatMap yQ)⟩)
 (j:∀y,lo<=y->y<hi->y≠uG->ue≠some y->ob' (2*y+1)=ob (2*y+1)) (v:hi<=x) (o:x<hi'):Gr lo hi' uG ut uf (some x) tu fu WT WF (T++[p]) ob':=by
 have g:hi<=hi':=zO;have k:lo<=x:=by have:=h.rG;omega
 have ne:∀y,ut=some y\/uf=some y\/ue=some y->y≠x:=λy a e=>by have:=(h.rL y a).2;omega
 have r:∀y,y∈tu\/y∈fu->y≠x:=λy a e=>by have:=(h.rS y a).2;omega
 refine⟨by rw[au];exact m,λu b=>(j u (h.rL u (.inl b)).1 (h.rL u (.inl b)).2 (λe=>h.nG.1 (e▸b)) (h.nU u b).2).trans (h.t u b),λu b=>(j u (h.rL u (.inr (.inl b))).1 (h.rL u (.inr (.inl b))).2 (λe=>h.nG.2.1 (e▸b)) (h.nV u b)).trans (h.f u b),
  λu b=>by cases b;exact s,⟨h.z.1,h.z.2.1,λe=>by cases e⟩,λi hi=>?_,λi hi=>?_,h.nT,h.nF,h.nX,λy a=>?_,⟨h.nG.1,h.nG.2.1,λe=>?_⟩,λy a=>⟨(h.nU y a).1,λe=>ne y (.inl a) (by injection e with e;exact e.symm)⟩,λy a e=>ne y (.inr (.inl a)) (by injection e with e;exact e.symm),
  ⟨h.rG.1,aS h.rG.2 g⟩,λy a=>?_,λy a=>⟨(h.rS y a).1,aS (h.rS y a).2 g⟩⟩
 have c:=av hi;obtain⟨d,_,_,l⟩:=h.nS _ (.inl c);exact(j _ (h.rS _ (.inl c)).1 (h.rS _ (.inl c)).2 d l).trans (h.st i hi);have c:=av hi;obtain⟨d,_,_,l⟩:=h.nS _ (.inr c);exact(j _ (h.rS _ (.inr c)).1 (h.rS _ (.inr c)).2 d l).trans (h.sf i hi);obtain⟨d,n,q,_⟩:=h.nS y a;exact⟨d,n,q,λe=>r y a (by injection e with e;exact e.symm)⟩;have:=h.rG.2;injection e with e;omega;rcases a with a|a|a;exact⟨(h.rL y (.inl a)).1,aS (h.rL y (.inl a)).2 g⟩;exact⟨(h.rL y (.inr (.inl a))).1,aS (h.rL y (.inr (.inl a))).2 g⟩;cases a;exact⟨k,o⟩
def Gr.node {a b c d:Nat}(h:Gr lo hi uG ut uf none tu fu (λ_=>0) (λ_=>0) [] ob) (w:ob' (2*uG+1)=some ⟨uG,.cells [slU (some b) (tu.length+1) 1,slU (some d) (fu.length+1) 1,.sl none true 0 [],.bool true]⟩)
 (s:ob' (2*b+1)=some ⟨b,.cells ((tu++[a]).flatMap ptC)⟩) (p:ob' (2*d+1)=some ⟨d,.cells ((fu++[c]).flatMap ptC)⟩) (B:ob' (2*a+1)=some ⟨a,.cells (yt 0)⟩) (D:ob' (2*c+1)=some ⟨c,.cells (yt 0)⟩)
 (t:∀y,lo<=y->y<hi->y≠uG->ut≠some y->uf≠some y->ob' (2*y+1)=ob (2*y+1)) (v:hi<=a/\a<b/\b<c/\c<d/\d<hi'):Gr lo hi' uG (some b) (some d) none (tu++[a]) (fu++[c]) (λ_=>0) (λ_=>0) [] ob':=by
 obtain⟨F,K,G,I,H⟩:=v;have J:hi<=hi':=zO;have n:=h.rG;have g:∀y,y∈tu\/y∈fu->lo<=y/\y<hi:=h.rS;have o:∀y,y∈tu\/y∈fu->ob' (2*y+1)=ob (2*y+1):=λy f=>by obtain⟨x,q,r,_⟩:=h.nS y f;exact t y (g y f).1 (g y f).2 x q r
 have j:∀y,y∈tu++[a]\/y∈fu++[c]->(y∈tu\/y∈fu)\/y=a\/y=c:=λy f=>by simp only[aP,ae]at f;rcases f with(h|h)|(h|h);exact .inl (.inl h);exact .inr (.inl h);exact .inl (.inr h);exact .inr (.inr h)
 refine⟨by simpa[slU] using w,λu k=>(by cases k;exact s),λu k=>(by cases k;exact p),λu k=>(by cases k),⟨λe=>(by cases e),λe=>(by cases e),λ_=>rfl⟩,λi hi=>?_,λi hi=>?_,?_,?_,λy f=>?_,λy f=>?_,⟨λe=>?_,λe=>?_,λe=>(by cases e)⟩,
  λy f=>⟨λe=>?_,λe=>(by cases e)⟩,λy _ e=>(by cases e),⟨n.1,zO⟩,λy f=>?_,λy f=>?_⟩
 by_cases e:i<tu.length;rw[fl e];exact(o _ (.inl (av e))).trans (h.st i e);have:i=tu.length:=by rw[au,dM]at hi;omega
 subst this;rw[eU zK];simpa using B;by_cases e:i<fu.length;rw[fl e];exact(o _ (.inr (av e))).trans (h.sf i e);have:i=fu.length:=by rw[au,dM]at hi;omega
 subst this;rw[eU zK];simpa using D;rw[dh];exact⟨h.nT,zS,λy f z m e=>by rw[ae]at m;have:=(g y (.inl f)).2;omega⟩;rw[dh];exact⟨h.nF,zS,λy f z m e=>by rw[ae]at m;have:=(g y (.inr f)).2;omega⟩;simp only[aP,ae]at f ⊢;rintro(l|l);rcases f with h3|h3;exact h.nX y h3 l;have:=(g y (.inr l)).2;omega;rcases f with h3|h3;have:=(g y (.inl h3)).2;omega;omega;refine⟨?_,λe=>?_,λe=>?_,λe=>(by cases e)⟩;rcases j y f with h3|h3|h3;exact(h.nS y h3).1;omega;omega;injection e with e;rcases j y f with h3|h3|h3;have:=(g y h3).2;omega;omega;omega;injection e with e;rcases j y f with h3|h3|h3;have:=(g y h3).2;omega;omega;omega;injection e with e;omega;injection e with e;omega;injection f with f;injection e with e;omega;rcases f with f|f|f;injection f with f;omega;injection f with f;omega;cases f;rcases j y f with h3|h3|h3;have:=g y h3;omega;omega;omega
end
def Jy (o:Option Nat):List Nat:=match o with
 |none=>[]
 |some u=>[2*u+1]
def jfm {st:St}{ub:Nat}{K:List FP->St->Prop}{d:Option Nat}{r:List AOpr}{ut:Option Nat}{tu:List Nat}{a:Nat}{s x:A}(f:yc E st.tm s=slU ut tu.length 1) (i:∀u,ut=some u->st.ob (2*u+1)=some ⟨u,.cells (tu.flatMap ptC)⟩/\st.ro<=u) (m:ut=none->tu=[])
 (g:jE st.ob 1 (yc E st.tm x)=some (ptC a)) (n:tu.length<=1000000)
 (h:W1 E r K (yc E st.tm) (.append true 1 8 s x) st d ub { v:=.osl (2*ub+1) ub 0 (tu.length+1) 1,obs:=[(2*ub+1,⟨ub,.cells ((tu++[a]).flatMap ptC)⟩)],kill:=Jy ut }):jC E (⟨d,.append true 1 8 s x,none,true⟩::r) st ub K:=by
 rw[JC rfl];have b:ptC a≠[]:=by simp[ptC]
 have c:(ptC a).all V.leaf=true:=rfl;have j:=j3 jir tu;cases ut with
 |none=>have:=m rfl;subst this;simp only[yR,f,slU,g,am,za b,dc,zd,JY,Yd];rw[zb ⟨zQ,c,by simp[ptC],by simp[ptC]⟩];simp only[JZ,jJ];simpa[ptC,Jy] using h
 |some u=>
  obtain⟨k,l⟩:=i u rfl;have e:j0 st.ob (2*u+1) u=some (tu.flatMap ptC):=by simp[j0,k]
  simp only[yR,f,slU,g,e,am,za b,JY,Yd];rw[zb ⟨bT▸l,trivial,trivial,zO,zQ,c,by simp[ptC];omega,by simp[ptC];omega⟩,jJ];rw[show(tu.flatMap ptC).take (tu.length*1)=tu.flatMap ptC from aM zO];simpa[ptC,Jy,ch] using h
def j55 (l u o:Nat):yO (.ptr l u o)=[l]:=rfl
def j56 (l u o n z:Nat):yO (.osl l u o n z)=[l]:=rfl
def beqN {a b:Nat}(h:¬a=b):Nat.beq (2*a+1) (2*b+1)=false:=Jq zO
def jxu (a:Nat) (x y:List Nat):Qt (a::x) y=(!(y.any λb=>Nat.beq a b)&&Qt x y):=by simp[Qt,Bool.not_or]
def j2c (y:List Nat):Qt [] y=true:=rfl
def j2d (x a y:List Nat):Qt (x++a) y=(Qt x y&&Qt a y):=by simp[Qt,eD,Bool.not_or]
section
variable {ob:ZO}{ub:Nat}
def PgR (ob:ZO) (ub n:Nat) (WT WF:Nat->Nat) (k:Nat) (r:V×(ZO)×(Nat->Bool)×Nat):Prop :=
 ∃uG ut uf ue tu fu T,r.1=.tup [.ptr (2*uG+1) uG 0,.int .i64 0]/\Gr ub r.2.2.2 uG (some ut) (some uf) ue tu fu WT WF T r.2.1/\tu.length=n/\fu.length=n/\T.length<=k/\ub<=r.2.2.2/\∀key,Off ub key->r.2.1 key=ob key
def sv175 {Yf:YF}{tk:Nat->Bool}{ro base n:Nat}(c3:ro<=ub) (U:0<n) (h9:n<=9):∃r,EvS E Yf.y 175 [.int .i64 (n:Int)] ob tk ro base ub r/\PgR ob ub n (λ_=>0) (λ_=>0) 0 r:=by
 refine J7 rfl zQ ?_;show wpC E Yf S175.body _ (Jd S175.res _);have c1:¬(n:Int)<0:=zO;have a0:¬(500:Int)<n:=zO;conv in(occs:=*)S175=>all_goals cbv
 simp(disch:=try exact zD)[S175,c1,a0,V.cells,j2];refine jf λD l=>?_;obtain⟨q,u1,u2,g4,gG⟩:∃u,ub<=u/\u<D.nx/\D.tm 4=.ptr (2*u+1) u 0/\D.ob (2*u+1)=some ⟨u,.cells [.sl none true 0 [],.sl none true 0 [],.sl none true 0 [],.bool true]⟩:=by refine⟨ub+576,zO,by rw[l];first|omega|(simp;done)|(simp;omega),by rw[l];simp,by rw[l];simp[aG]⟩
 have c0:D.tm 13=.int .i64 n:=by rw[l];simp
 have N:D.tm 14=.int .i64 0:=by rw[l];simp
 have gd:D.df=[]:=by rw[l];simp
 have gr:D.ro=ro:=by rw[l];simp
 have go:∀g,Off ub g->D.ob g=ob g:=λg v=>by have:=v.ne;rw[l];simp(disch:=try exact zD)[this]
 clear l;obtain⟨J,hJ⟩:∃J:Nat->St->Prop,J=λi s=>s.tm 14=.int .i64 i/\(∃ut k tu K,Gr ub s.nx q ut k none tu K (λ_=>0) (λ_=>0) [] s.ob/\tu.length=i/\K.length=i/\((ut=none/\k=none/\i=0)\/∃a b,ut=some a/\k=some b))/\ub<=s.nx/\∀g,Off ub g->s.ob g=ob g:=⟨_,rfl⟩;refine j7 [(14,36)] n J rfl rfl ?_ ?_;rw[hJ];refine⟨by simpa using N,⟨none,none,[],[],⟨by simpa[slU] using gG,λu h=>(by cases h),λu h=>(by cases h),λu h=>(by cases h),⟨λ_=>rfl,λ_=>rfl,λ_=>rfl⟩,λi h=>(by simp at h),λi h=>(by simp at h),dQ,dQ,λx h=>(by simp at h),λx h=>(by simp at h),⟨zS,zS,zS⟩,λx h=>(by cases h),λx h=>(by cases h),⟨u1,u2⟩,λx h=>(by simp at h),λx h=>(by simp at h)⟩,rfl,rfl,.inl ⟨rfl,rfl,rfl⟩⟩,zO,go⟩;clear N go gG u2;intro i s hi O f;rw[hJ]at O;obtain⟨I,⟨ut,k,tu,K,j,ht,hf,p⟩,sn,so⟩:=O;have s4:=(f.t 4 zS).trans g4;have T:=(f.t 13 zS).trans c0;have sd:=f.d.trans gd;have sr:=f.r.trans gr;clear f;by_cases G:i<n;have b0:=jc G zO;have F:=j.o;have b5:=j.rG;have nG:∀m,s.nx<=m->¬q=m:=λm w=>by omega
 have kt:∀m,s.nx<=m->(Jy ut).any (Nat.beq (2*m+1))=false:=λm w=>by
  cases ut with
  |none=>rfl
  |some u=>have:=j.rL u (.inl rfl);simp only[Jy,bG,bP,bx];exact Jq zO
 have X:∀m,s.nx<=m->(Jy k).any (Nat.beq (2*m+1))=false:=λm w=>by
  cases k with
  |none=>rfl
  |some u=>have:=j.rL u (.inr (.inl rfl));simp only[Jy,bG,bP,bx];exact Jq zO
 have H:∀x,ut≠some x->(Jy ut).any (Nat.beq (2*x+1))=false:=λx hx=>by
  cases ut with
  |none=>rfl
  |some u=>simp only[Jy,bG,bP,bx];exact Jq λe=>hx (by rw[show x=u by omega])
 have M:∀x,k≠some x->(Jy k).any (Nat.beq (2*x+1))=false:=λx hx=>by
  cases k with
  |none=>rfl
  |some u=>simp only[Jy,bG,bP,bx];exact Jq λe=>hx (by rw[show x=u by omega])
 have b7:∀g,Off ub g->(Jy ut).any (Nat.beq g)=false:=λg v=>by
  cases ut with
  |none=>rfl
  |some u=>have:=j.rL u (.inl rfl);simp only[Jy,bG,bP,bx];exact Jq (v u this.1)
 have b6:∀g,Off ub g->(Jy k).any (Nat.beq g)=false:=λg v=>by
  cases k with
  |none=>rfl
  |some u=>have:=j.rL u (.inr (.inl rfl));simp only[Jy,bG,bP,bx];exact Jq (v u this.1)
 simp(disch:=try exact zD)[I,T,s4,G,j0,F];refine jp4 zS rfl rfl rfl ?_;simp;refine Xp (cs:=ptC (s.nx+448)) (by simp[j2,ptC,aG,V.cells,V.leaf]) rfl rfl ?_;simp;refine jfm (ut:=ut) (tu:=tu) (a:=s.nx+448) zS (λu L=>?_) j.z.1 (by simp[jE,j0,ptC,aG]) zO ?_;have:=j.rL u (.inl L);have nu:∀m,s.nx<=m->¬u=m:=λm w=>by omega
 refine⟨?_,by simp[sr];omega⟩;simp(disch:=try exact zD)[yi,nu,j.t u L];have k1:=H q j.nG.1;simp(disch:=try exact zD)[jG,j0,F,yi,nG,k1,s4];refine jp4 zS rfl rfl rfl ?_;simp;refine Xp (cs:=ptC (s.nx+896)) (by simp[j2,ptC,aG,V.cells,V.leaf]) rfl rfl ?_;simp;refine jfm (ut:=k) (tu:=K) (a:=s.nx+896) zS (λu L=>?_) j.z.2.1 (by simp[jE,j0,ptC,aG]) zO ?_;have:=j.rL u (.inr (.inl L));have nu:∀m,s.nx<=m->¬u=m:=λm w=>by omega
 have k2:=H u λe=>(j.nU u e).1 L;refine⟨?_,by simp[sr];omega⟩;simp(disch:=try exact zD)[jG,yi,nu,j.f u L,k2];have k3:=M q j.nG.2.1;simp(disch:=try exact zD)[jG,j0,F,yi,nG,k1,k3,j2];have b8:(∀m,s.nx<=m->Nat.beq (2*q+1) (2*m+1)=false)/\(∀m,s.nx<=m->Nat.beq (2*m+1) (2*q+1)=false):=⟨λm w=>Jq zO,λm w=>Jq zO⟩;obtain⟨P,Q⟩:=b8;have S:∀o:Option Nat,(o=ut\/o=k)->∀n,yO (slU o n 1)=Jy o/\uOf (slU o n 1)=[]:=λo _ n=>by cases o<;>exact⟨rfl,rfl⟩
 have hd1:=S ut (.inl rfl);have Z:=S k (.inr rfl);have kk:(Jy ut).any (λa=>(Jy k).any λb=>Nat.beq a b)=false/\(Jy k).any (λa=>(Jy ut).any λb=>Nat.beq a b)=false:=by
  rcases p with⟨rfl,rfl,rfl⟩|⟨a,b,rfl,rfl⟩;exact⟨rfl,rfl⟩;have:=(j.nU a rfl).1;have c2:a≠b:=λe=>this (by rw[e])
  simp only[Jy,bG,bP,bx];exact⟨Jq zO,Jq zO⟩
 have c5:∀m,s.nx<=m->(Jy ut).any (λa=>Nat.beq a (2*m+1))=false:=λm w=>by
  cases ut with
  |none=>rfl
  |some u=>have:=j.rL u (.inl rfl);simp only[Jy,bG,bP,bx];exact Jq zO
 have c4:∀m,s.nx<=m->(Jy k).any (λa=>Nat.beq a (2*m+1))=false:=λm w=>by
  cases k with
  |none=>rfl
  |some u=>have:=j.rL u (.inr (.inl rfl));simp only[Jy,bG,bP,bx];exact Jq zO
 have b9:(Jy ut).any (λa=>Nat.beq a (2*q+1))=false/\(Jy k).any (λa=>Nat.beq a (2*q+1))=false:=by rcases p with⟨rfl,rfl,rfl⟩|⟨a,b,rfl,rfl⟩;exact⟨rfl,rfl⟩;have U:=j.nG;simp only[Jy,bG,bP,bx];exact⟨Jq λe=>U.1 (by rw[show a=q by omega]),Jq λe=>U.2.1 (by rw[show b=q by omega])⟩
 refine⟨zO,by simp(disch:=try exact zD)[Jp,Q7,Qt,ja7,yx,yy,yO,uOf,Delta.wo,Delta.wt,P,Q,b9],jpq (by simp(disch:=try exact zD)[jk1,jhj,Wj,jxu,j2c,j2d,ja7,yx,yy,j55,j56,Delta.wo,Delta.wt,P,Q,hd1,Z,kt,X,k1,k3,beqN]),?_⟩;simp(disch:=try exact zD)[I,b0,G];rw[hJ];have B:∀m,s.nx<=m->¬m=q:=λm w=>by omega
 refine⟨zS,⟨some (s.nx+576),some (s.nx+1024),tu++[s.nx+448],K++[s.nx+896],j.node (a:=s.nx+448) (b:=s.nx+576) (c:=s.nx+896) (d:=s.nx+1024) ?_ ?_ ?_ ?_ ?_ (λy U h2 h3 h4 h5=>?_) ⟨zO,zO,zO,zO,zL⟩,by simp[ht],by simp[hf],.inr ⟨_,_,rfl,rfl⟩⟩,zL,λg v=>?_⟩;simp(disch:=try exact zD)[slU,aG];simp(disch:=try exact zD)[jG,yi,B,X,aG];simp(disch:=try exact zD)[jG,yi,B,aG];simp(disch:=try exact zD)[jG,yi,B,kt,X,aG,jbl];simp(disch:=try exact zD)[jG,yi,B,X,aG,jbl];have ny:∀m,s.nx<=m->¬y=m:=λm w=>by omega
 have q1:=H y h4;have q2:=M y h5;simp(disch:=try exact zD)[jG,yi,ny,q1,q2,h3];have q1:=b7 g v;have q2:=b6 g v;have q3:=(v.up (show ub<=s.nx by omega)).ne;have q4:¬g=2*q+1:=v q b5.1;simp(disch:=try exact zD)[jG,q1,q2,q3,q4];exact so g v;have:i=n:=zO;subst this;simp(disch:=try exact zD)[I,T,s4];rcases p with⟨_,_,rfl⟩|⟨a,b,rfl,rfl⟩;omega;refine jca (by simp[sd]) ⟨q,a,b,none,tu,K,[],zS,j.keep (λx _ _=>by simp) zL,ht,hf,zS,zL,λg v=>by simpa using so g v⟩
end
end Go.Pv.T
