/- Part. -/
import Derived.Test.YtmanndcfeicokaaGreatDoorPM
set_option maxRecDepth 100000
set_option maxHeartbeats 8000000
set_option linter.all false
namespace Go.Pv.T
open Go Go.Pv
def sesK (g:Hist') (i k:Nat):List P2:=((g.ts.length:Int),(ym g).getD i 0)::((List.range k).filter λk=>yE g ((ym g).getD k 0).toNat==yE g ((ym g).getD i 0).toNat).map λk=>((ym g).getD k 0,(ym g).getD i 0)
def yF (g:Hist') (i:Nat):List P2:=(List.range i).flatMap (j2b g)
def jly (g:Hist') (i:Nat):yF g (i+1)=yF g i++sesK g i i:=by unfold yF;rw[cV,bK];simp[j2b,sesK]
def jlz (g:Hist') (i k:Nat):sesK g i (k+1)=sesK g i k++if yE g ((ym g).getD k 0).toNat==yE g ((ym g).getD i 0).toNat then [((ym g).getD k 0,(ym g).getD i 0)] else []:=by unfold sesK;rw[cV,bN,bE,cY];congr 2;cases h:yE g ((ym g).getD k 0).toNat==yE g ((ym g).getD i 0).toNat<;>simp only[ct,dA,h,zd,ag,zc,aZ,cn]
def jj0 (g:Hist') (i:Nat):∀k,(sesK g i k).length<=k+1
 |0=>by simp[sesK]
 |k+1=>by have:=jj0 g i k;rw[jlz];split<;>simp<;>omega
def jah (g:Hist') (N:Nat):∀i,i<=N->(yF g i).length<=i*(N+1)
 |0,_=>by simp[yF]
 |i+1,h=>by have a:=jah g N i zO;have b:=jj0 g i i;rw[jly,ap,dh];omega
def rdK (g:Hist') (lvl:Int) (M:List Int) (i j:Nat):List P2:=j08 g M i::askE g M ((X9 g lvl M i).take j) i
def rdL (g:Hist') (lvl:Int) (M:List Int) (i:Nat):List P2:=(List.range i).flatMap λi=>rdK g lvl M i (X9 g lvl M i).length
def jrl (g:Hist') (lvl:Int) (M:List Int) (i:Nat):rdL g lvl M (i+1)=rdL g lvl M i++rdK g lvl M i (X9 g lvl M i).length:=by unfold rdL;rw[cV,bK];simp
def j2h {g:Hist'}{lvl:Int}{M:List Int}{i j:Nat}(h:j<(X9 g lvl M i).length):rdK g lvl M i (j+1)=rdK g lvl M i j++if Jo g (X9 g lvl M i)[j] (Wu g ((yi g).getD i (0,0)))&&((X9 g lvl M i)[j] != M.getD i 0) then [((X9 g lvl M i)[j],Jf g (M.getD i 0))] else []:=by unfold rdK askE;rw[av h,bN,bE,cY];congr 2;cases h:Jo g (X9 g lvl M i)[j] (Wu g ((yi g).getD i (0,0)))&&((X9 g lvl M i)[j] != M.getD i 0)<;>simp only[ct,dA,h,zd,ag,zc,aZ,cn]
def jxg (g:Hist') (lvl:Int) (M:List Int) (i j:Nat):(rdK g lvl M i j).length<=j+1:=by unfold rdK askE;have a:=bO (λt=>Jo g t (Wu g ((yi g).getD i (0,0)))&&(t != M.getD i 0)) ((X9 g lvl M i).take j);rw[ai]at a;simp only[bj,bu];omega
def jl2 (g:Hist') (lvl:Int) (M:List Int) (i:Nat):(X9 g lvl M i).length<=g.ts.length:=jg3 _ _
def jow (g:Hist') (lvl:Int) (M:List Int) (a:g.ts.length<=8):∀i,(rdL g lvl M i).length<=i*9
 |0=>by simp[rdL]
 |i+1=>by have b:=jow g lvl M a i;have d:=jxg g lvl M i (X9 g lvl M i).length;have c:=jl2 g lvl M i;rw[jrl,ap];omega
def j2c {g:Hist'}{lvl:Int}{M O:List Int}{p:Int×Int}(h:lvl≠3):jdq g lvl M O p=jdq g lvl M [] p:=by unfold jdq;refine jg4 λk _=>?_;unfold jdp;rw[za h,za h]
def all_sat (g:Hist') (lvl:Int) (M:List Int):jld g lvl M (yF g (ym g).length++rdL g lvl M (yi g).length):=by intro z;rw[aQ,yF,rdL,cq,cq];simp only[bf,rdK,bB,bg]
section
variable {g:Hist'}{M:List Int}
def jot {lvl:Int}(c:W7 g M=true) {l:List P2}(h:jld g lvl M l):∀z∈l,∃a b:Nat,z=((a:Int),(b:Int))/\a<g.ts.length+1/\b<g.ts.length+1:=by
 intro z i;have:z∈jo (g.ts.length+1) (jdr g lvl M):=by rw[<- Qh c h,compP_mem,(XO l).mem_iff];exact i
 obtain⟨a,b,d,f,_,e⟩:=edgesOf_mem.1 this;exact⟨a,b,e,d,f⟩
def ev105 (hs:Small g) (h8:g.ts.length<=8) (hR:(yi g).length<=1000) {mn:Bool}(lvl:Int) (i8:lvl≠3) (X:W7 g M=true):∃v,Ev E 105 [.int .i64 lvl,.agg (yb g),yl mn yf M] v/\∃l,jld g lvl M l/\SlR v false (jo (g.ts.length+1) λa b=>l.contains ((a:Int),(b:Int))).length ((jo (g.ts.length+1) λa b=>l.contains ((a:Int),(b:Int))).flatMap yT):=by
 have i9:=XV X;have g6:=ev16 g zO;rw[show yu Jp g.ts g.ts.length=ym g from rfl]at g6;obtain⟨vr,i1,i6⟩:=ev64 hs;have l7:=Xd g;have d6:=all_sat g lvl M;obtain⟨P,hP⟩:∃P:List P2->V->Prop,P=λl v=>SlR v false (jo (g.ts.length+1) λa b=>l.contains ((a:Int),(b:Int))).length ((jo (g.ts.length+1) λa b=>l.contains ((a:Int),(b:Int))).flatMap yT):=⟨_,rfl⟩;suffices h:∃v,Ev E 105 [.int .i64 lvl,.agg (yb g),yl mn yf M] v/\∃l,jld g lvl M l/\P l v by rw[hP]at h;exact h
 refine JW rfl zQ ?_;simp only[F105,cfb,cf,Proofs.Tryz.f105,je2,ah];conv in (occs := *) j5d _ _ _ _=>all_goals cbv
 simp only[ah,aU];conv in (occs := *) Option.getD _ _=>all_goals cbv
 simp(disch:=try exact zD)[F105,ya,yb,yl];refine jz (cs:=[]) rfl rfl rfl ?_;simp[ya];refine j58 g6 zH rfl zH λu1 _=>?_;simp[ya];refine X4 i1 zH rfl zH ?_;refine Jv i6 λrt add=>?_;simp;refine⟨by simp[JQ,YW,Wk,QP,yz,yB,yR,uOf,Delta.wo,Delta.wt];try rfl,?_⟩;refine jQ λst F=>?_;obtain⟨t8,g8⟩:∃t,st.tm 8=.sl t false (ym g).length ((ym g).flatMap yf):=⟨_,by rw[F];simp;rfl⟩;have g0:st.tm 0=.int .i64 lvl:=by rw[F];simp
 have g2:st.tm 2=yl mn yf M:=by rw[F];simp[yl]
 have g4:st.tm 4=.ptr 1 0 0:=by rw[F];simp
 have g7:∃v,st.tm 7=v/\EdL st.ob 64 st.nx v (yF g 0):=⟨.osl 257 128 0 0 2,by rw[F];simp,128,rfl,by rw[F];simp[yF],zQ,by rw[F];simp⟩;have g9:st.tm 9=rdV rt false (yi g):=by rw[F];simp[rdV]
 have f7:st.tm 10=.int .i64 0:=by rw[F];simp
 have gB:st.ob 1=some ⟨0,.cells (yb g)⟩:=by rw[F];simp[yb,yl]
 have gd:st.df=[]:=by rw[F];simp
 have gr:st.ro=0:=by rw[F];simp
 have gn:64<=st.nx:=by rw[F];simp
 clear F;obtain⟨J,hJ⟩:∃J:Nat->St->Prop,J=λi s=>s.tm 10=.int .i64 i/\(∃v,s.tm 7=v/\EdL s.ob 64 s.nx v (yF g i))/\s.ob 1=some ⟨0,.cells (yb g)⟩/\64<=s.nx:=⟨_,rfl⟩;refine j5 [(7,7),(10,11),(23,75)] (ym g).length J rfl rfl (by rw[hJ];exact⟨by simpa using f7,g7,gB,gn⟩) ?_;clear g7 f7 gB gn;intro i s hi b8 f;rw[hJ]at b8;obtain⟨c9,⟨v,s7,sI⟩,sB,sn⟩:=b8;have s0:=(f.t 0 zS).trans g0;have s2:=(f.t 2 zS).trans g2;have s4:=(f.t 4 zS).trans g4;have s8:=(f.t 8 zS).trans g8;have s9:=(f.t 9 zS).trans g9;have sd:=f.d.trans gd;have sr:=f.r.trans gr;clear f;have n1:∀m,64<=m->¬1=2*m+1:=λm X=>by omega
 by_cases o:i<(ym g).length
 ·have d9:=jP o zO;have b0:=JC j6 t8 false (ym g) .i64 o;have e9:=jj (ym g) o;have k2:=jah g 8 i zO;have e0:(ym g).getD i 0=(ym g)[i]:=by simp[ay,aa o]
  obtain⟨c,hc,_,e8⟩:=jnt o;rw[e0]at hc;have b9:sesK g i 0=[((g.ts.length:Int),(ym g)[i])]:=by simp only[sesK,List.range_zero,dA,cn,e0]
  obtain⟨u,hv,h2,h3,h4⟩:=sI;have nu:∀m,s.nx<=m->¬u=m:=λm X=>by omega
  simp(disch:=try exact zD)[c9,s8,s7,s4,o,b0,e9,ya,sB,yb,yl,j2];refine jz (cs:=[.int .i64 g.ts.length,.int .i64 (ym g)[i]]) (by simp[j2]) rfl rfl ?_;simp;refine W9 (lo:=64) (hi:=s.nx) (v:=v) (L:=yF g i) (p:=((g.ts.length:Int),(ym g)[i])) (by simp[s7]) (.inr ⟨u,hv,by simp(disch:=try exact zD)[yj,nu,h2],h3,h4⟩) (by simp[sr]) (by simp[yp,ya,yT]) zO λkl hq=>?_;have K:∀D,Off 64 D->kl.any (Nat.beq D)=false:=λD hk=>by rcases hq with rfl|⟨u,h1,h2,rfl⟩;rfl;simp only[bp,bD,bm];exact JF (hk u h1)
  have T:=K 1 n1;rw[<- b9];simp(disch:=try exact zD);refine jQ λp I=>?_;have p4:p.tm 4=.ptr 1 0 0:=by rw[I];simp[s4]
  have p8:p.tm 8=.sl t8 false (ym g).length ((ym g).flatMap yf):=by rw[I];simp[s8]
  have h9:p.tm 10=.int .i64 i:=by rw[I];simp[c9]
  have h5:p.tm 11=.int .i64 0:=by rw[I];simp
  have pd:p.df=[]:=by rw[I];simp[sd]
  have pr:p.ro=0:=by rw[I];simp[sr]
  have pn:64<=p.nx:=by rw[I];first|omega|(simp;done)|(simp;omega)
  have pB:p.ob 1=some ⟨0,.cells (yb g)⟩:=by rw[I];simp(disch:=try exact zD)[j9,n1,T,sB]
  have pI:∃v,p.tm 7=v/\EdL p.ob 64 p.nx v (yF g i++sesK g i 0):=by
   refine⟨.osl (2*(s.nx+896)+1) (s.nx+896) 0 ((yF g i).length+1) 2,by rw[I];simp[aA],s.nx+896,by rw[b9];simp,?_,zO,?_⟩;rw[I];simp(disch:=try exact zD)[j9,aA]
   ·rw[I];first|omega|(simp;done)|(simp;omega)
  clear I;obtain⟨J2,d1⟩:∃J2:Nat->St->Prop,J2=λk q=>q.tm 11=.int .i64 k/\(∃v,q.tm 7=v/\EdL q.ob 64 q.nx v (yF g i++sesK g i k))/\q.ob 1=some ⟨0,.cells (yb g)⟩/\64<=q.nx:=⟨_,rfl⟩;refine j5 [(7,7),(11,11),(40,75)] i J2 rfl rfl (by rw[d1];exact⟨by simpa using h5,pI,pB,pn⟩) ?_;clear pI h5 pB pn;intro k q l1 c6 f;rw[d1]at c6;obtain⟨c7,⟨w,q7,qI⟩,qB,qn⟩:=c6;have q4:=(f.t 4 zS).trans p4;have q8:=(f.t 8 zS).trans p8;have e5:=(f.t 10 zS).trans h9;have qd:=f.d.trans pd;have qr:=f.r.trans pr;clear f;by_cases d4:k<i;have G:=jP d4 zO;have d0:k<(ym g).length:=zO;have d8:=JC j6 t8 false (ym g) .i64 d0;have c3:=jj (ym g) d0;have f3:(ym g).getD k 0=(ym g)[k]:=by simp[ay,aa d0]
  obtain⟨a,ha,_,e7⟩:=jnt d0;rw[f3]at ha;have n:=jlz g i k;rw[f3,e0,ha,hc,ba,ba]at n;have k7:=jj0 g i k;have h0:∀{x:Nat}(h:x<g.ts.length),(g.ts.flatMap jf)[x*3]? = some (.int .i64 (yE g x)):=fun {x} h=>by have:=jO j7 g.ts h (by decide:0<3);rw[bl]at this;rw[this];simp[jf,yE,h]
  have f1:=h0 e7;have f2:=h0 e8;have x1:=j4 j7 g.tn g.ts .i64 e7;have x2:=j4 j7 g.tn g.ts .i64 e8;rw[ha]at c3;have c4:=e9;rw[hc]at c4;simp(disch:=try exact zD)[c7,e5,q8,q4,d4,d8,c3,b0,c4,ya,qB,yb,x1,x2,f1,f2];obtain⟨u2,hw,w2,w3,w4⟩:=qI;cases c1:(yE g a==yE g c);rw[c1,za zQ,aL]at n;simp(disch:=try exact zD)[c7,G,d4];rw[d1];exact⟨zS,⟨w,by simp[q7],u2,by rw[n,hw],by rw[n];simpa using w2,w3,zL⟩,by simpa using qB,zL⟩;rw[c1,zb rfl]at n;have b5:∀m,q.nx<=m->¬u2=m:=λm X=>by omega
  simp(disch:=try exact zD)[c7,e5,q8,q7,d8,c3,b0,c4,j2];refine jz (cs:=[.int .i64 (a:Int),.int .i64 (c:Int)]) (by simp[j2]) rfl rfl ?_;simp;refine W9 (lo:=64) (hi:=q.nx) (v:=w) (L:=yF g i++sesK g i k) (p:=((a:Int),(c:Int))) (by simp[q7]) (.inr ⟨u2,hw,by simp(disch:=try exact zD)[yj,b5,w2],w3,w4⟩) (by simp[qr]) (by simp[yp,ya,yT]) (by rw[ap];omega) λkl hq=>?_;have K:∀D,Off 64 D->kl.any (Nat.beq D)=false:=λD hk=>by rcases hq with rfl|⟨u,h1,h2,rfl⟩;rfl;simp only[bp,bD,bm];exact JF (hk u h1)
  have T:=K 1 n1;rw[aY,<- n];have b7:(yF g i++sesK g i (k+1)).length=(yF g i++sesK g i k).length+1:=by rw[n,<- aY,ap (bs:=[_])];rfl
  generalize hB:yF g i++sesK g i (k+1)=B at *;generalize yF g i++sesK g i k=A at *;simp(disch:=try exact zD)[c7,G,d4];rw[d1];refine⟨zS,⟨.osl (2*(q.nx+2112)+1) (q.nx+2112) 0 B.length 2,by simp[b7,aA],q.nx+2112,by rw[hB],?_,zO,zL⟩,?_,zL⟩;rw[hB];simp(disch:=try exact zD)[j9,aA];simp(disch:=try exact zD)[j9,n1,T,qB];have e:k=i:=zO;subst e;simp(disch:=try exact zD)[c7,e5,d9,o];rw[hJ];rw[<- jly]at qI;obtain⟨u2,hw,w2,w3,w4⟩:=qI;exact⟨zS,⟨w,by simpa using q7,u2,hw,by simpa using w2,w3,zL⟩,by simpa using qB,zL⟩
 ·have e:i=(ym g).length:=zO;subst e;simp(disch:=try exact zD)[c9,s8];refine jQ λx U=>?_;have x0:x.tm 0=.int .i64 lvl:=by rw[U];simp[s0]
  have x2:x.tm 2=yl mn yf M:=by rw[U];simp[s2]
  have x4:x.tm 4=.ptr 1 0 0:=by rw[U];simp[s4]
  have x8:x.tm 8=.sl t8 false (ym g).length ((ym g).flatMap yf):=by rw[U];simp[s8]
  have x9:x.tm 9=rdV rt false (yi g):=by rw[U];simp[s9]
  have f5:x.tm 12=.int .i64 0:=by rw[U];simp
  have xd:x.df=[]:=by rw[U];simp[sd]
  have xr:x.ro=0:=by rw[U];simp[sr]
  have xn:64<=x.nx:=by rw[U];first|omega|(simp;done)|(simp;omega)
  have xB:x.ob 1=some ⟨0,.cells (yb g)⟩:=by rw[U];simpa using sB
  have xI:∃v,x.tm 7=v/\EdL x.ob 64 x.nx v (yF g (ym g).length++rdL g lvl M 0):=by
   obtain⟨u,hv,h2,h3,h4⟩:=sI;refine⟨v,by rw[U];simp[s7],u,by rw[hv];simp[rdL],?_,h3,?_⟩;rw[U];simpa[rdL] using h2
   ·rw[U];first|omega|(simp;done)|(simp;omega)
  clear U s0 s2 s4 s7 s8 s9 sB sd sr sn sI c9;have hS:=jah g 8 (ym g).length zO;have l4:(yF g (ym g).length).length<=72:=bI hS (by have:(ym g).length*(8+1)<=8*9:=bh 9 zO;omega);clear hS;generalize yF g (ym g).length=S at *;obtain⟨J3,e4⟩:∃J3:Nat->St->Prop,J3=λi s=>s.tm 12=.int .i64 i/\(∃v,s.tm 7=v/\EdL s.ob 64 s.nx v (S++rdL g lvl M i))/\s.ob 1=some ⟨0,.cells (yb g)⟩/\64<=s.nx:=⟨_,rfl⟩;refine j5 [(7,7),(12,17),(76,156)] (yi g).length J3 rfl rfl (by rw[e4];exact⟨by simpa using f5,xI,xB,xn⟩) ?_;clear f5 xI xB xn;intro i s hi b8 f;rw[e4]at b8;obtain⟨c0,⟨v,s7,sI⟩,sB,sn⟩:=b8;have s0:=(f.t 0 zS).trans x0;have s2:=(f.t 2 zS).trans x2;have s4:=(f.t 4 zS).trans x4;have s8:=(f.t 8 zS).trans x8;have s9:=(f.t 9 zS).trans x9;have sd:=f.d.trans xd;have sr:=f.r.trans xr;clear f;by_cases o:i<(yi g).length
  ·have d9:=jP o zO;have e1:i<M.length:=zO;have f8:=Yx (Xv X);have b0:=JC jR rt false (yi g) .i64 o;have h7:=λob=>Yq (yi g) ob o;have d3:=j4 j6 mn M .i64 e1;have d5:=jj M e1;have i7:=jow g lvl M h8 i;obtain⟨a,b,ha,hb,I,g1,_⟩:=jf6 f8 o;have e3:(yi g).getD i (0,0)=((a:Int),(b:Int)):=by simp[ay,aa o,I]
   have f6:M.getD i 0=M[i]:=by simp[ay,aa e1]
   have b9:rdK g lvl M i 0=[(Jf g M[i],(a:Int))]:=by unfold rdK askE j08;rw[dP,f6,e3];rfl
   have g3:=ev158 g M[i];simp only[I]at h7;obtain⟨u,hv,h2,h3,h4⟩:=sI;have nu:∀m,s.nx<=m->¬u=m:=λm X=>by omega
   simp(disch:=try exact zD)[c0,s9,rdV,o,b0,h7,ya,j2,yj];refine⟨by first|omega|(simp[sr];omega),?_⟩;simp(disch:=try exact zD)[c0,s7,s4,s2,ya,j2,yj,sB,n1,yb,d3,d5];refine X4 g3 zH rfl zH ?_;simp(disch:=try exact zD)[ya,j2,yj];refine jz (cs:=[.int .i64 (Jf g M[i]),.int .i64 (a:Int)]) (by simp[j2]) rfl rfl ?_;simp;refine W9 (lo:=64) (hi:=s.nx) (v:=v) (L:=S++rdL g lvl M i) (p:=(Jf g M[i],(a:Int))) (by simp[s7]) (.inr ⟨u,hv,by simp(disch:=try exact zD)[yj,nu,h2],h3,h4⟩) (by simp[sr]) (by simp[yp,ya,yT]) (by rw[ap];omega) λkl hq=>?_;have K:∀D,Off 64 D->kl.any (Nat.beq D)=false:=λD hk=>by rcases hq with rfl|⟨u,h1,h2,rfl⟩;rfl;simp only[bp,bD,bm];exact JF (hk u h1)
   have k5:∀m,s.nx<=m->kl.any (Nat.beq (2*m+1))=false:=λm X=>by rcases hq with rfl|⟨u,h1,h2,rfl⟩;rfl;simp only[bp,bD,bm];exact JF zO
   have T:=K 1 n1;rw[<- b9];obtain⟨vs,es,f0⟩:=ev67 hs (nl:=mn) (on:=false) (O:=ym g) i9 zO lvl o ha (by rw[I]);rw[j2c i8,show jdq g lvl M [] (yi g)[i]=X9 g lvl M i by rw[X9,e3,I]]at f0;generalize k0:List.flatMap yT (S++rdL g lvl M i++rdK g lvl M i 0)=cs9;simp(disch:=try exact zD)[s0,s4,s2,s8,c0,ya,j2,yj,j9,T,n1,sB,yb,yl];refine jH es zH rfl zH ?_;refine Jv f0 λh6 k1=>?_;simp;refine jQ λp y=>?_;obtain⟨z,z1,z2,i2,pZ,p7,pE,zw⟩:∃z,64<=z/\z<p.nx/\p.tm 13=.ptr (2*z+1) z 0/\p.ob (2*z+1)=some ⟨z,.cells [.int .i64 (a:Int),.int .i64 (b:Int)]⟩/\p.tm 7=.osl (2*(s.nx+1344)+1) (s.nx+1344) 0 ((S++rdL g lvl M i).length+1) 2/\p.ob (2*(s.nx+1344)+1)=some ⟨s.nx+1344,.cells cs9⟩/\s.nx+1344<p.nx/\z<s.nx+1344:=by
    refine⟨s.nx+512,zO,?_,by rw[y];simp[aA],?_,by rw[y];simp[aA],?_,?_,zO⟩
    ·rw[y];first|omega|(simp;done)|(simp;omega)
    rw[y];have:=k5 (s.nx+512) zO;simp(disch:=try exact zD)[j9,yj,aA,this];rw[y];simp(disch:=try exact zD)[j9,yj,aA]
    ·rw[y];first|omega|(simp;done)|(simp;omega)
   obtain⟨zw,zz⟩:=zw;have p2:p.tm 2=yl mn yf M:=by rw[y];simp[s2]
   have p4:p.tm 4=.ptr 1 0 0:=by rw[y];simp[s4]
   have k3:p.tm 12=.int .i64 i:=by rw[y];simp[c0]
   have i5:p.tm 14=.sl h6 false (X9 g lvl M i).length ((X9 g lvl M i).flatMap yf):=by rw[y];simp
   have e6:p.tm 15=.int .i64 0:=by rw[y];simp
   have pd:p.df=[]:=by rw[y];simp[sd]
   have pr:p.ro=0:=by rw[y];simp[sr]
   have pn:64<=p.nx:=zO;have pB:p.ob 1=some ⟨0,.cells (yb g)⟩:=by rw[y];simp(disch:=try exact zD)[j9,n1,T,sB]
   clear y;have l2:=jl2 g lvl M i;have f4:(g.ts.flatMap jf)[a*3+2]? = some (yl (g.ts[a]).nl yS (g.ts[a]).ops):=by rw[jO j7 g.ts ha (by decide:2<3)];rfl
   have i0:((g.ts[a]).ops.flatMap yS)[b*4+1]? = some (.int .i64 ((g.ts[a]).ops[b]).key):=by rw[jO jD (g.ts[a]).ops hb (by decide:1<4)];rfl
   have k4:Wu g ((yi g).getD i (0,0))=((g.ts[a]).ops[b]).key:=by rw[e3,<- I];exact g1
   have d7:=jrl g lvl M i;have l0:(S++rdL g lvl M i).length<=20000:=by rw[ap];omega
   have g5:(S++rdL g lvl M i++rdK g lvl M i 0).length=(S++rdL g lvl M i).length+1:=by rw[b9,ap (bs:=[_])];rfl
   rw[<- List.append_right_inj S,<- aY]at d7;generalize l6:S++rdL g lvl M i=B at *;obtain⟨J4,c2⟩:∃J4:Nat->St->Prop,J4=λj q=>q.tm 15=.int .i64 j/\(∃v,q.tm 7=v/\EdL q.ob (z+1) q.nx v (B++rdK g lvl M i j))/\q.ob (2*z+1)=some ⟨z,.cells [.int .i64 (a:Int),.int .i64 (b:Int)]⟩/\q.ob 1=some ⟨0,.cells (yb g)⟩/\z<q.nx:=⟨_,rfl⟩;refine j5 [(7,7),(15,17),(104,156)] (X9 g lvl M i).length J4 rfl rfl (by rw[c2];exact⟨by simpa using e6,⟨_,p7,s.nx+1344,by rw[g5],by rw[pE,k0],zO,zO⟩,pZ,pB,z2⟩) ?_;clear e6 p7 pE;intro j q hj c6 f;rw[c2]at c6;obtain⟨a0,⟨w,q7,qI⟩,qZ,qB,qz⟩:=c6;have q2:=(f.t 2 zS).trans p2;have q4:=(f.t 4 zS).trans p4;have c8:=(f.t 12 zS).trans k3;have f9:=(f.t 13 zS).trans i2;have b6:=(f.t 14 zS).trans i5;have qd:=f.d.trans pd;have qr:=f.r.trans pr;clear f;obtain⟨u2,hw,w2,w3,w4⟩:=qI;by_cases H:j<(X9 g lvl M i).length;have G:=jP H zO;have Z:=JC j6 h6 false (X9 g lvl M i) .i64 H;have Q:=jj (X9 g lvl M i) H;obtain⟨t,et,k9⟩:=jos (au H);have n:=j2h (M:=M) H;rw[f6,et,k4]at n;rw[et]at Q;have el:=ev68 hs (t:Int) ((g.ts[a]).ops[b]).key;have ez:(Ys (Jr g (t:Int)).2 ((g.ts[a]).ops[b]).key).2=Jo g t ((g.ts[a]).ops[b]).key:=rfl;rw[ez]at el;have k6:=jxg g lvl M i j;simp(disch:=try exact zD)[a0,b6,f9,q4,H,Z,Q,qB,qZ,ya,yb,ha,hb,j4 j7,j4 jD,f4,i0];refine X4 el zI rfl zI ?_;rw[Jb (by simp[V.plain,J7])];generalize (Ys (Jr g (t:Int)).2 ((g.ts[a]).ops[b]).key).1=rv at *;generalize Jo g t ((g.ts[a]).ops[b]).key=rb at *;simp(disch:=try exact zD)[J7,j2,ya];refine⟨by first|omega|(simp[qr];omega),?_,?_⟩;simp(disch:=try exact zD)[JQ,YW,Wk,QP,yz,yB,yR,uOf,Delta.wo,Delta.wt,q4,f9];exact⟨JG zO,JG zO⟩;have n2:∀m,q.nx<=m->¬2*z+1=2*m+1:=λm X=>by omega
   have b5:∀m,q.nx<=m->¬u2=m:=λm X=>by omega
   have e2:∀m,q.nx<=m->¬z=m:=λm X=>by omega
   have d2:∀m,q.nx<=m->¬1=2*m+1:=λm X=>by omega
   cases c5:((t:Int) != M[i]);rw[c5,dw,za zQ,aL]at n;simp(disch:=try exact zD)[a0,b6,q2,c8,Z,Q,d3,d5,c5,G,H];rw[c2];refine⟨zS,⟨w,by simp[q7],u2,by rw[n,hw],?_,w3,zL⟩,?_,?_,zL⟩;rw[n];simp(disch:=try exact zD)[j9,yj,b5,w2];simp(disch:=try exact zD)[j9,yj,e2,qZ];simp(disch:=try exact zD)[j9,d2,qB];rw[c5,ep]at n;cases rb;rw[za zQ,aL]at n;simp(disch:=try exact zD)[a0,b6,q2,c8,Z,Q,d3,d5,c5,G,H];rw[c2];refine⟨zS,⟨w,by simp[q7],u2,by rw[n,hw],?_,w3,zL⟩,?_,?_,zL⟩;rw[n];simp(disch:=try exact zD)[j9,yj,b5,w2];simp(disch:=try exact zD)[j9,yj,e2,qZ];simp(disch:=try exact zD)[j9,d2,qB];rw[zb rfl]at n;simp(disch:=try exact zD)[a0,b6,q2,c8,q7,q4,Z,Q,d3,d5,c5,ya,qB,d2,yb];refine X4 g3 zH rfl zH ?_;simp(disch:=try exact zD)[ya,j2,yj];refine jz (cs:=[.int .i64 (t:Int),.int .i64 (Jf g M[i])]) (by simp[j2]) rfl rfl ?_;simp;refine W9 (lo:=z+1) (hi:=q.nx) (v:=w) (L:=B++rdK g lvl M i j) (p:=((t:Int),Jf g M[i])) (by simp[q7]) (.inr ⟨u2,hw,by simp(disch:=try exact zD)[yj,b5,w2],w3,w4⟩) (by simp[qr]) (by simp[yp,ya,yT]) (by rw[ap];omega) λkl hq=>?_;have K:∀D,Off (z+1) D->kl.any (Nat.beq D)=false:=λD hk=>by rcases hq with rfl|⟨u,h1,h2,rfl⟩;rfl;simp only[bp,bD,bm];exact JF (hk u h1)
   have T:=K 1 λm X=>by omega
   have i3:=K (2*z+1) λm X=>by omega
   rw[aY,<- n];have b7:(B++rdK g lvl M i (j+1)).length=(B++rdK g lvl M i j).length+1:=by rw[n,<- aY,ap (bs:=[_])];rfl
   generalize hB:B++rdK g lvl M i (j+1)=B' at *;generalize B++rdK g lvl M i j=A at *;simp(disch:=try exact zD)[a0,G,H];rw[c2];refine⟨zS,⟨.osl (2*(q.nx+3392)+1) (q.nx+3392) 0 B'.length 2,by simp[b7,aA],q.nx+3392,by rw[hB],?_,zO,zL⟩,?_,?_,zL⟩;rw[hB];simp(disch:=try exact zD)[j9,aA];simp(disch:=try exact zD)[j9,yj,e2,i3,qZ];simp(disch:=try exact zD)[j9,d2,T,qB];have e:j=(X9 g lvl M i).length:=zO;subst e;simp(disch:=try exact zD)[a0,b6,c8,d9,o];rw[e4];rw[<- d7]at hw w2;exact⟨zS,⟨w,by simpa using q7,u2,hw,by simpa using w2,zO,zL⟩,by simpa using qB,zL⟩
  ·have e:i=(yi g).length:=zO;subst e;obtain⟨u,hv,h2,h3,h4⟩:=sI;have i7:=jow g lvl M h8 (yi g).length;have k2:(S++rdL g lvl M (yi g).length).length<=20000:=by rw[ap];omega
   generalize S++rdL g lvl M (yi g).length=l at *;have i4:=jP (cW g.ts.length) zO;simp(disch:=try exact zD)[c0,s9,s4,rdV,ya,sB,yb,i4];refine jJ (vs:=[.int .i64 ((g.ts.length+1:Nat):Int),v]) (by simp[s7]) rfl (sv159 (N:=g.ts.length+1) (l:=l) (lo:=64) (hi:=s.nx) (.inr ⟨u,hv,by simpa using h2,h3,h4⟩) zL zO (jot X d6) (by first|omega|(simp[sr];done)|(simp[sr];omega))) ?_;rintro v1 l3 k8 l5 ⟨w,w1,w2,w3,w4,_⟩;simp only at w1 w2 w3 w4;subst w3;simp;refine jy8 (vs:=[.ptr (2*w+1) w 0]) zS rfl rfl (evo160 (L:=ofE l) (lo:=w+1) (kG:=2*w+1) (uG:=w) (N:=g.ts.length+1) (by simpa using w4) (Off.new zL) (bI (ofE_len l) zO) zO _ _) λr hr=>?_;refine Jv hr λt1 add=>?_;simp;have he:JT (ofE l) (g.ts.length+1) (g.ts.length+1)=jo (g.ts.length+1) λa b=>l.contains ((a:Int),(b:Int)):=by rw[jp6];congr;funext a b;rw[bA];simp[j8n]
   rw[he]at hr;refine slE (k:=(JT (ofE l) (g.ts.length+1) (g.ts.length+1)).length) (cs:=(JT (ofE l) (g.ts.length+1) (g.ts.length+1)).flatMap yT) (nl:=false) (t:=t1) (λr hr=>⟨l,d6,?_⟩) (by simp[sd]) zS;rw[hP];show SlR _ _ _ _;rw[<- he];exact hr
end
section
variable {g:Hist'}{M:List Int}{kX uX lo:Nat}{ob:ZO}{ub:Nat}{L:List P2}
def sesT (g:Hist') (i:Nat) (s:Int):List Int:=((ym g).take i).filter λa=>yE g a.toNat==s
def jlx {i:Nat}(h:i<(ym g).length) (s:Int):sesT g (i+1) s=sesT g i s++if yE g (ym g)[i].toNat==s then [(ym g)[i]] else []:=by unfold sesT;rw[av h,bN];congr 1;cases h:yE g (ym g)[i].toNat==s<;>simp only[ct,dA,h,zd,ag,zc]
def j2a (g:Hist') (i:Nat) (s:Int):(sesT g i s).length<=i:=by unfold sesT;have:=bO (λa:Int=>yE g a.toNat==s) ((ym g).take i);rw[ai]at this;omega
def jqz (l:List Int) (p:Int->Bool):∀i,i<=l.length->((List.range i).filter λk=>p (l.getD k 0)).map (λk=>l.getD k 0)=(l.take i).filter p
 |0,_=>rfl
 |i+1,h=>by
  have e:l.getD i 0=l[i]:=by simp[ay,aa (show i<l.length by omega)]
  rw[cV,bN,bE,jqz l p i zO,av zO,bN];congr 1;cases a:p l[i]<;>simp only[ct,dA,e,a,zd,ag,zc,aZ,cn]
def sesE_T {i:Nat}(h:i<(ym g).length):j2b g i=((g.ts.length:Int),(ym g)[i])::(sesT g i (yE g (ym g)[i].toNat)).map λa=>(a,(ym g)[i]):=by
 have e:(ym g).getD i 0=(ym g)[i]:=by simp[ay,aa h]
 unfold j2b sesT;rw[e,<- jqz (ym g) (λa=>yE g a.toNat==yE g (ym g)[i].toNat) i zO,cM];rfl
def osV (p:Nat×Nat):V:=.osl (2*p.1+1) p.1 0 p.2 1
structure SesM (g:Hist') (ob:ZO) (lo hi kM uM i:Nat) (m:List (Int×(Nat×Nat))):Prop where
 o:ob kM=some ⟨uM,.mp i (MP osV m)⟩
 z:∀s,(jy m s).map (·.2)=none->sesT g i s=[]
 s:∀s u n,(jy m s).map (·.2)=some (u,n)->n=(sesT g i s).length/\ob (2*u+1)=some ⟨u,.cells ((sesT g i s).flatMap yf)⟩/\lo<=u/\u<hi
 j:∀s s' u n n',(jy m s).map (·.2)=some (u,n)->(jy m s').map (·.2)=some (u,n')->s=s'
def SesM.frame {ob':ZO}{hi hi' a b i:Nat}{m:List (Int×(Nat×Nat))}(h:SesM g ob lo hi a b i m) (e:ob' a=ob a) (k:∀s u n,(jy m s).map (·.2)=some (u,n)->ob' (2*u+1)=ob (2*u+1)) (p:hi<=hi'):SesM g ob' lo hi' a b i m :=
 ⟨e.trans h.o,h.z,λs u n c=>by
  obtain⟨l,d,f,q⟩:=h.s s u n c;exact⟨l,(k s u n c).trans d,f,zO⟩,h.j⟩
def SesM.next {ob':ZO}{hi hi' t p i w:Nat}{m:List (Int×(Nat×Nat))}(h:SesM g ob lo hi t p i m) (f:i<(ym g).length) {a:Int}(v:a=yE g (ym g)[i].toNat) (D:ob' t=some ⟨p,.mp (i+1) (MP osV (Wj m a (w,(sesT g i a).length+1)))⟩)
 (q:∀s u n,s≠a->(jy m s).map (·.2)=some (u,n)->ob' (2*u+1)=ob (2*u+1)) (x:ob' (2*w+1)=some ⟨w,.cells ((sesT g i a++[(ym g)[i]]).flatMap yf)⟩) (N:hi<=w) (B:lo<=w) (F:w<hi') (K:hi<=hi'):SesM g ob' lo hi' t p (i+1) (Wj m a (w,(sesT g i a).length+1)):=by
 have d:∀s,s≠a->sesT g (i+1) s=sesT g i s:=λs q=>by rw[jlx f,show(yE g (ym g)[i].toNat==s)=false by rw[<- v];simpa using dB q,za zQ,aL]
 have r:sesT g (i+1) a=sesT g i a++[(ym g)[i]]:=by rw[jlx f,<- v,beq_self_eq_true,zb rfl]
 refine⟨D,λs l=>?_,λs u n c=>?_,λs o u n y c b=>?_⟩;rw[W5]at l;by_cases e:s=a;rw[zb e]at l;cases l;rw[za e]at l;rw[d s e];exact h.z s l;rw[W5]at c;by_cases e:s=a;rw[zb e]at c;cases c;subst e;rw[r];exact⟨zS,x,B,F⟩;rw[za e]at c;rw[d s e];obtain⟨G,I,H,J⟩:=h.s s u n c;exact⟨G,(q s u n e c).trans I,H,zO⟩;rw[W5]at c b;by_cases e:s=a;by_cases k:o=a;rw[e,k];rw[zb e]at c;rw[za k]at b;cases c;have:=(h.s o _ _ b).2.2.2;omega;by_cases k:o=a;rw[za e]at c;rw[zb k]at b;cases b;have:=(h.s s _ _ c).2.2.2;omega;rw[za e]at c;rw[za k]at b;exact h.j s o u n y c b
end
def LsV (ob:ZO) (lo hi:Nat) (v:V) (T:List Int):Prop:=(v=.sl none true 0 []/\T=[])\/IntL ob lo hi v T
def LsV.len {ob:ZO}{lo hi:Nat}{v:V}{L:List Int}(h:LsV ob lo hi v L):WW v=some (.int .i64 (L.length:Nat)):=by rcases h with⟨rfl,rfl⟩|⟨u,rfl,_⟩<;>rfl
def jgq {F:Env}{Yf:YF}{lo hi ub:Nat}{v:V}{T:List Int}{p:Int}{s x:A}{st:St}{K:St->Nat->Prop}{d:Option Nat}(b:ye F st.tm s=v) (l:LsV st.ob lo hi v T) (k:st.ro<=lo) (c:yp st.ob 1 (ye F st.tm x)=some (yf p)) (o:T.length<=1000000)
 (h:∀a:List Nat,(a=[]\/∃u,v=.osl (2*u+1) u 0 T.length 1/\lo<=u/\u<hi/\a=[2*u+1])->QN K st d ub { v:=.osl (2*ub+1) ub 0 (T.length+1) 1,obs:=[(2*ub+1,⟨ub,.cells ((T++[p]).flatMap yf)⟩)],kill:=a }):j8 F Yf ⟨d,.append true 1 8 s x,none,true⟩ st ub K:=by
 rcases l with⟨rfl,rfl⟩|⟨u,rfl,e,n,f⟩;refine X8 b c (by simp[yf]) zQ rfl (by simp[yf]) (by simp[yf]) ?_;simpa[yf,jI] using h [] (.inl rfl);have j:=j1 j6 T;refine JJ (cs:=T.flatMap yf) b c e (by simp[yf]) zO zO zQ rfl (by simp[yf];omega) (by simp[yf];omega) ?_;have:=h [2*u+1] (.inr ⟨u,rfl,n,f,rfl⟩);rw[aH zO];simpa[yf,jI] using this
def lkV (m:List (Int×(Nat×Nat))) (s:Int):V:=match jy m s with
 |none=>.sl none true 0 []
 |some p=>osV p.2
section
variable {g:Hist'}{mv rv:V}{kX uX lo kM uM:Nat}{ob0 ob:ZO}{nx i:Nat}{Z:List P2}{m:List (Int × (Nat × Nat))}
def SesM.look {hi:Nat}(h:SesM g ob lo hi kM uM i m) (s:Int):Yg ob .int (.sl none true 0 []) false (.map kM uM) (.int .i64 s)=some (lkV m s):=by rw[ji1 (f:=osV) m (by simp[jY,h.o])];unfold lkV;cases jy m s<;>rfl
def SesM.ls {hi:Nat}(h:SesM g ob lo hi kM uM i m) (s:Int):LsV ob lo hi (lkV m s) (sesT g i s):=by
 unfold lkV;cases a:jy m s with
 |none=>exact .inl ⟨rfl,h.z s (by rw[a];rfl)⟩
 |some p=>obtain⟨j,u,n⟩:=p;obtain⟨d,b,e,c⟩:=h.s s u n (by rw[a];rfl);exact .inr ⟨u,by rw[<- d];rfl,b,e,c⟩
structure SesJ (g:Hist') (mv rv:V) (kX uX lo kM uM:Nat) (ob0 ob:ZO) (nx:Nat) (Z:List P2) (i:Nat) (m:List (Int×(Nat×Nat))):Prop where
 e:∃lv,ob kX=some ⟨uX,.cells (mkS g mv rv lv)⟩/\EdV ob lo nx lv Z/\j5n lv Z kM/\∀s u n,(jy m s).map (·.2)=some (u,n)->j5n lv Z (2*u+1)
 q:SesM g ob (uM+1) nx kM uM i m
 w:∀key,Off lo key->key≠kX->ob key=ob0 key
 h:lo<=uM/\uM<nx/\kM=2*uM+1
 x:Off lo kX
def SesJ.up {nx':Nat}(h:SesJ g mv rv kX uX lo kM uM ob0 ob nx Z i m) (a:nx<=nx'):SesJ g mv rv kX uX lo kM uM ob0 ob nx' Z i m:=by obtain⟨⟨f,b,j,c,d⟩,q,w,⟨e,l,k⟩,x⟩:=h;exact⟨⟨f,b,j.frame (λ_ _ _=>rfl) a,c,d⟩,q.frame rfl (λ_ _ _ _=>rfl) a,w,⟨e,zO,k⟩,x⟩
def SesJ.put {Yf:YF}{tk:Nat->Bool}{ro base:Nat}(h:SesJ g mv rv kX uX lo kM uM ob0 ob nx Z i m) (p:ro<=lo) (t:ro<=uX) (Q:Z.length<=100000) (a b:Int) :
 ∃r,EvS E Yf.y 168 [.ptr kX uX 0,.int .i64 a,.int .i64 b] ob tk ro base nx r/\nx<=r.2.2.2/\SesJ g mv rv kX uX lo kM uM ob0 r.2.1 r.2.2.2 (Z++[(Jf g a,Jf g b)]) i m:=by
 obtain⟨⟨lv,S,G,T,U⟩,q,w,⟨F,B,k⟩,x⟩:=h;obtain⟨r,L,I,⟨f,K,u,D,O,X,M⟩,z⟩:=jwp (Yf:=Yf) (tk:=tk) (ro:=ro) (base:=base) S G x zO p t Q a b;have c:∀y,y<nx->j5n f (Z++[(Jf g a,Jf g b)]) (2*y+1):=λy d w H=>by
  rw[D]at H;have:u=w:=by injection H
  omega
 have o:kM≠kX:=λe=>x uM F (by rw[<- k,e]);have v:∀y,uM+1<=y->2*y+1≠kX:=λy d e=>x y zO e.symm;refine⟨r,L,I,⟨f,K,.inr ⟨u,D,O,zO,M⟩,by rw[k];exact c uM B,λs y n d=>c y (q.s s y n d).2.2.2⟩,q.frame (z kM (by rw[k];exact Off.new B) o T) (λs y n d=>?_) I,λj l J=>(z j (l.up zO) J (G.off l)).trans (w j l J),⟨F,zO,k⟩,x⟩;obtain⟨_,_,N,P⟩:=q.s s y n d;exact z _ (Off.new P) (v y N) (U s y n d)
def SesJ.next {ob':ZO}{nx' w:Nat}{kl:List Nat}{c:Int}(h:SesJ g mv rv kX uX lo kM uM ob0 ob nx Z i m) (H:i<(ym g).length) (h0:c=yE g (ym g)[i].toNat)
 (hM:ob' kM=some ⟨uM,.mp (i+1) (MP osV (Wj m c (w,(sesT g i c).length+1)))⟩) (hw:ob' (2*w+1)=some ⟨w,.cells ((sesT g i c++[(ym g)[i]]).flatMap yf)⟩) (z:kl=[]\/∃u,lkV m c=.osl (2*u+1) u 0 (sesT g i c).length 1/\uM+1<=u/\u<nx/\kl=[2*u+1])
 (r:∀a,Off nx a->a≠kM->kl.any (Nat.beq a)=false->ob' a=ob a) (L:nx<=w) (U:w<nx'):SesJ g mv rv kX uX lo kM uM ob0 ob' nx' Z (i+1) (Wj m c (w,(sesT g i c).length+1)):=by
 obtain⟨⟨J,e1,o,O,Q⟩,q,k0,⟨I,l2,F⟩,x⟩:=h;have G:kX≠kM:=λe=>x uM I (by rw[<- F,e]);have d:∀a,(∀u n,(jy m c).map (·.2)=some (u,n)->a≠2*u+1)->kl.any (Nat.beq a)=false:=λa B=>by
  rcases z with rfl|⟨u,b,_,_,rfl⟩;rfl;simp only[bp,bD,bm];refine JG (B u (sesT g i c).length ?_);unfold lkV at b;cases M:jy m c with
  |none=>rw[M]at b;cases b
  |some p=>rw[M]at b;obtain⟨j,v,n⟩:=p;simp only[osV]at b;injection b with _ a2 _ a4 _;subst a2 a4;rfl
 have f:∀a,Off lo a->kl.any (Nat.beq a)=false:=λa B=>d a λu n b e=>B u (by have:=(q.s c u n b).2.2.1;omega) e;have K:EdV ob' lo nx' J Z:=by rcases o with o|⟨v,rfl,v2,X,N⟩;exact .inl o;refine .inr ⟨v,rfl,(r _ (Off.new N) (λe=>O v rfl e.symm) (d _ λu n b e=>Q c u n b v rfl e.symm)).trans v2,X,zO⟩
 have k:∀y,nx<=y->j5n J Z (2*y+1):=λy hy v P=>by
  rcases o with⟨rfl,_⟩|⟨T,rfl,_,_,N⟩;cases P;have:T=v:=by injection P
  omega
 refine⟨⟨J,(r _ (x.up zO) G (f _ x)).trans e1,K,O,λs u n b=>?_⟩,q.next H h0 hM (λs u n t b=>?_) hw L zO U zO,λa l k2=>(r a (l.up zO) (λe=>l uM I (by rw[<- F,e])) (f _ l)).trans (k0 a l k2),⟨I,zO,F⟩,x⟩;rw[W5]at b;by_cases e:s=c;rw[zb e]at b;cases b;exact k _ L;rw[za e]at b;exact Q s u n b;obtain⟨_,_,q3,q4⟩:=q.s s u n b;refine r _ (Off.new q4) zO (d _ λu' S D e=>?_);have:u=u':=zO;subst this;exact t (q.j s c u n S b D)
end
def idxF (A:List Int) (x:Int):Option Nat:=(List.range A.length).find? λa=>decide (A.getD a 0=x)
def jjc {f:Nat->Bool}{n i:Nat}(hi:i<n) (h:f i=true) (b:∀j,j<i->f j=false):(List.range n).find? f=some i:=by rw[List.find?_range_eq_some];exact⟨h,by simpa using hi,λj a=>by simp[b j a]⟩
def jz9 {f:Nat->Bool}{n:Nat}(a:∀j,j<n->f j=false):(List.range n).find? f=none:=by rw[List.find?_eq_none];intro j b;simp[a j (bf.1 b)]
section
variable {ob:ZO}{ub uA:Nat}{A:List Int}
def evo148 (z:ob (2*uA+1)=some ⟨uA,.cells (A.flatMap yf)⟩) (G:uA<ub) (F:A.length<=1000000) (x:Int) (tk:Nat->Bool) (base:Nat):EvO E 148 [.osl (2*uA+1) uA 0 A.length 1,.int .i64 x] ob tk base ub (.int .i64 (match idxF A x with|some a=>(a:Int)|none=>-1)):=by
 refine jq rfl ?_;conv in(occs:=*)S148=>all_goals cbv
 simp;refine j5 [(4,5),(8,18)] A.length (λi s=>s.tm 8=.int .i64 i/\s.ob=ob/\∀j,j<i->decide (A.getD j 0=x)=false) rfl rfl ⟨zS,zS,λj h=>by omega⟩ ?_;rintro i s H ⟨o,v,p⟩ f;have y:s.tm 0=.osl (2*uA+1) uA 0 A.length 1:=by rw[f.t 0 zS];simp
 have w:s.tm 1=.int .i64 x:=by rw[f.t 1 zS];simp
 have q:s.tm 7=.int .i64 A.length:=by rw[f.t 7 zS];simp
 have r:s.df=[]:=by rw[f.d];simp
 clear f;by_cases b:i<A.length;have k:=jP b zO;have g:=jlg (l:=2*uA+1) (u:=uA) (kk:=.i64) b;have m:=jj A b;have B:A.getD i 0=A[i]:=by simp[ay,aa b]
 cases c:(x==A[i]);simp(disch:=try exact zD)[o,q,w,y,b,g,ya,v,z,m,c,k];intro j D;rcases bi.1 D with h|rfl;simpa using p j h;simp only[zk,ne_eq]at c;have:¬A[j]=x:=λe=>c e.symm
 simpa[aa b] using this;simp(disch:=try exact zD)[o,q,w,y,b,g,ya,v,z,m,c,k];have n:idxF A x=some i:=jjc b (by rw[B];simp only[zh]at c;simp[c]) p;refine j3 (by simp[r]) ?_ rfl;rw[n];simp;have:i=A.length:=zO;subst this;have n:idxF A x=none:=jz9 p;simp(disch:=try exact zD)[o,q];refine j3 (by simp[r]) ?_ rfl;rw[n];simp
end
def jjm {n w:Nat}(d:n<=9) (a:w<2^n):yq w=(List.range n).filter λx=>w.testBit x:=by
 unfold yq;obtain⟨m,b⟩:∃m,9=n+m:=⟨9-n,zO⟩;rw[b,List.range_add,bN];have:((List.range m).map (n + ·)).filter (λx=>w.testBit x)=[]:=by rw[fY];intro x c;obtain⟨k,_,rfl⟩:=aI.1 c;rw[dr (aW a (cl zQ zO))];decide
 rw[this,aL]
def jvr (w:Nat):(yq w).Nodup:=List.nodup_range.filter _
def jbj (n:Nat) (L:List P2):Option (List Nat):=QW n (λ(a b:Nat)=>L.contains ((a:Int),(b:Int))) n []
def TopR (ob:ZO) (ub n:Nat) (L:List P2) (r:V×(ZO)×(Nat->Bool)×Nat):Prop :=
 ub<=r.2.2.2/\(∀key,Off ub key->r.2.1 key=ob key)/\match jbj n L with
  |none=>r.1=.tup [.sl none true 0 [],.int .i64 3]
  |some D=>∃v,r.1=.tup [v,.int .i64 0]/\IntL r.2.1 ub r.2.2.2 v (yt D)
def j3t {Yf:YF}{st:St}{ub:Nat}{K:St->Nat->Prop}{d:Option Nat}{nm:Bool}{sz a n:Nat}{zero:List V}{x y:A}(b:ye E st.tm x=.int .i64 0) (f:ye E st.tm y=.int .i64 (n:Int)) (e:n*a<=140737488355328) (i:n<=140737488355328) (g:zero.length=sz) (c:0<sz)
 (h:QN K st d ub { v:=.osl (jI d nm st.fb ub) ub 0 0 sz,obs:=[(jI d nm st.fb ub,⟨ub,.cells []⟩)] }):j8 E Yf ⟨d,.mkSl true sz a zero x y,none,nm⟩ st ub K:=by
 rw[jT _ rfl rfl];simp only[yU,b,f];rw[zb (by refine⟨zO,zO,?_,zO,g,c⟩;rw[<- ga];exact gN.2 e),za zS,Jn,jG];simpa[Jd,ja3] using h
section
variable {ob:ZO}{ub n:Nat}{L:List P2}{v:V}
def sv152 {Yf:YF}{tk:Nat->Bool}{ro base:Nat}(l3:ro<=ub) (O:0<n) (h9:n<=9) (hv:EdA ub ob v L) (hL:InG n L) (hl:L.length<=10000) :
 ∃r,EvS E Yf.y 152 [.int .i64 (n:Int),v] ob tk ro base ub r/\TopR ob ub n L r:=by
 obtain⟨p,hp⟩:∃p:Nat->Nat->Bool,p=λ(a b:Nat)=>L.contains ((a:Int),(b:Int)):=⟨_,rfl⟩
 have hr:=λa=>W2 hL a
 have hc:=λb=>jha hL b
 have e6:(2:Nat)^n<=512:=cl zQ h9
 have b8:∀b,(yq (colW L b)).length=cntP n p [] b:=λb=>by
  rw[jjm h9 (hc b).1]
  unfold cntP
  congr 1
  refine gH λx _=>?_
  rw[(hc b).2,hp]
  simp
 have Z:∀a b,b∈yq (rowW L a) ↔ b<n/\p a b=true:=λa b=>by
  rw[jjm h9 (hr a).1,bL,bf,(hr a).2,hp]
 refine J6 rfl zQ ?_
 show wpC E Yf S152.body _ (Jg S152.res _)
 conv in(occs:=*)S152=>all_goals cbv
 simp(disch:=try exact zD)[S152]
 refine jJ (vs:=[.int .i64 n,v]) zS rfl (j7h zP O h9 (hv.up (λc _=>by simp) ?_) hL hl) ?_
 ·first|omega|(simp;done)|(simp;omega)
 rintro v1 b5 k9 N ⟨S,ut,uf,ue,tu,fu,T,rfl,hG,l8,l5,hT,q1,a0⟩
 simp only at hG q1 a0
 have l2:ub<=N:=by first|omega|(simp at q1;omega)
 have hG:=hG.wide (lo':=ub) zL
 have a0:∀c,Off ub c->b5 c=ob c:=λc H=>by
  rw[a0 c (H.up zL)]
  simp
 simp
 refine jkq (n:=n) zS zS zO zO rfl zQ ?_
 rw[jrg]
 simp
 refine jQ λG g=>?_
 obtain⟨w,u1,u2,g8,gA⟩:∃u,N<=u/\u<G.nx/\G.tm 8=.osl (2*u+1) u 0 n 1/\G.ob (2*u+1)=some ⟨u,.cells ((List.replicate n (0:Int)).flatMap yf)⟩:=by
  refine⟨N+512,zO,by rw[g];first|omega|(simp;done)|(simp;omega),by rw[g];simp[aA],?_⟩
  rw[g]
  simp[aA,yf,List.flatMap_replicate]
 have g0:G.tm 0=.int .i64 n:=by rw[g];simp
 have g6:G.tm 6=.ptr (2*S+1) S 0:=by rw[g];simp
 have g7:G.tm 7=.int .i64 0:=by rw[g];simp
 have g2:G.tm 25=.int .i64 n:=by rw[g];simp
 have f5:G.tm 26=.int .i64 0:=by rw[g];simp
 have gd:G.df=[]:=by rw[g];simp
 have gr:G.ro=ro:=by rw[g];simp
 have go:∀c,Off N c->G.ob c=b5 c:=λc H=>by
  have:=H.ne
  rw[g]
  simp(disch:=try exact zD)[this]
 clear g
 -- how many are ahead of each
 obtain⟨J,hJ⟩:∃J:Nat->St->Prop,J=λi s=>s.tm 26=.int .i64 i/\w<s.nx/\(∃A:List Int,s.ob (2*w+1)=some ⟨w,.cells (A.flatMap yf)⟩/\A.length=n/\∀b,b<i->A.getD b 0=cntP n p [] b)/\∀c,Off N c->s.ob c=b5 c:=⟨_,rfl⟩
 refine j5 [(9,9),(26,36)] n J rfl rfl ?_ ?_
 ·rw[hJ]
  exact⟨by simpa using f5,u2,⟨_,gA,zS,λb h=>by omega⟩,go⟩
 clear f5 gA go u2
 intro i s hi e2 f
 rw[hJ]at e2
 obtain⟨b0,sn,⟨A,sA,M,c3⟩,so⟩:=e2
 have s0:=(f.t 0 zS).trans g0
 have s6:=(f.t 6 zS).trans g6
 have s7:=(f.t 7 zS).trans g7
 have s8:=(f.t 8 zS).trans g8
 have d3:=(f.t 25 zS).trans g2
 have sd:=f.d.trans gd
 have sr:=f.r.trans gr
 clear f
 by_cases U:i<n
 ·have c4:=jP U zO
  have c1:=jlg (l:=2*w+1) (u:=w) (kk:=.i64) U
  have I:=jar j6 ((cntP n p [] i:Nat):Int) A i zO
  rw[bz,show yf ((cntP n p [] i:Nat):Int)=[.int .i64 ((cntP n p [] i:Nat):Int)] from rfl]at I
  have c8:=j1 j6 A
  generalize h8:A.flatMap yf=cs at sA I c8
  have k6:=b8 i
  have nA:∀m,s.nx<=m->¬w=m:=λm hm=>by omega
  simp(disch:=try exact zD)[b0,d3,s8,s6,U]
  refine jpp (vs:=[.ptr (2*S+1) S 0,.int .i64 i]) zS rfl rfl (evo180 (hG.keep (hi':=s.nx+448) (λx _ h=>?_) ?_) ?_ zO zO (aW (hc i).1 e6) _ _) λtt nl add=>?_
  ·simp
   exact so _ (Off.new h)
  ·first|omega|(simp;done)|(simp;omega)
  ·first|omega|(simp;done)|(simp;omega)
  rw[J0,k6]
  simp(disch:=try exact zD)[c1,ya,sA,I,V.cells,V.leaf]
  refine⟨zO,zO,?_⟩
  simp(disch:=try exact zD)[b0,c4,U]
  rw[hJ]
  refine⟨zS,zL,⟨A.set i ((cntP n p [] i:Nat):Int),zS,by simp[M],λb hb=>?_⟩,λc H=>?_⟩
  ·rw[jfe A zO]
   by_cases e:b=i
   ·subst e;simp
   ·rw[za e]
    exact c3 b zO
  ·have:¬c=2*w+1:=H w u1
   simp[this]
   exact so c H
 have e:i=n:=zO
 subst e
 have e3:AhOk i p [] A:=⟨M,λb _ h=>(by cases h),λb hb _=>c3 b hb,λb x h=>(by cases h)⟩
 clear c3 M b8 U hi
 simp(disch:=try exact zD)[b0,d3,s0]
 refine j3t (n:=i) zS zS zO zO rfl zQ ?_
 simp(disch:=try exact zD)[s0]
 refine jQ λG g=>?_
 have g0:G.tm 0=.int .i64 i:=by rw[g];simp[s0]
 have g6:G.tm 6=.ptr (2*S+1) S 0:=by rw[g];simp[s6]
 have g7:G.tm 7=.int .i64 0:=by rw[g];simp[s7]
 have g8:G.tm 8=.osl (2*w+1) w 0 i 1:=by rw[g];simp[s8]
 have g5:G.tm 39=.int .i64 i:=by rw[g];simp
 have e9:G.tm 40=.int .i64 0:=by rw[g];simp
 have gd:G.df=[]:=by rw[g];simp[sd]
 have gr:G.ro=ro:=by rw[g];simp[sr]
 have gn:s.nx<=G.nx:=by rw[g];first|omega|(simp;done)|(simp;omega)
 have gI:IntL G.ob s.nx G.nx (G.tm 10) (yt []):=by
  refine⟨s.nx+128,by rw[g];simp[aA,yt],by rw[g];simp[aA,yt],zO,?_⟩
  rw[g]
  first|omega|(simp;done)|(simp;omega)
 have go:∀c,Off s.nx c->G.ob c=s.ob c:=λc H=>by
  have:=H.ne
  rw[g]
  simp(disch:=try exact zD)[this]
 clear g
 have i7:∀c,Off N c->s.ob c=b5 c:=so
 have e1:Gr ub s.nx S (some ut) (some uf) ue tu fu (rowW L) (colW L) T s.ob:=hG.keep (λx _ h=>so _ (Off.new h)) zO
 have d8:∀c,Off ub c->c≠2*w+1->Off s.nx c:=λc H _=>H.up zO
 obtain⟨n0,e4⟩:∃n0,n0=s.nx:=⟨_,rfl⟩
 obtain⟨b6,b9⟩:∃o,o=s.ob:=⟨_,rfl⟩
 rw[<- e4]at gn gI go sn e1
 rw[<- b9]at go e1 sA so
 clear e4 b9 i7 d8 s0 s6 s7 s8 d3 b0 sd sr hJ
 have gA:G.ob (2*w+1)=some ⟨w,.cells (A.flatMap yf)⟩:=(go _ (Off.new sn)).trans sA
 have X:∀c,Off ub c->b6 c=ob c:=λc H=>(so c (H.up zO)).trans (by
  rw[a0 c (H.up zO)]
  simp)
 have c0:∀D',jbj i L=D' ↔ QW i p i []=D':=λD'=>by unfold jbj;rw[hp]
 obtain⟨J2,c6⟩:∃J2:Nat->St->Prop,J2=λk s=>s.tm 40=.int .i64 k/\(∃(D:List Nat) (A:List Int),D.length=k/\AhOk i p D A/\s.ob (2*w+1)=some ⟨w,.cells (A.flatMap yf)⟩/\IntL s.ob n0 s.nx (s.tm 10) (yt D)/\QW i p (i-k) D=QW i p i [])/\n0<=s.nx/\∀c,Off n0 c->c≠2*w+1->s.ob c=b6 c:=⟨_,rfl⟩
 refine j5 [(4,5),(10,13),(40,68)] i J2 rfl rfl (by rw[c6];exact⟨by simpa using e9,⟨[],A,rfl,e3,gA,gI,rfl⟩,gn,λc h _=>go c h⟩) ?_
 clear e9 gI gn go gA e3
 intro k q H f2 f
 rw[c6]at f2
 obtain⟨c9,⟨D,A,h6,hA,qA,qI,hT⟩,qn,qo⟩:=f2
 have q0:=(f.t 0 zS).trans g0
 have q6:=(f.t 6 zS).trans g6
 have q7:=(f.t 7 zS).trans g7
 have q8:=(f.t 8 zS).trans g8
 have d0:=(f.t 39 zS).trans g5
 have qd:=f.d.trans gd
 have qr:=f.r.trans gr
 clear f
 have m0:Gr ub q.nx S (some ut) (some uf) ue tu fu (rowW L) (colW L) T q.ob:=by
  have k8:∀x,x<N->x≠w:=λx hx e=>by omega
  exact(hG.keep (ob':=q.ob) (hi':=q.nx) (λx _ h=>(qo _ (Off.new zO) zO).trans (so _ (Off.new h))) zO)
 by_cases c7:k<i
 ·have c4:=jP c7 zO
  have M:=hA.l
  have g4:=hA.find
  have c1:idxF A 0=(List.range i).find? (WB i p D):=by rw[g4];unfold idxF;rw[M]
  have K:QW i p (i-k) D=match (List.range i).find? (WB i p D) with
   |none=>none
   |some a=>QW i p (i-(k+1)) (D++[a]):=by rw[show i-k=(i-(k+1))+1 by omega];rfl
  simp(disch:=try exact zD)[c9,d0,q8,c7]
  refine jN (vs:=[.osl (2*w+1) w 0 A.length 1,.int .i64 0]) (by simp[M]) rfl rfl (evo148 (by simpa using qA) zL zO 0 _ _) ?_
  rw[c1]
  cases hf:(List.range i).find? (WB i p D) with
  |none=>
   rw[hf]at K
   simp
   refine YZ (by simp[qd]) ⟨zL,λc H=>?_,?_⟩
   ·have O:¬c=2*w+1:=H w zO
    simp
    rw[qo c (H.up zO) O,X c H]
   ·rw[show jbj i L=none from(c0 none).2 (by rw[<- hT,K])]
    simp
  |some a=>
   rw[hf]at K
   have f6:=List.find?_some hf
   have ha:a<i:=bf.1 (im hf)
   have d9:¬(a:Int)<0:=zO
   have h7:=jlg (l:=2*w+1) (u:=w) (kk:=.i64) ha
   have I:=jar j6 (-1:Int) A a zO
   rw[bz,show yf (-1)=[.int .i64 (-1)] from rfl]at I
   have c8:=j1 j6 A
   generalize h8:A.flatMap yf=cs at qA I c8
   have nA:∀m,q.nx<=m->¬w=m:=λm hm=>by omega
   simp(disch:=try exact zD)[d9,q8,h7,ya,qA,I]
   refine⟨zO,zO,?_⟩
   refine jZ (cs:=[.int .i64 (a:Int)]) (by simp[j2]) rfl rfl ?_
   simp
   obtain⟨uo,o1,o2,o3,o4⟩:=qI
   have nO:∀m,q.nx<=m->¬uo=m:=λm hm=>by omega
   have k2:¬uo=w:=zO
   refine jgq (lo:=n0) (hi:=q.nx) (v:=q.tm 10) (T:=yt D) (p:=(a:Int)) zS (.inr ⟨uo,o1,?_,o3,o4⟩) ?_ (by simp[yp,ya,yf]) (by rw[J0];omega) λkl i9=>?_
   ·simp(disch:=try exact zD)[yj,nO,k2,o2]
   ·simp[qr];omega
   have e7:kl=[2*uo+1]\/kl=[]:=by
    rcases i9 with h|⟨u,hu,_,_,rfl⟩
    ·exact .inr h
    ·rw[o1]at hu
     have:uo=u:=by injection hu
     exact .inl (by rw[this])
   have c2:∀c,c≠2*uo+1->kl.any (Nat.beq c)=false:=λc H=>by
    rcases e7 with rfl|rfl
    ·simp only[bp,bD,bm]
     exact JG H
    ·rfl
   have i8:=c2 (2*w+1) zO
   have k4:yt D++[(a:Int)]=yt (D++[a]):=by simp[yt]
   have l6:=jax (rowW L a)
   have g9:∀x,x<N->kl.any (Nat.beq (2*x+1))=false:=λx hx=>c2 _ zO
   rw[k4]
   simp(disch:=try exact zD)[q6]
   refine jpp (vs:=[.ptr (2*S+1) S 0,.int .i64 a]) zS rfl rfl (j6l (hG.keep (λx _ h=>?_) ?_) zK zO (aW (hr a).1 e6) _ _) λtt nl add=>?_
   ·have O:∀m,q.nx<=m->¬x=m:=λm hm=>by omega
    have h2:¬x=w:=zO
    have h3:=g9 x h
    simp(disch:=try exact zD)[j9,yj,O,h2,h3]
    exact(qo _ (Off.new zO) zO).trans (so _ (Off.new h))
   ·first|omega|(simp;done)|(simp;omega)
   have f7:(yt (D++[a])).length=(yt D).length+1:=by simp[yt]
   generalize i2:yt (D++[a])=DD at *
   simp
   refine jQ λp F=>?_
   have p0:p.tm 0=.int .i64 i:=by rw[F];simp[q0]
   have p6:p.tm 6=.ptr (2*S+1) S 0:=by rw[F];simp[q6]
   have p7:p.tm 7=.int .i64 0:=by rw[F];simp[q7]
   have p8:p.tm 8=.osl (2*w+1) w 0 i 1:=by rw[F];simp[q8]
   have l1:p.tm 39=.int .i64 i:=by rw[F];simp[d0]
   have f9:p.tm 40=.int .i64 k:=by rw[F];simp[c9]
   have i4:p.tm 55=.sl tt nl (yq (rowW L a)).length ((yt (yq (rowW L a))).flatMap yf):=by rw[F];simp[J0]
   have i5:p.tm 56=.int .i64 (yq (rowW L a)).length:=by rw[F];simp[J0]
   have d7:p.tm 57=.int .i64 0:=by rw[F];simp
   have pd:p.df=[]:=by rw[F];simp[qd]
   have pr:p.ro=ro:=by rw[F];simp[qr]
   have pn:q.nx<=p.nx:=by rw[F];first|omega|(simp;done)|(simp;omega)
   have k0:∀m,q.nx<=m->¬m=w:=λm hm=>by omega
   have pI:IntL p.ob n0 p.nx (p.tm 10) DD:=by
    refine⟨q.nx+832,by rw[F];simp[aA,f7],?_,zO,by rw[F];first|omega|(simp;done)|(simp;omega)⟩
    rw[F]
    simp(disch:=try exact zD)[j9,yj,aA,k0]
   have pA:p.ob (2*w+1)=some ⟨w,.cells ((A.set a (-1)).flatMap yf)⟩:=by
    rw[F]
    simp(disch:=try exact zD)[j9,yj,nA,i8]
   have po:∀c,Off n0 c->c≠2*w+1->p.ob c=b6 c:=λc O h2=>by
    have h3:=(O.up qn).ne
    have h4:=c2 c (O uo o3)
    rw[F]
    simp(disch:=try exact zD)[j9,h3,h4,h2]
    exact qo c O h2
   clear F
   have f4:∀b∈yq (rowW L a),b<i:=λb hb=>((Z a b).1 hb).1
   have f3:=jvr (rowW L a)
   have k5:=hA.next ha f6 (bs:=yq (rowW L a)) (Z a) f3
   have k3:=hA.rng
   generalize yq (rowW L a)=bs at *
   have g3:∀j b,-2<=(decL (A.set a (-1)) (bs.take j)).getD b 0/\(decL (A.set a (-1)) (bs.take j)).getD b 0<=100:=λj b=>by
    rw[j0m _ _ (f3.sublist (List.take_sublist _ _)) (λx hx=>by rw[dL,M];exact f4 x (dI hx)),jfe A zO]
    have:=k3 b
    split<;>split<;>omega
   have i1:∀j,(decL (A.set a (-1)) (bs.take j)).length=i:=λj=>by rw[jsx,dL,M]
   obtain⟨J3,d1⟩:∃J3:Nat->St->Prop,J3=λj s=>s.tm 57=.int .i64 j/\s.ob (2*w+1)=some ⟨w,.cells ((decL (A.set a (-1)) (bs.take j)).flatMap yf)⟩/\IntL s.ob n0 s.nx (s.tm 10) DD/\q.nx<=s.nx/\∀c,Off n0 c->c≠2*w+1->s.ob c=b6 c:=⟨_,rfl⟩
   refine j5 [(13,13),(57,67)] bs.length J3 rfl rfl (by rw[d1];exact⟨by simpa using d7,by simpa[decL] using pA,pI,pn,po⟩) ?_
   clear d7 pA pI pn po
   intro j y hj f0 f
   rw[d1]at f0
   obtain⟨d2,yA,yI,yn,yo⟩:=f0
   have y8:=(f.t 8 zS).trans p8
   have l0:y.tm 10=p.tm 10:=f.t 10 zS
   have i0:=(f.t 40 zS).trans f9
   have g1:=(f.t 55 zS).trans i4
   have e5:=(f.t 56 zS).trans i5
   have yd:=f.d.trans pd
   have yr:=f.r.trans pr
   clear f
   by_cases Q:j<bs.length
   ·have e8:=jP Q zO
    have d5:j<(yt bs).length:=by rw[J0];exact Q
    have f1:=JC j6 tt nl (yt bs) .i64 d5
    rw[J0]at f1
    have d6:=jj (yt bs) d5
    rw[jz1]at d6
    have f8:=f4 _ (au Q)
    have k1:bs.take (j+1)=bs.take j++[bs[j]]:=av Q
    have c5:=j0l (A.set a (-1)) (bs.take j) bs[j]
    rw[<- k1]at c5
    have l9:=g3 j bs[j]
    have l4:=i1 j
    generalize decL (A.set a (-1)) (bs.take j)=B at *
    generalize bs[j]=b at *
    have i6:=jlg (l:=2*w+1) (u:=w) (kk:=.i64) f8
    have b7:=jj B (i:=b) zO
    have i3:B.getD b 0=B[b]' zO:=by simp[ay,aa (show b<B.length by omega)]
    rw[<- i3]at b7
    have h0:IntKind.i64.wrap (B.getD b 0-1)=B.getD b 0-1:=jg zO zO
    have P:=jar j6 (B.getD b 0-1) B b zO
    rw[bz,show yf (B.getD b 0-1)=[.int .i64 (B.getD b 0-1)] from rfl,<- c5]at P
    have e0:=j1 j6 B
    generalize k7:B.flatMap yf=cs2 at yA P e0 b7
    generalize B.getD b 0=bv at *
    have d4:b<cs2.length:=zO
    have h5:cs2[b]=.int .i64 bv:=by rw[aa d4]at b7;exact cu b7
    have l7:∀m,y.nx<=m->¬w=m:=λm hm=>by omega
    simp(disch:=try exact zD)[d2,e5,g1,y8,Q,f1,d6,i6,ya,yA,d4,h5,h0,P]
    refine⟨zO,zO,?_⟩
    simp(disch:=try exact zD)[d2,e8,Q]
    rw[d1]
    obtain⟨z,z1,z2,z3,z4⟩:=yI
    refine⟨zS,by simp[c5],⟨z,by simpa using z1,?_,z3,zL⟩,zL,λc O h2=>?_⟩
    ·have:¬z=w:=zO
     simp(disch:=try exact zD)[yj,this,z2]
    ·simp[h2]
     exact yo c O h2
   ·have:j=bs.length:=zO
    subst this
    rw[bg]at yA
    simp(disch:=try exact zD)[d2,e5,i0,c4,c7]
    rw[c6]
    refine⟨zS,⟨D++[a],decL (A.set a (-1)) bs,by simp[h6],k5,by simpa using yA,?_,by rw[<- hT,K]⟩,zL,λc O h2=>by simpa using yo c O h2⟩
    rw[i2]
    obtain⟨z,z1,z2,z3,z4⟩:=yI
    refine⟨z,by simpa using z1,by simpa using z2,z3,zL⟩
 ·have:k=i:=zO
  subst this
  rw[fV]at hT
  simp(disch:=try exact zD)[c9,d0,q7]
  refine YZ (by simp[qd]) ⟨zL,λc H=>?_,?_⟩
  ·have O:¬c=2*w+1:=H w zO
   simp
   rw[qo c (H.up zO) O,X c H]
  ·rw[show jbj k L=some D from(c0 (some D)).2 (by rw[<- hT];rfl)]
   obtain⟨u,O,h2,h3,h4⟩:=qI
   exact⟨q.tm 10,zS,u,O,by simpa using h2,zO,zL⟩
end
section
variable {g:Hist'}{mv rv:V}{kX uX lo:Nat}{ob:ZO}{ub:Nat}
def sv115 {Yf:YF}(hs:Small g) (hw:jX g=true) (h8:g.ts.length<=8) {tk:Nat->Bool}{ro base:Nat}(hX:MkR g mv rv kX uX lo ob ub []) (Z:Off lo kX) (Q:lo<=ub) (g1:ro<=lo) (g4:ro<=uX) :
 ∃r,EvS E Yf.y 115 [.ptr kX uX 0] ob tk ro base ub r/\ub<=r.2.2.2/\MkR g mv rv kX uX lo r.2.1 r.2.2.2 (yF g (ym g).length)/\∀b,Off lo b->b≠kX->r.2.1 b=ob b:=by
 have g9:=Xd g;obtain⟨vc,e4,c2⟩:=ev70 hs;rw[jg9 hw]at c2;obtain⟨e3,c5,b9⟩:=hX;have oX:=(Z.up Q).ne;refine J6 rfl zQ ?_;show wpC E Yf S115.body _ (Jg S115.res _);conv in(occs:=*)S115=>all_goals cbv
 simp(disch:=try exact zD)[S115,ya,c5,mkS,yb,oX];refine jH e4 zI rfl zI ?_;refine Jv c2 λM add=>?_;simp;refine jQ λH x=>?_;obtain⟨B,u1,u2,g2,gM⟩:∃u,ub<=u/\u<H.nx/\H.tm 2=.map (2*u+1) u/\H.ob (2*u+1)=some ⟨u,.mp 0 []⟩:=by refine⟨ub,zK,?_,by rw[x];simp,by rw[x];simp⟩;rw[x];simp;omega
 have g0:H.tm 0=.ptr kX uX 0:=by rw[x];simp
 have f2:H.tm 13=.sl M (ym g).isEmpty (ym g).length ((ym g).flatMap yf):=by rw[x];simp
 have d5:H.tm 14=.int .i64 (ym g).length:=by rw[x];simp
 have b5:H.tm 15=.int .i64 0:=by rw[x];simp
 have gd:H.df=[]:=by rw[x];simp
 have gr:H.ro=ro:=by rw[x];simp
 have go:∀b,Off ub b->H.ob b=ob b:=λb Z=>by have:=Z.ne;rw[x];simp(disch:=try exact zD)[this]
 clear x;have gJ:SesJ g mv rv kX uX lo (2*B+1) B ob H.ob H.nx [] 0 []:=by
  refine⟨⟨e3,(go _ (Z.up Q)).trans c5,b9.frame (λu _ h=>go _ (Off.new h)) zO,?_,λs u n h=>by simp[jy]at h⟩,⟨gM,λs _=>by simp[sesT],λs u n h=>by simp[jy]at h,λs s' u n n' h=>by simp[jy]at h⟩,λb k1 _=>go b (k1.up Q),⟨zO,u2,rfl⟩,Z⟩;rcases b9 with⟨rfl,_⟩|⟨w,rfl,_,_,w4⟩;exact λu hu=>by cases hu
  exact λu hu=>by
   have:w=u:=by injection hu
   omega
 obtain⟨J,hJ⟩:∃J:Nat->St->Prop,J=λi s=>s.tm 15=.int .i64 i/\∃m,SesJ g mv rv kX uX lo (2*B+1) B ob s.ob s.nx (yF g i) i m:=⟨_,rfl⟩;refine j5 [(4,7),(15,52)] (ym g).length J rfl rfl (by rw[hJ];exact⟨by simpa using b5,[],gJ⟩) ?_;clear gJ b5 go gM;intro i s hi c0 f;rw[hJ]at c0;obtain⟨S,m,sJ⟩:=c0;have s0:=(f.t 0 zS).trans g0;have s2:=(f.t 2 zS).trans g2;have c1:=(f.t 13 zS).trans f2;have O:=(f.t 14 zS).trans d5;have sd:=f.d.trans gd;have sr:=f.r.trans gr;clear f;by_cases z:i<(ym g).length
 ·have d3:=jP z zO;have c9:=JC j6 M (ym g).isEmpty (ym g) .i64 z;have b7:=jj (ym g) z;have e0:(ym g).getD i 0=(ym g)[i]:=by simp[ay,aa z]
  obtain⟨c,hc,_,b0⟩:=jnt z;rw[e0]at hc;have f0:=jah g 8 i zO;have f5:(yF g i).length<=72:=bI f0 (by have:i*(8+1)<=8*9:=bh 9 zO;omega);have hE:=sesE_T z;have d8:yF g (i+1)=yF g i++j2b g i:=by unfold yF;rw[cV,bK];simp
  have b8:yE g (ym g)[i].toNat=yE g c:=by rw[hc,ba]
  have x1:=j4 j7 g.tn g.ts .i64 b0;have x2:(g.ts.flatMap jf)[c*3]? = some (.int .i64 (yE g c)):=j7z b0;have f7:=j2a g i (yE g c);rw[b8]at hE;rw[hc]at b7;have d1:Jf g (-1)=g.ts.length:=rfl;have c8:Jf g (c:Int)=c:=by unfold Jf;rw[za zO]
  simp(disch:=try exact zD)[S,O,c1,s0,z,c9,b7];refine jJ (vs:=[.ptr kX uX 0,.int .i64 (-1),.int .i64 (c:Int)]) zS rfl ((sJ.up zL).put (by first|omega|(simp[sr];done)|(simp[sr];omega)) (by first|omega|(simp[sr];done)|(simp[sr];omega)) zO _ _) ?_;rintro v1 d9 f6 g6 ⟨r1,X⟩;simp only at r1 X;rw[d1,c8]at X;obtain⟨g3,a0,_⟩:=id X.e;simp(disch:=try exact zD)[s0,ya,a0,mkS,yb,x1,x2,s2];have I:=X.q.look (yE g c);have F:=X.q.ls (yE g c);simp(disch:=try exact zD)[I,F.len];refine jQ λp G=>?_;have p0:p.tm 0=.ptr kX uX 0:=by rw[G];simp[s0]
  have p2:p.tm 2=.map (2*B+1) B:=by rw[G];simp[s2]
  have p4:p.tm 4=.int .i64 c:=by rw[G];simp
  have p5:p.tm 5=.int .i64 (yE g c):=by rw[G];simp
  have f9:p.tm 13=.sl M (ym g).isEmpty (ym g).length ((ym g).flatMap yf):=by rw[G];simp[c1]
  have d7:p.tm 14=.int .i64 (ym g).length:=by rw[G];simp[O]
  have d0:p.tm 15=.int .i64 i:=by rw[G];simp[S]
  have f3:p.tm 33=lkV m (yE g c):=by rw[G];simp
  have d4:p.tm 34=.int .i64 (sesT g i (yE g c)).length:=by rw[G];simp
  have b6:p.tm 35=.int .i64 0:=by rw[G];simp
  have pd:p.df=[]:=by rw[G];simp[sd]
  have pr:p.ro=ro:=by rw[G];simp[sr]
  have pJ:SesJ g mv rv kX uX lo (2*B+1) B ob p.ob p.nx (yF g i++((g.ts.length:Int),(c:Int))::((sesT g i (yE g c)).take 0).map λa=>(a,(c:Int))) i m:=by
   have:=X.up (nx':=p.nx) (by rw[G];first|omega|(simp;done)|(simp;omega));have e:p.ob=d9:=by rw[G];simp
   rw[e];simpa using this
  clear G I F X a0;have e7:∀a∈sesT g i (yE g c),Jf g a=a:=λa ha=>by unfold sesT at ha;obtain⟨k,Z,_⟩:=comL_mem.1 (dI (bL.1 ha).1);unfold Jf;rw[za zO]
  rw[hc]at hE;generalize K:sesT g i (yE g c)=T at *;obtain⟨J2,N⟩:∃J2:Nat->St->Prop,J2=λj q=>q.tm 35=.int .i64 j/\SesJ g mv rv kX uX lo (2*B+1) B ob q.ob q.nx (yF g i++((g.ts.length:Int),(c:Int))::(T.take j).map λa=>(a,(c:Int))) i m:=⟨_,rfl⟩;refine j5 [(7,7),(35,43)] T.length J2 rfl rfl (by rw[N];exact⟨by simpa using b6,pJ⟩) ?_;clear b6 pJ;intro j q hj c7 f;rw[N]at c7;obtain⟨L,P⟩:=c7;have q0:=(f.t 0 zS).trans p0;have q2:=(f.t 2 zS).trans p2;have q4:=(f.t 4 zS).trans p4;have q5:=(f.t 5 zS).trans p5;have e5:=(f.t 15 zS).trans d0;have f8:=(f.t 14 zS).trans d7;have f4:=(f.t 33 zS).trans f3;have c3:=(f.t 34 zS).trans d4;have qd:=f.d.trans pd;have qr:=f.r.trans pr;clear f;have F:=P.q.ls (yE g c);rw[K]at F;by_cases D:j<T.length
  ·have c4:=jP D zO;rcases F with⟨_,rfl⟩|⟨u,hv,ho,_,_⟩;simp at D;have d6:=jlg (l:=2*u+1) (u:=u) (kk:=.i64) D;have c6:=jj T D;have e8:=e7 _ (au D);have f1:(T.take (j+1)).map (λa=>(a,(c:Int)))=(T.take j).map (λa=>(a,(c:Int)))++[(T[j],(c:Int))]:=by rw[av D,bE];rfl
   simp(disch:=try exact zD)[L,c3,f4,q0,q4,D,hv,d6,ya,ho,c6];refine jJ (vs:=[.ptr kX uX 0,.int .i64 T[j],.int .i64 (c:Int)]) zS rfl ((P.up zL).put (by first|omega|(simp[qr];done)|(simp[qr];omega)) (by first|omega|(simp[qr];done)|(simp[qr];omega)) zP _ _) ?_;rintro v2 d2 g7 e6 ⟨z1,z2⟩;simp only at z1 z2;rw[e8,c8,aY,cY,<- f1]at z2;simp(disch:=try exact zD)[L,c4,D];rw[N];exact⟨zS,(by simpa using z2:SesJ g mv rv kX uX lo (2*B+1) B ob d2 e6 _ i m).up zL⟩
  have:j=T.length:=zO;subst this;rw[aH zK,<- hE,<- d8]at P;have I:=P.q.look (yE g c);simp(disch:=try exact zD)[L,c3,q2,q4,q5,I];refine jZ (cs:=[.int .i64 (c:Int)]) (by simp[j2]) rfl rfl ?_;simp;have g5:=F;refine jgq (lo:=B+1) (hi:=q.nx) (v:=lkV m (yE g c)) (T:=T) (p:=(c:Int)) zS ?_ (by simp[qr];omega) (by simp[yp,ya,yf]) zO λkl U=>?_;rcases F with h|⟨u,hv,ho,h3,h4⟩
  exact .inl h;refine .inr ⟨u,hv,?_,h3,h4⟩;have:∀m,q.nx<=m->¬u=m:=λm hm=>by omega
  simp(disch:=try exact zD)[yj,this,ho];have hq:=P.q.o;obtain⟨l1,l2,l3⟩:=P.h;have nM:∀m,q.nx<=m->¬B=m:=λm hm=>by omega
  have e9:kl.any (Nat.beq (2*B+1))=false:=by rcases U with rfl|⟨u,_,h1,_,rfl⟩;rfl;simp only[bp,bD,bm];exact JG zO
  have g8:∀m,q.nx<=m->kl.any (Nat.beq (2*m+1))=false:=λm hm=>by rcases U with rfl|⟨u,_,_,h2,rfl⟩;rfl;simp only[bp,bD,bm];exact JG zO
  simp(disch:=try exact zD);refine jcy (f:=osV) (a:=(q.nx+512,T.length+1)) (ver:=i) (l:=2*B+1) (u:=B) (k:=yE g c) m zS zS (by simp[osV,aA,V.strip]) (by simp(disch:=try exact zD)[j9,yj,nM,e9,hq]) (by simp[qr];omega) ?_;simp(disch:=try exact zD)[e5,d3,z];rw[hJ];rw[<- K];refine⟨zS,Wj m (yE g c) (q.nx+512,(sesT g i (yE g c)).length+1),P.next (kl:=kl) z b8.symm ?_ ?_ (by rw[K];exact U) (λb k1 k2 k3=>?_) zO zL⟩;simp;rw[K,hc];simp(disch:=try exact zD)[j9,yj,aA,dB (nM _ _)];have:=k1.ne;simp(disch:=try exact zD)[j9,this,k2,k3]
 have:i=(ym g).length:=zO;subst this;simp(disch:=try exact zD)[S,O];obtain⟨⟨lv,e1,e2,_⟩,_,w,h,_⟩:=sJ;exact jfj (.inl rfl) (by simp[sd]) ⟨zL,⟨lv,by simpa using e1,e2.frame (λ_ _ _=>by simp) zL⟩,λb h1 h2=>by simpa using w b h1 h2⟩
end
def revE (n:Nat) (L:List P2):List P2:=(L.filter λz=>decide (z.1<(n:Int))).map λz=>(z.2,z.1)
def jw7 (n:Nat) (L:List P2) (z:P2):revE n (L++[z])=revE n L++if z.1<(n:Int) then [(z.2,z.1)] else []:=by unfold revE;rw[bN,bE];congr 1;by_cases h:z.1<(n:Int)<;>simp[h]
def jra (n:Nat) (L:List P2):(revE n L).length<=L.length:=by unfold revE;rw[bu];exact bO _ _
def EdV.toA {ob:ZO}{lo hi hi':Nat}{v:V}{L:List P2}(h:EdV ob lo hi v L) (c:hi<=hi'):EdA hi' ob v L:=by rcases h with⟨rfl,rfl⟩|⟨u,b,a,e,d⟩;exact .inl ⟨none,true,rfl⟩;exact .inr ⟨2*u+1,u,b,a,Off.new zO⟩
structure PastO (kX uX:Nat) (R:List P2) (u1 u3 hi:Nat) (ob:ZO):Prop where
 a:ob (2*u1+1)=some ⟨u1,.cells [.ptr kX uX 0]⟩
 b:∃lv,ob (2*u3+1)=some ⟨u3,.cells [lv]⟩/\EdV ob (u3+1) hi lv R
 h:u1<u3/\u3<hi
def PastO.keep {kX uX c e hi hi':Nat}{R:List P2}{ob ob':ZO}(h:PastO kX uX R c e hi ob) (d:∀u,c<=u->u<hi->ob' (2*u+1)=ob (2*u+1)) (i:hi<=hi'):PastO kX uX R c e hi' ob':=by obtain⟨k,b1,b2⟩:=h.b;have f:=h.h;exact⟨(d c zK zO).trans h.a,⟨k,(d e zO f.2).trans b1,b2.frame (λu l j=>d u zO j) i⟩,f.1,zO⟩
section
variable {g:Hist'}{mv rv:V}{kX uX lo:Nat}{ob:ZO}{ub:Nat}{L:List P2}
def sv170 {Yf:YF}{tk:Nat->Bool}{ro base:Nat}(hX:MkR g mv rv kX uX lo ob ub L) (k:Off lo kX) (S:lo<=ub) (c1:ro<=lo) (hl:L.length<=10000) :
 ∃r,EvS E Yf.y 170 [.ptr kX uX 0] ob tk ro base ub r/\∃l j,r.1=.fn (.func 221) [] [.ptr (2*l+1) l 0,.ptr (2*j+1) j 0]/\ub<=l/\PastO kX uX (revE g.ts.length L) l j r.2.2.2 r.2.1/\∀c,Off ub c->r.2.1 c=ob c:=by
 obtain⟨lv,K,hE⟩:=hX;have hA:=hE.toA zK;have O:=hA.len;have oX:=(k.up S).ne;have B:¬ub=ub+64+64:=zO;refine J6 rfl zQ ?_;show wpC E Yf S170.body _ (Jg S170.res _);conv in(occs:=*)S170=>all_goals cbv
 simp(disch:=try exact zD)[S170,ya,K,mkS,yb,oX,V.cells,V.leaf,O,yj,B];refine jQ λq e=>?_;obtain⟨l,j,a1,a2,a3,g1,g3,gA,gB⟩:∃l j,ub<=l/\l<j/\j<q.nx/\q.tm 1=.ptr (2*l+1) l 0/\q.tm 3=.ptr (2*j+1) j 0/\q.ob (2*l+1)=some ⟨l,.cells [.ptr kX uX 0]⟩/\q.ob (2*j+1)=some ⟨j,.cells [.sl none true 0 []]⟩ :=
  ⟨ub,ub+128,zO,zO,by rw[e];first|omega|(simp;done)|(simp;omega),by rw[e];simp,by rw[e];simp[aA],by rw[e];simp[yj,B],by rw[e];simp[aA]⟩
 have g9:q.tm 9=lv:=by rw[e];simp
 have b9:q.tm 10=.int .i64 L.length:=by rw[e];simp
 have N:q.tm 11=.int .i64 0:=by rw[e];simp
 have gd:q.df=[]:=by rw[e];simp
 have gr:q.ro=ro:=by rw[e];simp
 have go:∀c,Off ub c->q.ob c=ob c:=λc k=>by have:=k.ne;rw[e];simp(disch:=try exact zD)[this]
 clear e;obtain⟨J,hJ⟩:∃J:Nat->St->Prop,J=λi s=>s.tm 11=.int .i64 i/\PastO kX uX (revE g.ts.length (L.take i)) l j s.nx s.ob/\∀c,Off ub c->s.ob c=ob c:=⟨_,rfl⟩;refine j5 [(5,5),(11,32)] L.length J rfl rfl ?_ ?_;rw[hJ];exact⟨by simpa using N,⟨gA,⟨_,gB,.inl ⟨rfl,by simp[revE]⟩⟩,a2,a3⟩,go⟩;clear N gA gB go a3;intro i s hi Z f;rw[hJ]at Z;obtain⟨w,I,M⟩:=Z;have s1:=(f.t 1 zS).trans g1;have s3:=(f.t 3 zS).trans g3;have s9:=(f.t 9 zS).trans g9;have Q:=(f.t 10 zS).trans b9;have sd:=f.d.trans gd;have sr:=f.r.trans gr;clear f;have hh:=I.h;by_cases o:i<L.length;have P:=jP o zO;obtain⟨p,a0,G⟩:=hA.at o;have n:=jw7 g.ts.length (L.take i) L[i];rw[<- av o]at n;have U:s.ob kX=_:=(M kX (k.up S)).trans K;have X:=(k.up (show lo<=s.nx by omega)).ne;have H:=I.a;obtain⟨lw,T,b5⟩:=I.b;have n1:∀m,s.nx<=m->¬l=m:=λm hm=>by omega
 have n3:∀m,s.nx<=m->¬j=m:=λm hm=>by omega
 generalize L[i]=z at G n;obtain⟨x,y⟩:=z;simp only at G n;simp(disch:=try exact zD)[w,Q,s9,o,a0];rw[G _ λc k=>by simpa using M c k];have b8:=jra g.ts.length (L.take i);rw[ai]at b8;by_cases hc:x<(g.ts.length:Int);rw[zb hc]at n;simp(disch:=try exact zD)[s1,s3,ya,j2,yj,n1,n3,H,T,U,mkS,yb,X,yl,hc];refine⟨zO,?_⟩;refine jZ (cs:=[.int .i64 y,.int .i64 x]) (by simp[j2]) rfl rfl ?_;simp;refine jgr (lo:=j+1) (hi:=s.nx) (v:=lw) (L:=revE g.ts.length (L.take i)) (p:=(y,x)) zS (b5.frame (λu h1 h2=>?_) zK) (by simp[sr];omega) (by simp[yp,ya,yT]) zO λkl b7=>?_;have:∀m,s.nx<=m->¬u=m:=λm hm=>by omega
 simp(disch:=try exact zD)[yj,this];have D:∀c,Off (j+1) c->kl.any (Nat.beq c)=false:=λc k=>by rcases b7 with rfl|⟨u,h1,_,rfl,_⟩;rfl;simp only[bp,bD,bm];exact JF (k u h1)
 have k3:=D (2*j+1) (Off.new zO);have k1:=D (2*l+1) (Off.new zO);have b0:¬l=j:=zO;rw[<- n];have F:(revE g.ts.length (L.take (i+1))).length=(revE g.ts.length (L.take i)).length+1:=by rw[n];simp
 generalize c0:revE g.ts.length (L.take (i+1))=R1 at *;simp(disch:=try exact zD)[s3,ya,j2,yj,n3,T,j9,k3,V.cells,V.leaf];refine⟨zO,?_⟩;simp(disch:=try exact zD)[w,P,o];rw[hJ];simp only[c0];have b6:∀m,s.nx<=m->¬m=j:=λm hm=>by omega
 refine⟨zS,⟨?_,⟨.osl (2*(s.nx+1344)+1) (s.nx+1344) 0 R1.length 2,?_,.inr ⟨s.nx+1344,rfl,?_,zO,zL⟩⟩,a2,zL⟩,λc k=>?_⟩;simp(disch:=try exact zD)[j9,yj,n1,b0,k1,H];simp(disch:=try exact zD)[aA,F];simp(disch:=try exact zD)[j9,yj,aA,b6];have h1:=D c (k.up zO);have h2:=(k.up (show ub<=s.nx by omega)).ne;have h3:¬c=2*j+1:=k j zO;simp(disch:=try exact zD)[j9,h1,h2,h3];exact M c k;rw[za hc,aL]at n;simp(disch:=try exact zD)[s1,ya,j2,yj,n1,H,U,mkS,yb,X,yl,hc];refine⟨zO,?_⟩;simp(disch:=try exact zD)[w,P,o];rw[hJ];have h2:∀c,Off ub c->∀m,s.nx<=m->¬c=2*m+1:=λc k=>(k.up (show ub<=s.nx by omega)).ne;refine⟨zS,?_,λc k=>?_⟩;rw[n];refine I.keep (λu h3 h4=>?_) zL;have:∀m,s.nx<=m->¬u=m:=λm hm=>by omega
 simp(disch:=try exact zD)[yj,this];have h3:=h2 c k;simp(disch:=try exact zD)[h3];exact M c k;have:i=L.length:=zO;subst this;rw[bg]at I;simp(disch:=try exact zD)[w,Q,s1,s3];exact JL (by simp[sd]) ⟨l,j,zS,a1,I.keep (λu _ _=>by simp) zL,λc k=>by simpa using M c k⟩
end
def j3s {Yf:YF}{f:FuncId}{xs:List A}{st:St}{ub:Nat}{K:St->Nat->Prop}{d:Option Nat}{nm:Bool}{vs:List V}{P:V->Prop}(b:xs.map (ye E st.tm)=vs) (a:E.sh nm f=false) (hp:(vs.all λv=>v.strip.pureTop)=false)
 (h:∃v,EvO E f vs st.ob st.tk ((st.fb+d.getD 0+1)*1024) ub v/\P v) (c:∀v,P v->wpD (Xp ub v) (QN K st d ub)):j8 E Yf ⟨d,.call f xs,none,nm⟩ st ub K:=by
 obtain⟨v,e,i⟩:=h;exact jN b a hp e (c v i)
def jsc {Yf:YF}{f:FuncId}{q:A}{xs:List A}{st:St}{ub:Nat}{K:St->Nat->Prop}{d:Option Nat}{nm:Bool}{first captured vs:List V}{P:V->Prop}(e:ye E st.tm q=.fn (.func f) first captured) (a:first++xs.map (ye E st.tm)++captured=vs) (b:E.sh nm f=false)
 (hp:(vs.all λv=>v.strip.pureTop)=false) (h:∃v,EvO E f vs st.ob st.tk ((st.fb+d.getD 0+1)*1024) ub v/\P v) (c:∀v,P v->wpD (Xp ub v) (QN K st d ub)):j8 E Yf ⟨d,.callV q xs,none,nm⟩ st ub K:=by
 obtain⟨v,i,j⟩:=h;exact Wv e b (by rw[a];exact hp) (by rw[a];exact i) (c v j)
def Reach (n:Nat) (R:List P2) (t:Nat) (v:V):Prop:=∃w,(w<2^n/\∀a,a<n->w.testBit a=war (edB R) n t a)/\j1c (yt (yq w)) v
def ev222n {n:Nat}(H:0<n) (B:n<=9) {t:Nat}(F:t<n) :
 ∃q,Ev E 222 [.int .i64 (n:Int),.int .i64 (t:Int),.sl none true 0 []] q/\∃w,(w<2^n/\∀a,a<n->w.testBit a=war (edB []) n t a)/\FromR w q:=by
 have hp:(2:Nat)^n<=512:=cl zQ B;have D:¬(t:Int)<0:=zO;have m:¬(n:Int)<=t:=zO;have d:¬(n<=t):=zO;refine JW rfl zQ ?_;conv in(occs:=*)F222=>all_goals cbv
 simp(disch:=try exact zD)[F222];refine jJ (vs:=[.int .i64 n,.sl none true 0 []]) zS rfl (j7h (L:=[]) ?_ H B (.inl ⟨none,true,rfl⟩) (λz c=>by cases c) zS) ?_;simp;rintro v1 U K b0 ⟨G,ut,uf,ue,tu,fu,T,rfl,J,p,b5,hT,Q,v⟩;simp only at J Q v;simp(disch:=try exact zD)[D,m,d];refine jJ (vs:=[.ptr (2*G+1) G 0]) zS rfl (sv273 (n:=n) (r:=edB []) (J.keep (λx _ _=>?_) ?_) ?_ p H B (λb _=>⟨(W2 (n:=n) (L:=[]) (λz c=>by cases c) b).1,λa _=>(W2 (n:=n) (L:=[]) (λz c=>by cases c) b).2 a⟩)) ?_;simp
 ·first|omega|(simp;done)|(simp;omega)
 ·first|omega|(simp;done)|(simp;omega)
 rintro v2 M O P ⟨I,j,W,rfl,a0,e,N⟩;simp only at e;have f:=e.o;rw[fg,aL]at f;have S:=e.r;have x1:=jlg (l:=2*I+1) (u:=I) (kk:=.i64) F;have x2:=jj7 (l:=j) (i:=t) zO;have X:=e.s t zO;have ls:=e.rs _ (au (show t<j.length by omega));have ws:=N t F;simp(disch:=try exact zD)[x1,x2,ya,f];obtain⟨y,k⟩:=numR_intsV (yt (yq (W t)));refine jN (vs:=[.ptr (2*j[t]+1) j[t] 0]) zS rfl rfl (jje (w:=W t) (by simpa using X) (Off.new zL) zO _ _) ?_;refine Jv k λZ add=>?_;simp;refine jhx (ns:=[6,7]) (ls:=[.sl none y (yt (yq (W t))).length ((yt (yq (W t))).flatMap yf),.int .i64 0]) (λr h=>⟨W t,ws,y,h⟩) zS rfl zS zS ?_;simp;exact⟨XP rfl (ja _ Z y _ _),jM rfl,trivial⟩
section
variable {g:Hist'}{mv rv:V}{kX uX:Nat}{ob:ZO}{ub u1 u3 hi:Nat}{R:List P2}
def evo221 (p:PastO kX uX R u1 u3 hi ob) (J:hi<=ub) (j:∃z,ob kX=some ⟨uX,.cells (mkS g mv rv z)⟩) (D:Off ub kX) (u:0<g.ts.length) (P:g.ts.length<=8) (M:InG g.ts.length R) (I:R.length<=10000) {t:Nat}(y:t<g.ts.length) (tk:Nat->Bool) (base:Nat) :
 ∃v,EvO E 221 [.int .i64 (t:Int),.ptr (2*u1+1) u1 0,.ptr (2*u3+1) u3 0] ob tk base ub v/\Reach g.ts.length R t v:=by
 obtain⟨z,j⟩:=j;have N:=D.ne;have s:=p.a;obtain⟨O,o,c⟩:=p.b;have Q:=p.h;have L:∀m,ub<=m->¬u1=m:=λm K=>by omega
 have B:∀m,ub<=m->¬u3=m:=λm K=>by omega
 refine jb3 rfl zQ ?_;conv in(occs:=*)S221=>all_goals cbv
 simp(disch:=try exact zD)[S221,ya,s,o,j,N,mkS,yb,yl,yj,L,B];have f:∀q w e add d,(w<2^g.ts.length/\∀a,a<g.ts.length->w.testBit a=war (edB R) g.ts.length t a)->d.df=[]->d.tm 4=.sl e q (yt (yq w)).length ((yt (yq w)).flatMap yf)->add=add->WO [.t 4] (Reach g.ts.length R t) .ret d:=λq w e _ d i hd h4 (_:()=())=>
  slE (t:=e) (nl:=q) (k:=(yt (yq w)).length) (cs:=(yt (yq w)).flatMap yf) (λr h=>⟨w,i,q,h⟩) hd h4
 rcases c with⟨rfl,rfl⟩|c;obtain⟨q,n,w,i,nl,l⟩:=ev222n u zO y;refine jH n zS rfl zS ?_;refine jw8 l λe add=>?_
 simp;exact f nl w e () _ i zS zS rfl
 ·have G:=EdV.toA (.inr c) J;obtain⟨x,rfl,_⟩:=c;refine j3s (vs:=[.int .i64 g.ts.length,.int .i64 t,.osl (2*x+1) x 0 R.length 2]) zS rfl rfl (evo222 u zO (G.up (λH _=>by simp) ?_) M I y _ _) λq F=>?_
  ·first|omega|(simp;done)|(simp;omega)
  obtain⟨w,i,nl,l⟩:=F;refine jw8 l λe add=>?_;simp;exact f nl w e () _ i zS zS rfl
end
end Go.Pv.T
