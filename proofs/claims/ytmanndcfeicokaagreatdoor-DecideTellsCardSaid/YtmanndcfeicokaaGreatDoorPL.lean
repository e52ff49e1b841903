/- Part. -/
import Derived.Test.YtmanndcfeicokaaGreatDoorPK
set_option maxRecDepth 100000
set_option maxHeartbeats 8000000
set_option linter.all false
namespace Go.Pv.T
open Go Go.Pv
def jut {g:Hist'}(a:Yr g=true) {t:Nat}(c:t<g.ts.length) (key:Int):Jo g t key=(g.ts[t]).ops.any (wkB key):=by unfold Jo;rw[jy3];have b:(t:Int)<g.ts.length:=zO;simp[Jr,a,b,ay,c]
def ev214 (t:Txn') (F:t.ops.length<=1000000) (key:Int):Ev E 214 [.agg (jf t),.int .i64 key] (.bool (t.ops.any (wkB key))):=by
 refine jS rfl ?_;conv in(occs:=*)F214=>all_goals cbv
 simp[jf,ya];refine j5 [(4,28)] t.ops.length (λi s=>s.tm 5=.int .i64 i/\s.ob 4=some ⟨0,.cells (jf t)⟩/\∀j (e:j<t.ops.length),j<i->wkB key t.ops[j]=false) rfl rfl ⟨zS,by simp[jf],λ_ _ h=>by omega⟩ ?_;rintro i s G ⟨o,n,r⟩ f;have y:s.tm 1=.int .i64 key:=by rw[f.t 1 zS];simp
 have p:s.tm 2=.ptr 4 0 0:=by rw[f.t 2 zS];simp
 have z:s.df=[]:=by rw[f.d];simp
 clear f;by_cases a:i<t.ops.length;have m:=jP a zO;have B:(t.ops.flatMap yS)[i*4]? = some (.bool (t.ops[i]).w):=by have:=jO jD t.ops a (by decide:0<4);rw[bl]at this;rw[this];rfl
 have v:(t.ops.flatMap yS)[i*4+1]? = some (.int .i64 (t.ops[i]).key):=by rw[jO jD t.ops a (by decide:1<4)];rfl
 have q:wkB key t.ops[i]=((t.ops[i]).w&&(t.ops[i]).key==key):=rfl;simp(disch:=try exact zD)[o,p,y,ya,n,jf,a,j4 jD,B,v];cases c:(t.ops[i]).w;simp[o,m,a];refine⟨by simp[n,jf],λj e l=>?_⟩;rcases bi.1 l with h|rfl;exact r j e h;rw[q,c];rfl;cases b:((t.ops[i]).key==key);simp(disch:=try exact zD)[o,p,y,ya,n,jf,a,j4 jD,v,b,m];intro j e l;rcases bi.1 l with h|rfl;exact r j e h;rw[q,c,b];rfl;simp(disch:=try exact zD)[o,p,y,ya,n,jf,a,j4 jD,v,b];refine j3 (by simp[z]) ?_ rfl;have:t.ops.any (wkB key)=true:=bZ.2 ⟨_,au a,by rw[q,c,b];rfl⟩;simp[this];have:i=t.ops.length:=zO;subst this;simp(disch:=try exact zD)[o,p,ya,n,jf,yl];refine j3 (by simp[z]) ?_ rfl;have:t.ops.any (wkB key)=false:=by rw[eO];intro x D;obtain⟨j,e,rfl⟩:=bq D;simp[r j e e]
 simp[this]
def yM (n:Nat) (s:Nat->Bool):List V:=(List.range n).map λa=>V.bool (s a)
def Qq {n:Nat}{s:Nat->Bool}{a:Nat}(h:a<n):(yM n s)[a]? = some (.bool (s a)):=by simp[yM,h]
def Xf (n:Nat) (s:Nat->Bool):(yM n s).length=n:=by simp[yM]
section
variable {g:Hist'}{M:List Int}{ob:ZO}{ub k u:Nat}{st:Nat->Bool}
def seB (g:Hist') (s:Nat->Bool) (t a:Nat):Bool:=!Jt g a||(!(yE g a==yE g t)||s a)
def rdsB (g:Hist') (s:Nat->Bool) (t:Nat) (x:(Int×Int)×Int):Bool:=if x.1.1=(t:Int) then decide (x.2<0)||s x.2.toNat else s x.1.1.toNat||(!(decide (x.2<0)||s x.2.toNat) || !Jo g t (Wu g x.1))
def jyl (s:Nat->Bool) (t:Nat):jpf g M s t=(jde (seB g s t) t&&((yi g).zip M).all (rdsB g s t)):=rfl
def evo155 (hs:Small g) (hm:W7 g M=true) {mn:Bool}(hk:ob k=some ⟨u,.cells (yM g.ts.length st)⟩) (ho:Off ub k) {t:Nat}(ht:t<g.ts.length) (tk:Nat->Bool) (base:Nat) :
 EvO E 155 [.agg (yb g),yl mn yf M,.osl k u 0 g.ts.length 1,.int .i64 (t:Int)] ob tk base ub (.bool (jpf g M st t)):=by
 refine jq rfl ?_;have gk:=ho.ne;have a0:=Yx (Xv hm);have e9:=XV hm;have hR:=Xr hs;have e8:=hs.ts;have c4:∀{x:Nat}(h:x<g.ts.length),(g.ts.flatMap jf)[x*3]? = some (.int .i64 (yE g x)):=fun {x} h=>by have:=jO j7 g.ts h (by decide:0<3);rw[bl]at this;rw[this];simp[jf,yE,h]
 have d2:∀{x:Nat}(h:x<g.ts.length),(g.ts.flatMap jf)[x*3+1]? = some (.int .i64 (g.ts[x]).f):=fun {x} h=>by rw[jO j7 g.ts h (by decide:1<3)];rfl
 simp only[S155,cfc,cf,Proofs.Tryz.f155,je2,ah];conv in (occs := *) j5d _ _ _ _=>all_goals cbv
 simp only[ah,aU];conv in (occs := *) Option.getD _ _=>all_goals cbv
 simp(disch:=try exact zD)[S155,yb,V.cells];refine jQ λv c=>?_;have g0:v.tm 1=yl mn yf M:=by rw[c];simp
 have g2:v.tm 2=.osl k u 0 g.ts.length 1:=by rw[c];simp
 have g3:v.tm 3=.int .i64 t:=by rw[c];simp
 have g4:v.tm 4=.ptr (2*ub+1) ub 0:=by rw[c];simp
 have g9:v.tm 9=.int .i64 0:=by rw[c];simp
 have gd:v.df=[]:=by rw[c];simp
 have gr:v.ro=ub:=by rw[c];simp
 have gB:v.ob (2*ub+1)=some ⟨ub,.cells (yb g)⟩:=by rw[c];simp[yb]
 have gK:v.ob k=some ⟨u,.cells (yM g.ts.length st)⟩:=by rw[c];simp(disch:=try exact zD)[gk,hk]
 have gn:ub<v.nx:=by rw[c];simp;omega
 clear c;rw[jyl];refine j5 [(8,9),(14,47)] t (λi s=>s.tm 9=.int .i64 i/\s.ob=v.ob/\v.nx<=s.nx/\jde (seB g st t) i=true) rfl rfl ⟨zU g9,rfl,zK,rfl⟩ ?_;rintro i s hi ⟨s9,so,sn,X⟩ f;have s1:s.tm 1=yl mn yf M:=by rw[f.t 1 zS];simp[g0]
 have s2:s.tm 2=.osl k u 0 g.ts.length 1:=by rw[f.t 2 zS];simp[g2]
 have s3:s.tm 3=.int .i64 t:=by rw[f.t 3 zS];simp[g3]
 have s4:s.tm 4=.ptr (2*ub+1) ub 0:=by rw[f.t 4 zS];simp[g4]
 have sd:s.df=[]:=by rw[f.d];simp[gd]
 have sr:s.ro=ub:=by rw[f.r];simp[gr]
 clear f;by_cases p:i<t;have B:=jP p zO;have O:i<g.ts.length:=zO;have f1:=d2 O;have f2:=c4 O;have f3:=c4 ht;have f4:=Qq (s:=st) O;have b8:Jt g i=((g.ts[i]).f==1):=by simp[Jt,O,Jp]
 have n:jde (seB g st t) (i+1)=seB g st t i:=by rw[jde,X,bM]
 have P:=jv2 (l:=k) (u:=u) (sz:=1) (kk:=.i64) O;unfold seB at n;rw[b8]at n;simp(disch:=try exact zD)[s9,s3,s4,ya,so,gB,yb,p,j4 j7,f1];cases H:((g.ts[i]).f==1);rw[H]at n;simp(disch:=try exact zD)[s9,B,p,so];exact⟨zO,n⟩;cases F:(yE g i==yE g t);rw[H,F]at n;simp(disch:=try exact zD)[s9,s3,s4,ya,so,gB,yb,p,j4 j7,f2,f3,F,B];exact⟨zO,n⟩;cases c3:st i;rw[H,F,c3]at n;simp(disch:=try exact zD)[s9,s3,s4,s2,ya,so,gB,gK,yb,p,j4 j7,f2,f3,F,P,f4,c3];refine j3 (by simp[sd]) ?_ rfl;have:jde (seB g st t) t=false:=jqj p (by unfold seB;rw[b8,H,F,c3];rfl);simp[this];rw[H,F,c3]at n;simp(disch:=try exact zD)[s9,s3,s4,s2,ya,so,gB,gK,yb,p,j4 j7,f2,f3,F,P,f4,c3,B];exact⟨zO,n⟩
 ·have e:t=i:=zO;subst e;rw[X,bM];obtain⟨vr,d6,d9⟩:=ev64 hs;simp(disch:=try exact zD)[s9,s3,s4,ya,so,gB,yb];refine jH d6 zH rfl zH ?_;refine Jv d9 λtr e6=>?_;simp;refine jQ λst2 c=>?_;have g1:st2.tm 1=yl mn yf M:=by rw[c];simp[s1]
  have g2:st2.tm 2=.osl k u 0 g.ts.length 1:=by rw[c];simp[s2]
  have g3:st2.tm 3=.int .i64 t:=by rw[c];simp[s3]
  have g4:st2.tm 4=.ptr (2*ub+1) ub 0:=by rw[c];simp[s4]
  have e4:st2.tm 10=.sl tr false (yi g).length ((yi g).flatMap jC):=by rw[c];simp
  have d4:st2.tm 11=.int .i64 0:=by rw[c];simp
  have gd:st2.df=[]:=by rw[c];simp[sd]
  have gr:st2.ro=ub:=by rw[c];simp[sr]
  have go:st2.ob=v.ob:=by rw[c];simp[so]
  have e1:v.nx<=st2.nx:=by rw[c];simp;omega
  clear c;obtain⟨J,hJ⟩:∃J:Nat->St->Prop,J=λj s=>s.tm 11=.int .i64 j/\s.ob (2*ub+1)=some ⟨ub,.cells (yb g)⟩/\s.ob k=some ⟨u,.cells (yM g.ts.length st)⟩/\v.nx<=s.nx/\∀x∈((yi g).zip M).take j,rdsB g st t x=true:=⟨_,rfl⟩;refine j5 [(8,8),(11,13),(50,116)] (yi g).length J rfl rfl (by rw[hJ];exact⟨zU d4,by rw[go];exact gB,by rw[go];exact gK,e1,λx h=>by simp at h⟩) ?_;intro j q hj c7 f;rw[hJ]at c7;obtain⟨I,qB,Z,qn,T⟩:=c7;have q1:q.tm 1=yl mn yf M:=by rw[f.t 1 zS];simp[g1]
  have q2:q.tm 2=.osl k u 0 g.ts.length 1:=by rw[f.t 2 zS];simp[g2]
  have q3:q.tm 3=.int .i64 t:=by rw[f.t 3 zS];simp[g3]
  have q4:q.tm 4=.ptr (2*ub+1) ub 0:=by rw[f.t 4 zS];simp[g4]
  have d1:q.tm 10=.sl tr false (yi g).length ((yi g).flatMap jC):=by rw[f.t 10 zS];simp[e4]
  have qd:q.df=[]:=by rw[f.d];simp[gd]
  have qr:q.ro=ub:=by rw[f.r];simp[gr]
  clear f;have nB:∀m,q.nx<=m->¬ub=m:=λm hm=>by omega
  by_cases p:j<(yi g).length
  ·have B:=jP p zO;have b9:j<M.length:=zO;obtain⟨a,kk,ha,d3,e,S,hc⟩:=jf6 a0 p;have P:=JC jR tr false (yi g) .i64 p;have c9:=λob=>Yq (yi g) ob p;have b0:=jj M b9;have c5:j<((yi g).zip M).length:=by simp;omega
   have hx:((yi g).zip M)[j]=((yi g)[j],M[j]):=zS;simp only[e]at c9 hx;rw[e]at S;have e2:(g.ts.flatMap jf)[a*3+2]? = some (yl (g.ts[a]).nl yS (g.ts[a]).ops):=by rw[jO j7 g.ts ha (by decide:2<3)];rfl
   have d5:((g.ts[a]).ops.flatMap yS)[kk*4+1]? = some (.int .i64 ((g.ts[a]).ops[kk]).key):=by rw[jO jD (g.ts[a]).ops d3 (by decide:1<4)];rfl
   have b5:=jv2 (l:=k) (u:=u) (sz:=1) (kk:=.i64) ha;have K:=Qq (s:=st) ha;have U:=λm (hm:ub<=m)=>gk m hm;have w:rdsB g st t (((a:Int),(kk:Int)),M[j])=true->∀x∈((yi g).zip M).take (j+1),rdsB g st t x=true:=λh x c8=>by rw[av c5,aQ,ae,hx]at c8;rcases c8 with h1|rfl;exact T x h1;exact h
   have N:rdsB g st t (((a:Int),(kk:Int)),M[j])=false->((yi g).zip M).all (rdsB g st t)=false:=λh=>by rw[eP];exact⟨_,au c5,by rw[hx,h];simp⟩
   simp(disch:=try exact zD)[I,d1,q1,p,P,c9,ya,j2,j4 j6,b0];refine⟨by first|omega|(simp[qr];done)|(simp[qr];omega),?_⟩;have d7:∀L,Jo g t L=(g.ts[t]).ops.any (wkB L):=λL=>jut a0 ht L;have b7:=λL=>ev214 g.ts[t] (by have:=hs.os _ (au ht);omega) L;have e3:=XS j7 g.ts t ht;have o:∀b,(decide (M[j]<0)||st (M[j]).toNat)=b->rdsB g st t (((a:Int),(kk:Int)),M[j])=if (a:Int)=t then b else st a||(!b || !(g.ts[t]).ops.any (wkB ((g.ts[a]).ops[kk]).key)):=λb hb=>by unfold rdsB;simp only[hb,ba,S,d7]
   obtain⟨b,hb⟩:∃b,(decide (M[j]<0)||st (M[j]).toNat)=b:=⟨_,rfl⟩;have o:=o b hb;have b6:(M[j]<0/\b=true)\/∃y:Nat,M[j]=y/\y<g.ts.length/\st y=b:=by by_cases Q:M[j]<0;exact .inl ⟨Q,by rw[<- hb];simp[Q]⟩;obtain⟨y,hy⟩:∃y:Nat,M[j]=y:=⟨(M[j]).toNat,zO⟩;refine .inr ⟨y,hy,?_,?_⟩;rcases jpk hm (au b9) with h|h;omega;obtain⟨z,ez,hz⟩:=comL_mem.1 h;have:=XF hz;omega;have:¬(y:Int)<0:=zO;rw[<- hb,hy];simp[this]
   have e5:((List.take (j+1) ((yi g).zip M)))=((yi g).zip M).take (j+1):=rfl;rcases b6 with⟨Q,e7⟩|⟨y,hy,c6,e0⟩;case' inl=>simp(disch:=try exact zD)[Q,q3,ya]
   case' inr=>have d8:=jv2 (l:=k) (u:=u) (sz:=1) (kk:=.i64) c6;have c0:=Qq (s:=st) c6;rw[e0]at c0;have d0:((y:Int)<0)=False:=zS;rw[hy]at b0;simp(disch:=try exact zD)[hy,d0,I,p,q1,q2,q3,ya,j4 j6,b0,d8,Z,c0,U]
   all_goals cases b
   all_goals try contradiction
   case inr.false=>
    cases H:((a:Int)==(t:Int))
    ·have G:¬(a:Int)=t:=by simpa using H
     have D:((a:Int) != (t:Int))=true:=by simpa using H
     rw[za G]at o;cases F:st a;all_goals
      rw[F]at K
      rw[F]at o
      simp only[cp,fo,iz]at o
      simp(disch:=try exact zD)[D,q2,q3,ya,b5,Z,K,U,I,B,p]
      rw[hJ]
      exact⟨zS,by simp(disch:=try exact zD)[qB,yj,nB],by simp(disch:=try exact zD)[Z,U],zL,w o⟩
    have G:(a:Int)=t:=by simpa using H
    have D:((a:Int) != (t:Int))=false:=by simpa using H
    rw[zb G]at o;simp(disch:=try exact zD)[D,ya];refine j3 (by simp[qd]) ?_ rfl;simp[N o]
   all_goals
    cases H:((a:Int)==(t:Int))
    ·have G:¬(a:Int)=t:=by simpa using H
     have D:((a:Int) != (t:Int))=true:=by simpa using H
     rw[za G]at o;cases F:st a;rw[F]at K;rw[F,bR,bV,bR]at o;simp(disch:=try exact zD)[D,q2,q3,q4,ya,b5,Z,K,U,qB,yj,nB,yb,e2,d5,j4 j7,j4 jD,e3];refine⟨by simp[List.map_const'];omega,?_⟩;refine jH (b7 ((g.ts[a]).ops[kk]).key) (by simp[jf]) rfl (by simp[jf]) ?_;cases c3:(g.ts[t]).ops.any (wkB ((g.ts[a]).ops[kk]).key);rw[c3]at o;simp(disch:=try exact zD)[I,B,p];rw[hJ];exact⟨zS,by simp(disch:=try exact zD)[qB,yj,nB],by simp(disch:=try exact zD)[Z,U],zL,w o⟩;rw[c3]at o;simp(disch:=try exact zD);refine j3 (by simp[qd]) ?_ rfl;simp[N o];rw[F]at K;rw[F,fo]at o;simp(disch:=try exact zD)[D,q2,q3,ya,b5,Z,K,U,I,B,p];rw[hJ];exact⟨zS,by simp(disch:=try exact zD)[qB,yj,nB],by simp(disch:=try exact zD)[Z,U],zL,w o⟩
    ·have G:(a:Int)=t:=by simpa using H
     have D:((a:Int) != (t:Int))=false:=by simpa using H
     rw[zb G]at o;simp(disch:=try exact zD)[D,q3,ya,I,B,p];rw[hJ];exact⟨zS,by simp(disch:=try exact zD)[qB,yj,nB],by simp(disch:=try exact zD)[Z,U],zL,w o⟩
  have:j=(yi g).length:=zO;subst this;simp[I,d1];refine j3 (by simp[qd]) ?_ rfl;have:((yi g).zip M).all (rdsB g st t)=true:=by rw[aw];intro x hx;refine T x ?_;rw[aH zP];exact hx
  simp[this]
end
section
end
def txt20:List UInt8:=[98,101,103,105,110,32,115,10,114,101,97,100,32,115,32,120,32,110,105,108,10,111,107,32,115]
def H20:Hist':=⟨false,[[115]],false,[[120]],false,[⟨0,1,false,[⟨false,0,⟨0,0⟩⟩]⟩]⟩
def k20:(yL E 100 noY).d 29 [.str txt20]=some (.tup [(.agg [(.sl (some (0,1)) false 1 [(.str [115])]),(.sl (some (1,1)) false 1 [(.str [120])]),(.sl (some (2,3)) false 1 [(.int .i64 0),(.int .i64 1),(.sl none false 1 [(.bool false),(.int .i64 0),(.int .i64 0),(.int .i64 0)])])]),(.int .i64 0),(.int .i64 0)]):=by kernel_rfl
end Go.Pv.T
namespace Go.Pv.T
open Go Go.Pv
end Go.Pv.T
namespace Go.Pv.T
open Go Go.Pv
end Go.Pv.T
namespace Go.Pv.T
open Go Go.Pv
end Go.Pv.T
namespace Go.Pv.T
open Go Go.Pv
def j4w:few3S=.seq (hdC few3S) few4S:=rfl
def few3O {h:Hist'}{Yf:YF}{ob0:ZO}{ub ro:Nat}{s0:St}{Q:Ex->St->Prop}{N1 H:Nat}{S0 K0:V}(c4:ro<=ub) (hs:FewO h ob0 ub ro s0 25 45 N1 H S0 K0 (.sl none true 0 []) [])
 (w:∀s F P,P.map (·.1)=(h.ts.take 45).map fewT->FewO h ob0 ub ro s 25 45 N1 H S0 K0 F P->wpC E Yf few4S s Q):wpC E Yf few3S s0 Q:=by
 rw[j4w];obtain⟨r,f2,G,fd,fr,S,o2,J,gS,gK,gT,n0,n1,n2,ff⟩:=hs;simp only[few3S,few2S,few1S];conv in(occs:=*)S27=>all_goals cbv
 simp[hdC,tlC];refine j5 [(6,7),(67,98)] 45 (λi s=>s.tm 6=.int .i64 i/\i<=h.ts.length/\∃F P,P.map (·.1)=(h.ts.take i).map fewT/\FewO h ob0 ub ro s 25 45 N1 H S0 K0 F P) rfl rfl ?_ ?_;refine⟨zS,zS,.sl none true 0 [],[],zS,⟨by simp[r],by simp[f2],by simp[G],by simp[fd],by simp[fr],by simp[S],by simp[o2],by simp[J],gS.frame (λ_ _ _=>by simp) zK zK,gK.frame (λ_ _ _=>by simp) zK zK,⟨zS,.inl ⟨rfl,rfl⟩⟩,n0,n1,by simp;omega,λa e=>by simp[ff a e]⟩⟩;rintro i s hi ⟨h4,b9,F,P,hP,r,f2,G,fd,fr,S,o2,J,gS,gK,gT,n0,n1,n2,ff⟩ f;clear f;have q:¬(i<h.ts.length/\i<45)->∀m:St,(m.tm 1=s.tm 1/\m.tm 2=s.tm 2/\m.tm 3=s.tm 3)->m.df=s.df->m.ro=s.ro->m.ob=s.ob->s.nx<=m.nx->wpC E Yf few4S m Q:=by intro hx m ⟨q1,q2,q3⟩ n e3 x e5;refine w m F P (hP.trans (j95 b9 hi hx)) ⟨q1.trans r,q2.trans f2,q3.trans G,by rw[n];exact fd,by rw[e3];exact fr,by rw[x];exact S,by rw[x];exact o2,by rw[x];exact J,by rw[x];exact gS,by rw[x];exact gK,?_,n0,n1,zO,λa e=>by rw[x];exact ff a e⟩;exact gT.frame (λ_ _ _=>by rw[x]) e5
 have D:s.ob (2*ub+1)=some ⟨ub,.cells [yl h.sn X1 h.ss,yl h.kn X1 h.ks,yl h.tn jf h.ts]⟩:=S;by_cases o:i<h.ts.length;by_cases O:i<45;have hw:=jP O zO;have j:(i:Int)<45:=zO;obtain⟨t,ht⟩:∃t,h.ts[i]=t:=⟨_,rfl⟩;have B:=jkj t.ops.length 25;rw[show((25:Nat):Int)=25 from rfl]at B;have U:=j14 jD t.nl t.ops 25 .i64;have b7:min t.ops.length 25=(t.ops.take 25).length:=by rw[ai,Nat.min_comm]
 rw[b7]at U B;generalize hL:t.ops.take 25=L at *;have c7:L.length<=25:=by rw[<- hL,ai];omega
 have a0:(L.flatMap yS).all V.leaf=true:=by rw[eS,aw];intro _ _;rfl
 obtain⟨z,hz⟩:∃z,s.nx=z:=⟨_,rfl⟩;simp[h4,r,D,ya,o,j,j4 j7,jd j7,ht,jf,fr,j2,hz];refine⟨zO,?_⟩;refine jZ (cs:=[]) rfl rfl rfl ?_;simp[ya];obtain⟨d,hB⟩:∃y,(z+64+64+64+64+64+64+64+64+64+64+64+64+64+64+64+64)=y:=⟨_,rfl⟩;obtain⟨b,hA⟩:∃y,(z+64+64+64+64+64+64+64+64+64+64+64+64+64+64)=y:=⟨_,rfl⟩;have c8:d=b+128:=zO;have c9:z+896=b:=zO;rw[hB,hA];have w1:¬2*b=2*d:=zO;have w2:¬2*d=2*b:=zO;simp[ya,w1,B,U];refine j3z (f:=yS) (l:=L) (z:=d) zS zS (by simp[fr];omega) (by simp[yl,yp,j1 jD]) jD zQ a0 zO zO ?_;intro s1 u hu c0 cf K cd cr cb ck;have c6:d<=u:=zO;have c1:u<=d+512:=zO;have cA:s1.ob (2*b+1)=some ⟨b,.cells [.int .i64 t.s,.int .i64 t.f,yl t.nl yS t.ops]⟩:=by rw[cf _ zO zO];simp[w1]
 have cO:∀a,a≠2*b+1->a≠2*d+1->a≠2*(d+512)+1->s1.ob a=s.ob a:=by intro a k1 k2 k3;rw[cf _ k2 zO];simp[k1,k2]
 have v1:¬2*b=2*(ub+192):=zO;have v2:¬2*(ub+192)=2*b:=zO;have c3:s1.ob (2*(ub+192)+1)=some ⟨ub+192,.cells [S0,K0,F]⟩:=(cO _ zO zO zO).trans J;have b5:ro<=b:=zO;simp[K,ya,cA,cr,fr,j2,G,c3,v2,b5];obtain⟨p,hp⟩:∃p,(fewT t,u)=p:=⟨_,rfl⟩;have X:txU p=[.int .i64 t.s,.int .i64 t.f,.osl (2*u+1) u 0 L.length 4]:=by rw[<- hp];simp[txU,fewT,<- hL]
 refine jZ (cs:=txU p) (by rw[X];simp[j2]) rfl (by rw[X];rfl) ?_;simp;obtain⟨N,hE⟩:∃y,(d+64+64+64+64+64+64+64+64+64+64+64+64+64+64)=y:=⟨_,rfl⟩;have c5:d+896=N:=zO;rw[hE];have c2:P.length=i:=by have:=zg List.length hP;rw[bu,bu,ai]at this;omega
 have v:p.2=u:=by rw[<- hp]
 have M:p.1=fewT t:=by rw[<- hp]
 have b0:p.1.ops=L:=by rw[M];exact hL
 rw[hz]at gT n2;have g:∀y,y<z->s1.ob (2*y+1)=s.ob (2*y+1):=λy y2=>cO _ zO zO zO;refine jps (lo:=H) (hi:=z) (P:=P) (p:=p) ?_ zO (by simp[cr,fr];omega) (by simp[yp,ya];rfl) ?_ n2 zO ?_;simp;refine gT.frame (λy y1 y2=>?_) zK;have c:¬2*y=2*N:=zO;have n:¬2*y=2*b:=zO;simp[c,n];exact g y y2;refine⟨by rw[M];rfl,by rw[v];omega,by rw[v];omega,L.flatMap yS,?_,?_,?_⟩;rw[v];have c:¬2*u=2*N:=zO;have n:¬2*u=2*b:=zO;simp[c,n];exact c0;rw[b0,j1 jD];exact dH _;rw[b0,<- j1 jD,bg];intro s4 v4 T x4 xt xd xr xb xk;obtain⟨I,b8⟩:=T.leaf;have Z:∀y,(y<H)->s4.ob (2*y+1)=s.ob (2*y+1):=by intro y hy;rw[x4 _ (λy y1 y2=>by omega) zO];have c:¬2*y=2*N:=zO;have n:¬2*y=2*b:=zO;simp[c,n];exact g y zO
 have x3:=(Z (ub+192) zO).trans J;have b6:(P++[p]).map (·.1)=(h.ts.take (i+1)).map fewT:=by rw[bE,hP,av o,bE,ht,<- hp];rfl
 simp[xt,K,G,ya,x3,xr,cr,fr,j2,I,b8,h4,hw];have b1:¬2*ub=2*(ub+192):=zO;have b2:¬2*(ub+64)=2*(ub+192):=zO;refine⟨zO,O,zO,v4,P++[p],by rw[b6,List.map_take],⟨by simp[xt,K,r],by simp[xt,K,f2],by simp[xt,K,G],by simp[xd,cd,fd],by simp[xr,cr,fr],by simp[b1];exact(Z ub zO).trans S,by simp[b2];exact(Z (ub+64) zO).trans o2,zS,
  gS.frame (λy h1 h2=>?_) zK zK,gK.frame (λy h1 h2=>?_) zK zK,T.frame (λy h1 h2=>?_) (by simp<;>omega),n0,n1,by simp<;>omega,λa e=>?_⟩⟩
 have c:¬2*y=2*(ub+192):=zO;simp[c];exact Z y zO;have c:¬2*y=2*(ub+192):=zO;simp[c];exact Z y zO;have c:¬2*y=2*(ub+192):=zO;simp[c];have c:=e (ub+192) zO;have n:=e N zO;have e3:=e b zO;simp[c];rw[x4 _ (λy y1 y2=>e y zO) (e _ zO)];simp[n,e3];exact(cO a e3 (e d zO) (e (d+512) zO)).trans (ff a e);have j:¬(i:Int)<45:=zO;simp[h4,r,D,ya,o,j];exact q zO _ ⟨zS,zS,zS⟩ zS zS (by funext k;simp) zP;simp[h4,r,D,ya,o];exact q zO _ ⟨zS,zS,zS⟩ zS zS (by funext k;simp) zP
def FewP (h:Hist') (ob:ZO) (ub:Nat) (r:V×(ZO)×(Nat->Bool)×Nat):Prop :=
 ∃Sv Kv Tv P N1 N2,r.1=.agg [Sv,Kv,Tv]/\StO r.2.1 (ub+256) N1 (WL 25 h.ss) Sv/\StO r.2.1 N1 N2 (WL 45 h.ks) Kv/\TsO r.2.1 N2 r.2.2.2 P Tv/\P.map (·.1)=(h.ts.take 45).map fewT/\ub+256<=N1/\N1<=N2/\N2<=r.2.2.2 /\
  ∀key,(∀m,ub<=m->key≠2*m+1)->r.2.1 key=ob key
def sv27 {Yf:YF}{h:Hist'}{ob:ZO}{tk:Nat->Bool}{ro base ub:Nat}(a:ro<=ub):∃r,EvS E Yf.y 27 [.agg (yb h)] ob tk ro base ub r/\FewP h ob ub r:=by
 refine J6 rfl zQ ?_;show wpC E Yf S27.body _ (Jg S27.res _);refine few0S a λN d=>?_;refine few1O a d λL m c=>?_;refine few2O a c λO p z=>?_;refine few3O a z λH k P D t=>?_;obtain⟨K,o,F,q,fr,M,v,x,i,j,n,w,G,T,u⟩:=t;obtain⟨lS,I⟩:=i.leaf;obtain⟨B,J⟩:=j.leaf;obtain⟨s,S⟩:=n.leaf;have b1:¬2*(ub+192)=2*(ub+64):=zO;have g:S27.res=[.cell 2 (some 3)]:=rfl;rw[g];generalize e:Jg [.cell 2 (some 3)] (FewP h ob ub)=Q;simp only[few4S,few3S,few2S,few1S];conv in(occs:=*)S27=>all_goals cbv
 simp[tlC,o,F,v,x,ya,fr,j2,lS,B,s];refine⟨zO,?_⟩;rw[<- e];refine⟨(.agg [m,p,k],_,_,_),by simp[endS,q,ju,o,ya];exact⟨rfl,rfl,rfl⟩,m,p,k,P,_,_,rfl,i.frame (λy d c=>?_) zK zK,j.frame (λy d c=>?_) zK zK,n.frame (λy d c=>?_) ?_,D,w,G,?_,λf l=>?_⟩;have b:¬2*y=2*(ub+64):=zO;simp[b];have b:¬2*y=2*(ub+64):=zO;simp[b];have b:¬2*y=2*(ub+64):=zO;simp[b];simp;omega;simp;omega;have b:=l (ub+64) zO;simp[b];exact u f l
def jdh (t:Txn'):Txn':={ t with ops:=t.ops.take 6 }
def yD (h:Hist'):Hist':=if 8<(jes h).ts.length then { jes h with tn:=true,ts:=[] } else { jes h with ts:=(jes h).ts.map jdh }
def mixT (P:List (Txn'×Nat)) (i:Nat):List (Txn'×Nat):=P.mapIdx λj p=>if j<i then (jdh p.1,p.2) else p
def QK {P:List (Txn'×Nat)}{i:Nat}:(mixT P i).length=P.length:=by simp[mixT]
def jyq {P:List (Txn'×Nat)}:mixT P 0=P:=by apply de;intro n;simp[mixT]
def j3f {P:List (Txn'×Nat)}:(mixT P P.length).map (·.1)=(P.map (·.1)).map jdh:=by
 apply de;intro n;simp only[mixT,aV,List.getElem?_mapIdx];cases h:P[n]? with
 |none=>rfl
 |some o=>have:=(ak.1 h).1;simp[this]
def jpj {P:List (Txn'×Nat)}{i:Nat}(h:i<P.length):(mixT P i)[i]'(by rw[QK];exact h)=P[i]:=by simp[mixT]
def jmy {P:List (Txn'×Nat)}{i:Nat}(_:i<P.length):mixT P (i+1)=(mixT P i).modify i λp=>(jdh p.1,p.2):=by
 apply de;intro n;simp only[mixT,List.getElem?_mapIdx,List.getElem?_modify];cases c:P[n]? with
 |none=>simp
 |some o=>simp only[aU,Option.map_eq_map];by_cases b:i=n;subst b;simp;simp only[za b];by_cases a:n<i;rw[zb a,zb zO];rw[za zO,za a]
def jwj:∀{P:List (Txn'×Nat)}{i:Nat}(h:i<P.length),j2 (P.flatMap txU) (i*3+2) [.osl (2*(P[i]).2+1) (P[i]).2 0 (jdh (P[i]).1).ops.length 4]=(P.modify i λp=>(jdh p.1,p.2)).flatMap txU
 |[],_,h=>by simp at h
 |p::P,0,_=>by simp[fS,j2,txU,jdh]
 |p::P,i+1,h=>by
  have a:=jwj (P:=P) (i:=i) (zU h);simp only[fS,Nat.add_one_ne_zero,zc,ft,bk,iw];rw[<- a];have:(i+1)*3+2=(txU p).length+(i*3+2):=by simp;omega
  rw[this];simp only[j2,aA];rw[fm,ic];simp only[aY]
def InO.six {ob:ZO}{lo hi:Nat}{p:Txn'×Nat}(h:InO ob lo hi p):InO ob lo hi (jdh p.1,p.2):=by
 obtain⟨X,a,c,b⟩:=h.ob;refine⟨h.nl,h.lo,h.hi,X,a,?_,?_⟩;simp only[jdh,ai];omega;have e:X.take ((jdh p.1).ops.length*4)=(X.take (p.1.ops.length*4)).take ((jdh p.1).ops.length*4):=by rw[eC];congr 1;simp only[jdh,ai];omega
 rw[e,b,j1v];congr 1;simp only[jdh,ai];rcases iu p.1.ops.length 6 with h'|h';rw[fO h',bg,aH h'];rw[cE h']
def j16 {L u n i:Nat}(h:i<=n):Yz 4 none (some (.int .i64 (i:Int))) (.osl L u 0 n 4)=some (.osl L u 0 i 4):=by simp[Yz,Jz,h]
def TsO.len {ob:ZO}{lo hi:Nat}{P:List (Txn'×Nat)}{v:V}(h:TsO ob lo hi P v):WW v=some (.int .i64 P.length):=by rcases h.2 with⟨rfl,rfl⟩|⟨_,u,_,_,_,rfl,_⟩<;>rfl
def ev9 (h:Hist'):∃v,Ev E 9 [.agg (yb h)] v/\jvz v (yD h):=by
 refine JW rfl zQ ?_;generalize b0:(WO [.cell 2 (some 3)] λr=>jvz r (yD h))=PP;conv in(occs:=*)F9=>all_goals cbv
 simp[yb,ya,b0];refine jJ (vs:=[.agg (yb h)]) zI rfl (sv27 (h:=h) (cw _)) ?_;rintro v b8 d0 B ⟨Sv,Kv,Tv,P,X,M,hv,D,F,T,hP,n0,n1,n2,ff⟩;simp only at hv D F T hP n0 n1 n2 ff;subst hv;obtain⟨lS,cS⟩:=D.leaf;obtain⟨lK,cK⟩:=F.leaf;obtain⟨lT,cT⟩:=T.leaf;have c1:=T.len;have b1:b8 1=some ⟨0,.cells (yb h)⟩:=by rw[ff 1 (λm hm=>by omega)];simp[yb]
 have b2:b8 129=some ⟨64,.cells [.sl none true 0 [],.sl none true 0 [],.sl none true 0 []]⟩:=by rw[ff 129 (λm hm=>by omega)];simp
 have e1:(yD h).ss=WL 25 h.ss:=by unfold yD;split<;>rfl
 have e2:(yD h).sn=(WL 25 h.ss).isEmpty:=by unfold yD;split<;>rfl
 have e3:(yD h).ks=WL 45 h.ks:=by unfold yD;split<;>rfl
 have e4:(yD h).kn=(WL 45 h.ks).isEmpty:=by unfold yD;split<;>rfl
 have G:(jes h).ts.length=P.length:=by show((h.ts.take 45).map fewT).length=P.length;rw[<- hP,bu]
 simp[b1,ya,yb,j2];generalize hK:jv1 E YS _ PP=K;have H:∀(s:St) (c:List (Txn'×Nat)) (o:V),c.length<=8->(yD h).ts=(c.map (·.1)).map jdh->(yD h).tn=c.isEmpty->s.tm 1=.ptr 1 0 0->s.tm 2=.ptr 129 64 0->s.df=[]->s.ro=0->s.fb=0->B<=s.nx ->
  s.ob 1=some ⟨0,.cells [Sv,Kv,o]⟩->s.ob 129=some ⟨64,.cells [.sl none true 0 [],.sl none true 0 [],.sl none true 0 []]⟩->StO s.ob (192+256) X (WL 25 h.ss) Sv->StO s.ob X M (WL 45 h.ks) Kv->TsO s.ob M B c o->K .nrm s:=by
  intro s c o d1 b6 c0 g1 g2 gd gr gb gn p1 p2 D F T
  rw[<- hK,jkp]
  clear hK
  have c3:=T.leaf
  simp
  refine j5 [(3,3),(11,37)] c.length (λi s=>s.tm 3=.int .i64 i/\s.ob 1=some ⟨0,.cells [Sv,Kv,o]⟩/\s.ob 129=some ⟨64,.cells [.sl none true 0 [],.sl none true 0 [],.sl none true 0 []]⟩/\StO s.ob (192+256) X (WL 25 h.ss) Sv/\StO s.ob X M (WL 45 h.ks) Kv/\TsO s.ob M B (mixT c i) o) rfl rfl
   ⟨zS,by simp[p1],by simp[p2],D.frame (λ_ _ _=>by simp) zK zK,F.frame (λ_ _ _=>by simp) zK zK,by rw[jyq];exact T.frame (λ_ _ _=>by simp) zK⟩ ?_
  clear D F
  rintro i Z hi ⟨h3,o1,o2,D,F,gX⟩ f
  have f1:Z.tm 1=.ptr 1 0 0:=by rw[f.t 1 zS];simp[g1]
  have f2:Z.tm 2=.ptr 129 64 0:=by rw[f.t 2 zS];simp[g2]
  have fd:Z.df=[]:=by rw[f.d];simp[gd]
  have fb:Z.fb=0:=by rw[f.b];simp[gb]
  have fr:Z.ro=0:=by rw[f.r];simp[gr]
  clear f
  have Q:=gX.len
  rw[QK]at Q
  by_cases j:i<c.length
  ·have hw:=jP j zO;have p:i<(mixT c i).length:=by rw[QK];exact j
   rcases gX.2 with⟨he,_⟩|⟨c9,u,h1,h2,h4,rfl,h5⟩;rw[he]at p;simp at p;have d2:=gX.1 (c[i]) (by rw[<- jpj j];exact au p);have b7:jt 3 (.osl (2*u+1) u 0 (mixT c i).length 3) (.int .i64 (i:Int))=some (.ptr (2*u+1) u (i*3)):=by simp[jt,p]
   have S:((mixT c i).flatMap txU)[i*3+2]? = some (.osl (2*(c[i]).2+1) (c[i]).2 0 (c[i]).1.ops.length 4):=by rw[jO QC _ p (by decide:2<3),jpj j];rfl
   have k:=jwj (P:=mixT c i) (i:=i) p;rw[<- jmy j]at k;simp only[jpj j]at k;have b9:=jkj (c[i]).1.ops.length 6;rw[show((6:Nat):Int)=6 from rfl]at b9;have c6:=λL u=>j16 (L:=L) (u:=u) (n:=(c[i]).1.ops.length) (i:=min (c[i]).1.ops.length 6) (eX _ _);have c2:(jdh (c[i]).1).ops.length=min (c[i]).1.ops.length 6:=by simp only[jdh,ai,Nat.min_comm]
   rw[c2]at k;have c4:¬2*u=0:=zO;have c5:¬2*u=128:=zO;have b5:i*3+2+1<=((mixT c i).flatMap txU).length:=by rw[j1 QC];omega
   simp[h3,f1,o1,ya,Q,j,b7,h5,S,b9,c6,fr,c4,c5,k];have I:∀q∈mixT c (i+1),InO Z.ob M B q/\q.2≠u:=by intro q I;rw[jmy j]at I;rcases jix I with I|⟨x,hx,rfl⟩;exact⟨gX.1 q I,h4 q I⟩;have a0:=aJ hx;exact⟨(gX.1 x a0).six,h4 x a0⟩
   have O:(mixT c (i+1)).length=(mixT c i).length:=by rw[QK,QK]
   refine⟨by have:=b5;simp only[List.length_flatMap,QC]at this;exact this,hw,o2,D.frame (λy y1 y2=>?_) zK zK,F.frame (λy y1 y2=>?_) zK zK,λq N=>?_,.inr ⟨?_,u,h1,h2,λq N=>(I q N).2,by rw[O],zS⟩⟩;have w:¬2*y=2*u:=zO;simp[w];have w:¬2*y=2*u:=zO;simp[w];obtain⟨a,b⟩:=I q N;have w:¬2*q.2=2*u:=zO;exact a.frame (by simp[w]) zK;intro e;rw[e]at O;simp at O;omega
  ·have:i=c.length:=zO;subst this;simp[h3,f1,o1,ya,Q,f2,o2,j2,fr,D.leaf.1,F.leaf.1,c3.1];rw[<- b0];have c7:(mixT c c.length).isEmpty=(yD h).tn:=by rw[c0];exact jgu QK
   refine kE1 (g:=yD h) (l:=129) (u:=64) (x:=Sv) (y:=Kv) (z:=o) (by simp[fd]) (by simp[f2]) zS ?_ ?_ ?_;rw[e1,e2];refine StO.out (lo:=192+256) (hi:=X) (D.frame (λy J q2=>?_) zK zK) (by simp[fr]);have w:¬2*y=128:=zO;simp[w];rw[e3,e4];refine StO.out (lo:=X) (hi:=M) (F.frame (λy J q2=>?_) zK zK) (by simp[fr]);have w:¬2*y=128:=zO;simp[w];have c8:(yD h).ts.length=(mixT c c.length).length:=by rw[b6,QK];simp
   rw[c8,<- c7,b6,<- j3f];refine TsO.out (lo:=M) (hi:=B) (gX.frame (λy J q2=>?_) zK) (by simp[fr]);have w:¬2*y=128:=zO;simp[w]
 refine⟨⟨lS,lK,lT⟩,?_⟩;simp[c1];have J:∀y,192<=y->¬2*y=0:=λy hy=>by omega
 by_cases h8:8<P.length;have U:(8:Int)<(P.length:Int):=zO;simp[U,ya,j2];exact H _ [] (.sl none true 0 []) zS (by unfold yD;rw[zb (by rw[G];exact h8)];rfl) (by unfold yD;rw[zb (by rw[G];exact h8)];rfl) zS zS zS zS zS (by simp<;>omega) zS (by simp[b2])
  (D.frame (λy y1 y2=>by simp[J y zO]) zK zK) (F.frame (λy y1 y2=>by simp[J y zO]) zK zK) ⟨zS,.inl ⟨rfl,rfl⟩⟩
 have U:¬(8:Int)<(P.length:Int):=zO;simp[U];exact H _ P Tv zO (by unfold yD;rw[za (by rw[G];exact h8),hP];rfl) (by unfold yD;rw[za (by rw[G];exact h8)];show((h.ts.take 45).map fewT).isEmpty=_;rw[<- hP];exact jgu zS) zS zS zS zS zS (by simp<;>omega) zS (by simp[b2])
  (D.frame (λy y1 y2=>by simp[J y zO]) zK zK) (F.frame (λy y1 y2=>by simp[J y zO]) zK zK) (T.frame (λy y1 y2=>by simp[J y zO]) zK)
def small8 (h:Hist'):Small (yD h):=by have a:=jwy h;unfold yD;split;exact⟨a.ss,a.sl,a.ks,a.kl,zS,zS⟩;refine⟨a.ss,a.sl,a.ks,a.kl,zU a.ts,λt c=>?_⟩;simp only[aI]at c;obtain⟨d,b,rfl⟩:=c;have:=a.os d b;simp only[jdh,ai];omega
def j4v (h:Hist'):yD (yD h)=yD h:=by
 have b:WL 25 (jes h).ss=(jes h).ss:=jst 25 h.ss;have d:WL 45 (jes h).ks=(jes h).ks:=jst 45 h.ks;by_cases c:8<(jes h).ts.length;have e:yD h={ jes h with tn:=true,ts:=[] }:=by unfold yD;rw[zb c]
 have a:jes { jes h with tn:=true,ts:=[] }={ jes h with tn:=true,ts:=[] }:=by show Hist'.mk _ _ _ _ _ _=_;simp only[b,d];rfl
 rw[e];unfold yD;rw[a];rfl;have e:yD h={ jes h with ts:=(jes h).ts.map jdh }:=by unfold yD;rw[za c]
 have f:(((jes h).ts.map jdh).take 45).map fewT=(jes h).ts.map jdh:=by show((((h.ts.take 45).map fewT).map jdh).take 45).map fewT=((h.ts.take 45).map fewT).map jdh;rw[<- List.map_take,<- List.map_take,eC,cM,cM,cM];refine dx λt _=>?_;simp[fewT,jdh,eC]
 have a:jes { jes h with ts:=(jes h).ts.map jdh }={ jes h with ts:=(jes h).ts.map jdh }:=by show Hist'.mk _ _ _ _ _ _=_;simp only[b,d,f];simp[jes];cases h.ts<;>simp
 rw[e];unfold yD;rw[a];have g:¬8<((jes h).ts.map jdh).length:=by simpa using c
 simp only;rw[za g,cM];congr 1;refine dx λt _=>?_;simp[jdh,eC]
end Go.Pv.T
namespace Go.Pv.T
open Go Go.Pv
end Go.Pv.T
namespace Go.Pv.T
open Go Go.Pv
def f20:Small H20:=⟨zQ,zQ,zQ,zQ,zQ,zQ⟩
def j0b (h:Hist'):(yD h).ts.length<=8:=by unfold yD;split;simp;rename_i a;simp only[bu];omega
def ev38t (b:Bool) (l:List Int) (d:l.length<=1000000000):Ev E 38 [yl b yf l] (.sl (some (0,1)) false l.length (l.flatMap yf)):=by
 refine jS rfl ?_;conv in(occs:=*)F38=>all_goals cbv
 simp;refine jF (cs:=[]) rfl rfl rfl ?_;simp;cases l with
 |nil=>rw[jT _ rfl rfl];simp[yU,yl,yp,WZ];exact Qz (u:=64) zS zS (by simp[jb])
 |cons a l=>
  refine Jl (u:=64) (nl:=false) (n:=0) (cs:=[]) (ys:=(a::l).flatMap yf) zS (by simp[jb]) (by simp[Qf j6]) (by simp[yf]) zS zQ (by simp[yf,V.pureLeaf]) (by rw[j1 j6];omega) (by rw[j1 j6];omega) ?_;have c:((a::l).flatMap yf).length/1=(a::l).length:=by rw[j1 j6];simp
  rw[c,bJ,dz];simp;exact Qz (u:=192) zS zS (by simp[jb])
section
variable {E:Env}{st:St}{ub:Nat}{K:List FP->St->Prop}{d:Option Nat}{nm:Bool}{r:List AOpr}
def JG {a b:Nat}(h:a≠b):Nat.beq a b=false:=by cases c:Nat.beq a b;rfl;exact zf (bt c) h
def j58 {f:FuncId}{xs:List A}{args:List V}{n:Nat}{cs:List V}(a:Ev E f args (.sl (some (0,1)) false n cs)) (c:(xs.map λx=>(ye E st.tm x).strip)=args) (b:E.sh nm f=false) (hp:args.all V.pureTop=true)
 (h:∀u,u=ub->YU E r K (ye E st.tm) (.call f xs) st d ub { v:=.sl (some (u,1)) false n cs,add:=[u] }):jE E (⟨d,.call f xs,none,nm⟩::r) st ub K:=by
 refine X4 a c b hp ?_;rw[jj5];rw[jG];exact h ub rfl
end
section
end
def Jf (g:Hist') (x:Int):Int:=if x<0 then g.ts.length else x
def j2b (g:Hist') (i:Nat):List P2:=((g.ts.length:Int),(ym g).getD i 0)::((List.range i).filter λk=>yE g ((ym g).getD k 0).toNat==yE g ((ym g).getD i 0).toNat).map λk=>((ym g).getD k 0,(ym g).getD i 0)
def j08 (g:Hist') (M:List Int) (i:Nat):P2:=(Jf g (M.getD i 0),((yi g).getD i (0,0)).1)
def askE (g:Hist') (M:List Int) (seen:List Int) (i:Nat):List P2:=(seen.filter λt=>Jo g t (Wu g ((yi g).getD i (0,0)))&&(t != M.getD i 0)).map λt=>(t,Jf g (M.getD i 0))
def X9 (g:Hist') (lvl:Int) (M:List Int) (i:Nat):List Int:=jdq g lvl M [] ((yi g).getD i (0,0))
def jdr (g:Hist') (lvl:Int) (M:List Int) (a b:Nat):Bool :=
 (a==g.ts.length&&Jt g b)||((Jt g a&&Jt g b&&decide (a<b)&&(yE g a==yE g b)) ||
  (List.range (yi g).length).any λi=>j08 g M i==((a:Int),(b:Int))||(askE g M (X9 g lvl M i) i).contains ((a:Int),(b:Int)))
def jld (g:Hist') (lvl:Int) (M:List Int) (l:List P2):Prop:=∀z,z∈l ↔ (∃i,i<(ym g).length/\z∈j2b g i)\/∃i,i<(yi g).length/\(z=j08 g M i\/z∈askE g M (X9 g lvl M i) i)
section
variable {g:Hist'}{lvl:Int}{M:List Int}
def jnt {i:Nat}(h:i<(ym g).length):∃k:Nat,(ym g).getD i 0=k/\Jt g k=true/\k<g.ts.length:=by
 have e:(ym g).getD i 0=(ym g)[i]:=by simp[ay,aa h]
 obtain⟨k,b,a⟩:=comL_mem.1 (au h);exact⟨k,by rw[e,b],a,XF a⟩
def j6q {i k:Nat}(hi:i<(ym g).length) (b:k<i):(ym g).getD k 0<(ym g).getD i 0:=by
 have a:=jp8 g;have c:(ym g).getD i 0=(ym g)[i]:=by simp[ay,aa hi]
 have d:(ym g).getD k 0=(ym g)[k]' zO:=by simp[ay,aa (show k<(ym g).length by omega)]
 rw[c,d];exact cZ.1 a k i zO hi b
def jif {i:Nat}(h:i<(yi g).length):∃k:Nat,((yi g).getD i (0,0)).1=k/\Jt g k=true/\k<g.ts.length:=by
 have e:(yi g).getD i (0,0)=(yi g)[i]:=by simp[ay,aa h]
 obtain⟨k,b,a⟩:=comL_mem.1 (jrj (au h));exact⟨k,by rw[e,b],a,XF a⟩
def jyw (a:W7 g M=true) {i:Nat}(h:i<(yi g).length):M.getD i 0<0\/∃k:Nat,M.getD i 0=k/\Jt g k=true/\k<g.ts.length:=by
 have b:i<M.length:=by rw[XV a];exact h
 have e:M.getD i 0=M[i]:=by simp[ay,aa b]
 rcases jpk a (au b) with h1|h1;exact .inl (by rw[e,h1];decide);obtain⟨k,d,c⟩:=comL_mem.1 h1;exact .inr ⟨k,by rw[e,d],c,XF c⟩
def jos {i:Nat}{t:Int}(h:t∈X9 g lvl M i):∃k:Nat,t=k/\k<g.ts.length:=by unfold X9 jdq at h;obtain⟨k,a,e,_⟩:=filTo_mem.1 h;exact⟨k,e,a⟩
def Qh (O:W7 g M=true) {l:List P2}(h:jld g lvl M l):ja5 (ja2 l)=jo (g.ts.length+1) (jdr g lvl M):=by
 refine j0o λz=>?_;rw[h];constructor;rintro(⟨i,f,d⟩|⟨i,f,d⟩);obtain⟨b,u,r,G⟩:=jnt f;unfold j2b at d;rw[u]at d;rcases bB.1 d with rfl|d
 exact⟨g.ts.length,b,zO,zO,by simp[jdr,r],rfl⟩;obtain⟨k,o,rfl⟩:=aI.1 d;obtain⟨B,m⟩:=bL.1 o;have n:=bf.1 B;obtain⟨a,p,D,s⟩:=jnt (show k<(ym g).length by omega);have q:=j6q f n;rw[p]at m ⊢;rw[p,u]at q;refine⟨a,b,zO,zO,?_,rfl⟩;simp only[ba]at m;simp[jdr,D,r,m,iy.1 q];have w:∀a b:Nat,z=((a:Int),(b:Int))->jdr g lvl M a b=true:=λa b e=>by unfold jdr;rw[bG,bG];refine .inr (.inr (bZ.2 ⟨i,bf.2 f,?_⟩));rw[bG];rcases d with d|d;exact .inl (by rw[<- d,e];simp);exact .inr (by rw[e]at d;simpa using d)
 obtain⟨b,u,_,G⟩:=jif f;have N:∃a:Nat,Jf g (M.getD i 0)=a/\a<g.ts.length+1:=by unfold Jf;rcases jyw O f with h|⟨k,o,_,H⟩;exact⟨g.ts.length,by rw[zb h],zO⟩;exact⟨k,by rw[za zO,o],zO⟩
 obtain⟨a,p,s⟩:=N;rcases d with d|d;have e:z=((a:Int),(b:Int)):=by rw[d,j08,p,u]
 exact⟨a,b,s,zO,w a b e,e⟩;unfold askE at d;obtain⟨t,I,e⟩:=aI.1 d;obtain⟨c,P,J⟩:=jos (bL.1 I).1;have e:z=((c:Int),(a:Int)):=by rw[<- e,P,p]
 exact⟨c,a,zO,zO,w c a e,e⟩;rintro⟨a,b,p,u,j,rfl⟩;unfold jdr at j;rw[bG,bG]at j;rcases j with j|j|j;rw[aj]at j;obtain⟨v,F⟩:=j;have v:a=g.ts.length:=by simpa using v
 obtain⟨i,f,e⟩:=bq (comL_mem.2 ⟨b,rfl,F⟩);refine .inl ⟨i,f,?_⟩;unfold j2b;rw[show(ym g).getD i 0=(b:Int) by simp[ay,aa f,e],v];exact aO ..;simp only[aj,ze]at j;obtain⟨⟨⟨v,F⟩,Q⟩,K⟩:=j;obtain⟨i,f,e⟩:=bq (comL_mem.2 ⟨b,rfl,F⟩);obtain⟨k,o,L⟩:=bq (comL_mem.2 ⟨a,rfl,v⟩);have y:(ym g).getD i 0=(b:Int):=by simp[ay,aa f,e]
 have x:(ym g).getD k 0=(a:Int):=by simp[ay,aa o,L]
 have n:k<i:=by rcases dV k i with h|h|h;exact h;subst h;rw[y]at x;omega;have:=j6q o h;rw[y,x]at this;omega
 refine .inl ⟨i,f,?_⟩;unfold j2b;refine aX _ (aI.2 ⟨k,bL.2 ⟨bf.2 n,?_⟩,by rw[y,x]⟩);rw[y,x,ba,ba];exact K;obtain⟨i,f,h⟩:=bZ.1 j;refine .inr ⟨i,bf.1 f,?_⟩;rw[bG]at h;rcases h with h|h;exact .inl (by simpa using(beq_iff_eq.1 h).symm);exact .inr (by simpa using h)
end
def yT (p:P2):List V:=[.int .i64 p.1,.int .i64 p.2]
def XC (p:P2):(yT p).length=2:=rfl
def j0j (L:List P2):(L.flatMap yT).all V.pureLeaf=true:=by rw[eS,aw];intro _ _;rfl
def EdV (ob:ZO) (lo hi:Nat) (v:V) (L:List P2):Prop :=
 (v=.sl none true 0 []/\L=[])\/∃u,v=.osl (2*u+1) u 0 L.length 2/\ob (2*u+1)=some ⟨u,.cells (L.flatMap yT)⟩/\lo<=u/\u<hi
def EdV.frame {ob ob':ZO}{lo hi hi':Nat}{v:V}{L:List P2}(h:EdV ob lo hi v L) (b:∀u,lo<=u->u<hi->ob' (2*u+1)=ob (2*u+1)) (f:hi<=hi'):EdV ob' lo hi' v L:=by rcases h with h|⟨u,e,c,a,d⟩;exact .inl h;exact .inr ⟨u,e,(b u a d).trans c,a,zO⟩
def EdV.len {ob:ZO}{lo hi:Nat}{v:V}{L:List P2}(h:EdV ob lo hi v L):WW v=some (.int .i64 (L.length:Nat)):=by rcases h with⟨rfl,rfl⟩|⟨u,rfl,_⟩<;>rfl
def jgr {F:Env}{Yf:YF}{lo hi ub:Nat}{v:V}{L:List P2}{p:P2}{s x:A}{st:St}{K:St->Nat->Prop}{d:Option Nat}(c:ye F st.tm s=v) (j:EdV st.ob lo hi v L) (i:st.ro<=lo) (e:yp st.ob 2 (ye F st.tm x)=some (yT p)) (l:L.length<=1000000)
 (h:∀a:List Nat,(a=[]\/∃u,lo<=u/\u<hi/\a=[2*u+1]/\st.ob (2*u+1)=some ⟨u,.cells (L.flatMap yT)⟩)->QN K st d ub { v:=.osl (2*ub+1) ub 0 (L.length+1) 2,obs:=[(2*ub+1,⟨ub,.cells ((L++[p]).flatMap yT)⟩)],kill:=a }):j8 F Yf ⟨d,.append true 2 16 s x,none,true⟩ st ub K:=by
 rcases j with⟨rfl,rfl⟩|⟨u,rfl,b,k,f⟩;refine X8 c e (by simp[yT]) zQ rfl (by simp[yT]) (by simp[yT]) ?_;simpa[yT,jI] using h [] (.inl rfl);have g:=j1 XC L;refine JJ (cs:=L.flatMap yT) c e b (by simp[yT]) zO zO zQ rfl (by simp[yT];omega) (by simp[yT];omega) ?_;have:=h [2*u+1] (.inr ⟨u,k,f,rfl,b⟩);rw[aH zO];simpa[yT,jI] using this
section
variable {ob:ZO}{lo hi kG uG:Nat}{Nv lv:V}{L:List P2}
def j6h (z:ob kG=some ⟨uG,.cells [Nv,lv]⟩) (I:EdV ob lo hi lv L) (K:L.length<=1000000) (a b:Int) (tk:Nat->Bool) (base ub:Nat):EvO E 260 [.ptr kG uG 0,.int .i64 a,.int .i64 b] ob tk base ub (.bool (L.contains (a,b))):=by
 refine jq rfl ?_;have e:=I.len;obtain⟨R,J⟩:∃R,R=L.contains (a,b):=⟨_,rfl⟩;rw[<- J];conv in(occs:=*)S260=>all_goals cbv
 simp;refine j5 [(6,38)] L.length (λi s=>s.tm 7=.int .i64 i/\s.ob=ob/\R=(L.drop i).contains (a,b)) rfl rfl ⟨zS,rfl,J⟩ ?_;rintro i s hi ⟨r,p,m⟩ f;have w:s.tm 0=.ptr kG uG 0:=by rw[f.t 0 zS];simp
 have F:s.tm 1=.int .i64 a:=by rw[f.t 1 zS];simp
 have H:s.tm 2=.int .i64 b:=by rw[f.t 2 zS];simp
 have G:s.df=[]:=by rw[f.d];simp
 clear f;by_cases c:i<L.length;have o:=jP c zO;rw[aP c,dE]at m;rcases I with⟨_,rfl⟩|⟨u,rfl,D,_⟩;simp at c;have v:(L.flatMap yT)[i*2]? = some (.int .i64 L[i].1):=by have:=jO XC L c (by decide:0<2);rw[bl]at this;rw[this];rfl
 have B:(L.flatMap yT)[i*2+1]? = some (.int .i64 L[i].2):=by rw[jO XC L c (by decide:1<2)];rfl
 have j:=jv2 (l:=2*u+1) (u:=u) (sz:=2) (kk:=.i64) c;generalize L[i]=q at *;obtain⟨x,y⟩:=q;simp only at v B;cases k:(x==a);have g:R=(L.drop (i+1)).contains (a,b):=by rw[m,show((a,b)==(x,y))=false by simp at k ⊢;intro h;exact zf h.symm k,bR]
 simp(disch:=try exact zD)[r,w,F,p,ya,z,e,c,j,D,v,k,o];simpa using g;cases n:(y==b);have g:R=(L.drop (i+1)).contains (a,b):=by rw[m,show((a,b)==(x,y))=false by simp at n ⊢;intro _ h;exact zf h.symm n,bR]
 simp(disch:=try exact zD)[r,w,F,H,p,ya,z,e,c,j,D,v,B,k,n,o];simpa using g;have g:R=true:=by simp only[zh]at k n;rw[m,k,n];simp
 simp(disch:=try exact zD)[r,w,F,H,p,ya,z,e,c,j,D,v,B,k,n];exact j3 (by simp[G]) (by simp[g]) rfl;have:i=L.length:=zO;subst this;rw[bC zK]at m;simp(disch:=try exact zD)[r,w,p,ya,z,e];exact j3 (by simp[G]) (by simp[m]) rfl
end
def jxl (L:List P2) (p:P2):List P2:=if L.contains p then L else L++[p]
def GrR (kG uG lo N:Nat) (ob:ZO) (ub:Nat) (L:List P2):Prop:=∃lv,ob kG=some ⟨uG,.cells [.int .i64 (N:Int),lv]⟩/\EdV ob lo ub lv L
def GrR.keep {kG uG lo N ub b:Nat}{ob ob':ZO}{L:List P2}(h:GrR kG uG lo N ob ub L) (c:∀a,Off ub a->ob' a=ob a) (f:Off ub kG) (e:ub<=b):GrR kG uG lo N ob' b L:=by obtain⟨i,g,d⟩:=h;exact⟨i,(c _ f).trans g,d.frame (λu _ h=>c _ (Off.new h)) e⟩
def sv215 {Yf:YF}{kG uG lo N a b:Nat}{L:List P2}{ob:ZO}{tk:Nat->Bool}{ro base ub:Nat}(D:GrR kG uG lo N ob ub L) (i:Off lo kG) (j:lo<=ub) (l:ro<=lo) (s:ro<=uG) (J:L.length<=100000) (K:a<N) (H:b<N) :
 ∃r,EvS E Yf.y 215 [.ptr kG uG 0,.int .i64 (a:Int),.int .i64 (b:Int)] ob tk ro base ub r/\ub<=r.2.2.2/\GrR kG uG lo N r.2.1 r.2.2.2 (jxl L ((a:Int),(b:Int)))/\∀c,Off lo c->c≠kG->r.2.1 c=ob c:=by
 obtain⟨t,d,n⟩:=D;have B:=(i.up j).ne;have G:((a:Int)<0)=False:=zS;have x:((b:Int)<0)=False:=zS;have a1:((N:Int)<=a)=False:=by simp;omega
 have b1:((N:Int)<=b)=False:=by simp;omega
 refine J6 rfl zQ ?_;show wpC E Yf S215.body _ (Jg S215.res _);conv in(occs:=*)S215=>all_goals cbv
 simp(disch:=try exact zD)[S215,ya,d,G,x,a1,b1];refine jN (vs:=[.ptr kG uG 0,.int .i64 (a:Int),.int .i64 (b:Int)]) zS rfl rfl (j6h (L:=L) (lo:=lo) (hi:=ub) (by simpa using d) (n.frame (λu _ _=>by simp) zK) zO _ _ _ _ _) ?_;unfold jxl;cases I:L.contains ((a:Int),(b:Int));simp(disch:=try exact zD)[ya,d,j2];refine jZ (cs:=[.int .i64 (a:Int),.int .i64 (b:Int)]) (by simp[j2]) rfl rfl ?_;simp;refine jgr (lo:=lo) (hi:=ub) (v:=t) (L:=L) (p:=((a:Int),(b:Int))) zS (n.frame (λu f k=>?_) zK) (by simpa using l) (by simp[yp,ya,yT]) zO λw g=>?_;have o:∀m,ub<=m->¬u=m:=λm F=>by omega
 simp(disch:=try exact zD)[yj,o];have h:∀c,Off lo c->w.any (Nat.beq c)=false:=λc i=>by rcases g with rfl|⟨u,f,k,rfl,_⟩;rfl;simp only[bp,bD,bm];exact JF (i u f)
 have z:∀m,ub<=m->w.any (Nat.beq (2*m+1))=false:=λm F=>by rcases g with rfl|⟨u,f,k,rfl,_⟩;rfl;simp only[bp,bD,bm];exact JG zO
 generalize q:List.flatMap yT (L++[((a:Int),(b:Int))])=cs9;simp(disch:=try exact zD)[ya,d,h _ i,j9,B,j2];refine⟨s,YZ zS ?_⟩;refine⟨zL,⟨.osl (2*(ub+2368)+1) (ub+2368) 0 (L.length+1) 2,by simp[aA],.inr ⟨ub+2368,zS,?_,zO,zL⟩⟩,λc f k=>?_⟩;have:=(i.up (show lo<=ub+2368 by omega)).ne;simp(disch:=try exact zD)[j9,yj,aA,q];exact λe=>zf e.symm (this _ zK);have o:=(f.up j).ne;simp(disch:=try exact zD)[j9,k,o,h c f];simp;refine YZ zS ⟨zL,⟨t,by simpa using d,n.frame (λu _ _=>by simp) zL⟩,λc _ _=>by simp⟩
def ofE (l:List P2):List P2:=l.foldl jxl []
def j2m (L:List P2) (p:P2):(jxl L p).length<=L.length+1:=by unfold jxl;split<;>simp
def ofE_len (l:List P2):(ofE l).length<=l.length:=by
 have:∀(l L:List P2),(l.foldl jxl L).length<=L.length+l.length:=by
  intro l;induction l with
  |nil=>intro L;simp
  |cons p l a=>intro L;have b:=a (jxl L p);have c:=j2m L p;simp only[em,bj];omega
 have:=this l [];simpa[ofE] using this
def j2l {L:List P2}{p z:P2}:z∈jxl L p ↔ z∈L\/z=p:=by
 unfold jxl;split;rename_i h;have h:p∈L:=by simpa using h
 exact⟨.inl,λa=>a.elim id λe=>e▸h⟩;simp
def j8n {l:List P2}{z:P2}:z∈ofE l ↔ z∈l:=by
 have:∀(l L:List P2),z∈l.foldl jxl L ↔ z∈L\/z∈l:=by
  intro l;induction l with
  |nil=>intro L;simp
  |cons p l a=>intro L;rw[em,a,j2l,bB,or_assoc]
 have:=this l [];simpa[ofE] using this
def j26 {l:List P2}{i:Nat}(h:i<l.length):ofE (l.take (i+1))=jxl (ofE (l.take i)) l[i]:=by unfold ofE;rw[av h,fJ];rfl
def sv159 {Yf:YF}{lo hi N:Nat}{v:V}{l:List P2}{ob:ZO}{tk:Nat->Bool}{ro base ub:Nat}(O:EdV ob lo hi v l) (hu:hi<=ub) (U:l.length<=100000) (hN:∀p∈l,∃a b:Nat,p=((a:Int),(b:Int))/\a<N/\b<N) (a0:ro<=ub) :
 ∃r,EvS E Yf.y 159 [.int .i64 (N:Int),v] ob tk ro base ub r/\∃u,ub<=u/\u<r.2.2.2/\r.1=.ptr (2*u+1) u 0/\GrR (2*u+1) u (u+1) N r.2.1 r.2.2.2 (ofE l)/\∀c,Off ub c->r.2.1 c=ob c:=by
 have h:=O.len;refine J6 rfl zQ ?_;show wpC E Yf S159.body _ (Jg S159.res _);conv in(occs:=*)S159=>all_goals cbv
 simp(disch:=try exact zD)[S159,j2];refine jQ λj e=>?_;obtain⟨u,M,u2,g5,S⟩:∃u,ub<=u/\u<j.nx/\j.tm 5=.ptr (2*u+1) u 0/\j.ob (2*u+1)=some ⟨u,.cells [.int .i64 (N:Int),.sl none true 0 []]⟩:=by refine⟨ub+192,zO,?_,by rw[e];simp[aA],by rw[e];simp[aA]⟩;rw[e];simp
 have g1:j.tm 1=v:=by rw[e];simp
 have I:j.tm 6=.int .i64 0:=by rw[e];simp
 have gd:j.df=[]:=by rw[e];simp
 have gr:j.ro=ro:=by rw[e];simp
 have go:∀c,Off ub c->j.ob c=ob c:=λc k=>by have:=k.ne;rw[e];simp(disch:=try exact zD)[this]
 clear e;obtain⟨J,G⟩:∃J:Nat->St->Prop,J=λi s=>s.tm 6=.int .i64 i/\GrR (2*u+1) u (u+1) N s.ob s.nx (ofE (l.take i))/\u<s.nx/\∀c,Off ub c->s.ob c=ob c:=⟨_,rfl⟩;refine j5 [(6,6),(10,27)] l.length J rfl rfl (by rw[G];exact⟨by simpa using I,⟨_,S,.inl ⟨rfl,rfl⟩⟩,u2,go⟩) ?_;clear S I go;intro i s hi m f;rw[G]at m;obtain⟨o,z,su,q⟩:=m;have P:=(f.t 1 zS).trans g1;have Q:=(f.t 5 zS).trans g5;have T:=f.d.trans gd;have sr:=f.r.trans gr;clear f;by_cases g:i<l.length;have D:=jP g zO;obtain⟨a,b,B,ha,hb⟩:=hN _ (au g);have x:=ofE_len (l.take i);rw[ai]at x;rcases O with⟨_,rfl⟩|⟨w,rfl,h4,w1,w2⟩
 simp at g;have h5:s.ob (2*w+1)=some ⟨w,.cells (l.flatMap yT)⟩:=(q _ (Off.new zO)).trans h4;have h1:(l.flatMap yT)[i*2]? = some (.int .i64 a):=by have:=jO XC l g (by decide:0<2);rw[bl]at this;rw[this,B];rfl
 have X:(l.flatMap yT)[i*2+1]? = some (.int .i64 b):=by rw[jO XC l g (by decide:1<2),B];rfl
 have n:=jv2 (l:=2*w+1) (u:=w) (sz:=2) (kk:=.i64) g;have e:=j26 g;rw[B]at e;simp(disch:=try exact zD)[o,Q,P,h,g,n,ya,h5,h1,X];refine jJ (vs:=[.ptr (2*u+1) u 0,.int .i64 (a:Int),.int .i64 (b:Int)]) zS rfl (sv215 (lo:=u+1) (z.keep (λc _=>by simp) (Off.new zO) zL) (Off.new zO) zL (by first|omega|(simp[sr];omega)) (by first|omega|(simp[sr];omega)) zO ha hb) ?_;rintro v1 b0 Z F ⟨L,H,K⟩;simp only at L H K;have q1:s.nx<=F:=by first|omega|(simp at L;omega)
 rw[<- e]at H;simp(disch:=try exact zD)[o,D,g];rw[G];refine⟨zS,H.keep (λc _=>by simp) (Off.new zO) zL,zL,λc k=>?_⟩;have:=K c (k.up zO) (k u M);simpa[this] using q c k;have:i=l.length:=zO;subst this;rw[aH zK]at z;simp(disch:=try exact zD)[o,P,Q,h];exact JL (by simp[T]) ⟨u,M,zL,zS,z.keep (λc _=>by simp) (Off.new zO) zL,λc k=>by simpa using q c k⟩
def jxt {st:St}{n k L u sz:Nat}{cs:List V}{P:V->Prop}(o:∀r,SlR r false k cs->P r) (h:st.df=[]) (m:st.tm n=.osl L u 0 k sz) (c:st.ob L=some ⟨u,.cells cs⟩) (q:cs.length=k*sz) (i:st.ro<=u) (hp:cs.all V.pureLeaf=true):WO [.t n] P .ret st:=by
 have a:ya st.ob L u=some cs:=by simp[ya,c]
 have j:JX st 6 (.osl L u 0 k sz)=some (.sl none false k cs):=by show((ya st.ob L u).bind λcs=>if Nat.ble st.ro u=true/\0+k*sz<=cs.length then (((cs.drop 0).take (k*sz)).mapM (JX st 5)).map λd=>V.sl none false k d else none)=_;rw[a,ah,zb ⟨bS▸i,zO⟩,du,aH zO,jbk hp];rfl
 have c:∃t:Option (Nat×Nat),js st true 0 (.osl L u 0 k sz)=some (.sl t false k cs)/\∀p∈t.toList,p.1<64:=by simp only[js,j,ah,a,aU];refine⟨_,rfl,λp hp=>?_⟩;split at hp;simp at hp;subst hp;exact dC rfl;simp at hp
 obtain⟨t,g,f⟩:=c;have e:[ARes.t n].mapM (ju st)=some [.osl L u 0 k sz]:=by simp[ju,m]
 refine⟨.sl t false k cs,?_,o _ ⟨t,rfl,f⟩⟩;simp only[jb4,Yj h,Ye h,zd,e,ah,W4];have l:yJ ([V.osl L u 0 k sz].flatMap V.toks)=true:=rfl;rw[l];have b:XE st true 0 (.osl L u 0 k sz)=some (.sl t false k cs):=g;simp only[Jc,b,ah,aU];cases t<;>rfl
def IntL (ob:ZO) (lo hi:Nat) (v:V) (L:List Int):Prop:=∃u,v=.osl (2*u+1) u 0 L.length 1/\ob (2*u+1)=some ⟨u,.cells (L.flatMap yf)⟩/\lo<=u/\u<hi
def EdL (ob:ZO) (lo hi:Nat) (v:V) (L:List P2):Prop:=∃u,v=.osl (2*u+1) u 0 L.length 2/\ob (2*u+1)=some ⟨u,.cells (L.flatMap yT)⟩/\lo<=u/\u<hi
def Xn (L:List P2) (N:Nat) (a i:Nat):List Int:=yt ((List.range i).filter λb=>L.contains ((a:Int),(b:Int)))
def jit (L:List P2) (N a i:Nat):Xn L N a (i+1)=Xn L N a i++if L.contains ((a:Int),(i:Int)) then [(i:Int)] else []:=by unfold Xn;rw[cV,bN];cases h:L.contains ((a:Int),(i:Int));rw[ct,h,za zQ,za zQ,dA,aL,aL];rw[ct,h,zb rfl,zb rfl,dA];simp[yt]
def jct (L:List P2) (N a:Nat):∀i,(Xn L N a i).length<=i
 |0=>by simp[Xn,yt]
 |i+1=>by have:=jct L N a i;rw[jit];split<;>simp<;>omega
section
variable {ob:ZO}{lo kG uG N ub:Nat}{L:List P2}
def evo216 (hG:GrR kG uG lo N ob ub L) (g:Off ub kG) (hl:L.length<=100000) (hN:N<=1000) (a:Nat) (tk:Nat->Bool) (base:Nat):∃v,EvO E 216 [.ptr kG uG 0,.int .i64 (a:Int)] ob tk base ub v/\SlR v false (Xn L N a N).length ((Xn L N a N).flatMap yf):=by
 obtain⟨lv,G,hE⟩:=hG;have oG:=g.ne;refine jb3 rfl zQ ?_;conv in(occs:=*)S216=>all_goals cbv
 simp;refine jZ (cs:=[]) rfl rfl rfl ?_;simp;refine jQ λj c=>?_;have U:j.tm 0=.ptr kG uG 0:=by rw[c];simp
 have g1:j.tm 1=.int .i64 (a:Int):=by rw[c];simp
 have I:j.tm 6=.int .i64 0:=by rw[c];simp
 have Q:∃v,j.tm 5=v/\IntL j.ob ub j.nx v []:=by refine⟨_,rfl,ub+64,by rw[c];simp,by rw[c];simp,zO,?_⟩;rw[c];first|omega|(simp;done)|(simp;omega)
 have X:j.df=[]:=by rw[c];simp
 have gr:j.ro=ub:=by rw[c];simp
 have P:ub<=j.nx:=by rw[c];first|omega|(simp;done)|(simp;omega)
 have go:∀b,Off ub b->j.ob b=ob b:=λb g=>by have:=g.ne;rw[c];simp(disch:=try exact zD)[this]
 clear c;obtain⟨J,B⟩:∃J:Nat->St->Prop,J=λi s=>s.tm 6=.int .i64 i/\(∃v,s.tm 5=v/\IntL s.ob ub s.nx v (Xn L N a i))/\ub<=s.nx/\∀b,Off ub b->s.ob b=ob b:=⟨_,rfl⟩;refine j5 [(5,6),(8,23)] N J rfl rfl (by rw[B];exact⟨by simpa using I,Q,P,go⟩) ?_;clear Q I go P;intro i s hi x f;rw[B]at x;obtain⟨q,⟨v,H,D⟩,sn,z⟩:=x;have M:=(f.t 0 zS).trans U;have s1:=(f.t 1 zS).trans g1;have T:=f.d.trans X;have sr:=f.r.trans gr;clear f;have o:s.ob kG=some ⟨uG,.cells [.int .i64 (N:Int),lv]⟩:=(z _ g).trans G;by_cases k:i<N;have y:=jP k zO;have a0:=jct L N a i;have e:=jit L N a i;simp(disch:=try exact zD)[q,M,s1,ya,o,k];refine jN (vs:=[.ptr kG uG 0,.int .i64 (a:Int),.int .i64 (i:Int)]) zS rfl rfl (j6h (L:=L) (lo:=lo) (hi:=ub) (by simpa using o) (hE.frame (λu _ h=>by simpa using z _ (Off.new h)) zK) zO _ _ _ _ _) ?_;cases O:L.contains ((a:Int),(i:Int));rw[O,za zQ,aL]at e;simp(disch:=try exact zD)[q,y,k];rw[B];obtain⟨u,rfl,w,p,K⟩:=D;exact⟨zS,⟨.osl (2*u+1) u 0 (Xn L N a i).length 1,by simp[H],u,by rw[e],by rw[e];simpa using w,p,zL⟩,zL,λb g=>by simpa using z b g⟩;rw[O,zb rfl]at e;obtain⟨u,rfl,w,p,K⟩:=D;have nu:∀m,s.nx<=m->¬u=m:=λm hm=>by omega
 have b0:((Xn L N a i).flatMap yf).length=(Xn L N a i).length:=by rw[j1 j6,bz]
 simp(disch:=try exact zD)[q,H];refine jZ (cs:=[.int .i64 (i:Int)]) (by simp[j2]) rfl rfl ?_;simp;refine JJ (l:=2*u+1) (u:=u) (n:=(Xn L N a i).length) (cs:=(Xn L N a i).flatMap yf) (ys:=[.int .i64 (i:Int)]) zS (by simp[yp,ya]) ?_ zS (by simpa[sr] using p) zO zQ rfl zP zP ?_;simp(disch:=try exact zD)[yj,nu];exact w;rw[aH zO];simp(disch:=try exact zD)[q,y,k];rw[B];have F:(Xn L N a i).flatMap yf++[V.int .i64 (i:Int)]=(Xn L N a (i+1)).flatMap yf:=by rw[e];simp[yf]
 refine⟨zS,⟨.osl (2*(s.nx+832)+1) (s.nx+832) 0 (Xn L N a (i+1)).length 1,by simp[e,aA],s.nx+832,rfl,?_,zO,zL⟩,zL,λb g=>?_⟩;simp(disch:=try exact zD)[j9,yj,aA,F];have h5:=g.ne;have S:¬b=2*u+1:=g u p;have Z:∀m,s.nx<=m->¬b=2*m+1:=λm hm=>g m zO;simp(disch:=try exact zD)[j9,S,Z,JF S];exact z b g;have:i=N:=zO;subst this;obtain⟨u,rfl,w,p,K⟩:=D;simp(disch:=try exact zD)[q,M,H,ya,o];exact jxt (L:=2*u+1) (u:=u) (sz:=1) (λr h=>h) (by simp[T]) zS (by simpa using w) (by rw[j1 j6]) (by simpa[sr] using p) (by simp[yf,V.pureLeaf])
end
def rowE (L:List P2) (N a:Nat):List P2:=(Xn L N a N).map λb=>((a:Int),b)
def JT (L:List P2) (N a:Nat):List P2:=(List.range a).flatMap (rowE L N)
def jet (L:List P2) (N a:Nat):JT L N (a+1)=JT L N a++rowE L N a:=by unfold JT;rw[cV,bK];simp
def jp6 (L:List P2) (N:Nat):JT L N N=jo N λa b=>L.contains ((a:Int),(b:Int)):=by unfold JT jo rowE Xn yt;simp only[cM];rfl
def je8 (L:List P2) (N a:Nat):(rowE L N a).length=(Xn L N a N).length:=by simp[rowE]
def jg6 (L:List P2) (N:Nat):∀a,(JT L N a).length<=a*N
 |0=>by simp[JT]
 |a+1=>by have b:=jg6 L N a;have d:=jct L N a N;have c:=je8 L N a;rw[jet,ap,dh];omega
section
variable {ob:ZO}{lo kG uG N ub:Nat}{L:List P2}
def evo160 (hG:GrR kG uG lo N ob ub L) (i:Off ub kG) (hl:L.length<=100000) (hN:N<=100) (tk:Nat->Bool) (base:Nat):∃v,EvO E 160 [.ptr kG uG 0] ob tk base ub v/\SlR v false (JT L N N).length ((JT L N N).flatMap yT):=by
 have b6:=hG;obtain⟨lv,a0,hE⟩:=hG;refine jb3 rfl zQ ?_;conv in(occs:=*)S160=>all_goals cbv
 simp;refine jZ (cs:=[]) rfl rfl rfl ?_;simp;refine jQ λo c=>?_;have g0:o.tm 0=.ptr kG uG 0:=by rw[c];simp
 have g4:o.tm 4=.int .i64 0:=by rw[c];simp
 have g3:∃v,o.tm 3=v/\EdL o.ob ub o.nx v []:=by refine⟨_,rfl,ub+64,by rw[c];simp,by rw[c];simp,zO,?_⟩;rw[c];first|omega|(simp;done)|(simp;omega)
 have gd:o.df=[]:=by rw[c];simp
 have gr:o.ro=ub:=by rw[c];simp
 have gn:ub<=o.nx:=by rw[c];first|omega|(simp;done)|(simp;omega)
 have go:∀b,Off ub b->o.ob b=ob b:=λb i=>by have:=i.ne;rw[c];simp(disch:=try exact zD)[this]
 clear c;obtain⟨J,X⟩:∃J:Nat->St->Prop,J=λa s=>s.tm 4=.int .i64 a/\(∃v,s.tm 3=v/\EdL s.ob ub s.nx v (JT L N a))/\ub<=s.nx/\∀b,Off ub b->s.ob b=ob b:=⟨_,rfl⟩;refine j5 [(3,33)] N J rfl rfl (by rw[X];exact⟨by simpa using g4,g3,gn,go⟩) ?_;clear g3 g4 go gn;intro a s hi K f;rw[X]at K;obtain⟨P,⟨v,s3,sI⟩,sn,Q⟩:=K;have s0:=(f.t 0 zS).trans g0;have sd:=f.d.trans gd;have sr:=f.r.trans gr;clear f;have G:s.ob kG=some ⟨uG,.cells [.int .i64 (N:Int),lv]⟩:=(Q _ i).trans a0;by_cases D:a<N
 ·have T:=jP D zO;have b7:=jct L N a N;have b5:=jg6 L N a;have b9:a*N<=100*100:=ig zO hN;simp(disch:=try exact zD)[P,s0,ya,G,D];refine jy8 (vs:=[.ptr kG uG 0,.int .i64 (a:Int)]) zS rfl rfl (evo216 (L:=L) (lo:=lo) ⟨lv,by simpa using G,hE.frame (λu _ h=>by simpa using Q _ (Off.new h)) zL⟩ (i.up zL) hl zO a _ _) λw hw=>?_;refine Jv hw λt1 add=>?_;simp;refine jQ λp k=>?_;have p0:p.tm 0=.ptr kG uG 0:=by rw[k];simp[s0]
  have p3:p.tm 3=v:=by rw[k];simp[s3]
  have p4:p.tm 4=.int .i64 a:=by rw[k];simp[P]
  have p5:p.tm 5=.sl t1 false (Xn L N a N).length ((Xn L N a N).flatMap yf):=by rw[k];simp
  have p6:p.tm 6=.int .i64 0:=by rw[k];simp
  have pd:p.df=[]:=by rw[k];simp[sd]
  have pr:p.ro=ub:=by rw[k];simp[sr]
  have pn:s.nx<=p.nx:=by rw[k];first|omega|(simp;done)|(simp;omega)
  have po:p.ob=s.ob:=by rw[k];simp
  clear k;obtain⟨U,F⟩:∃U:Nat->St->Prop,U=λj q=>q.tm 6=.int .i64 j/\(∃v,q.tm 3=v/\EdL q.ob ub q.nx v (JT L N a++(rowE L N a).take j))/\ub<=q.nx/\∀b,Off ub b->q.ob b=ob b:=⟨_,rfl⟩;refine j5 [(3,3),(6,6),(19,33)] (Xn L N a N).length U rfl rfl ?_ ?_;rw[F];obtain⟨u,rfl,y,z,h4⟩:=sI;exact⟨by simpa using p6,⟨_,p3,u,zS,by rw[po];simpa using y,z,zO⟩,zO,λb i=>by rw[po];exact Q b i⟩;clear p6 p3;intro j q hj M f;rw[F]at M;obtain⟨q6,⟨v2,S,qI⟩,qn,qo⟩:=M;have q0:=(f.t 0 zS).trans p0;have q4:=(f.t 4 zS).trans p4;have q5:=(f.t 5 zS).trans p5;have qd:=f.d.trans pd;have qr:=f.r.trans pr;clear f;obtain⟨u,rfl,y,z,h4⟩:=qI;by_cases g:j<(Xn L N a N).length;have I:=jP g zO;have O:=JC j6 t1 false (Xn L N a N) .i64 g;have Z:=jj (Xn L N a N) g;have nu:∀m,q.nx<=m->¬u=m:=λm hm=>by omega
  have x:(rowE L N a).take (j+1)=(rowE L N a).take j++[((a:Int),(Xn L N a N)[j])]:=by rw[av (by rw[je8];exact g)];simp[rowE]
  have b0:(JT L N a++(rowE L N a).take j).flatMap yT++[V.int .i64 (a:Int),.int .i64 (Xn L N a N)[j]]=(JT L N a++(rowE L N a).take (j+1)).flatMap yT:=by rw[x,<- aY,bK (xs:=JT L N a++(rowE L N a).take j)];simp[yT]
  have H:(JT L N a++(rowE L N a).take (j+1)).length=(JT L N a++(rowE L N a).take j).length+1:=by rw[x,<- aY,ap (bs:=[_])];rfl
  have b8:(JT L N a++(rowE L N a).take j).length<=20000:=by rw[ap,ai,je8];omega
  have c0:((JT L N a++(rowE L N a).take j).flatMap yT).length=(JT L N a++(rowE L N a).take j).length*2:=j1 XC _;generalize hA:JT L N a++(rowE L N a).take j=A at *;generalize hB:JT L N a++(rowE L N a).take (j+1)=B at *;simp(disch:=try exact zD)[q6,q5,S,q4,g,O,Z,j2];refine jZ (cs:=[.int .i64 (a:Int),.int .i64 (Xn L N a N)[j]]) (by simp[j2]) rfl rfl ?_;simp;refine JJ (l:=2*u+1) (u:=u) (n:=A.length) (cs:=A.flatMap yT) (ys:=[.int .i64 (a:Int),.int .i64 (Xn L N a N)[j]]) zS (by simp[yp,ya]) ?_ zS (by simpa[qr] using z) zO zQ rfl zP zP ?_;simp(disch:=try exact zD)[yj,nu];exact y;rw[aH zO,b0];simp(disch:=try exact zD)[q6,I,g];rw[F];simp only[hB];refine⟨zS,⟨.osl (2*(q.nx+768)+1) (q.nx+768) 0 B.length 2,by simp[H,aA],q.nx+768,rfl,?_,zO,zL⟩,zL,λb i=>?_⟩;simp(disch:=try exact zD)[j9,yj,aA];have h6:¬b=2*u+1:=i u z;have h7:∀m,q.nx<=m->¬b=2*m+1:=λm hm=>i m zO;simp(disch:=try exact zD)[j9,h6,h7,JF h6];exact qo b i;have e:j=(Xn L N a N).length:=zO;subst e;rw[aH (by rw[je8];exact dH _),<- jet]at y S;simp(disch:=try exact zD)[q6,q5,q4,T,D];rw[X];exact⟨zS,⟨_,by simpa using S,u,rfl,by simpa using y,z,zL⟩,zL,λb i=>by simpa using qo b i⟩
 have:a=N:=zO;subst this;obtain⟨u,rfl,y,z,h4⟩:=sI;simp(disch:=try exact zD)[P,s0,s3,ya,G];exact jxt (L:=2*u+1) (u:=u) (sz:=2) (λr h=>h) (by simp[sd]) zS (by simpa using y) (by rw[j1 XC]) (by simpa[sr] using z) (j0j _)
end
def jnp (g:Hist') (lvl:Int) (M:List Int):Int:=if !jX g then 4 else if lvl<1\/2<lvl\/W7 g M=false then 2 else 0
section
variable {g:Hist'}{M:List Int}
def ev158 (g:Hist') (x:Int):Ev E 158 [.agg (yb g),.int .i64 x] (.int .i64 (Jf g x)):=by
 refine jS rfl ?_;unfold Jf;by_cases h:x<0
 ·conv in(occs:=*)F158=>all_goals cbv
  simp[yb,ya,h];exact j3 rfl zS rfl
 ·conv in(occs:=*)F158=>all_goals cbv
  simp[yb,ya,h];exact j3 rfl zS rfl
end
def W9 {st:St}{ub lo hi:Nat}{K:List FP->St->Prop}{d:Option Nat}{r:List AOpr}{v:V}{L:List P2}{p:P2}{s x:A}(f:ye E st.tm s=v) (m:EdV st.ob lo hi v L) (l:st.ro<=lo) (i:yp st.ob 2 (ye E st.tm x)=some (yT p)) (q:L.length<=1000000)
 (h:∀e:List Nat,(e=[]\/∃u,lo<=u/\u<hi/\e=[2*u+1])->YU E r K (ye E st.tm) (.append true 2 16 s x) st d ub { v:=.osl (2*ub+1) ub 0 (L.length+1) 2,obs:=[(2*ub+1,⟨ub,.cells ((L++[p]).flatMap yT)⟩)],kill:=e }):jE E (⟨d,.append true 2 16 s x,none,true⟩::r) st ub K:=by
 rw[jv rfl];have a:yT p≠[]:=by simp[yT]
 have b:(yT p).all V.leaf=true:=rfl;have k:=j1 XC L;rcases m with⟨rfl,rfl⟩|⟨u,rfl,n,o,j⟩;simp only[yU,f,i,ah,za a,dq,zd,Jd,Xu];rw[zb ⟨zQ,b,by simp[yT],by simp[yT]⟩];simp only[Jn,jG];have:=h [] (.inl rfl);simpa[yT] using this;have c:ya st.ob (2*u+1) u=some (L.flatMap yT):=by simp[ya,n]
 simp only[yU,f,i,c,ah,za a,Jd,Xu];rw[zb ⟨bS▸zO,trivial,trivial,zO,zQ,b,by simp[yT];omega,by simp[yT];omega⟩,jG];have:=h [2*u+1] (.inr ⟨u,o,j,rfl⟩);rw[show(L.flatMap yT).take (L.length*2)=L.flatMap yT from aH zO];simpa[yT,bK] using this
def mkS (g:Hist') (mv rv lv:V):List V:=yb g++[mv,rv,lv]
def MkR (g:Hist') (mv rv:V) (kX uX lo:Nat) (ob:ZO) (ub:Nat) (L:List P2):Prop:=∃lv,ob kX=some ⟨uX,.cells (mkS g mv rv lv)⟩/\EdV ob lo ub lv L
def MkR.keep {g:Hist'}{mv rv:V}{kX uX lo ub b:Nat}{ob ob':ZO}{L:List P2}(h:MkR g mv rv kX uX lo ob ub L) (c:∀a,Off ub a->ob' a=ob a) (f:Off ub kX) (e:ub<=b):MkR g mv rv kX uX lo ob' b L:=by obtain⟨j,i,d⟩:=h;exact⟨j,(c _ f).trans i,d.frame (λu _ h=>c _ (Off.new h)) e⟩
section
variable {g:Hist'}{mv rv:V}{kX uX lo:Nat}{ob:ZO}{ub:Nat}{L:List P2}
def j6j (a:∃b,ob kX=some ⟨uX,.cells (mkS g mv rv b)⟩) (x:Int) (tk:Nat->Bool) (base ub:Nat):EvO E 220 [.ptr kX uX 0,.int .i64 x] ob tk base ub (.int .i64 (Jf g x)):=by
 obtain⟨b,a⟩:=a;refine jq rfl ?_;unfold Jf;by_cases h:x<0
 ·conv in(occs:=*)S220=>all_goals cbv
  simp[ya,a,mkS,yb,h];exact j3 rfl zS rfl
 ·conv in(occs:=*)S220=>all_goals cbv
  simp[h];exact j3 rfl zS rfl
def EdV.at {ob:ZO}{lo hi:Nat}{v:V}{L:List P2}(h:EdV ob lo hi v L):∃b a,lo<=b/\(a<=hi\/a=lo)/\EdV ob b a v L/\∀u,b<=u->u<a->v=.osl (2*u+1) u 0 L.length 2:=by rcases h with⟨a,c⟩|⟨u,a,c,e,f⟩;exact⟨lo,lo,zK,.inr rfl,.inl ⟨a,c⟩,λu h d=>by omega⟩;exact⟨u,u+1,e,.inl zO,.inr ⟨u,a,c,zK,cW _⟩,λw h d=>by rw[a,show w=u by omega]⟩
def j5n (v:V) (L:List P2) (key:Nat):Prop:=∀u,v=.osl (2*u+1) u 0 L.length 2->key≠2*u+1
def EdV.off {ob:ZO}{lo hi:Nat}{v:V}{L:List P2}(h:EdV ob lo hi v L) {key:Nat}(b:Off lo key):j5n v L key:=by
 intro u a;rcases h with⟨rfl,_⟩|⟨w,rfl,_,c,_⟩;cases a;have:w=u:=by injection a
 exact b u zO
def jwp {Yf:YF}{tk:Nat->Bool}{ro base:Nat}{lv:V}(d:ob kX=some ⟨uX,.cells (mkS g mv rv lv)⟩) (B:EdV ob lo ub lv L) (k:Off lo kX) (x:lo<=ub) (D:ro<=lo) (z:ro<=uX) (N:L.length<=100000) (a b:Int) :
 ∃r,EvS E Yf.y 168 [.ptr kX uX 0,.int .i64 a,.int .i64 b] ob tk ro base ub r/\ub<=r.2.2.2/\(∃h,r.2.1 kX=some ⟨uX,.cells (mkS g mv rv h)⟩/\EdL r.2.1 ub r.2.2.2 h (L++[(Jf g a,Jf g b)]))/\∀c,Off ub c->c≠kX->j5n lv L c->r.2.1 c=ob c:=by
 have n:=(k.up x).ne;obtain⟨I,f,O,M,H,J⟩:=B.at;refine J6 rfl zQ ?_;show wpC E Yf S168.body _ (Jg S168.res _);conv in(occs:=*)S168=>all_goals cbv
 simp(disch:=try exact zD)[S168,ya,d,mkS,yb];refine jc0 (vs:=[.ptr kX uX 0,.int .i64 a]) zS rfl rfl (j6j (g:=g) (mv:=mv) (rv:=rv) ⟨lv,by simpa using d⟩ _ _ _ _) (JY rfl) ?_;simp;refine jc0 (vs:=[.ptr kX uX 0,.int .i64 b]) zS rfl rfl (j6j (g:=g) (mv:=mv) (rv:=rv) ⟨lv,by simpa using d⟩ _ _ _ _) (JY rfl) ?_;simp[j2];refine jz (cs:=[.int .i64 (Jf g a),.int .i64 (Jf g b)]) (by simp[j2]) rfl rfl ?_;simp;refine W9 (lo:=I) (hi:=f) (v:=lv) (L:=L) (p:=(Jf g a,Jf g b)) zS (H.frame (λu f j=>?_) zK) zP (by simp[yp,ya,yT]) zO λK q=>?_;have t:∀m,ub<=m->¬u=m:=λm l=>by omega
 simp(disch:=try exact zD)[yj,t];have i:∀c,j5n lv L c->K.any (Nat.beq c)=false:=λc k=>by rcases q with rfl|⟨u,f,j,rfl⟩;rfl;simp only[bp,bD,bm];exact JF (k u (J u f j))
 have o:=i _ (B.off k);generalize w:List.flatMap yT (L++[(Jf g a,Jf g b)])=cs9;simp(disch:=try exact zD)[ya,d,mkS,yb,o,j9,n,j2];have G:∀m,ub<=m->Nat.beq kX (2*m+1)=false:=λm l=>JG (n m l);have s:∀m,ub<=m->Nat.beq (2*m+1) kX=false:=λm l=>JG (dB (n m l));refine⟨z,by simp(disch:=try exact zD)[JQ,YW,Wk,QP,yz,yB,yR,uOf,Delta.wo,Delta.wt,G,s],?_⟩;refine jfj (.inl rfl) zS ⟨zL,⟨.osl (2*(ub+832)+1) (ub+832) 0 (L.length+1) 2,by simp[mkS,yb,aA],ub+832,zS,?_,zO,zL⟩,λc f j F=>?_⟩;simp(disch:=try exact zD)[j9,yj,aA,w];exact λe=>zf e.symm (n _ zO);have t:=f.ne;simp(disch:=try exact zD)[j9,j,t,i c F]
def sv168 {Yf:YF}{tk:Nat->Bool}{ro base:Nat}(p:MkR g mv rv kX uX lo ob ub L) (q:Off lo kX) (d:lo<=ub) (h:ro<=lo) (i:ro<=uX) (m:L.length<=100000) (a b:Int) :
 ∃r,EvS E Yf.y 168 [.ptr kX uX 0,.int .i64 a,.int .i64 b] ob tk ro base ub r/\ub<=r.2.2.2/\MkR g mv rv kX uX lo r.2.1 r.2.2.2 (L++[(Jf g a,Jf g b)])/\∀c,Off lo c->c≠kX->r.2.1 c=ob c:=by
 obtain⟨B,e,j⟩:=p;obtain⟨r,v,n,⟨f,o,u,t,x,z,w⟩,l⟩:=jwp (Yf:=Yf) (tk:=tk) (ro:=ro) (base:=base) e j q d h i m a b;exact⟨r,v,n,⟨f,o,.inr ⟨u,t,x,zO,w⟩⟩,λc k s=>l c (k.up d) s (j.off k)⟩
end
end Go.Pv.T
