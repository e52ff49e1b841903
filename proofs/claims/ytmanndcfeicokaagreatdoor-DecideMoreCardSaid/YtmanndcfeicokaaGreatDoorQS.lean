/- Part. -/
import Derived.Test.YtmanndcfeicokaaGreatDoorQR
set_option maxRecDepth 100000
set_option maxHeartbeats 8000000
set_option linter.all false
namespace Go.Pv.T
open Go Go.Pv
def revE (n:Nat) (L:List P2):List P2:=(L.filter λz=>decide (z.1<(n:Int))).map λz=>(z.2,z.1)
def juu (n:Nat) (L:List P2) (z:P2):revE n (L++[z])=revE n L++if z.1<(n:Int) then [(z.2,z.1)] else []:=by unfold revE;rw[cg,bw];congr 1;by_cases h:z.1<(n:Int)<;>simp[h]
def jo0 (n:Nat) (L:List P2):(revE n L).length<=L.length:=by unfold revE;rw[bp];exact bR _ _
def EdV.toA {ob:ZO}{lo hi hi':Nat}{v:V}{L:List P2}(h:EdV ob lo hi v L) (c:hi<=hi'):EdA hi' ob v L:=by rcases h with⟨rfl,rfl⟩|⟨u,b,a,e,d⟩;exact .inl ⟨none,true,rfl⟩;exact .inr ⟨2*u+1,u,b,a,Off.new zO⟩
structure PastO (kX uX:Nat) (R:List P2) (u1 u3 hi:Nat) (ob:ZO):Prop where
 a:ob (2*u1+1)=some ⟨u1,.cells [.ptr kX uX 0]⟩
 b:∃lv,ob (2*u3+1)=some ⟨u3,.cells [lv]⟩/\EdV ob (u3+1) hi lv R
 h:u1<u3/\u3<hi
def PastO.keep {kX uX c e hi hi':Nat}{R:List P2}{ob ob':ZO}(h:PastO kX uX R c e hi ob) (d:∀u,c<=u->u<hi->ob' (2*u+1)=ob (2*u+1)) (i:hi<=hi'):PastO kX uX R c e hi' ob':=by obtain⟨k,b1,b2⟩:=h.b;have f:=h.h;exact⟨(d c zK zO).trans h.a,⟨k,(d e zO f.2).trans b1,b2.frame (λu l j=>d u zO j) i⟩,f.1,zO⟩
section
variable {g:Hist'}{mv rv:V}{kX uX lo:Nat}{ob:ZO}{ub:Nat}{L:List P2}
def sv170 {Yf:YF}{tk:Nat->Bool}{ro base:Nat}(hX:MkR g mv rv kX uX lo ob ub L) (k:Off lo kX) (S:lo<=ub) (c1:ro<=lo) (hl:L.length<=10000) :
 ∃r,EvS E Yf.y 170 [.ptr kX uX 0] ob tk ro base ub r/\∃l j,r.1=.fn (.func 221) [] [.ptr (2*l+1) l 0,.ptr (2*j+1) j 0]/\ub<=l/\PastO kX uX (revE g.ts.length L) l j r.2.2.2 r.2.1/\∀c,Off ub c->r.2.1 c=ob c:=by
 obtain⟨lv,K,hE⟩:=hX;have hA:=hE.toA zK;have O:=hA.len;have oX:=(k.up S).ne;have B:¬ub=ub+64+64:=zO;refine J7 rfl zQ ?_;show wpC E Yf S170.body _ (Jd S170.res _);conv in(occs:=*)S170=>all_goals cbv
 simp(disch:=try exact zD)[S170,j0,K,mkS,ya,oX,V.cells,V.leaf,O,yi,B];refine jf λq e=>?_;obtain⟨l,j,a1,a2,a3,g1,g3,gA,gB⟩:∃l j,ub<=l/\l<j/\j<q.nx/\q.tm 1=.ptr (2*l+1) l 0/\q.tm 3=.ptr (2*j+1) j 0/\q.ob (2*l+1)=some ⟨l,.cells [.ptr kX uX 0]⟩/\q.ob (2*j+1)=some ⟨j,.cells [.sl none true 0 []]⟩ :=
  ⟨ub,ub+128,zO,zO,by rw[e];first|omega|(simp;done)|(simp;omega),by rw[e];simp,by rw[e];simp[aG],by rw[e];simp[yi,B],by rw[e];simp[aG]⟩
 have g9:q.tm 9=lv:=by rw[e];simp
 have b9:q.tm 10=.int .i64 L.length:=by rw[e];simp
 have N:q.tm 11=.int .i64 0:=by rw[e];simp
 have gd:q.df=[]:=by rw[e];simp
 have gr:q.ro=ro:=by rw[e];simp
 have go:∀c,Off ub c->q.ob c=ob c:=λc k=>by have:=k.ne;rw[e];simp(disch:=try exact zD)[this]
 clear e;obtain⟨J,hJ⟩:∃J:Nat->St->Prop,J=λi s=>s.tm 11=.int .i64 i/\PastO kX uX (revE g.ts.length (L.take i)) l j s.nx s.ob/\∀c,Off ub c->s.ob c=ob c:=⟨_,rfl⟩;refine j7 [(5,5),(11,32)] L.length J rfl rfl ?_ ?_;rw[hJ];exact⟨by simpa using N,⟨gA,⟨_,gB,.inl ⟨rfl,by simp[revE]⟩⟩,a2,a3⟩,go⟩;clear N gA gB go a3;intro i s hi Z f;rw[hJ]at Z;obtain⟨w,I,M⟩:=Z;have s1:=(f.t 1 zS).trans g1;have s3:=(f.t 3 zS).trans g3;have s9:=(f.t 9 zS).trans g9;have Q:=(f.t 10 zS).trans b9;have sd:=f.d.trans gd;have sr:=f.r.trans gr;clear f;have hh:=I.h;by_cases o:i<L.length;have P:=jc o zO;obtain⟨p,a0,G⟩:=hA.at o;have n:=juu g.ts.length (L.take i) L[i];rw[<- aw o]at n;have U:s.ob kX=_:=(M kX (k.up S)).trans K;have X:=(k.up (show lo<=s.nx by omega)).ne;have H:=I.a;obtain⟨lw,T,b5⟩:=I.b;have n1:∀m,s.nx<=m->¬l=m:=λm hm=>by omega
 have n3:∀m,s.nx<=m->¬j=m:=λm hm=>by omega
 generalize L[i]=z at G n;obtain⟨x,y⟩:=z;simp only at G n;simp(disch:=try exact zD)[w,Q,s9,o,a0];rw[G _ λc k=>by simpa using M c k];have b8:=jo0 g.ts.length (L.take i);rw[ai]at b8;by_cases hc:x<(g.ts.length:Int);rw[zb hc]at n;simp(disch:=try exact zD)[s1,s3,j0,j2,yi,n1,n3,H,T,U,mkS,ya,X,yj,hc];refine⟨zO,?_⟩;refine JB (cs:=[.int .i64 y,.int .i64 x]) (by simp[j2]) rfl rfl ?_;simp;refine jnn (lo:=j+1) (hi:=s.nx) (v:=lw) (L:=revE g.ts.length (L.take i)) (p:=(y,x)) zS (b5.frame (λu h1 h2=>?_) zK) (by simp[sr];omega) (by simp[jE,j0,yQ]) zO λkl b7=>?_;have:∀m,s.nx<=m->¬u=m:=λm hm=>by omega
 simp(disch:=try exact zD)[yi,this];have D:∀c,Off (j+1) c->kl.any (Nat.beq c)=false:=λc k=>by rcases b7 with rfl|⟨u,h1,_,rfl,_⟩;rfl;simp only[bG,bP,bx];exact X2 (k u h1)
 have k3:=D (2*j+1) (Off.new zO);have k1:=D (2*l+1) (Off.new zO);have b0:¬l=j:=zO;rw[<- n];have F:(revE g.ts.length (L.take (i+1))).length=(revE g.ts.length (L.take i)).length+1:=by rw[n];simp
 generalize c0:revE g.ts.length (L.take (i+1))=R1 at *;simp(disch:=try exact zD)[s3,j0,j2,yi,n3,T,jG,k3,V.cells,V.leaf];refine⟨zO,?_⟩;simp(disch:=try exact zD)[w,P,o];rw[hJ];simp only[c0];have b6:∀m,s.nx<=m->¬m=j:=λm hm=>by omega
 refine⟨zS,⟨?_,⟨.osl (2*(s.nx+1344)+1) (s.nx+1344) 0 R1.length 2,?_,.inr ⟨s.nx+1344,rfl,?_,zO,zL⟩⟩,a2,zL⟩,λc k=>?_⟩;simp(disch:=try exact zD)[jG,yi,n1,b0,k1,H];simp(disch:=try exact zD)[aG,F];simp(disch:=try exact zD)[jG,yi,aG,b6];have h1:=D c (k.up zO);have h2:=(k.up (show ub<=s.nx by omega)).ne;have h3:¬c=2*j+1:=k j zO;simp(disch:=try exact zD)[jG,h1,h2,h3];exact M c k;rw[za hc,aU]at n;simp(disch:=try exact zD)[s1,j0,j2,yi,n1,H,U,mkS,ya,X,yj,hc];refine⟨zO,?_⟩;simp(disch:=try exact zD)[w,P,o];rw[hJ];have h2:∀c,Off ub c->∀m,s.nx<=m->¬c=2*m+1:=λc k=>(k.up (show ub<=s.nx by omega)).ne;refine⟨zS,?_,λc k=>?_⟩;rw[n];refine I.keep (λu h3 h4=>?_) zL;have:∀m,s.nx<=m->¬u=m:=λm hm=>by omega
 simp(disch:=try exact zD)[yi,this];have h3:=h2 c k;simp(disch:=try exact zD)[h3];exact M c k;have:i=L.length:=zO;subst this;rw[bf]at I;simp(disch:=try exact zD)[w,Q,s1,s3];exact JQ (by simp[sd]) ⟨l,j,zS,a1,I.keep (λu _ _=>by simp) zL,λc k=>by simpa using M c k⟩
end
def j00 {Yf:YF}{f:FuncId}{xs:List A}{st:St}{ub:Nat}{K:St->Nat->Prop}{d:Option Nat}{nm:Bool}{vs:List V}{P:V->Prop}(b:xs.map (yc E st.tm)=vs) (a:E.sh nm f=false) (hp:(vs.all λv=>v.strip.pureTop)=false)
 (h:∃v,EvO E f vs st.ob st.tk ((st.fb+d.getD 0+1)*1024) ub v/\P v) (c:∀v,P v->wpD (Xd ub v) (Q6 K st d ub)):j5 E Yf ⟨d,.call f xs,none,nm⟩ st ub K:=by
 obtain⟨v,e,i⟩:=h;exact jP b a hp e (c v i)
def jp2 {Yf:YF}{f:FuncId}{q:A}{xs:List A}{st:St}{ub:Nat}{K:St->Nat->Prop}{d:Option Nat}{nm:Bool}{first captured vs:List V}{P:V->Prop}(e:yc E st.tm q=.fn (.func f) first captured) (a:first++xs.map (yc E st.tm)++captured=vs) (b:E.sh nm f=false)
 (hp:(vs.all λv=>v.strip.pureTop)=false) (h:∃v,EvO E f vs st.ob st.tk ((st.fb+d.getD 0+1)*1024) ub v/\P v) (c:∀v,P v->wpD (Xd ub v) (Q6 K st d ub)):j5 E Yf ⟨d,.callV q xs,none,nm⟩ st ub K:=by
 obtain⟨v,i,j⟩:=h;exact WH e b (by rw[a];exact hp) (by rw[a];exact i) (c v j)
def j8d (n:Nat) (R:List P2) (t:Nat) (v:V):Prop:=∃w,(w<2^n/\∀a,a<n->w.testBit a=war (edB R) n t a)/\jyp (yp (ym w)) v
def ev222n {n:Nat}(H:0<n) (B:n<=9) {t:Nat}(F:t<n) :
 ∃q,Ev E 222 [.int .i64 (n:Int),.int .i64 (t:Int),.sl none true 0 []] q/\∃w,(w<2^n/\∀a,a<n->w.testBit a=war (edB []) n t a)/\FromR w q:=by
 have hp:(2:Nat)^n<=512:=cj zQ B;have D:¬(t:Int)<0:=zO;have m:¬(n:Int)<=t:=zO;have d:¬(n<=t):=zO;refine XI rfl zQ ?_;conv in(occs:=*)F222=>all_goals cbv
 simp(disch:=try exact zD)[F222];refine jK (vs:=[.int .i64 n,.sl none true 0 []]) zS rfl (j4l (L:=[]) ?_ H B (.inl ⟨none,true,rfl⟩) (λz c=>by cases c) zS) ?_;simp;rintro v1 U K b0 ⟨G,ut,uf,ue,tu,fu,T,rfl,J,p,b5,hT,Q,v⟩;simp only at J Q v;simp(disch:=try exact zD)[D,m,d];refine jK (vs:=[.ptr (2*G+1) G 0]) zS rfl (j9f (n:=n) (r:=edB []) (J.keep (λx _ _=>?_) ?_) ?_ p H B (λb _=>⟨(Yb (n:=n) (L:=[]) (λz c=>by cases c) b).1,λa _=>(Yb (n:=n) (L:=[]) (λz c=>by cases c) b).2 a⟩)) ?_;simp
 ·first|omega|(simp;done)|(simp;omega)
 ·first|omega|(simp;done)|(simp;omega)
 rintro v2 M O P ⟨I,j,W,rfl,a0,e,N⟩;simp only at e;have f:=e.o;rw[eH,aU]at f;have S:=e.r;have x1:=jnu (l:=2*I+1) (u:=I) (kk:=.i64) F;have x2:=jiq (l:=j) (i:=t) zO;have X:=e.s t zO;have ls:=e.rs _ (av (show t<j.length by omega));have ws:=N t F;simp(disch:=try exact zD)[x1,x2,j0,f];obtain⟨y,k⟩:=numR_intsV (yp (ym (W t)));refine jP (vs:=[.ptr (2*j[t]+1) j[t] 0]) zS rfl rfl (jh0 (w:=W t) (by simpa using X) (Off.new zL) zO _ _) ?_;refine YE k λZ add=>?_;simp;refine jmj (ns:=[6,7]) (ls:=[.sl none y (yp (ym (W t))).length ((yp (ym (W t))).flatMap ye),.int .i64 0]) (λr h=>⟨W t,ws,y,h⟩) zS rfl zS zS ?_;simp;exact⟨Xx rfl (XJ _ Z y _ _),jT rfl,trivial⟩
section
variable {g:Hist'}{mv rv:V}{kX uX:Nat}{ob:ZO}{ub u1 u3 hi:Nat}{R:List P2}
def evo221 (p:PastO kX uX R u1 u3 hi ob) (J:hi<=ub) (j:∃z,ob kX=some ⟨uX,.cells (mkS g mv rv z)⟩) (D:Off ub kX) (u:0<g.ts.length) (P:g.ts.length<=8) (M:InG g.ts.length R) (I:R.length<=10000) {t:Nat}(y:t<g.ts.length) (tk:Nat->Bool) (base:Nat) :
 ∃v,EvO E 221 [.int .i64 (t:Int),.ptr (2*u1+1) u1 0,.ptr (2*u3+1) u3 0] ob tk base ub v/\j8d g.ts.length R t v:=by
 obtain⟨z,j⟩:=j;have N:=D.ne;have s:=p.a;obtain⟨O,o,c⟩:=p.b;have Q:=p.h;have L:∀m,ub<=m->¬u1=m:=λm K=>by omega
 have B:∀m,ub<=m->¬u3=m:=λm K=>by omega
 refine jgb rfl zQ ?_;conv in(occs:=*)S221=>all_goals cbv
 simp(disch:=try exact zD)[S221,j0,s,o,j,N,mkS,ya,yj,yi,L,B];have f:∀q w e add d,(w<2^g.ts.length/\∀a,a<g.ts.length->w.testBit a=war (edB R) g.ts.length t a)->d.df=[]->d.tm 4=.sl e q (yp (ym w)).length ((yp (ym w)).flatMap ye)->add=add->Q5 [.t 4] (j8d g.ts.length R t) .ret d:=λq w e _ d i hd h4 (_:()=())=>
  slE (t:=e) (nl:=q) (k:=(yp (ym w)).length) (cs:=(yp (ym w)).flatMap ye) (λr h=>⟨w,i,q,h⟩) hd h4
 rcases c with⟨rfl,rfl⟩|c;obtain⟨q,n,w,i,nl,l⟩:=ev222n u zO y;refine jQ n zS rfl zS ?_;refine juv l λe add=>?_
 simp;exact f nl w e () _ i zS zS rfl
 ·have G:=EdV.toA (.inr c) J;obtain⟨x,rfl,_⟩:=c;refine j00 (vs:=[.int .i64 g.ts.length,.int .i64 t,.osl (2*x+1) x 0 R.length 2]) zS rfl rfl (evo222 u zO (G.up (λH _=>by simp) ?_) M I y _ _) λq F=>?_
  ·first|omega|(simp;done)|(simp;omega)
  obtain⟨w,i,nl,l⟩:=F;refine juv l λe add=>?_;simp;exact f nl w e () _ i zS zS rfl
end
section
variable {g:Hist'}{M:List Int}{mn:Bool}{rt:Option (Nat × Nat)}{rn:Bool}{kX uX:Nat}{ob:ZO}{ub u1 u2 u3 u5 hi:Nat}{R:List P2}
def evo171 (I:PastO kX uX R u1 u3 hi ob) (D:hi<=ub) (s:ob (2*u5+1)=some ⟨u5,.cells [.fn (.func 221) [] [.ptr (2*u1+1) u1 0,.ptr (2*u3+1) u3 0]]⟩) (p:ob (2*u2+1)=some ⟨u2,.cells [.ptr kX uX 0]⟩) (L:u5<ub) (N:u2<ub)
 (q:∃n,ob kX=some ⟨uX,.cells (mkS g (yj mn ye M) (rdV rt rn (yh g)) n)⟩) (o:Off ub kX) (z:g.ts.length<=8) (J:InG g.ts.length R) (B:R.length<=10000) {i:Nat}(hi:i<(yh g).length) (tk:Nat->Bool) (base:Nat) :
 ∃v,EvO E 171 [.int .i64 (i:Int),.ptr (2*u5+1) u5 0,.ptr (2*u2+1) u2 0] ob tk base ub v/\j8d g.ts.length R ((yh g).getD i (0,0)).1.toNat v:=by
 obtain⟨n,c⟩:=id q;have O:=o.ne;have K:∀m,ub<=m->¬u5=m:=λm G=>by omega
 have P:∀m,ub<=m->¬u2=m:=λm G=>by omega
 have d:=XA jq rt rn (yh g) .i64 hi;obtain⟨a,l,_,j⟩:=jg5 hi;have b:((yh g).flatMap jD)[i*2]? = some (.int .i64 (a:Int)):=by
  have:=jk jq (yh g) hi (by decide:0<2);rw[br]at this;rw[this];have e:(yh g).getD i (0,0)=(yh g)[i]:=by simp[aC,aa hi]
  rw[e]at l;simp[jD,l]
 rw[l,bh];refine jgb rfl zQ ?_;conv in(occs:=*)S171=>all_goals cbv
 simp(disch:=try exact zD)[S171,j0,s,p,c,mkS,ya,yj,rdV,d,b];refine jp2 (f:=221) (first:=[]) (captured:=[.ptr (2*u1+1) u1 0,.ptr (2*u3+1) u3 0]) (vs:=[.int .i64 a,.ptr (2*u1+1) u1 0,.ptr (2*u3+1) u3 0]) zS zS rfl rfl (evo221 (mv:=yj mn ye M) (rv:=rdV rt rn (yh g)) (I.keep (λu _ _=>by simp) D) ?_ ?_ (o.up ?_) zO z J B j _ _) λv H=>?_
 ·first|omega|(simp;done)|(simp;omega)
 exact⟨n,by simpa using c⟩
 ·first|omega|(simp;done)|(simp;omega)
 obtain⟨w,x,nl,F⟩:=H;refine YE F λy add=>?_;simp;exact slE (t:=y) (nl:=nl) (k:=(yp (ym w)).length) (cs:=(yp (ym w)).flatMap ye) (λr h=>⟨w,x,nl,h⟩) zS zS
def rcQ (g:Hist') (M:List Int) (i k:Nat):Bool:=((yh g).getD k (0,0)).1==((yh g).getD i (0,0)).1&&(decide (((yh g).getD k (0,0)).2<((yh g).getD i (0,0)).2)&&decide (0<=M.getD k 0))
def rcS (g:Hist') (M:List Int) (i n:Nat):List Int:=((List.range n).filter (rcQ g M i)).map λk=>M.getD k 0
def jzv (g:Hist') (M:List Int) (i n:Nat):rcS g M i (n+1)=rcS g M i n++if rcQ g M i n then [M.getD n 0] else []:=by unfold rcS;rw[du,cg,bw];congr 1;cases h:rcQ g M i n<;>simp[h]
def ju2 (g:Hist') (M:List Int) (i n:Nat):(rcS g M i n).length<=n:=by unfold rcS;rw[bp];exact bH (bR _ _) zS
def evo172 (hm:WR g M=true) (h2:ob (2*u2+1)=some ⟨u2,.cells [.ptr kX uX 0]⟩) (l2:u2<ub) (hX:∃lv,ob kX=some ⟨uX,.cells (mkS g (yj mn ye M) (rdV rt rn (yh g)) lv)⟩) (o:Off ub kX) (hR:(yh g).length<=1000) {i:Nat}(hi:i<(yh g).length) (tk:Nat->Bool) (base:Nat) :
 EvO E 172 [.int .i64 (i:Int),.ptr (2*u2+1) u2 0] ob tk base ub (jjc (rcS g M i (yh g).length)):=by
 obtain⟨lv,hX⟩:=hX;have c9:=Xm hm;have oX:=o.ne;have n2:∀m,ub<=m->¬u2=m:=λm hm=>by omega
 have Z:∀{k:Nat}(h:k<(yh g).length),((yh g).flatMap jD)[k*2]? = some (.int .i64 ((yh g).getD k (0,0)).1)/\((yh g).flatMap jD)[k*2+1]? = some (.int .i64 ((yh g).getD k (0,0)).2):=fun {k} h=>by
  have e:(yh g).getD k (0,0)=(yh g)[k]:=by simp[aC,aa h]
  have a1:=jk jq (yh g) h (by decide:0<2);have a2:=jk jq (yh g) h (by decide:1<2);rw[br]at a1;rw[a1,a2,e];exact⟨rfl,rfl⟩
 have B:=XA jq rt rn (yh g) .i64 hi;obtain⟨S,f2⟩:=Z hi;refine jo rfl ?_;conv in(occs:=*)S172=>all_goals cbv
 simp(disch:=try exact zD)[S172,j0,h2,hX,mkS,ya,yj,rdV];refine jf λy c=>?_;have g0:y.tm 0=.int .i64 i:=by rw[c];simp
 have g1:y.tm 1=.ptr (2*u2+1) u2 0:=by rw[c];simp
 have g4:y.tm 4=.sl none true 0 []:=by rw[c];simp
 have c6:y.tm 10=rdV rt rn (yh g):=by rw[c];simp[rdV]
 have b7:y.tm 11=.int .i64 (yh g).length:=by rw[c];simp
 have b5:y.tm 12=.int .i64 0:=by rw[c];simp
 have gd:y.df=[]:=by rw[c];simp
 have gr:y.ro=ub:=by rw[c];simp
 have gn:ub<=y.nx:=by rw[c];first|omega|(simp;done)|(simp;omega)
 have go:∀a,Off ub a->y.ob a=ob a:=λa o=>by rw[c];simp
 clear c;obtain⟨P,N⟩:∃P:Nat->Nat->Prop,P=λhi u=>ub<=u/\u<hi:=⟨_,rfl⟩;obtain⟨J,hJ⟩:∃J:Nat->St->Prop,J=λk s=>s.tm 12=.int .i64 k/\IntsO s.ob (P s.nx) (rcS g M i k) (s.tm 4)/\ub<=s.nx/\∀a,Off ub a->s.ob a=ob a:=⟨_,rfl⟩;refine j7 [(4,6),(12,61)] (yh g).length J rfl rfl (by rw[hJ];exact⟨by simpa using b5,.inl ⟨by simp[rcS],g4⟩,gn,go⟩) ?_;clear b5 g4 gn go;intro k s c7 a0 f;rw[hJ]at a0;obtain⟨w,sI,sn,so⟩:=a0;have s0:=(f.t 0 zS).trans g0;have s1:=(f.t 1 zS).trans g1;have b9:=(f.t 10 zS).trans c6;have U:=(f.t 11 zS).trans b7;have sd:=f.d.trans gd;have sr:=f.r.trans gr;clear f;by_cases j:k<(yh g).length;have D:=jc j zO;have L:k<M.length:=zO;have b8:=XA jq rt rn (yh g) .i64 j;obtain⟨k1,k2⟩:=Z j;have b6:=λob=>Qj (yh g) ob j;have T:=XA jA none mn M .i64 L;have b0:=JL M L;have b:=jzv g M i k;have c8:=ju2 g M i k;have F:s.ob (2*u2+1)=_:=(so _ (Off.new l2)).trans h2;have I:s.ob kX=_:=(so _ o).trans hX;have H:=(o.up sn).ne;have G:∀m,s.nx<=m->¬u2=m:=λm hm=>by omega
 have c5:M.getD k 0=M[k]:=by simp[aC,aa L]
 have c0:(yh g).getD k (0,0)=(yh g)[k]:=by simp[aC,aa j]
 unfold rcQ at b;rw[c5,c0]at b;generalize (yh g).getD i (0,0)=p at *;generalize (yh g)[k]=q at *;obtain⟨pa,pb⟩:=p;obtain⟨qa,qb⟩:=q;simp only at b6 b S f2;simp(disch:=try exact zD)[w,U,b9,s1,j,b8,b6,rdV,j0,j2,yi];refine⟨zO,?_⟩;have skip:rcS g M i (k+1)=rcS g M i k->∀Q:St,Q.tm 12=.int .i64 ((k:Int)+1)->Q.tm 4=s.tm 4->s.nx<=Q.nx->(∀a,Off s.nx a->Q.ob a=s.ob a)->J (k+1) Q:=λe Q h1 h2 h3 h4=>by rw[hJ];refine⟨by simpa using h1,?_,zO,λa o=>(h4 a (o.up sn)).trans (so a o)⟩;rw[e,h2];exact sI.frame (λu n=>by rw[N]at n;exact h4 _ (Off.new n.2)) λu n=>by rw[N]at n ⊢;exact⟨n.1,by have:=n.2;omega⟩
 cases K:(qa==pa);rw[K,bZ,za zQ,aU]at b;simp(disch:=try exact zD)[w,s0,j0,F,I,mkS,ya,H,G,rdV,yj,B,S,K,D,j];exact skip b _ zS zS zL λa o=>by simp(disch:=try exact zD)[o.ne]
 by_cases O:qb<pb;by_cases c3:0<=M[k];rw[K,zi O,zi c3,cp,cp,zb rfl]at b;simp(disch:=try exact zD)[s1,s0,j0,yi,F,I,mkS,ya,H,G,rdV,yj,B,S,f2,K,O,c3,T,b0];refine JB (cs:=[.int .i64 M[k]]) (by simp[j2]) rfl rfl ?_;simp;refine Qn (p:=P s.nx) (l:=rcS g M i k) (z:=M[k]) (v:=s.tm 4) (X:=2*(s.nx+3136)+1) (uX:=s.nx+3136) zS (sI.frame (λu n=>?_) λ_ h=>h) (by simp[aG]) (by simp[aG]) (λu n=>by rw[N]at n;simp[sr];exact n.1) zO λkl c4=>?_;rw[N]at n;have:∀m,s.nx<=m->¬u=m:=λm hm=>by omega
 simp(disch:=try exact zD)[yi,this];simp(disch:=try exact zD)[w,D,j];rw[hJ];refine⟨zS,.inr ⟨by rw[b];simp,s.nx+3200,by rw[b];simp[aG],by rw[b];simp[aG,jf6],?_⟩,zL,λa o=>?_⟩;rw[N];simp;omega;have h3:=(o.up sn).ne;have h4:kl.any (Nat.beq a)=false:=by rw[gh];intro x hx hb;obtain⟨u,n,rfl⟩:=c4 x hx;rw[N]at n;exact o u n.1 (bk hb)
 simp(disch:=try exact zD)[jf6,h3,h4];exact so a o;rw[K,zi O,decide_eq_false c3,cp,cp,za zQ,aU]at b;simp(disch:=try exact zD)[w,s1,s0,j0,yi,F,I,mkS,ya,H,G,rdV,yj,B,S,f2,K,O,c3,T,b0,D,j];exact skip b _ zS zS zL λa o=>by simp(disch:=try exact zD)[o.ne]
 rw[K,decide_eq_false O,bZ,dF,za zQ,aU]at b;simp(disch:=try exact zD)[w,s1,s0,j0,yi,F,I,mkS,ya,H,G,rdV,yj,B,S,f2,K,O,D,j];exact skip b _ zS zS zL λa o=>by simp(disch:=try exact zD)[o.ne]
 have:k=(yh g).length:=zO;subst this;simp(disch:=try exact zD)[w,U];exact WJ (by simp[sd]) zS (sI.frame (λu n=>by simp) λu n=>n) (λu n=>by rw[N]at n;simp[sr];exact n.1)
end
section
variable {g:Hist'}{M:List Int}{lvl:Int}
def askL (g:Hist') (M:List Int) (S:Nat->List Int) (n:Nat):List P2:=(List.range n).flatMap λi=>askE g M (S i) i
def jdc {S a:List Int}(h:∀x,x∈S ↔ x∈a) (i:Nat) (z:P2):z∈askE g M S i ↔ z∈askE g M a i:=by unfold askE;simp only[aI,bA,h]
def j93 {S:Nat->List Int}(b:∀i,i<(yh g).length->∀x,x∈S i ↔ x∈jab g lvl M i):jyh g lvl M (yD g (yl g).length++srcL g M (yh g).length++askL g M S (yh g).length):=by intro z;simp only[aP,yD,srcL,askL,ct,aI,aX];constructor;rintro((⟨i,a,h⟩|⟨i,a,rfl⟩)|⟨i,a,h⟩);exact .inl ⟨i,a,h⟩;exact .inr ⟨i,a,.inl rfl⟩;exact .inr ⟨i,a,.inr ((jdc (b i a) i z).1 h)⟩;rintro(⟨i,a,h⟩|⟨i,a,h|h⟩);exact .inl (.inl ⟨i,a,h⟩);exact .inl (.inr ⟨i,a,h.symm⟩);exact .inr ⟨i,a,(jdc (b i a) i z).2 h⟩
def jeu (g:Hist') (M:List Int) (i:Nat):jab g 0 M i=[]:=by unfold jab jul;rw[List.eq_nil_iff_forall_not_mem];intro x a;obtain⟨k,_,_,h⟩:=filTo_mem.1 a;simp[jrg]at h
def jin (g:Hist') (M:List Int):jyh g 0 M (yD g (yl g).length++srcL g M (yh g).length):=by
 have:=j93 (g:=g) (M:=M) (lvl:=0) (S:=λ_=>[]) λi _ x=>by rw[jeu]
 have e:askL g M (λ_=>[]) (yh g).length=[]:=by simp[askL,askE]
 rwa [e,aU]at this
def ju8 (r:WR g M=true) {x y:Nat}(H:x<g.ts.length) (G:y<g.ts.length):(yD g (yl g).length++srcL g M (yh g).length).contains ((x:Int),(y:Int))=j4o g M x y:=by
 have B:=jin g M;have D:((x:Int),(y:Int))∈(yD g (yl g).length++srcL g M (yh g).length) ↔ jgc g 0 M x y=true:=by rw[<- (XP _).mem_iff,<- compP_mem,jbn r B,edgesOf_mem];constructor;rintro⟨a,b,_,_,h,e⟩;have f:(x:Int)=a:=zg Prod.fst e;have l:(y:Int)=b:=zg Prod.snd e;rw[show x=a by omega,show y=b by omega];exact h;exact λh=>⟨x,y,zO,zO,h,rfl⟩
 rw[bu,co,D];have m:(x==g.ts.length)=false:=by simp;omega
 unfold jgc j4o;rw[m,bZ,cw,bD];constructor;rintro(h|h);simp only[aj]at h ⊢;exact⟨⟨h.1.1.1,h.1.1.2⟩,by simp[h.1.2,h.2]⟩;obtain⟨i,d,h⟩:=bU.1 h;have d:=aX.1 d;rw[jeu,show askE g M [] i=[] from rfl]at h;simp only[List.contains_nil,bx,zh]at h;obtain⟨b,q,n,_⟩:=jg5 d;have f:Jt g (M.getD i 0)=(x:Int):=zg Prod.fst h;have l:((yh g).getD i (0,0)).1=(y:Int):=zg Prod.snd h;have w:=Xm r;have s:y=b:=by rw[q]at l;omega
 rcases jwc r d with c|⟨a,v,o,_⟩;unfold Jt at f;rw[zb c]at f;omega;have p:x=a:=by unfold Jt at f;rw[za zO]at f;omega
 rw[p,s,o,n,dc,cp,bD];refine .inr (bU.2 ⟨((yh g)[i],M[i]),?_,?_⟩);rw[de];exact⟨i,by simp;omega,zS⟩;have t:M.getD i 0=M[i]:=by simp[aC,aa (show i<M.length by omega)]
 have u:(yh g).getD i (0,0)=(yh g)[i]:=by simp[aC,aa d]
 rw[t]at v;rw[u]at q;simp[v,q];intro h;simp only[aj,bD]at h;obtain⟨⟨f,l⟩,c⟩:=h;rcases c with c|c;left;simp only[aj];exact⟨⟨⟨f,l⟩,c.1⟩,c.2⟩;right;obtain⟨z,F,k⟩:=bU.1 c;obtain⟨i,d,e⟩:=bo F;simp only[List.length_zip]at d;have j:i<(yh g).length:=zO;rw[List.getElem_zip]at e;simp only[aj,zh]at k;rw[<- e]at k;simp only at k;refine bU.2 ⟨i,aX.2 j,?_⟩;rw[bD];left;have t:M.getD i 0=M[i]:=by simp[aC,aa (show i<M.length by omega)]
 have u:(yh g).getD i (0,0)=(yh g)[i]:=by simp[aC,aa j]
 unfold j20 Jt;rw[t,u,k.1,k.2,za zO];simp
def jbe {n:Nat}{r c:Nat->Nat->Bool}(h:∀x y,x<n->y<n->r x y=c x y):∀K,K<=n->∀b a,b<n->a<n->war r K b a=war c K b a
 |0,_,b,a,hb,ha=>h a b ha hb
 |K+1,hK,b,a,hb,ha=>by rw[war,war,jbe h K zO b a hb ha,jbe h K zO b K hb zO,jbe h K zO K a zO ha]
def j7o {n:Nat}{L:List P2}{x y:Nat}(i:x<n):edB (revE n L) x y=L.contains ((x:Int),(y:Int)):=by rw[bu];unfold edB revE;simp only[co,aI,bA,ze];constructor;rintro⟨⟨a,b⟩,⟨d,_⟩,e⟩;have c:b=(y:Int):=zg Prod.fst e;have f:a=(x:Int):=zg Prod.snd e;rw[<- c,<- f];exact d;exact λh=>⟨_,⟨h,by simp only;omega⟩,rfl⟩
def jrq (o:WR g M=true) (p:g.ts.length<=8) {i w:Nat}(hi:i<(yh g).length) (f:w<2^g.ts.length/\∀a,a<g.ts.length->w.testBit a=war (edB (revE g.ts.length (yD g (yl g).length++srcL g M (yh g).length))) g.ts.length ((yh g).getD i (0,0)).1.toNat a) (x:Int) :
 x∈yp (ym w) ↔ x∈jab g 2 M i:=by
 obtain⟨b,k,_,l⟩:=jg5 hi;rw[k,bh]at f;have c:∀a,a<g.ts.length->w.testBit a=farB g M b a:=λa d=>by rw[f.2 a d];exact jbe (λx y m n=>by rw[j7o m];exact ju8 o m n) _ zK b a l d
 unfold jab jul yp;rw[filTo_mem,aI];constructor;rintro⟨a,d,rfl⟩;obtain⟨_,j⟩:=bitsUp_mem.1 d;have e:a<g.ts.length:=by rcases cD a g.ts.length with h|h;exact h;rw[dH (aS f.1 (cj zQ h))]at j;cases j
 refine⟨a,e,rfl,?_⟩;unfold jrg;rw[za zQ,zb rfl,k,bh,<- c a e];exact j;rintro⟨a,d,rfl,h⟩;refine⟨a,bitsUp_mem.2 ⟨zO,?_⟩,rfl⟩;unfold jrg at h;rw[za zQ,zb rfl,k,bh,<- c a d]at h;exact h
def j5f (n:WR g M=true) {i:Nat}(x:Int):x∈rcS g M i (yh g).length ↔ x∈jab g 1 M i:=by
 have p:=Xm n;unfold jab jul rcS;rw[filTo_mem,aI];simp only[bA,aX];constructor;rintro⟨k,⟨d,c⟩,rfl⟩;unfold rcQ at c;simp only[aj,zh,ze]at c;rcases jwc n d with r|⟨a,f,o,l⟩;omega;refine⟨a,l,f,?_⟩;unfold jrg rcB;rw[zb rfl,bU];have j:M.getD k 0=M[k]:=by simp[aC,aa (show k<M.length by omega)]
 have m:(yh g).getD k (0,0)=(yh g)[k]:=by simp[aC,aa d]
 rw[j]at f;rw[m]at c;refine⟨((yh g)[k],M[k]),?_,by
  show((yh g)[k].1==_&&(decide ((yh g)[k].2<_)&&M[k]==(a:Int)))=true;rw[c.1,zi c.2.1,f];simp⟩
 rw[de];exact⟨k,by simp;omega,zS⟩;rintro⟨a,f,rfl,h⟩;unfold jrg rcB at h;rw[zb rfl,bU]at h;obtain⟨z,q,b⟩:=h;obtain⟨k,d,e⟩:=bo q;simp only[List.length_zip]at d;rw[List.getElem_zip]at e;simp only[aj,zh,ze]at b;rw[<- e]at b;simp only at b;have j:M.getD k 0=M[k]:=by simp[aC,aa (show k<M.length by omega)]
 have m:(yh g).getD k (0,0)=(yh g)[k]:=by simp[aC,aa (show k<(yh g).length by omega)]
 refine⟨k,⟨zO,?_⟩,by rw[j];exact b.2.2⟩;unfold rcQ;rw[j,m,b.2.2,b.1,zi b.2.1];simp
end
section
variable {g:Hist'}{M:List Int}{lvl:Int}
def j46 {A:List P2}(b:∀z,z∈A ↔ ∃i,i<(yh g).length/\z∈askE g M (jab g lvl M i) i):jyh g lvl M (yD g (yl g).length++srcL g M (yh g).length++A):=by intro z;rw[aP,b];simp only[aP,yD,srcL,ct,aI,aX];constructor;rintro((⟨i,a,h⟩|⟨i,a,rfl⟩)|⟨i,a,h⟩);exact .inl ⟨i,a,h⟩;exact .inr ⟨i,a,.inl rfl⟩;exact .inr ⟨i,a,.inr h⟩;rintro(⟨i,a,h⟩|⟨i,a,h|h⟩);exact .inl (.inl ⟨i,a,h⟩);exact .inl (.inr ⟨i,a,h.symm⟩);exact .inr ⟨i,a,h⟩
def j95 (m:WR g M=true):InG g.ts.length (revE g.ts.length (yD g (yl g).length++srcL g M (yh g).length)):=by
 intro z k;unfold revE at k;simp only[aI,bA,ze]at k;obtain⟨p,⟨l,d⟩,rfl⟩:=k;obtain⟨a,b,rfl,t,s⟩:=jun m (jin g M) p l;simp only at d ⊢;refine⟨b,a,rfl,?_,zO⟩;rcases cD b g.ts.length with h|h;exact h;have r:b=g.ts.length:=zO;have j:jgc g 0 M a b=true:=by
  have:((a:Int),(b:Int))∈Ja (g.ts.length+1) (jgc g 0 M):=by rw[<- jbn m (jin g M),compP_mem,(XP _).mem_iff];exact l
  obtain⟨x,y,_,_,h,e⟩:=edgesOf_mem.1 this;have u:(a:Int)=x:=zg Prod.fst e;have o:(b:Int)=y:=zg Prod.snd e;rw[show a=x by omega,show b=y by omega];exact h
 unfold jgc at j;have n:Xv g b=false:=by cases h:Xv g b;rfl;have:=Xc h;omega
 rw[n,dF,cw,dF,bZ,bZ,cw]at j;obtain⟨i,f,h⟩:=bU.1 j;have f:=aX.1 f;rw[jeu,show askE g M [] i=[] from rfl]at h;simp only[List.contains_nil,bx,zh]at h;obtain⟨c,n,_,q⟩:=jg5 f;have o:((yh g).getD i (0,0)).1=(b:Int):=zg Prod.snd h;omega
end
structure SeenF (g:Hist') (lvl:Int) (M:List Int) (mv rv:V) (kX uX ub0:Nat) (K:Nat->Prop) (ob0:ZO) (f:FuncId) (cap:List V):Prop where
 sh:E.sh true f=false
 np:(cap.all λv=>v.strip.pureTop)=false
 ev:∀i,i<(yh g).length->∀(ob':ZO) (ub':Nat) (tk:Nat->Bool) (base:Nat),ub0<=ub'->(∃lv,ob' kX=some ⟨uX,.cells (mkS g mv rv lv)⟩)->(∀key,K key->ob' key=ob0 key) ->
  ∃v,EvO E f (.int .i64 (i:Int)::cap) ob' tk base ub' v/\∃l,(∀x,x∈l ↔ x∈jab g lvl M i)/\l.length<=100/\jyp l v
def jti (ub kX:Nat) (lv:V) (Z:List P2) (key:Nat):Prop:=Off ub key/\key≠kX/\j2q lv Z key
section
variable {g:Hist'}{M:List Int}{lvl:Int}{mn rn:Bool}{rt:Option (Nat × Nat)}{kX uX lo:Nat}{ob:ZO}{ub:Nat}{lv:V}
def jkc {Z:List P2}{ob:ZO}(b:EdV ob lo ub lv Z) (c:Off lo kX) (f:lo<=ub) {u nx:Nat}(i:ub<=u) (d:u<nx):jti nx kX lv Z (2*u+1):=by
 refine⟨Off.new d,λe=>c u zO e.symm,λw a=>?_⟩;rcases b with⟨rfl,_⟩|⟨v,rfl,_,_,h⟩;cases a;have:v=w:=by injection a
 omega
def sv118 {Yf:YF}{tk:Nat->Bool}{ro base:Nat}(hX:ob kX=some ⟨uX,.cells (mkS g (yj mn ye M) (rdV rt rn (yh g)) lv)⟩) (H:EdV ob lo ub lv (yD g (yl g).length++srcL g M (yh g).length)) (b:Off lo kX) (j:lo<=ub) (a0:ro<=lo) (n:WR g M=true) (T:g.ts.length<=8) (hR:(yh g).length<=100) (P:lvl=1\/lvl=2) :
 ∃r,EvS E Yf.y 118 [.ptr kX uX 0,.int .i64 lvl] ob tk ro base ub r/\ub<=r.2.2.2/\(∀c,Off ub c->r.2.1 c=ob c)/\∃f q,r.1=.fn (.func f) [] q/\SeenF g lvl M (yj mn ye M) (rdV rt rn (yh g)) kX uX r.2.2.2 (jti r.2.2.2 kX lv (yD g (yl g).length++srcL g M (yh g).length)) r.2.1 f q:=by
 have b6:=Wt g;have hl:(yD g (yl g).length++srcL g M (yh g).length).length<=10000:=by rw[au,jih];have:=jd1 g 8 (yl g).length zO;have:(yl g).length*(8+1)<=8*9:=aW 9 zO;omega
 have o:=j95 n;have b5:=jo0 g.ts.length (yD g (yl g).length++srcL g M (yh g).length);have D:=fun {i:Nat}(l:i<(yh g).length) {w:Nat}=>jrq (w:=w) n T l;generalize yD g (yl g).length++srcL g M (yh g).length=Z at *;have oX:=(b.up j).ne;refine J7 rfl zQ ?_;show wpC E Yf S118.body _ (Jd S118.res _);rcases P with rfl|rfl
 ·conv in(occs:=*)S118=>all_goals cbv
  simp(disch:=try exact zD)[S118,V.cells,V.leaf];refine JQ zS ⟨zL,λc b=>?_,172,[.ptr (2*ub+1) ub 0],zS,rfl,rfl,λi l s d tk base K e F=>?_⟩;have:=b.ne;simp(disch:=try exact zD)[this];have p:ub<d:=by first|omega|(simp at K;omega)
  have B:=F (2*ub+1) (jkc H b j zK zL);exact⟨_,evo172 n (u2:=ub) (by rw[B];simp) p e (b.up zO) zO l _ _,_,λx=>j5f n x,bH (ju2 _ _ _ _) hR,numR_intsV _⟩
 ·conv in(occs:=*)S118=>all_goals cbv
  simp(disch:=try exact zD)[S118,V.cells,V.leaf,j0];refine jK (vs:=[.ptr kX uX 0]) zS rfl (sv170 (g:=g) (lo:=lo) (mv:=yj mn ye M) (rv:=rdV rt rn (yh g)) (L:=Z) ⟨lv,?_,H.frame (λu _ h=>?_) ?_⟩ b ?_ ?_ zO) ?_;simp(disch:=try exact zD)[oX,hX];have:∀m,ub<=m->¬u=m:=λm n=>by omega
  simp(disch:=try exact zD)[yi,this]
  ·first|omega|(simp;done)|(simp;omega)
  ·first|omega|(simp;done)|(simp;omega)
  ·first|omega|(simp;done)|(simp;omega)
  rintro v1 J X a ⟨S,u3,rfl,Q,N,I⟩;simp only at Q N I;have b0:=N.h;have U:ub<S:=by first|omega|(simp at Q;omega)
  have O:J (2*ub+1)=some ⟨ub,.cells [.ptr kX uX 0]⟩:=by rw[I _ (Off.new zL)];simp
  simp(disch:=try exact zD)[V.cells,V.leaf,j0,j2];refine⟨zO,?_⟩;refine JQ zS ⟨zL,λc b=>?_,171,[.ptr (2*a+1) a 0,.ptr (2*ub+1) ub 0],zS,rfl,rfl,λi l s d tk base K e F=>?_⟩;have t:=(b.up (show ub<=a by omega)).ne;simp(disch:=try exact zD)[t];rw[I _ (b.up zL)];have:=b.ne;simp(disch:=try exact zD)[this];have p:a<d:=by first|omega|(simp at K;omega)
  have k:=λ(u:Nat) (t:ub<=u) (B:u<=a)=>F (2*u+1) (jkc H b j t zL);have G:PastO kX uX (revE g.ts.length Z) S u3 a s:=N.keep (λu t B=>by
   rw[k u zO zO];have:∀m,a<=m->¬u=m:=λm n=>by omega
   simp(disch:=try exact zD)[yi,this]) zK
  obtain⟨v,hv,w,z,hn⟩:=evo171 (M:=M) (mn:=mn) (rt:=rt) (rn:=rn) (u5:=a) (u2:=ub) (ub:=d) G zO (by rw[k a zO zO];simp) (by
   rw[k ub zO zO];simp(disch:=try exact zD)[yi,show ¬ub=a by omega,O]) zO zO e (b.up zO) T o zO l tk base
  refine⟨v,hv,_,λx=>D l z x,?_,hn⟩;rw[JV];have:=Qv w;omega
end
section
variable {g:Hist'}{M:List Int}{lvl:Int}{mn rn:Bool}{rt:Option (Nat × Nat)}{kX uX lo:Nat}{ob:ZO}{ub:Nat}{lv:V}{Z:List P2}
structure AskJ (g:Hist') (mv rv:V) (kX uX lo ub:Nat) (K:Nat->Prop) (ob0:ZO) (L:List P2) (ob:ZO) (nx:Nat):Prop where
 e:∃lv',ob kX=some ⟨uX,.cells (mkS g mv rv lv')⟩/\EdV ob lo nx lv' L/\∀key,K key->ob key=ob0 key/\j2q lv' L key
 w:∀key,Off lo key->key≠kX->ob key=ob0 key
 h:lo<=ub/\ub<=nx
 x:Off lo kX
 k:∀key,K key->Off ub key/\key≠kX
def AskJ.up {mv rv:V}{K:Nat->Prop}{ob0:ZO}{L:List P2}{nx nx':Nat}{ob':ZO}(h:AskJ g mv rv kX uX lo ub K ob0 L ob nx) (c:∀a,Off nx a->ob' a=ob a) (j:nx<=nx'):AskJ g mv rv kX uX lo ub K ob0 L ob' nx':=by obtain⟨⟨d,l,i,e⟩,w,⟨n,f⟩,x,k⟩:=h;exact⟨⟨d,(c _ (x.up zO)).trans l,i.frame (λu _ h=>c _ (Off.new h)) j,λa b=>⟨(c _ ((k a b).1.up f)).trans (e a b).1,(e a b).2⟩⟩,λa b m=>(c _ (b.up zO)).trans (w a b m),⟨n,zO⟩,x,k⟩
def AskJ.put {Yf:YF}{mv rv:V}{K:Nat->Prop}{ob0:ZO}{L:List P2}{nx:Nat}{tk:Nat->Bool}{ro base:Nat}(h:AskJ g mv rv kX uX lo ub K ob0 L ob nx) (f:ro<=lo) (i:ro<=uX) (G:L.length<=100000) (a b:Int) :
 ∃r,EvS E Yf.y 168 [.ptr kX uX 0,.int .i64 a,.int .i64 b] ob tk ro base nx r/\nx<=r.2.2.2/\AskJ g mv rv kX uX lo ub K ob0 (L++[(Jt g a,Jt g b)]) r.2.1 r.2.2.2:=by
 obtain⟨⟨v,I,l,o⟩,w,⟨D,s⟩,x,k⟩:=h;obtain⟨r,t,H,⟨B,q,u,j,F,J,z⟩,p⟩:=jt7 (Yf:=Yf) (tk:=tk) (ro:=ro) (base:=base) I l x zO f i G a b;refine⟨r,t,H,⟨⟨B,q,.inr ⟨u,j,F,zO,z⟩,λc d=>⟨?_,λw m e=>?_⟩⟩,λc d n=>(p c (d.up zO) n (l.off d)).trans (w c d n),⟨D,zO⟩,x,k⟩⟩;exact(p c ((k c d).1.up s) (k c d).2 (o c d).2).trans (o c d).1;rw[j]at m;have:u=w:=by injection m
 exact(k c d).1 w zO e
def askT (g:Hist') (M:List Int) (l:List Int) (i j:Nat):List P2:=askE g M (l.take j) i
def jya {l:List Int}{j:Nat}(h:j<l.length) (i:Nat):askT g M l i (j+1)=askT g M l i j++if YH g l[j] (ja4 g ((yh g).getD i (0,0)))&&(l[j] != M.getD i 0) then [(l[j],Jt g (M.getD i 0))] else []:=by unfold askT askE;rw[aw h,cg,bw];congr 1;cases a:YH g l[j] (ja4 g ((yh g).getD i (0,0)))&&(l[j] != M.getD i 0)<;>simp only[cC,eC,a,zd,ak,zc,bi,ci]
def jqs (l:List Int) (i j:Nat):(askT g M l i j).length<=l.length:=by unfold askT askE;rw[bp];refine bH (bR _ _) ?_;rw[ai];omega
def AskR (g:Hist') (lvl:Int) (M:List Int) (mv rv:V) (kX uX lo:Nat) (ob:ZO) (ub:Nat) (Z:List P2) (r:V×(ZO)×(Nat->Bool)×Nat):Prop :=
 ub<=r.2.2.2/\(∃A,(∀z,z∈A ↔ ∃i,i<(yh g).length/\z∈askE g M (jab g lvl M i) i)/\A.length<=10000/\MkR g mv rv kX uX lo r.2.1 r.2.2.2 (Z++A))/\∀key,Off lo key->key≠kX->r.2.1 key=ob key
def sv117 {Yf:YF}{tk:Nat->Bool}{ro base:Nat}{f:FuncId}{cap:List V}(hs:Small g) (hm:WR g M=true) (hR:(yh g).length<=100) (hS:SeenF g lvl M (yj mn ye M) (rdV rt rn (yh g)) kX uX ub (jti ub kX lv Z) ob f cap)
 (hX:ob kX=some ⟨uX,.cells (mkS g (yj mn ye M) (rdV rt rn (yh g)) lv)⟩) (hE:EdV ob lo ub lv Z) (F:Off lo kX) (c7:lo<=ub) (g5:ro<=lo) (g9:ro<=uX) (hZ:Z.length<=10000) :
 ∃r,EvS E Yf.y 117 [.ptr kX uX 0,.fn (.func f) [] cap] ob tk ro base ub r/\AskR g lvl M (yj mn ye M) (rdV rt rn (yh g)) kX uX lo ob ub Z r:=by
 have g7:=Xm hm;have c0:=QG (Yg hm);refine J7 rfl zQ ?_;show wpC E Yf S117.body _ (Jd S117.res _);conv in(occs:=*)S117=>all_goals cbv
 simp(disch:=try exact zD)[S117,j0,hX,mkS,ya,rdV];refine jf λL o=>?_;have g0:L.tm 0=.ptr kX uX 0:=by rw[o];simp
 have g1:L.tm 1=.fn (.func f) [] cap:=by rw[o];simp
 have f7:L.tm 13=rdV rt rn (yh g):=by rw[o];simp[rdV]
 have e4:L.tm 14=.int .i64 (yh g).length:=by rw[o];simp
 have b5:L.tm 15=.int .i64 0:=by rw[o];simp
 have gd:L.df=[]:=by rw[o];simp
 have gr:L.ro=ro:=by rw[o];simp
 have gJ:AskJ g (yj mn ye M) (rdV rt rn (yh g)) kX uX lo ub (jti ub kX lv Z) ob Z L.ob L.nx:=by
  have e:L.ob=ob:=by rw[o];simp
  have hn:ub<=L.nx:=by rw[o];first|omega|(simp;done)|(simp;omega)
  rw[e];exact⟨⟨lv,hX,hE.frame (λ_ _ _=>rfl) hn,λc h=>⟨rfl,h.2.2⟩⟩,λ_ _ _=>rfl,⟨c7,hn⟩,F,λc h=>⟨h.1,h.2.1⟩⟩
 clear o;obtain⟨J,hJ⟩:∃J:Nat->St->Prop,J=λi s=>s.tm 15=.int .i64 i/\∃A,(∀z,z∈A ↔ ∃k,k<i/\z∈askE g M (jab g lvl M k) k)/\A.length<=i*100/\AskJ g (yj mn ye M) (rdV rt rn (yh g)) kX uX lo ub (jti ub kX lv Z) ob (Z++A) s.ob s.nx:=⟨_,rfl⟩;refine j7 [(4,9),(15,75)] (yh g).length J rfl rfl (by rw[hJ];exact⟨by simpa using b5,[],λz=>by simp,zS,by simpa using gJ⟩) ?_;clear gJ b5;intro i s hi b8 fr;rw[hJ]at b8;obtain⟨b0,A,hA,g6,sJ⟩:=b8;have s0:=(fr.t 0 zS).trans g0;have s1:=(fr.t 1 zS).trans g1;have b9:=(fr.t 13 zS).trans f7;have X:=(fr.t 14 zS).trans e4;have sd:=fr.d.trans gd;have sr:=fr.r.trans gr;clear fr;by_cases D:i<(yh g).length
 ·have d9:=jc D zO;have a0:i<M.length:=zO;have d6:=XA jq rt rn (yh g) .i64 D;have d4:=λob=>Qj (yh g) ob D;have c5:=j6 jA mn M .i64 a0;have c9:=JL M a0;obtain⟨a,b,ha,hb,hp,c4,_⟩:=jms c0 D;have f2:(yh g).getD i (0,0)=((a:Int),(b:Int)):=by simp[aC,aa D,hp]
  have e7:M.getD i 0=M[i]:=by simp[aC,aa a0]
  simp only[hp]at d4;obtain⟨O,e1,e2,e3⟩:=sJ.e;have f1:=sJ.h;simp(disch:=try exact zD)[b0,X,b9,D,rdV,d6,d4,j0,j2];refine⟨by first|omega|(simp[sr];omega),?_⟩;simp(disch:=try exact zD)[s1];refine jp2 (f:=f) (first:=[]) (captured:=cap) (vs:=.int .i64 (i:Int)::cap) zS zS hS.sh (by simp only[bW,hS.np,dF]) (hS.ev i D _ _ _ _ ?_ ⟨O,?_⟩ λc H=>?_) λv hv=>?_
  ·first|omega|(simp;done)|(simp;omega)
  have:=(F.up (show lo<=s.nx by omega)).ne;simp(disch:=try exact zD)[this,e1];have:=(H.1.up f1.2).ne;simp(disch:=try exact zD)[this];exact(e3 c H).1;obtain⟨l,hl,h5,nl,e5⟩:=hv;refine YE e5 λc6 f3=>?_;simp;refine jf λp n=>?_;obtain⟨z,z1,z2,p5,pZ⟩:∃z,s.nx<=z/\z<p.nx/\p.tm 5=.ptr (2*z+1) z 0/\p.ob (2*z+1)=some ⟨z,.cells [.int .i64 (a:Int),.int .i64 (b:Int)]⟩:=by refine⟨s.nx+256,zO,by rw[n];first|omega|(simp;done)|(simp;omega),by rw[n];simp[aG],by rw[n];simp[aG]⟩
  have p0:p.tm 0=.ptr kX uX 0:=by rw[n];simp[s0]
  have p1:p.tm 1=.fn (.func f) [] cap:=by rw[n];simp[s1]
  have p4:p.tm 4=.int .i64 i:=by rw[n];simp
  have g3:p.tm 13=rdV rt rn (yh g):=by rw[n];simp[b9]
  have g4:p.tm 14=.int .i64 (yh g).length:=by rw[n];simp[X]
  have d7:p.tm 15=.int .i64 i:=by rw[n];simp[b0]
  have d8:p.tm 22=.sl c6 nl l.length (l.flatMap ye):=by rw[n];simp
  have f4:p.tm 23=.int .i64 l.length:=by rw[n];simp
  have b6:p.tm 24=.int .i64 0:=by rw[n];simp
  have pd:p.df=[]:=by rw[n];simp[sd]
  have pr:p.ro=ro:=by rw[n];simp[sr]
  have pw:∀c,Off s.nx c->p.ob c=s.ob c:=λc F=>by have:=F.ne;rw[n];simp(disch:=try exact zD)[this]
  clear n;have pJ:=sJ.up (nx':=p.nx) (ob':=p.ob) pw zO;obtain⟨K2,S⟩:∃K2:Nat->Prop,K2=λc=>jti ub kX lv Z c\/c=2*z+1:=⟨_,rfl⟩;have d3:AskJ g (yj mn ye M) (rdV rt rn (yh g)) kX uX lo p.nx K2 p.ob (Z++A) p.ob p.nx:=by
   refine⟨⟨O,(pw _ (F.up zO)).trans e1,e2.frame (λu _ h=>pw _ (Off.new h)) zO,λc H=>⟨rfl,?_⟩⟩,λ_ _ _=>rfl,⟨zO,zK⟩,F,λc H=>?_⟩;rw[S]at H;rcases H with H|rfl;exact(e3 c H).2;intro w hw;rcases e2 with⟨rfl,_⟩|⟨w',rfl,_,_,h4⟩;cases hw;have:w'=w:=by injection hw
   omega;rw[S]at H;rcases H with H|rfl;exact⟨H.1.up zO,H.2.1⟩;exact⟨Off.new z2,λe=>F z zO e.symm⟩
  have b7:(g.ts.flatMap jt)[a*3+2]? = some (yj (g.ts[a]).nl yP (g.ts[a]).ops):=by rw[jk j9 g.ts ha (by decide:2<3)];rfl
  have e0:((g.ts[a]).ops.flatMap yP)[b*4+1]? = some (.int .i64 ((g.ts[a]).ops[b]).key):=by rw[jk jH (g.ts[a]).ops hb (by decide:1<4)];rfl
  have f5:ja4 g ((yh g).getD i (0,0))=((g.ts[a]).ops[b]).key:=by rw[f2,<- hp];exact c4
  have e6:∀t∈l,∃k:Nat,t=k/\k<g.ts.length:=λt ht=>juk ((hl t).1 ht);obtain⟨J2,N⟩:∃J2:Nat->St->Prop,J2=λj q=>q.tm 24=.int .i64 j/\AskJ g (yj mn ye M) (rdV rt rn (yh g)) kX uX lo p.nx K2 p.ob (Z++A++askT g M l i j) q.ob q.nx:=⟨_,rfl⟩;refine j7 [(7,9),(24,74)] l.length J2 rfl rfl (by rw[N];exact⟨by simpa using b6,by simpa[askT,askE] using d3⟩) ?_;clear b6 d3;intro j q hj d0 fr;rw[N]at d0;obtain⟨I,qJ⟩:=d0;have q0:=(fr.t 0 zS).trans p0;have q4:=(fr.t 4 zS).trans p4;have q5:=(fr.t 5 zS).trans p5;have e8:=(fr.t 15 zS).trans d7;have f6:=(fr.t 22 zS).trans d8;have c8:=(fr.t 23 zS).trans f4;have qd:=fr.d.trans pd;have qr:=fr.r.trans pr;clear fr;obtain⟨f0,c1,c2,c3⟩:=qJ.e;have h0:=qJ.h;by_cases B:j<l.length
  ·have K:=jc B zO;have d5:=XA jA c6 nl l .i64 B;have T:=JL l B;obtain⟨t,et,f9⟩:=e6 _ (av B);have G:=jya (g:=g) (M:=M) B i;rw[e7,et,f5]at G;rw[et]at T;have el:=j7g hs (t:Int) ((g.ts[a]).ops[b]).key;have ez:(Q4 (Xk g (t:Int)).2 ((g.ts[a]).ops[b]).key).2=YH g t ((g.ts[a]).ops[b]).key:=rfl;rw[ez]at el;have g2:=jqs (g:=g) (M:=M) l i j;have qZ:q.ob (2*z+1)=_:=(c3 _ (by rw[S];exact .inr rfl)).1.trans pZ;have U:=(F.up (show lo<=q.nx by omega)).ne;have nz:∀m,q.nx<=m->¬z=m:=λm hm=>by omega
   simp(disch:=try exact zD)[I,c8,f6,q0,q5,B,d5,T,c1,qZ,j0,mkS,ya,j6 j9,j6 jH,b7,e0];refine YI el zI rfl zI ?_;rw[Jn (by simp[V.plain,J9])];generalize (Q4 (Xk g (t:Int)).2 ((g.ts[a]).ops[b]).key).1=rv9 at *;generalize YH g t ((g.ts[a]).ops[b]).key=rb at *;simp(disch:=try exact zD)[J9,j2,j0];have bX:∀m,q.nx<=m->Nat.beq kX (2*m+1)=false:=λm hm=>Jq (U m hm);refine⟨by first|omega|(simp[qr];omega),?_,?_⟩;simp(disch:=try exact zD)[Jp,Q7,Qt,ja7,yx,yy,yO,Delta.wo,Delta.wt,bX];exact Jq zO;have keep:askT g M l i (j+1)=askT g M l i j->∀s':St,s'.tm 24=.int .i64 ((j:Int)+1)->q.nx<=s'.nx->(∀c,Off q.nx c->s'.ob c=q.ob c)->J2 (j+1) s':=λe s' Q h2 h3=>by rw[N];refine⟨by simpa using Q,?_⟩;rw[e];exact qJ.up h3 h2
   cases P:((t:Int) != M[i])
   ·rw[P,dF,za zQ,aU]at G;cases rb;all_goals
     simp(disch:=try exact zD)[I,q0,q4,c5,c9,P,j0,c1,U,mkS,ya,K,B]
     exact keep G _ zS zL λc F=>by simp(disch:=try exact zD)[F.ne]
   ·rw[P,eu]at G;cases rb;rw[za zQ,aU]at G;simp(disch:=try exact zD)[I,K,B];exact keep G _ zS zL λc F=>by simp(disch:=try exact zD)[F.ne]
    ·rw[zb rfl]at G;simp(disch:=try exact zD)[q0,q4,c5,c9,P,j0,c1,U,mkS,ya];refine jK (vs:=[.ptr kX uX 0,.int .i64 (t:Int),.int .i64 M[i]]) zS rfl ((qJ.up (λc F=>?_) ?_).put ?_ ?_ ?_ _ _) ?_;simp(disch:=try exact zD)[F.ne]
     ·first|omega|(simp;done)|(simp;omega)
     first|omega|(simp[qr];omega)
     first|omega|(simp[qr];omega)
     rw[au,au];have:i*100<=100*100:=aW 100 zO;omega;rintro v9 h7 f8 h8 ⟨r1,r2⟩;simp only at r1 r2;have e9:Jt g (t:Int)=t:=by unfold Jt;rw[za zO]
     rw[e9,bm,<- G]at r2;simp(disch:=try exact zD)[I,K,B];rw[N];exact⟨zS,r2.up (λc _=>by simp) zL⟩
  have:j=l.length:=zO;subst this;simp(disch:=try exact zD)[I,c8,e8,d9,D];rw[hJ];have h6:=jqs (g:=g) (M:=M) l i l.length;have hT:∀x,x∈askT g M l i l.length ↔ x∈askE g M (jab g lvl M i) i:=λx=>by unfold askT;rw[bf];exact jdc hl i x
  rw[bm]at qJ;refine⟨zS,A++askT g M l i l.length,λx=>?_,?_,?_⟩;rw[aP,hA,hT];constructor;rintro(⟨k,F,h⟩|h);exact⟨k,zO,h⟩;exact⟨i,zO,h⟩;rintro⟨k,F,h⟩;rcases cD k i with Q|Q;exact .inl ⟨k,Q,h⟩;rw[show k=i by omega]at h;exact .inr h;rw[au,cX];omega;have g8:=qJ.h;refine AskJ.up (ob:=q.ob) (nx:=q.nx) ⟨⟨f0,c1,by rw[<- bm];exact c2,λc H=>?_⟩,λc Q h2=>?_,⟨c7,zO⟩,F,λc h=>⟨h.1,h.2.1⟩⟩ (λc _=>by simp) zL;obtain⟨d1,d2⟩:=c3 c (by rw[S];exact .inl H);rw[<- bm];exact⟨d1.trans (pJ.e.choose_spec.2.2 c H).1,d2⟩;exact(qJ.w c Q h2).trans (pJ.w c Q h2)
 have:i=(yh g).length:=zO;subst this;simp(disch:=try exact zD)[b0,X];obtain⟨⟨O,e1,e2,_⟩,w,h,_,_⟩:=sJ;exact jec (.inl rfl) (by simp[sd]) ⟨zL,⟨A,hA,zO,O,by simpa[rdV] using e1,e2.frame (λ_ _ _=>by simp) zL⟩,λc Q h2=>by simpa using w c Q h2⟩
end
end Go.Pv.T
