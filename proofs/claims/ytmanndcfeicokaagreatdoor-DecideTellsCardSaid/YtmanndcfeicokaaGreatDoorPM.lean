/- Part. -/
import Derived.Test.YtmanndcfeicokaaGreatDoorPL
set_option maxRecDepth 100000
set_option maxHeartbeats 8000000
set_option linter.all false
namespace Go.Pv.T
open Go Go.Pv
def ptC (u:Nat):List V:=[.ptr (2*u+1) u 0]
def jj8 (u:Nat):(ptC u).length=1:=rfl
def slU (o:Option Nat) (n sz:Nat):V:=match o with
 |none=>.sl none true 0 []
 |some u=>.osl (2*u+1) u 0 n sz
structure Gr (lo hi uG:Nat) (ut uf ue:Option Nat) (tu fu:List Nat) (WT WF:Nat->Nat) (T:List P2) (ob:ZO):Prop where
 o:ob (2*uG+1)=some ⟨uG,.cells [slU ut tu.length 1,slU uf fu.length 1,slU ue T.length 2,.bool true]⟩
 t:∀u,ut=some u->ob (2*u+1)=some ⟨u,.cells (tu.flatMap ptC)⟩
 f:∀u,uf=some u->ob (2*u+1)=some ⟨u,.cells (fu.flatMap ptC)⟩
 e:∀u,ue=some u->ob (2*u+1)=some ⟨u,.cells (T.flatMap yT)⟩
 z:(ut=none->tu=[])/\(uf=none->fu=[])/\(ue=none->T=[])
 st:∀i (h:i<tu.length),ob (2*tu[i]+1)=some ⟨tu[i],.cells (yv (WT i))⟩
 sf:∀i (h:i<fu.length),ob (2*fu[i]+1)=some ⟨fu[i],.cells (yv (WF i))⟩
 nT:tu.Nodup
 nF:fu.Nodup
 nX:∀x∈tu,x ∉ fu
 nS:∀x,x∈tu\/x∈fu->x≠uG/\ut≠some x/\uf≠some x/\ue≠some x
 nG:ut≠some uG/\uf≠some uG/\ue≠some uG
 nU:∀x,ut=some x->uf≠some x/\ue≠some x
 nV:∀x,uf=some x->ue≠some x
 rG:lo<=uG/\uG<hi
 rL:∀x,ut=some x\/uf=some x\/ue=some x->lo<=x/\x<hi
 rS:∀x,x∈tu\/x∈fu->lo<=x/\x<hi
section
variable {lo hi hi' uG:Nat}{ut uf ue:Option Nat}{tu fu:List Nat}{WT WF:Nat->Nat}{T:List P2}{ob ob':ZO}
def Gr.keep (h:Gr lo hi uG ut uf ue tu fu WT WF T ob) (c:∀x,lo<=x->x<hi->ob' (2*x+1)=ob (2*x+1)) (d:hi<=hi'):Gr lo hi' uG ut uf ue tu fu WT WF T ob':=by
 have g:=λx a=>c x (h.rL x a).1 (h.rL x a).2;have j:=λx a=>c x (h.rS x a).1 (h.rS x a).2;exact⟨(c uG h.rG.1 h.rG.2).trans h.o,λu b=>(g u (.inl b)).trans (h.t u b),λu b=>(g u (.inr (.inl b))).trans (h.f u b),λu b=>(g u (.inr (.inr b))).trans (h.e u b),h.z,
  λi hi=>(j _ (.inl (au hi))).trans (h.st i hi),λi hi=>(j _ (.inr (au hi))).trans (h.sf i hi),h.nT,h.nF,h.nX,h.nS,h.nG,h.nU,h.nV,
  ⟨h.rG.1,aW h.rG.2 d⟩,λx a=>⟨(h.rL x a).1,aW (h.rL x a).2 d⟩,λx a=>⟨(h.rS x a).1,aW (h.rS x a).2 d⟩⟩
def Gr.wide {lo':Nat}(h:Gr lo hi uG ut uf ue tu fu WT WF T ob) (b:lo'<=lo):Gr lo' hi uG ut uf ue tu fu WT WF T ob :=
 ⟨h.o,h.t,h.f,h.e,h.z,h.st,h.sf,h.nT,h.nF,h.nX,h.nS,h.nG,h.nU,h.nV,⟨bI b h.rG.1,h.rG.2⟩,λx a=>⟨bI b (h.rL x a).1,(h.rL x a).2⟩,λx a=>⟨bI b (h.rS x a).1,(h.rS x a).2⟩⟩
def Gr.off (h:Gr lo hi uG ut uf ue tu fu WT WF T ob) {x:Nat}(a:x<hi):Off hi (2*x+1):=Off.new a
def jkg {b:Type}{l:List b}(h:l.Nodup) {i j:Nat}(hi:i<l.length) (a:j<l.length) (e:l[i]=l[j]):i=j:=by rcases dV i j with h1|h1|h1;exact zf e (cZ.1 h i j hi a h1);exact h1;exact zf e.symm (cZ.1 h j i a hi h1)
def Gr.putT (h:Gr lo hi uG ut uf ue tu fu WT WF T ob) {a w:Nat}(m:a<tu.length) (n:ob' (2*tu[a]+1)=some ⟨tu[a],.cells (yv w)⟩) (g:∀x,lo<=x->x<hi->x≠tu[a]->ob' (2*x+1)=ob (2*x+1)) (d:hi<=hi') :
 Gr lo hi' uG ut uf ue tu fu (λi=>if i=a then w else WT i) WF T ob':=by
 have l:tu[a]∈tu:=au m;obtain⟨p,r,s,v⟩:=h.nS _ (.inl l);have j:=λx (b:ut=some x\/uf=some x\/ue=some x)=>g x (h.rL x b).1 (h.rL x b).2 (λe=>by subst e;rcases b with b|b|b<;>contradiction);have k:=λx b=>g x (h.rS x b).1 (h.rS x b).2;refine⟨(g uG h.rG.1 h.rG.2 (dB p)).trans h.o,λu c=>(j u (.inl c)).trans (h.t u c),λu c=>(j u (.inr (.inl c))).trans (h.f u c),λu c=>(j u (.inr (.inr c))).trans (h.e u c),h.z,
  λi hi=>?_,λi hi=>(k _ (.inr (au hi)) (λe=>h.nX _ l (e▸au hi))).trans (h.sf i hi),h.nT,h.nF,h.nX,h.nS,h.nG,h.nU,h.nV,
  ⟨h.rG.1,aW h.rG.2 d⟩,λx b=>⟨(h.rL x b).1,aW (h.rL x b).2 d⟩,λx b=>⟨(h.rS x b).1,aW (h.rS x b).2 d⟩⟩
 by_cases e:i=a;subst e;rw[zb rfl];exact n;rw[za e];exact(k _ (.inl (au hi)) (λq=>e (jkg h.nT hi m q))).trans (h.st i hi)
def Gr.putF (h:Gr lo hi uG ut uf ue tu fu WT WF T ob) {a w:Nat}(m:a<fu.length) (n:ob' (2*fu[a]+1)=some ⟨fu[a],.cells (yv w)⟩) (g:∀x,lo<=x->x<hi->x≠fu[a]->ob' (2*x+1)=ob (2*x+1)) (d:hi<=hi') :
 Gr lo hi' uG ut uf ue tu fu WT (λi=>if i=a then w else WF i) T ob':=by
 have l:fu[a]∈fu:=au m;obtain⟨p,r,s,v⟩:=h.nS _ (.inr l);have j:=λx (b:ut=some x\/uf=some x\/ue=some x)=>g x (h.rL x b).1 (h.rL x b).2 (λe=>by subst e;rcases b with b|b|b<;>contradiction);have k:=λx b=>g x (h.rS x b).1 (h.rS x b).2;refine⟨(g uG h.rG.1 h.rG.2 (dB p)).trans h.o,λu c=>(j u (.inl c)).trans (h.t u c),λu c=>(j u (.inr (.inl c))).trans (h.f u c),λu c=>(j u (.inr (.inr c))).trans (h.e u c),h.z,
  λi hi=>(k _ (.inl (au hi)) (λe=>h.nX _ (au hi) (e▸l))).trans (h.st i hi),λi hi=>?_,h.nT,h.nF,h.nX,h.nS,h.nG,h.nU,h.nV,
  ⟨h.rG.1,aW h.rG.2 d⟩,λx b=>⟨(h.rL x b).1,aW (h.rL x b).2 d⟩,λx b=>⟨(h.rS x b).1,aW (h.rS x b).2 d⟩⟩
 by_cases e:i=a;subst e;rw[zb rfl];exact n;rw[za e];exact(k _ (.inr (au hi)) (λq=>e (jkg h.nF hi m q))).trans (h.sf i hi)
def Gr.edge (h:Gr lo hi uG ut uf ue tu fu WT WF T ob) {x:Nat}{p:P2}(m:ob' (2*uG+1)=some ⟨uG,.cells [slU ut tu.length 1,slU uf fu.length 1,slU (some x) (T.length+1) 2,.bool true]⟩) (s:ob' (2*x+1)=some ⟨x,.cells ((T++[p]).flatMap yT)⟩)
 (j:∀y,lo<=y->y<hi->y≠uG->ue≠some y->ob' (2*y+1)=ob (2*y+1)) (v:hi<=x) (o:x<hi'):Gr lo hi' uG ut uf (some x) tu fu WT WF (T++[p]) ob':=by
 have g:hi<=hi':=zO;have k:lo<=x:=by have:=h.rG;omega
 have ne:∀y,ut=some y\/uf=some y\/ue=some y->y≠x:=λy a e=>by have:=(h.rL y a).2;omega
 have r:∀y,y∈tu\/y∈fu->y≠x:=λy a e=>by have:=(h.rS y a).2;omega
 refine⟨by rw[ap];exact m,λu b=>(j u (h.rL u (.inl b)).1 (h.rL u (.inl b)).2 (λe=>h.nG.1 (e▸b)) (h.nU u b).2).trans (h.t u b),λu b=>(j u (h.rL u (.inr (.inl b))).1 (h.rL u (.inr (.inl b))).2 (λe=>h.nG.2.1 (e▸b)) (h.nV u b)).trans (h.f u b),
  λu b=>by cases b;exact s,⟨h.z.1,h.z.2.1,λe=>by cases e⟩,λi hi=>?_,λi hi=>?_,h.nT,h.nF,h.nX,λy a=>?_,⟨h.nG.1,h.nG.2.1,λe=>?_⟩,λy a=>⟨(h.nU y a).1,λe=>ne y (.inl a) (by injection e with e;exact e.symm)⟩,λy a e=>ne y (.inr (.inl a)) (by injection e with e;exact e.symm),
  ⟨h.rG.1,aW h.rG.2 g⟩,λy a=>?_,λy a=>⟨(h.rS y a).1,aW (h.rS y a).2 g⟩⟩
 have c:=au hi;obtain⟨d,_,_,l⟩:=h.nS _ (.inl c);exact(j _ (h.rS _ (.inl c)).1 (h.rS _ (.inl c)).2 d l).trans (h.st i hi);have c:=au hi;obtain⟨d,_,_,l⟩:=h.nS _ (.inr c);exact(j _ (h.rS _ (.inr c)).1 (h.rS _ (.inr c)).2 d l).trans (h.sf i hi);obtain⟨d,n,q,_⟩:=h.nS y a;exact⟨d,n,q,λe=>r y a (by injection e with e;exact e.symm)⟩;have:=h.rG.2;injection e with e;omega;rcases a with a|a|a;exact⟨(h.rL y (.inl a)).1,aW (h.rL y (.inl a)).2 g⟩;exact⟨(h.rL y (.inr (.inl a))).1,aW (h.rL y (.inr (.inl a))).2 g⟩;cases a;exact⟨k,o⟩
def Gr.node {a b c d:Nat}(h:Gr lo hi uG ut uf none tu fu (λ_=>0) (λ_=>0) [] ob) (w:ob' (2*uG+1)=some ⟨uG,.cells [slU (some b) (tu.length+1) 1,slU (some d) (fu.length+1) 1,.sl none true 0 [],.bool true]⟩)
 (s:ob' (2*b+1)=some ⟨b,.cells ((tu++[a]).flatMap ptC)⟩) (p:ob' (2*d+1)=some ⟨d,.cells ((fu++[c]).flatMap ptC)⟩) (B:ob' (2*a+1)=some ⟨a,.cells (yv 0)⟩) (D:ob' (2*c+1)=some ⟨c,.cells (yv 0)⟩)
 (t:∀y,lo<=y->y<hi->y≠uG->ut≠some y->uf≠some y->ob' (2*y+1)=ob (2*y+1)) (v:hi<=a/\a<b/\b<c/\c<d/\d<hi'):Gr lo hi' uG (some b) (some d) none (tu++[a]) (fu++[c]) (λ_=>0) (λ_=>0) [] ob':=by
 obtain⟨F,K,G,I,H⟩:=v;have J:hi<=hi':=zO;have n:=h.rG;have g:∀y,y∈tu\/y∈fu->lo<=y/\y<hi:=h.rS;have o:∀y,y∈tu\/y∈fu->ob' (2*y+1)=ob (2*y+1):=λy f=>by obtain⟨x,q,r,_⟩:=h.nS y f;exact t y (g y f).1 (g y f).2 x q r
 have j:∀y,y∈tu++[a]\/y∈fu++[c]->(y∈tu\/y∈fu)\/y=a\/y=c:=λy f=>by simp only[aQ,ae]at f;rcases f with(h|h)|(h|h);exact .inl (.inl h);exact .inr (.inl h);exact .inl (.inr h);exact .inr (.inr h)
 refine⟨by simpa[slU] using w,λu k=>(by cases k;exact s),λu k=>(by cases k;exact p),λu k=>(by cases k),⟨λe=>(by cases e),λe=>(by cases e),λ_=>rfl⟩,λi hi=>?_,λi hi=>?_,?_,?_,λy f=>?_,λy f=>?_,⟨λe=>?_,λe=>?_,λe=>(by cases e)⟩,
  λy f=>⟨λe=>?_,λe=>(by cases e)⟩,λy _ e=>(by cases e),⟨n.1,zO⟩,λy f=>?_,λy f=>?_⟩
 by_cases e:i<tu.length;rw[fM e];exact(o _ (.inl (au e))).trans (h.st i e);have:i=tu.length:=by rw[ap,eu]at hi;omega
 subst this;rw[fE zK];simpa using B;by_cases e:i<fu.length;rw[fM e];exact(o _ (.inr (au e))).trans (h.sf i e);have:i=fu.length:=by rw[ap,eu]at hi;omega
 subst this;rw[fE zK];simpa using D;rw[dc];exact⟨h.nT,zS,λy f z m e=>by rw[ae]at m;have:=(g y (.inl f)).2;omega⟩;rw[dc];exact⟨h.nF,zS,λy f z m e=>by rw[ae]at m;have:=(g y (.inr f)).2;omega⟩;simp only[aQ,ae]at f ⊢;rintro(l|l);rcases f with h3|h3;exact h.nX y h3 l;have:=(g y (.inr l)).2;omega;rcases f with h3|h3;have:=(g y (.inl h3)).2;omega;omega;refine⟨?_,λe=>?_,λe=>?_,λe=>(by cases e)⟩;rcases j y f with h3|h3|h3;exact(h.nS y h3).1;omega;omega;injection e with e;rcases j y f with h3|h3|h3;have:=(g y h3).2;omega;omega;omega;injection e with e;rcases j y f with h3|h3|h3;have:=(g y h3).2;omega;omega;omega;injection e with e;omega;injection e with e;omega;injection f with f;injection e with e;omega;rcases f with f|f|f;injection f with f;omega;injection f with f;omega;cases f;rcases j y f with h3|h3|h3;have:=g y h3;omega;omega;omega
end
def XJ (o:Option Nat):List Nat:=match o with
 |none=>[]
 |some u=>[2*u+1]
def jgt {st:St}{ub:Nat}{K:List FP->St->Prop}{d:Option Nat}{r:List AOpr}{ut:Option Nat}{tu:List Nat}{a:Nat}{s x:A}(f:ye E st.tm s=slU ut tu.length 1) (i:∀u,ut=some u->st.ob (2*u+1)=some ⟨u,.cells (tu.flatMap ptC)⟩/\st.ro<=u) (m:ut=none->tu=[])
 (g:yp st.ob 1 (ye E st.tm x)=some (ptC a)) (n:tu.length<=1000000)
 (h:YU E r K (ye E st.tm) (.append true 1 8 s x) st d ub { v:=.osl (2*ub+1) ub 0 (tu.length+1) 1,obs:=[(2*ub+1,⟨ub,.cells ((tu++[a]).flatMap ptC)⟩)],kill:=XJ ut }):jE E (⟨d,.append true 1 8 s x,none,true⟩::r) st ub K:=by
 rw[jv rfl];have b:ptC a≠[]:=by simp[ptC]
 have c:(ptC a).all V.leaf=true:=rfl;have j:=j1 jj8 tu;cases ut with
 |none=>have:=m rfl;subst this;simp only[yU,f,slU,g,ah,za b,dq,zd,Jd,Xu];rw[zb ⟨zQ,c,by simp[ptC],by simp[ptC]⟩];simp only[Jn,jG];simpa[ptC,XJ] using h
 |some u=>
  obtain⟨k,l⟩:=i u rfl;have e:ya st.ob (2*u+1) u=some (tu.flatMap ptC):=by simp[ya,k]
  simp only[yU,f,slU,g,e,ah,za b,Jd,Xu];rw[zb ⟨bS▸l,trivial,trivial,zO,zQ,c,by simp[ptC];omega,by simp[ptC];omega⟩,jG];rw[show(tu.flatMap ptC).take (tu.length*1)=tu.flatMap ptC from aH zO];simpa[ptC,XJ,bK] using h
def j82 (l u o:Nat):yR (.ptr l u o)=[l]:=rfl
def j83 (l u o n z:Nat):yR (.osl l u o n z)=[l]:=rfl
def beqN {a b:Nat}(h:¬a=b):Nat.beq (2*a+1) (2*b+1)=false:=JG zO
def j0k (a:Nat) (x y:List Nat):Wk (a::x) y=(!(y.any λb=>Nat.beq a b)&&Wk x y):=by simp[Wk,Bool.not_or]
def j48 (y:List Nat):Wk [] y=true:=rfl
def j49 (x a y:List Nat):Wk (x++a) y=(Wk x y&&Wk a y):=by simp[Wk,eY,Bool.not_or]
section
variable {ob:ZO}{ub:Nat}
def PgR (ob:ZO) (ub n:Nat) (WT WF:Nat->Nat) (k:Nat) (r:V×(ZO)×(Nat->Bool)×Nat):Prop :=
 ∃uG ut uf ue tu fu T,r.1=.tup [.ptr (2*uG+1) uG 0,.int .i64 0]/\Gr ub r.2.2.2 uG (some ut) (some uf) ue tu fu WT WF T r.2.1/\tu.length=n/\fu.length=n/\T.length<=k/\ub<=r.2.2.2/\∀key,Off ub key->r.2.1 key=ob key
def sv175 {Yf:YF}{tk:Nat->Bool}{ro base n:Nat}(c3:ro<=ub) (U:0<n) (h9:n<=9):∃r,EvS E Yf.y 175 [.int .i64 (n:Int)] ob tk ro base ub r/\PgR ob ub n (λ_=>0) (λ_=>0) 0 r:=by
 refine J6 rfl zQ ?_;show wpC E Yf S175.body _ (Jg S175.res _);have c1:¬(n:Int)<0:=zO;have a0:¬(500:Int)<n:=zO;conv in(occs:=*)S175=>all_goals cbv
 simp(disch:=try exact zD)[S175,c1,a0,V.cells,j2];refine jQ λD l=>?_;obtain⟨q,u1,u2,g4,gG⟩:∃u,ub<=u/\u<D.nx/\D.tm 4=.ptr (2*u+1) u 0/\D.ob (2*u+1)=some ⟨u,.cells [.sl none true 0 [],.sl none true 0 [],.sl none true 0 [],.bool true]⟩:=by refine⟨ub+576,zO,by rw[l];first|omega|(simp;done)|(simp;omega),by rw[l];simp,by rw[l];simp[aA]⟩
 have c0:D.tm 13=.int .i64 n:=by rw[l];simp
 have N:D.tm 14=.int .i64 0:=by rw[l];simp
 have gd:D.df=[]:=by rw[l];simp
 have gr:D.ro=ro:=by rw[l];simp
 have go:∀g,Off ub g->D.ob g=ob g:=λg v=>by have:=v.ne;rw[l];simp(disch:=try exact zD)[this]
 clear l;obtain⟨J,hJ⟩:∃J:Nat->St->Prop,J=λi s=>s.tm 14=.int .i64 i/\(∃ut k tu K,Gr ub s.nx q ut k none tu K (λ_=>0) (λ_=>0) [] s.ob/\tu.length=i/\K.length=i/\((ut=none/\k=none/\i=0)\/∃a b,ut=some a/\k=some b))/\ub<=s.nx/\∀g,Off ub g->s.ob g=ob g:=⟨_,rfl⟩;refine j5 [(14,36)] n J rfl rfl ?_ ?_;rw[hJ];refine⟨by simpa using N,⟨none,none,[],[],⟨by simpa[slU] using gG,λu h=>(by cases h),λu h=>(by cases h),λu h=>(by cases h),⟨λ_=>rfl,λ_=>rfl,λ_=>rfl⟩,λi h=>(by simp at h),λi h=>(by simp at h),ee,ee,λx h=>(by simp at h),λx h=>(by simp at h),⟨zS,zS,zS⟩,λx h=>(by cases h),λx h=>(by cases h),⟨u1,u2⟩,λx h=>(by simp at h),λx h=>(by simp at h)⟩,rfl,rfl,.inl ⟨rfl,rfl,rfl⟩⟩,zO,go⟩;clear N go gG u2;intro i s hi O f;rw[hJ]at O;obtain⟨I,⟨ut,k,tu,K,j,ht,hf,p⟩,sn,so⟩:=O;have s4:=(f.t 4 zS).trans g4;have T:=(f.t 13 zS).trans c0;have sd:=f.d.trans gd;have sr:=f.r.trans gr;clear f;by_cases G:i<n;have b0:=jP G zO;have F:=j.o;have b5:=j.rG;have nG:∀m,s.nx<=m->¬q=m:=λm w=>by omega
 have kt:∀m,s.nx<=m->(XJ ut).any (Nat.beq (2*m+1))=false:=λm w=>by
  cases ut with
  |none=>rfl
  |some u=>have:=j.rL u (.inl rfl);simp only[XJ,bp,bD,bm];exact JG zO
 have X:∀m,s.nx<=m->(XJ k).any (Nat.beq (2*m+1))=false:=λm w=>by
  cases k with
  |none=>rfl
  |some u=>have:=j.rL u (.inr (.inl rfl));simp only[XJ,bp,bD,bm];exact JG zO
 have H:∀x,ut≠some x->(XJ ut).any (Nat.beq (2*x+1))=false:=λx hx=>by
  cases ut with
  |none=>rfl
  |some u=>simp only[XJ,bp,bD,bm];exact JG λe=>hx (by rw[show x=u by omega])
 have M:∀x,k≠some x->(XJ k).any (Nat.beq (2*x+1))=false:=λx hx=>by
  cases k with
  |none=>rfl
  |some u=>simp only[XJ,bp,bD,bm];exact JG λe=>hx (by rw[show x=u by omega])
 have b7:∀g,Off ub g->(XJ ut).any (Nat.beq g)=false:=λg v=>by
  cases ut with
  |none=>rfl
  |some u=>have:=j.rL u (.inl rfl);simp only[XJ,bp,bD,bm];exact JG (v u this.1)
 have b6:∀g,Off ub g->(XJ k).any (Nat.beq g)=false:=λg v=>by
  cases k with
  |none=>rfl
  |some u=>have:=j.rL u (.inr (.inl rfl));simp only[XJ,bp,bD,bm];exact JG (v u this.1)
 simp(disch:=try exact zD)[I,T,s4,G,ya,F];refine jsf zS rfl rfl rfl ?_;simp;refine jz (cs:=ptC (s.nx+448)) (by simp[j2,ptC,aA,V.cells,V.leaf]) rfl rfl ?_;simp;refine jgt (ut:=ut) (tu:=tu) (a:=s.nx+448) zS (λu L=>?_) j.z.1 (by simp[yp,ya,ptC,aA]) zO ?_;have:=j.rL u (.inl L);have nu:∀m,s.nx<=m->¬u=m:=λm w=>by omega
 refine⟨?_,by simp[sr];omega⟩;simp(disch:=try exact zD)[yj,nu,j.t u L];have k1:=H q j.nG.1;simp(disch:=try exact zD)[j9,ya,F,yj,nG,k1,s4];refine jsf zS rfl rfl rfl ?_;simp;refine jz (cs:=ptC (s.nx+896)) (by simp[j2,ptC,aA,V.cells,V.leaf]) rfl rfl ?_;simp;refine jgt (ut:=k) (tu:=K) (a:=s.nx+896) zS (λu L=>?_) j.z.2.1 (by simp[yp,ya,ptC,aA]) zO ?_;have:=j.rL u (.inr (.inl L));have nu:∀m,s.nx<=m->¬u=m:=λm w=>by omega
 have k2:=H u λe=>(j.nU u e).1 L;refine⟨?_,by simp[sr];omega⟩;simp(disch:=try exact zD)[j9,yj,nu,j.f u L,k2];have k3:=M q j.nG.2.1;simp(disch:=try exact zD)[j9,ya,F,yj,nG,k1,k3,j2];have b8:(∀m,s.nx<=m->Nat.beq (2*q+1) (2*m+1)=false)/\(∀m,s.nx<=m->Nat.beq (2*m+1) (2*q+1)=false):=⟨λm w=>JG zO,λm w=>JG zO⟩;obtain⟨P,Q⟩:=b8;have S:∀o:Option Nat,(o=ut\/o=k)->∀n,yR (slU o n 1)=XJ o/\uOf (slU o n 1)=[]:=λo _ n=>by cases o<;>exact⟨rfl,rfl⟩
 have hd1:=S ut (.inl rfl);have Z:=S k (.inr rfl);have kk:(XJ ut).any (λa=>(XJ k).any λb=>Nat.beq a b)=false/\(XJ k).any (λa=>(XJ ut).any λb=>Nat.beq a b)=false:=by
  rcases p with⟨rfl,rfl,rfl⟩|⟨a,b,rfl,rfl⟩;exact⟨rfl,rfl⟩;have:=(j.nU a rfl).1;have c2:a≠b:=λe=>this (by rw[e])
  simp only[XJ,bp,bD,bm];exact⟨JG zO,JG zO⟩
 have c5:∀m,s.nx<=m->(XJ ut).any (λa=>Nat.beq a (2*m+1))=false:=λm w=>by
  cases ut with
  |none=>rfl
  |some u=>have:=j.rL u (.inl rfl);simp only[XJ,bp,bD,bm];exact JG zO
 have c4:∀m,s.nx<=m->(XJ k).any (λa=>Nat.beq a (2*m+1))=false:=λm w=>by
  cases k with
  |none=>rfl
  |some u=>have:=j.rL u (.inr (.inl rfl));simp only[XJ,bp,bD,bm];exact JG zO
 have b9:(XJ ut).any (λa=>Nat.beq a (2*q+1))=false/\(XJ k).any (λa=>Nat.beq a (2*q+1))=false:=by rcases p with⟨rfl,rfl,rfl⟩|⟨a,b,rfl,rfl⟩;exact⟨rfl,rfl⟩;have U:=j.nG;simp only[XJ,bp,bD,bm];exact⟨JG λe=>U.1 (by rw[show a=q by omega]),JG λe=>U.2.1 (by rw[show b=q by omega])⟩
 refine⟨zO,by simp(disch:=try exact zD)[JQ,YW,Wk,QP,yz,yB,yR,uOf,Delta.wo,Delta.wt,P,Q,b9],jr1 (by simp(disch:=try exact zD)[jmu,jiu,QJ,j0k,j48,j49,QP,yz,yB,j82,j83,Delta.wo,Delta.wt,P,Q,hd1,Z,kt,X,k1,k3,beqN]),?_⟩;simp(disch:=try exact zD)[I,b0,G];rw[hJ];have B:∀m,s.nx<=m->¬m=q:=λm w=>by omega
 refine⟨zS,⟨some (s.nx+576),some (s.nx+1024),tu++[s.nx+448],K++[s.nx+896],j.node (a:=s.nx+448) (b:=s.nx+576) (c:=s.nx+896) (d:=s.nx+1024) ?_ ?_ ?_ ?_ ?_ (λy U h2 h3 h4 h5=>?_) ⟨zO,zO,zO,zO,zL⟩,by simp[ht],by simp[hf],.inr ⟨_,_,rfl,rfl⟩⟩,zL,λg v=>?_⟩;simp(disch:=try exact zD)[slU,aA];simp(disch:=try exact zD)[j9,yj,B,X,aA];simp(disch:=try exact zD)[j9,yj,B,aA];simp(disch:=try exact zD)[j9,yj,B,kt,X,aA,jch];simp(disch:=try exact zD)[j9,yj,B,X,aA,jch];have ny:∀m,s.nx<=m->¬y=m:=λm w=>by omega
 have q1:=H y h4;have q2:=M y h5;simp(disch:=try exact zD)[j9,yj,ny,q1,q2,h3];have q1:=b7 g v;have q2:=b6 g v;have q3:=(v.up (show ub<=s.nx by omega)).ne;have q4:¬g=2*q+1:=v q b5.1;simp(disch:=try exact zD)[j9,q1,q2,q3,q4];exact so g v;have:i=n:=zO;subst this;simp(disch:=try exact zD)[I,T,s4];rcases p with⟨_,_,rfl⟩|⟨a,b,rfl,rfl⟩;omega;refine YZ (by simp[sd]) ⟨q,a,b,none,tu,K,[],zS,j.keep (λx _ _=>by simp) zL,ht,hf,zS,zL,λg v=>by simpa using so g v⟩
end
section
variable {lo hi uG:Nat}{ut uf:Nat}{ue:Option Nat}{tu fu:List Nat}{WT WF:Nat->Nat}{T:List P2}{ob:ZO}{ub:Nat}
def j0f (b:Gr lo hi uG (some ut) (some uf) ue tu fu WT WF T ob) (e:hi<=ub) (tk:Nat->Bool) (base:Nat):EvO E 233 [.ptr (2*uG+1) uG 0] ob tk base ub (.bool true):=by
 have a:=b.o;have d:∀m,ub<=m->¬uG=m:=λm c=>by have:=b.rG;omega
 refine jq rfl ?_;conv in(occs:=*)S233=>all_goals cbv
 simp(disch:=try exact zD)[S233,ya,a];exact j3 zS zS rfl
def jno (c:Gr lo hi uG (some ut) (some uf) ue tu fu WT WF T ob) (d:hi<=ub) (a:Int) (tk:Nat->Bool) (base:Nat):EvO E 234 [.ptr (2*uG+1) uG 0,.int .i64 a] ob tk base ub (.bool (decide (0<=a)&&decide (a<tu.length))):=by
 have b:=c.o;have f:∀m,ub<=m->¬uG=m:=λm e=>by have:=c.rG;omega
 refine jq rfl ?_;conv in(occs:=*)S234=>all_goals cbv
 simp(disch:=try exact zD)[S234,ya,b];refine jN (vs:=[.ptr (2*uG+1) uG 0]) zS rfl rfl (j0f (c.keep (λx _ _=>by simp) d) zO _ _) ?_;by_cases h:0<=a;simp(disch:=try exact zD)[ya,b,slU,h];exact j3 zS zS rfl;simp(disch:=try exact zD)[ya,b,slU,h];exact j3 zS zS rfl
def jj7 {l:List Nat}{i:Nat}(h:i<l.length):(l.flatMap ptC)[i]? = some (.ptr (2*l[i]+1) l[i] 0):=by have:=jO jj8 l h (by decide:0<1);rw[bz,bl]at this;rw[this];rfl
def evo235 (c:Gr lo hi uG (some ut) (some uf) ue tu fu WT WF T ob) (h:hi<=ub) {a b:Nat}(e:a<tu.length) (j:b<64) (g:WT a<2^64) (tk:Nat->Bool) (base:Nat):EvO E 235 [.ptr (2*uG+1) uG 0,.int .i64 (a:Int),.int .i64 (b:Int)] ob tk base ub (.bool ((WT a).testBit b)):=by
 have d:=c.o;have f:=c.t ut rfl;have v:∀m,ub<=m->¬uG=m:=λm r=>by have:=c.rG;omega
 have i:∀m,ub<=m->¬ut=m:=λm r=>by have:=c.rL ut (.inl rfl);omega
 have p:=c.st a e;have q:=c.rS tu[a] (.inl (au e));have s:=jlg (l:=2*ut+1) (u:=ut) (kk:=.i64) e;have z:=jj7 e;have y:((a:Int)<(tu.length:Int)):=zO;refine jq rfl ?_;conv in(occs:=*)S235=>all_goals cbv
 simp(disch:=try exact zD)[S235,ya,d];refine jN (vs:=[.ptr (2*uG+1) uG 0,.int .i64 a]) zS rfl rfl (jno (c.keep (λx _ _=>by simp) h) zO _ _ _) ?_;simp(disch:=try exact zD)[ya,d,slU,e,yj,v,i,f,s,z];refine jN (vs:=[.ptr (2*tu[a]+1) tu[a] 0,.int .i64 b]) zS rfl rfl (jg5 (w:=WT a) (by simpa using p) (Off.new zO) j g _ _) ?_;simp;exact j3 zS zS rfl
end
section
variable {ub n k:Nat}{uG ut uf:Nat}{ue:Option Nat}{tu fu:List Nat}{WT WF:Nat->Nat}{T:List P2}{lo:Nat}{ob:ZO}
def GPut (lo:Nat) (ob:ZO) (ub uG ut uf:Nat) (tu fu:List Nat) (WT WF:Nat->Nat) (k:Nat) (r:V×(ZO)×(Nat->Bool)×Nat):Prop :=
 ∃bb ue T,r.1=.tup [.bool bb,.int .i64 0]/\Gr lo r.2.2.2 uG (some ut) (some uf) ue tu fu WT WF T r.2.1/\T.length<=k/\ub<=r.2.2.2/\∀key,Off lo key->r.2.1 key=ob key
def j51 {w b:Nat}(h:w.testBit b=true):w|||1<<<b=w:=by refine eU λi=>?_;rw[eM,da,fe];by_cases e:b=i;subst e;simp[h];simp[e]
def Dual (n:Nat) (WT WF:Nat->Nat):Prop:=∀a b,a<n->b<n->(WT a).testBit b=(WF b).testBit a
def jpr {F:Env}{Yf:YF}{q:Nat}{ue:Option Nat}{T:List P2}{p:P2}{s x:A}{st:St}{K:St->Nat->Prop}{d:Option Nat}(a:ye F st.tm s=slU ue T.length 2) (c:∀u,ue=some u->st.ob (2*u+1)=some ⟨u,.cells (T.flatMap yT)⟩/\st.ro<=u) (i:ue=none->T=[])
 (b:yp st.ob 2 (ye F st.tm x)=some (yT p)) (j:T.length<=1000000) (h:QN K st d q { v:=.osl (2*q+1) q 0 (T.length+1) 2,obs:=[(2*q+1,⟨q,.cells ((T++[p]).flatMap yT)⟩)],kill:=XJ ue }):j8 F Yf ⟨d,.append true 2 16 s x,none,true⟩ st q K:=by
 cases ue with
 |none=>have:=i rfl;subst this;refine X8 a b (by simp[yT]) zQ rfl (by simp[yT]) (by simp[yT]) ?_;simpa[yT,jI,XJ] using h
 |some u=>obtain⟨f,g⟩:=c u rfl;have e:=j1 XC T;refine JJ (cs:=T.flatMap yT) a b f (by simp[yT]) g zO zQ rfl (by simp[yT];omega) (by simp[yT];omega) ?_;rw[aH zO];simpa[yT,jI,XJ] using h
def jm6 {ue:Option Nat}{x:Nat}(h:ue≠some x):(XJ ue).any (Nat.beq (2*x+1))=false:=by
 cases ue with
 |none=>rfl
 |some u=>simp only[XJ,bp,bD,bm];exact JG λe=>h (by rw[show x=u by omega])
def jy5 {ue:Option Nat}{key l:Nat}(h:∀u,ue=some u->l<=u) (a:Off l key):(XJ ue).any (Nat.beq key)=false:=by
 cases ue with
 |none=>rfl
 |some u=>simp only[XJ,bp,bD,bm];exact JG (a u (h u rfl))
def sv176 {Yf:YF}{tk:Nat->Bool}{ro base:Nat}(g:Gr lo ub uG (some ut) (some uf) ue tu fu WT WF T ob) (c4:ro<=lo) (K:tu.length=n) (hf:fu.length=n) (h9:n<=64) {a b:Nat}(ha:a<n) (X:b<n) (c0:∀i,i<n->WT i<2^n) (Z:∀i,i<n->WF i<2^n) (hd:Dual n WT WF) (hT:T.length<=100000) :
 ∃r,EvS E Yf.y 176 [.ptr (2*uG+1) uG 0,.int .i64 (a:Int),.int .i64 (b:Int)] ob tk ro base ub r/\GPut lo ob ub uG ut uf tu fu (λi=>if i=a then WT a|||1<<<b else WT i) (λi=>if i=b then WF b|||1<<<a else WF i) (T.length+1) r:=by
 have hp:(2:Nat)^n<=2^64:=cl zQ h9;have w1:WT a<2^64:=aW (c0 a ha) hp;have w2:WF b<2^64:=aW (Z b X) hp;have M:=g.o;have b5:=g.rG;have nG:∀m,ub<=m->¬uG=m:=λm I=>by omega
 refine J6 rfl zQ ?_;show wpC E Yf S176.body _ (Jg S176.res _);conv in(occs:=*)S176=>all_goals cbv
 simp(disch:=try exact zD)[S176,ya,M];refine jN (vs:=[.ptr (2*uG+1) uG 0]) zS rfl rfl (j0f (g.keep (λx _ _=>by simp) zK) zO _ _) ?_;simp;refine jN (vs:=[.ptr (2*uG+1) uG 0,.int .i64 a]) zS rfl rfl (jno (g.keep (λx _ _=>by simp) zK) zO _ _ _) ?_;simp(disch:=try exact zD)[K,ha];refine jN (vs:=[.ptr (2*uG+1) uG 0,.int .i64 b]) zS rfl rfl (jno (g.keep (λx _ _=>by simp) zK) zO _ _ _) ?_;simp(disch:=try exact zD)[K,X];refine jN (vs:=[.ptr (2*uG+1) uG 0,.int .i64 a,.int .i64 b]) zS rfl rfl (evo235 (g.keep (λx _ _=>by simp) zK) zO zO zO w1 _ _) ?_;cases hh:(WT a).testBit b;have q:a<tu.length:=zO;have j:b<fu.length:=zO;have c1:=g.t ut rfl;have nt:∀m,ub<=m->¬ut=m:=λm I=>by have:=g.rL ut (.inl rfl);omega
 have U:=jlg (l:=2*ut+1) (u:=ut) (kk:=.i64) q;have e2:=jj7 q;have e3:=jlg (l:=2*uf+1) (u:=uf) (kk:=.i64) j;have e4:=jj7 j;rw[K]at U;rw[hf]at e3;have b9:=g.rS tu[a] (.inl (au q));have b8:=g.rS fu[b] (.inr (au j));have hs:=g.st a q;simp(disch:=try exact zD)[ya,M,slU,yj,nG,nt,c1,K,U,e2];refine jJ (vs:=[.ptr (2*tu[a]+1) tu[a] 0,.int .i64 b]) zS rfl (jts (w:=WT a) (by simpa using hs) (Off.new zL) zP zO w1) ?_;rintro v1 O c3 s ⟨_,B,H⟩;simp only at B H;have q1:ub<=s:=by first|omega|(simp at H;omega)
 have v:Gr lo s uG (some ut) (some uf) ue tu fu (λi=>if i=a then WT a|||1<<<b else WT i) WF T O:=by refine g.putT q ?_ (λx h1 h2 h3=>?_) q1;have:=B (2*tu[a]+1) (Off.new zL);rwa [zb rfl]at this;have:=B (2*x+1) (Off.new zL);rw[za zO]at this;simpa using this
 have b7:∀c,Off lo c->O c=ob c:=λc h=>by have:=B c (h.up zL);rw[za (h tu[a] b9.1)]at this;simpa using this
 clear B H;have D:=v.o;have G:=v.f uf rfl;have c2:∀m,s<=m->¬uG=m:=λm I=>by omega
 have b6:∀m,s<=m->¬uf=m:=λm I=>by have:=g.rL uf (.inr (.inl rfl));omega
 have P:=v.sf b j;simp(disch:=try exact zD)[ya,D,slU,yj,c2,b6,G,hf,e3,e4];refine jJ (vs:=[.ptr (2*fu[b]+1) fu[b] 0,.int .i64 a]) zS rfl (jts (w:=WF b) (by simpa using P) (Off.new zL) zP zO w2) ?_;rintro v2 L c5 d ⟨_,B,H⟩;simp only at B H;have q2:s<=d:=by first|omega|(simp at H;omega)
 have J:Gr lo d uG (some ut) (some uf) ue tu fu (λi=>if i=a then WT a|||1<<<b else WT i) (λi=>if i=b then WF b|||1<<<a else WF i) T L:=by refine v.putF j ?_ (λx h1 h2 h3=>?_) q2;have:=B (2*fu[b]+1) (Off.new zL);rwa [zb rfl]at this;have:=B (2*x+1) (Off.new zL);rw[za zO]at this;simpa using this
 have a0:∀c,Off lo c->L c=ob c:=λc h=>by have:=B c (h.up zL);rw[za (h fu[b] b8.1)]at this;rw[<- b7 c h];simpa using this
 clear B H D G v P;have F:=J.o;have Q:∀m,d<=m->¬uG=m:=λm I=>by omega
 simp(disch:=try exact zD)[ya,F,yj,Q,j2];refine jZ (cs:=[.int .i64 (a:Int),.int .i64 (b:Int)]) (by simp[j2]) rfl rfl ?_;simp;refine jpr (ue:=ue) (T:=T) (p:=((a:Int),(b:Int))) zS (λu S=>?_) g.z.2.2 (by simp[yp,ya,yT]) zO ?_;have:=g.rL u (.inr (.inr S));have nu:∀m,d<=m->¬u=m:=λm I=>by omega
 refine⟨?_,by simp;omega⟩;simp(disch:=try exact zD)[j9,yj,nu,J.e u S];have k1:=jm6 (ue:=ue) g.nG.2.2;simp(disch:=try exact zD)[j9,ya,F,yj,Q,j2,k1];have N:∀m,d<=m->¬m=uG:=λm I=>by omega
 refine⟨zO,YZ zS ⟨true,some (d+576),T++[((a:Int),(b:Int))],zS,J.edge (x:=d+576) (p:=((a:Int),(b:Int))) ?_ ?_ (λy h1 h2 h3 h4=>?_) zO zL,zS,zL,λc h=>?_⟩⟩;simp(disch:=try exact zD)[slU,aA,K,hf];simp(disch:=try exact zD)[j9,yj,N,aA,slU];have ny:∀m,d<=m->¬y=m:=λm I=>by omega
 have k2:=jm6 h4;simp(disch:=try exact zD)[j9,yj,ny,k2,h3];have k2:=jy5 (ue:=ue) (l:=lo) (λu S=>(g.rL u (.inr (.inr S))).1) h;have q3:=(h.up (show lo<=d by omega)).ne;have q4:¬c=2*uG+1:=h uG b5.1;simp(disch:=try exact zD)[j9,k2,q3,q4];exact a0 c h;simp;have b0:(WF b).testBit a=true:=by rw[<- hd a b ha X];exact hh
 have U:(λi=>if i=a then WT a|||1<<<b else WT i)=WT:=funext λi=>by split;rename_i e;rw[e,j51 hh];rfl
 have e2:(λi=>if i=b then WF b|||1<<<a else WF i)=WF:=funext λi=>by split;rename_i e;rw[e,j51 b0];rfl
 rw[U,e2];exact YZ zS ⟨false,ue,T,zS,g.keep (λx _ _=>by simp) zL,zO,zL,λc h=>by simp⟩
end
def rowW (L:List P2) (a:Nat):Nat:=L.foldl (λw z=>if z.1=(a:Int) then w|||1<<<z.2.toNat else w) 0
def colW (L:List P2) (b:Nat):Nat:=L.foldl (λw z=>if z.2=(b:Int) then w|||1<<<z.1.toNat else w) 0
def jl3 (L:List P2) (z:P2) (a:Nat):rowW (L++[z]) a=if z.1=(a:Int) then rowW L a|||1<<<z.2.toNat else rowW L a:=by simp[rowW]
def jnu (L:List P2) (z:P2) (b:Nat):colW (L++[z]) b=if z.2=(b:Int) then colW L b|||1<<<z.1.toNat else colW L b:=by simp[colW]
def InG (n:Nat) (L:List P2):Prop:=∀z∈L,∃a b:Nat,z=((a:Int),(b:Int))/\a<n/\b<n
def jfo {n:Nat}(p:List P2->Nat->Nat) (g:∀a,p [] a=0) (q:P2->Int×Int) (h:∀L z a,p (L++[z]) a=if (q z).1=(a:Int) then p L a|||1<<<(q z).2.toNat else p L a) (L:List P2) (i:∀z∈L,0<=(q z).2/\(q z).2<n) :
 ∀k,k<=L.length->∀a,p (L.take k) a<2^n/\∀b,(p (L.take k) a).testBit b=(L.take k).any λz=>decide ((q z).1=(a:Int)/\(q z).2=(b:Int))
 |0,_,a=>by rw[dP,g];exact⟨ib n,λb=>by simp⟩
 |k+1,hk,a=>by obtain⟨j,f⟩:=jfo p g q h L i k zO a;have o:L[k]∈L:=au zO;obtain⟨m,r⟩:=i _ o;rw[av zO,h];obtain⟨c,l⟩:=Int.eq_ofNat_of_zero_le m;have d:c<n:=zO;by_cases e:(q L[k]).1=(a:Int);rw[zb e,l];refine⟨dJ j (by rw[ba,da];exact dU zQ d),λb=>?_⟩;rw[eM,f,eY,ba,da,fe];simp[e,l,Int.ofNat_inj];rw[za e];refine⟨j,λb=>?_⟩;rw[f,eY];simp[e]
def W2 {n:Nat}{L:List P2}(h:InG n L) (a:Nat):rowW L a<2^n/\∀b:Nat,(rowW L a).testBit b=L.contains ((a:Int),(b:Int)):=by have:=jfo (n:=n) rowW (λ_=>rfl) (λz=>(z.1,z.2)) jl3 L (λz e=>by obtain⟨c,d,rfl,_,f⟩:=h z e;simp;omega) L.length zK a;rw[bg]at this;refine⟨this.1,λb=>?_⟩;rw[this.2,bA];simp[bZ]
def jha {n:Nat}{L:List P2}(h:InG n L) (b:Nat):colW L b<2^n/\∀a:Nat,(colW L b).testBit a=L.contains ((a:Int),(b:Int)):=by have:=jfo (n:=n) colW (λ_=>rfl) (λz=>(z.2,z.1)) jnu L (λz f=>by obtain⟨c,d,rfl,e,_⟩:=h z f;simp;omega) L.length zK b;rw[bg]at this;refine⟨this.1,λa=>?_⟩;rw[this.2,bA];simp only[bZ,ze,cC];constructor;rintro⟨z,f,g,e⟩;obtain⟨x,y⟩:=z;simp only at g e;subst g e;exact f;exact λi=>⟨_,i,rfl,rfl⟩
def InG.take {n:Nat}{L:List P2}(h:InG n L) (k:Nat):InG n (L.take k):=λz a=>h z (dI a)
def EdA (lo:Nat) (ob:ZO) (v:V) (L:List P2):Prop :=
 (∃t nl,v=.sl t nl L.length (L.flatMap yT))\/∃k u,v=.osl k u 0 L.length 2/\ob k=some ⟨u,.cells (L.flatMap yT)⟩/\Off lo k
def EdA.len {lo:Nat}{ob:ZO}{v:V}{L:List P2}(h:EdA lo ob v L):WW v=some (.int .i64 (L.length:Nat)):=by rcases h with⟨t,a,rfl⟩|⟨k,u,rfl,_⟩<;>rfl
def EdA.at {lo:Nat}{ob:ZO}{v:V}{L:List P2}(h:EdA lo ob v L) {i:Nat}(hi:i<L.length) :
 ∃p,jt 2 v (.int .i64 (i:Int))=some p/\∀a:ZO,(∀b,Off lo b->a b=ob b)->W8 a (some 2) p=some (.agg [.int .i64 L[i].1,.int .i64 L[i].2]):=by
 have d:=XS XC L i hi;have g:i*2+2<=(L.flatMap yT).length:=by rw[j1 XC];omega
 have c:Y0 (some 2) (L.flatMap yT) (i*2)=some (.agg [.int .i64 L[i].1,.int .i64 L[i].2]):=by simp only[Y0];rw[zb g,d];rfl
 rcases h with⟨t,j,rfl⟩|⟨k,u,rfl,l,f⟩;refine⟨_,JC XC t j L .i64 hi,λa _=>?_⟩;simpa[W8] using c;refine⟨_,jv2 hi,λa e=>?_⟩;have:ya a k u=some (L.flatMap yT):=by simp[ya,e k f,l]
 simp only[W8,this,ah];exact c
def EdA.up {lo lo':Nat}{ob ob':ZO}{v:V}{L:List P2}(h:EdA lo ob v L) (c:∀a,Off lo a->ob' a=ob a) (d:lo<=lo'):EdA lo' ob' v L:=by rcases h with h|⟨k,u,f,e,b⟩;exact .inl h;exact .inr ⟨k,u,f,(c k b).trans e,b.up d⟩
section
variable {ub n:Nat}{ob:ZO}{L:List P2}{v:V}
def dual_W (h:InG n L):Dual n (rowW L) (colW L):=λa b _ _=>by rw[(W2 h a).2,(jha h b).2]
def jw4:rowW []=λ_=>0:=rfl
def j0p:colW []=λ_=>0:=rfl
def j7h {Yf:YF}{tk:Nat->Bool}{ro base:Nat}(c3:ro<=ub) (h1:0<n) (h9:n<=9) (hv:EdA ub ob v L) (N:InG n L) (hl:L.length<=10000) :
 ∃r,EvS E Yf.y 122 [.int .i64 (n:Int),v] ob tk ro base ub r/\PgR ob ub n (rowW L) (colW L) L.length r:=by
 have D:=hv.len;refine J6 rfl zQ ?_;show wpC E Yf S122.body _ (Jg S122.res _);conv in(occs:=*)S122=>all_goals cbv
 simp(disch:=try exact zD)[S122];refine jJ (vs:=[.int .i64 n]) zS rfl (sv175 zP h1 h9) ?_;rintro v1 b6 b8 G ⟨uG,ut,uf,b7,tu,fu,T0,rfl,u,ht,hf,b0,q1,w⟩;simp only at u q1 w;simp(disch:=try exact zD)[D];refine jQ λl g=>?_;have c2:ub<=G:=by first|omega|(simp at q1;omega)
 have g6:l.tm 6=.ptr (2*uG+1) uG 0:=by rw[g];simp
 have g7:l.tm 7=.int .i64 0:=by rw[g];simp
 have b5:l.tm 20=v:=by rw[g];simp
 have a0:l.tm 21=.int .i64 L.length:=by rw[g];simp
 have M:l.tm 22=.int .i64 0:=by rw[g];simp
 have gd:l.df=[]:=by rw[g];simp
 have gr:l.ro=ro:=by rw[g];simp
 have gn:G<=l.nx:=by rw[g];first|omega|(simp;done)|(simp;omega)
 have go:l.ob=b6:=by rw[g];simp
 clear g;obtain⟨J,X⟩:∃J:Nat->St->Prop,J=λi s=>s.tm 22=.int .i64 i/\(∃ue T,Gr ub s.nx uG (some ut) (some uf) ue tu fu (rowW (L.take i)) (colW (L.take i)) T s.ob/\T.length<=i)/\ub<=s.nx/\∀c,Off ub c->s.ob c=ob c:=⟨_,rfl⟩;have o:=u.wide (lo':=ub) zL;refine j5 [(4,5),(9,11),(22,38)] L.length J rfl rfl ?_ ?_;rw[X];refine⟨by simpa using M,⟨b7,T0,?_,b0⟩,zO,λc k=>?_⟩;rw[dP,jw4,j0p,go];exact o.keep (λ_ _ _=>rfl) zO;rw[go];have:=w c (k.up zL);simpa using this;clear M go gn u o w;intro i s hi I f;rw[X]at I;obtain⟨B,⟨ue,T,Z,hT⟩,sn,P⟩:=I;have s6:=(f.t 6 zS).trans g6;have s7:=(f.t 7 zS).trans g7;have Q:=(f.t 20 zS).trans b5;have K:=(f.t 21 zS).trans a0;have sd:=f.d.trans gd;have sr:=f.r.trans gr;clear f;by_cases h:i<L.length;have U:=jP h zO;obtain⟨p,O,F⟩:=hv.at h;obtain⟨a,b,hz,ha,hb⟩:=N _ (au h);have H:L.take (i+1)=L.take i++[((a:Int),(b:Int))]:=by rw[av h,hz]
 rw[hz]at F;simp(disch:=try exact zD)[B,K,Q,h,O];rw[F _ λc k=>by simpa using P c k];simp(disch:=try exact zD)[s6,ya,j2];refine⟨by simp[sr];omega,?_⟩;refine jJ (vs:=[.ptr (2*uG+1) uG 0,.int .i64 a,.int .i64 b]) zS rfl (sv176 (n:=n) (lo:=ub) (Z.keep (λx _ _=>?_) ?_) ?_ ht hf zO ha hb (λi _=>(W2 (N.take _) i).1) (λi _=>(jha (N.take _) i).1) (dual_W (N.take _)) zO) ?_;have:∀m,s.nx<=m->¬x=m:=λm hm=>by omega
 simp(disch:=try exact zD)[yj,this];show _<=_;first|omega|(simp;omega)
 first|omega|(simp[sr];omega)
 rintro v2 c0 c4 c1 ⟨bb,S,T2,rfl,z,b9,q2,q⟩;simp only at z q2 q;simp(disch:=try exact zD)[B,U,h];rw[X];refine⟨zS,⟨S,T2,?_,zO⟩,zL,λc k=>?_⟩;have e1:(λj=>if j=a then rowW (L.take i) a|||1<<<b else rowW (L.take i) j)=rowW (L.take (i+1)):=funext λx=>by rw[H,jl3];by_cases e:x=a;subst e;simp;rw[za e,za (by simp only;omega)]
 have e2:(λj=>if j=b then colW (L.take i) b|||1<<<a else colW (L.take i) j)=colW (L.take (i+1)):=funext λx=>by rw[H,jnu];by_cases e:x=b;subst e;simp;rw[za e,za (by simp only;omega)]
 rw[e1,e2]at z;exact z.keep (λx _ _=>by simp) zL;have:=q c k;have hn:=k.up (show ub<=s.nx by omega);have:=hn.ne;simp;rw[q c k];simp(disch:=try exact zD)[this];exact P c k;have:i=L.length:=zO;subst this;rw[bg]at Z;simp(disch:=try exact zD)[B,K,s6,s7];exact YZ (by simp[sd]) ⟨uG,ut,uf,ue,tu,fu,T,zS,Z.keep (λx _ _=>by simp) zL,ht,hf,hT,zL,λc k=>by simpa using P c k⟩
end
section
variable {lo hi uG:Nat}{ut uf:Nat}{ue:Option Nat}{tu fu:List Nat}{WT WF:Nat->Nat}{T:List P2}{ob:ZO}{ub:Nat}
def evo178 (b:Gr lo hi uG (some ut) (some uf) ue tu fu WT WF T ob) (c:hi<=ub) (tk:Nat->Bool) (base:Nat):EvO E 178 [.ptr (2*uG+1) uG 0] ob tk base ub (.int .i64 tu.length):=by
 have a:=b.o;have e:∀m,ub<=m->¬uG=m:=λm d=>by have:=b.rG;omega
 refine jq rfl ?_;conv in(occs:=*)S178=>all_goals cbv
 simp(disch:=try exact zD)[S178];refine jN (vs:=[.ptr (2*uG+1) uG 0]) zS rfl rfl (j0f (b.keep (λx _ _=>by simp) c) zO _ _) ?_;simp(disch:=try exact zD)[ya,a,slU];exact j3 zS zS rfl
def j6l (b:Gr lo hi uG (some ut) (some uf) ue tu fu WT WF T ob) (i:hi<=ub) {a:Nat}(c:a<tu.length) (g:WT a<512) (tk:Nat->Bool) (base:Nat):∃v,EvO E 181 [.ptr (2*uG+1) uG 0,.int .i64 (a:Int)] ob tk base ub v/\j1c (yt (yq (WT a))) v:=by
 have d:=b.o;have f:=b.t ut rfl;have D:∀m,ub<=m->¬uG=m:=λm s=>by have:=b.rG;omega
 have B:∀m,ub<=m->¬ut=m:=λm s=>by have:=b.rL ut (.inl rfl);omega
 have j:=b.st a c;have q:=b.rS tu[a] (.inl (au c));have y:=jlg (l:=2*ut+1) (u:=ut) (kk:=.i64) c;have z:=jj7 c;refine jb3 rfl zQ ?_;conv in(occs:=*)S181=>all_goals cbv
 simp(disch:=try exact zD)[S181];refine jN (vs:=[.ptr (2*uG+1) uG 0,.int .i64 a]) zS rfl rfl (jno (b.keep (λx _ _=>by simp) i) zO _ _ _) ?_;simp(disch:=try exact zD)[ya,d,slU,c,f,y,z];obtain⟨nl,e⟩:=numR_intsV (yt (yq (WT a)));refine jN (vs:=[.ptr (2*tu[a]+1) tu[a] 0]) zS rfl rfl (jje (w:=WT a) (by simpa using j) (Off.new zO) g _ _) ?_;refine Jv e λp add=>?_;simp;exact slE (t:=p) (nl:=nl) (k:=(yt (yq (WT a))).length) (cs:=(yt (yq (WT a))).flatMap yf) (λr h=>⟨nl,h⟩) zS zS
def evo180 (c:Gr lo hi uG (some ut) (some uf) ue tu fu WT WF T ob) (j:hi<=ub) {a:Nat}(B:a<tu.length) (F:tu.length=fu.length) (i:WF a<512) (tk:Nat->Bool) (base:Nat):∃v,EvO E 180 [.ptr (2*uG+1) uG 0,.int .i64 (a:Int)] ob tk base ub v/\j1c (yt (yq (WF a))) v:=by
 have d:=c.o;have g:=c.f uf rfl;have H:∀m,ub<=m->¬uG=m:=λm y=>by have:=c.rG;omega
 have G:∀m,ub<=m->¬uf=m:=λm y=>by have:=c.rL uf (.inr (.inl rfl));omega
 have b:a<fu.length:=zO;have p:=c.sf a b;have s:=c.rS fu[a] (.inr (au b));have z:=jlg (l:=2*uf+1) (u:=uf) (kk:=.i64) b;have D:=jj7 b;refine jb3 rfl zQ ?_;conv in(occs:=*)S180=>all_goals cbv
 simp(disch:=try exact zD)[S180];refine jN (vs:=[.ptr (2*uG+1) uG 0,.int .i64 a]) zS rfl rfl (jno (c.keep (λx _ _=>by simp) j) zO _ _ _) ?_;simp(disch:=try exact zD)[ya,d,slU,B,g,z,D];obtain⟨nl,e⟩:=numR_intsV (yt (yq (WF a)));refine jN (vs:=[.ptr (2*fu[a]+1) fu[a] 0]) zS rfl rfl (jje (w:=WF a) (by simpa using p) (Off.new zO) i _ _) ?_;refine Jv e λq add=>?_;simp;exact slE (t:=q) (nl:=nl) (k:=(yt (yq (WF a))).length) (cs:=(yt (yq (WF a))).flatMap yf) (λr h=>⟨nl,h⟩) zS zS
end
def orL (L:List Nat):Nat:=L.foldl (λw b=>w|||1<<<b) 0
def jkb (L:List Nat) (b:Nat):orL (L++[b])=orL L|||1<<<b:=by simp[orL]
def jrs (L:List Nat):∀k,k<=L.length->∀i,(orL (L.take k)).testBit i=decide (i∈L.take k)
 |0,_,i=>by simp[orL]
 |k+1,h,i=>by have a:=jrs L k zO i;rw[av zO,jkb,eM,a,da,fe,bA];simp only[bG,ze,aQ,ae];exact or_congr bT eq_comm
def j2s {w:Nat}(h:w<512):orL (yq w)=w:=by
 refine eU λi=>?_;have:=jrs (yq w) (yq w).length zK i;rw[bg]at this;rw[this,bA,ze,bitsUp_mem];constructor;exact λh=>h.2;intro a;refine⟨?_,a⟩;rcases cJ i 9 with h1|h1
 exact h1;have:w.testBit i=false:=dr (aW h (cl zQ h1:2^9<=2^i));rw[this]at a;cases a
def orL_lt {L:List Nat}(h:∀b∈L,b<64) (k:Nat) (c:k<=L.length):orL (L.take k)<2^64:=by
 induction k with
 |zero=>simp[orL]
 |succ k a=>rw[av zO,jkb];exact or_lt (a zO) (h _ (au _))
section
variable {ob:ZO}{ub:Nat}
def SetR (ob:ZO) (ub w:Nat) (r:V×(ZO)×(Nat->Bool)×Nat):Prop :=
 ∃m,ub<=m/\m<r.2.2.2/\r.1=.ptr (2*m+1) m 0/\r.2.1 (2*m+1)=some ⟨m,.cells (yv w)⟩/\∀key,Off ub key->r.2.1 key=ob key
def sv151l {Yf:YF}{tk:Nat->Bool}{ro base:Nat}{t:Option (Nat×Nat)}{nl:Bool}{L:List Nat}(a0:ro<=ub) (N:∀b∈L,b<64) (hl:L.length<=100000):∃r,EvS E Yf.y 151 [.sl t nl L.length ((yt L).flatMap yf)] ob tk ro base ub r/\SetR ob ub (orL L) r:=by
 refine J6 rfl zQ ?_;show wpC E Yf S151.body _ (Jg S151.res _);conv in(occs:=*)S151=>all_goals cbv
 simp[V.cells];refine jQ λg c=>?_;obtain⟨m,O,M,g3,Q⟩:∃u,ub<=u/\u<g.nx/\g.tm 3=.ptr (2*u+1) u 0/\g.ob (2*u+1)=some ⟨u,.cells (yv 0)⟩:=⟨ub+128,zO,by rw[c];first|omega|(simp;done)|(simp;omega),by rw[c];simp[aA],by rw[c];simp[aA,yv]⟩;have g8:g.tm 8=.sl t nl L.length ((yt L).flatMap yf):=by rw[c];simp
 have U:g.tm 9=.int .i64 L.length:=by rw[c];simp
 have p:g.tm 10=.int .i64 0:=by rw[c];simp
 have gd:g.df=[]:=by rw[c];simp
 have gr:g.ro=ro:=by rw[c];simp
 have go:∀a,Off ub a->g.ob a=ob a:=λa h=>by have:=h.ne;rw[c];simp(disch:=try exact zD)[this]
 clear c;obtain⟨J,B⟩:∃J:Nat->St->Prop,J=λi s=>s.tm 10=.int .i64 i/\m<s.nx/\s.ob (2*m+1)=some ⟨m,.cells (yv (orL (L.take i)))⟩/\∀a,Off ub a->s.ob a=ob a:=⟨_,rfl⟩;refine j5 [(5,5),(10,17)] L.length J rfl rfl ?_ ?_;rw[B];exact⟨by simpa using p,M,by simpa[orL] using Q,go⟩;clear p go Q M;intro i s hi l f;rw[B]at l;obtain⟨j,sm,x,I⟩:=l;have P:=(f.t 3 zS).trans g3;have T:=(f.t 8 zS).trans g8;have K:=(f.t 9 zS).trans U;have S:=f.d.trans gd;have sr:=f.r.trans gr;clear f;by_cases e:i<L.length;have z:=jP e zO;have n:i<(yt L).length:=by simpa[yt] using e
 have q:jt 1 (.sl t nl L.length ((yt L).flatMap yf)) (.int .i64 (i:Int))=some (.eptr ((yt L).flatMap yf) (i*1)):=by have:=JC j6 t nl (yt L) .i64 n;rwa [show(yt L).length=L.length by simp[yt]]at this
 have o:=jj (yt L) n;have D:(yt L)[i]=((L[i]:Nat):Int):=by simp[yt]
 rw[D]at o;have Z:=N _ (au e);have v:orL (L.take (i+1))=orL (L.take i)|||1<<<L[i]:=by rw[av e,jkb]
 have nm:∀k,s.nx<=k->¬m=k:=λk h=>by omega
 simp(disch:=try exact zD)[j,K,T,P,e,q,o];refine jJ (vs:=[.ptr (2*m+1) m 0,.int .i64 (L[i]:Nat)]) zS rfl (jts (w:=orL (L.take i)) (by simpa using x) (Off.new zL) (by simp[sr];omega) Z (orL_lt N i zO)) ?_;rintro v1 b0 X G ⟨_,F,H⟩;simp only at F H;have b5:s.nx<=G:=by first|omega|(simp at H;omega)
 simp(disch:=try exact zD)[j,z,e];rw[B];refine⟨zS,zL,?_,λa h=>?_⟩;have:=F (2*m+1) (Off.new zL);rw[zb rfl]at this;simpa[v] using this;have:=F a (h.up zL);rw[za (h m O)]at this;simpa[I a h] using this;have:i=L.length:=zO;subst this;rw[bg]at x;simp(disch:=try exact zD)[j,K,P];exact JL (by simp[S]) ⟨m,O,zL,zS,by simpa using x,λa h=>by simpa using I a h⟩
def eqC_set (v w:Nat):J9 [.int,.int,.int,.int,.int,.int,.int,.int] (yv v) (yv w)=some (v==w):=by simp only[J9,yv,Q0,zd,ah,aU,beq_self_eq_true,ep];congr 1;rw[bA];simp only[zh,Int.ofNat_inj]
def jtz {X x i:Nat}(h:i<8) (a:i≠0->x=0):j2 (yv X) i [.int .u64 (x:Int)]=yv (if i=0 then x else X):=by
 match i,h with
 |0,_=>rfl
 |1,_|2,_|3,_|4,_|5,_|6,_|7,_=>rw[a zQ];rfl
def sv298 {Yf:YF}{tk:Nat->Bool}{ro base a b v w:Nat}(ha:ob (2*a+1)=some ⟨a,.cells (yv v)⟩) (hb:ob (2*b+1)=some ⟨b,.cells (yv w)⟩) (la:a<ub) (lb:b<ub) (a0:ro<=a) (hv:v<2^64) (hw:w<2^64) :
 ∃r,EvS E Yf.y 298 [.ptr (2*a+1) a 0,.ptr (2*b+1) b 0] ob tk ro base ub r/\(ub<=r.2.2.2/\∀c,Off ub c->r.2.1 c=if c=2*a+1 then some ⟨a,.cells (yv (v|||w))⟩ else ob c):=by
 refine J6 rfl zQ ?_;show wpC E Yf S298.body _ (Jg S298.res _);have j:∀v,(yv v).length=8:=λ_=>rfl;have z:∀v,(yv v).take 8=yv v:=λ_=>rfl;have na:∀m,ub<=m->¬a=m:=λm Q=>by omega
 have nb:∀m,ub<=m->¬b=m:=λm Q=>by omega
 conv in(occs:=*)S298=>all_goals cbv
 simp(disch:=try exact zD)[S298,ya,ha,hb,j,yj,nb,z];refine⟨zO,by simp[yv,V.leaf],?_⟩;refine jQ λl g=>?_;obtain⟨p,u1,U,g5,T⟩:∃u,ub<=u/\u<l.nx/\l.tm 5=.ptr (2*u+1) u 0/\l.ob (2*u+1)=some ⟨u,.cells (yv v)⟩:=⟨ub+704,zO,by rw[g];first|omega|(simp;done)|(simp;omega),by rw[g];simp[aA],by rw[g];simp[aA,j2,j]⟩;have g0:l.tm 0=.ptr (2*a+1) a 0:=by rw[g];simp
 have O:l.tm 21=.agg (yv w):=by rw[g];simp
 have F:l.tm 22=.int .i64 0:=by rw[g];simp
 have gd:l.df=[]:=by rw[g];simp
 have gr:l.ro=ro:=by rw[g];simp
 have go:∀c,Off ub c->l.ob c=ob c:=λc n=>by have:=n.ne;rw[g];simp(disch:=try exact zD)[this]
 clear g;obtain⟨J,N⟩:∃J:Nat->St->Prop,J=λi s=>s.tm 22=.int .i64 i/\p<s.nx/\s.ob (2*p+1)=some ⟨p,.cells (yv v)⟩/\∀c,Off ub c->s.ob c=if c=2*a+1 then some ⟨a,.cells (yv (if i=0 then v else v|||w))⟩ else ob c:=⟨_,rfl⟩
 refine j5 [(6,7),(22,37)] 8 J rfl rfl ?_ ?_;rw[N];refine⟨by simpa using F,U,T,λc n=>?_⟩;rw[go c n];by_cases e:c=2*a+1;rw[zb e,e,ha];rfl;rw[za e];clear F go T U;intro i s hi x f;rw[N]at x;obtain⟨G,sm,sW,L⟩:=x;have Z:=(f.t 0 zS).trans g0;have s5:=(f.t 5 zS).trans g5;have P:=(f.t 21 zS).trans O;have sd:=f.d.trans gd;have sr:=f.r.trans gr;clear f;have I:=L (2*a+1) (Off.new la);rw[zb rfl]at I;have nw:∀m,s.nx<=m->¬p=m:=λm Q=>by omega
 have b5:∀m,s.nx<=m->¬a=m:=λm Q=>by omega
 by_cases h:i<8;have M:=jP h zQ;have K:(i:Int)<8:=zO;have o:jbx none 8 1 (.agg (yv w)) (.int .i64 (i:Int))=some (.int .u64 (if i=0 then w else 0:Nat)):=by have:=jor (w:=w) h;simp[jbx,K,Y0,this]
 have S:Wg 8 1 (.ptr (2*a+1) a 0) (.int .i64 (i:Int))=some (.ptr (2*a+1) a i):=by simp[Wg,K]
 obtain⟨X,H⟩:∃X,X=if i=0 then v else v|||w:=⟨_,rfl⟩
 rw[<- H]at I;have D:=jor (w:=X) h;have k:YL .or (.int .u64 ((if i=0 then X else 0:Nat):Int)) (.int .u64 ((if i=0 then w else 0:Nat):Int))=some (.int .u64 ((if i=0 then v|||w else 0:Nat):Int)):=by by_cases e:i=0;rw[zb e]at H;rw[zb e,zb e,zb e,H];exact jfp hv hw;rw[za e,za e,za e];exact jfp zQ zQ
 generalize b6:(if i=0 then w else 0:Nat)=x0 at o k;generalize b0:(if i=0 then X else 0:Nat)=x1 at D k;generalize q:(if i=0 then v|||w else 0:Nat)=x2 at k;simp(disch:=try exact zD)[G,P,Z,K,o,S,ya,I,D,k,j];refine⟨zO,?_⟩;simp(disch:=try exact zD)[M];rw[N];have B:j2 (yv X) i [.int .u64 (x2:Int)]=yv (v|||w):=by rw[jtz h λe=>by rw[<- q,za e],<- q,H];by_cases e:i=0;rw[zb e,zb e];rw[za e,za e]
 refine⟨zO,h,zS,zL,?_,λc n=>?_⟩;simp(disch:=try exact zD)[yj,show ¬p=a by omega,sW];by_cases e:c=2*a+1;simp[e,B];have:=L c n;rw[za e]at this;simp[e,this];have:i=8:=zO;subst this;simp(disch:=try exact zD)[G,Z,s5,ya,I,sW,j,z,eqC_set];exact JL (by simp[sd]) ⟨zL,λc n=>by simpa using L c n⟩
end
structure Rs (lo hi uL:Nat) (lu:List Nat) (m:Nat) (W:Nat->Nat) (ob:ZO):Prop where
 o:ob (2*uL+1)=some ⟨uL,.cells (lu.flatMap ptC++List.replicate m .nilptr)⟩
 s:∀i (h:i<lu.length),ob (2*lu[i]+1)=some ⟨lu[i],.cells (yv (W i))⟩
 n:lu.Nodup
 x:uL ∉ lu
 r:lo<=uL/\uL<hi
 rs:∀x∈lu,lo<=x/\x<hi
section
variable {lo hi hi' uL m:Nat}{lu:List Nat}{W:Nat->Nat}{ob ob':ZO}
def Rs.keep (h:Rs lo hi uL lu m W ob) (b:∀x,lo<=x->x<hi->ob' (2*x+1)=ob (2*x+1)) (c:hi<=hi'):Rs lo hi' uL lu m W ob' :=
 ⟨(b uL h.r.1 h.r.2).trans h.o,λi hi=>(b _ (h.rs _ (au hi)).1 (h.rs _ (au hi)).2).trans (h.s i hi),h.n,h.x,⟨h.r.1,aW h.r.2 c⟩,λx a=>⟨(h.rs x a).1,aW (h.rs x a).2 c⟩⟩
def Rs.congr (h:Rs lo hi uL lu m W ob) {a:Nat->Nat}(b:∀i,i<lu.length->a i=W i):Rs lo hi uL lu m a ob:=⟨h.o,λi hi=>by rw[b i hi];exact h.s i hi,h.n,h.x,h.r,h.rs⟩
def Rs.put (h:Rs lo hi uL lu m W ob) {a w:Nat}(c:a<lu.length) (g:ob' (2*lu[a]+1)=some ⟨lu[a],.cells (yv w)⟩) (b:∀x,lo<=x->x<hi->x≠lu[a]->ob' (2*x+1)=ob (2*x+1)) (d:hi<=hi'):Rs lo hi' uL lu m (λi=>if i=a then w else W i) ob':=by have j:lu[a]∈lu:=au c;refine⟨(b uL h.r.1 h.r.2 (λe=>h.x (e▸j))).trans h.o,λi hi=>?_,h.n,h.x,⟨h.r.1,aW h.r.2 d⟩,λx f=>⟨(h.rs x f).1,aW (h.rs x f).2 d⟩⟩;by_cases e:i=a;subst e;rw[zb rfl];exact g;rw[za e];have:=h.rs _ (au hi);exact(b _ this.1 this.2 λk=>e (jkg h.n hi c k)).trans (h.s i hi)
def Rs.add (h:Rs lo hi uL lu (m+1) W ob) {x:Nat}(d:ob' (2*uL+1)=some ⟨uL,.cells (j2 (lu.flatMap ptC++List.replicate (m+1) .nilptr) lu.length (ptC x))⟩) (g:ob' (2*x+1)=some ⟨x,.cells (yv (W lu.length))⟩) (j:∀y∈lu,ob' (2*y+1)=ob (2*y+1)) (p:hi<=x) (o:x<hi'):Rs lo hi' uL (lu++[x]) m W ob':=by
 have f:hi<=hi':=zO;have k:=h.r;have a:=j1 jj8 lu;refine⟨?_,λi hi=>?_,?_,?_,⟨h.r.1,aW h.r.2 f⟩,λy c=>?_⟩;rw[d];congr 3;unfold j2;rw[ek zO,List.drop_append,bC (by rw[a];simp[ptC])];simp[ptC,List.replicate_succ,a];by_cases e:i<lu.length;rw[fM e];exact(j _ (au e)).trans (h.s i e);have:i=lu.length:=by rw[ap,eu]at hi;omega
 subst this;rw[fE zK];simpa using g;rw[dc];exact⟨h.n,zS,λy c z l e=>by rw[ae]at l;have:=(h.rs y c).2;omega⟩;rw[aQ,ae];rintro(b|b);exact h.x b;omega;rw[aQ,ae]at c;rcases c with b|b;have:=h.rs y b;omega;omega
end
def WIs (n:Nat) (W:Nat->Nat) (f:Nat->Nat->Bool):Prop:=∀b,b<n->W b<2^n/\∀a,a<n->(W b).testBit a=f b a
def WIs.congr {n:Nat}{W:Nat->Nat}{f g:Nat->Nat->Bool}(h:WIs n W f) (e:∀b a,b<n->a<n->f b a=g b a):WIs n W g:=λb c=>⟨(h b c).1,λa d=>((h b c).2 a d).trans (e b a c d)⟩
def WIs.join {n:Nat}{W:Nat->Nat}{r:Nat->Nat->Bool}{k b:Nat}(h:WIs n W (fD2 r k b)) (o:k<n) (s:b<n) (q:(W b).testBit k=true):WIs n (λi=>if i=b then W b|||W k else W i) (fD2 r k (b+1)):=by
 intro c p;have g:=h b s;have j:=h k o;by_cases e:c=b;subst e;simp only[zd];refine⟨dJ g.1 j.1,λa d=>?_⟩;rw[eM,g.2 a d,j.2 a d];have f:war r k c k=true:=by have:=g.2 k o;rw[q]at this;simpa[fD2] using this.symm
 have t:fD2 r k c c a=war r k c a:=j6f r k c a;have u:fD2 r k c k a=war r k k a:=by unfold fD2;split;exact j1s r k a;rfl
 rw[t,u];unfold fD2;rw[zb zO,war,f,bM];simp only[za e];refine⟨(h c p).1,λa d=>?_⟩;rw[(h c p).2 a d];unfold fD2;by_cases l:c<b;rw[zb l,zb zO];rw[za l,za zO]
def jpp {Yf:YF}{f:FuncId}{xs:List A}{st:St}{ub:Nat}{K:St->Nat->Prop}{d:Option Nat}{nm:Bool}{vs:List V}{l:List Int}(e:xs.map (ye E st.tm)=vs) (c:E.sh nm f=false) (hp:(vs.all λv=>v.strip.pureTop)=false)
 (h:∃v,EvO E f vs st.ob st.tk ((st.fb+d.getD 0+1)*1024) ub v/\j1c l v) (g:∀t a add,QN K st d ub { v:=.sl t a l.length (l.flatMap yf),add:=add }):j8 E Yf ⟨d,.call f xs,none,nm⟩ st ub K:=by
 obtain⟨v,i,a,b⟩:=h;exact jN e c hp i (Jv b λt add=>g t a add)
section
variable {lo uG ut uf:Nat}{ue:Option Nat}{tu fu:List Nat}{WT WF:Nat->Nat}{T:List P2}{ob:ZO}{ub n:Nat}
def sv273 {Yf:YF}{tk:Nat->Bool}{ro base:Nat}(hG:Gr lo ub uG (some ut) (some uf) ue tu fu WT WF T ob) (e1:ro<=ub) (ht:tu.length=n) (h1:0<n) (h9:n<=9) {r:Nat->Nat->Bool}(hW:WIs n WT λb a=>r a b) :
 ∃q,EvS E Yf.y 273 [.ptr (2*uG+1) uG 0] ob tk ro base ub q/\∃uL lu W,q.1=.osl (2*uL+1) uL 0 n 1/\lu.length=n/\Rs ub q.2.2.2 uL lu 0 W q.2.1/\WIs n W (war r n):=by
 have hp:(2:Nat)^n<=512:=cl zQ h9;have b0:∀a,a<n->WT a<512:=λa ha=>aW (hW a ha).1 hp;refine J6 rfl zQ ?_;show wpC E Yf S273.body _ (Jg S273.res _);conv in(occs:=*)S273=>all_goals cbv
 simp(disch:=try exact zD)[S273];refine jN (vs:=[.ptr (2*uG+1) uG 0]) zS rfl rfl (evo178 (hG.keep (λx _ _=>by simp) zK) zO _ _) ?_;simp;refine jkq (n:=n) (by simp[ht]) (by simp[ht]) zO zO rfl zQ ?_;rw[jrg];simp;refine jQ λj g=>?_;obtain⟨uL,u1,u2,g3,gL⟩:∃u,ub<=u/\u<j.nx/\j.tm 3=.osl (2*u+1) u 0 n 1/\j.ob (2*u+1)=some ⟨u,.cells (List.replicate n .nilptr)⟩:=⟨ub+192,zO,by rw[g];first|omega|(simp;done)|(simp;omega),by rw[g];simp[aA],by rw[g];simp[aA]⟩;have g0:j.tm 0=.ptr (2*uG+1) uG 0:=by rw[g];simp
 have d3:j.tm 11=.int .i64 n:=by rw[g];simp
 have c8:j.tm 12=.int .i64 0:=by rw[g];simp
 have gd:j.df=[]:=by rw[g];simp
 have gr:j.ro=ro:=by rw[g];simp
 have go:∀z,Off ub z->j.ob z=ob z:=λz hk=>by have:=hk.ne;rw[g];simp(disch:=try exact zD)[this]
 clear g;obtain⟨J,hJ⟩:∃J:Nat->St->Prop,J=λi s=>s.tm 12=.int .i64 i/\ub<=s.nx/\(∃lu,lu.length=i/\Rs ub s.nx uL lu (n-i) WT s.ob)/\∀z,Off ub z->s.ob z=ob z:=⟨_,rfl⟩;refine j5 [(4,4),(12,22)] n J rfl rfl ?_ ?_;rw[hJ];exact⟨by simpa using c8,zO,⟨[],rfl,⟨by simpa using gL,λi hi=>(by simp at hi),ee,di,⟨u1,u2⟩,λx hx=>(by cases hx)⟩⟩,go⟩;clear c8 gL;intro i s hi b9 f;rw[hJ]at b9;obtain⟨O,sn,⟨lu,K,N⟩,so⟩:=b9;have s0:=(f.t 0 zS).trans g0;have s3:=(f.t 3 zS).trans g3;have S:=(f.t 11 zS).trans d3;have sd:=f.d.trans gd;have sr:=f.r.trans gr;have b7:Gr lo s.nx uG (some ut) (some uf) ue tu fu WT WF T s.ob:=hG.keep (λx _ h=>so _ (Off.new h)) sn;clear f;by_cases F:i<n
 ·have Q:=jP F zO;simp(disch:=try exact zD)[O,S,s3,s0,F];refine jpp (vs:=[.ptr (2*uG+1) uG 0,.int .i64 i]) zS rfl rfl (j6l (b7.keep (λx _ h=>?_) ?_) zK zO (b0 i F) _ _) λtt nl add=>?_;simp
  ·first|omega|(simp;done)|(simp;omega)
  have e2:=jax (WT i);simp;refine jJ (vs:=[.sl tt nl (yq (WT i)).length ((yt (yq (WT i))).flatMap yf)]) (by simp[J0]) rfl (sv151l (by simp[sr];omega) (λb hb=>?_) zO) ?_;have:=(bitsUp_mem.1 hb).1;omega;rintro v1 a0 d1 U ⟨x,q1,q2,rfl,q4,q5⟩;rw[j2s (b0 i F)]at q4;simp only at q1 q2 q4 q5;have d5:s.nx<=x:=by first|omega|(simp at q1;omega)
  have G:=N.o;have c6:=N.r;have c9:=jlg (l:=2*uL+1) (u:=uL) (kk:=.i64) F;have c1:∀y,y<s.nx->a0 (2*y+1)=s.ob (2*y+1):=λy hy=>by rw[q5 _ (Off.new zL)];simp
  have c4:a0 (2*uL+1)=_:=(c1 uL c6.2).trans G;have c7:=j1 jj8 lu;have d8:(lu.flatMap ptC++List.replicate (n-i) V.nilptr).length=n:=by rw[ap,List.length_replicate,c7];omega
  have d9:(lu.flatMap ptC).length+(n-i)=n:=by rw[c7];omega
  have nL:∀m,U<=m->¬uL=m:=λm hm=>by omega
  simp(disch:=try exact zD)[c9,ya,c4,d8,V.cells,V.leaf];refine⟨zO,zO,?_⟩;simp(disch:=try exact zD)[O,Q,F];rw[hJ];have d4:n-i=(n-(i+1))+1:=zO;rw[d4]at N ⊢;have d6:¬x=uL:=zO;refine⟨zS,zL,⟨lu++[x],by simp[K],N.add ?_ ?_ (λy hy=>?_) d5 zL⟩,λz hk=>?_⟩;simp[K,ptC];simp(disch:=try exact zD)[yj,d6,q4,K];have h3:=N.rs y hy;have:¬y=uL:=λe=>N.x (e▸hy);simp(disch:=try exact zD)[yj,this,c1 y h3.2];have h3:¬z=2*uL+1:=hk uL u1;simp[h3];rw[q5 z (hk.up zL)];simpa using so z hk
 ·have:i=n:=zO;subst this;simp(disch:=try exact zD)[O,S,s3];rw[fV]at N;refine jQ λj g=>?_;have g3:j.tm 3=.osl (2*uL+1) uL 0 i 1:=by rw[g];simp[s3]
  have c5:j.tm 24=.int .i64 i:=by rw[g];simp
  have I:j.tm 25=.int .i64 0:=by rw[g];simp
  have gd:j.df=[]:=by rw[g];simp[sd]
  have gr:j.ro=ro:=by rw[g];simp[sr]
  have gn:ub<=j.nx:=by rw[g];first|omega|(simp;done)|(simp;omega)
  have gR:Rs ub j.nx uL lu 0 WT j.ob:=N.keep (λx _ _=>by rw[g];simp) (by rw[g];first|omega|(simp;done)|(simp;omega));clear g N b7 O s0 s3 S sd sr;obtain⟨J2,X⟩:∃J2:Nat->St->Prop,J2=λk s=>s.tm 25=.int .i64 k/\ub<=s.nx/\∃W,Rs ub s.nx uL lu 0 W s.ob/\WIs i W (war r k):=⟨_,rfl⟩;refine j5 [(5,6),(25,49)] i J2 rfl rfl (by rw[X];exact⟨by simpa using I,gn,WT,gR,hW⟩) ?_;clear I gn gR;intro k p hk b8 f;rw[X]at b8;obtain⟨Z,pn,W,pR,pW⟩:=b8;have p3:=(f.t 3 zS).trans g3;have P:=(f.t 24 zS).trans c5;have pd:=f.d.trans gd;have pr:=f.r.trans gr;clear f;by_cases D:k<i
  ·have Q:=jP D zO;simp(disch:=try exact zD)[Z,P,p3,D];refine jQ λj g=>?_;have g3:j.tm 3=.osl (2*uL+1) uL 0 i 1:=by rw[g];simp[p3]
   have g5:j.tm 5=.int .i64 k:=by rw[g];simp
   have c5:j.tm 24=.int .i64 i:=by rw[g];simp[P]
   have I:j.tm 25=.int .i64 k:=by rw[g];simp[Z]
   have d2:j.tm 29=.int .i64 i:=by rw[g];simp
   have b6:j.tm 30=.int .i64 0:=by rw[g];simp
   have gd:j.df=[]:=by rw[g];simp[pd]
   have gr:j.ro=ro:=by rw[g];simp[pr]
   have gn:ub<=j.nx:=by rw[g];first|omega|(simp;done)|(simp;omega)
   have gR:Rs ub j.nx uL lu 0 W j.ob:=pR.keep (λx _ _=>by rw[g];simp) (by rw[g];first|omega|(simp;done)|(simp;omega));clear g pR;obtain⟨J3,M⟩:∃J3:Nat->St->Prop,J3=λb s=>s.tm 30=.int .i64 b/\ub<=s.nx/\∃W,Rs ub s.nx uL lu 0 W s.ob/\WIs i W (fD2 r k b):=⟨_,rfl⟩;refine j5 [(6,6),(30,48)] i J3 rfl rfl (by rw[M];exact⟨by simpa using b6,gn,W,gR,pW.congr λb a _ _=>(j40 r k b a).symm⟩) ?_;clear b6 gn gR;intro b q hb c2 f;rw[M]at c2;obtain⟨H,qn,W,L,qW⟩:=c2;have q3:=(f.t 3 zS).trans g3;have q5:=(f.t 5 zS).trans g5;have d7:=(f.t 25 zS).trans I;have c3:=(f.t 29 zS).trans d2;have qd:=f.d.trans gd;have qr:=f.r.trans gr;clear f;by_cases B:b<i;have c0:=jP B zO;have G:=L.o;have c6:=L.r;rw[fg,aL]at G;have x1:=jlg (l:=2*uL+1) (u:=uL) (kk:=.i64) B;have x2:=jj7 (l:=lu) (i:=b) zO;have x3:=jlg (l:=2*uL+1) (u:=uL) (kk:=.i64) D;have x4:=jj7 (l:=lu) (i:=k) zO;have nL:∀m,q.nx<=m->¬uL=m:=λm hm=>by omega
   have b5:=L.s b zO;have d0:=L.s k zO;have lb:=L.rs _ (au (show b<lu.length by omega));have lk:=L.rs _ (au (show k<lu.length by omega));have wb:=aW (qW b B).1 hp;have wk:=aW (qW k D).1 hp;simp(disch:=try exact zD)[H,c3,q3,q5,B,x1,x2,ya,G];refine jN (vs:=[.ptr (2*lu[b]+1) lu[b] 0,.int .i64 k]) zS rfl rfl (jg5 (w:=W b) (by simpa using b5) (Off.new zL) zO zO _ _) ?_;cases hh:(W b).testBit k;simp(disch:=try exact zD)[H,c0,B];rw[M];refine⟨zS,zL,W,L.keep (λx _ _=>by simp) zL,qW.congr λc a _ _=>j41 ?_ c a⟩;have:=(qW b B).2 k D;rw[hh,j6f]at this;exact this.symm;simp(disch:=try exact zD)[q3,q5,x1,x2,x3,x4,ya,G];refine jJ (vs:=[.ptr (2*lu[b]+1) lu[b] 0,.ptr (2*lu[k]+1) lu[k] 0]) zS rfl (sv298 (v:=W b) (w:=W k) (by simpa using b5) (by simpa using d0) zL zL (by simp[qr];omega) zO zO) ?_;rintro v1 a0 d1 U ⟨r1,r2⟩;simp only at r1 r2;have e0:q.nx<=U:=by first|omega|(simp at r1;omega)
   simp(disch:=try exact zD)[H,c0,B];rw[M];refine⟨zS,zL,_,L.put (a:=b) (w:=W b|||W k) zO ?_ (λx _ h2 h3=>?_) zL,qW.join D B hh⟩;have:=r2 (2*lu[b]+1) (Off.new zL);rw[zb rfl]at this;simpa using this;have:=r2 (2*x+1) (Off.new zL);rw[za zO]at this;simpa using this;have:b=i:=zO;subst this;simp(disch:=try exact zD)[H,c3,d7,Q,D];rw[X];exact⟨zS,zL,W,L.keep (λx _ _=>by simp) zL,qW.congr λc a hc _=>j97 hc a⟩
  have:k=i:=zO;subst this;simp(disch:=try exact zD)[Z,P,p3];exact JL (by simp[pd]) ⟨uL,zS,lu,K,W,pR.keep (λx _ _=>by simp) zL,pW⟩
end
def edB (L:List P2) (x y:Nat):Bool:=L.contains ((y:Int),(x:Int))
def FromR (w:Nat) (v:V):Prop:=∃nl,TupS [.sl none nl (yt (yq w)).length ((yt (yq w)).flatMap yf),.int .i64 0] v
section
variable {ob:ZO}{ub n:Nat}{v:V}{L:List P2}
def evo222 (G:0<n) (z:n<=9) (hv:EdA ub ob v L) (k:InG n L) (Q:L.length<=10000) {t:Nat}(D:t<n) (tk:Nat->Bool) (base:Nat) :
 ∃q,EvO E 222 [.int .i64 (n:Int),.int .i64 (t:Int),v] ob tk base ub q/\∃w,(w<2^n/\∀a,a<n->w.testBit a=war (edB L) n t a)/\FromR w q:=by
 have hp:(2:Nat)^n<=512:=cl zQ z;have B:¬(t:Int)<0:=zO;have j:¬(n:Int)<=t:=zO;have c:¬(n<=t):=zO;refine jb3 rfl zQ ?_;conv in(occs:=*)S222=>all_goals cbv
 simp(disch:=try exact zD)[S222];refine jJ (vs:=[.int .i64 n,v]) zS rfl (j7h ?_ G z (hv.up zS ?_) k Q) ?_;simp;omega
 ·first|omega|(simp;done)|(simp;omega)
 rintro v1 U J b0 ⟨F,ut,uf,ue,tu,fu,T,rfl,I,m,b5,hT,P,p⟩;simp only at I P p;simp(disch:=try exact zD)[B,j,c];refine jJ (vs:=[.ptr (2*F+1) F 0]) zS rfl (sv273 (n:=n) (r:=edB L) (I.keep (λx _ _=>?_) ?_) ?_ m G z (λb _=>⟨(W2 k b).1,λa _=>(W2 k b).2 a⟩)) ?_;simp
 ·first|omega|(simp;done)|(simp;omega)
 ·first|omega|(simp;done)|(simp;omega)
 rintro v2 K N O ⟨H,f,W,rfl,a0,d,M⟩;simp only at d;have e:=d.o;rw[fg,aL]at e;have S:=d.r;have x1:=jlg (l:=2*H+1) (u:=H) (kk:=.i64) D;have x2:=jj7 (l:=f) (i:=t) zO;have X:=d.s t zO;have ls:=d.rs _ (au (show t<f.length by omega));have ws:=M t D;simp(disch:=try exact zD)[x1,x2,ya,e];obtain⟨y,g⟩:=numR_intsV (yt (yq (W t)));refine jN (vs:=[.ptr (2*f[t]+1) f[t] 0]) zS rfl rfl (jje (w:=W t) (by simpa using X) (Off.new zL) zO _ _) ?_;refine Jv g λZ add=>?_;simp;refine jhx (ns:=[6,7]) (ls:=[.sl none y (yt (yq (W t))).length ((yt (yq (W t))).flatMap yf),.int .i64 0]) (λr h=>⟨W t,ws,y,h⟩) zS rfl zS zS ?_;simp;exact⟨XP rfl (ja _ Z y _ _),jM rfl,trivial⟩
end
section
variable {g:Hist'}{M:List Int}{mn rn:Bool}{rt:Option (Nat × Nat)}{kX uX lo:Nat}{ob:ZO}{ub:Nat}{L:List P2}
def srcL (g:Hist') (M:List Int) (i:Nat):List P2:=(List.range i).map (j08 g M)
def jwv (g:Hist') (M:List Int) (i:Nat):srcL g M (i+1)=srcL g M i++[j08 g M i]:=by unfold srcL;rw[cV,bE];rfl
def jjv (g:Hist') (M:List Int) (i:Nat):(srcL g M i).length=i:=by simp[srcL]
def rdV (rt:Option (Nat×Nat)) (rn:Bool) (R:List (Int×Int)):V:=.sl rt rn R.length (R.flatMap jC)
def sv116 {Yf:YF}{tk:Nat->Bool}{ro base:Nat}(hX:MkR g (yl mn yf M) (rdV rt rn (yi g)) kX uX lo ob ub L) (hm:W7 g M=true) (l:Off lo kX) (P:lo<=ub) (b0:ro<=lo) (b7:ro<=uX) (hl:L.length<=10000) (hR:(yi g).length<=10000) :
 ∃r,EvS E Yf.y 116 [.ptr kX uX 0] ob tk ro base ub r/\ub<=r.2.2.2/\MkR g (yl mn yf M) (rdV rt rn (yi g)) kX uX lo r.2.1 r.2.2.2 (L++srcL g M (yi g).length)/\∀c,Off lo c->c≠kX->r.2.1 c=ob c:=by
 have b6:=XV hm;obtain⟨b8,o,_⟩:=id hX;refine J6 rfl zQ ?_;show wpC E Yf S116.body _ (Jg S116.res _);conv in(occs:=*)S116=>all_goals cbv
 simp(disch:=try exact zD)[S116,ya,o,mkS,yb,rdV];refine jQ λm h=>?_;have g0:m.tm 0=.ptr kX uX 0:=by rw[h];simp
 have g7:m.tm 7=rdV rt rn (yi g):=by rw[h];simp[rdV]
 have g8:m.tm 8=.int .i64 (yi g).length:=by rw[h];simp
 have g9:m.tm 9=.int .i64 0:=by rw[h];simp
 have gd:m.df=[]:=by rw[h];simp
 have gr:m.ro=ro:=by rw[h];simp
 have S:ub<=m.nx:=by rw[h];first|omega|(simp;done)|(simp;omega)
 have go:m.ob=ob:=by rw[h];simp
 clear h;obtain⟨J,O⟩:∃J:Nat->St->Prop,J=λi s=>s.tm 9=.int .i64 i/\MkR g (yl mn yf M) (rdV rt rn (yi g)) kX uX lo s.ob s.nx (L++srcL g M i)/\ub<=s.nx/\∀c,Off lo c->c≠kX->s.ob c=ob c:=⟨_,rfl⟩;refine j5 [(2,3),(9,25)] (yi g).length J rfl rfl ?_ ?_;rw[O];exact⟨by simpa using g9,by simpa[srcL] using hX.keep (λc _=>by rw[go]) (l.up P) S,S,λc _ _=>by rw[go]⟩;clear o g9 go S;intro i s hi q f;rw[O]at q;obtain⟨F,U,sn,so⟩:=q;have s0:=(f.t 0 zS).trans g0;have s7:=(f.t 7 zS).trans g7;have Z:=(f.t 8 zS).trans g8;have sd:=f.d.trans gd;have sr:=f.r.trans gr;clear f;by_cases j:i<(yi g).length;have K:=jP j zO;have n:i<M.length:=zO;obtain⟨lv,B,_⟩:=id U;have oX:=(l.up (show lo<=s.nx by omega)).ne;have x:=JC jR rt rn (yi g) .i64 j;have v:=λob=>Yq (yi g) ob j;have I:=j4 j6 mn M .i64 n;have H:=jj M n;have T:=jwv g M i;have D:j08 g M i=(Jf g M[i],(yi g)[i].1):=by unfold j08;simp[ay,aa n,aa j]
 have G:=jjv g M i;generalize hp:(yi g)[i]=p at *;obtain⟨a,b⟩:=p;simp only at v;simp(disch:=try exact zD)[F,Z,s7,s0,j,rdV,x,v,ya,j2,yj];refine⟨by first|omega|(simp[sr];omega),?_⟩;simp(disch:=try exact zD)[s0,ya,j2,yj,B,mkS,yb,oX,I,H];refine jJ (vs:=[.ptr kX uX 0,.int .i64 M[i],.int .i64 a]) zS rfl (sv168 (L:=L++srcL g M i) (lo:=lo) (U.keep (λc l=>?_) (l.up zO) zL) l zL (by first|omega|(simp[sr];omega)) (by first|omega|(simp[sr];omega)) (by rw[ap,G];omega) _ _) ?_;have:=l.ne;simp(disch:=try exact zD)[this];rintro v1 b5 a0 N ⟨r1,Q,X⟩;simp only at r1 Q X;have q1:s.nx<=N:=by first|omega|(simp at r1;omega)
 have z:Jf g (a:Int)=a:=by
  unfold Jf;obtain⟨k,l,_⟩:=jif j;have e:(yi g).getD i (0,0)=(a,b):=by simp[ay,aa j,hp]
  rw[e]at l;have:a=(k:Int):=l;rw[za zO]
 rw[aY,z,<- D,<- T]at Q;simp(disch:=try exact zD)[F,K,j];rw[O];refine⟨zS,Q.keep (λc _=>by simp) (l.up zO) zL,zL,λc u w=>?_⟩;have h3:=(u.up (show lo<=s.nx by omega)).ne;simp;rw[X c u w];simp(disch:=try exact zD)[h3];exact so c u w;have:i=(yi g).length:=zO;subst this;simp(disch:=try exact zD)[F,Z];exact jfj (.inl rfl) (by simp[sd]) ⟨zL,U.keep (λc _=>by simp) (l.up zO) zL,λc u w=>by simpa using so c u w⟩
end
end Go.Pv.T
