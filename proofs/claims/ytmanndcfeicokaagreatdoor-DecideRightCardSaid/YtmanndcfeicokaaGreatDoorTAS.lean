/- Part. -/
import Derived.Test.YtmanndcfeicokaaGreatDoorTAR
set_option maxRecDepth 100000
set_option maxHeartbeats 8000000
set_option linter.all false
namespace Go.Pv.T
open Go Go.Pv
def XG (o:Option Nat):List Nat:=match o with
 |none=>[]
 |some u=>[2*u+1]
def jgw {st:St}{ub:Nat}{K:List FP->St->Prop}{d:Option Nat}{r:List AOpr}{ut:Option Nat}{tu:List Nat}{a:Nat}{s x:A}(f:ye E st.tm s=slU ut tu.length 1) (i:∀u,ut=some u->st.ob (2*u+1)=some ⟨u,.cells (tu.flatMap ptC)⟩/\st.ro<=u) (m:ut=none->tu=[])
 (g:jF st.ob 1 (ye E st.tm x)=some (ptC a)) (n:tu.length<=1000000)
 (h:YW E r K (ye E st.tm) (.append true 1 8 s x) st d ub { v:=.osl (2*ub+1) ub 0 (tu.length+1) 1,obs:=[(2*ub+1,⟨ub,.cells ((tu++[a]).flatMap ptC)⟩)],kill:=XG ut }):jG E (⟨d,.append true 1 8 s x,none,true⟩::r) st ub K:=by
 rw[jz rfl];have b:ptC a≠[]:=by simp[ptC]
 have c:(ptC a).all V.leaf=true:=rfl;have j:=j4 jkl tu;cases ut with
 |none=>have:=m rfl;subst this;simp only[yS,f,slU,g,ap,za b,di,zd,Jm,Yz];rw[zb ⟨zQ,c,by simp[ptC],by simp[ptC]⟩];simp only[Jo,jJ];simpa[ptC,XG] using h
 |some u=>
  obtain⟨k,l⟩:=i u rfl;have e:j0 st.ob (2*u+1) u=some (tu.flatMap ptC):=by simp[j0,k]
  simp only[yS,f,slU,g,e,ap,za b,Jm,Yz];rw[zb ⟨bY▸l,trivial,trivial,zO,zQ,c,by simp[ptC];omega,by simp[ptC];omega⟩,jJ];rw[show(tu.flatMap ptC).take (tu.length*1)=tu.flatMap ptC from aJ zO];simpa[ptC,XG,cn] using h
def j88 (l u o:Nat):yP (.ptr l u o)=[l]:=rfl
def j89 (l u o n z:Nat):yP (.osl l u o n z)=[l]:=rfl
def beqN {a b:Nat}(h:¬a=b):Nat.beq (2*a+1) (2*b+1)=false:=Ju zO
def j0o (a:Nat) (x y:List Nat):QR (a::x) y=(!(y.any λb=>Nat.beq a b)&&QR x y):=by simp[QR,Bool.not_or]
def j5d (y:List Nat):QR [] y=true:=rfl
def j5e (x a y:List Nat):QR (x++a) y=(QR x y&&QR a y):=by simp[QR,eW,Bool.not_or]
section
variable {ob:ZO}{ub:Nat}
def PgR (ob:ZO) (ub n:Nat) (WT WF:Nat->Nat) (k:Nat) (r:V×(ZO)×(Nat->Bool)×Nat):Prop :=
 ∃uG ut uf ue tu fu T,r.1=.tup [.ptr (2*uG+1) uG 0,.int .i64 0]/\Gr ub r.2.2.2 uG (some ut) (some uf) ue tu fu WT WF T r.2.1/\tu.length=n/\fu.length=n/\T.length<=k/\ub<=r.2.2.2/\∀key,Off ub key->r.2.1 key=ob key
def sv175 {Yf:YF}{tk:Nat->Bool}{ro base n:Nat}(c3:ro<=ub) (U:0<n) (h9:n<=9):∃r,EvS E Yf.y 175 [.int .i64 (n:Int)] ob tk ro base ub r/\PgR ob ub n (λ_=>0) (λ_=>0) 0 r:=by
 refine JI rfl zQ ?_;show wpC E Yf S175.body _ (Jw S175.res _);have c1:¬(n:Int)<0:=zO;have a0:¬(500:Int)<n:=zO;conv in(occs:=*)S175=>all_goals cbv
 simp(disch:=try exact zD)[S175,c1,a0,V.cells,j6];refine jg λD l=>?_;obtain⟨q,u1,u2,g4,gG⟩:∃u,ub<=u/\u<D.nx/\D.tm 4=.ptr (2*u+1) u 0/\D.ob (2*u+1)=some ⟨u,.cells [.sl none true 0 [],.sl none true 0 [],.sl none true 0 [],.bool true]⟩:=by refine⟨ub+576,zO,by rw[l];first|omega|(simp;done)|(simp;omega),by rw[l];simp,by rw[l];simp[aI]⟩
 have c0:D.tm 13=.int .i64 n:=by rw[l];simp
 have N:D.tm 14=.int .i64 0:=by rw[l];simp
 have gd:D.df=[]:=by rw[l];simp
 have gr:D.ro=ro:=by rw[l];simp
 have go:∀g,Off ub g->D.ob g=ob g:=λg v=>by have:=v.ne;rw[l];simp(disch:=try exact zD)[this]
 clear l;obtain⟨J,hJ⟩:∃J:Nat->St->Prop,J=λi s=>s.tm 14=.int .i64 i/\(∃ut k tu K,Gr ub s.nx q ut k none tu K (λ_=>0) (λ_=>0) [] s.ob/\tu.length=i/\K.length=i/\((ut=none/\k=none/\i=0)\/∃a b,ut=some a/\k=some b))/\ub<=s.nx/\∀g,Off ub g->s.ob g=ob g:=⟨_,rfl⟩;refine j9 [(14,36)] n J rfl rfl ?_ ?_;rw[hJ];refine⟨by simpa using N,⟨none,none,[],[],⟨by simpa[slU] using gG,λu h=>(by cases h),λu h=>(by cases h),λu h=>(by cases h),⟨λ_=>rfl,λ_=>rfl,λ_=>rfl⟩,λi h=>(by simp at h),λi h=>(by simp at h),dH,dH,λx h=>(by simp at h),λx h=>(by simp at h),⟨zS,zS,zS⟩,λx h=>(by cases h),λx h=>(by cases h),⟨u1,u2⟩,λx h=>(by simp at h),λx h=>(by simp at h)⟩,rfl,rfl,.inl ⟨rfl,rfl,rfl⟩⟩,zO,go⟩;clear N go gG u2;intro i s hi O f;rw[hJ]at O;obtain⟨I,⟨ut,k,tu,K,j,ht,hf,p⟩,sn,so⟩:=O;have s4:=(f.t 4 zS).trans g4;have T:=(f.t 13 zS).trans c0;have sd:=f.d.trans gd;have sr:=f.r.trans gr;clear f;by_cases G:i<n;have b0:=jb G zO;have F:=j.o;have b5:=j.rG;have nG:∀m,s.nx<=m->¬q=m:=λm w=>by omega
 have kt:∀m,s.nx<=m->(XG ut).any (Nat.beq (2*m+1))=false:=λm w=>by
  cases ut with
  |none=>rfl
  |some u=>have:=j.rL u (.inl rfl);simp only[XG,bJ,ce,bI];exact Ju zO
 have X:∀m,s.nx<=m->(XG k).any (Nat.beq (2*m+1))=false:=λm w=>by
  cases k with
  |none=>rfl
  |some u=>have:=j.rL u (.inr (.inl rfl));simp only[XG,bJ,ce,bI];exact Ju zO
 have H:∀x,ut≠some x->(XG ut).any (Nat.beq (2*x+1))=false:=λx hx=>by
  cases ut with
  |none=>rfl
  |some u=>simp only[XG,bJ,ce,bI];exact Ju λe=>hx (by rw[show x=u by omega])
 have M:∀x,k≠some x->(XG k).any (Nat.beq (2*x+1))=false:=λx hx=>by
  cases k with
  |none=>rfl
  |some u=>simp only[XG,bJ,ce,bI];exact Ju λe=>hx (by rw[show x=u by omega])
 have b7:∀g,Off ub g->(XG ut).any (Nat.beq g)=false:=λg v=>by
  cases ut with
  |none=>rfl
  |some u=>have:=j.rL u (.inl rfl);simp only[XG,bJ,ce,bI];exact Ju (v u this.1)
 have b6:∀g,Off ub g->(XG k).any (Nat.beq g)=false:=λg v=>by
  cases k with
  |none=>rfl
  |some u=>have:=j.rL u (.inr (.inl rfl));simp only[XG,bJ,ce,bI];exact Ju (v u this.1)
 simp(disch:=try exact zD)[I,T,s4,G,j0,F];refine jsh zS rfl rfl rfl ?_;simp;refine YB (cs:=ptC (s.nx+448)) (by simp[j6,ptC,aI,V.cells,V.leaf]) rfl rfl ?_;simp;refine jgw (ut:=ut) (tu:=tu) (a:=s.nx+448) zS (λu L=>?_) j.z.1 (by simp[jF,j0,ptC,aI]) zO ?_;have:=j.rL u (.inl L);have nu:∀m,s.nx<=m->¬u=m:=λm w=>by omega
 refine⟨?_,by simp[sr];omega⟩;simp(disch:=try exact zD)[yj,nu,j.t u L];have k1:=H q j.nG.1;simp(disch:=try exact zD)[jK,j0,F,yj,nG,k1,s4];refine jsh zS rfl rfl rfl ?_;simp;refine YB (cs:=ptC (s.nx+896)) (by simp[j6,ptC,aI,V.cells,V.leaf]) rfl rfl ?_;simp;refine jgw (ut:=k) (tu:=K) (a:=s.nx+896) zS (λu L=>?_) j.z.2.1 (by simp[jF,j0,ptC,aI]) zO ?_;have:=j.rL u (.inr (.inl L));have nu:∀m,s.nx<=m->¬u=m:=λm w=>by omega
 have k2:=H u λe=>(j.nU u e).1 L;refine⟨?_,by simp[sr];omega⟩;simp(disch:=try exact zD)[jK,yj,nu,j.f u L,k2];have k3:=M q j.nG.2.1;simp(disch:=try exact zD)[jK,j0,F,yj,nG,k1,k3,j6];have b8:(∀m,s.nx<=m->Nat.beq (2*q+1) (2*m+1)=false)/\(∀m,s.nx<=m->Nat.beq (2*m+1) (2*q+1)=false):=⟨λm w=>Ju zO,λm w=>Ju zO⟩;obtain⟨P,Q⟩:=b8;have S:∀o:Option Nat,(o=ut\/o=k)->∀n,yP (slU o n 1)=XG o/\uOf (slU o n 1)=[]:=λo _ n=>by cases o<;>exact⟨rfl,rfl⟩
 have hd1:=S ut (.inl rfl);have Z:=S k (.inr rfl);have kk:(XG ut).any (λa=>(XG k).any λb=>Nat.beq a b)=false/\(XG k).any (λa=>(XG ut).any λb=>Nat.beq a b)=false:=by
  rcases p with⟨rfl,rfl,rfl⟩|⟨a,b,rfl,rfl⟩;exact⟨rfl,rfl⟩;have:=(j.nU a rfl).1;have c2:a≠b:=λe=>this (by rw[e])
  simp only[XG,bJ,ce,bI];exact⟨Ju zO,Ju zO⟩
 have c5:∀m,s.nx<=m->(XG ut).any (λa=>Nat.beq a (2*m+1))=false:=λm w=>by
  cases ut with
  |none=>rfl
  |some u=>have:=j.rL u (.inl rfl);simp only[XG,bJ,ce,bI];exact Ju zO
 have c4:∀m,s.nx<=m->(XG k).any (λa=>Nat.beq a (2*m+1))=false:=λm w=>by
  cases k with
  |none=>rfl
  |some u=>have:=j.rL u (.inr (.inl rfl));simp only[XG,bJ,ce,bI];exact Ju zO
 have b9:(XG ut).any (λa=>Nat.beq a (2*q+1))=false/\(XG k).any (λa=>Nat.beq a (2*q+1))=false:=by rcases p with⟨rfl,rfl,rfl⟩|⟨a,b,rfl,rfl⟩;exact⟨rfl,rfl⟩;have U:=j.nG;simp only[XG,bJ,ce,bI];exact⟨Ju λe=>U.1 (by rw[show a=q by omega]),Ju λe=>U.2.1 (by rw[show b=q by omega])⟩
 refine⟨zO,by simp(disch:=try exact zD)[Jc,W6,QR,Qe,yy,yz,yP,uOf,Delta.wo,Delta.wt,P,Q,b9],jr2 (by simp(disch:=try exact zD)[jm2,ji4,QI,j0o,j5d,j5e,Qe,yy,yz,j88,j89,Delta.wo,Delta.wt,P,Q,hd1,Z,kt,X,k1,k3,beqN]),?_⟩;simp(disch:=try exact zD)[I,b0,G];rw[hJ];have B:∀m,s.nx<=m->¬m=q:=λm w=>by omega
 refine⟨zS,⟨some (s.nx+576),some (s.nx+1024),tu++[s.nx+448],K++[s.nx+896],j.node (a:=s.nx+448) (b:=s.nx+576) (c:=s.nx+896) (d:=s.nx+1024) ?_ ?_ ?_ ?_ ?_ (λy U h2 h3 h4 h5=>?_) ⟨zO,zO,zO,zO,zL⟩,by simp[ht],by simp[hf],.inr ⟨_,_,rfl,rfl⟩⟩,zL,λg v=>?_⟩;simp(disch:=try exact zD)[slU,aI];simp(disch:=try exact zD)[jK,yj,B,X,aI];simp(disch:=try exact zD)[jK,yj,B,aI];simp(disch:=try exact zD)[jK,yj,B,kt,X,aI,jce];simp(disch:=try exact zD)[jK,yj,B,X,aI,jce];have ny:∀m,s.nx<=m->¬y=m:=λm w=>by omega
 have q1:=H y h4;have q2:=M y h5;simp(disch:=try exact zD)[jK,yj,ny,q1,q2,h3];have q1:=b7 g v;have q2:=b6 g v;have q3:=(v.up (show ub<=s.nx by omega)).ne;have q4:¬g=2*q+1:=v q b5.1;simp(disch:=try exact zD)[jK,q1,q2,q3,q4];exact so g v;have:i=n:=zO;subst this;simp(disch:=try exact zD)[I,T,s4];rcases p with⟨_,_,rfl⟩|⟨a,b,rfl,rfl⟩;omega;refine jc3 (by simp[sd]) ⟨q,a,b,none,tu,K,[],zS,j.keep (λx _ _=>by simp) zL,ht,hf,zS,zL,λg v=>by simpa using so g v⟩
end
section
variable {lo hi uG:Nat}{ut uf:Nat}{ue:Option Nat}{tu fu:List Nat}{WT WF:Nat->Nat}{T:List P2}{ob:ZO}{ub:Nat}
def j0k (b:Gr lo hi uG (some ut) (some uf) ue tu fu WT WF T ob) (e:hi<=ub) (tk:Nat->Bool) (base:Nat):EvO E 233 [.ptr (2*uG+1) uG 0] ob tk base ub (.bool true):=by
 have a:=b.o;have d:∀m,ub<=m->¬uG=m:=λm c=>by have:=b.rG;omega
 refine J1 rfl ?_;conv in(occs:=*)S233=>all_goals cbv
 simp(disch:=try exact zD)[S233,j0,a];exact j5 zS zS rfl
def jns (c:Gr lo hi uG (some ut) (some uf) ue tu fu WT WF T ob) (d:hi<=ub) (a:Int) (tk:Nat->Bool) (base:Nat):EvO E 234 [.ptr (2*uG+1) uG 0,.int .i64 a] ob tk base ub (.bool (decide (0<=a)&&decide (a<tu.length))):=by
 have b:=c.o;have f:∀m,ub<=m->¬uG=m:=λm e=>by have:=c.rG;omega
 refine J1 rfl ?_;conv in(occs:=*)S234=>all_goals cbv
 simp(disch:=try exact zD)[S234,j0,b];refine jW (vs:=[.ptr (2*uG+1) uG 0]) zS rfl rfl (j0k (c.keep (λx _ _=>by simp) d) zO _ _) ?_;by_cases h:0<=a;simp(disch:=try exact zD)[j0,b,slU,h];exact j5 zS zS rfl;simp(disch:=try exact zD)[j0,b,slU,h];exact j5 zS zS rfl
def jkk {l:List Nat}{i:Nat}(h:i<l.length):(l.flatMap ptC)[i]? = some (.ptr (2*l[i]+1) l[i] 0):=by have:=jZ jkl l h (by decide:0<1);rw[bB,bp]at this;rw[this];rfl
def evo235 (c:Gr lo hi uG (some ut) (some uf) ue tu fu WT WF T ob) (h:hi<=ub) {a b:Nat}(e:a<tu.length) (j:b<64) (g:WT a<2^64) (tk:Nat->Bool) (base:Nat):EvO E 235 [.ptr (2*uG+1) uG 0,.int .i64 (a:Int),.int .i64 (b:Int)] ob tk base ub (.bool ((WT a).testBit b)):=by
 have d:=c.o;have f:=c.t ut rfl;have v:∀m,ub<=m->¬uG=m:=λm r=>by have:=c.rG;omega
 have i:∀m,ub<=m->¬ut=m:=λm r=>by have:=c.rL ut (.inl rfl);omega
 have p:=c.st a e;have q:=c.rS tu[a] (.inl (au e));have s:=jp6 (l:=2*ut+1) (u:=ut) (kk:=.i64) e;have z:=jkk e;have y:((a:Int)<(tu.length:Int)):=zO;refine J1 rfl ?_;conv in(occs:=*)S235=>all_goals cbv
 simp(disch:=try exact zD)[S235,j0,d];refine jW (vs:=[.ptr (2*uG+1) uG 0,.int .i64 a]) zS rfl rfl (jns (c.keep (λx _ _=>by simp) h) zO _ _ _) ?_;simp(disch:=try exact zD)[j0,d,slU,e,yj,v,i,f,s,z];refine jW (vs:=[.ptr (2*tu[a]+1) tu[a] 0,.int .i64 b]) zS rfl rfl (jg9 (w:=WT a) (by simpa using p) (Off.new zO) j g _ _) ?_;simp;exact j5 zS zS rfl
end
section
variable {ub n k:Nat}{uG ut uf:Nat}{ue:Option Nat}{tu fu:List Nat}{WT WF:Nat->Nat}{T:List P2}{lo:Nat}{ob:ZO}
def GPut (lo:Nat) (ob:ZO) (ub uG ut uf:Nat) (tu fu:List Nat) (WT WF:Nat->Nat) (k:Nat) (r:V×(ZO)×(Nat->Bool)×Nat):Prop :=
 ∃bb ue T,r.1=.tup [.bool bb,.int .i64 0]/\Gr lo r.2.2.2 uG (some ut) (some uf) ue tu fu WT WF T r.2.1/\T.length<=k/\ub<=r.2.2.2/\∀key,Off lo key->r.2.1 key=ob key
def j58 {w b:Nat}(h:w.testBit b=true):w|||1<<<b=w:=by refine gg λi=>?_;rw[eI,dj,eY];by_cases e:b=i;subst e;simp[h];simp[e]
def Dual (n:Nat) (WT WF:Nat->Nat):Prop:=∀a b,a<n->b<n->(WT a).testBit b=(WF b).testBit a
def jpx {F:Env}{Yf:YF}{q:Nat}{ue:Option Nat}{T:List P2}{p:P2}{s x:A}{st:St}{K:St->Nat->Prop}{d:Option Nat}(a:ye F st.tm s=slU ue T.length 2) (c:∀u,ue=some u->st.ob (2*u+1)=some ⟨u,.cells (T.flatMap yR)⟩/\st.ro<=u) (i:ue=none->T=[])
 (b:jF st.ob 2 (ye F st.tm x)=some (yR p)) (j:T.length<=1000000) (h:QW K st d q { v:=.osl (2*q+1) q 0 (T.length+1) 2,obs:=[(2*q+1,⟨q,.cells ((T++[p]).flatMap yR)⟩)],kill:=XG ue }):jB F Yf ⟨d,.append true 2 16 s x,none,true⟩ st q K:=by
 cases ue with
 |none=>have:=i rfl;subst this;refine X8 a b (by simp[yR]) zQ rfl (by simp[yR]) (by simp[yR]) ?_;simpa[yR,jI,XG] using h
 |some u=>obtain⟨f,g⟩:=c u rfl;have e:=j4 QP T;refine Xm (cs:=T.flatMap yR) a b f (by simp[yR]) g zO zQ rfl (by simp[yR];omega) (by simp[yR];omega) ?_;rw[aJ zO];simpa[yR,jI,XG] using h
def jnd {ue:Option Nat}{x:Nat}(h:ue≠some x):(XG ue).any (Nat.beq (2*x+1))=false:=by
 cases ue with
 |none=>rfl
 |some u=>simp only[XG,bJ,ce,bI];exact Ju λe=>h (by rw[show x=u by omega])
def jy9 {ue:Option Nat}{key l:Nat}(h:∀u,ue=some u->l<=u) (a:Off l key):(XG ue).any (Nat.beq key)=false:=by
 cases ue with
 |none=>rfl
 |some u=>simp only[XG,bJ,ce,bI];exact Ju (a u (h u rfl))
def sv176 {Yf:YF}{tk:Nat->Bool}{ro base:Nat}(g:Gr lo ub uG (some ut) (some uf) ue tu fu WT WF T ob) (c4:ro<=lo) (K:tu.length=n) (hf:fu.length=n) (h9:n<=64) {a b:Nat}(ha:a<n) (X:b<n) (c0:∀i,i<n->WT i<2^n) (Z:∀i,i<n->WF i<2^n) (hd:Dual n WT WF) (hT:T.length<=100000) :
 ∃r,EvS E Yf.y 176 [.ptr (2*uG+1) uG 0,.int .i64 (a:Int),.int .i64 (b:Int)] ob tk ro base ub r/\GPut lo ob ub uG ut uf tu fu (λi=>if i=a then WT a|||1<<<b else WT i) (λi=>if i=b then WF b|||1<<<a else WF i) (T.length+1) r:=by
 have hp:(2:Nat)^n<=2^64:=cu zQ h9;have w1:WT a<2^64:=aW (c0 a ha) hp;have w2:WF b<2^64:=aW (Z b X) hp;have M:=g.o;have b5:=g.rG;have nG:∀m,ub<=m->¬uG=m:=λm I=>by omega
 refine JI rfl zQ ?_;show wpC E Yf S176.body _ (Jw S176.res _);conv in(occs:=*)S176=>all_goals cbv
 simp(disch:=try exact zD)[S176,j0,M];refine jW (vs:=[.ptr (2*uG+1) uG 0]) zS rfl rfl (j0k (g.keep (λx _ _=>by simp) zK) zO _ _) ?_;simp;refine jW (vs:=[.ptr (2*uG+1) uG 0,.int .i64 a]) zS rfl rfl (jns (g.keep (λx _ _=>by simp) zK) zO _ _ _) ?_;simp(disch:=try exact zD)[K,ha];refine jW (vs:=[.ptr (2*uG+1) uG 0,.int .i64 b]) zS rfl rfl (jns (g.keep (λx _ _=>by simp) zK) zO _ _ _) ?_;simp(disch:=try exact zD)[K,X];refine jW (vs:=[.ptr (2*uG+1) uG 0,.int .i64 a,.int .i64 b]) zS rfl rfl (evo235 (g.keep (λx _ _=>by simp) zK) zO zO zO w1 _ _) ?_;cases hh:(WT a).testBit b;have q:a<tu.length:=zO;have j:b<fu.length:=zO;have c1:=g.t ut rfl;have nt:∀m,ub<=m->¬ut=m:=λm I=>by have:=g.rL ut (.inl rfl);omega
 have U:=jp6 (l:=2*ut+1) (u:=ut) (kk:=.i64) q;have e2:=jkk q;have e3:=jp6 (l:=2*uf+1) (u:=uf) (kk:=.i64) j;have e4:=jkk j;rw[K]at U;rw[hf]at e3;have b9:=g.rS tu[a] (.inl (au q));have b8:=g.rS fu[b] (.inr (au j));have hs:=g.st a q;simp(disch:=try exact zD)[j0,M,slU,yj,nG,nt,c1,K,U,e2];refine jP (vs:=[.ptr (2*tu[a]+1) tu[a] 0,.int .i64 b]) zS rfl (jts (w:=WT a) (by simpa using hs) (Off.new zL) zP zO w1) ?_;rintro v1 O c3 s ⟨_,B,H⟩;simp only at B H;have q1:ub<=s:=by first|omega|(simp at H;omega)
 have v:Gr lo s uG (some ut) (some uf) ue tu fu (λi=>if i=a then WT a|||1<<<b else WT i) WF T O:=by refine g.putT q ?_ (λx h1 h2 h3=>?_) q1;have:=B (2*tu[a]+1) (Off.new zL);rwa [zb rfl]at this;have:=B (2*x+1) (Off.new zL);rw[za zO]at this;simpa using this
 have b7:∀c,Off lo c->O c=ob c:=λc h=>by have:=B c (h.up zL);rw[za (h tu[a] b9.1)]at this;simpa using this
 clear B H;have D:=v.o;have G:=v.f uf rfl;have c2:∀m,s<=m->¬uG=m:=λm I=>by omega
 have b6:∀m,s<=m->¬uf=m:=λm I=>by have:=g.rL uf (.inr (.inl rfl));omega
 have P:=v.sf b j;simp(disch:=try exact zD)[j0,D,slU,yj,c2,b6,G,hf,e3,e4];refine jP (vs:=[.ptr (2*fu[b]+1) fu[b] 0,.int .i64 a]) zS rfl (jts (w:=WF b) (by simpa using P) (Off.new zL) zP zO w2) ?_;rintro v2 L c5 d ⟨_,B,H⟩;simp only at B H;have q2:s<=d:=by first|omega|(simp at H;omega)
 have J:Gr lo d uG (some ut) (some uf) ue tu fu (λi=>if i=a then WT a|||1<<<b else WT i) (λi=>if i=b then WF b|||1<<<a else WF i) T L:=by refine v.putF j ?_ (λx h1 h2 h3=>?_) q2;have:=B (2*fu[b]+1) (Off.new zL);rwa [zb rfl]at this;have:=B (2*x+1) (Off.new zL);rw[za zO]at this;simpa using this
 have a0:∀c,Off lo c->L c=ob c:=λc h=>by have:=B c (h.up zL);rw[za (h fu[b] b8.1)]at this;rw[<- b7 c h];simpa using this
 clear B H D G v P;have F:=J.o;have Q:∀m,d<=m->¬uG=m:=λm I=>by omega
 simp(disch:=try exact zD)[j0,F,yj,Q,j6];refine JL (cs:=[.int .i64 (a:Int),.int .i64 (b:Int)]) (by simp[j6]) rfl rfl ?_;simp;refine jpx (ue:=ue) (T:=T) (p:=((a:Int),(b:Int))) zS (λu S=>?_) g.z.2.2 (by simp[jF,j0,yR]) zO ?_;have:=g.rL u (.inr (.inr S));have nu:∀m,d<=m->¬u=m:=λm I=>by omega
 refine⟨?_,by simp;omega⟩;simp(disch:=try exact zD)[jK,yj,nu,J.e u S];have k1:=jnd (ue:=ue) g.nG.2.2;simp(disch:=try exact zD)[jK,j0,F,yj,Q,j6,k1];have N:∀m,d<=m->¬m=uG:=λm I=>by omega
 refine⟨zO,jc3 zS ⟨true,some (d+576),T++[((a:Int),(b:Int))],zS,J.edge (x:=d+576) (p:=((a:Int),(b:Int))) ?_ ?_ (λy h1 h2 h3 h4=>?_) zO zL,zS,zL,λc h=>?_⟩⟩;simp(disch:=try exact zD)[slU,aI,K,hf];simp(disch:=try exact zD)[jK,yj,N,aI,slU];have ny:∀m,d<=m->¬y=m:=λm I=>by omega
 have k2:=jnd h4;simp(disch:=try exact zD)[jK,yj,ny,k2,h3];have k2:=jy9 (ue:=ue) (l:=lo) (λu S=>(g.rL u (.inr (.inr S))).1) h;have q3:=(h.up (show lo<=d by omega)).ne;have q4:¬c=2*uG+1:=h uG b5.1;simp(disch:=try exact zD)[jK,k2,q3,q4];exact a0 c h;simp;have b0:(WF b).testBit a=true:=by rw[<- hd a b ha X];exact hh
 have U:(λi=>if i=a then WT a|||1<<<b else WT i)=WT:=funext λi=>by split;rename_i e;rw[e,j58 hh];rfl
 have e2:(λi=>if i=b then WF b|||1<<<a else WF i)=WF:=funext λi=>by split;rename_i e;rw[e,j58 b0];rfl
 rw[U,e2];exact jc3 zS ⟨false,ue,T,zS,g.keep (λx _ _=>by simp) zL,zO,zL,λc h=>by simp⟩
end
def rowW (L:List P2) (a:Nat):Nat:=L.foldl (λw z=>if z.1=(a:Int) then w|||1<<<z.2.toNat else w) 0
def colW (L:List P2) (b:Nat):Nat:=L.foldl (λw z=>if z.2=(b:Int) then w|||1<<<z.1.toNat else w) 0
def jmc (L:List P2) (z:P2) (a:Nat):rowW (L++[z]) a=if z.1=(a:Int) then rowW L a|||1<<<z.2.toNat else rowW L a:=by simp[rowW]
def jny (L:List P2) (z:P2) (b:Nat):colW (L++[z]) b=if z.2=(b:Int) then colW L b|||1<<<z.1.toNat else colW L b:=by simp[colW]
def InG (n:Nat) (L:List P2):Prop:=∀z∈L,∃a b:Nat,z=((a:Int),(b:Int))/\a<n/\b<n
def jfl {n:Nat}(p:List P2->Nat->Nat) (g:∀a,p [] a=0) (q:P2->Int×Int) (h:∀L z a,p (L++[z]) a=if (q z).1=(a:Int) then p L a|||1<<<(q z).2.toNat else p L a) (L:List P2) (i:∀z∈L,0<=(q z).2/\(q z).2<n) :
 ∀k,k<=L.length->∀a,p (L.take k) a<2^n/\∀b,(p (L.take k) a).testBit b=(L.take k).any λz=>decide ((q z).1=(a:Int)/\(q z).2=(b:Int))
 |0,_,a=>by rw[eK,g];exact⟨Nat.two_pow_pos n,λb=>by simp⟩
 |k+1,hk,a=>by obtain⟨j,f⟩:=jfl p g q h L i k zO a;have o:L[k]∈L:=au zO;obtain⟨m,r⟩:=i _ o;rw[ay zO,h];obtain⟨c,l⟩:=Int.eq_ofNat_of_zero_le m;have d:c<n:=zO;by_cases e:(q L[k]).1=(a:Int);rw[zb e,l];refine⟨dP j (by rw[aX,dj];exact em zQ d),λb=>?_⟩;rw[eI,f,eW,aX,dj,eY];simp[e,l,Int.ofNat_inj];rw[za e];refine⟨j,λb=>?_⟩;rw[f,eW];simp[e]
def Yw {n:Nat}{L:List P2}(h:InG n L) (a:Nat):rowW L a<2^n/\∀b:Nat,(rowW L a).testBit b=L.contains ((a:Int),(b:Int)):=by have:=jfl (n:=n) rowW (λ_=>rfl) (λz=>(z.1,z.2)) jmc L (λz e=>by obtain⟨c,d,rfl,_,f⟩:=h z e;simp;omega) L.length zK a;rw[bk]at this;refine⟨this.1,λb=>?_⟩;rw[this.2,bz];simp[bD]
def jhf {n:Nat}{L:List P2}(h:InG n L) (b:Nat):colW L b<2^n/\∀a:Nat,(colW L b).testBit a=L.contains ((a:Int),(b:Int)):=by have:=jfl (n:=n) colW (λ_=>rfl) (λz=>(z.2,z.1)) jny L (λz f=>by obtain⟨c,d,rfl,e,_⟩:=h z f;simp;omega) L.length zK b;rw[bk]at this;refine⟨this.1,λa=>?_⟩;rw[this.2,bz];simp only[bD,ze,bx];constructor;rintro⟨z,f,g,e⟩;obtain⟨x,y⟩:=z;simp only at g e;subst g e;exact f;exact λi=>⟨_,i,rfl,rfl⟩
def InG.take {n:Nat}{L:List P2}(h:InG n L) (k:Nat):InG n (L.take k):=λz a=>h z (da a)
def EdA (lo:Nat) (ob:ZO) (v:V) (L:List P2):Prop :=
 (∃t nl,v=.sl t nl L.length (L.flatMap yR))\/∃k u,v=.osl k u 0 L.length 2/\ob k=some ⟨u,.cells (L.flatMap yR)⟩/\Off lo k
def EdA.len {lo:Nat}{ob:ZO}{v:V}{L:List P2}(h:EdA lo ob v L):QV v=some (.int .i64 (L.length:Nat)):=by rcases h with⟨t,a,rfl⟩|⟨k,u,rfl,_⟩<;>rfl
def EdA.at {lo:Nat}{ob:ZO}{v:V}{L:List P2}(h:EdA lo ob v L) {i:Nat}(hi:i<L.length) :
 ∃p,ju 2 v (.int .i64 (i:Int))=some p/\∀a:ZO,(∀b,Off lo b->a b=ob b)->W3 a (some 2) p=some (.agg [.int .i64 L[i].1,.int .i64 L[i].2]):=by
 have d:=Xp QP L i hi;have g:i*2+2<=(L.flatMap yR).length:=by rw[j4 QP];omega
 have c:Xz (some 2) (L.flatMap yR) (i*2)=some (.agg [.int .i64 L[i].1,.int .i64 L[i].2]):=by simp only[Xz];rw[zb g,d];rfl
 rcases h with⟨t,j,rfl⟩|⟨k,u,rfl,l,f⟩;refine⟨_,JS QP t j L .i64 hi,λa _=>?_⟩;simpa[W3] using c;refine⟨_,idx0 hi,λa e=>?_⟩;have:j0 a k u=some (L.flatMap yR):=by simp[j0,e k f,l]
 simp only[W3,this,ap];exact c
def EdA.up {lo lo':Nat}{ob ob':ZO}{v:V}{L:List P2}(h:EdA lo ob v L) (c:∀a,Off lo a->ob' a=ob a) (d:lo<=lo'):EdA lo' ob' v L:=by rcases h with h|⟨k,u,f,e,b⟩;exact .inl h;exact .inr ⟨k,u,f,(c k b).trans e,b.up d⟩
section
variable {ub n:Nat}{ob:ZO}{L:List P2}{v:V}
def dual_W (h:InG n L):Dual n (rowW L) (colW L):=λa b _ _=>by rw[(Yw h a).2,(jhf h b).2]
def jxf:rowW []=λ_=>0:=rfl
def j0u:colW []=λ_=>0:=rfl
def j7n {Yf:YF}{tk:Nat->Bool}{ro base:Nat}(c3:ro<=ub) (h1:0<n) (h9:n<=9) (hv:EdA ub ob v L) (N:InG n L) (hl:L.length<=10000) :
 ∃r,EvS E Yf.y 122 [.int .i64 (n:Int),v] ob tk ro base ub r/\PgR ob ub n (rowW L) (colW L) L.length r:=by
 have D:=hv.len;refine JI rfl zQ ?_;show wpC E Yf S122.body _ (Jw S122.res _);conv in(occs:=*)S122=>all_goals cbv
 simp(disch:=try exact zD)[S122];refine jP (vs:=[.int .i64 n]) zS rfl (sv175 zP h1 h9) ?_;rintro v1 b6 b8 G ⟨uG,ut,uf,b7,tu,fu,T0,rfl,u,ht,hf,b0,q1,w⟩;simp only at u q1 w;simp(disch:=try exact zD)[D];refine jg λl g=>?_;have c2:ub<=G:=by first|omega|(simp at q1;omega)
 have g6:l.tm 6=.ptr (2*uG+1) uG 0:=by rw[g];simp
 have g7:l.tm 7=.int .i64 0:=by rw[g];simp
 have b5:l.tm 20=v:=by rw[g];simp
 have a0:l.tm 21=.int .i64 L.length:=by rw[g];simp
 have M:l.tm 22=.int .i64 0:=by rw[g];simp
 have gd:l.df=[]:=by rw[g];simp
 have gr:l.ro=ro:=by rw[g];simp
 have gn:G<=l.nx:=by rw[g];first|omega|(simp;done)|(simp;omega)
 have go:l.ob=b6:=by rw[g];simp
 clear g;obtain⟨J,X⟩:∃J:Nat->St->Prop,J=λi s=>s.tm 22=.int .i64 i/\(∃ue T,Gr ub s.nx uG (some ut) (some uf) ue tu fu (rowW (L.take i)) (colW (L.take i)) T s.ob/\T.length<=i)/\ub<=s.nx/\∀c,Off ub c->s.ob c=ob c:=⟨_,rfl⟩;have o:=u.wide (lo':=ub) zL;refine j9 [(4,5),(9,11),(22,38)] L.length J rfl rfl ?_ ?_;rw[X];refine⟨by simpa using M,⟨b7,T0,?_,b0⟩,zO,λc k=>?_⟩;rw[eK,jxf,j0u,go];exact o.keep (λ_ _ _=>rfl) zO;rw[go];have:=w c (k.up zL);simpa using this;clear M go gn u o w;intro i s hi I f;rw[X]at I;obtain⟨B,⟨ue,T,Z,hT⟩,sn,P⟩:=I;have s6:=(f.t 6 zS).trans g6;have s7:=(f.t 7 zS).trans g7;have Q:=(f.t 20 zS).trans b5;have K:=(f.t 21 zS).trans a0;have sd:=f.d.trans gd;have sr:=f.r.trans gr;clear f;by_cases h:i<L.length;have U:=jb h zO;obtain⟨p,O,F⟩:=hv.at h;obtain⟨a,b,hz,ha,hb⟩:=N _ (au h);have H:L.take (i+1)=L.take i++[((a:Int),(b:Int))]:=by rw[ay h,hz]
 rw[hz]at F;simp(disch:=try exact zD)[B,K,Q,h,O];rw[F _ λc k=>by simpa using P c k];simp(disch:=try exact zD)[s6,j0,j6];refine⟨by simp[sr];omega,?_⟩;refine jP (vs:=[.ptr (2*uG+1) uG 0,.int .i64 a,.int .i64 b]) zS rfl (sv176 (n:=n) (lo:=ub) (Z.keep (λx _ _=>?_) ?_) ?_ ht hf zO ha hb (λi _=>(Yw (N.take _) i).1) (λi _=>(jhf (N.take _) i).1) (dual_W (N.take _)) zO) ?_;have:∀m,s.nx<=m->¬x=m:=λm hm=>by omega
 simp(disch:=try exact zD)[yj,this];show _<=_;first|omega|(simp;omega)
 first|omega|(simp[sr];omega)
 rintro v2 c0 c4 c1 ⟨bb,S,T2,rfl,z,b9,q2,q⟩;simp only at z q2 q;simp(disch:=try exact zD)[B,U,h];rw[X];refine⟨zS,⟨S,T2,?_,zO⟩,zL,λc k=>?_⟩;have e1:(λj=>if j=a then rowW (L.take i) a|||1<<<b else rowW (L.take i) j)=rowW (L.take (i+1)):=funext λx=>by rw[H,jmc];by_cases e:x=a;subst e;simp;rw[za e,za (by simp only;omega)]
 have e2:(λj=>if j=b then colW (L.take i) b|||1<<<a else colW (L.take i) j)=colW (L.take (i+1)):=funext λx=>by rw[H,jny];by_cases e:x=b;subst e;simp;rw[za e,za (by simp only;omega)]
 rw[e1,e2]at z;exact z.keep (λx _ _=>by simp) zL;have:=q c k;have hn:=k.up (show ub<=s.nx by omega);have:=hn.ne;simp;rw[q c k];simp(disch:=try exact zD)[this];exact P c k;have:i=L.length:=zO;subst this;rw[bk]at Z;simp(disch:=try exact zD)[B,K,s6,s7];exact jc3 (by simp[sd]) ⟨uG,ut,uf,ue,tu,fu,T,zS,Z.keep (λx _ _=>by simp) zL,ht,hf,hT,zL,λc k=>by simpa using P c k⟩
end
section
variable {lo hi uG:Nat}{ut uf:Nat}{ue:Option Nat}{tu fu:List Nat}{WT WF:Nat->Nat}{T:List P2}{ob:ZO}{ub:Nat}
def evo178 (b:Gr lo hi uG (some ut) (some uf) ue tu fu WT WF T ob) (c:hi<=ub) (tk:Nat->Bool) (base:Nat):EvO E 178 [.ptr (2*uG+1) uG 0] ob tk base ub (.int .i64 tu.length):=by
 have a:=b.o;have e:∀m,ub<=m->¬uG=m:=λm d=>by have:=b.rG;omega
 refine J1 rfl ?_;conv in(occs:=*)S178=>all_goals cbv
 simp(disch:=try exact zD)[S178];refine jW (vs:=[.ptr (2*uG+1) uG 0]) zS rfl rfl (j0k (b.keep (λx _ _=>by simp) c) zO _ _) ?_;simp(disch:=try exact zD)[j0,a,slU];exact j5 zS zS rfl
def j6s (b:Gr lo hi uG (some ut) (some uf) ue tu fu WT WF T ob) (i:hi<=ub) {a:Nat}(c:a<tu.length) (g:WT a<512) (tk:Nat->Bool) (base:Nat):∃v,EvO E 181 [.ptr (2*uG+1) uG 0,.int .i64 (a:Int)] ob tk base ub v/\j1l (yq (yp (WT a))) v:=by
 have d:=b.o;have f:=b.t ut rfl;have D:∀m,ub<=m->¬uG=m:=λm s=>by have:=b.rG;omega
 have B:∀m,ub<=m->¬ut=m:=λm s=>by have:=b.rL ut (.inl rfl);omega
 have j:=b.st a c;have q:=b.rS tu[a] (.inl (au c));have y:=jp6 (l:=2*ut+1) (u:=ut) (kk:=.i64) c;have z:=jkk c;refine jhv rfl zQ ?_;conv in(occs:=*)S181=>all_goals cbv
 simp(disch:=try exact zD)[S181];refine jW (vs:=[.ptr (2*uG+1) uG 0,.int .i64 a]) zS rfl rfl (jns (b.keep (λx _ _=>by simp) i) zO _ _ _) ?_;simp(disch:=try exact zD)[j0,d,slU,c,f,y,z];obtain⟨nl,e⟩:=numR_intsV (yq (yp (WT a)));refine jW (vs:=[.ptr (2*tu[a]+1) tu[a] 0]) zS rfl rfl (jjp (w:=WT a) (by simpa using j) (Off.new zO) g _ _) ?_;refine XB e λp add=>?_;simp;exact slE (t:=p) (nl:=nl) (k:=(yq (yp (WT a))).length) (cs:=(yq (yp (WT a))).flatMap yf) (λr h=>⟨nl,h⟩) zS zS
def evo180 (c:Gr lo hi uG (some ut) (some uf) ue tu fu WT WF T ob) (j:hi<=ub) {a:Nat}(B:a<tu.length) (F:tu.length=fu.length) (i:WF a<512) (tk:Nat->Bool) (base:Nat):∃v,EvO E 180 [.ptr (2*uG+1) uG 0,.int .i64 (a:Int)] ob tk base ub v/\j1l (yq (yp (WF a))) v:=by
 have d:=c.o;have g:=c.f uf rfl;have H:∀m,ub<=m->¬uG=m:=λm y=>by have:=c.rG;omega
 have G:∀m,ub<=m->¬uf=m:=λm y=>by have:=c.rL uf (.inr (.inl rfl));omega
 have b:a<fu.length:=zO;have p:=c.sf a b;have s:=c.rS fu[a] (.inr (au b));have z:=jp6 (l:=2*uf+1) (u:=uf) (kk:=.i64) b;have D:=jkk b;refine jhv rfl zQ ?_;conv in(occs:=*)S180=>all_goals cbv
 simp(disch:=try exact zD)[S180];refine jW (vs:=[.ptr (2*uG+1) uG 0,.int .i64 a]) zS rfl rfl (jns (c.keep (λx _ _=>by simp) j) zO _ _ _) ?_;simp(disch:=try exact zD)[j0,d,slU,B,g,z,D];obtain⟨nl,e⟩:=numR_intsV (yq (yp (WF a)));refine jW (vs:=[.ptr (2*fu[a]+1) fu[a] 0]) zS rfl rfl (jjp (w:=WF a) (by simpa using p) (Off.new zO) i _ _) ?_;refine XB e λq add=>?_;simp;exact slE (t:=q) (nl:=nl) (k:=(yq (yp (WF a))).length) (cs:=(yq (yp (WF a))).flatMap yf) (λr h=>⟨nl,h⟩) zS zS
end
def orL (L:List Nat):Nat:=L.foldl (λw b=>w|||1<<<b) 0
def jko (L:List Nat) (b:Nat):orL (L++[b])=orL L|||1<<<b:=by simp[orL]
def jrs (L:List Nat):∀k,k<=L.length->∀i,(orL (L.take k)).testBit i=decide (i∈L.take k)
 |0,_,i=>by simp[orL]
 |k+1,h,i=>by have a:=jrs L k zO i;rw[ay zO,jko,eI,a,dj,eY,bz];simp only[bq,ze,aQ,ag];exact or_congr bR eq_comm
def j20 {w:Nat}(h:w<512):orL (yp w)=w:=by
 refine gg λi=>?_;have:=jrs (yp w) (yp w).length zK i;rw[bk]at this;rw[this,bz,ze,bitsUp_mem];constructor;exact λh=>h.2;intro a;refine⟨?_,a⟩;rcases cD i 9 with h1|h1
 exact h1;have:w.testBit i=false:=dZ (aW h (cu zQ h1:2^9<=2^i));rw[this]at a;cases a
def orL_lt {L:List Nat}(h:∀b∈L,b<64) (k:Nat) (c:k<=L.length):orL (L.take k)<2^64:=by
 induction k with
 |zero=>simp[orL]
 |succ k a=>rw[ay zO,jko];exact or_lt (a zO) (h _ (au _))
section
variable {ob:ZO}{ub:Nat}
def SetR (ob:ZO) (ub w:Nat) (r:V×(ZO)×(Nat->Bool)×Nat):Prop :=
 ∃m,ub<=m/\m<r.2.2.2/\r.1=.ptr (2*m+1) m 0/\r.2.1 (2*m+1)=some ⟨m,.cells (yu w)⟩/\∀key,Off ub key->r.2.1 key=ob key
def sv151l {Yf:YF}{tk:Nat->Bool}{ro base:Nat}{t:Option (Nat×Nat)}{nl:Bool}{L:List Nat}(a0:ro<=ub) (N:∀b∈L,b<64) (hl:L.length<=100000):∃r,EvS E Yf.y 151 [.sl t nl L.length ((yq L).flatMap yf)] ob tk ro base ub r/\SetR ob ub (orL L) r:=by
 refine JI rfl zQ ?_;show wpC E Yf S151.body _ (Jw S151.res _);conv in(occs:=*)S151=>all_goals cbv
 simp[V.cells];refine jg λg c=>?_;obtain⟨m,O,M,g3,Q⟩:∃u,ub<=u/\u<g.nx/\g.tm 3=.ptr (2*u+1) u 0/\g.ob (2*u+1)=some ⟨u,.cells (yu 0)⟩:=⟨ub+128,zO,by rw[c];first|omega|(simp;done)|(simp;omega),by rw[c];simp[aI],by rw[c];simp[aI,yu]⟩;have g8:g.tm 8=.sl t nl L.length ((yq L).flatMap yf):=by rw[c];simp
 have U:g.tm 9=.int .i64 L.length:=by rw[c];simp
 have p:g.tm 10=.int .i64 0:=by rw[c];simp
 have gd:g.df=[]:=by rw[c];simp
 have gr:g.ro=ro:=by rw[c];simp
 have go:∀a,Off ub a->g.ob a=ob a:=λa h=>by have:=h.ne;rw[c];simp(disch:=try exact zD)[this]
 clear c;obtain⟨J,B⟩:∃J:Nat->St->Prop,J=λi s=>s.tm 10=.int .i64 i/\m<s.nx/\s.ob (2*m+1)=some ⟨m,.cells (yu (orL (L.take i)))⟩/\∀a,Off ub a->s.ob a=ob a:=⟨_,rfl⟩;refine j9 [(5,5),(10,17)] L.length J rfl rfl ?_ ?_;rw[B];exact⟨by simpa using p,M,by simpa[orL] using Q,go⟩;clear p go Q M;intro i s hi l f;rw[B]at l;obtain⟨j,sm,x,I⟩:=l;have P:=(f.t 3 zS).trans g3;have T:=(f.t 8 zS).trans g8;have K:=(f.t 9 zS).trans U;have S:=f.d.trans gd;have sr:=f.r.trans gr;clear f;by_cases e:i<L.length;have z:=jb e zO;have n:i<(yq L).length:=by simpa[yq] using e
 have q:ju 1 (.sl t nl L.length ((yq L).flatMap yf)) (.int .i64 (i:Int))=some (.eptr ((yq L).flatMap yf) (i*1)):=by have:=JS j8 t nl (yq L) .i64 n;rwa [show(yq L).length=L.length by simp[yq]]at this
 have o:=jt (yq L) n;have D:(yq L)[i]=((L[i]:Nat):Int):=by simp[yq]
 rw[D]at o;have Z:=N _ (au e);have v:orL (L.take (i+1))=orL (L.take i)|||1<<<L[i]:=by rw[ay e,jko]
 have nm:∀k,s.nx<=k->¬m=k:=λk h=>by omega
 simp(disch:=try exact zD)[j,K,T,P,e,q,o];refine jP (vs:=[.ptr (2*m+1) m 0,.int .i64 (L[i]:Nat)]) zS rfl (jts (w:=orL (L.take i)) (by simpa using x) (Off.new zL) (by simp[sr];omega) Z (orL_lt N i zO)) ?_;rintro v1 b0 X G ⟨_,F,H⟩;simp only at F H;have b5:s.nx<=G:=by first|omega|(simp at H;omega)
 simp(disch:=try exact zD)[j,z,e];rw[B];refine⟨zS,zL,?_,λa h=>?_⟩;have:=F (2*m+1) (Off.new zL);rw[zb rfl]at this;simpa[v] using this;have:=F a (h.up zL);rw[za (h m O)]at this;simpa[I a h] using this;have:i=L.length:=zO;subst this;rw[bk]at x;simp(disch:=try exact zD)[j,K,P];exact Jj (by simp[S]) ⟨m,O,zL,zS,by simpa using x,λa h=>by simpa using I a h⟩
def eqC_set (v w:Nat):J7 [.int,.int,.int,.int,.int,.int,.int,.int] (yu v) (yu w)=some (v==w):=by simp only[J7,yu,Ww,zd,ap,aU,beq_self_eq_true,eA];congr 1;rw[bz];simp only[zh,Int.ofNat_inj]
def jt0 {X x i:Nat}(h:i<8) (a:i≠0->x=0):j6 (yu X) i [.int .u64 (x:Int)]=yu (if i=0 then x else X):=by
 match i,h with
 |0,_=>rfl
 |1,_|2,_|3,_|4,_|5,_|6,_|7,_=>rw[a zQ];rfl
def sv298 {Yf:YF}{tk:Nat->Bool}{ro base a b v w:Nat}(ha:ob (2*a+1)=some ⟨a,.cells (yu v)⟩) (hb:ob (2*b+1)=some ⟨b,.cells (yu w)⟩) (la:a<ub) (lb:b<ub) (a0:ro<=a) (hv:v<2^64) (hw:w<2^64) :
 ∃r,EvS E Yf.y 298 [.ptr (2*a+1) a 0,.ptr (2*b+1) b 0] ob tk ro base ub r/\(ub<=r.2.2.2/\∀c,Off ub c->r.2.1 c=if c=2*a+1 then some ⟨a,.cells (yu (v|||w))⟩ else ob c):=by
 refine JI rfl zQ ?_;show wpC E Yf S298.body _ (Jw S298.res _);have j:∀v,(yu v).length=8:=λ_=>rfl;have z:∀v,(yu v).take 8=yu v:=λ_=>rfl;have na:∀m,ub<=m->¬a=m:=λm Q=>by omega
 have nb:∀m,ub<=m->¬b=m:=λm Q=>by omega
 conv in(occs:=*)S298=>all_goals cbv
 simp(disch:=try exact zD)[S298,j0,ha,hb,j,yj,nb,z];refine⟨zO,by simp[yu,V.leaf],?_⟩;refine jg λl g=>?_;obtain⟨p,u1,U,g5,T⟩:∃u,ub<=u/\u<l.nx/\l.tm 5=.ptr (2*u+1) u 0/\l.ob (2*u+1)=some ⟨u,.cells (yu v)⟩:=⟨ub+704,zO,by rw[g];first|omega|(simp;done)|(simp;omega),by rw[g];simp[aI],by rw[g];simp[aI,j6,j]⟩;have g0:l.tm 0=.ptr (2*a+1) a 0:=by rw[g];simp
 have O:l.tm 21=.agg (yu w):=by rw[g];simp
 have F:l.tm 22=.int .i64 0:=by rw[g];simp
 have gd:l.df=[]:=by rw[g];simp
 have gr:l.ro=ro:=by rw[g];simp
 have go:∀c,Off ub c->l.ob c=ob c:=λc n=>by have:=n.ne;rw[g];simp(disch:=try exact zD)[this]
 clear g;obtain⟨J,N⟩:∃J:Nat->St->Prop,J=λi s=>s.tm 22=.int .i64 i/\p<s.nx/\s.ob (2*p+1)=some ⟨p,.cells (yu v)⟩/\∀c,Off ub c->s.ob c=if c=2*a+1 then some ⟨a,.cells (yu (if i=0 then v else v|||w))⟩ else ob c:=⟨_,rfl⟩
 refine j9 [(6,7),(22,37)] 8 J rfl rfl ?_ ?_;rw[N];refine⟨by simpa using F,U,T,λc n=>?_⟩;rw[go c n];by_cases e:c=2*a+1;rw[zb e,e,ha];rfl;rw[za e];clear F go T U;intro i s hi x f;rw[N]at x;obtain⟨G,sm,sW,L⟩:=x;have Z:=(f.t 0 zS).trans g0;have s5:=(f.t 5 zS).trans g5;have P:=(f.t 21 zS).trans O;have sd:=f.d.trans gd;have sr:=f.r.trans gr;clear f;have I:=L (2*a+1) (Off.new la);rw[zb rfl]at I;have nw:∀m,s.nx<=m->¬p=m:=λm Q=>by omega
 have b5:∀m,s.nx<=m->¬a=m:=λm Q=>by omega
 by_cases h:i<8;have M:=jb h zQ;have K:(i:Int)<8:=zO;have o:jbz none 8 1 (.agg (yu w)) (.int .i64 (i:Int))=some (.int .u64 (if i=0 then w else 0:Nat)):=by have:=jo2 (w:=w) h;simp[jbz,K,Xz,this]
 have S:Wf 8 1 (.ptr (2*a+1) a 0) (.int .i64 (i:Int))=some (.ptr (2*a+1) a i):=by simp[Wf,K]
 obtain⟨X,H⟩:∃X,X=if i=0 then v else v|||w:=⟨_,rfl⟩
 rw[<- H]at I;have D:=jo2 (w:=X) h;have k:YN .or (.int .u64 ((if i=0 then X else 0:Nat):Int)) (.int .u64 ((if i=0 then w else 0:Nat):Int))=some (.int .u64 ((if i=0 then v|||w else 0:Nat):Int)):=by by_cases e:i=0;rw[zb e]at H;rw[zb e,zb e,zb e,H];exact jfm hv hw;rw[za e,za e,za e];exact jfm zQ zQ
 generalize b6:(if i=0 then w else 0:Nat)=x0 at o k;generalize b0:(if i=0 then X else 0:Nat)=x1 at D k;generalize q:(if i=0 then v|||w else 0:Nat)=x2 at k;simp(disch:=try exact zD)[G,P,Z,K,o,S,j0,I,D,k,j];refine⟨zO,?_⟩;simp(disch:=try exact zD)[M];rw[N];have B:j6 (yu X) i [.int .u64 (x2:Int)]=yu (v|||w):=by rw[jt0 h λe=>by rw[<- q,za e],<- q,H];by_cases e:i=0;rw[zb e,zb e];rw[za e,za e]
 refine⟨zO,h,zS,zL,?_,λc n=>?_⟩;simp(disch:=try exact zD)[yj,show ¬p=a by omega,sW];by_cases e:c=2*a+1;simp[e,B];have:=L c n;rw[za e]at this;simp[e,this];have:i=8:=zO;subst this;simp(disch:=try exact zD)[G,Z,s5,j0,I,sW,j,z,eqC_set];exact Jj (by simp[sd]) ⟨zL,λc n=>by simpa using L c n⟩
end
end Go.Pv.T
