/- Part. -/
import Derived.Test.YtmanndcfeicokaaGreatDoorTAS
set_option maxRecDepth 100000
set_option maxHeartbeats 8000000
set_option linter.all false
namespace Go.Pv.T
open Go Go.Pv
structure Rs (lo hi uL:Nat) (lu:List Nat) (m:Nat) (W:Nat->Nat) (ob:ZO):Prop where
 o:ob (2*uL+1)=some ⟨uL,.cells (lu.flatMap ptC++List.replicate m .nilptr)⟩
 s:∀i (h:i<lu.length),ob (2*lu[i]+1)=some ⟨lu[i],.cells (yu (W i))⟩
 n:lu.Nodup
 x:uL ∉ lu
 r:lo<=uL/\uL<hi
 rs:∀x∈lu,lo<=x/\x<hi
section
variable {lo hi hi' uL m:Nat}{lu:List Nat}{W:Nat->Nat}{ob ob':ZO}
def Rs.keep (h:Rs lo hi uL lu m W ob) (b:∀x,lo<=x->x<hi->ob' (2*x+1)=ob (2*x+1)) (c:hi<=hi'):Rs lo hi' uL lu m W ob' :=
 ⟨(b uL h.r.1 h.r.2).trans h.o,λi hi=>(b _ (h.rs _ (au hi)).1 (h.rs _ (au hi)).2).trans (h.s i hi),h.n,h.x,⟨h.r.1,aW h.r.2 c⟩,λx a=>⟨(h.rs x a).1,aW (h.rs x a).2 c⟩⟩
def Rs.congr (h:Rs lo hi uL lu m W ob) {a:Nat->Nat}(b:∀i,i<lu.length->a i=W i):Rs lo hi uL lu m a ob:=⟨h.o,λi hi=>by rw[b i hi];exact h.s i hi,h.n,h.x,h.r,h.rs⟩
def Rs.put (h:Rs lo hi uL lu m W ob) {a w:Nat}(c:a<lu.length) (g:ob' (2*lu[a]+1)=some ⟨lu[a],.cells (yu w)⟩) (b:∀x,lo<=x->x<hi->x≠lu[a]->ob' (2*x+1)=ob (2*x+1)) (d:hi<=hi'):Rs lo hi' uL lu m (λi=>if i=a then w else W i) ob':=by have j:lu[a]∈lu:=au c;refine⟨(b uL h.r.1 h.r.2 (λe=>h.x (e▸j))).trans h.o,λi hi=>?_,h.n,h.x,⟨h.r.1,aW h.r.2 d⟩,λx f=>⟨(h.rs x f).1,aW (h.rs x f).2 d⟩⟩;by_cases e:i=a;subst e;rw[zb rfl];exact g;rw[za e];have:=h.rs _ (au hi);exact(b _ this.1 this.2 λk=>e (jar h.n hi c k)).trans (h.s i hi)
def Rs.add (h:Rs lo hi uL lu (m+1) W ob) {x:Nat}(d:ob' (2*uL+1)=some ⟨uL,.cells (j6 (lu.flatMap ptC++List.replicate (m+1) .nilptr) lu.length (ptC x))⟩) (g:ob' (2*x+1)=some ⟨x,.cells (yu (W lu.length))⟩) (j:∀y∈lu,ob' (2*y+1)=ob (2*y+1)) (p:hi<=x) (o:x<hi'):Rs lo hi' uL (lu++[x]) m W ob':=by
 have f:hi<=hi':=zO;have k:=h.r;have a:=j4 jkl lu;refine⟨?_,λi hi=>?_,?_,?_,⟨h.r.1,aW h.r.2 f⟩,λy c=>?_⟩;rw[d];congr 3;unfold j6;rw[dD zO,List.drop_append,bM (by rw[a];simp[ptC])];simp[ptC,List.replicate_succ,a];by_cases e:i<lu.length;rw[dw e];exact(j _ (au e)).trans (h.s i e);have:i=lu.length:=by rw[aw,ee]at hi;omega
 subst this;rw[dL zK];simpa using g;rw[cU];exact⟨h.n,zS,λy c z l e=>by rw[ag]at l;have:=(h.rs y c).2;omega⟩;rw[aQ,ag];rintro(b|b);exact h.x b;omega;rw[aQ,ag]at c;rcases c with b|b;have:=h.rs y b;omega;omega
end
def WIs (n:Nat) (W:Nat->Nat) (f:Nat->Nat->Bool):Prop:=∀b,b<n->W b<2^n/\∀a,a<n->(W b).testBit a=f b a
def WIs.congr {n:Nat}{W:Nat->Nat}{f g:Nat->Nat->Bool}(h:WIs n W f) (e:∀b a,b<n->a<n->f b a=g b a):WIs n W g:=λb c=>⟨(h b c).1,λa d=>((h b c).2 a d).trans (e b a c d)⟩
def WIs.join {n:Nat}{W:Nat->Nat}{r:Nat->Nat->Bool}{k b:Nat}(h:WIs n W (fD2 r k b)) (o:k<n) (s:b<n) (q:(W b).testBit k=true):WIs n (λi=>if i=b then W b|||W k else W i) (fD2 r k (b+1)):=by
 intro c p;have g:=h b s;have j:=h k o;by_cases e:c=b;subst e;simp only[zd];refine⟨dP g.1 j.1,λa d=>?_⟩;rw[eI,g.2 a d,j.2 a d];have f:war r k c k=true:=by have:=g.2 k o;rw[q]at this;simpa[fD2] using this.symm
 have t:fD2 r k c c a=war r k c a:=j6n r k c a;have u:fD2 r k c k a=war r k k a:=by unfold fD2;split;exact j11 r k a;rfl
 rw[t,u];unfold fD2;rw[zb zO,war,f,bF];simp only[za e];refine⟨(h c p).1,λa d=>?_⟩;rw[(h c p).2 a d];unfold fD2;by_cases l:c<b;rw[zb l,zb zO];rw[za l,za zO]
def jpv {Yf:YF}{f:FuncId}{xs:List A}{st:St}{ub:Nat}{K:St->Nat->Prop}{d:Option Nat}{nm:Bool}{vs:List V}{l:List Int}(e:xs.map (ye E st.tm)=vs) (c:E.sh nm f=false) (hp:(vs.all λv=>v.strip.pureTop)=false)
 (h:∃v,EvO E f vs st.ob st.tk ((st.fb+d.getD 0+1)*1024) ub v/\j1l l v) (g:∀t a add,QW K st d ub { v:=.sl t a l.length (l.flatMap yf),add:=add }):jB E Yf ⟨d,.call f xs,none,nm⟩ st ub K:=by
 obtain⟨v,i,a,b⟩:=h;exact jW e c hp i (XB b λt add=>g t a add)
section
variable {lo uG ut uf:Nat}{ue:Option Nat}{tu fu:List Nat}{WT WF:Nat->Nat}{T:List P2}{ob:ZO}{ub n:Nat}
def sv273 {Yf:YF}{tk:Nat->Bool}{ro base:Nat}(hG:Gr lo ub uG (some ut) (some uf) ue tu fu WT WF T ob) (e1:ro<=ub) (ht:tu.length=n) (h1:0<n) (h9:n<=9) {r:Nat->Nat->Bool}(hW:WIs n WT λb a=>r a b) :
 ∃q,EvS E Yf.y 273 [.ptr (2*uG+1) uG 0] ob tk ro base ub q/\∃uL lu W,q.1=.osl (2*uL+1) uL 0 n 1/\lu.length=n/\Rs ub q.2.2.2 uL lu 0 W q.2.1/\WIs n W (war r n):=by
 have hp:(2:Nat)^n<=512:=cu zQ h9;have b0:∀a,a<n->WT a<512:=λa ha=>aW (hW a ha).1 hp;refine JI rfl zQ ?_;show wpC E Yf S273.body _ (Jw S273.res _);conv in(occs:=*)S273=>all_goals cbv
 simp(disch:=try exact zD)[S273];refine jW (vs:=[.ptr (2*uG+1) uG 0]) zS rfl rfl (evo178 (hG.keep (λx _ _=>by simp) zK) zO _ _) ?_;simp;refine jk3 (n:=n) (by simp[ht]) (by simp[ht]) zO zO rfl zQ ?_;rw[jrh];simp;refine jg λj g=>?_;obtain⟨uL,u1,u2,g3,gL⟩:∃u,ub<=u/\u<j.nx/\j.tm 3=.osl (2*u+1) u 0 n 1/\j.ob (2*u+1)=some ⟨u,.cells (List.replicate n .nilptr)⟩:=⟨ub+192,zO,by rw[g];first|omega|(simp;done)|(simp;omega),by rw[g];simp[aI],by rw[g];simp[aI]⟩;have g0:j.tm 0=.ptr (2*uG+1) uG 0:=by rw[g];simp
 have d3:j.tm 11=.int .i64 n:=by rw[g];simp
 have c8:j.tm 12=.int .i64 0:=by rw[g];simp
 have gd:j.df=[]:=by rw[g];simp
 have gr:j.ro=ro:=by rw[g];simp
 have go:∀z,Off ub z->j.ob z=ob z:=λz hk=>by have:=hk.ne;rw[g];simp(disch:=try exact zD)[this]
 clear g;obtain⟨J,hJ⟩:∃J:Nat->St->Prop,J=λi s=>s.tm 12=.int .i64 i/\ub<=s.nx/\(∃lu,lu.length=i/\Rs ub s.nx uL lu (n-i) WT s.ob)/\∀z,Off ub z->s.ob z=ob z:=⟨_,rfl⟩;refine j9 [(4,4),(12,22)] n J rfl rfl ?_ ?_;rw[hJ];exact⟨by simpa using c8,zO,⟨[],rfl,⟨by simpa using gL,λi hi=>(by simp at hi),dH,cZ,⟨u1,u2⟩,λx hx=>(by cases hx)⟩⟩,go⟩;clear c8 gL;intro i s hi b9 f;rw[hJ]at b9;obtain⟨O,sn,⟨lu,K,N⟩,so⟩:=b9;have s0:=(f.t 0 zS).trans g0;have s3:=(f.t 3 zS).trans g3;have S:=(f.t 11 zS).trans d3;have sd:=f.d.trans gd;have sr:=f.r.trans gr;have b7:Gr lo s.nx uG (some ut) (some uf) ue tu fu WT WF T s.ob:=hG.keep (λx _ h=>so _ (Off.new h)) sn;clear f;by_cases F:i<n
 ·have Q:=jb F zO;simp(disch:=try exact zD)[O,S,s3,s0,F];refine jpv (vs:=[.ptr (2*uG+1) uG 0,.int .i64 i]) zS rfl rfl (j6s (b7.keep (λx _ h=>?_) ?_) zK zO (b0 i F) _ _) λtt nl add=>?_;simp
  ·first|omega|(simp;done)|(simp;omega)
  have e2:=ja1 (WT i);simp;refine jP (vs:=[.sl tt nl (yp (WT i)).length ((yq (yp (WT i))).flatMap yf)]) (by simp[JY]) rfl (sv151l (by simp[sr];omega) (λb hb=>?_) zO) ?_;have:=(bitsUp_mem.1 hb).1;omega;rintro v1 a0 d1 U ⟨x,q1,q2,rfl,q4,q5⟩;rw[j20 (b0 i F)]at q4;simp only at q1 q2 q4 q5;have d5:s.nx<=x:=by first|omega|(simp at q1;omega)
  have G:=N.o;have c6:=N.r;have c9:=jp6 (l:=2*uL+1) (u:=uL) (kk:=.i64) F;have c1:∀y,y<s.nx->a0 (2*y+1)=s.ob (2*y+1):=λy hy=>by rw[q5 _ (Off.new zL)];simp
  have c4:a0 (2*uL+1)=_:=(c1 uL c6.2).trans G;have c7:=j4 jkl lu;have d8:(lu.flatMap ptC++List.replicate (n-i) V.nilptr).length=n:=by rw[aw,List.length_replicate,c7];omega
  have d9:(lu.flatMap ptC).length+(n-i)=n:=by rw[c7];omega
  have nL:∀m,U<=m->¬uL=m:=λm hm=>by omega
  simp(disch:=try exact zD)[c9,j0,c4,d8,V.cells,V.leaf];refine⟨zO,zO,?_⟩;simp(disch:=try exact zD)[O,Q,F];rw[hJ];have d4:n-i=(n-(i+1))+1:=zO;rw[d4]at N ⊢;have d6:¬x=uL:=zO;refine⟨zS,zL,⟨lu++[x],by simp[K],N.add ?_ ?_ (λy hy=>?_) d5 zL⟩,λz hk=>?_⟩;simp[K,ptC];simp(disch:=try exact zD)[yj,d6,q4,K];have h3:=N.rs y hy;have:¬y=uL:=λe=>N.x (e▸hy);simp(disch:=try exact zD)[yj,this,c1 y h3.2];have h3:¬z=2*uL+1:=hk uL u1;simp[h3];rw[q5 z (hk.up zL)];simpa using so z hk
 ·have:i=n:=zO;subst this;simp(disch:=try exact zD)[O,S,s3];rw[fU]at N;refine jg λj g=>?_;have g3:j.tm 3=.osl (2*uL+1) uL 0 i 1:=by rw[g];simp[s3]
  have c5:j.tm 24=.int .i64 i:=by rw[g];simp
  have I:j.tm 25=.int .i64 0:=by rw[g];simp
  have gd:j.df=[]:=by rw[g];simp[sd]
  have gr:j.ro=ro:=by rw[g];simp[sr]
  have gn:ub<=j.nx:=by rw[g];first|omega|(simp;done)|(simp;omega)
  have gR:Rs ub j.nx uL lu 0 WT j.ob:=N.keep (λx _ _=>by rw[g];simp) (by rw[g];first|omega|(simp;done)|(simp;omega));clear g N b7 O s0 s3 S sd sr;obtain⟨J2,X⟩:∃J2:Nat->St->Prop,J2=λk s=>s.tm 25=.int .i64 k/\ub<=s.nx/\∃W,Rs ub s.nx uL lu 0 W s.ob/\WIs i W (war r k):=⟨_,rfl⟩;refine j9 [(5,6),(25,49)] i J2 rfl rfl (by rw[X];exact⟨by simpa using I,gn,WT,gR,hW⟩) ?_;clear I gn gR;intro k p hk b8 f;rw[X]at b8;obtain⟨Z,pn,W,pR,pW⟩:=b8;have p3:=(f.t 3 zS).trans g3;have P:=(f.t 24 zS).trans c5;have pd:=f.d.trans gd;have pr:=f.r.trans gr;clear f;by_cases D:k<i
  ·have Q:=jb D zO;simp(disch:=try exact zD)[Z,P,p3,D];refine jg λj g=>?_;have g3:j.tm 3=.osl (2*uL+1) uL 0 i 1:=by rw[g];simp[p3]
   have g5:j.tm 5=.int .i64 k:=by rw[g];simp
   have c5:j.tm 24=.int .i64 i:=by rw[g];simp[P]
   have I:j.tm 25=.int .i64 k:=by rw[g];simp[Z]
   have d2:j.tm 29=.int .i64 i:=by rw[g];simp
   have b6:j.tm 30=.int .i64 0:=by rw[g];simp
   have gd:j.df=[]:=by rw[g];simp[pd]
   have gr:j.ro=ro:=by rw[g];simp[pr]
   have gn:ub<=j.nx:=by rw[g];first|omega|(simp;done)|(simp;omega)
   have gR:Rs ub j.nx uL lu 0 W j.ob:=pR.keep (λx _ _=>by rw[g];simp) (by rw[g];first|omega|(simp;done)|(simp;omega));clear g pR;obtain⟨J3,M⟩:∃J3:Nat->St->Prop,J3=λb s=>s.tm 30=.int .i64 b/\ub<=s.nx/\∃W,Rs ub s.nx uL lu 0 W s.ob/\WIs i W (fD2 r k b):=⟨_,rfl⟩;refine j9 [(6,6),(30,48)] i J3 rfl rfl (by rw[M];exact⟨by simpa using b6,gn,W,gR,pW.congr λb a _ _=>(j45 r k b a).symm⟩) ?_;clear b6 gn gR;intro b q hb c2 f;rw[M]at c2;obtain⟨H,qn,W,L,qW⟩:=c2;have q3:=(f.t 3 zS).trans g3;have q5:=(f.t 5 zS).trans g5;have d7:=(f.t 25 zS).trans I;have c3:=(f.t 29 zS).trans d2;have qd:=f.d.trans gd;have qr:=f.r.trans gr;clear f;by_cases B:b<i;have c0:=jb B zO;have G:=L.o;have c6:=L.r;rw[fe,aP]at G;have x1:=jp6 (l:=2*uL+1) (u:=uL) (kk:=.i64) B;have x2:=jkk (l:=lu) (i:=b) zO;have x3:=jp6 (l:=2*uL+1) (u:=uL) (kk:=.i64) D;have x4:=jkk (l:=lu) (i:=k) zO;have nL:∀m,q.nx<=m->¬uL=m:=λm hm=>by omega
   have b5:=L.s b zO;have d0:=L.s k zO;have lb:=L.rs _ (au (show b<lu.length by omega));have lk:=L.rs _ (au (show k<lu.length by omega));have wb:=aW (qW b B).1 hp;have wk:=aW (qW k D).1 hp;simp(disch:=try exact zD)[H,c3,q3,q5,B,x1,x2,j0,G];refine jW (vs:=[.ptr (2*lu[b]+1) lu[b] 0,.int .i64 k]) zS rfl rfl (jg9 (w:=W b) (by simpa using b5) (Off.new zL) zO zO _ _) ?_;cases hh:(W b).testBit k;simp(disch:=try exact zD)[H,c0,B];rw[M];refine⟨zS,zL,W,L.keep (λx _ _=>by simp) zL,qW.congr λc a _ _=>j46 ?_ c a⟩;have:=(qW b B).2 k D;rw[hh,j6n]at this;exact this.symm;simp(disch:=try exact zD)[q3,q5,x1,x2,x3,x4,j0,G];refine jP (vs:=[.ptr (2*lu[b]+1) lu[b] 0,.ptr (2*lu[k]+1) lu[k] 0]) zS rfl (sv298 (v:=W b) (w:=W k) (by simpa using b5) (by simpa using d0) zL zL (by simp[qr];omega) zO zO) ?_;rintro v1 a0 d1 U ⟨r1,r2⟩;simp only at r1 r2;have e0:q.nx<=U:=by first|omega|(simp at r1;omega)
   simp(disch:=try exact zD)[H,c0,B];rw[M];refine⟨zS,zL,_,L.put (a:=b) (w:=W b|||W k) zO ?_ (λx _ h2 h3=>?_) zL,qW.join D B hh⟩;have:=r2 (2*lu[b]+1) (Off.new zL);rw[zb rfl]at this;simpa using this;have:=r2 (2*x+1) (Off.new zL);rw[za zO]at this;simpa using this;have:b=i:=zO;subst this;simp(disch:=try exact zD)[H,c3,d7,Q,D];rw[X];exact⟨zS,zL,W,L.keep (λx _ _=>by simp) zL,qW.congr λc a hc _=>fD2_end hc a⟩
  have:k=i:=zO;subst this;simp(disch:=try exact zD)[Z,P,p3];exact Jj (by simp[pd]) ⟨uL,zS,lu,K,W,pR.keep (λx _ _=>by simp) zL,pW⟩
end
def edB (L:List P2) (x y:Nat):Bool:=L.contains ((y:Int),(x:Int))
def FromR (w:Nat) (v:V):Prop:=∃nl,jvy [.sl none nl (yq (yp w)).length ((yq (yp w)).flatMap yf),.int .i64 0] v
section
variable {ob:ZO}{ub n:Nat}{v:V}{L:List P2}
def evo222 (G:0<n) (z:n<=9) (hv:EdA ub ob v L) (k:InG n L) (Q:L.length<=10000) {t:Nat}(D:t<n) (tk:Nat->Bool) (base:Nat) :
 ∃q,EvO E 222 [.int .i64 (n:Int),.int .i64 (t:Int),v] ob tk base ub q/\∃w,(w<2^n/\∀a,a<n->w.testBit a=war (edB L) n t a)/\FromR w q:=by
 have hp:(2:Nat)^n<=512:=cu zQ z;have B:¬(t:Int)<0:=zO;have j:¬(n:Int)<=t:=zO;have c:¬(n<=t):=zO;refine jhv rfl zQ ?_;conv in(occs:=*)S222=>all_goals cbv
 simp(disch:=try exact zD)[S222];refine jP (vs:=[.int .i64 n,v]) zS rfl (j7n ?_ G z (hv.up zS ?_) k Q) ?_;simp;omega
 ·first|omega|(simp;done)|(simp;omega)
 rintro v1 U J b0 ⟨F,ut,uf,ue,tu,fu,T,rfl,I,m,b5,hT,P,p⟩;simp only at I P p;simp(disch:=try exact zD)[B,j,c];refine jP (vs:=[.ptr (2*F+1) F 0]) zS rfl (sv273 (n:=n) (r:=edB L) (I.keep (λx _ _=>?_) ?_) ?_ m G z (λb _=>⟨(Yw k b).1,λa _=>(Yw k b).2 a⟩)) ?_;simp
 ·first|omega|(simp;done)|(simp;omega)
 ·first|omega|(simp;done)|(simp;omega)
 rintro v2 K N O ⟨H,f,W,rfl,a0,d,M⟩;simp only at d;have e:=d.o;rw[fe,aP]at e;have S:=d.r;have x1:=jp6 (l:=2*H+1) (u:=H) (kk:=.i64) D;have x2:=jkk (l:=f) (i:=t) zO;have X:=d.s t zO;have ls:=d.rs _ (au (show t<f.length by omega));have ws:=M t D;simp(disch:=try exact zD)[x1,x2,j0,e];obtain⟨y,g⟩:=numR_intsV (yq (yp (W t)));refine jW (vs:=[.ptr (2*f[t]+1) f[t] 0]) zS rfl rfl (jjp (w:=W t) (by simpa using X) (Off.new zL) zO _ _) ?_;refine XB g λZ add=>?_;simp;refine jor (ns:=[6,7]) (ls:=[.sl none y (yq (yp (W t))).length ((yq (yp (W t))).flatMap yf),.int .i64 0]) (λr h=>⟨W t,ws,y,h⟩) zS rfl zS zS ?_;simp;exact⟨YJ rfl (Xc _ Z y _ _),ja rfl,trivial⟩
end
section
variable {g:Hist'}{M:List Int}{mn rn:Bool}{rt:Option (Nat × Nat)}{kX uX lo:Nat}{ob:ZO}{ub:Nat}{L:List P2}
def srcL (g:Hist') (M:List Int) (i:Nat):List P2:=(List.range i).map (jov g M)
def jw1 (g:Hist') (M:List Int) (i:Nat):srcL g M (i+1)=srcL g M i++[jov g M i]:=by unfold srcL;rw[dN,bA];rfl
def jj9 (g:Hist') (M:List Int) (i:Nat):(srcL g M i).length=i:=by simp[srcL]
def rdV (rt:Option (Nat×Nat)) (rn:Bool) (R:List (Int×Int)):V:=.sl rt rn R.length (R.flatMap jE)
def sv116 {Yf:YF}{tk:Nat->Bool}{ro base:Nat}(hX:MkR g (yl mn yf M) (rdV rt rn (yi g)) kX uX lo ob ub L) (hm:Xl g M=true) (l:Off lo kX) (P:lo<=ub) (b0:ro<=lo) (b7:ro<=uX) (hl:L.length<=10000) (hR:(yi g).length<=10000) :
 ∃r,EvS E Yf.y 116 [.ptr kX uX 0] ob tk ro base ub r/\ub<=r.2.2.2/\MkR g (yl mn yf M) (rdV rt rn (yi g)) kX uX lo r.2.1 r.2.2.2 (L++srcL g M (yi g).length)/\∀c,Off lo c->c≠kX->r.2.1 c=ob c:=by
 have b6:=XE hm;obtain⟨b8,o,_⟩:=id hX;refine JI rfl zQ ?_;show wpC E Yf S116.body _ (Jw S116.res _);conv in(occs:=*)S116=>all_goals cbv
 simp(disch:=try exact zD)[S116,j0,o,mkS,ya,rdV];refine jg λm h=>?_;have g0:m.tm 0=.ptr kX uX 0:=by rw[h];simp
 have g7:m.tm 7=rdV rt rn (yi g):=by rw[h];simp[rdV]
 have g8:m.tm 8=.int .i64 (yi g).length:=by rw[h];simp
 have g9:m.tm 9=.int .i64 0:=by rw[h];simp
 have gd:m.df=[]:=by rw[h];simp
 have gr:m.ro=ro:=by rw[h];simp
 have S:ub<=m.nx:=by rw[h];first|omega|(simp;done)|(simp;omega)
 have go:m.ob=ob:=by rw[h];simp
 clear h;obtain⟨J,O⟩:∃J:Nat->St->Prop,J=λi s=>s.tm 9=.int .i64 i/\MkR g (yl mn yf M) (rdV rt rn (yi g)) kX uX lo s.ob s.nx (L++srcL g M i)/\ub<=s.nx/\∀c,Off lo c->c≠kX->s.ob c=ob c:=⟨_,rfl⟩;refine j9 [(2,3),(9,25)] (yi g).length J rfl rfl ?_ ?_;rw[O];exact⟨by simpa using g9,by simpa[srcL] using hX.keep (λc _=>by rw[go]) (l.up P) S,S,λc _ _=>by rw[go]⟩;clear o g9 go S;intro i s hi q f;rw[O]at q;obtain⟨F,U,sn,so⟩:=q;have s0:=(f.t 0 zS).trans g0;have s7:=(f.t 7 zS).trans g7;have Z:=(f.t 8 zS).trans g8;have sd:=f.d.trans gd;have sr:=f.r.trans gr;clear f;by_cases j:i<(yi g).length;have K:=jb j zO;have n:i<M.length:=zO;obtain⟨lv,B,_⟩:=id U;have oX:=(l.up (show lo<=s.nx by omega)).ne;have x:=JS jU rt rn (yi g) .i64 j;have v:=λob=>WP (yi g) ob j;have I:=j7 j8 mn M .i64 n;have H:=jt M n;have T:=jw1 g M i;have D:jov g M i=(Jl g M[i],(yi g)[i].1):=by unfold jov;simp[am,aa n,aa j]
 have G:=jj9 g M i;generalize hp:(yi g)[i]=p at *;obtain⟨a,b⟩:=p;simp only at v;simp(disch:=try exact zD)[F,Z,s7,s0,j,rdV,x,v,j0,j6,yj];refine⟨by first|omega|(simp[sr];omega),?_⟩;simp(disch:=try exact zD)[s0,j0,j6,yj,B,mkS,ya,oX,I,H];refine jP (vs:=[.ptr kX uX 0,.int .i64 M[i],.int .i64 a]) zS rfl (sv168 (L:=L++srcL g M i) (lo:=lo) (U.keep (λc l=>?_) (l.up zO) zL) l zL (by first|omega|(simp[sr];omega)) (by first|omega|(simp[sr];omega)) (by rw[aw,G];omega) _ _) ?_;have:=l.ne;simp(disch:=try exact zD)[this];rintro v1 b5 a0 N ⟨r1,Q,X⟩;simp only at r1 Q X;have q1:s.nx<=N:=by first|omega|(simp at r1;omega)
 have z:Jl g (a:Int)=a:=by
  unfold Jl;obtain⟨k,l,_⟩:=jej j;have e:(yi g).getD i (0,0)=(a,b):=by simp[am,aa j,hp]
  rw[e]at l;have:a=(k:Int):=l;rw[za zO]
 rw[bj,z,<- D,<- T]at Q;simp(disch:=try exact zD)[F,K,j];rw[O];refine⟨zS,Q.keep (λc _=>by simp) (l.up zO) zL,zL,λc u w=>?_⟩;have h3:=(u.up (show lo<=s.nx by omega)).ne;simp;rw[X c u w];simp(disch:=try exact zD)[h3];exact so c u w;have:i=(yi g).length:=zO;subst this;simp(disch:=try exact zD)[F,Z];exact jfe (.inl rfl) (by simp[sd]) ⟨zL,U.keep (λc _=>by simp) (l.up zO) zL,λc u w=>by simpa using so c u w⟩
end
def j77 (g:Hist') (i k:Nat):List P2:=((g.ts.length:Int),(ym g).getD i 0)::((List.range k).filter λk=>yD g ((ym g).getD k 0).toNat==yD g ((ym g).getD i 0).toNat).map λk=>((ym g).getD k 0,(ym g).getD i 0)
def yE (g:Hist') (i:Nat):List P2:=(List.range i).flatMap (jv5 g)
def jw7 (g:Hist') (i:Nat):yE g (i+1)=yE g i++j77 g i i:=by unfold yE;rw[dN,cn];simp[jv5,j77]
def jw8 (g:Hist') (i k:Nat):j77 g i (k+1)=j77 g i k++if yD g ((ym g).getD k 0).toNat==yD g ((ym g).getD i 0).toNat then [((ym g).getD k 0,(ym g).getD i 0)] else []:=by unfold j77;rw[dN,cl,bA,de];congr 2;cases h:yD g ((ym g).getD k 0).toNat==yD g ((ym g).getD i 0).toNat<;>simp only[cE,eV,h,zd,ah,zc,bc,co]
def jq9 (g:Hist') (i:Nat):∀k,(j77 g i k).length<=k+1
 |0=>by simp[j77]
 |k+1=>by have:=jq9 g i k;rw[jw8];split<;>simp<;>omega
def je0 (g:Hist') (N:Nat):∀i,i<=N->(yE g i).length<=i*(N+1)
 |0,_=>by simp[yE]
 |i+1,h=>by have a:=je0 g N i zO;have b:=jq9 g i i;rw[jw7,aw,cJ];omega
def rdK (g:Hist') (lvl:Int) (M:List Int) (i j:Nat):List P2:=jov g M i::askE g M ((WH g lvl M i).take j) i
def rdL (g:Hist') (lvl:Int) (M:List Int) (i:Nat):List P2:=(List.range i).flatMap λi=>rdK g lvl M i (WH g lvl M i).length
def j2m {g:Hist'}{lvl:Int}{M O:List Int}{p:Int×Int}(h:lvl≠3):WZ g lvl M O p=WZ g lvl M [] p:=by unfold WZ;refine jg8 λk _=>?_;unfold Qn;rw[za h,za h]
def all_sat (g:Hist') (lvl:Int) (M:List Int):jv1 g lvl M (yE g (ym g).length++rdL g lvl M (yi g).length):=by intro z;rw[aQ,yE,rdL,ci,ci];simp only[aM,rdK,bt,bk]
section
variable {g:Hist'}{M:List Int}
def jxc {lvl:Int}(c:Xl g M=true) {l:List P2}(h:jv1 g lvl M l):∀z∈l,∃a b:Nat,z=((a:Int),(b:Int))/\a<g.ts.length+1/\b<g.ts.length+1:=by
 intro z i;have:z∈J0 (g.ts.length+1) (Qd g lvl M):=by rw[<- Qo c h,compP_mem,(XN l).mem_iff];exact i
 obtain⟨a,b,d,f,_,e⟩:=edgesOf_mem.1 this;exact⟨a,b,e,d,f⟩
end
section
variable {g:Hist'}{M:List Int}{kX uX lo:Nat}{ob:ZO}{ub:Nat}{L:List P2}
def sesT (g:Hist') (i:Nat) (s:Int):List Int:=((ym g).take i).filter λa=>yD g a.toNat==s
def jl8 {i:Nat}(h:i<(ym g).length) (s:Int):sesT g (i+1) s=sesT g i s++if yD g (ym g)[i].toNat==s then [(ym g)[i]] else []:=by unfold sesT;rw[ay h,cl];congr 1;cases h:yD g (ym g)[i].toNat==s<;>simp only[cE,eV,h,zd,ah,zc]
def j2k (g:Hist') (i:Nat) (s:Int):(sesT g i s).length<=i:=by unfold sesT;have:=cg (λa:Int=>yD g a.toNat==s) ((ym g).take i);rw[ai]at this;omega
def jq1 (l:List Int) (p:Int->Bool):∀i,i<=l.length->((List.range i).filter λk=>p (l.getD k 0)).map (λk=>l.getD k 0)=(l.take i).filter p
 |0,_=>rfl
 |i+1,h=>by
  have e:l.getD i 0=l[i]:=by simp[am,aa (show i<l.length by omega)]
  rw[dN,cl,bA,jq1 l p i zO,ay zO,cl];congr 1;cases a:p l[i]<;>simp only[cE,eV,e,a,zd,ah,zc,bc,co]
def sesE_T {i:Nat}(h:i<(ym g).length):jv5 g i=((g.ts.length:Int),(ym g)[i])::(sesT g i (yD g (ym g)[i].toNat)).map λa=>(a,(ym g)[i]):=by
 have e:(ym g).getD i 0=(ym g)[i]:=by simp[am,aa h]
 unfold jv5 sesT;rw[e,<- jq1 (ym g) (λa=>yD g a.toNat==yD g (ym g)[i].toNat) i zO,dl];rfl
def osV (p:Nat×Nat):V:=.osl (2*p.1+1) p.1 0 p.2 1
structure SesM (g:Hist') (ob:ZO) (lo hi kM uM i:Nat) (m:List (Int×(Nat×Nat))):Prop where
 o:ob kM=some ⟨uM,.mp i (MP osV m)⟩
 z:∀s,(jx m s).map (·.2)=none->sesT g i s=[]
 s:∀s u n,(jx m s).map (·.2)=some (u,n)->n=(sesT g i s).length/\ob (2*u+1)=some ⟨u,.cells ((sesT g i s).flatMap yf)⟩/\lo<=u/\u<hi
 j:∀s s' u n n',(jx m s).map (·.2)=some (u,n)->(jx m s').map (·.2)=some (u,n')->s=s'
def SesM.frame {ob':ZO}{hi hi' a b i:Nat}{m:List (Int×(Nat×Nat))}(h:SesM g ob lo hi a b i m) (e:ob' a=ob a) (k:∀s u n,(jx m s).map (·.2)=some (u,n)->ob' (2*u+1)=ob (2*u+1)) (p:hi<=hi'):SesM g ob' lo hi' a b i m :=
 ⟨e.trans h.o,h.z,λs u n c=>by
  obtain⟨l,d,f,q⟩:=h.s s u n c;exact⟨l,(k s u n c).trans d,f,zO⟩,h.j⟩
def SesM.next {ob':ZO}{hi hi' t p i w:Nat}{m:List (Int×(Nat×Nat))}(h:SesM g ob lo hi t p i m) (f:i<(ym g).length) {a:Int}(v:a=yD g (ym g)[i].toNat) (D:ob' t=some ⟨p,.mp (i+1) (MP osV (Wi m a (w,(sesT g i a).length+1)))⟩)
 (q:∀s u n,s≠a->(jx m s).map (·.2)=some (u,n)->ob' (2*u+1)=ob (2*u+1)) (x:ob' (2*w+1)=some ⟨w,.cells ((sesT g i a++[(ym g)[i]]).flatMap yf)⟩) (N:hi<=w) (B:lo<=w) (F:w<hi') (K:hi<=hi'):SesM g ob' lo hi' t p (i+1) (Wi m a (w,(sesT g i a).length+1)):=by
 have d:∀s,s≠a->sesT g (i+1) s=sesT g i s:=λs q=>by rw[jl8 f,show(yD g (ym g)[i].toNat==s)=false by rw[<- v];simpa using dA q,za zQ,aP]
 have r:sesT g (i+1) a=sesT g i a++[(ym g)[i]]:=by rw[jl8 f,<- v,beq_self_eq_true,zb rfl]
 refine⟨D,λs l=>?_,λs u n c=>?_,λs o u n y c b=>?_⟩;rw[W1]at l;by_cases e:s=a;rw[zb e]at l;cases l;rw[za e]at l;rw[d s e];exact h.z s l;rw[W1]at c;by_cases e:s=a;rw[zb e]at c;cases c;subst e;rw[r];exact⟨zS,x,B,F⟩;rw[za e]at c;rw[d s e];obtain⟨G,I,H,J⟩:=h.s s u n c;exact⟨G,(q s u n e c).trans I,H,zO⟩;rw[W1]at c b;by_cases e:s=a;by_cases k:o=a;rw[e,k];rw[zb e]at c;rw[za k]at b;cases c;have:=(h.s o _ _ b).2.2.2;omega;by_cases k:o=a;rw[za e]at c;rw[zb k]at b;cases b;have:=(h.s s _ _ c).2.2.2;omega;rw[za e]at c;rw[za k]at b;exact h.j s o u n y c b
end
def LsV (ob:ZO) (lo hi:Nat) (v:V) (T:List Int):Prop:=(v=.sl none true 0 []/\T=[])\/IntL ob lo hi v T
def LsV.len {ob:ZO}{lo hi:Nat}{v:V}{L:List Int}(h:LsV ob lo hi v L):QV v=some (.int .i64 (L.length:Nat)):=by rcases h with⟨rfl,rfl⟩|⟨u,rfl,_⟩<;>rfl
def jgu {F:Env}{Yf:YF}{lo hi ub:Nat}{v:V}{T:List Int}{p:Int}{s x:A}{st:St}{K:St->Nat->Prop}{d:Option Nat}(b:ye F st.tm s=v) (l:LsV st.ob lo hi v T) (k:st.ro<=lo) (c:jF st.ob 1 (ye F st.tm x)=some (yf p)) (o:T.length<=1000000)
 (h:∀a:List Nat,(a=[]\/∃u,v=.osl (2*u+1) u 0 T.length 1/\lo<=u/\u<hi/\a=[2*u+1])->QW K st d ub { v:=.osl (2*ub+1) ub 0 (T.length+1) 1,obs:=[(2*ub+1,⟨ub,.cells ((T++[p]).flatMap yf)⟩)],kill:=a }):jB F Yf ⟨d,.append true 1 8 s x,none,true⟩ st ub K:=by
 rcases l with⟨rfl,rfl⟩|⟨u,rfl,e,n,f⟩;refine X8 b c (by simp[yf]) zQ rfl (by simp[yf]) (by simp[yf]) ?_;simpa[yf,jI] using h [] (.inl rfl);have j:=j4 j8 T;refine Xm (cs:=T.flatMap yf) b c e (by simp[yf]) zO zO zQ rfl (by simp[yf];omega) (by simp[yf];omega) ?_;have:=h [2*u+1] (.inr ⟨u,rfl,n,f,rfl⟩);rw[aJ zO];simpa[yf,jI] using this
def lkV (m:List (Int×(Nat×Nat))) (s:Int):V:=match jx m s with
 |none=>.sl none true 0 []
 |some p=>osV p.2
section
variable {g:Hist'}{mv rv:V}{kX uX lo kM uM:Nat}{ob0 ob:ZO}{nx i:Nat}{Z:List P2}{m:List (Int × (Nat × Nat))}
def SesM.look {hi:Nat}(h:SesM g ob lo hi kM uM i m) (s:Int):Yc ob .int (.sl none true 0 []) false (.map kM uM) (.int .i64 s)=some (lkV m s):=by rw[jjd (f:=osV) m (by simp[jY,h.o])];unfold lkV;cases jx m s<;>rfl
def SesM.ls {hi:Nat}(h:SesM g ob lo hi kM uM i m) (s:Int):LsV ob lo hi (lkV m s) (sesT g i s):=by
 unfold lkV;cases a:jx m s with
 |none=>exact .inl ⟨rfl,h.z s (by rw[a];rfl)⟩
 |some p=>obtain⟨j,u,n⟩:=p;obtain⟨d,b,e,c⟩:=h.s s u n (by rw[a];rfl);exact .inr ⟨u,by rw[<- d];rfl,b,e,c⟩
structure SesJ (g:Hist') (mv rv:V) (kX uX lo kM uM:Nat) (ob0 ob:ZO) (nx:Nat) (Z:List P2) (i:Nat) (m:List (Int×(Nat×Nat))):Prop where
 e:∃lv,ob kX=some ⟨uX,.cells (mkS g mv rv lv)⟩/\EdV ob lo nx lv Z/\j5s lv Z kM/\∀s u n,(jx m s).map (·.2)=some (u,n)->j5s lv Z (2*u+1)
 q:SesM g ob (uM+1) nx kM uM i m
 w:∀key,Off lo key->key≠kX->ob key=ob0 key
 h:lo<=uM/\uM<nx/\kM=2*uM+1
 x:Off lo kX
def SesJ.up {nx':Nat}(h:SesJ g mv rv kX uX lo kM uM ob0 ob nx Z i m) (a:nx<=nx'):SesJ g mv rv kX uX lo kM uM ob0 ob nx' Z i m:=by obtain⟨⟨f,b,j,c,d⟩,q,w,⟨e,l,k⟩,x⟩:=h;exact⟨⟨f,b,j.frame (λ_ _ _=>rfl) a,c,d⟩,q.frame rfl (λ_ _ _ _=>rfl) a,w,⟨e,zO,k⟩,x⟩
def SesJ.put {Yf:YF}{tk:Nat->Bool}{ro base:Nat}(h:SesJ g mv rv kX uX lo kM uM ob0 ob nx Z i m) (p:ro<=lo) (t:ro<=uX) (Q:Z.length<=100000) (a b:Int) :
 ∃r,EvS E Yf.y 168 [.ptr kX uX 0,.int .i64 a,.int .i64 b] ob tk ro base nx r/\nx<=r.2.2.2/\SesJ g mv rv kX uX lo kM uM ob0 r.2.1 r.2.2.2 (Z++[(Jl g a,Jl g b)]) i m:=by
 obtain⟨⟨lv,S,G,T,U⟩,q,w,⟨F,B,k⟩,x⟩:=h;obtain⟨r,L,I,⟨f,K,u,D,O,X,M⟩,z⟩:=jwu (Yf:=Yf) (tk:=tk) (ro:=ro) (base:=base) S G x zO p t Q a b;have c:∀y,y<nx->j5s f (Z++[(Jl g a,Jl g b)]) (2*y+1):=λy d w H=>by
  rw[D]at H;have:u=w:=by injection H
  omega
 have o:kM≠kX:=λe=>x uM F (by rw[<- k,e]);have v:∀y,uM+1<=y->2*y+1≠kX:=λy d e=>x y zO e.symm;refine⟨r,L,I,⟨f,K,.inr ⟨u,D,O,zO,M⟩,by rw[k];exact c uM B,λs y n d=>c y (q.s s y n d).2.2.2⟩,q.frame (z kM (by rw[k];exact Off.new B) o T) (λs y n d=>?_) I,λj l J=>(z j (l.up zO) J (G.off l)).trans (w j l J),⟨F,zO,k⟩,x⟩;obtain⟨_,_,N,P⟩:=q.s s y n d;exact z _ (Off.new P) (v y N) (U s y n d)
def SesJ.next {ob':ZO}{nx' w:Nat}{kl:List Nat}{c:Int}(h:SesJ g mv rv kX uX lo kM uM ob0 ob nx Z i m) (H:i<(ym g).length) (h0:c=yD g (ym g)[i].toNat)
 (hM:ob' kM=some ⟨uM,.mp (i+1) (MP osV (Wi m c (w,(sesT g i c).length+1)))⟩) (hw:ob' (2*w+1)=some ⟨w,.cells ((sesT g i c++[(ym g)[i]]).flatMap yf)⟩) (z:kl=[]\/∃u,lkV m c=.osl (2*u+1) u 0 (sesT g i c).length 1/\uM+1<=u/\u<nx/\kl=[2*u+1])
 (r:∀a,Off nx a->a≠kM->kl.any (Nat.beq a)=false->ob' a=ob a) (L:nx<=w) (U:w<nx'):SesJ g mv rv kX uX lo kM uM ob0 ob' nx' Z (i+1) (Wi m c (w,(sesT g i c).length+1)):=by
 obtain⟨⟨J,e1,o,O,Q⟩,q,k0,⟨I,l2,F⟩,x⟩:=h;have G:kX≠kM:=λe=>x uM I (by rw[<- F,e]);have d:∀a,(∀u n,(jx m c).map (·.2)=some (u,n)->a≠2*u+1)->kl.any (Nat.beq a)=false:=λa B=>by
  rcases z with rfl|⟨u,b,_,_,rfl⟩;rfl;simp only[bJ,ce,bI];refine Ju (B u (sesT g i c).length ?_);unfold lkV at b;cases M:jx m c with
  |none=>rw[M]at b;cases b
  |some p=>rw[M]at b;obtain⟨j,v,n⟩:=p;simp only[osV]at b;injection b with _ a2 _ a4 _;subst a2 a4;rfl
 have f:∀a,Off lo a->kl.any (Nat.beq a)=false:=λa B=>d a λu n b e=>B u (by have:=(q.s c u n b).2.2.1;omega) e;have K:EdV ob' lo nx' J Z:=by rcases o with o|⟨v,rfl,v2,X,N⟩;exact .inl o;refine .inr ⟨v,rfl,(r _ (Off.new N) (λe=>O v rfl e.symm) (d _ λu n b e=>Q c u n b v rfl e.symm)).trans v2,X,zO⟩
 have k:∀y,nx<=y->j5s J Z (2*y+1):=λy hy v P=>by
  rcases o with⟨rfl,_⟩|⟨T,rfl,_,_,N⟩;cases P;have:T=v:=by injection P
  omega
 refine⟨⟨J,(r _ (x.up zO) G (f _ x)).trans e1,K,O,λs u n b=>?_⟩,q.next H h0 hM (λs u n t b=>?_) hw L zO U zO,λa l k2=>(r a (l.up zO) (λe=>l uM I (by rw[<- F,e])) (f _ l)).trans (k0 a l k2),⟨I,zO,F⟩,x⟩;rw[W1]at b;by_cases e:s=c;rw[zb e]at b;cases b;exact k _ L;rw[za e]at b;exact Q s u n b;obtain⟨_,_,q3,q4⟩:=q.s s u n b;refine r _ (Off.new q4) zO (d _ λu' S D e=>?_);have:u=u':=zO;subst this;exact t (q.j s c u n S b D)
end
def idxF (A:List Int) (x:Int):Option Nat:=(List.range A.length).find? λa=>decide (A.getD a 0=x)
def jvg {f:Nat->Bool}{n i:Nat}(hi:i<n) (h:f i=true) (b:∀j,j<i->f j=false):(List.range n).find? f=some i:=by rw[List.find?_range_eq_some];exact⟨h,by simpa using hi,λj a=>by simp[b j a]⟩
def j0e {f:Nat->Bool}{n:Nat}(a:∀j,j<n->f j=false):(List.range n).find? f=none:=by rw[List.find?_eq_none];intro j b;simp[a j (aM.1 b)]
section
variable {ob:ZO}{ub uA:Nat}{A:List Int}
def evo148 (z:ob (2*uA+1)=some ⟨uA,.cells (A.flatMap yf)⟩) (G:uA<ub) (F:A.length<=1000000) (x:Int) (tk:Nat->Bool) (base:Nat):EvO E 148 [.osl (2*uA+1) uA 0 A.length 1,.int .i64 x] ob tk base ub (.int .i64 (match idxF A x with|some a=>(a:Int)|none=>-1)):=by
 refine J1 rfl ?_;conv in(occs:=*)S148=>all_goals cbv
 simp;refine j9 [(4,5),(8,18)] A.length (λi s=>s.tm 8=.int .i64 i/\s.ob=ob/\∀j,j<i->decide (A.getD j 0=x)=false) rfl rfl ⟨zS,zS,λj h=>by omega⟩ ?_;rintro i s H ⟨o,v,p⟩ f;have y:s.tm 0=.osl (2*uA+1) uA 0 A.length 1:=by rw[f.t 0 zS];simp
 have w:s.tm 1=.int .i64 x:=by rw[f.t 1 zS];simp
 have q:s.tm 7=.int .i64 A.length:=by rw[f.t 7 zS];simp
 have r:s.df=[]:=by rw[f.d];simp
 clear f;by_cases b:i<A.length;have k:=jb b zO;have g:=jp6 (l:=2*uA+1) (u:=uA) (kk:=.i64) b;have m:=jt A b;have B:A.getD i 0=A[i]:=by simp[am,aa b]
 cases c:(x==A[i]);simp(disch:=try exact zD)[o,q,w,y,b,g,j0,v,z,m,c,k];intro j D;rcases bg.1 D with h|rfl;simpa using p j h;simp only[zk,ne_eq]at c;have:¬A[j]=x:=λe=>c e.symm
 simpa[aa b] using this;simp(disch:=try exact zD)[o,q,w,y,b,g,j0,v,z,m,c,k];have n:idxF A x=some i:=jvg b (by rw[B];simp only[zh]at c;simp[c]) p;refine j5 (by simp[r]) ?_ rfl;rw[n];simp;have:i=A.length:=zO;subst this;have n:idxF A x=none:=j0e p;simp(disch:=try exact zD)[o,q];refine j5 (by simp[r]) ?_ rfl;rw[n];simp
end
def jjy {n w:Nat}(d:n<=9) (a:w<2^n):yp w=(List.range n).filter λx=>w.testBit x:=by
 unfold yp;obtain⟨m,b⟩:∃m,9=n+m:=⟨9-n,zO⟩;rw[b,List.range_add,cl];have:((List.range m).map (n + ·)).filter (λx=>w.testBit x)=[]:=by rw[fX];intro x c;obtain⟨k,_,rfl⟩:=aE.1 c;rw[dZ (aW a (cu zQ zO))];decide
 rw[this,aP]
def jvs (w:Nat):(yp w).Nodup:=ib.filter _
end Go.Pv.T
