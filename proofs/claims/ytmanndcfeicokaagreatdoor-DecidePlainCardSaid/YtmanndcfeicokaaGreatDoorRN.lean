/- Part. -/
import Derived.Test.YtmanndcfeicokaaGreatDoorRM
set_option maxRecDepth 100000
set_option maxHeartbeats 8000000
set_option linter.all false
namespace Go.Pv.T
open Go Go.Pv
def EdA (lo:Nat) (ob:ZO) (v:V) (L:List P2):Prop :=
 (∃t nl,v=.sl t nl L.length (L.flatMap yT))\/∃k u,v=.osl k u 0 L.length 2/\ob k=some ⟨u,.cells (L.flatMap yT)⟩/\Off lo k
def EdA.len {lo:Nat}{ob:ZO}{v:V}{L:List P2}(h:EdA lo ob v L):WZ v=some (.int .i64 (L.length:Nat)):=by rcases h with⟨t,a,rfl⟩|⟨k,u,rfl,_⟩<;>rfl
def EdA.at {lo:Nat}{ob:ZO}{v:V}{L:List P2}(h:EdA lo ob v L) {i:Nat}(hi:i<L.length) :
 ∃p,jv 2 v (.int .i64 (i:Int))=some p/\∀a:ZO,(∀b,Off lo b->a b=ob b)->W9 a (some 2) p=some (.agg [.int .i64 L[i].1,.int .i64 L[i].2]):=by
 have d:=XS XD L i hi;have g:i*2+2<=(L.flatMap yT).length:=by rw[j1 XD];omega
 have c:Y2 (some 2) (L.flatMap yT) (i*2)=some (.agg [.int .i64 L[i].1,.int .i64 L[i].2]):=by simp only[Y2];rw[zb g,d];rfl
 rcases h with⟨t,j,rfl⟩|⟨k,u,rfl,l,f⟩;refine⟨_,JD XD t j L .i64 hi,λa _=>?_⟩;simpa[W9] using c;refine⟨_,jvz hi,λa e=>?_⟩;have:ya a k u=some (L.flatMap yT):=by simp[ya,e k f,l]
 simp only[W9,this,ah];exact c
def EdA.up {lo lo':Nat}{ob ob':ZO}{v:V}{L:List P2}(h:EdA lo ob v L) (c:∀a,Off lo a->ob' a=ob a) (d:lo<=lo'):EdA lo' ob' v L:=by rcases h with h|⟨k,u,f,e,b⟩;exact .inl h;exact .inr ⟨k,u,f,(c k b).trans e,b.up d⟩
section
variable {ub n:Nat}{ob:ZO}{L:List P2}{v:V}
def dual_W (h:InG n L):Dual n (rowW L) (colW L):=λa b _ _=>by rw[(W4 h a).2,(jhb h b).2]
def jw2:rowW []=λ_=>0:=rfl
def j0m:colW []=λ_=>0:=rfl
def j7f {Yf:YF}{tk:Nat->Bool}{ro base:Nat}(c3:ro<=ub) (h1:0<n) (h9:n<=9) (hv:EdA ub ob v L) (N:InG n L) (hl:L.length<=10000) :
 ∃r,EvS E Yf.y 122 [.int .i64 (n:Int),v] ob tk ro base ub r/\PgR ob ub n (rowW L) (colW L) L.length r:=by
 have D:=hv.len;refine J6 rfl zQ ?_;show wpC E Yf S122.body _ (Jh S122.res _);conv in(occs:=*)S122=>all_goals cbv
 simp(disch:=try exact zD)[S122];refine jJ (vs:=[.int .i64 n]) zS rfl (sv175 zP h1 h9) ?_;rintro v1 b6 b8 G ⟨uG,ut,uf,b7,tu,fu,T0,rfl,u,ht,hf,b0,q1,w⟩;simp only at u q1 w;simp(disch:=try exact zD)[D];refine jQ λl g=>?_;have c2:ub<=G:=by first|omega|(simp at q1;omega)
 have g6:l.tm 6=.ptr (2*uG+1) uG 0:=by rw[g];simp
 have g7:l.tm 7=.int .i64 0:=by rw[g];simp
 have b5:l.tm 20=v:=by rw[g];simp
 have a0:l.tm 21=.int .i64 L.length:=by rw[g];simp
 have M:l.tm 22=.int .i64 0:=by rw[g];simp
 have gd:l.df=[]:=by rw[g];simp
 have gr:l.ro=ro:=by rw[g];simp
 have gn:G<=l.nx:=by rw[g];first|omega|(simp;done)|(simp;omega)
 have go:l.ob=b6:=by rw[g];simp
 clear g;obtain⟨J,X⟩:∃J:Nat->St->Prop,J=λi s=>s.tm 22=.int .i64 i/\(∃ue T,Gr ub s.nx uG (some ut) (some uf) ue tu fu (rowW (L.take i)) (colW (L.take i)) T s.ob/\T.length<=i)/\ub<=s.nx/\∀c,Off ub c->s.ob c=ob c:=⟨_,rfl⟩;have o:=u.wide (lo':=ub) zL;refine j5 [(4,5),(9,11),(22,38)] L.length J rfl rfl ?_ ?_;rw[X];refine⟨by simpa using M,⟨b7,T0,?_,b0⟩,zO,λc k=>?_⟩;rw[dP,jw2,j0m,go];exact o.keep (λ_ _ _=>rfl) zO;rw[go];have:=w c (k.up zL);simpa using this;clear M go gn u o w;intro i s hi I f;rw[X]at I;obtain⟨B,⟨ue,T,Z,hT⟩,sn,P⟩:=I;have s6:=(f.t 6 zS).trans g6;have s7:=(f.t 7 zS).trans g7;have Q:=(f.t 20 zS).trans b5;have K:=(f.t 21 zS).trans a0;have sd:=f.d.trans gd;have sr:=f.r.trans gr;clear f;by_cases h:i<L.length;have U:=jR h zO;obtain⟨p,O,F⟩:=hv.at h;obtain⟨a,b,hz,ha,hb⟩:=N _ (au h);have H:L.take (i+1)=L.take i++[((a:Int),(b:Int))]:=by rw[av h,hz]
 rw[hz]at F;simp(disch:=try exact zD)[B,K,Q,h,O];rw[F _ λc k=>by simpa using P c k];simp(disch:=try exact zD)[s6,ya,j2];refine⟨by simp[sr];omega,?_⟩;refine jJ (vs:=[.ptr (2*uG+1) uG 0,.int .i64 a,.int .i64 b]) zS rfl (sv176 (n:=n) (lo:=ub) (Z.keep (λx _ _=>?_) ?_) ?_ ht hf zO ha hb (λi _=>(W4 (N.take _) i).1) (λi _=>(jhb (N.take _) i).1) (dual_W (N.take _)) zO) ?_;have:∀m,s.nx<=m->¬x=m:=λm hm=>by omega
 simp(disch:=try exact zD)[yj,this];show _<=_;first|omega|(simp;omega)
 first|omega|(simp[sr];omega)
 rintro v2 c0 c4 c1 ⟨bb,S,T2,rfl,z,b9,q2,q⟩;simp only at z q2 q;simp(disch:=try exact zD)[B,U,h];rw[X];refine⟨zS,⟨S,T2,?_,zO⟩,zL,λc k=>?_⟩;have e1:(λj=>if j=a then rowW (L.take i) a|||1<<<b else rowW (L.take i) j)=rowW (L.take (i+1)):=funext λx=>by rw[H,jl2];by_cases e:x=a;subst e;simp;rw[za e,za (by simp only;omega)]
 have e2:(λj=>if j=b then colW (L.take i) b|||1<<<a else colW (L.take i) j)=colW (L.take (i+1)):=funext λx=>by rw[H,jnv];by_cases e:x=b;subst e;simp;rw[za e,za (by simp only;omega)]
 rw[e1,e2]at z;exact z.keep (λx _ _=>by simp) zL;have:=q c k;have hn:=k.up (show ub<=s.nx by omega);have:=hn.ne;simp;rw[q c k];simp(disch:=try exact zD)[this];exact P c k;have:i=L.length:=zO;subst this;rw[bh]at Z;simp(disch:=try exact zD)[B,K,s6,s7];exact Yb (by simp[sd]) ⟨uG,ut,uf,ue,tu,fu,T,zS,Z.keep (λx _ _=>by simp) zL,ht,hf,hT,zL,λc k=>by simpa using P c k⟩
end
section
variable {lo hi uG:Nat}{ut uf:Nat}{ue:Option Nat}{tu fu:List Nat}{WT WF:Nat->Nat}{T:List P2}{ob:ZO}{ub:Nat}
def evo178 (b:Gr lo hi uG (some ut) (some uf) ue tu fu WT WF T ob) (c:hi<=ub) (tk:Nat->Bool) (base:Nat):EvO E 178 [.ptr (2*uG+1) uG 0] ob tk base ub (.int .i64 tu.length):=by
 have a:=b.o;have e:∀m,ub<=m->¬uG=m:=λm d=>by have:=b.rG;omega
 refine jr rfl ?_;conv in(occs:=*)S178=>all_goals cbv
 simp(disch:=try exact zD)[S178];refine jN (vs:=[.ptr (2*uG+1) uG 0]) zS rfl rfl (j0b (b.keep (λx _ _=>by simp) c) zO _ _) ?_;simp(disch:=try exact zD)[ya,a,slU];exact j3 zS zS rfl
def j6i (b:Gr lo hi uG (some ut) (some uf) ue tu fu WT WF T ob) (i:hi<=ub) {a:Nat}(c:a<tu.length) (g:WT a<512) (tk:Nat->Bool) (base:Nat):∃v,EvO E 181 [.ptr (2*uG+1) uG 0,.int .i64 (a:Int)] ob tk base ub v/\j09 (yt (yq (WT a))) v:=by
 have d:=b.o;have f:=b.t ut rfl;have D:∀m,ub<=m->¬uG=m:=λm s=>by have:=b.rG;omega
 have B:∀m,ub<=m->¬ut=m:=λm s=>by have:=b.rL ut (.inl rfl);omega
 have j:=b.st a c;have q:=b.rS tu[a] (.inl (au c));have y:=jlf (l:=2*ut+1) (u:=ut) (kk:=.i64) c;have z:=jj6 c;refine jb3 rfl zQ ?_;conv in(occs:=*)S181=>all_goals cbv
 simp(disch:=try exact zD)[S181];refine jN (vs:=[.ptr (2*uG+1) uG 0,.int .i64 a]) zS rfl rfl (jno (b.keep (λx _ _=>by simp) i) zO _ _ _) ?_;simp(disch:=try exact zD)[ya,d,slU,c,f,y,z];obtain⟨nl,e⟩:=numR_intsV (yt (yq (WT a)));refine jN (vs:=[.ptr (2*tu[a]+1) tu[a] 0]) zS rfl rfl (jjc (w:=WT a) (by simpa using j) (Off.new zO) g _ _) ?_;refine Jw e λp add=>?_;simp;exact slE (t:=p) (nl:=nl) (k:=(yt (yq (WT a))).length) (cs:=(yt (yq (WT a))).flatMap yf) (λr h=>⟨nl,h⟩) zS zS
def evo180 (c:Gr lo hi uG (some ut) (some uf) ue tu fu WT WF T ob) (j:hi<=ub) {a:Nat}(B:a<tu.length) (F:tu.length=fu.length) (i:WF a<512) (tk:Nat->Bool) (base:Nat):∃v,EvO E 180 [.ptr (2*uG+1) uG 0,.int .i64 (a:Int)] ob tk base ub v/\j09 (yt (yq (WF a))) v:=by
 have d:=c.o;have g:=c.f uf rfl;have H:∀m,ub<=m->¬uG=m:=λm y=>by have:=c.rG;omega
 have G:∀m,ub<=m->¬uf=m:=λm y=>by have:=c.rL uf (.inr (.inl rfl));omega
 have b:a<fu.length:=zO;have p:=c.sf a b;have s:=c.rS fu[a] (.inr (au b));have z:=jlf (l:=2*uf+1) (u:=uf) (kk:=.i64) b;have D:=jj6 b;refine jb3 rfl zQ ?_;conv in(occs:=*)S180=>all_goals cbv
 simp(disch:=try exact zD)[S180];refine jN (vs:=[.ptr (2*uG+1) uG 0,.int .i64 a]) zS rfl rfl (jno (c.keep (λx _ _=>by simp) j) zO _ _ _) ?_;simp(disch:=try exact zD)[ya,d,slU,B,g,z,D];obtain⟨nl,e⟩:=numR_intsV (yt (yq (WF a)));refine jN (vs:=[.ptr (2*fu[a]+1) fu[a] 0]) zS rfl rfl (jjc (w:=WF a) (by simpa using p) (Off.new zO) i _ _) ?_;refine Jw e λq add=>?_;simp;exact slE (t:=q) (nl:=nl) (k:=(yt (yq (WF a))).length) (cs:=(yt (yq (WF a))).flatMap yf) (λr h=>⟨nl,h⟩) zS zS
end
def orL (L:List Nat):Nat:=L.foldl (λw b=>w|||1<<<b) 0
def jka (L:List Nat) (b:Nat):orL (L++[b])=orL L|||1<<<b:=by simp[orL]
def jrv (L:List Nat):∀k,k<=L.length->∀i,(orL (L.take k)).testBit i=decide (i∈L.take k)
 |0,_,i=>by simp[orL]
 |k+1,h,i=>by have a:=jrv L k zO i;rw[av zO,jka,eL,a,da,fe,bz];simp only[bG,ze,aQ,ae];exact or_congr bU eq_comm
def j2p {w:Nat}(h:w<512):orL (yq w)=w:=by
 refine eU λi=>?_;have:=jrv (yq w) (yq w).length zK i;rw[bh]at this;rw[this,bz,ze,bitsUp_mem];constructor;exact λh=>h.2;intro a;refine⟨?_,a⟩;rcases cJ i 9 with h1|h1
 exact h1;have:w.testBit i=false:=dq (aX h (bY zQ h1:2^9<=2^i));rw[this]at a;cases a
def orL_lt {L:List Nat}(h:∀b∈L,b<64) (k:Nat) (c:k<=L.length):orL (L.take k)<2^64:=by
 induction k with
 |zero=>simp[orL]
 |succ k a=>rw[av zO,jka];exact or_lt (a zO) (h _ (au _))
section
variable {ob:ZO}{ub:Nat}
def SetR (ob:ZO) (ub w:Nat) (r:V×(ZO)×(Nat->Bool)×Nat):Prop :=
 ∃m,ub<=m/\m<r.2.2.2/\r.1=.ptr (2*m+1) m 0/\r.2.1 (2*m+1)=some ⟨m,.cells (yv w)⟩/\∀key,Off ub key->r.2.1 key=ob key
def sv151l {Yf:YF}{tk:Nat->Bool}{ro base:Nat}{t:Option (Nat×Nat)}{nl:Bool}{L:List Nat}(a0:ro<=ub) (N:∀b∈L,b<64) (hl:L.length<=100000):∃r,EvS E Yf.y 151 [.sl t nl L.length ((yt L).flatMap yf)] ob tk ro base ub r/\SetR ob ub (orL L) r:=by
 refine J6 rfl zQ ?_;show wpC E Yf S151.body _ (Jh S151.res _);conv in(occs:=*)S151=>all_goals cbv
 simp[V.cells];refine jQ λg c=>?_;obtain⟨m,O,M,g3,Q⟩:∃u,ub<=u/\u<g.nx/\g.tm 3=.ptr (2*u+1) u 0/\g.ob (2*u+1)=some ⟨u,.cells (yv 0)⟩:=⟨ub+128,zO,by rw[c];first|omega|(simp;done)|(simp;omega),by rw[c];simp[aA],by rw[c];simp[aA,yv]⟩;have g8:g.tm 8=.sl t nl L.length ((yt L).flatMap yf):=by rw[c];simp
 have U:g.tm 9=.int .i64 L.length:=by rw[c];simp
 have p:g.tm 10=.int .i64 0:=by rw[c];simp
 have gd:g.df=[]:=by rw[c];simp
 have gr:g.ro=ro:=by rw[c];simp
 have go:∀a,Off ub a->g.ob a=ob a:=λa h=>by have:=h.ne;rw[c];simp(disch:=try exact zD)[this]
 clear c;obtain⟨J,B⟩:∃J:Nat->St->Prop,J=λi s=>s.tm 10=.int .i64 i/\m<s.nx/\s.ob (2*m+1)=some ⟨m,.cells (yv (orL (L.take i)))⟩/\∀a,Off ub a->s.ob a=ob a:=⟨_,rfl⟩;refine j5 [(5,5),(10,17)] L.length J rfl rfl ?_ ?_;rw[B];exact⟨by simpa using p,M,by simpa[orL] using Q,go⟩;clear p go Q M;intro i s hi l f;rw[B]at l;obtain⟨j,sm,x,I⟩:=l;have P:=(f.t 3 zS).trans g3;have T:=(f.t 8 zS).trans g8;have K:=(f.t 9 zS).trans U;have S:=f.d.trans gd;have sr:=f.r.trans gr;clear f;by_cases e:i<L.length;have z:=jR e zO;have n:i<(yt L).length:=by simpa[yt] using e
 have q:jv 1 (.sl t nl L.length ((yt L).flatMap yf)) (.int .i64 (i:Int))=some (.eptr ((yt L).flatMap yf) (i*1)):=by have:=JD j6 t nl (yt L) .i64 n;rwa [show(yt L).length=L.length by simp[yt]]at this
 have o:=jn (yt L) n;have D:(yt L)[i]=((L[i]:Nat):Int):=by simp[yt]
 rw[D]at o;have Z:=N _ (au e);have v:orL (L.take (i+1))=orL (L.take i)|||1<<<L[i]:=by rw[av e,jka]
 have nm:∀k,s.nx<=k->¬m=k:=λk h=>by omega
 simp(disch:=try exact zD)[j,K,T,P,e,q,o];refine jJ (vs:=[.ptr (2*m+1) m 0,.int .i64 (L[i]:Nat)]) zS rfl (jtu (w:=orL (L.take i)) (by simpa using x) (Off.new zL) (by simp[sr];omega) Z (orL_lt N i zO)) ?_;rintro v1 b0 X G ⟨_,F,H⟩;simp only at F H;have b5:s.nx<=G:=by first|omega|(simp at H;omega)
 simp(disch:=try exact zD)[j,z,e];rw[B];refine⟨zS,zL,?_,λa h=>?_⟩;have:=F (2*m+1) (Off.new zL);rw[zb rfl]at this;simpa[v] using this;have:=F a (h.up zL);rw[za (h m O)]at this;simpa[I a h] using this;have:i=L.length:=zO;subst this;rw[bh]at x;simp(disch:=try exact zD)[j,K,P];exact JN (by simp[S]) ⟨m,O,zL,zS,by simpa using x,λa h=>by simpa using I a h⟩
def eqC_set (v w:Nat):J9 [.int,.int,.int,.int,.int,.int,.int,.int] (yv v) (yv w)=some (v==w):=by simp only[J9,yv,Q6,zd,ah,aU,beq_self_eq_true,ek];congr 1;rw[bz];simp only[zh,Int.ofNat_inj]
def jt1 {X x i:Nat}(h:i<8) (a:i≠0->x=0):j2 (yv X) i [.int .u64 (x:Int)]=yv (if i=0 then x else X):=by
 match i,h with
 |0,_=>rfl
 |1,_|2,_|3,_|4,_|5,_|6,_|7,_=>rw[a zQ];rfl
def sv298 {Yf:YF}{tk:Nat->Bool}{ro base a b v w:Nat}(ha:ob (2*a+1)=some ⟨a,.cells (yv v)⟩) (hb:ob (2*b+1)=some ⟨b,.cells (yv w)⟩) (la:a<ub) (lb:b<ub) (a0:ro<=a) (hv:v<2^64) (hw:w<2^64) :
 ∃r,EvS E Yf.y 298 [.ptr (2*a+1) a 0,.ptr (2*b+1) b 0] ob tk ro base ub r/\(ub<=r.2.2.2/\∀c,Off ub c->r.2.1 c=if c=2*a+1 then some ⟨a,.cells (yv (v|||w))⟩ else ob c):=by
 refine J6 rfl zQ ?_;show wpC E Yf S298.body _ (Jh S298.res _);have j:∀v,(yv v).length=8:=λ_=>rfl;have z:∀v,(yv v).take 8=yv v:=λ_=>rfl;have na:∀m,ub<=m->¬a=m:=λm Q=>by omega
 have nb:∀m,ub<=m->¬b=m:=λm Q=>by omega
 conv in(occs:=*)S298=>all_goals cbv
 simp(disch:=try exact zD)[S298,ya,ha,hb,j,yj,nb,z];refine⟨zO,by simp[yv,V.leaf],?_⟩;refine jQ λl g=>?_;obtain⟨p,u1,U,g5,T⟩:∃u,ub<=u/\u<l.nx/\l.tm 5=.ptr (2*u+1) u 0/\l.ob (2*u+1)=some ⟨u,.cells (yv v)⟩:=⟨ub+704,zO,by rw[g];first|omega|(simp;done)|(simp;omega),by rw[g];simp[aA],by rw[g];simp[aA,j2,j]⟩;have g0:l.tm 0=.ptr (2*a+1) a 0:=by rw[g];simp
 have O:l.tm 21=.agg (yv w):=by rw[g];simp
 have F:l.tm 22=.int .i64 0:=by rw[g];simp
 have gd:l.df=[]:=by rw[g];simp
 have gr:l.ro=ro:=by rw[g];simp
 have go:∀c,Off ub c->l.ob c=ob c:=λc n=>by have:=n.ne;rw[g];simp(disch:=try exact zD)[this]
 clear g;obtain⟨J,N⟩:∃J:Nat->St->Prop,J=λi s=>s.tm 22=.int .i64 i/\p<s.nx/\s.ob (2*p+1)=some ⟨p,.cells (yv v)⟩/\∀c,Off ub c->s.ob c=if c=2*a+1 then some ⟨a,.cells (yv (if i=0 then v else v|||w))⟩ else ob c:=⟨_,rfl⟩
 refine j5 [(6,7),(22,37)] 8 J rfl rfl ?_ ?_;rw[N];refine⟨by simpa using F,U,T,λc n=>?_⟩;rw[go c n];by_cases e:c=2*a+1;rw[zb e,e,ha];rfl;rw[za e];clear F go T U;intro i s hi x f;rw[N]at x;obtain⟨G,sm,sW,L⟩:=x;have Z:=(f.t 0 zS).trans g0;have s5:=(f.t 5 zS).trans g5;have P:=(f.t 21 zS).trans O;have sd:=f.d.trans gd;have sr:=f.r.trans gr;clear f;have I:=L (2*a+1) (Off.new la);rw[zb rfl]at I;have nw:∀m,s.nx<=m->¬p=m:=λm Q=>by omega
 have b5:∀m,s.nx<=m->¬a=m:=λm Q=>by omega
 by_cases h:i<8;have M:=jR h zQ;have K:(i:Int)<8:=zO;have o:jbx none 8 1 (.agg (yv w)) (.int .i64 (i:Int))=some (.int .u64 (if i=0 then w else 0:Nat)):=by have:=jot (w:=w) h;simp[jbx,K,Y2,this]
 have S:Wj 8 1 (.ptr (2*a+1) a 0) (.int .i64 (i:Int))=some (.ptr (2*a+1) a i):=by simp[Wj,K]
 obtain⟨X,H⟩:∃X,X=if i=0 then v else v|||w:=⟨_,rfl⟩
 rw[<- H]at I;have D:=jot (w:=X) h;have k:YL .or (.int .u64 ((if i=0 then X else 0:Nat):Int)) (.int .u64 ((if i=0 then w else 0:Nat):Int))=some (.int .u64 ((if i=0 then v|||w else 0:Nat):Int)):=by by_cases e:i=0;rw[zb e]at H;rw[zb e,zb e,zb e,H];exact jfm hv hw;rw[za e,za e,za e];exact jfm zQ zQ
 generalize b6:(if i=0 then w else 0:Nat)=x0 at o k;generalize b0:(if i=0 then X else 0:Nat)=x1 at D k;generalize q:(if i=0 then v|||w else 0:Nat)=x2 at k;simp(disch:=try exact zD)[G,P,Z,K,o,S,ya,I,D,k,j];refine⟨zO,?_⟩;simp(disch:=try exact zD)[M];rw[N];have B:j2 (yv X) i [.int .u64 (x2:Int)]=yv (v|||w):=by rw[jt1 h λe=>by rw[<- q,za e],<- q,H];by_cases e:i=0;rw[zb e,zb e];rw[za e,za e]
 refine⟨zO,h,zS,zL,?_,λc n=>?_⟩;simp(disch:=try exact zD)[yj,show ¬p=a by omega,sW];by_cases e:c=2*a+1;simp[e,B];have:=L c n;rw[za e]at this;simp[e,this];have:i=8:=zO;subst this;simp(disch:=try exact zD)[G,Z,s5,ya,I,sW,j,z,eqC_set];exact JN (by simp[sd]) ⟨zL,λc n=>by simpa using L c n⟩
end
structure Rs (lo hi uL:Nat) (lu:List Nat) (m:Nat) (W:Nat->Nat) (ob:ZO):Prop where
 o:ob (2*uL+1)=some ⟨uL,.cells (lu.flatMap ptC++List.replicate m .nilptr)⟩
 s:∀i (h:i<lu.length),ob (2*lu[i]+1)=some ⟨lu[i],.cells (yv (W i))⟩
 n:lu.Nodup
 x:uL ∉ lu
 r:lo<=uL/\uL<hi
 rs:∀x∈lu,lo<=x/\x<hi
section
variable {lo hi hi' uL m:Nat}{lu:List Nat}{W:Nat->Nat}{ob ob':ZO}
def Rs.keep (h:Rs lo hi uL lu m W ob) (b:∀x,lo<=x->x<hi->ob' (2*x+1)=ob (2*x+1)) (c:hi<=hi'):Rs lo hi' uL lu m W ob' :=
 ⟨(b uL h.r.1 h.r.2).trans h.o,λi hi=>(b _ (h.rs _ (au hi)).1 (h.rs _ (au hi)).2).trans (h.s i hi),h.n,h.x,⟨h.r.1,aX h.r.2 c⟩,λx a=>⟨(h.rs x a).1,aX (h.rs x a).2 c⟩⟩
def Rs.congr (h:Rs lo hi uL lu m W ob) {a:Nat->Nat}(b:∀i,i<lu.length->a i=W i):Rs lo hi uL lu m a ob:=⟨h.o,λi hi=>by rw[b i hi];exact h.s i hi,h.n,h.x,h.r,h.rs⟩
def Rs.put (h:Rs lo hi uL lu m W ob) {a w:Nat}(c:a<lu.length) (g:ob' (2*lu[a]+1)=some ⟨lu[a],.cells (yv w)⟩) (b:∀x,lo<=x->x<hi->x≠lu[a]->ob' (2*x+1)=ob (2*x+1)) (d:hi<=hi'):Rs lo hi' uL lu m (λi=>if i=a then w else W i) ob':=by have j:lu[a]∈lu:=au c;refine⟨(b uL h.r.1 h.r.2 (λe=>h.x (e▸j))).trans h.o,λi hi=>?_,h.n,h.x,⟨h.r.1,aX h.r.2 d⟩,λx f=>⟨(h.rs x f).1,aX (h.rs x f).2 d⟩⟩;by_cases e:i=a;subst e;rw[zb rfl];exact g;rw[za e];have:=h.rs _ (au hi);exact(b _ this.1 this.2 λk=>e (jkf h.n hi c k)).trans (h.s i hi)
def Rs.add (h:Rs lo hi uL lu (m+1) W ob) {x:Nat}(d:ob' (2*uL+1)=some ⟨uL,.cells (j2 (lu.flatMap ptC++List.replicate (m+1) .nilptr) lu.length (ptC x))⟩) (g:ob' (2*x+1)=some ⟨x,.cells (yv (W lu.length))⟩) (j:∀y∈lu,ob' (2*y+1)=ob (2*y+1)) (p:hi<=x) (o:x<hi'):Rs lo hi' uL (lu++[x]) m W ob':=by
 have f:hi<=hi':=zO;have k:=h.r;have a:=j1 jj7 lu;refine⟨?_,λi hi=>?_,?_,?_,⟨h.r.1,aX h.r.2 f⟩,λy c=>?_⟩;rw[d];congr 3;unfold j2;rw[ee zO,List.drop_append,bB (by rw[a];simp[ptC])];simp[ptC,List.replicate_succ,a];by_cases e:i<lu.length;rw[fL e];exact(j _ (au e)).trans (h.s i e);have:i=lu.length:=by rw[ap,em]at hi;omega
 subst this;rw[fE zK];simpa using g;rw[dc];exact⟨h.n,zS,λy c z l e=>by rw[ae]at l;have:=(h.rs y c).2;omega⟩;rw[aQ,ae];rintro(b|b);exact h.x b;omega;rw[aQ,ae]at c;rcases c with b|b;have:=h.rs y b;omega;omega
end
def WIs (n:Nat) (W:Nat->Nat) (f:Nat->Nat->Bool):Prop:=∀b,b<n->W b<2^n/\∀a,a<n->(W b).testBit a=f b a
def WIs.congr {n:Nat}{W:Nat->Nat}{f g:Nat->Nat->Bool}(h:WIs n W f) (e:∀b a,b<n->a<n->f b a=g b a):WIs n W g:=λb c=>⟨(h b c).1,λa d=>((h b c).2 a d).trans (e b a c d)⟩
def WIs.join {n:Nat}{W:Nat->Nat}{r:Nat->Nat->Bool}{k b:Nat}(h:WIs n W (fD2 r k b)) (o:k<n) (s:b<n) (q:(W b).testBit k=true):WIs n (λi=>if i=b then W b|||W k else W i) (fD2 r k (b+1)):=by
 intro c p;have g:=h b s;have j:=h k o;by_cases e:c=b;subst e;simp only[zd];refine⟨dJ g.1 j.1,λa d=>?_⟩;rw[eL,g.2 a d,j.2 a d];have f:war r k c k=true:=by have:=g.2 k o;rw[q]at this;simpa[fD2] using this.symm
 have t:fD2 r k c c a=war r k c a:=j6c r k c a;have u:fD2 r k c k a=war r k k a:=by unfold fD2;split;exact j1p r k a;rfl
 rw[t,u];unfold fD2;rw[zb zO,war,f,bO];simp only[za e];refine⟨(h c p).1,λa d=>?_⟩;rw[(h c p).2 a d];unfold fD2;by_cases l:c<b;rw[zb l,zb zO];rw[za l,za zO]
def jpt {Yf:YF}{f:FuncId}{xs:List A}{st:St}{ub:Nat}{K:St->Nat->Prop}{d:Option Nat}{nm:Bool}{vs:List V}{l:List Int}(e:xs.map (ye E st.tm)=vs) (c:E.sh nm f=false) (hp:(vs.all λv=>v.strip.pureTop)=false)
 (h:∃v,EvO E f vs st.ob st.tk ((st.fb+d.getD 0+1)*1024) ub v/\j09 l v) (g:∀t a add,QP K st d ub { v:=.sl t a l.length (l.flatMap yf),add:=add }):j8 E Yf ⟨d,.call f xs,none,nm⟩ st ub K:=by
 obtain⟨v,i,a,b⟩:=h;exact jN e c hp i (Jw b λt add=>g t a add)
section
variable {lo uG ut uf:Nat}{ue:Option Nat}{tu fu:List Nat}{WT WF:Nat->Nat}{T:List P2}{ob:ZO}{ub n:Nat}
def sv273 {Yf:YF}{tk:Nat->Bool}{ro base:Nat}(hG:Gr lo ub uG (some ut) (some uf) ue tu fu WT WF T ob) (e1:ro<=ub) (ht:tu.length=n) (h1:0<n) (h9:n<=9) {r:Nat->Nat->Bool}(hW:WIs n WT λb a=>r a b) :
 ∃q,EvS E Yf.y 273 [.ptr (2*uG+1) uG 0] ob tk ro base ub q/\∃uL lu W,q.1=.osl (2*uL+1) uL 0 n 1/\lu.length=n/\Rs ub q.2.2.2 uL lu 0 W q.2.1/\WIs n W (war r n):=by
 have hp:(2:Nat)^n<=512:=bY zQ h9;have b0:∀a,a<n->WT a<512:=λa ha=>aX (hW a ha).1 hp;refine J6 rfl zQ ?_;show wpC E Yf S273.body _ (Jh S273.res _);conv in(occs:=*)S273=>all_goals cbv
 simp(disch:=try exact zD)[S273];refine jN (vs:=[.ptr (2*uG+1) uG 0]) zS rfl rfl (evo178 (hG.keep (λx _ _=>by simp) zK) zO _ _) ?_;simp;refine jkp (n:=n) (by simp[ht]) (by simp[ht]) zO zO rfl zQ ?_;rw[jrj];simp;refine jQ λj g=>?_;obtain⟨uL,u1,u2,g3,gL⟩:∃u,ub<=u/\u<j.nx/\j.tm 3=.osl (2*u+1) u 0 n 1/\j.ob (2*u+1)=some ⟨u,.cells (List.replicate n .nilptr)⟩:=⟨ub+192,zO,by rw[g];first|omega|(simp;done)|(simp;omega),by rw[g];simp[aA],by rw[g];simp[aA]⟩;have g0:j.tm 0=.ptr (2*uG+1) uG 0:=by rw[g];simp
 have d3:j.tm 11=.int .i64 n:=by rw[g];simp
 have c8:j.tm 12=.int .i64 0:=by rw[g];simp
 have gd:j.df=[]:=by rw[g];simp
 have gr:j.ro=ro:=by rw[g];simp
 have go:∀z,Off ub z->j.ob z=ob z:=λz hk=>by have:=hk.ne;rw[g];simp(disch:=try exact zD)[this]
 clear g;obtain⟨J,hJ⟩:∃J:Nat->St->Prop,J=λi s=>s.tm 12=.int .i64 i/\ub<=s.nx/\(∃lu,lu.length=i/\Rs ub s.nx uL lu (n-i) WT s.ob)/\∀z,Off ub z->s.ob z=ob z:=⟨_,rfl⟩;refine j5 [(4,4),(12,22)] n J rfl rfl ?_ ?_;rw[hJ];exact⟨by simpa using c8,zO,⟨[],rfl,⟨by simpa using gL,λi hi=>(by simp at hi),ey,dh,⟨u1,u2⟩,λx hx=>(by cases hx)⟩⟩,go⟩;clear c8 gL;intro i s hi b9 f;rw[hJ]at b9;obtain⟨O,sn,⟨lu,K,N⟩,so⟩:=b9;have s0:=(f.t 0 zS).trans g0;have s3:=(f.t 3 zS).trans g3;have S:=(f.t 11 zS).trans d3;have sd:=f.d.trans gd;have sr:=f.r.trans gr;have b7:Gr lo s.nx uG (some ut) (some uf) ue tu fu WT WF T s.ob:=hG.keep (λx _ h=>so _ (Off.new h)) sn;clear f;by_cases F:i<n
 ·have Q:=jR F zO;simp(disch:=try exact zD)[O,S,s3,s0,F];refine jpt (vs:=[.ptr (2*uG+1) uG 0,.int .i64 i]) zS rfl rfl (j6i (b7.keep (λx _ h=>?_) ?_) zK zO (b0 i F) _ _) λtt nl add=>?_;simp
  ·first|omega|(simp;done)|(simp;omega)
  have e2:=ja0 (WT i);simp;refine jJ (vs:=[.sl tt nl (yq (WT i)).length ((yt (yq (WT i))).flatMap yf)]) (by simp[JA]) rfl (sv151l (by simp[sr];omega) (λb hb=>?_) zO) ?_;have:=(bitsUp_mem.1 hb).1;omega;rintro v1 a0 d1 U ⟨x,q1,q2,rfl,q4,q5⟩;rw[j2p (b0 i F)]at q4;simp only at q1 q2 q4 q5;have d5:s.nx<=x:=by first|omega|(simp at q1;omega)
  have G:=N.o;have c6:=N.r;have c9:=jlf (l:=2*uL+1) (u:=uL) (kk:=.i64) F;have c1:∀y,y<s.nx->a0 (2*y+1)=s.ob (2*y+1):=λy hy=>by rw[q5 _ (Off.new zL)];simp
  have c4:a0 (2*uL+1)=_:=(c1 uL c6.2).trans G;have c7:=j1 jj7 lu;have d8:(lu.flatMap ptC++List.replicate (n-i) V.nilptr).length=n:=by rw[ap,List.length_replicate,c7];omega
  have d9:(lu.flatMap ptC).length+(n-i)=n:=by rw[c7];omega
  have nL:∀m,U<=m->¬uL=m:=λm hm=>by omega
  simp(disch:=try exact zD)[c9,ya,c4,d8,V.cells,V.leaf];refine⟨zO,zO,?_⟩;simp(disch:=try exact zD)[O,Q,F];rw[hJ];have d4:n-i=(n-(i+1))+1:=zO;rw[d4]at N ⊢;have d6:¬x=uL:=zO;refine⟨zS,zL,⟨lu++[x],by simp[K],N.add ?_ ?_ (λy hy=>?_) d5 zL⟩,λz hk=>?_⟩;simp[K,ptC];simp(disch:=try exact zD)[yj,d6,q4,K];have h3:=N.rs y hy;have:¬y=uL:=λe=>N.x (e▸hy);simp(disch:=try exact zD)[yj,this,c1 y h3.2];have h3:¬z=2*uL+1:=hk uL u1;simp[h3];rw[q5 z (hk.up zL)];simpa using so z hk
 ·have:i=n:=zO;subst this;simp(disch:=try exact zD)[O,S,s3];rw[fU]at N;refine jQ λj g=>?_;have g3:j.tm 3=.osl (2*uL+1) uL 0 i 1:=by rw[g];simp[s3]
  have c5:j.tm 24=.int .i64 i:=by rw[g];simp
  have I:j.tm 25=.int .i64 0:=by rw[g];simp
  have gd:j.df=[]:=by rw[g];simp[sd]
  have gr:j.ro=ro:=by rw[g];simp[sr]
  have gn:ub<=j.nx:=by rw[g];first|omega|(simp;done)|(simp;omega)
  have gR:Rs ub j.nx uL lu 0 WT j.ob:=N.keep (λx _ _=>by rw[g];simp) (by rw[g];first|omega|(simp;done)|(simp;omega));clear g N b7 O s0 s3 S sd sr;obtain⟨J2,X⟩:∃J2:Nat->St->Prop,J2=λk s=>s.tm 25=.int .i64 k/\ub<=s.nx/\∃W,Rs ub s.nx uL lu 0 W s.ob/\WIs i W (war r k):=⟨_,rfl⟩;refine j5 [(5,6),(25,49)] i J2 rfl rfl (by rw[X];exact⟨by simpa using I,gn,WT,gR,hW⟩) ?_;clear I gn gR;intro k p hk b8 f;rw[X]at b8;obtain⟨Z,pn,W,pR,pW⟩:=b8;have p3:=(f.t 3 zS).trans g3;have P:=(f.t 24 zS).trans c5;have pd:=f.d.trans gd;have pr:=f.r.trans gr;clear f;by_cases D:k<i
  ·have Q:=jR D zO;simp(disch:=try exact zD)[Z,P,p3,D];refine jQ λj g=>?_;have g3:j.tm 3=.osl (2*uL+1) uL 0 i 1:=by rw[g];simp[p3]
   have g5:j.tm 5=.int .i64 k:=by rw[g];simp
   have c5:j.tm 24=.int .i64 i:=by rw[g];simp[P]
   have I:j.tm 25=.int .i64 k:=by rw[g];simp[Z]
   have d2:j.tm 29=.int .i64 i:=by rw[g];simp
   have b6:j.tm 30=.int .i64 0:=by rw[g];simp
   have gd:j.df=[]:=by rw[g];simp[pd]
   have gr:j.ro=ro:=by rw[g];simp[pr]
   have gn:ub<=j.nx:=by rw[g];first|omega|(simp;done)|(simp;omega)
   have gR:Rs ub j.nx uL lu 0 W j.ob:=pR.keep (λx _ _=>by rw[g];simp) (by rw[g];first|omega|(simp;done)|(simp;omega));clear g pR;obtain⟨J3,M⟩:∃J3:Nat->St->Prop,J3=λb s=>s.tm 30=.int .i64 b/\ub<=s.nx/\∃W,Rs ub s.nx uL lu 0 W s.ob/\WIs i W (fD2 r k b):=⟨_,rfl⟩;refine j5 [(6,6),(30,48)] i J3 rfl rfl (by rw[M];exact⟨by simpa using b6,gn,W,gR,pW.congr λb a _ _=>(j4y r k b a).symm⟩) ?_;clear b6 gn gR;intro b q hb c2 f;rw[M]at c2;obtain⟨H,qn,W,L,qW⟩:=c2;have q3:=(f.t 3 zS).trans g3;have q5:=(f.t 5 zS).trans g5;have d7:=(f.t 25 zS).trans I;have c3:=(f.t 29 zS).trans d2;have qd:=f.d.trans gd;have qr:=f.r.trans gr;clear f;by_cases B:b<i;have c0:=jR B zO;have G:=L.o;have c6:=L.r;rw[fg,aL]at G;have x1:=jlf (l:=2*uL+1) (u:=uL) (kk:=.i64) B;have x2:=jj6 (l:=lu) (i:=b) zO;have x3:=jlf (l:=2*uL+1) (u:=uL) (kk:=.i64) D;have x4:=jj6 (l:=lu) (i:=k) zO;have nL:∀m,q.nx<=m->¬uL=m:=λm hm=>by omega
   have b5:=L.s b zO;have d0:=L.s k zO;have lb:=L.rs _ (au (show b<lu.length by omega));have lk:=L.rs _ (au (show k<lu.length by omega));have wb:=aX (qW b B).1 hp;have wk:=aX (qW k D).1 hp;simp(disch:=try exact zD)[H,c3,q3,q5,B,x1,x2,ya,G];refine jN (vs:=[.ptr (2*lu[b]+1) lu[b] 0,.int .i64 k]) zS rfl rfl (jg5 (w:=W b) (by simpa using b5) (Off.new zL) zO zO _ _) ?_;cases hh:(W b).testBit k;simp(disch:=try exact zD)[H,c0,B];rw[M];refine⟨zS,zL,W,L.keep (λx _ _=>by simp) zL,qW.congr λc a _ _=>j4z ?_ c a⟩;have:=(qW b B).2 k D;rw[hh,j6c]at this;exact this.symm;simp(disch:=try exact zD)[q3,q5,x1,x2,x3,x4,ya,G];refine jJ (vs:=[.ptr (2*lu[b]+1) lu[b] 0,.ptr (2*lu[k]+1) lu[k] 0]) zS rfl (sv298 (v:=W b) (w:=W k) (by simpa using b5) (by simpa using d0) zL zL (by simp[qr];omega) zO zO) ?_;rintro v1 a0 d1 U ⟨r1,r2⟩;simp only at r1 r2;have e0:q.nx<=U:=by first|omega|(simp at r1;omega)
   simp(disch:=try exact zD)[H,c0,B];rw[M];refine⟨zS,zL,_,L.put (a:=b) (w:=W b|||W k) zO ?_ (λx _ h2 h3=>?_) zL,qW.join D B hh⟩;have:=r2 (2*lu[b]+1) (Off.new zL);rw[zb rfl]at this;simpa using this;have:=r2 (2*x+1) (Off.new zL);rw[za zO]at this;simpa using this;have:b=i:=zO;subst this;simp(disch:=try exact zD)[H,c3,d7,Q,D];rw[X];exact⟨zS,zL,W,L.keep (λx _ _=>by simp) zL,qW.congr λc a hc _=>j95 hc a⟩
  have:k=i:=zO;subst this;simp(disch:=try exact zD)[Z,P,p3];exact JN (by simp[pd]) ⟨uL,zS,lu,K,W,pR.keep (λx _ _=>by simp) zL,pW⟩
end
def edB (L:List P2) (x y:Nat):Bool:=L.contains ((y:Int),(x:Int))
def FromR (w:Nat) (v:V):Prop:=∃nl,TupS [.sl none nl (yt (yq w)).length ((yt (yq w)).flatMap yf),.int .i64 0] v
section
variable {ob:ZO}{ub n:Nat}{v:V}{L:List P2}
def evo222 (G:0<n) (z:n<=9) (hv:EdA ub ob v L) (k:InG n L) (Q:L.length<=10000) {t:Nat}(D:t<n) (tk:Nat->Bool) (base:Nat) :
 ∃q,EvO E 222 [.int .i64 (n:Int),.int .i64 (t:Int),v] ob tk base ub q/\∃w,(w<2^n/\∀a,a<n->w.testBit a=war (edB L) n t a)/\FromR w q:=by
 have hp:(2:Nat)^n<=512:=bY zQ z;have B:¬(t:Int)<0:=zO;have j:¬(n:Int)<=t:=zO;have c:¬(n<=t):=zO;refine jb3 rfl zQ ?_;conv in(occs:=*)S222=>all_goals cbv
 simp(disch:=try exact zD)[S222];refine jJ (vs:=[.int .i64 n,v]) zS rfl (j7f ?_ G z (hv.up zS ?_) k Q) ?_;simp;omega
 ·first|omega|(simp;done)|(simp;omega)
 rintro v1 U J b0 ⟨F,ut,uf,ue,tu,fu,T,rfl,I,m,b5,hT,P,p⟩;simp only at I P p;simp(disch:=try exact zD)[B,j,c];refine jJ (vs:=[.ptr (2*F+1) F 0]) zS rfl (sv273 (n:=n) (r:=edB L) (I.keep (λx _ _=>?_) ?_) ?_ m G z (λb _=>⟨(W4 k b).1,λa _=>(W4 k b).2 a⟩)) ?_;simp
 ·first|omega|(simp;done)|(simp;omega)
 ·first|omega|(simp;done)|(simp;omega)
 rintro v2 K N O ⟨H,f,W,rfl,a0,d,M⟩;simp only at d;have e:=d.o;rw[fg,aL]at e;have S:=d.r;have x1:=jlf (l:=2*H+1) (u:=H) (kk:=.i64) D;have x2:=jj6 (l:=f) (i:=t) zO;have X:=d.s t zO;have ls:=d.rs _ (au (show t<f.length by omega));have ws:=M t D;simp(disch:=try exact zD)[x1,x2,ya,e];obtain⟨y,g⟩:=numR_intsV (yt (yq (W t)));refine jN (vs:=[.ptr (2*f[t]+1) f[t] 0]) zS rfl rfl (jjc (w:=W t) (by simpa using X) (Off.new zL) zO _ _) ?_;refine Jw g λZ add=>?_;simp;refine jhy (ns:=[6,7]) (ls:=[.sl none y (yt (yq (W t))).length ((yt (yq (W t))).flatMap yf),.int .i64 0]) (λr h=>⟨W t,ws,y,h⟩) zS rfl zS zS ?_;simp;exact⟨XP rfl (ja _ Z y _ _),jM rfl,trivial⟩
end
section
variable {g:Hist'}{M:List Int}{mn rn:Bool}{rt:Option (Nat × Nat)}{kX uX lo:Nat}{ob:ZO}{ub:Nat}{L:List P2}
def srcL (g:Hist') (M:List Int) (i:Nat):List P2:=(List.range i).map (j05 g M)
def jwt (g:Hist') (M:List Int) (i:Nat):srcL g M (i+1)=srcL g M i++[j05 g M i]:=by unfold srcL;rw[cV,bE];rfl
def jju (g:Hist') (M:List Int) (i:Nat):(srcL g M i).length=i:=by simp[srcL]
def rdV (rt:Option (Nat×Nat)) (rn:Bool) (R:List (Int×Int)):V:=.sl rt rn R.length (R.flatMap jC)
def sv116 {Yf:YF}{tk:Nat->Bool}{ro base:Nat}(hX:MkR g (yl mn yf M) (rdV rt rn (yi g)) kX uX lo ob ub L) (hm:WM g M=true) (l:Off lo kX) (P:lo<=ub) (b0:ro<=lo) (b7:ro<=uX) (hl:L.length<=10000) (hR:(yi g).length<=10000) :
 ∃r,EvS E Yf.y 116 [.ptr kX uX 0] ob tk ro base ub r/\ub<=r.2.2.2/\MkR g (yl mn yf M) (rdV rt rn (yi g)) kX uX lo r.2.1 r.2.2.2 (L++srcL g M (yi g).length)/\∀c,Off lo c->c≠kX->r.2.1 c=ob c:=by
 have b6:=Xi hm;obtain⟨b8,o,_⟩:=id hX;refine J6 rfl zQ ?_;show wpC E Yf S116.body _ (Jh S116.res _);conv in(occs:=*)S116=>all_goals cbv
 simp(disch:=try exact zD)[S116,ya,o,mkS,yb,rdV];refine jQ λm h=>?_;have g0:m.tm 0=.ptr kX uX 0:=by rw[h];simp
 have g7:m.tm 7=rdV rt rn (yi g):=by rw[h];simp[rdV]
 have g8:m.tm 8=.int .i64 (yi g).length:=by rw[h];simp
 have g9:m.tm 9=.int .i64 0:=by rw[h];simp
 have gd:m.df=[]:=by rw[h];simp
 have gr:m.ro=ro:=by rw[h];simp
 have S:ub<=m.nx:=by rw[h];first|omega|(simp;done)|(simp;omega)
 have go:m.ob=ob:=by rw[h];simp
 clear h;obtain⟨J,O⟩:∃J:Nat->St->Prop,J=λi s=>s.tm 9=.int .i64 i/\MkR g (yl mn yf M) (rdV rt rn (yi g)) kX uX lo s.ob s.nx (L++srcL g M i)/\ub<=s.nx/\∀c,Off lo c->c≠kX->s.ob c=ob c:=⟨_,rfl⟩;refine j5 [(2,3),(9,25)] (yi g).length J rfl rfl ?_ ?_;rw[O];exact⟨by simpa using g9,by simpa[srcL] using hX.keep (λc _=>by rw[go]) (l.up P) S,S,λc _ _=>by rw[go]⟩;clear o g9 go S;intro i s hi q f;rw[O]at q;obtain⟨F,U,sn,so⟩:=q;have s0:=(f.t 0 zS).trans g0;have s7:=(f.t 7 zS).trans g7;have Z:=(f.t 8 zS).trans g8;have sd:=f.d.trans gd;have sr:=f.r.trans gr;clear f;by_cases j:i<(yi g).length;have K:=jR j zO;have n:i<M.length:=zO;obtain⟨lv,B,_⟩:=id U;have oX:=(l.up (show lo<=s.nx by omega)).ne;have x:=JD jS rt rn (yi g) .i64 j;have v:=λob=>Ys (yi g) ob j;have I:=j4 j6 mn M .i64 n;have H:=jn M n;have T:=jwt g M i;have D:j05 g M i=(Jg g M[i],(yi g)[i].1):=by unfold j05;simp[ay,aa n,aa j]
 have G:=jju g M i;generalize hp:(yi g)[i]=p at *;obtain⟨a,b⟩:=p;simp only at v;simp(disch:=try exact zD)[F,Z,s7,s0,j,rdV,x,v,ya,j2,yj];refine⟨by first|omega|(simp[sr];omega),?_⟩;simp(disch:=try exact zD)[s0,ya,j2,yj,B,mkS,yb,oX,I,H];refine jJ (vs:=[.ptr kX uX 0,.int .i64 M[i],.int .i64 a]) zS rfl (sv168 (L:=L++srcL g M i) (lo:=lo) (U.keep (λc l=>?_) (l.up zO) zL) l zL (by first|omega|(simp[sr];omega)) (by first|omega|(simp[sr];omega)) (by rw[ap,G];omega) _ _) ?_;have:=l.ne;simp(disch:=try exact zD)[this];rintro v1 b5 a0 N ⟨r1,Q,X⟩;simp only at r1 Q X;have q1:s.nx<=N:=by first|omega|(simp at r1;omega)
 have z:Jg g (a:Int)=a:=by
  unfold Jg;obtain⟨k,l,_⟩:=jig j;have e:(yi g).getD i (0,0)=(a,b):=by simp[ay,aa j,hp]
  rw[e]at l;have:a=(k:Int):=l;rw[za zO]
 rw[aY,z,<- D,<- T]at Q;simp(disch:=try exact zD)[F,K,j];rw[O];refine⟨zS,Q.keep (λc _=>by simp) (l.up zO) zL,zL,λc u w=>?_⟩;have h3:=(u.up (show lo<=s.nx by omega)).ne;simp;rw[X c u w];simp(disch:=try exact zD)[h3];exact so c u w;have:i=(yi g).length:=zO;subst this;simp(disch:=try exact zD)[F,Z];exact jfg (.inl rfl) (by simp[sd]) ⟨zL,U.keep (λc _=>by simp) (l.up zO) zL,λc u w=>by simpa using so c u w⟩
end
def sesK (g:Hist') (i k:Nat):List P2:=((g.ts.length:Int),(ym g).getD i 0)::((List.range k).filter λk=>yE g ((ym g).getD k 0).toNat==yE g ((ym g).getD i 0).toNat).map λk=>((ym g).getD k 0,(ym g).getD i 0)
def yF (g:Hist') (i:Nat):List P2:=(List.range i).flatMap (j18 g)
def jlx (g:Hist') (i:Nat):yF g (i+1)=yF g i++sesK g i i:=by unfold yF;rw[cV,bJ];simp[j18,sesK]
def jly (g:Hist') (i k:Nat):sesK g i (k+1)=sesK g i k++if yE g ((ym g).getD k 0).toNat==yE g ((ym g).getD i 0).toNat then [((ym g).getD k 0,(ym g).getD i 0)] else []:=by unfold sesK;rw[cV,bP,bE,cZ];congr 2;cases h:yE g ((ym g).getD k 0).toNat==yE g ((ym g).getD i 0).toNat<;>simp only[ct,dy,h,zd,ag,zc,aZ,cm]
def jjz (g:Hist') (i:Nat):∀k,(sesK g i k).length<=k+1
 |0=>by simp[sesK]
 |k+1=>by have:=jjz g i k;rw[jly];split<;>simp<;>omega
def jai (g:Hist') (N:Nat):∀i,i<=N->(yF g i).length<=i*(N+1)
 |0,_=>by simp[yF]
 |i+1,h=>by have a:=jai g N i zO;have b:=jjz g i i;rw[jlx,ap,cW];omega
def rdK (g:Hist') (lvl:Int) (M:List Int) (i j:Nat):List P2:=j05 g M i::askE g M ((XA g lvl M i).take j) i
def rdL (g:Hist') (lvl:Int) (M:List Int) (i:Nat):List P2:=(List.range i).flatMap λi=>rdK g lvl M i (XA g lvl M i).length
def jro (g:Hist') (lvl:Int) (M:List Int) (i:Nat):rdL g lvl M (i+1)=rdL g lvl M i++rdK g lvl M i (XA g lvl M i).length:=by unfold rdL;rw[cV,bJ];simp
def j2e {g:Hist'}{lvl:Int}{M:List Int}{i j:Nat}(h:j<(XA g lvl M i).length):rdK g lvl M i (j+1)=rdK g lvl M i j++if Jp g (XA g lvl M i)[j] (Wx g ((yi g).getD i (0,0)))&&((XA g lvl M i)[j] != M.getD i 0) then [((XA g lvl M i)[j],Jg g (M.getD i 0))] else []:=by unfold rdK askE;rw[av h,bP,bE,cZ];congr 2;cases h:Jp g (XA g lvl M i)[j] (Wx g ((yi g).getD i (0,0)))&&((XA g lvl M i)[j] != M.getD i 0)<;>simp only[ct,dy,h,zd,ag,zc,aZ,cm]
def jxe (g:Hist') (lvl:Int) (M:List Int) (i j:Nat):(rdK g lvl M i j).length<=j+1:=by unfold rdK askE;have a:=ch (λt=>Jp g t (Wx g ((yi g).getD i (0,0)))&&(t != M.getD i 0)) ((XA g lvl M i).take j);rw[ai]at a;simp only[bg,bt];omega
def jl1 (g:Hist') (lvl:Int) (M:List Int) (i:Nat):(XA g lvl M i).length<=g.ts.length:=jg3 _ _
def joy (g:Hist') (lvl:Int) (M:List Int) (a:g.ts.length<=8):∀i,(rdL g lvl M i).length<=i*9
 |0=>by simp[rdL]
 |i+1=>by have b:=joy g lvl M a i;have d:=jxe g lvl M i (XA g lvl M i).length;have c:=jl1 g lvl M i;rw[jro,ap];omega
def j19 {g:Hist'}{lvl:Int}{M O:List Int}{p:Int×Int}(h:lvl≠3):jdn g lvl M O p=jdn g lvl M [] p:=by unfold jdn;refine jg4 λk _=>?_;unfold jdm;rw[za h,za h]
def all_sat (g:Hist') (lvl:Int) (M:List Int):jlc g lvl M (yF g (ym g).length++rdL g lvl M (yi g).length):=by intro z;rw[aQ,yF,rdL,cq,cq];simp only[bf,rdK,bD,bh]
section
variable {g:Hist'}{M:List Int}
def jov {lvl:Int}(c:WM g M=true) {l:List P2}(h:jlc g lvl M l):∀z∈l,∃a b:Nat,z=((a:Int),(b:Int))/\a<g.ts.length+1/\b<g.ts.length+1:=by
 intro z i;have:z∈jp (g.ts.length+1) (jdo g lvl M):=by rw[<- Qj c h,compP_mem,(XO l).mem_iff];exact i
 obtain⟨a,b,d,f,_,e⟩:=edgesOf_mem.1 this;exact⟨a,b,e,d,f⟩
def ev105 (hs:Small g) (h8:g.ts.length<=8) (hR:(yi g).length<=1000) {mn:Bool}(lvl:Int) (i8:lvl≠3) (X:WM g M=true):∃v,Ev E 105 [.int .i64 lvl,.agg (yb g),yl mn yf M] v/\∃l,jlc g lvl M l/\SlR v false (jp (g.ts.length+1) λa b=>l.contains ((a:Int),(b:Int))).length ((jp (g.ts.length+1) λa b=>l.contains ((a:Int),(b:Int))).flatMap yT):=by
 have i9:=Xi X;have g6:=ev16 g zO;rw[show yu Jq g.ts g.ts.length=ym g from rfl]at g6;obtain⟨vr,i1,i6⟩:=ev64 hs;have l7:=Xe g;have d6:=all_sat g lvl M;obtain⟨P,hP⟩:∃P:List P2->V->Prop,P=λl v=>SlR v false (jp (g.ts.length+1) λa b=>l.contains ((a:Int),(b:Int))).length ((jp (g.ts.length+1) λa b=>l.contains ((a:Int),(b:Int))).flatMap yT):=⟨_,rfl⟩;suffices h:∃v,Ev E 105 [.int .i64 lvl,.agg (yb g),yl mn yf M] v/\∃l,jlc g lvl M l/\P l v by rw[hP]at h;exact h
 refine JX rfl zQ ?_;simp only[F105,cfb,cf,Proofs.Tryz.f105,je0,ah];conv in (occs := *) j5b _ _ _ _=>all_goals cbv
 simp only[ah,aU];conv in (occs := *) Option.getD _ _=>all_goals cbv
 simp(disch:=try exact zD)[F105,ya,yb,yl];refine J0 (cs:=[]) rfl rfl rfl ?_;simp[ya];refine j55 g6 zH rfl zH λu1 _=>?_;simp[ya];refine X5 i1 zH rfl zH ?_;refine Jw i6 λrt add=>?_;simp;refine⟨by simp[JR,YY,Wn,QS,yz,yB,yR,uOf,Delta.wo,Delta.wt];try rfl,?_⟩;refine jQ λst F=>?_;obtain⟨t8,g8⟩:∃t,st.tm 8=.sl t false (ym g).length ((ym g).flatMap yf):=⟨_,by rw[F];simp;rfl⟩;have g0:st.tm 0=.int .i64 lvl:=by rw[F];simp
 have g2:st.tm 2=yl mn yf M:=by rw[F];simp[yl]
 have g4:st.tm 4=.ptr 1 0 0:=by rw[F];simp
 have g7:∃v,st.tm 7=v/\EdL st.ob 64 st.nx v (yF g 0):=⟨.osl 257 128 0 0 2,by rw[F];simp,128,rfl,by rw[F];simp[yF],zQ,by rw[F];simp⟩;have g9:st.tm 9=rdV rt false (yi g):=by rw[F];simp[rdV]
 have f7:st.tm 10=.int .i64 0:=by rw[F];simp
 have gB:st.ob 1=some ⟨0,.cells (yb g)⟩:=by rw[F];simp[yb,yl]
 have gd:st.df=[]:=by rw[F];simp
 have gr:st.ro=0:=by rw[F];simp
 have gn:64<=st.nx:=by rw[F];simp
 clear F;obtain⟨J,hJ⟩:∃J:Nat->St->Prop,J=λi s=>s.tm 10=.int .i64 i/\(∃v,s.tm 7=v/\EdL s.ob 64 s.nx v (yF g i))/\s.ob 1=some ⟨0,.cells (yb g)⟩/\64<=s.nx:=⟨_,rfl⟩;refine j5 [(7,7),(10,11),(23,75)] (ym g).length J rfl rfl (by rw[hJ];exact⟨by simpa using f7,g7,gB,gn⟩) ?_;clear g7 f7 gB gn;intro i s hi b8 f;rw[hJ]at b8;obtain⟨c9,⟨v,s7,sI⟩,sB,sn⟩:=b8;have s0:=(f.t 0 zS).trans g0;have s2:=(f.t 2 zS).trans g2;have s4:=(f.t 4 zS).trans g4;have s8:=(f.t 8 zS).trans g8;have s9:=(f.t 9 zS).trans g9;have sd:=f.d.trans gd;have sr:=f.r.trans gr;clear f;have n1:∀m,64<=m->¬1=2*m+1:=λm X=>by omega
 by_cases o:i<(ym g).length
 ·have d9:=jR o zO;have b0:=JD j6 t8 false (ym g) .i64 o;have e9:=jn (ym g) o;have k2:=jai g 8 i zO;have e0:(ym g).getD i 0=(ym g)[i]:=by simp[ay,aa o]
  obtain⟨c,hc,_,e8⟩:=jnu o;rw[e0]at hc;have b9:sesK g i 0=[((g.ts.length:Int),(ym g)[i])]:=by simp only[sesK,List.range_zero,dy,cm,e0]
  obtain⟨u,hv,h2,h3,h4⟩:=sI;have nu:∀m,s.nx<=m->¬u=m:=λm X=>by omega
  simp(disch:=try exact zD)[c9,s8,s7,s4,o,b0,e9,ya,sB,yb,yl,j2];refine J0 (cs:=[.int .i64 g.ts.length,.int .i64 (ym g)[i]]) (by simp[j2]) rfl rfl ?_;simp;refine WA (lo:=64) (hi:=s.nx) (v:=v) (L:=yF g i) (p:=((g.ts.length:Int),(ym g)[i])) (by simp[s7]) (.inr ⟨u,hv,by simp(disch:=try exact zD)[yj,nu,h2],h3,h4⟩) (by simp[sr]) (by simp[yp,ya,yT]) zO λkl hq=>?_;have K:∀D,Off 64 D->kl.any (Nat.beq D)=false:=λD hk=>by rcases hq with rfl|⟨u,h1,h2,rfl⟩;rfl;simp only[bp,bC,bm];exact JF (hk u h1)
  have T:=K 1 n1;rw[<- b9];simp(disch:=try exact zD);refine jQ λp I=>?_;have p4:p.tm 4=.ptr 1 0 0:=by rw[I];simp[s4]
  have p8:p.tm 8=.sl t8 false (ym g).length ((ym g).flatMap yf):=by rw[I];simp[s8]
  have h9:p.tm 10=.int .i64 i:=by rw[I];simp[c9]
  have h5:p.tm 11=.int .i64 0:=by rw[I];simp
  have pd:p.df=[]:=by rw[I];simp[sd]
  have pr:p.ro=0:=by rw[I];simp[sr]
  have pn:64<=p.nx:=by rw[I];first|omega|(simp;done)|(simp;omega)
  have pB:p.ob 1=some ⟨0,.cells (yb g)⟩:=by rw[I];simp(disch:=try exact zD)[j9,n1,T,sB]
  have pI:∃v,p.tm 7=v/\EdL p.ob 64 p.nx v (yF g i++sesK g i 0):=by
   refine⟨.osl (2*(s.nx+896)+1) (s.nx+896) 0 ((yF g i).length+1) 2,by rw[I];simp[aA],s.nx+896,by rw[b9];simp,?_,zO,?_⟩;rw[I];simp(disch:=try exact zD)[j9,aA]
   ·rw[I];first|omega|(simp;done)|(simp;omega)
  clear I;obtain⟨J2,d1⟩:∃J2:Nat->St->Prop,J2=λk q=>q.tm 11=.int .i64 k/\(∃v,q.tm 7=v/\EdL q.ob 64 q.nx v (yF g i++sesK g i k))/\q.ob 1=some ⟨0,.cells (yb g)⟩/\64<=q.nx:=⟨_,rfl⟩;refine j5 [(7,7),(11,11),(40,75)] i J2 rfl rfl (by rw[d1];exact⟨by simpa using h5,pI,pB,pn⟩) ?_;clear pI h5 pB pn;intro k q l1 c6 f;rw[d1]at c6;obtain⟨c7,⟨w,q7,qI⟩,qB,qn⟩:=c6;have q4:=(f.t 4 zS).trans p4;have q8:=(f.t 8 zS).trans p8;have e5:=(f.t 10 zS).trans h9;have qd:=f.d.trans pd;have qr:=f.r.trans pr;clear f;by_cases d4:k<i;have G:=jR d4 zO;have d0:k<(ym g).length:=zO;have d8:=JD j6 t8 false (ym g) .i64 d0;have c3:=jn (ym g) d0;have f3:(ym g).getD k 0=(ym g)[k]:=by simp[ay,aa d0]
  obtain⟨a,ha,_,e7⟩:=jnu d0;rw[f3]at ha;have n:=jly g i k;rw[f3,e0,ha,hc,ba,ba]at n;have k7:=jjz g i k;have h0:∀{x:Nat}(h:x<g.ts.length),(g.ts.flatMap jf)[x*3]? = some (.int .i64 (yE g x)):=fun {x} h=>by have:=jO j7 g.ts h (by decide:0<3);rw[bl]at this;rw[this];simp[jf,yE,h]
  have f1:=h0 e7;have f2:=h0 e8;have x1:=j4 j7 g.tn g.ts .i64 e7;have x2:=j4 j7 g.tn g.ts .i64 e8;rw[ha]at c3;have c4:=e9;rw[hc]at c4;simp(disch:=try exact zD)[c7,e5,q8,q4,d4,d8,c3,b0,c4,ya,qB,yb,x1,x2,f1,f2];obtain⟨u2,hw,w2,w3,w4⟩:=qI;cases c1:(yE g a==yE g c);rw[c1,za zQ,aL]at n;simp(disch:=try exact zD)[c7,G,d4];rw[d1];exact⟨zS,⟨w,by simp[q7],u2,by rw[n,hw],by rw[n];simpa using w2,w3,zL⟩,by simpa using qB,zL⟩;rw[c1,zb rfl]at n;have b5:∀m,q.nx<=m->¬u2=m:=λm X=>by omega
  simp(disch:=try exact zD)[c7,e5,q8,q7,d8,c3,b0,c4,j2];refine J0 (cs:=[.int .i64 (a:Int),.int .i64 (c:Int)]) (by simp[j2]) rfl rfl ?_;simp;refine WA (lo:=64) (hi:=q.nx) (v:=w) (L:=yF g i++sesK g i k) (p:=((a:Int),(c:Int))) (by simp[q7]) (.inr ⟨u2,hw,by simp(disch:=try exact zD)[yj,b5,w2],w3,w4⟩) (by simp[qr]) (by simp[yp,ya,yT]) (by rw[ap];omega) λkl hq=>?_;have K:∀D,Off 64 D->kl.any (Nat.beq D)=false:=λD hk=>by rcases hq with rfl|⟨u,h1,h2,rfl⟩;rfl;simp only[bp,bC,bm];exact JF (hk u h1)
  have T:=K 1 n1;rw[aY,<- n];have b7:(yF g i++sesK g i (k+1)).length=(yF g i++sesK g i k).length+1:=by rw[n,<- aY,ap (bs:=[_])];rfl
  generalize hB:yF g i++sesK g i (k+1)=B at *;generalize yF g i++sesK g i k=A at *;simp(disch:=try exact zD)[c7,G,d4];rw[d1];refine⟨zS,⟨.osl (2*(q.nx+2112)+1) (q.nx+2112) 0 B.length 2,by simp[b7,aA],q.nx+2112,by rw[hB],?_,zO,zL⟩,?_,zL⟩;rw[hB];simp(disch:=try exact zD)[j9,aA];simp(disch:=try exact zD)[j9,n1,T,qB];have e:k=i:=zO;subst e;simp(disch:=try exact zD)[c7,e5,d9,o];rw[hJ];rw[<- jlx]at qI;obtain⟨u2,hw,w2,w3,w4⟩:=qI;exact⟨zS,⟨w,by simpa using q7,u2,hw,by simpa using w2,w3,zL⟩,by simpa using qB,zL⟩
 ·have e:i=(ym g).length:=zO;subst e;simp(disch:=try exact zD)[c9,s8];refine jQ λx U=>?_;have x0:x.tm 0=.int .i64 lvl:=by rw[U];simp[s0]
  have x2:x.tm 2=yl mn yf M:=by rw[U];simp[s2]
  have x4:x.tm 4=.ptr 1 0 0:=by rw[U];simp[s4]
  have x8:x.tm 8=.sl t8 false (ym g).length ((ym g).flatMap yf):=by rw[U];simp[s8]
  have x9:x.tm 9=rdV rt false (yi g):=by rw[U];simp[s9]
  have f5:x.tm 12=.int .i64 0:=by rw[U];simp
  have xd:x.df=[]:=by rw[U];simp[sd]
  have xr:x.ro=0:=by rw[U];simp[sr]
  have xn:64<=x.nx:=by rw[U];first|omega|(simp;done)|(simp;omega)
  have xB:x.ob 1=some ⟨0,.cells (yb g)⟩:=by rw[U];simpa using sB
  have xI:∃v,x.tm 7=v/\EdL x.ob 64 x.nx v (yF g (ym g).length++rdL g lvl M 0):=by
   obtain⟨u,hv,h2,h3,h4⟩:=sI;refine⟨v,by rw[U];simp[s7],u,by rw[hv];simp[rdL],?_,h3,?_⟩;rw[U];simpa[rdL] using h2
   ·rw[U];first|omega|(simp;done)|(simp;omega)
  clear U s0 s2 s4 s7 s8 s9 sB sd sr sn sI c9;have hS:=jai g 8 (ym g).length zO;have l4:(yF g (ym g).length).length<=72:=bI hS (by have:(ym g).length*(8+1)<=8*9:=bi 9 zO;omega);clear hS;generalize yF g (ym g).length=S at *;obtain⟨J3,e4⟩:∃J3:Nat->St->Prop,J3=λi s=>s.tm 12=.int .i64 i/\(∃v,s.tm 7=v/\EdL s.ob 64 s.nx v (S++rdL g lvl M i))/\s.ob 1=some ⟨0,.cells (yb g)⟩/\64<=s.nx:=⟨_,rfl⟩;refine j5 [(7,7),(12,17),(76,156)] (yi g).length J3 rfl rfl (by rw[e4];exact⟨by simpa using f5,xI,xB,xn⟩) ?_;clear f5 xI xB xn;intro i s hi b8 f;rw[e4]at b8;obtain⟨c0,⟨v,s7,sI⟩,sB,sn⟩:=b8;have s0:=(f.t 0 zS).trans x0;have s2:=(f.t 2 zS).trans x2;have s4:=(f.t 4 zS).trans x4;have s8:=(f.t 8 zS).trans x8;have s9:=(f.t 9 zS).trans x9;have sd:=f.d.trans xd;have sr:=f.r.trans xr;clear f;by_cases o:i<(yi g).length
  ·have d9:=jR o zO;have e1:i<M.length:=zO;have f8:=Yz (YV X);have b0:=JD jS rt false (yi g) .i64 o;have h7:=λob=>Ys (yi g) ob o;have d3:=j4 j6 mn M .i64 e1;have d5:=jn M e1;have i7:=joy g lvl M h8 i;obtain⟨a,b,ha,hb,I,g1,_⟩:=jf4 f8 o;have e3:(yi g).getD i (0,0)=((a:Int),(b:Int)):=by simp[ay,aa o,I]
   have f6:M.getD i 0=M[i]:=by simp[ay,aa e1]
   have b9:rdK g lvl M i 0=[(Jg g M[i],(a:Int))]:=by unfold rdK askE j05;rw[dP,f6,e3];rfl
   have g3:=ev158 g M[i];simp only[I]at h7;obtain⟨u,hv,h2,h3,h4⟩:=sI;have nu:∀m,s.nx<=m->¬u=m:=λm X=>by omega
   simp(disch:=try exact zD)[c0,s9,rdV,o,b0,h7,ya,j2,yj];refine⟨by first|omega|(simp[sr];omega),?_⟩;simp(disch:=try exact zD)[c0,s7,s4,s2,ya,j2,yj,sB,n1,yb,d3,d5];refine X5 g3 zH rfl zH ?_;simp(disch:=try exact zD)[ya,j2,yj];refine J0 (cs:=[.int .i64 (Jg g M[i]),.int .i64 (a:Int)]) (by simp[j2]) rfl rfl ?_;simp;refine WA (lo:=64) (hi:=s.nx) (v:=v) (L:=S++rdL g lvl M i) (p:=(Jg g M[i],(a:Int))) (by simp[s7]) (.inr ⟨u,hv,by simp(disch:=try exact zD)[yj,nu,h2],h3,h4⟩) (by simp[sr]) (by simp[yp,ya,yT]) (by rw[ap];omega) λkl hq=>?_;have K:∀D,Off 64 D->kl.any (Nat.beq D)=false:=λD hk=>by rcases hq with rfl|⟨u,h1,h2,rfl⟩;rfl;simp only[bp,bC,bm];exact JF (hk u h1)
   have k5:∀m,s.nx<=m->kl.any (Nat.beq (2*m+1))=false:=λm X=>by rcases hq with rfl|⟨u,h1,h2,rfl⟩;rfl;simp only[bp,bC,bm];exact JF zO
   have T:=K 1 n1;rw[<- b9];obtain⟨vs,es,f0⟩:=ev67 hs (nl:=mn) (on:=false) (O:=ym g) i9 zO lvl o ha (by rw[I]);rw[j19 i8,show jdn g lvl M [] (yi g)[i]=XA g lvl M i by rw[XA,e3,I]]at f0;generalize k0:List.flatMap yT (S++rdL g lvl M i++rdK g lvl M i 0)=cs9;simp(disch:=try exact zD)[s0,s4,s2,s8,c0,ya,j2,yj,j9,T,n1,sB,yb,yl];refine jH es zH rfl zH ?_;refine Jw f0 λh6 k1=>?_;simp;refine jQ λp y=>?_;obtain⟨z,z1,z2,i2,pZ,p7,pE,zw⟩:∃z,64<=z/\z<p.nx/\p.tm 13=.ptr (2*z+1) z 0/\p.ob (2*z+1)=some ⟨z,.cells [.int .i64 (a:Int),.int .i64 (b:Int)]⟩/\p.tm 7=.osl (2*(s.nx+1344)+1) (s.nx+1344) 0 ((S++rdL g lvl M i).length+1) 2/\p.ob (2*(s.nx+1344)+1)=some ⟨s.nx+1344,.cells cs9⟩/\s.nx+1344<p.nx/\z<s.nx+1344:=by
    refine⟨s.nx+512,zO,?_,by rw[y];simp[aA],?_,by rw[y];simp[aA],?_,?_,zO⟩
    ·rw[y];first|omega|(simp;done)|(simp;omega)
    rw[y];have:=k5 (s.nx+512) zO;simp(disch:=try exact zD)[j9,yj,aA,this];rw[y];simp(disch:=try exact zD)[j9,yj,aA]
    ·rw[y];first|omega|(simp;done)|(simp;omega)
   obtain⟨zw,zz⟩:=zw;have p2:p.tm 2=yl mn yf M:=by rw[y];simp[s2]
   have p4:p.tm 4=.ptr 1 0 0:=by rw[y];simp[s4]
   have k3:p.tm 12=.int .i64 i:=by rw[y];simp[c0]
   have i5:p.tm 14=.sl h6 false (XA g lvl M i).length ((XA g lvl M i).flatMap yf):=by rw[y];simp
   have e6:p.tm 15=.int .i64 0:=by rw[y];simp
   have pd:p.df=[]:=by rw[y];simp[sd]
   have pr:p.ro=0:=by rw[y];simp[sr]
   have pn:64<=p.nx:=zO;have pB:p.ob 1=some ⟨0,.cells (yb g)⟩:=by rw[y];simp(disch:=try exact zD)[j9,n1,T,sB]
   clear y;have l2:=jl1 g lvl M i;have f4:(g.ts.flatMap jf)[a*3+2]? = some (yl (g.ts[a]).nl yS (g.ts[a]).ops):=by rw[jO j7 g.ts ha (by decide:2<3)];rfl
   have i0:((g.ts[a]).ops.flatMap yS)[b*4+1]? = some (.int .i64 ((g.ts[a]).ops[b]).key):=by rw[jO jD (g.ts[a]).ops hb (by decide:1<4)];rfl
   have k4:Wx g ((yi g).getD i (0,0))=((g.ts[a]).ops[b]).key:=by rw[e3,<- I];exact g1
   have d7:=jro g lvl M i;have l0:(S++rdL g lvl M i).length<=20000:=by rw[ap];omega
   have g5:(S++rdL g lvl M i++rdK g lvl M i 0).length=(S++rdL g lvl M i).length+1:=by rw[b9,ap (bs:=[_])];rfl
   rw[<- List.append_right_inj S,<- aY]at d7;generalize l6:S++rdL g lvl M i=B at *;obtain⟨J4,c2⟩:∃J4:Nat->St->Prop,J4=λj q=>q.tm 15=.int .i64 j/\(∃v,q.tm 7=v/\EdL q.ob (z+1) q.nx v (B++rdK g lvl M i j))/\q.ob (2*z+1)=some ⟨z,.cells [.int .i64 (a:Int),.int .i64 (b:Int)]⟩/\q.ob 1=some ⟨0,.cells (yb g)⟩/\z<q.nx:=⟨_,rfl⟩;refine j5 [(7,7),(15,17),(104,156)] (XA g lvl M i).length J4 rfl rfl (by rw[c2];exact⟨by simpa using e6,⟨_,p7,s.nx+1344,by rw[g5],by rw[pE,k0],zO,zO⟩,pZ,pB,z2⟩) ?_;clear e6 p7 pE;intro j q hj c6 f;rw[c2]at c6;obtain⟨a0,⟨w,q7,qI⟩,qZ,qB,qz⟩:=c6;have q2:=(f.t 2 zS).trans p2;have q4:=(f.t 4 zS).trans p4;have c8:=(f.t 12 zS).trans k3;have f9:=(f.t 13 zS).trans i2;have b6:=(f.t 14 zS).trans i5;have qd:=f.d.trans pd;have qr:=f.r.trans pr;clear f;obtain⟨u2,hw,w2,w3,w4⟩:=qI;by_cases H:j<(XA g lvl M i).length;have G:=jR H zO;have Z:=JD j6 h6 false (XA g lvl M i) .i64 H;have Q:=jn (XA g lvl M i) H;obtain⟨t,et,k9⟩:=jou (au H);have n:=j2e (M:=M) H;rw[f6,et,k4]at n;rw[et]at Q;have el:=ev68 hs (t:Int) ((g.ts[a]).ops[b]).key;have ez:(Yu (Js g (t:Int)).2 ((g.ts[a]).ops[b]).key).2=Jp g t ((g.ts[a]).ops[b]).key:=rfl;rw[ez]at el;have k6:=jxe g lvl M i j;simp(disch:=try exact zD)[a0,b6,f9,q4,H,Z,Q,qB,qZ,ya,yb,ha,hb,j4 j7,j4 jD,f4,i0];refine X5 el zI rfl zI ?_;rw[Jc (by simp[V.plain,J7])];generalize (Yu (Js g (t:Int)).2 ((g.ts[a]).ops[b]).key).1=rv at *;generalize Jp g t ((g.ts[a]).ops[b]).key=rb at *;simp(disch:=try exact zD)[J7,j2,ya];refine⟨by first|omega|(simp[qr];omega),?_,?_⟩;simp(disch:=try exact zD)[JR,YY,Wn,QS,yz,yB,yR,uOf,Delta.wo,Delta.wt,q4,f9];exact⟨JG zO,JG zO⟩;have n2:∀m,q.nx<=m->¬2*z+1=2*m+1:=λm X=>by omega
   have b5:∀m,q.nx<=m->¬u2=m:=λm X=>by omega
   have e2:∀m,q.nx<=m->¬z=m:=λm X=>by omega
   have d2:∀m,q.nx<=m->¬1=2*m+1:=λm X=>by omega
   cases c5:((t:Int) != M[i]);rw[c5,du,za zQ,aL]at n;simp(disch:=try exact zD)[a0,b6,q2,c8,Z,Q,d3,d5,c5,G,H];rw[c2];refine⟨zS,⟨w,by simp[q7],u2,by rw[n,hw],?_,w3,zL⟩,?_,?_,zL⟩;rw[n];simp(disch:=try exact zD)[j9,yj,b5,w2];simp(disch:=try exact zD)[j9,yj,e2,qZ];simp(disch:=try exact zD)[j9,d2,qB];rw[c5,ek]at n;cases rb;rw[za zQ,aL]at n;simp(disch:=try exact zD)[a0,b6,q2,c8,Z,Q,d3,d5,c5,G,H];rw[c2];refine⟨zS,⟨w,by simp[q7],u2,by rw[n,hw],?_,w3,zL⟩,?_,?_,zL⟩;rw[n];simp(disch:=try exact zD)[j9,yj,b5,w2];simp(disch:=try exact zD)[j9,yj,e2,qZ];simp(disch:=try exact zD)[j9,d2,qB];rw[zb rfl]at n;simp(disch:=try exact zD)[a0,b6,q2,c8,q7,q4,Z,Q,d3,d5,c5,ya,qB,d2,yb];refine X5 g3 zH rfl zH ?_;simp(disch:=try exact zD)[ya,j2,yj];refine J0 (cs:=[.int .i64 (t:Int),.int .i64 (Jg g M[i])]) (by simp[j2]) rfl rfl ?_;simp;refine WA (lo:=z+1) (hi:=q.nx) (v:=w) (L:=B++rdK g lvl M i j) (p:=((t:Int),Jg g M[i])) (by simp[q7]) (.inr ⟨u2,hw,by simp(disch:=try exact zD)[yj,b5,w2],w3,w4⟩) (by simp[qr]) (by simp[yp,ya,yT]) (by rw[ap];omega) λkl hq=>?_;have K:∀D,Off (z+1) D->kl.any (Nat.beq D)=false:=λD hk=>by rcases hq with rfl|⟨u,h1,h2,rfl⟩;rfl;simp only[bp,bC,bm];exact JF (hk u h1)
   have T:=K 1 λm X=>by omega
   have i3:=K (2*z+1) λm X=>by omega
   rw[aY,<- n];have b7:(B++rdK g lvl M i (j+1)).length=(B++rdK g lvl M i j).length+1:=by rw[n,<- aY,ap (bs:=[_])];rfl
   generalize hB:B++rdK g lvl M i (j+1)=B' at *;generalize B++rdK g lvl M i j=A at *;simp(disch:=try exact zD)[a0,G,H];rw[c2];refine⟨zS,⟨.osl (2*(q.nx+3392)+1) (q.nx+3392) 0 B'.length 2,by simp[b7,aA],q.nx+3392,by rw[hB],?_,zO,zL⟩,?_,?_,zL⟩;rw[hB];simp(disch:=try exact zD)[j9,aA];simp(disch:=try exact zD)[j9,yj,e2,i3,qZ];simp(disch:=try exact zD)[j9,d2,T,qB];have e:j=(XA g lvl M i).length:=zO;subst e;simp(disch:=try exact zD)[a0,b6,c8,d9,o];rw[e4];rw[<- d7]at hw w2;exact⟨zS,⟨w,by simpa using q7,u2,hw,by simpa using w2,zO,zL⟩,by simpa using qB,zL⟩
  ·have e:i=(yi g).length:=zO;subst e;obtain⟨u,hv,h2,h3,h4⟩:=sI;have i7:=joy g lvl M h8 (yi g).length;have k2:(S++rdL g lvl M (yi g).length).length<=20000:=by rw[ap];omega
   generalize S++rdL g lvl M (yi g).length=l at *;have i4:=jR (cX g.ts.length) zO;simp(disch:=try exact zD)[c0,s9,s4,rdV,ya,sB,yb,i4];refine jJ (vs:=[.int .i64 ((g.ts.length+1:Nat):Int),v]) (by simp[s7]) rfl (sv159 (N:=g.ts.length+1) (l:=l) (lo:=64) (hi:=s.nx) (.inr ⟨u,hv,by simpa using h2,h3,h4⟩) zL zO (jov X d6) (by first|omega|(simp[sr];done)|(simp[sr];omega))) ?_;rintro v1 l3 k8 l5 ⟨w,w1,w2,w3,w4,_⟩;simp only at w1 w2 w3 w4;subst w3;simp;refine jy4 (vs:=[.ptr (2*w+1) w 0]) zS rfl rfl (evo160 (L:=ofE l) (lo:=w+1) (kG:=2*w+1) (uG:=w) (N:=g.ts.length+1) (by simpa using w4) (Off.new zL) (bI (ofE_len l) zO) zO _ _) λr hr=>?_;refine Jw hr λt1 add=>?_;simp;have he:JU (ofE l) (g.ts.length+1) (g.ts.length+1)=jp (g.ts.length+1) λa b=>l.contains ((a:Int),(b:Int)):=by rw[jp9];congr;funext a b;rw[bz];simp[j8l]
   rw[he]at hr;refine slE (k:=(JU (ofE l) (g.ts.length+1) (g.ts.length+1)).length) (cs:=(JU (ofE l) (g.ts.length+1) (g.ts.length+1)).flatMap yT) (nl:=false) (t:=t1) (λr hr=>⟨l,d6,?_⟩) (by simp[sd]) zS;rw[hP];show SlR _ _ _ _;rw[<- he];exact hr
end
section
variable {g:Hist'}{M:List Int}{kX uX lo:Nat}{ob:ZO}{ub:Nat}{L:List P2}
def sesT (g:Hist') (i:Nat) (s:Int):List Int:=((ym g).take i).filter λa=>yE g a.toNat==s
def jlw {i:Nat}(h:i<(ym g).length) (s:Int):sesT g (i+1) s=sesT g i s++if yE g (ym g)[i].toNat==s then [(ym g)[i]] else []:=by unfold sesT;rw[av h,bP];congr 1;cases h:yE g (ym g)[i].toNat==s<;>simp only[ct,dy,h,zd,ag,zc]
def j17 (g:Hist') (i:Nat) (s:Int):(sesT g i s).length<=i:=by unfold sesT;have:=ch (λa:Int=>yE g a.toNat==s) ((ym g).take i);rw[ai]at this;omega
def jq2 (l:List Int) (p:Int->Bool):∀i,i<=l.length->((List.range i).filter λk=>p (l.getD k 0)).map (λk=>l.getD k 0)=(l.take i).filter p
 |0,_=>rfl
 |i+1,h=>by
  have e:l.getD i 0=l[i]:=by simp[ay,aa (show i<l.length by omega)]
  rw[cV,bP,bE,jq2 l p i zO,av zO,bP];congr 1;cases a:p l[i]<;>simp only[ct,dy,e,a,zd,ag,zc,aZ,cm]
def sesE_T {i:Nat}(h:i<(ym g).length):j18 g i=((g.ts.length:Int),(ym g)[i])::(sesT g i (yE g (ym g)[i].toNat)).map λa=>(a,(ym g)[i]):=by
 have e:(ym g).getD i 0=(ym g)[i]:=by simp[ay,aa h]
 unfold j18 sesT;rw[e,<- jq2 (ym g) (λa=>yE g a.toNat==yE g (ym g)[i].toNat) i zO,cM];rfl
def osV (p:Nat×Nat):V:=.osl (2*p.1+1) p.1 0 p.2 1
structure SesM (g:Hist') (ob:ZO) (lo hi kM uM i:Nat) (m:List (Int×(Nat×Nat))):Prop where
 o:ob kM=some ⟨uM,.mp i (MP osV m)⟩
 z:∀s,(jz m s).map (·.2)=none->sesT g i s=[]
 s:∀s u n,(jz m s).map (·.2)=some (u,n)->n=(sesT g i s).length/\ob (2*u+1)=some ⟨u,.cells ((sesT g i s).flatMap yf)⟩/\lo<=u/\u<hi
 j:∀s s' u n n',(jz m s).map (·.2)=some (u,n)->(jz m s').map (·.2)=some (u,n')->s=s'
def SesM.frame {ob':ZO}{hi hi' a b i:Nat}{m:List (Int×(Nat×Nat))}(h:SesM g ob lo hi a b i m) (e:ob' a=ob a) (k:∀s u n,(jz m s).map (·.2)=some (u,n)->ob' (2*u+1)=ob (2*u+1)) (p:hi<=hi'):SesM g ob' lo hi' a b i m :=
 ⟨e.trans h.o,h.z,λs u n c=>by
  obtain⟨l,d,f,q⟩:=h.s s u n c;exact⟨l,(k s u n c).trans d,f,zO⟩,h.j⟩
def SesM.next {ob':ZO}{hi hi' t p i w:Nat}{m:List (Int×(Nat×Nat))}(h:SesM g ob lo hi t p i m) (f:i<(ym g).length) {a:Int}(v:a=yE g (ym g)[i].toNat) (D:ob' t=some ⟨p,.mp (i+1) (MP osV (Wm m a (w,(sesT g i a).length+1)))⟩)
 (q:∀s u n,s≠a->(jz m s).map (·.2)=some (u,n)->ob' (2*u+1)=ob (2*u+1)) (x:ob' (2*w+1)=some ⟨w,.cells ((sesT g i a++[(ym g)[i]]).flatMap yf)⟩) (N:hi<=w) (B:lo<=w) (F:w<hi') (K:hi<=hi'):SesM g ob' lo hi' t p (i+1) (Wm m a (w,(sesT g i a).length+1)):=by
 have d:∀s,s≠a->sesT g (i+1) s=sesT g i s:=λs q=>by rw[jlw f,show(yE g (ym g)[i].toNat==s)=false by rw[<- v];simpa using dz q,za zQ,aL]
 have r:sesT g (i+1) a=sesT g i a++[(ym g)[i]]:=by rw[jlw f,<- v,beq_self_eq_true,zb rfl]
 refine⟨D,λs l=>?_,λs u n c=>?_,λs o u n y c b=>?_⟩;rw[W7]at l;by_cases e:s=a;rw[zb e]at l;cases l;rw[za e]at l;rw[d s e];exact h.z s l;rw[W7]at c;by_cases e:s=a;rw[zb e]at c;cases c;subst e;rw[r];exact⟨zS,x,B,F⟩;rw[za e]at c;rw[d s e];obtain⟨G,I,H,J⟩:=h.s s u n c;exact⟨G,(q s u n e c).trans I,H,zO⟩;rw[W7]at c b;by_cases e:s=a;by_cases k:o=a;rw[e,k];rw[zb e]at c;rw[za k]at b;cases c;have:=(h.s o _ _ b).2.2.2;omega;by_cases k:o=a;rw[za e]at c;rw[zb k]at b;cases b;have:=(h.s s _ _ c).2.2.2;omega;rw[za e]at c;rw[za k]at b;exact h.j s o u n y c b
end
end Go.Pv.T
