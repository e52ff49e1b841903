/- Part. -/
import Derived.Test.YtmanndcfeicokaaGreatDoorQP
set_option maxRecDepth 100000
set_option maxHeartbeats 8000000
set_option linter.all false
namespace Go.Pv.T
open Go Go.Pv
section
variable {lo hi uG:Nat}{ut uf:Nat}{ue:Option Nat}{tu fu:List Nat}{WT WF:Nat->Nat}{T:List P2}{ob:ZO}{ub:Nat}
def jxq (b:Gr lo hi uG (some ut) (some uf) ue tu fu WT WF T ob) (e:hi<=ub) (tk:Nat->Bool) (base:Nat):EvO E 233 [.ptr (2*uG+1) uG 0] ob tk base ub (.bool true):=by
 have a:=b.o;have d:∀m,ub<=m->¬uG=m:=λm c=>by have:=b.rG;omega
 refine jo rfl ?_;conv in(occs:=*)S233=>all_goals cbv
 simp(disch:=try exact zD)[S233,j0,a];exact j4 zS zS rfl
def jlr (c:Gr lo hi uG (some ut) (some uf) ue tu fu WT WF T ob) (d:hi<=ub) (a:Int) (tk:Nat->Bool) (base:Nat):EvO E 234 [.ptr (2*uG+1) uG 0,.int .i64 a] ob tk base ub (.bool (decide (0<=a)&&decide (a<tu.length))):=by
 have b:=c.o;have f:∀m,ub<=m->¬uG=m:=λm e=>by have:=c.rG;omega
 refine jo rfl ?_;conv in(occs:=*)S234=>all_goals cbv
 simp(disch:=try exact zD)[S234,j0,b];refine jP (vs:=[.ptr (2*uG+1) uG 0]) zS rfl rfl (jxq (c.keep (λx _ _=>by simp) d) zO _ _) ?_;by_cases h:0<=a;simp(disch:=try exact zD)[j0,b,slU,h];exact j4 zS zS rfl;simp(disch:=try exact zD)[j0,b,slU,h];exact j4 zS zS rfl
def jiq {l:List Nat}{i:Nat}(h:i<l.length):(l.flatMap ptC)[i]? = some (.ptr (2*l[i]+1) l[i] 0):=by have:=jk jir l h (by decide:0<1);rw[bE,br]at this;rw[this];rfl
def evo235 (c:Gr lo hi uG (some ut) (some uf) ue tu fu WT WF T ob) (h:hi<=ub) {a b:Nat}(e:a<tu.length) (j:b<64) (g:WT a<2^64) (tk:Nat->Bool) (base:Nat):EvO E 235 [.ptr (2*uG+1) uG 0,.int .i64 (a:Int),.int .i64 (b:Int)] ob tk base ub (.bool ((WT a).testBit b)):=by
 have d:=c.o;have f:=c.t ut rfl;have v:∀m,ub<=m->¬uG=m:=λm r=>by have:=c.rG;omega
 have i:∀m,ub<=m->¬ut=m:=λm r=>by have:=c.rL ut (.inl rfl);omega
 have p:=c.st a e;have q:=c.rS tu[a] (.inl (av e));have s:=jnu (l:=2*ut+1) (u:=ut) (kk:=.i64) e;have z:=jiq e;have y:((a:Int)<(tu.length:Int)):=zO;refine jo rfl ?_;conv in(occs:=*)S235=>all_goals cbv
 simp(disch:=try exact zD)[S235,j0,d];refine jP (vs:=[.ptr (2*uG+1) uG 0,.int .i64 a]) zS rfl rfl (jlr (c.keep (λx _ _=>by simp) h) zO _ _ _) ?_;simp(disch:=try exact zD)[j0,d,slU,e,yi,v,i,f,s,z];refine jP (vs:=[.ptr (2*tu[a]+1) tu[a] 0,.int .i64 b]) zS rfl rfl (jfv (w:=WT a) (by simpa using p) (Off.new zO) j g _ _) ?_;simp;exact j4 zS zS rfl
end
section
variable {ub n k:Nat}{uG ut uf:Nat}{ue:Option Nat}{tu fu:List Nat}{WT WF:Nat->Nat}{T:List P2}{lo:Nat}{ob:ZO}
def GPut (lo:Nat) (ob:ZO) (ub uG ut uf:Nat) (tu fu:List Nat) (WT WF:Nat->Nat) (k:Nat) (r:V×(ZO)×(Nat->Bool)×Nat):Prop :=
 ∃bb ue T,r.1=.tup [.bool bb,.int .i64 0]/\Gr lo r.2.2.2 uG (some ut) (some uf) ue tu fu WT WF T r.2.1/\T.length<=k/\ub<=r.2.2.2/\∀key,Off lo key->r.2.1 key=ob key
def j27 {w b:Nat}(h:w.testBit b=true):w|||1<<<b=w:=by refine fM λi=>?_;rw[ej,cY,eF];by_cases e:b=i;subst e;simp[h];simp[e]
def Dual (n:Nat) (WT WF:Nat->Nat):Prop:=∀a b,a<n->b<n->(WT a).testBit b=(WF b).testBit a
def jnl {F:Env}{Yf:YF}{q:Nat}{ue:Option Nat}{T:List P2}{p:P2}{s x:A}{st:St}{K:St->Nat->Prop}{d:Option Nat}(a:yc F st.tm s=slU ue T.length 2) (c:∀u,ue=some u->st.ob (2*u+1)=some ⟨u,.cells (T.flatMap yQ)⟩/\st.ro<=u) (i:ue=none->T=[])
 (b:jE st.ob 2 (yc F st.tm x)=some (yQ p)) (j:T.length<=1000000) (h:Q6 K st d q { v:=.osl (2*q+1) q 0 (T.length+1) 2,obs:=[(2*q+1,⟨q,.cells ((T++[p]).flatMap yQ)⟩)],kill:=Jy ue }):j5 F Yf ⟨d,.append true 2 16 s x,none,true⟩ st q K:=by
 cases ue with
 |none=>have:=i rfl;subst this;refine Js a b (by simp[yQ]) zQ rfl (by simp[yQ]) (by simp[yQ]) ?_;simpa[yQ,jF,Jy] using h
 |some u=>obtain⟨f,g⟩:=c u rfl;have e:=j3 Wq T;refine XT (cs:=T.flatMap yQ) a b f (by simp[yQ]) g zO zQ rfl (by simp[yQ];omega) (by simp[yQ];omega) ?_;rw[aM zO];simpa[yQ,jF,Jy] using h
def jlc {ue:Option Nat}{x:Nat}(h:ue≠some x):(Jy ue).any (Nat.beq (2*x+1))=false:=by
 cases ue with
 |none=>rfl
 |some u=>simp only[Jy,bG,bP,bx];exact Jq λe=>h (by rw[show x=u by omega])
def jwj {ue:Option Nat}{key l:Nat}(h:∀u,ue=some u->l<=u) (a:Off l key):(Jy ue).any (Nat.beq key)=false:=by
 cases ue with
 |none=>rfl
 |some u=>simp only[Jy,bG,bP,bx];exact Jq (a u (h u rfl))
def sv176 {Yf:YF}{tk:Nat->Bool}{ro base:Nat}(g:Gr lo ub uG (some ut) (some uf) ue tu fu WT WF T ob) (c4:ro<=lo) (K:tu.length=n) (hf:fu.length=n) (h9:n<=64) {a b:Nat}(ha:a<n) (X:b<n) (c0:∀i,i<n->WT i<2^n) (Z:∀i,i<n->WF i<2^n) (hd:Dual n WT WF) (hT:T.length<=100000) :
 ∃r,EvS E Yf.y 176 [.ptr (2*uG+1) uG 0,.int .i64 (a:Int),.int .i64 (b:Int)] ob tk ro base ub r/\GPut lo ob ub uG ut uf tu fu (λi=>if i=a then WT a|||1<<<b else WT i) (λi=>if i=b then WF b|||1<<<a else WF i) (T.length+1) r:=by
 have hp:(2:Nat)^n<=2^64:=cj zQ h9;have w1:WT a<2^64:=aS (c0 a ha) hp;have w2:WF b<2^64:=aS (Z b X) hp;have M:=g.o;have b5:=g.rG;have nG:∀m,ub<=m->¬uG=m:=λm I=>by omega
 refine J7 rfl zQ ?_;show wpC E Yf S176.body _ (Jd S176.res _);conv in(occs:=*)S176=>all_goals cbv
 simp(disch:=try exact zD)[S176,j0,M];refine jP (vs:=[.ptr (2*uG+1) uG 0]) zS rfl rfl (jxq (g.keep (λx _ _=>by simp) zK) zO _ _) ?_;simp;refine jP (vs:=[.ptr (2*uG+1) uG 0,.int .i64 a]) zS rfl rfl (jlr (g.keep (λx _ _=>by simp) zK) zO _ _ _) ?_;simp(disch:=try exact zD)[K,ha];refine jP (vs:=[.ptr (2*uG+1) uG 0,.int .i64 b]) zS rfl rfl (jlr (g.keep (λx _ _=>by simp) zK) zO _ _ _) ?_;simp(disch:=try exact zD)[K,X];refine jP (vs:=[.ptr (2*uG+1) uG 0,.int .i64 a,.int .i64 b]) zS rfl rfl (evo235 (g.keep (λx _ _=>by simp) zK) zO zO zO w1 _ _) ?_;cases hh:(WT a).testBit b;have q:a<tu.length:=zO;have j:b<fu.length:=zO;have c1:=g.t ut rfl;have nt:∀m,ub<=m->¬ut=m:=λm I=>by have:=g.rL ut (.inl rfl);omega
 have U:=jnu (l:=2*ut+1) (u:=ut) (kk:=.i64) q;have e2:=jiq q;have e3:=jnu (l:=2*uf+1) (u:=uf) (kk:=.i64) j;have e4:=jiq j;rw[K]at U;rw[hf]at e3;have b9:=g.rS tu[a] (.inl (av q));have b8:=g.rS fu[b] (.inr (av j));have hs:=g.st a q;simp(disch:=try exact zD)[j0,M,slU,yi,nG,nt,c1,K,U,e2];refine jK (vs:=[.ptr (2*tu[a]+1) tu[a] 0,.int .i64 b]) zS rfl (jra (w:=WT a) (by simpa using hs) (Off.new zL) zP zO w1) ?_;rintro v1 O c3 s ⟨_,B,H⟩;simp only at B H;have q1:ub<=s:=by first|omega|(simp at H;omega)
 have v:Gr lo s uG (some ut) (some uf) ue tu fu (λi=>if i=a then WT a|||1<<<b else WT i) WF T O:=by refine g.putT q ?_ (λx h1 h2 h3=>?_) q1;have:=B (2*tu[a]+1) (Off.new zL);rwa [zb rfl]at this;have:=B (2*x+1) (Off.new zL);rw[za zO]at this;simpa using this
 have b7:∀c,Off lo c->O c=ob c:=λc h=>by have:=B c (h.up zL);rw[za (h tu[a] b9.1)]at this;simpa using this
 clear B H;have D:=v.o;have G:=v.f uf rfl;have c2:∀m,s<=m->¬uG=m:=λm I=>by omega
 have b6:∀m,s<=m->¬uf=m:=λm I=>by have:=g.rL uf (.inr (.inl rfl));omega
 have P:=v.sf b j;simp(disch:=try exact zD)[j0,D,slU,yi,c2,b6,G,hf,e3,e4];refine jK (vs:=[.ptr (2*fu[b]+1) fu[b] 0,.int .i64 a]) zS rfl (jra (w:=WF b) (by simpa using P) (Off.new zL) zP zO w2) ?_;rintro v2 L c5 d ⟨_,B,H⟩;simp only at B H;have q2:s<=d:=by first|omega|(simp at H;omega)
 have J:Gr lo d uG (some ut) (some uf) ue tu fu (λi=>if i=a then WT a|||1<<<b else WT i) (λi=>if i=b then WF b|||1<<<a else WF i) T L:=by refine v.putF j ?_ (λx h1 h2 h3=>?_) q2;have:=B (2*fu[b]+1) (Off.new zL);rwa [zb rfl]at this;have:=B (2*x+1) (Off.new zL);rw[za zO]at this;simpa using this
 have a0:∀c,Off lo c->L c=ob c:=λc h=>by have:=B c (h.up zL);rw[za (h fu[b] b8.1)]at this;rw[<- b7 c h];simpa using this
 clear B H D G v P;have F:=J.o;have Q:∀m,d<=m->¬uG=m:=λm I=>by omega
 simp(disch:=try exact zD)[j0,F,yi,Q,j2];refine JB (cs:=[.int .i64 (a:Int),.int .i64 (b:Int)]) (by simp[j2]) rfl rfl ?_;simp;refine jnl (ue:=ue) (T:=T) (p:=((a:Int),(b:Int))) zS (λu S=>?_) g.z.2.2 (by simp[jE,j0,yQ]) zO ?_;have:=g.rL u (.inr (.inr S));have nu:∀m,d<=m->¬u=m:=λm I=>by omega
 refine⟨?_,by simp;omega⟩;simp(disch:=try exact zD)[jG,yi,nu,J.e u S];have k1:=jlc (ue:=ue) g.nG.2.2;simp(disch:=try exact zD)[jG,j0,F,yi,Q,j2,k1];have N:∀m,d<=m->¬m=uG:=λm I=>by omega
 refine⟨zO,jca zS ⟨true,some (d+576),T++[((a:Int),(b:Int))],zS,J.edge (x:=d+576) (p:=((a:Int),(b:Int))) ?_ ?_ (λy h1 h2 h3 h4=>?_) zO zL,zS,zL,λc h=>?_⟩⟩;simp(disch:=try exact zD)[slU,aG,K,hf];simp(disch:=try exact zD)[jG,yi,N,aG,slU];have ny:∀m,d<=m->¬y=m:=λm I=>by omega
 have k2:=jlc h4;simp(disch:=try exact zD)[jG,yi,ny,k2,h3];have k2:=jwj (ue:=ue) (l:=lo) (λu S=>(g.rL u (.inr (.inr S))).1) h;have q3:=(h.up (show lo<=d by omega)).ne;have q4:¬c=2*uG+1:=h uG b5.1;simp(disch:=try exact zD)[jG,k2,q3,q4];exact a0 c h;simp;have b0:(WF b).testBit a=true:=by rw[<- hd a b ha X];exact hh
 have U:(λi=>if i=a then WT a|||1<<<b else WT i)=WT:=funext λi=>by split;rename_i e;rw[e,j27 hh];rfl
 have e2:(λi=>if i=b then WF b|||1<<<a else WF i)=WF:=funext λi=>by split;rename_i e;rw[e,j27 b0];rfl
 rw[U,e2];exact jca zS ⟨false,ue,T,zS,g.keep (λx _ _=>by simp) zL,zO,zL,λc h=>by simp⟩
end
def rowW (L:List P2) (a:Nat):Nat:=L.foldl (λw z=>if z.1=(a:Int) then w|||1<<<z.2.toNat else w) 0
def colW (L:List P2) (b:Nat):Nat:=L.foldl (λw z=>if z.2=(b:Int) then w|||1<<<z.1.toNat else w) 0
def jkd (L:List P2) (z:P2) (a:Nat):rowW (L++[z]) a=if z.1=(a:Int) then rowW L a|||1<<<z.2.toNat else rowW L a:=by simp[rowW]
def jlv (L:List P2) (z:P2) (b:Nat):colW (L++[z]) b=if z.2=(b:Int) then colW L b|||1<<<z.1.toNat else colW L b:=by simp[colW]
def InG (n:Nat) (L:List P2):Prop:=∀z∈L,∃a b:Nat,z=((a:Int),(b:Int))/\a<n/\b<n
def jeh {n:Nat}(p:List P2->Nat->Nat) (g:∀a,p [] a=0) (q:P2->Int×Int) (h:∀L z a,p (L++[z]) a=if (q z).1=(a:Int) then p L a|||1<<<(q z).2.toNat else p L a) (L:List P2) (i:∀z∈L,0<=(q z).2/\(q z).2<n) :
 ∀k,k<=L.length->∀a,p (L.take k) a<2^n/\∀b,(p (L.take k) a).testBit b=(L.take k).any λz=>decide ((q z).1=(a:Int)/\(q z).2=(b:Int))
 |0,_,a=>by rw[eN,g];exact⟨Nat.two_pow_pos n,λb=>by simp⟩
 |k+1,hk,a=>by obtain⟨j,f⟩:=jeh p g q h L i k zO a;have o:L[k]∈L:=av zO;obtain⟨m,r⟩:=i _ o;rw[aw zO,h];obtain⟨c,l⟩:=Int.eq_ofNat_of_zero_le m;have d:c<n:=zO;by_cases e:(q L[k]).1=(a:Int);rw[zb e,l];refine⟨dw j (by rw[bh,cY];exact dP zQ d),λb=>?_⟩;rw[ej,f,eD,bh,cY,eF];simp[e,l,Int.ofNat_inj];rw[za e];refine⟨j,λb=>?_⟩;rw[f,eD];simp[e]
def Yb {n:Nat}{L:List P2}(h:InG n L) (a:Nat):rowW L a<2^n/\∀b:Nat,(rowW L a).testBit b=L.contains ((a:Int),(b:Int)):=by have:=jeh (n:=n) rowW (λ_=>rfl) (λz=>(z.1,z.2)) jkd L (λz e=>by obtain⟨c,d,rfl,_,f⟩:=h z e;simp;omega) L.length zK a;rw[bf]at this;refine⟨this.1,λb=>?_⟩;rw[this.2,bu];simp[bU]
def jfz {n:Nat}{L:List P2}(h:InG n L) (b:Nat):colW L b<2^n/\∀a:Nat,(colW L b).testBit a=L.contains ((a:Int),(b:Int)):=by have:=jeh (n:=n) colW (λ_=>rfl) (λz=>(z.2,z.1)) jlv L (λz f=>by obtain⟨c,d,rfl,e,_⟩:=h z f;simp;omega) L.length zK b;rw[bf]at this;refine⟨this.1,λa=>?_⟩;rw[this.2,bu];simp only[bU,ze,co];constructor;rintro⟨z,f,g,e⟩;obtain⟨x,y⟩:=z;simp only at g e;subst g e;exact f;exact λi=>⟨_,i,rfl,rfl⟩
def InG.take {n:Nat}{L:List P2}(h:InG n L) (k:Nat):InG n (L.take k):=λz a=>h z (dz a)
def EdA (lo:Nat) (ob:ZO) (v:V) (L:List P2):Prop :=
 (∃t nl,v=.sl t nl L.length (L.flatMap yQ))\/∃k u,v=.osl k u 0 L.length 2/\ob k=some ⟨u,.cells (L.flatMap yQ)⟩/\Off lo k
def EdA.len {lo:Nat}{ob:ZO}{v:V}{L:List P2}(h:EdA lo ob v L):Ww v=some (.int .i64 (L.length:Nat)):=by rcases h with⟨t,a,rfl⟩|⟨k,u,rfl,_⟩<;>rfl
def EdA.at {lo:Nat}{ob:ZO}{v:V}{L:List P2}(h:EdA lo ob v L) {i:Nat}(hi:i<L.length) :
 ∃p,J0 2 v (.int .i64 (i:Int))=some p/\∀a:ZO,(∀b,Off lo b->a b=ob b)->WG a (some 2) p=some (.agg [.int .i64 L[i].1,.int .i64 L[i].2]):=by
 have d:=Xs Wq L i hi;have g:i*2+2<=(L.flatMap yQ).length:=by rw[j3 Wq];omega
 have c:Xj (some 2) (L.flatMap yQ) (i*2)=some (.agg [.int .i64 L[i].1,.int .i64 L[i].2]):=by simp only[Xj];rw[zb g,d];rfl
 rcases h with⟨t,j,rfl⟩|⟨k,u,rfl,l,f⟩;refine⟨_,XA Wq t j L .i64 hi,λa _=>?_⟩;simpa[WG] using c;refine⟨_,idx0 hi,λa e=>?_⟩;have:j0 a k u=some (L.flatMap yQ):=by simp[j0,e k f,l]
 simp only[WG,this,am];exact c
def EdA.up {lo lo':Nat}{ob ob':ZO}{v:V}{L:List P2}(h:EdA lo ob v L) (c:∀a,Off lo a->ob' a=ob a) (d:lo<=lo'):EdA lo' ob' v L:=by rcases h with h|⟨k,u,f,e,b⟩;exact .inl h;exact .inr ⟨k,u,f,(c k b).trans e,b.up d⟩
section
variable {ub n:Nat}{ob:ZO}{L:List P2}{v:V}
def dual_W (h:InG n L):Dual n (rowW L) (colW L):=λa b _ _=>by rw[(Yb h a).2,(jfz h b).2]
def juq:rowW []=λ_=>0:=rfl
def jx1:colW []=λ_=>0:=rfl
def j4l {Yf:YF}{tk:Nat->Bool}{ro base:Nat}(c3:ro<=ub) (h1:0<n) (h9:n<=9) (hv:EdA ub ob v L) (N:InG n L) (hl:L.length<=10000) :
 ∃r,EvS E Yf.y 122 [.int .i64 (n:Int),v] ob tk ro base ub r/\PgR ob ub n (rowW L) (colW L) L.length r:=by
 have D:=hv.len;refine J7 rfl zQ ?_;show wpC E Yf S122.body _ (Jd S122.res _);conv in(occs:=*)S122=>all_goals cbv
 simp(disch:=try exact zD)[S122];refine jK (vs:=[.int .i64 n]) zS rfl (sv175 zP h1 h9) ?_;rintro v1 b6 b8 G ⟨uG,ut,uf,b7,tu,fu,T0,rfl,u,ht,hf,b0,q1,w⟩;simp only at u q1 w;simp(disch:=try exact zD)[D];refine jf λl g=>?_;have c2:ub<=G:=by first|omega|(simp at q1;omega)
 have g6:l.tm 6=.ptr (2*uG+1) uG 0:=by rw[g];simp
 have g7:l.tm 7=.int .i64 0:=by rw[g];simp
 have b5:l.tm 20=v:=by rw[g];simp
 have a0:l.tm 21=.int .i64 L.length:=by rw[g];simp
 have M:l.tm 22=.int .i64 0:=by rw[g];simp
 have gd:l.df=[]:=by rw[g];simp
 have gr:l.ro=ro:=by rw[g];simp
 have gn:G<=l.nx:=by rw[g];first|omega|(simp;done)|(simp;omega)
 have go:l.ob=b6:=by rw[g];simp
 clear g;obtain⟨J,X⟩:∃J:Nat->St->Prop,J=λi s=>s.tm 22=.int .i64 i/\(∃ue T,Gr ub s.nx uG (some ut) (some uf) ue tu fu (rowW (L.take i)) (colW (L.take i)) T s.ob/\T.length<=i)/\ub<=s.nx/\∀c,Off ub c->s.ob c=ob c:=⟨_,rfl⟩;have o:=u.wide (lo':=ub) zL;refine j7 [(4,5),(9,11),(22,38)] L.length J rfl rfl ?_ ?_;rw[X];refine⟨by simpa using M,⟨b7,T0,?_,b0⟩,zO,λc k=>?_⟩;rw[eN,juq,jx1,go];exact o.keep (λ_ _ _=>rfl) zO;rw[go];have:=w c (k.up zL);simpa using this;clear M go gn u o w;intro i s hi I f;rw[X]at I;obtain⟨B,⟨ue,T,Z,hT⟩,sn,P⟩:=I;have s6:=(f.t 6 zS).trans g6;have s7:=(f.t 7 zS).trans g7;have Q:=(f.t 20 zS).trans b5;have K:=(f.t 21 zS).trans a0;have sd:=f.d.trans gd;have sr:=f.r.trans gr;clear f;by_cases h:i<L.length;have U:=jc h zO;obtain⟨p,O,F⟩:=hv.at h;obtain⟨a,b,hz,ha,hb⟩:=N _ (av h);have H:L.take (i+1)=L.take i++[((a:Int),(b:Int))]:=by rw[aw h,hz]
 rw[hz]at F;simp(disch:=try exact zD)[B,K,Q,h,O];rw[F _ λc k=>by simpa using P c k];simp(disch:=try exact zD)[s6,j0,j2];refine⟨by simp[sr];omega,?_⟩;refine jK (vs:=[.ptr (2*uG+1) uG 0,.int .i64 a,.int .i64 b]) zS rfl (sv176 (n:=n) (lo:=ub) (Z.keep (λx _ _=>?_) ?_) ?_ ht hf zO ha hb (λi _=>(Yb (N.take _) i).1) (λi _=>(jfz (N.take _) i).1) (dual_W (N.take _)) zO) ?_;have:∀m,s.nx<=m->¬x=m:=λm hm=>by omega
 simp(disch:=try exact zD)[yi,this];show _<=_;first|omega|(simp;omega)
 first|omega|(simp[sr];omega)
 rintro v2 c0 c4 c1 ⟨bb,S,T2,rfl,z,b9,q2,q⟩;simp only at z q2 q;simp(disch:=try exact zD)[B,U,h];rw[X];refine⟨zS,⟨S,T2,?_,zO⟩,zL,λc k=>?_⟩;have e1:(λj=>if j=a then rowW (L.take i) a|||1<<<b else rowW (L.take i) j)=rowW (L.take (i+1)):=funext λx=>by rw[H,jkd];by_cases e:x=a;subst e;simp;rw[za e,za (by simp only;omega)]
 have e2:(λj=>if j=b then colW (L.take i) b|||1<<<a else colW (L.take i) j)=colW (L.take (i+1)):=funext λx=>by rw[H,jlv];by_cases e:x=b;subst e;simp;rw[za e,za (by simp only;omega)]
 rw[e1,e2]at z;exact z.keep (λx _ _=>by simp) zL;have:=q c k;have hn:=k.up (show ub<=s.nx by omega);have:=hn.ne;simp;rw[q c k];simp(disch:=try exact zD)[this];exact P c k;have:i=L.length:=zO;subst this;rw[bf]at Z;simp(disch:=try exact zD)[B,K,s6,s7];exact jca (by simp[sd]) ⟨uG,ut,uf,ue,tu,fu,T,zS,Z.keep (λx _ _=>by simp) zL,ht,hf,hT,zL,λc k=>by simpa using P c k⟩
end
section
variable {lo hi uG:Nat}{ut uf:Nat}{ue:Option Nat}{tu fu:List Nat}{WT WF:Nat->Nat}{T:List P2}{ob:ZO}{ub:Nat}
def evo178 (b:Gr lo hi uG (some ut) (some uf) ue tu fu WT WF T ob) (c:hi<=ub) (tk:Nat->Bool) (base:Nat):EvO E 178 [.ptr (2*uG+1) uG 0] ob tk base ub (.int .i64 tu.length):=by
 have a:=b.o;have e:∀m,ub<=m->¬uG=m:=λm d=>by have:=b.rG;omega
 refine jo rfl ?_;conv in(occs:=*)S178=>all_goals cbv
 simp(disch:=try exact zD)[S178];refine jP (vs:=[.ptr (2*uG+1) uG 0]) zS rfl rfl (jxq (b.keep (λx _ _=>by simp) c) zO _ _) ?_;simp(disch:=try exact zD)[j0,a,slU];exact j4 zS zS rfl
def j3p (b:Gr lo hi uG (some ut) (some uf) ue tu fu WT WF T ob) (i:hi<=ub) {a:Nat}(c:a<tu.length) (g:WT a<512) (tk:Nat->Bool) (base:Nat):∃v,EvO E 181 [.ptr (2*uG+1) uG 0,.int .i64 (a:Int)] ob tk base ub v/\jyp (yp (ym (WT a))) v:=by
 have d:=b.o;have f:=b.t ut rfl;have D:∀m,ub<=m->¬uG=m:=λm s=>by have:=b.rG;omega
 have B:∀m,ub<=m->¬ut=m:=λm s=>by have:=b.rL ut (.inl rfl);omega
 have j:=b.st a c;have q:=b.rS tu[a] (.inl (av c));have y:=jnu (l:=2*ut+1) (u:=ut) (kk:=.i64) c;have z:=jiq c;refine jgb rfl zQ ?_;conv in(occs:=*)S181=>all_goals cbv
 simp(disch:=try exact zD)[S181];refine jP (vs:=[.ptr (2*uG+1) uG 0,.int .i64 a]) zS rfl rfl (jlr (b.keep (λx _ _=>by simp) i) zO _ _ _) ?_;simp(disch:=try exact zD)[j0,d,slU,c,f,y,z];obtain⟨nl,e⟩:=numR_intsV (yp (ym (WT a)));refine jP (vs:=[.ptr (2*tu[a]+1) tu[a] 0]) zS rfl rfl (jh0 (w:=WT a) (by simpa using j) (Off.new zO) g _ _) ?_;refine YE e λp add=>?_;simp;exact slE (t:=p) (nl:=nl) (k:=(yp (ym (WT a))).length) (cs:=(yp (ym (WT a))).flatMap ye) (λr h=>⟨nl,h⟩) zS zS
def evo180 (c:Gr lo hi uG (some ut) (some uf) ue tu fu WT WF T ob) (j:hi<=ub) {a:Nat}(B:a<tu.length) (F:tu.length=fu.length) (i:WF a<512) (tk:Nat->Bool) (base:Nat):∃v,EvO E 180 [.ptr (2*uG+1) uG 0,.int .i64 (a:Int)] ob tk base ub v/\jyp (yp (ym (WF a))) v:=by
 have d:=c.o;have g:=c.f uf rfl;have H:∀m,ub<=m->¬uG=m:=λm y=>by have:=c.rG;omega
 have G:∀m,ub<=m->¬uf=m:=λm y=>by have:=c.rL uf (.inr (.inl rfl));omega
 have b:a<fu.length:=zO;have p:=c.sf a b;have s:=c.rS fu[a] (.inr (av b));have z:=jnu (l:=2*uf+1) (u:=uf) (kk:=.i64) b;have D:=jiq b;refine jgb rfl zQ ?_;conv in(occs:=*)S180=>all_goals cbv
 simp(disch:=try exact zD)[S180];refine jP (vs:=[.ptr (2*uG+1) uG 0,.int .i64 a]) zS rfl rfl (jlr (c.keep (λx _ _=>by simp) j) zO _ _ _) ?_;simp(disch:=try exact zD)[j0,d,slU,B,g,z,D];obtain⟨nl,e⟩:=numR_intsV (yp (ym (WF a)));refine jP (vs:=[.ptr (2*fu[a]+1) fu[a] 0]) zS rfl rfl (jh0 (w:=WF a) (by simpa using p) (Off.new zO) i _ _) ?_;refine YE e λq add=>?_;simp;exact slE (t:=q) (nl:=nl) (k:=(yp (ym (WF a))).length) (cs:=(yp (ym (WF a))).flatMap ye) (λr h=>⟨nl,h⟩) zS zS
end
def orL (L:List Nat):Nat:=L.foldl (λw b=>w|||1<<<b) 0
def jiu (L:List Nat) (b:Nat):orL (L++[b])=orL L|||1<<<b:=by simp[orL]
def jpi (L:List Nat):∀k,k<=L.length->∀i,(orL (L.take k)).testBit i=decide (i∈L.take k)
 |0,_,i=>by simp[orL]
 |k+1,h,i=>by have a:=jpi L k zO i;rw[aw zO,jiu,ej,a,cY,eF,bu];simp only[bD,ze,aP,ae];exact or_congr bI eq_comm
def jz3 {w:Nat}(h:w<512):orL (ym w)=w:=by
 refine fM λi=>?_;have:=jpi (ym w) (ym w).length zK i;rw[bf]at this;rw[this,bu,ze,bitsUp_mem];constructor;exact λh=>h.2;intro a;refine⟨?_,a⟩;rcases cD i 9 with h1|h1
 exact h1;have:w.testBit i=false:=dH (aS h (cj zQ h1:2^9<=2^i));rw[this]at a;cases a
def orL_lt {L:List Nat}(h:∀b∈L,b<64) (k:Nat) (c:k<=L.length):orL (L.take k)<2^64:=by
 induction k with
 |zero=>simp[orL]
 |succ k a=>rw[aw zO,jiu];exact or_lt (a zO) (h _ (av _))
section
variable {ob:ZO}{ub:Nat}
def SetR (ob:ZO) (ub w:Nat) (r:V×(ZO)×(Nat->Bool)×Nat):Prop :=
 ∃m,ub<=m/\m<r.2.2.2/\r.1=.ptr (2*m+1) m 0/\r.2.1 (2*m+1)=some ⟨m,.cells (yt w)⟩/\∀key,Off ub key->r.2.1 key=ob key
def j9j {Yf:YF}{tk:Nat->Bool}{ro base:Nat}{t:Option (Nat×Nat)}{nl:Bool}{L:List Nat}(a0:ro<=ub) (N:∀b∈L,b<64) (hl:L.length<=100000):∃r,EvS E Yf.y 151 [.sl t nl L.length ((yp L).flatMap ye)] ob tk ro base ub r/\SetR ob ub (orL L) r:=by
 refine J7 rfl zQ ?_;show wpC E Yf S151.body _ (Jd S151.res _);conv in(occs:=*)S151=>all_goals cbv
 simp[V.cells];refine jf λg c=>?_;obtain⟨m,O,M,g3,Q⟩:∃u,ub<=u/\u<g.nx/\g.tm 3=.ptr (2*u+1) u 0/\g.ob (2*u+1)=some ⟨u,.cells (yt 0)⟩:=⟨ub+128,zO,by rw[c];first|omega|(simp;done)|(simp;omega),by rw[c];simp[aG],by rw[c];simp[aG,yt]⟩;have g8:g.tm 8=.sl t nl L.length ((yp L).flatMap ye):=by rw[c];simp
 have U:g.tm 9=.int .i64 L.length:=by rw[c];simp
 have p:g.tm 10=.int .i64 0:=by rw[c];simp
 have gd:g.df=[]:=by rw[c];simp
 have gr:g.ro=ro:=by rw[c];simp
 have go:∀a,Off ub a->g.ob a=ob a:=λa h=>by have:=h.ne;rw[c];simp(disch:=try exact zD)[this]
 clear c;obtain⟨J,B⟩:∃J:Nat->St->Prop,J=λi s=>s.tm 10=.int .i64 i/\m<s.nx/\s.ob (2*m+1)=some ⟨m,.cells (yt (orL (L.take i)))⟩/\∀a,Off ub a->s.ob a=ob a:=⟨_,rfl⟩;refine j7 [(5,5),(10,17)] L.length J rfl rfl ?_ ?_;rw[B];exact⟨by simpa using p,M,by simpa[orL] using Q,go⟩;clear p go Q M;intro i s hi l f;rw[B]at l;obtain⟨j,sm,x,I⟩:=l;have P:=(f.t 3 zS).trans g3;have T:=(f.t 8 zS).trans g8;have K:=(f.t 9 zS).trans U;have S:=f.d.trans gd;have sr:=f.r.trans gr;clear f;by_cases e:i<L.length;have z:=jc e zO;have n:i<(yp L).length:=by simpa[yp] using e
 have q:J0 1 (.sl t nl L.length ((yp L).flatMap ye)) (.int .i64 (i:Int))=some (.eptr ((yp L).flatMap ye) (i*1)):=by have:=XA jA t nl (yp L) .i64 n;rwa [show(yp L).length=L.length by simp[yp]]at this
 have o:=JL (yp L) n;have D:(yp L)[i]=((L[i]:Nat):Int):=by simp[yp]
 rw[D]at o;have Z:=N _ (av e);have v:orL (L.take (i+1))=orL (L.take i)|||1<<<L[i]:=by rw[aw e,jiu]
 have nm:∀k,s.nx<=k->¬m=k:=λk h=>by omega
 simp(disch:=try exact zD)[j,K,T,P,e,q,o];refine jK (vs:=[.ptr (2*m+1) m 0,.int .i64 (L[i]:Nat)]) zS rfl (jra (w:=orL (L.take i)) (by simpa using x) (Off.new zL) (by simp[sr];omega) Z (orL_lt N i zO)) ?_;rintro v1 b0 X G ⟨_,F,H⟩;simp only at F H;have b5:s.nx<=G:=by first|omega|(simp at H;omega)
 simp(disch:=try exact zD)[j,z,e];rw[B];refine⟨zS,zL,?_,λa h=>?_⟩;have:=F (2*m+1) (Off.new zL);rw[zb rfl]at this;simpa[v] using this;have:=F a (h.up zL);rw[za (h m O)]at this;simpa[I a h] using this;have:i=L.length:=zO;subst this;rw[bf]at x;simp(disch:=try exact zD)[j,K,P];exact JQ (by simp[S]) ⟨m,O,zL,zS,by simpa using x,λa h=>by simpa using I a h⟩
def j7m (v w:Nat):js [.int,.int,.int,.int,.int,.int,.int,.int] (yt v) (yt w)=some (v==w):=by simp only[js,yt,WO,zd,am,aO,beq_self_eq_true,eu];congr 1;rw[bu];simp only[zh,Int.ofNat_inj]
def jrf {X x i:Nat}(h:i<8) (a:i≠0->x=0):j2 (yt X) i [.int .u64 (x:Int)]=yt (if i=0 then x else X):=by
 match i,h with
 |0,_=>rfl
 |1,_|2,_|3,_|4,_|5,_|6,_|7,_=>rw[a zQ];rfl
def sv298 {Yf:YF}{tk:Nat->Bool}{ro base a b v w:Nat}(ha:ob (2*a+1)=some ⟨a,.cells (yt v)⟩) (hb:ob (2*b+1)=some ⟨b,.cells (yt w)⟩) (la:a<ub) (lb:b<ub) (a0:ro<=a) (hv:v<2^64) (hw:w<2^64) :
 ∃r,EvS E Yf.y 298 [.ptr (2*a+1) a 0,.ptr (2*b+1) b 0] ob tk ro base ub r/\(ub<=r.2.2.2/\∀c,Off ub c->r.2.1 c=if c=2*a+1 then some ⟨a,.cells (yt (v|||w))⟩ else ob c):=by
 refine J7 rfl zQ ?_;show wpC E Yf S298.body _ (Jd S298.res _);have j:∀v,(yt v).length=8:=λ_=>rfl;have z:∀v,(yt v).take 8=yt v:=λ_=>rfl;have na:∀m,ub<=m->¬a=m:=λm Q=>by omega
 have nb:∀m,ub<=m->¬b=m:=λm Q=>by omega
 conv in(occs:=*)S298=>all_goals cbv
 simp(disch:=try exact zD)[S298,j0,ha,hb,j,yi,nb,z];refine⟨zO,by simp[yt,V.leaf],?_⟩;refine jf λl g=>?_;obtain⟨p,u1,U,g5,T⟩:∃u,ub<=u/\u<l.nx/\l.tm 5=.ptr (2*u+1) u 0/\l.ob (2*u+1)=some ⟨u,.cells (yt v)⟩:=⟨ub+704,zO,by rw[g];first|omega|(simp;done)|(simp;omega),by rw[g];simp[aG],by rw[g];simp[aG,j2,j]⟩;have g0:l.tm 0=.ptr (2*a+1) a 0:=by rw[g];simp
 have O:l.tm 21=.agg (yt w):=by rw[g];simp
 have F:l.tm 22=.int .i64 0:=by rw[g];simp
 have gd:l.df=[]:=by rw[g];simp
 have gr:l.ro=ro:=by rw[g];simp
 have go:∀c,Off ub c->l.ob c=ob c:=λc n=>by have:=n.ne;rw[g];simp(disch:=try exact zD)[this]
 clear g;obtain⟨J,N⟩:∃J:Nat->St->Prop,J=λi s=>s.tm 22=.int .i64 i/\p<s.nx/\s.ob (2*p+1)=some ⟨p,.cells (yt v)⟩/\∀c,Off ub c->s.ob c=if c=2*a+1 then some ⟨a,.cells (yt (if i=0 then v else v|||w))⟩ else ob c:=⟨_,rfl⟩
 refine j7 [(6,7),(22,37)] 8 J rfl rfl ?_ ?_;rw[N];refine⟨by simpa using F,U,T,λc n=>?_⟩;rw[go c n];by_cases e:c=2*a+1;rw[zb e,e,ha];rfl;rw[za e];clear F go T U;intro i s hi x f;rw[N]at x;obtain⟨G,sm,sW,L⟩:=x;have Z:=(f.t 0 zS).trans g0;have s5:=(f.t 5 zS).trans g5;have P:=(f.t 21 zS).trans O;have sd:=f.d.trans gd;have sr:=f.r.trans gr;clear f;have I:=L (2*a+1) (Off.new la);rw[zb rfl]at I;have nw:∀m,s.nx<=m->¬p=m:=λm Q=>by omega
 have b5:∀m,s.nx<=m->¬a=m:=λm Q=>by omega
 by_cases h:i<8;have M:=jc h zQ;have K:(i:Int)<8:=zO;have o:ja5 none 8 1 (.agg (yt w)) (.int .i64 (i:Int))=some (.int .u64 (if i=0 then w else 0:Nat)):=by have:=jmq (w:=w) h;simp[ja5,K,Xj,this]
 have S:W2 8 1 (.ptr (2*a+1) a 0) (.int .i64 (i:Int))=some (.ptr (2*a+1) a i):=by simp[W2,K]
 obtain⟨X,H⟩:∃X,X=if i=0 then v else v|||w:=⟨_,rfl⟩
 rw[<- H]at I;have D:=jmq (w:=X) h;have k:Y0 .or (.int .u64 ((if i=0 then X else 0:Nat):Int)) (.int .u64 ((if i=0 then w else 0:Nat):Int))=some (.int .u64 ((if i=0 then v|||w else 0:Nat):Int)):=by by_cases e:i=0;rw[zb e]at H;rw[zb e,zb e,zb e,H];exact jei hv hw;rw[za e,za e,za e];exact jei zQ zQ
 generalize b6:(if i=0 then w else 0:Nat)=x0 at o k;generalize b0:(if i=0 then X else 0:Nat)=x1 at D k;generalize q:(if i=0 then v|||w else 0:Nat)=x2 at k;simp(disch:=try exact zD)[G,P,Z,K,o,S,j0,I,D,k,j];refine⟨zO,?_⟩;simp(disch:=try exact zD)[M];rw[N];have B:j2 (yt X) i [.int .u64 (x2:Int)]=yt (v|||w):=by rw[jrf h λe=>by rw[<- q,za e],<- q,H];by_cases e:i=0;rw[zb e,zb e];rw[za e,za e]
 refine⟨zO,h,zS,zL,?_,λc n=>?_⟩;simp(disch:=try exact zD)[yi,show ¬p=a by omega,sW];by_cases e:c=2*a+1;simp[e,B];have:=L c n;rw[za e]at this;simp[e,this];have:i=8:=zO;subst this;simp(disch:=try exact zD)[G,Z,s5,j0,I,sW,j,z,j7m];exact JQ (by simp[sd]) ⟨zL,λc n=>by simpa using L c n⟩
end
structure Rs (lo hi uL:Nat) (lu:List Nat) (m:Nat) (W:Nat->Nat) (ob:ZO):Prop where
 o:ob (2*uL+1)=some ⟨uL,.cells (lu.flatMap ptC++List.replicate m .nilptr)⟩
 s:∀i (h:i<lu.length),ob (2*lu[i]+1)=some ⟨lu[i],.cells (yt (W i))⟩
 n:lu.Nodup
 x:uL ∉ lu
 r:lo<=uL/\uL<hi
 rs:∀x∈lu,lo<=x/\x<hi
section
variable {lo hi hi' uL m:Nat}{lu:List Nat}{W:Nat->Nat}{ob ob':ZO}
def Rs.keep (h:Rs lo hi uL lu m W ob) (b:∀x,lo<=x->x<hi->ob' (2*x+1)=ob (2*x+1)) (c:hi<=hi'):Rs lo hi' uL lu m W ob' :=
 ⟨(b uL h.r.1 h.r.2).trans h.o,λi hi=>(b _ (h.rs _ (av hi)).1 (h.rs _ (av hi)).2).trans (h.s i hi),h.n,h.x,⟨h.r.1,aS h.r.2 c⟩,λx a=>⟨(h.rs x a).1,aS (h.rs x a).2 c⟩⟩
def Rs.congr (h:Rs lo hi uL lu m W ob) {a:Nat->Nat}(b:∀i,i<lu.length->a i=W i):Rs lo hi uL lu m a ob:=⟨h.o,λi hi=>by rw[b i hi];exact h.s i hi,h.n,h.x,h.r,h.rs⟩
def Rs.put (h:Rs lo hi uL lu m W ob) {a w:Nat}(c:a<lu.length) (g:ob' (2*lu[a]+1)=some ⟨lu[a],.cells (yt w)⟩) (b:∀x,lo<=x->x<hi->x≠lu[a]->ob' (2*x+1)=ob (2*x+1)) (d:hi<=hi'):Rs lo hi' uL lu m (λi=>if i=a then w else W i) ob':=by have j:lu[a]∈lu:=av c;refine⟨(b uL h.r.1 h.r.2 (λe=>h.x (e▸j))).trans h.o,λi hi=>?_,h.n,h.x,⟨h.r.1,aS h.r.2 d⟩,λx f=>⟨(h.rs x f).1,aS (h.rs x f).2 d⟩⟩;by_cases e:i=a;subst e;rw[zb rfl];exact g;rw[za e];have:=h.rs _ (av hi);exact(b _ this.1 this.2 λk=>e (jiz h.n hi c k)).trans (h.s i hi)
def Rs.add (h:Rs lo hi uL lu (m+1) W ob) {x:Nat}(d:ob' (2*uL+1)=some ⟨uL,.cells (j2 (lu.flatMap ptC++List.replicate (m+1) .nilptr) lu.length (ptC x))⟩) (g:ob' (2*x+1)=some ⟨x,.cells (yt (W lu.length))⟩) (j:∀y∈lu,ob' (2*y+1)=ob (2*y+1)) (p:hi<=x) (o:x<hi'):Rs lo hi' uL (lu++[x]) m W ob':=by
 have f:hi<=hi':=zO;have k:=h.r;have a:=j3 jir lu;refine⟨?_,λi hi=>?_,?_,?_,⟨h.r.1,aS h.r.2 f⟩,λy c=>?_⟩;rw[d];congr 3;unfold j2;rw[dJ zO,List.drop_append,bB (by rw[a];simp[ptC])];simp[ptC,List.replicate_succ,a];by_cases e:i<lu.length;rw[fl e];exact(j _ (av e)).trans (h.s i e);have:i=lu.length:=by rw[au,dM]at hi;omega
 subst this;rw[eU zK];simpa using g;rw[dh];exact⟨h.n,zS,λy c z l e=>by rw[ae]at l;have:=(h.rs y c).2;omega⟩;rw[aP,ae];rintro(b|b);exact h.x b;omega;rw[aP,ae]at c;rcases c with b|b;have:=h.rs y b;omega;omega
end
def WIs (n:Nat) (W:Nat->Nat) (f:Nat->Nat->Bool):Prop:=∀b,b<n->W b<2^n/\∀a,a<n->(W b).testBit a=f b a
def WIs.congr {n:Nat}{W:Nat->Nat}{f g:Nat->Nat->Bool}(h:WIs n W f) (e:∀b a,b<n->a<n->f b a=g b a):WIs n W g:=λb c=>⟨(h b c).1,λa d=>((h b c).2 a d).trans (e b a c d)⟩
def WIs.join {n:Nat}{W:Nat->Nat}{r:Nat->Nat->Bool}{k b:Nat}(h:WIs n W (fD2 r k b)) (o:k<n) (s:b<n) (q:(W b).testBit k=true):WIs n (λi=>if i=b then W b|||W k else W i) (fD2 r k (b+1)):=by
 intro c p;have g:=h b s;have j:=h k o;by_cases e:c=b;subst e;simp only[zd];refine⟨dw g.1 j.1,λa d=>?_⟩;rw[ej,g.2 a d,j.2 a d];have f:war r k c k=true:=by have:=g.2 k o;rw[q]at this;simpa[fD2] using this.symm
 have t:fD2 r k c c a=war r k c a:=j3k r k c a;have u:fD2 r k c k a=war r k k a:=by unfold fD2;split;exact jy5 r k a;rfl
 rw[t,u];unfold fD2;rw[zb zO,war,f,cp];simp only[za e];refine⟨(h c p).1,λa d=>?_⟩;rw[(h c p).2 a d];unfold fD2;by_cases l:c<b;rw[zb l,zb zO];rw[za l,za zO]
def jnj {Yf:YF}{f:FuncId}{xs:List A}{st:St}{ub:Nat}{K:St->Nat->Prop}{d:Option Nat}{nm:Bool}{vs:List V}{l:List Int}(e:xs.map (yc E st.tm)=vs) (c:E.sh nm f=false) (hp:(vs.all λv=>v.strip.pureTop)=false)
 (h:∃v,EvO E f vs st.ob st.tk ((st.fb+d.getD 0+1)*1024) ub v/\jyp l v) (g:∀t a add,Q6 K st d ub { v:=.sl t a l.length (l.flatMap ye),add:=add }):j5 E Yf ⟨d,.call f xs,none,nm⟩ st ub K:=by
 obtain⟨v,i,a,b⟩:=h;exact jP e c hp i (YE b λt add=>g t a add)
section
variable {lo uG ut uf:Nat}{ue:Option Nat}{tu fu:List Nat}{WT WF:Nat->Nat}{T:List P2}{ob:ZO}{ub n:Nat}
def j9f {Yf:YF}{tk:Nat->Bool}{ro base:Nat}(hG:Gr lo ub uG (some ut) (some uf) ue tu fu WT WF T ob) (e1:ro<=ub) (ht:tu.length=n) (h1:0<n) (h9:n<=9) {r:Nat->Nat->Bool}(hW:WIs n WT λb a=>r a b) :
 ∃q,EvS E Yf.y 273 [.ptr (2*uG+1) uG 0] ob tk ro base ub q/\∃uL lu W,q.1=.osl (2*uL+1) uL 0 n 1/\lu.length=n/\Rs ub q.2.2.2 uL lu 0 W q.2.1/\WIs n W (war r n):=by
 have hp:(2:Nat)^n<=512:=cj zQ h9;have b0:∀a,a<n->WT a<512:=λa ha=>aS (hW a ha).1 hp;refine J7 rfl zQ ?_;show wpC E Yf S273.body _ (Jd S273.res _);conv in(occs:=*)S273=>all_goals cbv
 simp(disch:=try exact zD)[S273];refine jP (vs:=[.ptr (2*uG+1) uG 0]) zS rfl rfl (evo178 (hG.keep (λx _ _=>by simp) zK) zO _ _) ?_;simp;refine ji8 (n:=n) (by simp[ht]) (by simp[ht]) zO zO rfl zQ ?_;rw[jo7];simp;refine jf λj g=>?_;obtain⟨uL,u1,u2,g3,gL⟩:∃u,ub<=u/\u<j.nx/\j.tm 3=.osl (2*u+1) u 0 n 1/\j.ob (2*u+1)=some ⟨u,.cells (List.replicate n .nilptr)⟩:=⟨ub+192,zO,by rw[g];first|omega|(simp;done)|(simp;omega),by rw[g];simp[aG],by rw[g];simp[aG]⟩;have g0:j.tm 0=.ptr (2*uG+1) uG 0:=by rw[g];simp
 have d3:j.tm 11=.int .i64 n:=by rw[g];simp
 have c8:j.tm 12=.int .i64 0:=by rw[g];simp
 have gd:j.df=[]:=by rw[g];simp
 have gr:j.ro=ro:=by rw[g];simp
 have go:∀z,Off ub z->j.ob z=ob z:=λz hk=>by have:=hk.ne;rw[g];simp(disch:=try exact zD)[this]
 clear g;obtain⟨J,hJ⟩:∃J:Nat->St->Prop,J=λi s=>s.tm 12=.int .i64 i/\ub<=s.nx/\(∃lu,lu.length=i/\Rs ub s.nx uL lu (n-i) WT s.ob)/\∀z,Off ub z->s.ob z=ob z:=⟨_,rfl⟩;refine j7 [(4,4),(12,22)] n J rfl rfl ?_ ?_;rw[hJ];exact⟨by simpa using c8,zO,⟨[],rfl,⟨by simpa using gL,λi hi=>(by simp at hi),dQ,cQ,⟨u1,u2⟩,λx hx=>(by cases hx)⟩⟩,go⟩;clear c8 gL;intro i s hi b9 f;rw[hJ]at b9;obtain⟨O,sn,⟨lu,K,N⟩,so⟩:=b9;have s0:=(f.t 0 zS).trans g0;have s3:=(f.t 3 zS).trans g3;have S:=(f.t 11 zS).trans d3;have sd:=f.d.trans gd;have sr:=f.r.trans gr;have b7:Gr lo s.nx uG (some ut) (some uf) ue tu fu WT WF T s.ob:=hG.keep (λx _ h=>so _ (Off.new h)) sn;clear f;by_cases F:i<n
 ·have Q:=jc F zO;simp(disch:=try exact zD)[O,S,s3,s0,F];refine jnj (vs:=[.ptr (2*uG+1) uG 0,.int .i64 i]) zS rfl rfl (j3p (b7.keep (λx _ h=>?_) ?_) zK zO (b0 i F) _ _) λtt nl add=>?_;simp
  ·first|omega|(simp;done)|(simp;omega)
  have e2:=Qv (WT i);simp;refine jK (vs:=[.sl tt nl (ym (WT i)).length ((yp (ym (WT i))).flatMap ye)]) (by simp[JV]) rfl (j9j (by simp[sr];omega) (λb hb=>?_) zO) ?_;have:=(bitsUp_mem.1 hb).1;omega;rintro v1 a0 d1 U ⟨x,q1,q2,rfl,q4,q5⟩;rw[jz3 (b0 i F)]at q4;simp only at q1 q2 q4 q5;have d5:s.nx<=x:=by first|omega|(simp at q1;omega)
  have G:=N.o;have c6:=N.r;have c9:=jnu (l:=2*uL+1) (u:=uL) (kk:=.i64) F;have c1:∀y,y<s.nx->a0 (2*y+1)=s.ob (2*y+1):=λy hy=>by rw[q5 _ (Off.new zL)];simp
  have c4:a0 (2*uL+1)=_:=(c1 uL c6.2).trans G;have c7:=j3 jir lu;have d8:(lu.flatMap ptC++List.replicate (n-i) V.nilptr).length=n:=by rw[au,List.length_replicate,c7];omega
  have d9:(lu.flatMap ptC).length+(n-i)=n:=by rw[c7];omega
  have nL:∀m,U<=m->¬uL=m:=λm hm=>by omega
  simp(disch:=try exact zD)[c9,j0,c4,d8,V.cells,V.leaf];refine⟨zO,zO,?_⟩;simp(disch:=try exact zD)[O,Q,F];rw[hJ];have d4:n-i=(n-(i+1))+1:=zO;rw[d4]at N ⊢;have d6:¬x=uL:=zO;refine⟨zS,zL,⟨lu++[x],by simp[K],N.add ?_ ?_ (λy hy=>?_) d5 zL⟩,λz hk=>?_⟩;simp[K,ptC];simp(disch:=try exact zD)[yi,d6,q4,K];have h3:=N.rs y hy;have:¬y=uL:=λe=>N.x (e▸hy);simp(disch:=try exact zD)[yi,this,c1 y h3.2];have h3:¬z=2*uL+1:=hk uL u1;simp[h3];rw[q5 z (hk.up zL)];simpa using so z hk
 ·have:i=n:=zO;subst this;simp(disch:=try exact zD)[O,S,s3];rw[fX]at N;refine jf λj g=>?_;have g3:j.tm 3=.osl (2*uL+1) uL 0 i 1:=by rw[g];simp[s3]
  have c5:j.tm 24=.int .i64 i:=by rw[g];simp
  have I:j.tm 25=.int .i64 0:=by rw[g];simp
  have gd:j.df=[]:=by rw[g];simp[sd]
  have gr:j.ro=ro:=by rw[g];simp[sr]
  have gn:ub<=j.nx:=by rw[g];first|omega|(simp;done)|(simp;omega)
  have gR:Rs ub j.nx uL lu 0 WT j.ob:=N.keep (λx _ _=>by rw[g];simp) (by rw[g];first|omega|(simp;done)|(simp;omega));clear g N b7 O s0 s3 S sd sr;obtain⟨J2,X⟩:∃J2:Nat->St->Prop,J2=λk s=>s.tm 25=.int .i64 k/\ub<=s.nx/\∃W,Rs ub s.nx uL lu 0 W s.ob/\WIs i W (war r k):=⟨_,rfl⟩;refine j7 [(5,6),(25,49)] i J2 rfl rfl (by rw[X];exact⟨by simpa using I,gn,WT,gR,hW⟩) ?_;clear I gn gR;intro k p hk b8 f;rw[X]at b8;obtain⟨Z,pn,W,pR,pW⟩:=b8;have p3:=(f.t 3 zS).trans g3;have P:=(f.t 24 zS).trans c5;have pd:=f.d.trans gd;have pr:=f.r.trans gr;clear f;by_cases D:k<i
  ·have Q:=jc D zO;simp(disch:=try exact zD)[Z,P,p3,D];refine jf λj g=>?_;have g3:j.tm 3=.osl (2*uL+1) uL 0 i 1:=by rw[g];simp[p3]
   have g5:j.tm 5=.int .i64 k:=by rw[g];simp
   have c5:j.tm 24=.int .i64 i:=by rw[g];simp[P]
   have I:j.tm 25=.int .i64 k:=by rw[g];simp[Z]
   have d2:j.tm 29=.int .i64 i:=by rw[g];simp
   have b6:j.tm 30=.int .i64 0:=by rw[g];simp
   have gd:j.df=[]:=by rw[g];simp[pd]
   have gr:j.ro=ro:=by rw[g];simp[pr]
   have gn:ub<=j.nx:=by rw[g];first|omega|(simp;done)|(simp;omega)
   have gR:Rs ub j.nx uL lu 0 W j.ob:=pR.keep (λx _ _=>by rw[g];simp) (by rw[g];first|omega|(simp;done)|(simp;omega));clear g pR;obtain⟨J3,M⟩:∃J3:Nat->St->Prop,J3=λb s=>s.tm 30=.int .i64 b/\ub<=s.nx/\∃W,Rs ub s.nx uL lu 0 W s.ob/\WIs i W (fD2 r k b):=⟨_,rfl⟩;refine j7 [(6,6),(30,48)] i J3 rfl rfl (by rw[M];exact⟨by simpa using b6,gn,W,gR,pW.congr λb a _ _=>(j15 r k b a).symm⟩) ?_;clear b6 gn gR;intro b q hb c2 f;rw[M]at c2;obtain⟨H,qn,W,L,qW⟩:=c2;have q3:=(f.t 3 zS).trans g3;have q5:=(f.t 5 zS).trans g5;have d7:=(f.t 25 zS).trans I;have c3:=(f.t 29 zS).trans d2;have qd:=f.d.trans gd;have qr:=f.r.trans gr;clear f;by_cases B:b<i;have c0:=jc B zO;have G:=L.o;have c6:=L.r;rw[eH,aU]at G;have x1:=jnu (l:=2*uL+1) (u:=uL) (kk:=.i64) B;have x2:=jiq (l:=lu) (i:=b) zO;have x3:=jnu (l:=2*uL+1) (u:=uL) (kk:=.i64) D;have x4:=jiq (l:=lu) (i:=k) zO;have nL:∀m,q.nx<=m->¬uL=m:=λm hm=>by omega
   have b5:=L.s b zO;have d0:=L.s k zO;have lb:=L.rs _ (av (show b<lu.length by omega));have lk:=L.rs _ (av (show k<lu.length by omega));have wb:=aS (qW b B).1 hp;have wk:=aS (qW k D).1 hp;simp(disch:=try exact zD)[H,c3,q3,q5,B,x1,x2,j0,G];refine jP (vs:=[.ptr (2*lu[b]+1) lu[b] 0,.int .i64 k]) zS rfl rfl (jfv (w:=W b) (by simpa using b5) (Off.new zL) zO zO _ _) ?_;cases hh:(W b).testBit k;simp(disch:=try exact zD)[H,c0,B];rw[M];refine⟨zS,zL,W,L.keep (λx _ _=>by simp) zL,qW.congr λc a _ _=>j16 ?_ c a⟩;have:=(qW b B).2 k D;rw[hh,j3k]at this;exact this.symm;simp(disch:=try exact zD)[q3,q5,x1,x2,x3,x4,j0,G];refine jK (vs:=[.ptr (2*lu[b]+1) lu[b] 0,.ptr (2*lu[k]+1) lu[k] 0]) zS rfl (sv298 (v:=W b) (w:=W k) (by simpa using b5) (by simpa using d0) zL zL (by simp[qr];omega) zO zO) ?_;rintro v1 a0 d1 U ⟨r1,r2⟩;simp only at r1 r2;have e0:q.nx<=U:=by first|omega|(simp at r1;omega)
   simp(disch:=try exact zD)[H,c0,B];rw[M];refine⟨zS,zL,_,L.put (a:=b) (w:=W b|||W k) zO ?_ (λx _ h2 h3=>?_) zL,qW.join D B hh⟩;have:=r2 (2*lu[b]+1) (Off.new zL);rw[zb rfl]at this;simpa using this;have:=r2 (2*x+1) (Off.new zL);rw[za zO]at this;simpa using this;have:b=i:=zO;subst this;simp(disch:=try exact zD)[H,c3,d7,Q,D];rw[X];exact⟨zS,zL,W,L.keep (λx _ _=>by simp) zL,qW.congr λc a hc _=>j69 hc a⟩
  have:k=i:=zO;subst this;simp(disch:=try exact zD)[Z,P,p3];exact JQ (by simp[pd]) ⟨uL,zS,lu,K,W,pR.keep (λx _ _=>by simp) zL,pW⟩
end
def edB (L:List P2) (x y:Nat):Bool:=L.contains ((y:Int),(x:Int))
def FromR (w:Nat) (v:V):Prop:=∃nl,jtg [.sl none nl (yp (ym w)).length ((yp (ym w)).flatMap ye),.int .i64 0] v
section
variable {ob:ZO}{ub n:Nat}{v:V}{L:List P2}
def evo222 (G:0<n) (z:n<=9) (hv:EdA ub ob v L) (k:InG n L) (Q:L.length<=10000) {t:Nat}(D:t<n) (tk:Nat->Bool) (base:Nat) :
 ∃q,EvO E 222 [.int .i64 (n:Int),.int .i64 (t:Int),v] ob tk base ub q/\∃w,(w<2^n/\∀a,a<n->w.testBit a=war (edB L) n t a)/\FromR w q:=by
 have hp:(2:Nat)^n<=512:=cj zQ z;have B:¬(t:Int)<0:=zO;have j:¬(n:Int)<=t:=zO;have c:¬(n<=t):=zO;refine jgb rfl zQ ?_;conv in(occs:=*)S222=>all_goals cbv
 simp(disch:=try exact zD)[S222];refine jK (vs:=[.int .i64 n,v]) zS rfl (j4l ?_ G z (hv.up zS ?_) k Q) ?_;simp;omega
 ·first|omega|(simp;done)|(simp;omega)
 rintro v1 U J b0 ⟨F,ut,uf,ue,tu,fu,T,rfl,I,m,b5,hT,P,p⟩;simp only at I P p;simp(disch:=try exact zD)[B,j,c];refine jK (vs:=[.ptr (2*F+1) F 0]) zS rfl (j9f (n:=n) (r:=edB L) (I.keep (λx _ _=>?_) ?_) ?_ m G z (λb _=>⟨(Yb k b).1,λa _=>(Yb k b).2 a⟩)) ?_;simp
 ·first|omega|(simp;done)|(simp;omega)
 ·first|omega|(simp;done)|(simp;omega)
 rintro v2 K N O ⟨H,f,W,rfl,a0,d,M⟩;simp only at d;have e:=d.o;rw[eH,aU]at e;have S:=d.r;have x1:=jnu (l:=2*H+1) (u:=H) (kk:=.i64) D;have x2:=jiq (l:=f) (i:=t) zO;have X:=d.s t zO;have ls:=d.rs _ (av (show t<f.length by omega));have ws:=M t D;simp(disch:=try exact zD)[x1,x2,j0,e];obtain⟨y,g⟩:=numR_intsV (yp (ym (W t)));refine jP (vs:=[.ptr (2*f[t]+1) f[t] 0]) zS rfl rfl (jh0 (w:=W t) (by simpa using X) (Off.new zL) zO _ _) ?_;refine YE g λZ add=>?_;simp;refine jmj (ns:=[6,7]) (ls:=[.sl none y (yp (ym (W t))).length ((yp (ym (W t))).flatMap ye),.int .i64 0]) (λr h=>⟨W t,ws,y,h⟩) zS rfl zS zS ?_;simp;exact⟨Xx rfl (XJ _ Z y _ _),jT rfl,trivial⟩
end
end Go.Pv.T
