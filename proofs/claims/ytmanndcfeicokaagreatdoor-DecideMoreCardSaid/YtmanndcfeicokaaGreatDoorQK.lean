/- Part. -/
import Derived.Test.YtmanndcfeicokaaGreatDoorQJ
set_option maxRecDepth 100000
set_option maxHeartbeats 8000000
set_option linter.all false
namespace Go.Pv.T
open Go Go.Pv
def jp3 {E:Env}{Yf:YF}{st:St}{ub:Nat}{K:St->Nat->Prop}{d:Option Nat}{nm:Bool}{sz l u off n:Nat}{zero cs:List V}{x:A}(e:yc E st.tm x=.osl l u off n sz) (c:st.ob l=some ⟨u,.cells cs⟩) (b:st.ro<=u) (g:zero.length=sz) (f:off+n*sz<=cs.length)
 (h:Q6 K st d ub { v:=jl,obs:=[(l,⟨u,.cells (j2 cs off (jai n zero))⟩)] }):j5 E Yf ⟨d,.clear sz zero x,none,nm⟩ st ub K:=by
 have a:j0 st.ob l u=some cs:=by simp[j0,c]
 rw[jR _ rfl rfl];simp only[yR,e];rw[zb ⟨bT▸b,trivial,g⟩,a,am,zb f,jJ];exact h
def jre {L u n i:Nat}(h:i<=n):YY 1 (some (.int .i64 (i:Int))) none (.osl L u 0 n 1)=some (.osl L u i (n-i) 1):=by have a:(i:Int)<=n:=zO;simp[YY,JT];omega
def jzj {L u n i:Nat}(h:i<=n):YY 1 none (some (.int .i64 (i:Int))) (.osl L u 0 n 1)=some (.osl L u 0 i 1):=by have a:(i:Int)<=n:=zO;simp[YY,JT,a]
def jc7 {p:Int->Bool}{l:List Int}(h:l.findIdx? p=none):l.filter (λx=>!p x)=l:=by rw[eI];intro x a;have:=eW.1 h x a;simp[this]
def jgp:∀(l:List Int) (n:Nat),(l.flatMap ye).take n=(l.take n).flatMap ye
 |[],n=>by simp
 |a::l,0=>by simp
 |a::l,n+1=>by have:=jgp l n;simp only[ba,ye,List.singleton_append,eG,this]
def DelP (L u:Nat) (l:List Int) (ob:ZO) (tk:Nat->Bool) (ub:Nat) (r:V×(ZO)×(Nat->Bool)×Nat):Prop :=
 OwnI r.2.1 r.1 l/\(∀key,key≠L->r.2.1 key=ob key)/\r.2.2.1=tk/\ub<=r.2.2.2/\(r.1=.sl none true 0 []\/∃n,r.1=.osl L u 0 n 1)
def jb1 (p:Int->Bool) (l:List Int) (j:Nat):List Int:=(l.take j).filter λx=>!p x
def jhs {p:Int->Bool}{l:List Int}{j:Nat}(h:j<l.length):jb1 p l (j+1)=jb1 p l j++if p l[j] then [] else [l[j]]:=by unfold jb1;rw[aw h,cg];cases a:p l[j]<;>simp[a]
def j0v (p:Int->Bool) (l:List Int) (j:Nat):(jb1 p l j).length<=j:=by unfold jb1;have:=bR (λx=>!p x) (l.take j);rw[ai]at this;omega
end Go.Pv.T
namespace Go.Pv.T
open Go Go.Pv
end Go.Pv.T
namespace Go.Pv.T
open Go Go.Pv
def jkg {g:Hist'}(a:Small g):(jax g).length<=1000000:=by unfold jax;have:=Qh a g.ts.length;have b:=a.ts;have:g.ts.length*1000<=1000*1000:=aW _ b;split;unfold yh;omega;simp
def yu (g:Hist'):List (Bool×List Int):=(jax g).map λp=>((ofH g p.1 p.2).isEmpty,ofH g p.1 p.2)
def jug (T:List Int):SlR (jjc T) T.isEmpty T.length (T.flatMap ye):=by
 unfold jjc;cases T with
 |nil=>exact⟨none,rfl,zS⟩
 |cons a l=>exact⟨some (0,1),rfl,zS⟩
def ev73 {g:Hist'}(B:Small g):∃v,Ev E 73 [.agg (ya g)] v/\SlR v (yu g).isEmpty (yu g).length ((yu g).flatMap jac):=by
 obtain⟨vr,G,n⟩:=ev72 B;have y:=jkg B;obtain⟨L,O⟩:∃L,jax g=L:=⟨_,rfl⟩;obtain⟨C,H⟩:∃C,yu g=C:=⟨_,rfl⟩;have j:C=L.map λp=>((ofH g p.1 p.2).isEmpty,ofH g p.1 p.2):=by rw[<- H,<- O];rfl
 have z:C.length=L.length:=by rw[j];simp
 rw[H];rw[O]at n y;refine XI rfl zQ ?_;conv in(occs:=*)F73=>all_goals cbv
 simp[ya,j0];refine jQ G zI rfl zI ?_;refine YE n λK Q=>?_;simp;refine j7 [(3,5),(9,20)] L.length (λi s=>s.tm 9=.int .i64 i/\s.ob 2=some ⟨0,.cells (ya g)⟩/\Grow s.tk 0 s.nx jac 1 (C.take i) (s.tm 3)) rfl rfl ⟨zS,zI,by simp;exact Grow.nil _ _ _ _ _⟩ ?_;rintro i s hi ⟨F,P,D⟩ f;have f1:s.tm 1=.ptr 2 0 0:=by rw[f.t 1 zS];simp
 have Z:s.tm 7=.sl K L.isEmpty L.length (L.flatMap jD):=by rw[f.t 7 zS];simp
 have I:s.tm 8=.int .i64 L.length:=by rw[f.t 8 zS];simp
 have S:s.df=[]:=by rw[f.d];simp
 have fb:s.fb=0:=by rw[f.b];simp
 have fr:s.ro=0:=by rw[f.r];simp
 clear f;by_cases e:i<L.length;have hw:=jc e zO;have x:J0 2 (.sl K L.isEmpty L.length (L.flatMap jD)) (.int .i64 (i:Int))=some (.eptr (L.flatMap jD) (i*2)):=by simp only[Jo,j3 jq];rw[zb zP];rfl
 have hp:=λob=>Qj L ob e;have q:C[i]? = some ((ofH g (L[i]).1 (L[i]).2).isEmpty,ofH g (L[i]).1 (L[i]).2):=by rw[j,aR,aa e];rfl
 have w:=ev113 B (L[i]).1 (L[i]).2;generalize (L[i]).1=a at *;generalize (L[i]).2=b at *;obtain⟨T,hT⟩:∃T,ofH g a b=T:=⟨_,rfl⟩;rw[hT]at w q;simp[F,f1,Z,I,P,j0,ya,e,x,hp,j2,fb,fr];refine jQ w (by simp[ya,jD]) rfl (by simp[ya,jD]) ?_;refine YE (jug T) λt add=>?_;simp;have c:C.take (i+1)=C.take i++[(T.isEmpty,T)]:=by rw[ga,q];rfl
 have a0:i<C.length:=zO;have X:(C.take i).length=i:=by rw[ai];omega
 refine jU (cs:=[.sl t T.isEmpty T.length (T.flatMap ye)]) (by simp[j2]) rfl (by simp[V.strip1,V.pureLeaf]) ?_;simp[V.strip1];refine XU (f:=jac) (lo:=0) (hi:=s.nx) (l:=C.take i) (a:=(T.isEmpty,T)) (v:=s.tm 3) (D.mono (λu _ _ h=>by simp[jx,h]) zK) zS (by simp[jE,jac]) Wn zQ (by simp[jac,V.pureLeaf]) zO zO (λb0 N=>?_);have m:C.take (i+1)≠[]:=by rw[c];simp
 have o:(C.take i).length+1=(C.take (i+1)).length:=by rw[c,au];rfl
 rw[<- c,o];obtain⟨M,J⟩:∃M,C.take (i+1)=M:=⟨_,rfl⟩;rw[J]at m ⊢;simp[F,hw,P,ya,J];exact⟨e,.inr ⟨m,_,rfl,by simp[jx],bY _,zO⟩⟩;have:i=L.length:=zO;subst this;rw[<- z,bf]at D;obtain⟨t,U⟩:=D.form;simp[F,I];exact slE (t:=t) (nl:=C.isEmpty) (k:=C.length) (cs:=C.flatMap jac) (λr h=>h) (by simp[S]) (by simp[U])
def choR (g:Hist'):List (Bool×List Int):=(yh g).map λp=>(false,ofH g p.1 p.2)
def QM {g:Hist'}(a:Small g):(yh g).length<=1000000:=by have:=Qh a g.ts.length;have b:=a.ts;have:g.ts.length*1000<=1000*1000:=aW _ b;unfold yh;omega
def ev37 {g:Hist'}(D:Small g):∃v,Ev E 37 [.agg (ya g)] v/\SlR v false (choR g).length ((choR g).flatMap jac):=by
 obtain⟨vr,G,m⟩:=ev64 D;have x:=QM D;obtain⟨L,N⟩:∃L,yh g=L:=⟨_,rfl⟩;obtain⟨C,H⟩:∃C,choR g=C:=⟨_,rfl⟩;have j:C=L.map λp=>(false,ofH g p.1 p.2):=by rw[<- H,<- N];rfl
 have B:C.length=L.length:=by rw[j];simp
 rw[H];rw[N]at m x;refine XI rfl zQ ?_;conv in(occs:=*)F37=>all_goals cbv
 simp[ya,j0];refine jQ G zI rfl zI ?_;refine YE m λJ P=>?_;simp;refine jU (cs:=[]) rfl rfl rfl ?_;simp;refine j7 [(4,5),(9,24)] L.length (λi s=>s.tm 5=.int .i64 i/\s.ob 2=some ⟨0,.cells (ya g)⟩/\GrowT s.tk s.nx jac 1 (C.take i) (s.tm 4)) rfl rfl ⟨zS,zI,⟨256,zS,by simp[jx],zS⟩⟩ ?_;rintro i s hi ⟨y,O,F⟩ f;have X:s.tm 1=.ptr 2 0 0:=by rw[f.t 1 zS];simp
 have Q:s.tm 3=.sl J false L.length (L.flatMap jD):=by rw[f.t 3 zS];simp
 have S:s.df=[]:=by rw[f.d];simp
 clear f;by_cases c:i<L.length;have hw:=jc c zO;have w:J0 2 (.sl J false L.length (L.flatMap jD)) (.int .i64 (i:Int))=some (.eptr (L.flatMap jD) (i*2)):=by simp only[Jo,j3 jq];rw[zb zP];rfl
 have hp:=λob=>Qj L ob c;have q:C[i]? = some (false,ofH g (L[i]).1 (L[i]).2):=by rw[j,aR,aa c];rfl
 obtain⟨vo,z,o⟩:=ev69' D (L[i]).1 (L[i]).2;generalize (L[i]).1=a at *;generalize (L[i]).2=b at *;obtain⟨T,Z⟩:∃T,ofH g a b=T:=⟨_,rfl⟩;rw[Z]at o q;have e:C.take (i+1)=C.take i++[(false,T)]:=by rw[ga,q];rfl
 have a0:i<C.length:=zO;have U:(C.take i).length=i:=by rw[ai];omega
 simp[y,X,Q,O,j0,ya,c,w,hp];refine YI z (by simp[ya,jD]) rfl (by simp[ya,jD]) ?_;refine YE o λt add=>?_;simp;refine jsl (cs:=[.sl t false T.length (T.flatMap ye)]) (by simp[j2]) rfl (by simp[V.strip1,V.pureLeaf]) ?_;simp[V.strip1];refine jsm (f:=jac) (hi:=s.nx) (l:=C.take i) (a:=(false,T)) (v:=s.tm 4) (F.mono (λu _ h=>by simp[jx,h]) zK) zS (by simp[jE,jac]) Wn zQ (by simp[jac,V.pureLeaf]) zO zO (λb0 K=>?_);have n:(C.take i).length+1=(C.take (i+1)).length:=by rw[e,au];rfl
 rw[<- e,n];obtain⟨M,I⟩:∃M,C.take (i+1)=M:=⟨_,rfl⟩;rw[I];simp[y,hw,O,ya,I];exact⟨c,_,rfl,by simp[jx],zO⟩;have:i=L.length:=zO;subst this;rw[<- B,bf]at F;obtain⟨u,hv,_,_⟩:=F;simp[y,Q];exact slE (t:=some (u,1)) (nl:=false) (k:=C.length) (cs:=C.flatMap jac) (λr h=>h) (by simp[S]) (by simp[hv])
def jgm:List (Bool×List Int)->List Int->Bool
 |[],_=>true
 |_::_,[]=>false
 |c::cs,m::ms=>c.2.contains m&&jgm cs ms
def WR (g:Hist') (M:List Int):Bool:=jW g&&(M.length==(choR g).length&&jgm (choR g) M)
def jpx (C:List (Bool×List Int)) {i:Nat}(h:i<C.length):(C.flatMap jac)[i]? = some (.sl none (C[i]).1 (C[i]).2.length ((C[i]).2.flatMap ye)):=by have:=jk Wn C h (by decide:0<1);rw[bE,br]at this;rw[this];rfl
def jvz {g:Hist'}(c:Yp g=true) (a b:Int):(ofH g a b).length<=41:=by unfold ofH;split;split;simp;exact j5s (jv9 c) a _;simp
def kD_own {st:St}{ub:Nat}{K:List FP->St->Prop}{d:Option Nat}{nm:Bool}{r:List AOpr}{f:FuncId}{xs:List A}{vs a:List V}{v:V}{δ:Delta}(j:xs.map (yc E st.tm)=vs) (i:E.sh nm f=true) (b:E.tw f=true)
 (k:vs.mapM (WL st.ob)=some a) (c:Ev E f a v) (g:Qy (jF d nm st.fb ub) ub v=some δ)
 (h:jC E r (st.app d δ) (ub+64) (kFp { wo:=δ.wo,all:=true,seen:=λl=>(st.ob l).isSome,nw:=true } K)):jC E (⟨d,.call f xs,none,nm⟩::r) st ub K:=by
 have e:j8 E nm (yc E st.tm) (.call f xs)=some (f,vs):=by simp only[j8,i,j,cl,bZ,ak,zc]
 simp only[jC,yH,e];exact .inr (.inl ⟨i,b,a,v,k,c,δ,by rw[name_eq'];exact g,h⟩)
where
 name_eq':∀{d:Option Nat}{op:AOp}{nm:Bool}{fb ub:Nat},AOpr.name ⟨d,op,none,nm⟩ fb ub=jF d nm fb ub:=by
  intro d op nm fb ub;cases nm<;>rfl
end Go.Pv.T
namespace Go.Pv.T
open Go Go.Pv
end Go.Pv.T
namespace Go.Pv.T
open Go Go.Pv
end Go.Pv.T
namespace Go.Pv.T
open Go Go.Pv
end Go.Pv.T
namespace Go.Pv.T
open Go Go.Pv
def jgb {f:FuncId}{af:AF}{args:List V}{ob:ZO}{tk:Nat->Bool}{base ub:Nat}{P:V->Prop}(b:E.fs f=some af) (g:af.body.one=true) (h:wpC E YO af.body (Ju args ob (λ_=>false) ub base ub) (Q5 af.res P)) (i:E.fz f=false:=by rfl):∃r,EvO E f args ob tk base ub r/\P r:=by obtain⟨n,x,d,r,c,e⟩:=jkq g h λ_=>rfl;refine⟨r,⟨n+1,?_⟩,e⟩;simp only[yJ,b,am,i,ak,zc];rw[show jZ E (yJ E n) noY n af.body (Ju args ob (λ_=>false) ub base ub)=some [x] from d];exact jix (cJ _ _) (λy a=>by rw[ae]at a;subst a;exact c)
def jtg (l:List V) (v:V):Prop:=∃vs,v=.tup vs/\vs.map V.strip1=l/\∀p∈vs.flatMap V.toks,p<64
def noAgg:V->Bool
 | .agg _=>false
 |_=>true
def jo1 {ub:Nat}{v:V}{l:List V}{K:Delta->Prop}(j:jtg l v) (f:l.all noAgg=true) (h:∀ws add,ws.map V.strip1=l->K { v:=.tup ws,add:=add }):wpD (Xd ub v) K:=by
 obtain⟨a,rfl,b,g⟩:=j;have e:Xd ub (.tup a)=some { v:=.tup (a.map (Q8 ub)),add:=(a.flatMap V.toks).map (ub + ·) }:=by rw[Xd,zb (by simpa only[yv,ap,cZ] using g)];rfl
 rw[e,jJ];refine h _ _ ?_;rw[<- b,dl];refine dC λw c=>?_;have i:noAgg w.strip1=true:=ap.1 f _ (by rw[<- b];exact aI.2 ⟨w,c,rfl⟩);cases w with
 |agg=>cases i
 |sl t k n cs=>cases t<;>rfl
 |_=>rfl
def QH {w:V}{nl:Bool}{n:Nat}{cs:List V}(h:w.strip1=.sl none nl n cs):∃t,w=.sl t nl n cs:=by cases w<;>simp[V.strip1]at h;obtain⟨rfl,rfl,rfl⟩:=h;exact⟨_,rfl⟩
def jen {w:V}{b:Bool}(h:w.strip1=.bool b):w=.bool b:=by cases w<;>simp[V.strip1]at h;subst h;rfl
def jco {w:V}{k:IntKind}{b:Int}(h:w.strip1=.int k b):w=.int k b:=by cases w<;>simp[V.strip1]at h;obtain⟨rfl,rfl⟩:=h;rfl
def map2 {e c:Type}{f:e->c}{ws:List e}{a b:c}(h:ws.map f=[a,b]):∃x y,ws=[x,y]/\f x=a/\f y=b:=by
 match ws with
 |[x,y]=>simp only[bi,ci,fJ,and_true]at h;exact⟨x,y,rfl,h.1,h.2⟩
 |[]=>simp at h
 |[_]=>simp at h
 |_::_::_::_=>simp at h
def map3 {g e:Type}{f:g->e}{ws:List g}{a b c:e}(h:ws.map f=[a,b,c]):∃x y z,ws=[x,y,z]/\f x=a/\f y=b/\f z=c:=by
 match ws with
 |[x,y,z]=>simp only[bi,ci,fJ,and_true]at h;exact⟨x,y,z,rfl,h.1,h.2.1,h.2.2⟩
 |[]=>simp at h
 |[_]=>simp at h
 |[_,_]=>simp at h
 |_::_::_::_::_=>simp at h
def jo2 {ub:Nat}{v:V}{a1 a2 b:Bool}{n1 f:Nat}{c1 e:List V}{K:Delta->Prop}(k:jtg [.sl none a1 n1 c1,.sl none a2 f e,.bool b] v)
 (h:∀c a add,K { v:=.tup [.sl c a1 n1 c1,.sl a a2 f e,.bool b],add:=add }):wpD (Xd ub v) K:=by
 refine jo1 k rfl λws add g=>?_;obtain⟨x,y,z,rfl,l,i,j⟩:=map3 g;obtain⟨c,rfl⟩:=QH l;obtain⟨a,rfl⟩:=QH i;obtain rfl:=jen j;exact h c a add
def j96 {ub:Nat}{v:V}{a1 b:Bool}{n1:Nat}{c1:List V}{K:Delta->Prop}(f:jtg [.sl none a1 n1 c1,.bool b] v)
 (h:∀a add,K { v:=.tup [.sl a a1 n1 c1,.bool b],add:=add }):wpD (Xd ub v) K:=by
 refine jo1 f rfl λws add c=>?_;obtain⟨x,z,rfl,g,e⟩:=map2 c;obtain⟨a,rfl⟩:=QH g;obtain rfl:=jen e;exact h a add
def juv {ub:Nat}{v:V}{a1:Bool}{k:IntKind}{b:Int}{n1:Nat}{c1:List V}{K:Delta->Prop}(f:jtg [.sl none a1 n1 c1,.int k b] v)
 (h:∀a add,K { v:=.tup [.sl a a1 n1 c1,.int k b],add:=add }):wpD (Xd ub v) K:=by
 refine jo1 f rfl λws add c=>?_;obtain⟨x,z,rfl,g,e⟩:=map2 c;obtain⟨a,rfl⟩:=QH g;obtain rfl:=jco e;exact h a add
def j2p (st:St) (v w:V):Prop:=∀keep i,∃a,X7 st keep i v=some a/\a.strip1=w/\(a.toks=[]\/a.toks=[i])
def jqw (st:St):List V->List V->Prop
 |[],[]=>True
 |v::vs,w::ws=>j2p st v w/\jqw st vs ws
 |_,_=>False
def jT {st:St}{v:V}(h:v.pureLeaf=true):j2p st v v:=by
 intro keep i;refine⟨v,?_,Xw h,.inl ?_⟩;cases v with
 |agg=>cases h
 |fn=>cases h
 |_=>exact Y6 (st:=st) (keep:=keep) (i:=i) h
 cases v with
 |agg=>cases h
 |_=>exact jom h
def Xx {st:St}{v:V}{nl:Bool}{n:Nat}{cs:List V}(c:v.leaf=true) (h:jci st v nl n cs):j2p st v (.sl none nl n cs):=by
 intro keep i;obtain⟨a,b,e⟩:=h keep i;refine⟨.sl a nl n cs,?_,rfl,?_⟩;rw[<- b];cases v with
 |agg=>cases c
 |fn=>simp only[jr,JU]at b;split at b<;>cases b
 |_=>rfl
 rcases e with rfl|⟨z,rfl⟩;exact .inl rfl;exact .inr rfl
def WD {st:St}{keep:Bool}:∀{vs ls:List V}{i:Nat},jqw st vs ls->∃b,JR st keep i vs=some b/\b.map V.strip1=ls/\(∀p∈b.flatMap V.toks,i<=p/\p<i+16*vs.length)/\yG (b.flatMap V.toks)=true
 |[],[],i,_=>⟨[],rfl,rfl,zS,rfl⟩
 |v::vs,w::ws,i,h=>by obtain⟨a,n,k,e⟩:=h.1 keep i;obtain⟨b,j,l,f,g⟩:=WD (keep:=keep) (i:=i+16) h.2;refine⟨a::b,by simp only[JR,n,am,j,aO],by rw[bi,k,l],λp c=>?_,?_⟩;rw[ba,aP]at c;simp only[bg];rcases c with c|c;rcases e with e|e<;>rw[e]at c<;>simp at c;omega;have:=f p c;omega;rw[ba];rcases e with e|e<;>rw[e];exact g;simp only[List.singleton_append,yG,aj,g,and_true,bS];rw[fe];intro o;obtain⟨p,c,m⟩:=bU.1 o;have:=bk m;have:=f p c;omega
 |[],_::_,_,h=>h.elim
 |_::_,[],_,h=>h.elim
def jo6 (st:St):∀a:List Nat,(a.map ARes.t).mapM (jy st)=some (a.map st.tm)
 |[]=>rfl
 |n::a=>by rw[bi,bJ,jo6 st a];rfl
def jmj {ns:List Nat}{st:St}{vs ls:List V}{P:V->Prop}(n:∀r,jtg ls r->P r) (f:st.df=[]) (h:ns.map st.tm=vs) (u:2<=vs.length) (x:vs.length<=4) (g:jqw st vs ls):Q5 (ns.map .t) P .ret st:=by
 obtain⟨c,k,j,o,s⟩:=WD (keep:=yG (vs.flatMap V.toks)) (i:=0) g;have e:2<=c.length:=by
  have m:=zg List.length j;have:∀{vs ls:List V},jqw st vs ls->vs.length=ls.length:=by
   intro vs;induction vs with
   |nil=>intro ls h;cases ls with|nil=>rfl|cons=>exact h.elim
   |cons v vs q=>intro ls h;cases ls with|nil=>exact h.elim|cons w ws=>rw[bg,bg,q h.2]
  have:=this g;simp only[bp]at m;omega
 refine⟨.tup c,?_,n _ ⟨c,rfl,j,λp l=>by have:=o p l;omega⟩⟩;simp only[jcj,W4 f,W0 f,zd,jo6,h,am,WE,k,s];match c,e with
 |a::b::r,_=>rfl
section
variable {E:Env}{Yf:YF}{st:St}{ub:Nat}{K:St->Nat->Prop}{d:Option Nat}{nm:Bool}
def ji8 {sz a n:Nat}{zero:List V}{x y:A}(b:yc E st.tm x=.int .i64 (n:Int)) (f:yc E st.tm y=.int .i64 (n:Int)) (e:n*a<=140737488355328) (i:n<=140737488355328) (g:zero.length=sz) (c:0<sz)
 (h:Q6 K st d ub { v:=.osl (jF d nm st.fb ub) ub 0 n sz,obs:=[(jF d nm st.fb ub,⟨ub,.cells (jai n zero)⟩)] }):j5 E Yf ⟨d,.mkSl true sz a zero x y,none,nm⟩ st ub K:=by
 rw[jR _ rfl rfl];simp only[yR,b,f];rw[zb (by refine⟨zO,zO,?_,zO,g,c⟩;rw[<- gz];exact ic.2 e),za zS,JZ,jJ];simp only[bh,JY];exact h
end
def Upto (n i:Nat) (J:List Int) (cs:List V):Prop:=cs.length=n/\(∀j,j<i->cs[j]? = (J.flatMap ye)[j]?)/\cs.all V.pureLeaf=true
def Upto.set {n i:Nat}{J:List Int}{cs:List V}(h:Upto n i J cs) (hi:i<n) {x:Int}(m:J[i]? = some x):Upto n (i+1) J (j2 cs i [.int .i64 x]):=by
 obtain⟨g,f,k⟩:=h;have l:j2 cs i [.int .i64 x]=cs.set i (.int .i64 x):=by unfold j2;rw[ec,zb zO,bm];rfl
 rw[l];refine⟨by rw[dv];exact g,λj o=>?_,?_⟩;by_cases a:j=i;subst a;have c:=(ag.1 m);rw[dm zO,JL J c.1,c.2];rw[cU (λe=>a e.symm)];exact f j zO;refine ap.2 λy b=>?_;rcases List.mem_or_eq_of_mem_set b with b|rfl
 exact ap.1 k y b;rfl
def Upto.whole {n:Nat}{J:List Int}{cs:List V}(h:Upto n n J cs) (b:J.length=n):cs=J.flatMap ye:=by apply di;intro j;by_cases a:j<n;exact h.2.1 j a;rw[dr (by rw[h.1];omega),dr (by rw[j3 jA];omega)]
def Upto.zero (n:Nat) (J:List Int):Upto n 0 J (jai n [.int .i64 0]):=by refine⟨by simp[jai],λj b=>by omega,?_⟩;refine ap.2 λy a=>?_;simp only[jai,aI]at a;obtain⟨i,_,rfl⟩:=a;simp[V.pureLeaf,Nat.mod_one]
def jb4 {st:St}{ub:Nat}{K:List FP->St->Prop}{d:Option Nat}{nm:Bool}{r:List AOpr}{f:FuncId}{xs:List A}{vs:List V}{v:V}{δ:Delta}(i:xs.map (yc E st.tm)=vs) (g:E.sh nm f=false) (hp:(vs.all λv=>v.strip.pureTop)=false)
 (a:EvO E f vs st.ob st.tk ((st.fb+d.getD 0+1)*1024) (ub+64*(r.length+1)) v) (e:Xd ub v=some δ)
 (h:jC E r (st.app d δ) (ub+64) (kFp { wt:=δ.wt,all:=true,seen:=λl=>(st.ob l).isSome } K)):jC E (⟨d,.call f xs,none,nm⟩::r) st ub K:=by
 have b:(xs.all λx=>(yc E st.tm x).strip.pureTop)=false:=by rw[<- i,dp]at hp;exact hp
 have c:j8 E nm (yc E st.tm) (.call f xs)=some (f,vs):=by simp only[j8,g,i,b,cu,dF,ak,zc]
 simp only[jC,yH,c];exact .inl ⟨g,v,a,δ,e,h⟩
def j6p {st:St}{ub:Nat}{K:List FP->St->Prop}{d:Option Nat}{nm:Bool}{r:List AOpr}{f:FuncId}{xs:List A}{vs:List V}{l:List Int}(e:xs.map (yc E st.tm)=vs) (c:E.sh nm f=false) (hp:(vs.all λv=>v.strip.pureTop)=false)
 (i:∃v,EvO E f vs st.ob st.tk ((st.fb+d.getD 0+1)*1024) (ub+64*(r.length+1)) v/\jyp l v)
 (h:∀t a add,jC E r (st.app d { v:=.sl t a l.length (l.flatMap ye),add:=add }) (ub+64) (kFp { wt:=add,all:=true,seen:=λl=>(st.ob l).isSome } K)):jC E (⟨d,.call f xs,none,nm⟩::r) st ub K:=by
 obtain⟨v,g,a,j⟩:=i;obtain⟨t,add,b⟩:=jip (ub:=ub) j;exact jb4 e c hp g b (h t a add)
def blC (b:Bool):List V:=[.bool b]
@[simp] theorem blC_len (b:Bool):(blC b).length=1:=rfl
end Go.Pv.T
namespace Go.Pv.T
open Go Go.Pv Go.Sort
@[simp] theorem cellV_lf (v:Val'):(jda v).leaf=true:=by unfold jda;split;rfl;split<;>rfl
def lessV (a b:Val'):Bool:=if a.kind=b.kind then (a.kind==1&&decide (a.n<b.n)) else decide (a.kind<b.kind)
def cmpV (a b:Val'):Int:=if jq6 a&&jq6 b&&lessV a b then -1 else if jq6 b&&jq6 a&&lessV b a then 1 else 0
abbrev VV:Type:={ v:Val' // jq6 v=true }
instance:Inhabited VV:=⟨⟨⟨0,0⟩,rfl⟩⟩
def vvC (v:VV):List V:=J9 v.1
@[simp] theorem j4b (v:VV):(vvC v).length=2:=rfl
@[simp] theorem vvC_leaf (v:VV):∀x∈vvC v,x.leaf=true:=by intro x a;simp only[vvC,J9,bq,cQ,or_false]at a;rcases a with rfl|rfl<;>rfl
@[simp] theorem j87 (v:VV):(vvC v).all V.leaf=true:=rfl
@[simp] theorem j8h (v:VV):(vvC v).map V.strip1=vvC v:=rfl
@[simp] theorem vvC_pure (v:VV):(vvC v).all V.pureLeaf=true:=rfl
def ltVV (a b:VV):Bool:=decide (cmpV a.1 b.1<0)
@[simp] theorem ltVV_fold (a b:VV):decide (cmpV a.1 b.1<0)=ltVV a b:=rfl
@[simp] theorem arrV_len (d:Array VV):(arr vvC d).length=d.size*2:=jyb (sz:=2) j4b d
end Go.Pv.T
namespace Go.Pv.T.Vs
open Go Go.Pv Go.Pv.T Go.Sort
end Go.Pv.T.Vs
namespace Go.Pv.T.Vs
open Go Go.Pv Go.Pv.T Go.Sort
end Go.Pv.T.Vs
namespace Go.Pv.T.Vs
open Go Go.Pv Go.Pv.T Go.Sort
end Go.Pv.T.Vs
namespace Go.Pv.T.Vs
open Go Go.Pv Go.Pv.T Go.Sort
end Go.Pv.T.Vs
namespace Go.Pv.T.Vs
open Go Go.Pv Go.Pv.T Go.Sort
end Go.Pv.T.Vs
namespace Go.Pv.T.Vs
open Go Go.Pv Go.Pv.T Go.Sort
end Go.Pv.T.Vs
namespace Go.Pv.T.Vs
open Go Go.Pv Go.Pv.T Go.Sort
end Go.Pv.T.Vs
namespace Go.Pv.T.Vs
open Go Go.Pv Go.Pv.T Go.Sort
end Go.Pv.T.Vs
namespace Go.Pv.T.Vs
open Go Go.Pv Go.Pv.T Go.Sort
end Go.Pv.T.Vs
namespace Go.Pv.T.Vs
open Go Go.Pv Go.Pv.T Go.Sort
end Go.Pv.T.Vs
namespace Go.Pv.T.Vs
open Go Go.Pv Go.Pv.T Go.Sort
end Go.Pv.T.Vs
namespace Go.Pv.T
open Go Go.Pv
@[simp] theorem Qe (v:Val'):(J9 v).length=2:=rfl
def j2w (a b:Val'):(a==b)=(a.kind==b.kind&&a.n==b.n):=by obtain⟨a1,a2⟩:=a;obtain⟨b1,b2⟩:=b;rw[bu];simp
def j0s (ob:ZO) (l:List Val') {i:Nat}(h:i<l.length):WG ob (some 2) (.eptr (l.flatMap J9) (i*2))=some (.agg (J9 l[i])):=jh Qe ob l h
def idxJ:List (Bool×List Int)->List Int->List Int
 |c::cs,m::ms=>yF c.2 m 0::idxJ cs ms
 |_,_=>[]
def jje:∀(C:List (Bool×List Int)) (M:List Int),C.length=M.length->(idxJ C M).length=C.length
 |[],[],_=>rfl
 |c::cs,m::ms,h=>by simp only[idxJ,bg]at h ⊢;rw[jje cs ms zO]
 |[],_::_,h=>by simp at h
 |_::_,[],h=>by simp at h
def jnt:∀(C:List (Bool×List Int)) (M:List Int) (i:Nat) (h:i<C.length) (a:i<M.length),(idxJ C M)[i]? = some (yF (C[i]).2 M[i] 0)
 |c::cs,m::ms,0,_,_=>rfl
 |c::cs,m::ms,i+1,h,a=>by simp only[idxJ,bK,ia];exact jnt cs ms i (zU h) (zU a)
 |[],_,_,h,_=>by simp at h
 |_::_,[],_,_,h=>by simp at h
def jp9 (k:Int):∀(l:List Int) (n:Nat),yF l k n<(n+l.length:Nat)
 |[],n=>by simp only[yF,cn];omega
 |x::r,n=>by rw[yF];split;simp only[bg];omega;have:=jp9 k r (n+1);simp only[bg];omega
def XB (g:Hist') (M:List Int):Option (List Int):=if jW g&&((yu g).length==M.length&&(idxJ (yu g) M).all λx=>decide (0<=x)) then some (idxJ (yu g) M) else none
def jjr (g:Hist') (r:Option (List Int)) (v:V):Prop:=match r with
 |some J=>jtg [.sl none (yu g).isEmpty (yu g).length ((yu g).flatMap jac),.sl none false J.length (J.flatMap ye),.bool true] v
 |none=>jtg [.sl none true 0 [],.sl none true 0 [],.bool false] v
def jqp {g:Hist'}(a:Small g):(yu g).length<=1000000:=by unfold yu;rw[bp];exact jkg a
def jn8 {g:Hist'}(_:Small g):∀x∈yu g,x.1=x.2.isEmpty/\x.2.length<=41:=by
 intro x a;unfold yu jax at a;split at a;rename_i b;obtain⟨p,_,rfl⟩:=aI.1 a;have c:Yp g=true:=by unfold jW at b;simp only[aj]at b;exact b.1
 exact⟨rfl,jvz c _ _⟩;simp at a
def ev98 {g:Hist'}(hs:Small g) {b:Bool}(M:List Int) (hM:M.length<=1000000):∃v,Ev E 98 [.agg (ya g),yj b ye M] v/\jjr g (XB g M) v:=by
 obtain⟨vc,b0,K⟩:=ev73 hs;have b8:=j8x hs;have b7:=jqp hs;have I:=jn8 hs;have w:∀{p:St}{P:V->Prop},p.df=[]->p.tm 4=.sl none true 0 []->p.tm 5=.sl none true 0 []->p.tm 6=.bool false->XB g M=none->Q5 [.t 4,.t 5,.t 6] (jjr g (XB g M)) .ret p:=by intro p _ hd h4 h5 h6 hp;rw[hp];exact jmj (ns:=[4,5,6]) (vs:=[.sl none true 0 [],.sl none true 0 [],.bool false]) (λr h=>h) hd (by simp[h4,h5,h6]) zS zS ⟨jT rfl,jT rfl,jT rfl,trivial⟩
 refine XI rfl zQ ?_;obtain⟨P,hP⟩:∃P,jjr g (XB g M)=P:=⟨_,rfl⟩;have D:=λp h1 h2 h3 h4 h5=>hP▸@w p (λ_=>True) h1 h2 h3 h4 h5;rw[hP];obtain⟨C,hC⟩:∃C,yu g=C:=⟨_,rfl⟩;rw[hC]at K b7 I;conv in(occs:=*)F98=>all_goals cbv
 simp[ya,j0];refine jQ b0 zI rfl zI ?_;refine YE K λtc c1=>?_;simp[j0];refine jQ b8 zI rfl zI ?_;cases hw:jW g;simp;exact D _ zS zS zS zS (by simp[XB,hw]);by_cases B:¬C.length=M.length;have q:((C.length:Int) != M.length)=true:=by simp;omega
 simp[q];exact D _ zS zS zS zS (by simp[XB,hC,B]);have B:C.length=M.length:=eX B;have q:((C.length:Int) != M.length)=false:=by simp;omega
 simp[q];refine ji8 (n:=M.length) zS zS zO zO rfl zQ ?_;simp;obtain⟨J,hJ⟩:∃J,idxJ C M=J:=⟨_,rfl⟩;have S:J.length=M.length:=by rw[<- hJ,jje C M B];exact B
 have o:=jnt C M;rw[hJ]at o;have e:XB g M=if J.all (λx=>decide (0<=x)) then some J else none:=by unfold XB;rw[hC,hJ,hw,B];simp
 refine j7 [(4,6),(9,10),(28,47)] C.length (λi s=>s.tm 28=.int .i64 i/\(∃cs,s.ob 2433=some ⟨1216,.cells cs⟩/\Upto M.length i J cs)/\(J.take i).all (λx=>decide (0<=x))=true) rfl rfl ⟨zS,⟨_,zS,Upto.zero _ _⟩,zS⟩ ?_;rintro i s hi ⟨z,⟨cs,T,F⟩,k⟩ f;have f1:s.tm 1=yj b ye M:=by rw[f.t 1 zS];simp
 have f7:s.tm 7=.sl tc C.isEmpty C.length (C.flatMap jac):=by rw[f.t 7 zS];simp
 have f8:s.tm 8=.osl 2433 1216 0 M.length 1:=by rw[f.t 8 zS];simp
 have b5:s.tm 26=.sl tc C.isEmpty C.length (C.flatMap jac):=by rw[f.t 26 zS];simp
 have N:s.tm 27=.int .i64 C.length:=by rw[f.t 27 zS];simp
 have fd:s.df=[]:=by rw[f.d];simp
 have fr:s.ro=0:=by rw[f.r];simp
 clear f;by_cases j:i<C.length;have a0:=jc j zO;have c:i<M.length:=zO;have h1:=jpx C j;have h2:=JL M c;have H:J0 1 (.sl tc C.isEmpty C.length (C.flatMap jac)) (.int .i64 (i:Int))=some (.eptr (C.flatMap jac) (i*1)):=by simp only[Jo,j3 Wn];rw[zb zP];rfl
 rw[bE]at H;have b6:=j8u (l:=2433) (u:=1216) (n:=M.length) (kk:=.i64) (X:=(i:Int)) rfl c;have Z:=ev148 (a:=(C[i]).1) (C[i]).2 (by have:=(I _ (av j)).2;omega) M[i];have m:=o i j c;generalize yF (C[i]).2 M[i] 0=x at *;have O:=F.set c m;have Q:(j2 cs i [.int .i64 x])[i]? = some (.int .i64 x):=by rw[O.2.1 i zO];have L:=ag.1 m;rw[JL J L.1,L.2]
 have c0:=F.1;have b9:i+1<=M.length:=c;simp[z,f1,f8,b5,N,j,c,H,j6 jA,h1,h2];refine jQ Z (by simp[yj]) rfl (by simp[yj]) ?_;simp[b6,T,j0,fr,c0,b9,f8,Q];by_cases hx:x<0;simp[hx];refine D _ (by simp[fd]) zS zS zS ?_;rw[e];have hm:x∈J:=aH m;rw[za];rw[ap];intro h;have:=h x hm;simp at this;omega;simp[hx,z,a0];refine⟨j,O,λy G=>?_⟩;rw[ga,m,aP]at G;rcases G with G|G;simpa using ap.1 k y G;simp at G;omega;have:i=C.length:=zO;subst this;simp[z,N];rw[aM zO]at k;rw[B]at F;have U:=F.whole S;rw[<- hP,e,zb k];subst U;refine jmj (ns:=[4,5,6]) (vs:=[.sl tc C.isEmpty C.length (C.flatMap jac),.osl 2433 1216 0 M.length 1,.bool true]) (λr h=>h) (by simp[fd]) (by simp[f7,f8]) zS zS ⟨?_,?_,jT rfl,trivial⟩;rw[hC];exact Xx rfl (XJ _ _ _ _ _);rw[S];exact Xx rfl (jeq (by simp[T]) F.1 (by simp[fr]) F.2.2)
def ev114 {g:Hist'}(i:Small g) {b:Bool}(M:List Int) (h:M.length<=1000000):Ev E 114 [.agg (ya g),yj b ye M] (.bool (XB g M).isSome):=by
 obtain⟨v,d,a⟩:=ev98 i (b:=b) M h;refine jV rfl ?_;conv in(occs:=*)F114=>all_goals cbv
 simp[ya,j0];refine jQ d zH rfl zH ?_;cases c:XB g M with
 |none=>rw[c]at a;refine jo2 a λf e add=>?_;simp;exact j4 zS zS rfl
 |some J=>rw[c]at a;refine jo2 a λf e add=>?_;simp;exact j4 zS zS rfl
def jl5:∀(C D:List (Bool×List Int)) (M:List Int),C.map (·.2)=D.map (·.2)->jgm D M=((idxJ C M).all (λx=>decide (0<=x))&&decide (C.length<=M.length))
 |[],[],M,_=>by cases M<;>simp[jgm,idxJ]
 |c::C,d::D,[],_=>by simp[jgm]
 |c::C,d::D,m::M,h=>by
  simp only[bi,fJ]at h;have a:=jl5 C D M h.2;have e:=jjf m c.2 0;have b:decide (0<=yF c.2 m 0)=c.2.contains m:=by
   have:decide (0<=yF c.2 m 0) = !decide (yF c.2 m 0<0):=by by_cases h:yF c.2 m 0<0;simp[h];simp[h];omega
   rw[this,e,Bool.not_not]
  simp only[jgm,idxJ,bW,a,b,<- h.1,bg,Nat.add_le_add_iff_right];rw[eP]
 |[],_::_,_,h=>by simp at h
 |_::_,[],_,h=>by simp at h
def jn7 {g:Hist'}(a:jW g=true):(yu g).map (·.2)=(choR g).map (·.2):=by unfold yu choR jax;rw[zb a];simp[dl,Function.comp_def]
def j7u {g:Hist'}(a:jW g=true):(yu g).length=(choR g).length:=by have:=zg List.length (jn7 a);simpa using this
def j1o (g:Hist') (M:List Int):(XB g M).isSome=WR g M:=by
 unfold XB WR;cases d:jW g;simp;rw[jl5 _ _ M (jn7 d),j7u d];by_cases b:M.length=(choR g).length;have a:((choR g).length==M.length)=true:=by simp[b]
 have c:(M.length==(choR g).length)=true:=by simp[b]
 rw[a,c];simp only[cp,b,dy,decide_true,eu];split;rename_i h;simp[h];rename_i h;simp only[cH];simpa using h;have a:((choR g).length==M.length)=false:=by simp;omega
 have c:(M.length==(choR g).length)=false:=by simp;omega
 rw[a,c];simp
@[simp] theorem eqVV_bool (ob:ZO) (neg a b:Bool):jyn ob neg .bool (.bool a) (.bool b)=some (.bool (xor neg (a==b))):=rfl
def j48 {ub:Nat}{r:V}{g:Hist'}{K:Delta->Prop}(h:jtj r g)
 (e:∀a b c add,K { v:=.agg [.sl a g.sn g.ss.length (g.ss.flatMap Jj),.sl b g.kn g.ks.length (g.ks.flatMap Jj),.sl c g.tn g.ts.length (g.ts.flatMap jt)],add:=add }):wpD (Xd ub r) K:=by
 obtain⟨a,b,c,add,d⟩:=jrn (ub:=ub) h;rw[d,jJ];exact e a b c add
def jbg {c:Type}{f:c->List V}{k:Nat}(b:∀a,(f a).length=k):∀(l:List c) (n:Nat),(l.flatMap f).take (n*k)=(l.take n).flatMap f
 |[],n=>by simp
 |a::l,0=>by simp
 |a::l,n+1=>by rw[ba,eG,ba,cX,fG,<- b a,eK,b a,jbg b l n]
section
variable {E:Env}{st:St}{ub:Nat}{K:List FP->St->Prop}{d:Option Nat}{nm:Bool}{r:List AOpr}
def nbeq {a b:Nat}(h:a≠b):a.beq b=false:=by cases e:a.beq b;rfl;exact zf (bk e) h
@[simp] theorem j4d (v:Val'):(J9 v).map V.strip1=J9 v:=rfl
end
def j4t {c:Type}{f:c->List V}{sz:Nat}(b:∀a,(f a).length=sz) (t:Option (Nat×Nat)) (nl:Bool) (l:List c) {k:Nat}(i:k<=l.length):YY sz none (some (.int .i64 (k:Int))) (.sl t nl l.length (l.flatMap f))=some (.sl none nl (l.take k).length ((l.take k).flatMap f)):=by
 have h:(l.take k).length=k:=by rw[ai];omega
 have e:=jbg b l k;have g:(k:Int)<=l.length:=zO;simp[YY,JT,j3 b,h,e,g]
def jgw {L u n i:Nat}(h:i<=n):YY 2 (some (.int .i64 (i:Int))) none (.osl L u 0 n 2)=some (.osl L u (i*2) (n-i) 2):=by have a:(i:Int)<=n:=zO;simp[YY,JT];omega
def jzl {L u n i:Nat}(h:i<=n):YY 2 none (some (.int .i64 (i:Int))) (.osl L u 0 n 2)=some (.osl L u 0 i 2):=by have a:(i:Int)<=n:=zO;simp[YY,JT,a]
def idx2 {l u off n x:Nat}{kk:IntKind}{X:Int}(a:X=(x:Nat)) (b:x<n):J0 2 (.osl l u off n 2) (.int kk X)=some (.ptr l u (off+x*2)):=by subst a;have:(x:Int)<n:=zO;simp[J0,this]
def ld2 {ob:ZO}{l u:Nat}{M:List Val'}{x:Nat}(a:ob l=some ⟨u,.cells (M.flatMap J9)⟩) (b:x<M.length):WG ob (some 2) (.ptr l u (x*2))=some (.agg (J9 M[x])):=by have h:=j0s ob M b;rw[<- h];simp only[WG,j0,a,zd,am]
def st2 {M:List Val'}{x:Nat}(a:x<M.length) (v:Val'):j2 (M.flatMap J9) (x*2) (J9 v)=(M.set x v).flatMap J9:=Qp Qe v M x a
def JM (T:List Val'):Nat->List Val'
 |0=>[]
 |j+1=>JM T j++(if 0<j/\T[j-1]? = T[j]? then [] else T[j]?.toList)
def jh3 (T:List Val'):∀j,j<=T.length->(JM T j).length<=j
 |0,_=>by simp[JM]
 |j+1,h=>by have:=jh3 T j zO;simp only[JM,au,aa (show j<T.length by omega)];split<;>simp<;>omega
def jlt {T:List Val'}{j:Nat}(a:0<j) (h:j<T.length) (b:T[j]=T[j-1]):JM T (j+1)=JM T j:=by simp only[JM];rw[zb ⟨a,by rw[aa zO,aa h,b]⟩,aU]
def jfw {T:List Val'}{j:Nat}(h:j<T.length) (c:0<j->T[j]≠T[j-1]):JM T (j+1)=JM T j++[T[j]]:=by simp only[JM];rw[za,aa h];rfl;rintro⟨b,a⟩;rw[aa zO,aa h]at a;exact c b (bV a).symm
def CompP (l u n:Nat) (C:List Val') (ob:ZO) (tk:Nat->Bool) (ub:Nat) (r:V×(ZO)×(Nat->Bool)×Nat):Prop :=
 r.1=.osl l u 0 C.length 2/\(∃cs,r.2.1 l=some ⟨u,.cells cs⟩/\cs.length=n*2/\C.length<=n/\cs.take (C.length*2)=C.flatMap J9)/\(∀key,key≠l->r.2.1 key=ob key)/\r.2.2.1=tk/\ub<=r.2.2.2
end Go.Pv.T
namespace Go.Pv.T
open Go Go.Pv
end Go.Pv.T
namespace Go.Pv.T
open Go Go.Pv
end Go.Pv.T
namespace Go.Pv.T
open Go Go.Pv
end Go.Pv.T
namespace Go.Pv.T
open Go Go.Pv
@[simp] theorem j8i (v:Val'):(J9 v).all V.leaf=true:=rfl
def jgx {st:St}{L u n sz:Nat}{cs c:List V}(f:st.ob L=some ⟨u,.cells cs⟩) (e:st.ro<=u) (p:n*sz<=cs.length) (g:cs.take (n*sz)=c) (hp:c.all V.pureLeaf=true):jci st (.osl L u 0 n sz) false n c:=by
 have b:j0 st.ob L u=some cs:=by simp[j0,f]
 have m:∀(k:Nat) (l:List V),l.all V.pureLeaf=true->l.mapM (JU st (k+1))=some l:=by
  intro k l;induction l with
  |nil=>intro _;rfl
  |cons a l o=>
   intro h;simp only[bW,aj]at h;rw[bJ,o h.2];have:JU st (k+1) a=some a:=by
    have:=Y6 (st:=st) (keep:=false) (i:=0) h.1;cases a with
    |sl t q n cs=>cases t with
     |none=>rfl
     |some t=>cases h.1
    |osl=>cases h.1
    |_=>simp only[JU,h.1,zd]
   rw[this];rfl
 have j:JU st 6 (.osl L u 0 n sz)=some (.sl none false n c):=by show((j0 st.ob L u).bind λcs=>if Nat.ble st.ro u=true/\0+n*sz<=cs.length then (((cs.drop 0).take (n*sz)).mapM (JU st 5)).map λd=>V.sl none false n d else none)=_;rw[b,am,zb ⟨bT▸e,zO⟩,dq,g,m 4 c hp];rfl
 intro keep i;refine⟨_,by simp only[jr,j,am,b,aO];rfl,?_⟩;split;exact .inr ⟨_,rfl⟩;exact .inl rfl
end Go.Pv.T
namespace Go.Pv.T
open Go Go.Pv
end Go.Pv.T
namespace Go.Pv.T
open Go Go.Pv
end Go.Pv.T
namespace Go.Pv.T
open Go Go.Pv
end Go.Pv.T
namespace Go.Pv.T
open Go Go.Pv
end Go.Pv.T
namespace Go.Pv.T
open Go Go.Pv
end Go.Pv.T
namespace Go.Pv.T
open Go Go.Pv
section
end
def jv4 {c:Type}(k0:Int) (b:c) (m:List (Int×c)) (k:Int) (a:c):W6 ((k0,b)::m) k a=if k=k0 then (k,a)::m else (k0,b)::W6 m k a:=by unfold W6;rw[jm];by_cases h:k=k0;simp[h];rw[za h,za h];cases jm m k<;>simp
def Ye {f:Type}(k:Int) (a:f) (c:Int):∀m:List (Int×f),(jm (W6 m k a) c).map (·.2)=if c=k then some a else (jm m c).map (·.2)
 |[]=>by by_cases h:c=k<;>simp[W6,jm,h]
 |(k0,b)::m=>by rw[jv4];have g:=Ye k a c m;by_cases h:k=k0;subst h;rw[zb rfl,jm,jm];by_cases d:c=k<;>simp[d];rw[za h,jm,jm];by_cases d:c=k0;subst d;simp[show ¬c=k from λe=>h e.symm];rw[za d,za d];simp only[gD];have e:((λx:Nat×f=>x.2) ∘ λp:Nat×f=>(p.1+1,p.2))=λx=>x.2:=rfl;rw[e];exact g
def jhm {a:Type}{k:a->a}{y:a}:∀{l:List a}{i:Nat},y∈l.modify i k->y∈l\/∃x,l[i]? = some x/\y=k x
 |[],i,h=>by simp at h
 |x::l,0,h=>by rw[fy]at h;simp only[zd,bq]at h;rcases h with rfl|h;exact .inr ⟨x,rfl,rfl⟩;exact .inl (aQ _ h)
 |x::l,i+1,h=>by rw[fy]at h;simp only[Nat.add_one_ne_zero,zc,eM,bq]at h;rcases h with rfl|h;exact .inl (aJ ..);rcases jhm h with h|⟨z,c,b⟩;exact .inl (aQ _ h);exact .inr ⟨z,zU c,b⟩
section
variable {g:Hist'}{cs:List Bool}{lo:List Val'}
def readIn_mem {i:Nat}{p:Int×Int}:∀{n:Nat},p∈ju g i n ↔ ∃k:Nat,k<n/\p=((i:Int),(k:Int))/\jbt g i k=true
 |0=>by simp[ju]
 |n+1=>by simp only[ju,aP,readIn_mem (n:=n)];constructor;rintro(⟨k,c,b⟩|h);exact⟨k,zO,b⟩;split at h;rename_i a;exact⟨n,zO,zU h,a⟩;simp at h;rintro⟨k,c,b,a⟩;rcases bz.1 c with h|h;exact .inl ⟨k,h,b,a⟩;subst h;right;simp[a,b]
end
section
end
abbrev Cs':=List (Bool×List Int)
def hd1 (c:Bool×List Int):Int:=c.2.headD 0
def XM:Cs'->List Int->Option (List Int)
 |c::cs,m::ms=>match XM cs ms with
  |some r=>some (m::r)
  |none=>if yF c.2 m 0+1<c.2.length then some (c.2.getD (yF c.2 m 0+1).toNat 0::cs.map hd1) else none
 |_,_=>none
def jhi:∀(C:Cs') (M:List Int) (i:Nat) (r:List Int),i<=C.length->C.length=M.length->XM (C.drop i) (M.drop i)=some r->XM C M=some (M.take i++r)
 |C,M,0,r,_,_,h=>by simpa using h
 |c::cs,m::ms,i+1,r,h1,h2,h=>by have:=jhi cs ms i r (zU h1) (zU h2) (zU h);simp[XM,this]
 |[],_,_+1,_,h,_,_=>by simp at h
 |_::_,[],_+1,_,_,h,_=>by simp at h
def XC (C:Cs'):Bool:=C.all λc=>!c.2.isEmpty
def Wx (g:Hist'):Int×List Int:=if jW g then (if XC (yu g) then (0,(yu g).map hd1) else (3,[])) else (4,[])
def j80 (n:Int):Int:=if 1000000<n then 1000000 else n
def Qc:Cs'->Int->Int
 |[],n=>n
 |c::cs,n=>Qc cs (j80 (n*c.2.length))
def yE:Cs'->List (List Int)
 |[]=>[[]]
 |c::cs=>c.2.flatMap λx=>(yE cs).map (x::·)
def steps (f:List Int->Option (List Int)):List (List Int)->Prop
 |[]=>True
 |[x]=>f x=none
 |x::y::r=>f x=some y/\steps f (y::r)
def jot {f:List Int->Option (List Int)}:∀{L:List (List Int)}{i:Nat},steps f L->(h:i<L.length)->f L[i]=L[i+1]?
 |[x],0,h,_=>h
 |x::y::r,0,h,_=>h.1
 |x::y::r,i+1,h,hi=>by have:=jot (L:=y::r) (i:=i) h.2 (zU hi);simpa using this
 |[x],i+1,_,hi=>by simp at hi
 |[],_,_,hi=>by simp at hi
def jqa (k:Int) (b:List Int):∀(a:List Int) (n:Nat),k ∉ a->yF (a++k::b) k n=(n+a.length:Nat)
 |[],n,_=>by simp[yF]
 |x::a,n,h=>by have c:¬k=x:=λe=>h (by simp[e]);have:=jqa k b a (n+1) (λe=>h (aQ _ e));simp only[db,yF,zh,c,zc,this,bg];congr 1;omega
def jct:∀{C:Cs'},XC C=true->∃r,yE C=C.map hd1::r
 |[],_=>⟨[],rfl⟩
 |c::cs,h=>by
  simp only[XC,bW,aj]at h;obtain⟨r,b⟩:=jct (C:=cs) h.2;cases a:c.2 with
  |nil=>rw[a]at h;simp at h
  |cons x l=>simp only[yE,a,b,ba,bi,db,hd1,List.headD_cons];exact⟨_,rfl⟩
def jgs:∀{C:Cs'},XC C=true->(∀c∈C,c.2.Nodup)->steps (XM C) (yE C)
 |[],_,_=>rfl
 |c::cs,h,hd=>by
  have n:=h
  simp only[XC,bW,aj]at n
  have v:=jgs (C:=cs) n.2 (λx B=>hd x (aQ _ B))
  obtain⟨L,u⟩:∃L,yE cs=L:=⟨_,rfl⟩
  obtain⟨G,k⟩:=jct (C:=cs) n.2
  rw[u]at v k
  -- what is behind one member of the first list
  have j:∀(S:List (List Int)),S≠[]->steps (XM cs) S->∀(x:Int) (b a:List Int) (R:List (List Int)),c.2=b++x::a->steps (XM (c::cs)) R->(a=[]->R=[])->(∀y p,a=y::p->∃w,R=(y::cs.map hd1)::w) ->
   steps (XM (c::cs)) (S.map (x::·)++R):=by
   intro S
   induction S with
   |nil=>intro h;exact zf rfl h
   |cons s S i=>
    intro _ q x b a R f z t r
    have o:x ∉ b:=by
     have:=hd c (aJ ..)
     rw[f,dh]at this
     exact λD=>this.2.2 x D x (aJ ..) rfl
    have l:yF c.2 x 0=(b.length:Nat):=by rw[f,jqa x a b 0 o];simp
    cases S with
    |nil=>
     have m:XM cs s=none:=q
     have d:c.2.length=b.length+1+a.length:=by rw[f];simp;omega
     cases a with
     |nil=>
      rw[t rfl]
      show XM (c::cs) (x::s)=none
      simp only[XM,m,l]
      rw[za (by simp at d;omega)]
     |cons y p=>
      obtain⟨w,rfl⟩:=r y p rfl
      refine⟨?_,z⟩
      simp only[XM,m,l]
      rw[zb (by simp at d;omega)]
      have:(((b.length:Nat):Int)+1).toNat=b.length+1:=zO
      rw[this,f]
      simp
    |cons F S=>
     refine⟨?_,i zS q.2 x b a R f z t r⟩
     simp only[XM,q.1]
  have g:∀(a b:List Int),c.2=b++a->steps (XM (c::cs)) (a.flatMap λx=>L.map (x::·)):=by
   intro a
   induction a with
   |nil=>intro b _;exact trivial
   |cons x a i=>
    intro b f
    rw[ba]
    refine j L (by rw[k];simp) v x b a _ f (i (b++[x]) (by rw[f];simp)) (λe=>by rw[e];rfl) (λy p e=>?_)
    rw[e,ba,k]
    exact⟨_,rfl⟩
  have:=g c.2 [] rfl
  rw[yE,u]
  exact this
def jpe:∀{C:Cs'}{M:List Int},M∈yE C->C.length=M.length/\(idxJ C M).all (λx=>decide (0<=x))=true
 |[],M,h=>by simp only[yE,ae]at h;subst h;exact⟨rfl,rfl⟩
 |c::cs,M,h=>by
  simp only[yE,ct,aI]at h;obtain⟨x,f,m,a,rfl⟩:=h;obtain⟨d,b⟩:=jpe a;refine⟨by simp[d],?_⟩;simp only[idxJ,bW,b,eu,ze];have:=jjf x c.2 0;have e:c.2.contains x=true:=by simpa using f
  rw[e]at this;simpa using this
def jvy (g:Hist') (a b:Int):(ofH g a b).Nodup:=by unfold ofH;split;split;simp;rename_i o _ _;have h:=jgn g o.key;unfold ofL JA;have d:((yM g o.key).filter λi=>!(i==a)&&Q9 o (XZ g o.key i)).Pairwise (· < ·):=h.1.filter _;have c:((yM g o.key).filter λi=>!(i==a)&&Q9 o (XZ g o.key i)).Nodup:=d.imp (λh e=>by omega);split;simpa using c;refine dh.2 ⟨zS,c,?_⟩;intro x j y f e;have:=h.2 y (bA.1 f).1;simp at j;omega;simp
def min6 (n:Int):ja2 false [.int .i64 n,.int .i64 1000000]=some (.int .i64 (j80 n)):=by by_cases h:(1000000:Int)<n<;>simp[ja2,Wl,jfd,j80,h]
def j71 {n:Int}(h:0<=n):0<=j80 n/\j80 n<=1000000:=by unfold j80;split<;>omega
def mul_lt {n:Int}{k:Nat}(b:0<=n) (a:n<=1000000) (c:k<=41):0<=n*(k:Int)/\n*(k:Int)<=41000000:=by have e:=Int.mul_nonneg b (show(0:Int)<=k by omega);have d:n*(k:Int)<=1000000*41:=Int.mul_le_mul a zO zO zO;omega
def j7v {g:Hist'}(a:jW g=true):∀x∈choR g,x.2.length<=41:=by
 intro x b;unfold choR at b;obtain⟨p,_,rfl⟩:=aI.1 b;have c:Yp g=true:=by unfold jW at a;simp only[aj]at a;exact a.1
 exact jvz c _ _
def j2h {g:Hist'}(a:Small g):(choR g).length<=1000000:=by unfold choR;rw[bp];exact QM a
def jh2:∀{C D:Cs'}(n:Int),C.map (·.2)=D.map (·.2)->Qc C n=Qc D n
 |[],[],_,_=>rfl
 |c::C,d::D,n,h=>by simp only[bi,fJ]at h;simp only[Qc,h.1];exact jh2 _ h.2
 |[],_::_,_,h=>by simp at h
 |_::_,[],_,h=>by simp at h
def jb9 (C:Cs') (i:Nat):List Int:=(C.take i).map hd1
def jqx (r:Int×List Int) (v:V):Prop:=jtg [.sl none r.2.isEmpty r.2.length (r.2.flatMap ye),.int .i64 r.1] v
end Go.Pv.T
namespace Go.Pv.T
open Go Go.Pv
end Go.Pv.T
