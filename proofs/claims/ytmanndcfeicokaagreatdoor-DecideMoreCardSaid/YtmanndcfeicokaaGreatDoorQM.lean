/- Part. -/
import Derived.Test.YtmanndcfeicokaaGreatDoorQL
set_option maxRecDepth 100000
set_option maxHeartbeats 8000000
set_option linter.all false
namespace Go.Pv.T
open Go Go.Pv
section
variable {ob:ZO}{ub kS uS w n0 t:Nat}{N:FN}{g:Hist'}{rv al ov:V}{most:Int}{sp:Bool}{rs:List (Int × Int × Int)}{C:List Nat}{fA fW:Nat->Nat}
def evo258 (x:Fd N rv rs C fA fW n0 ob) (L:ob N.kF=some ⟨N.uF,.cells (fdC g N rv al ov most sp)⟩) (oF:Off ub N.kF) (e:ob kS=some ⟨uS,.cells (yt w)⟩) (c:Off ub kS) (B:n0<=ub) (k:w<2^64) (H:t∈C) (J:fW t<2^64)
 {i D ks vs j z:Nat}(u:ob i=some ⟨D,.cells [.int .i64 (t:Int)]⟩) (bs:ob ks=some ⟨vs,.cells [.ptr kS uS 0]⟩) (P:ob j=some ⟨z,.cells [.ptr N.kF N.uF 0]⟩) (ot:Off ub i) (os:Off ub ks) (of:Off ub j) {r:Int×Int×Int}(S:RdOk r) (tk:Nat->Bool) (base:Nat) :
 EvO E 258 [.agg (rdC r),.ptr i D 0,.ptr ks vs 0,.ptr j z 0] ob tk base ub (.bool (barB w t (fW t) r)):=by
 refine jo rfl ?_;have p:=ot.ne;have h:=os.ne;have g3:=of.ne;have M:=oF.ne;have d:=c.ne;obtain⟨⟨G,r2⟩,y,r4,r5⟩:=S;obtain⟨a,Z⟩:∃a:Nat,r.1=a:=⟨r.1.toNat,zO⟩;obtain⟨b,I⟩:∃b:Nat,r.2.2=b:=⟨r.2.2.toNat,zO⟩;unfold barB;have O:∀m,ub<=m->(upd ob (2*m+1) (some ⟨m,.cells (rdC r)⟩)) kS=some ⟨uS,.cells (yt w)⟩:=λm X=>by rw[JG _ _ (d m X)];exact e
 by_cases f:r.1=t
 ·conv in(occs:=*)S258=>all_goals cbv
  simp(disch:=try exact zD)[S258,j0,rdC,V.cells,u,p,bs,h,f];refine jP (vs:=[.ptr kS uS 0,.int .i64 r.2.1]) zS rfl rfl (j3m (w:=w) (by simp(disch:=try exact zD)[d,e]) (c.up zO) k y _ _) ?_;simp;exact j4 zS zS rfl
 ·have s:(r.1==(t:Int))=false:=by simpa using f
  conv in(occs:=*)S258=>all_goals cbv
  simp(disch:=try exact zD)[S258,j0,rdC,V.cells,u,p,bs,h,s];have q1:0<=r.1:=G;refine jb4 (vs:=[.ptr kS uS 0,.int .i64 r.1]) zS rfl rfl (by rw[Z];exact jfv (w:=w) (n:=a) (by simp(disch:=try exact zD)[d,e]) (c.up (by first|omega|(simp;omega))) zO k _ _) (JI rfl) ?_;have ea:r.1.toNat=a:=zO;have K:r.2.2.toNat=b:=zO;rw[ea,K,za f];obtain⟨l,v,q,Q,T⟩:=x.w.at H;have F:=x.w.1.o.up B;have gl:=(T.o.up B);cases a0:w.testBit a;simp(disch:=try exact zD)[j0,rdC,bs,h];refine jb4 (vs:=[.ptr kS uS 0,.int .i64 r.2.1]) zS rfl rfl (j3m (w:=w) (by simp(disch:=try exact zD)[d,e]) (c.up (by first|omega|(simp;omega))) k y _ _) (JI rfl) ?_;cases U:jcp w r.2.1;simp(disch:=try exact zD);exact j4 zS zS rfl;simp(disch:=try exact zD)[j0,rdC,P,g3,L,M,fdC,u,p];rw[q _ (by simp(disch:=try exact zD)[F.ne])];simp(disch:=try exact zD)[j0,rdC];refine jP (vs:=[.ptr l v 0,.int .i64 r.2.2]) zS rfl rfl (by rw[I];exact jfv (w:=fW t) (n:=b) (by simp(disch:=try exact zD)[gl.ne,Q]) (gl.up (by first|omega|(simp;omega))) zO J _ _) ?_;simp;exact j4 zS zS rfl;simp(disch:=try exact zD);exact j4 zS zS rfl
def evo212 (d:Fd N rv rs C fA fW n0 ob) (i:ob N.kF=some ⟨N.uF,.cells (fdC g N rv al ov most sp)⟩) (I:Off ub N.kF) (H:ob kS=some ⟨uS,.cells (yt w)⟩) (n:Off ub kS) (e:n0<=ub) (B:w<2^64) (z:t∈C) (K:fA t<512) (J:fW t<2^64)
 (f:∀r∈rs,RdOk r) (T:rs.length<=1000000) (tk:Nat->Bool) (base:Nat):EvO E 212 [.ptr N.kF N.uF 0,.ptr kS uS 0,.int .i64 (t:Int)] ob tk base ub (.bool (j0l rs fA fW w t)):=by
 refine jo rfl ?_;have m:=I.ne;have G:=n.ne;have M:=(d.a.1.o.up e);obtain⟨l,v,s,q,O⟩:=d.a.at z;have gl:=O.o.up e;conv in(occs:=*)S212=>all_goals cbv
 simp(disch:=try exact zD)[S212,j0,V.cells,yi,i,m,fdC,jzz,aG];rw[s _ (by simp(disch:=try exact zD)[M.ne])];simp(disch:=try exact zD)[j0];refine j6p (vs:=[.ptr l v 0]) (l:=yp (ym (fA t))) zS rfl rfl ⟨_,jh0 (w:=fA t) (by simp(disch:=try exact zD)[gl.ne,q]) (gl.up (by first|omega|(simp;omega))) K _ _,numR_intsV _⟩ λP Q add=>?_;simp(disch:=try exact zD);have c:(yp (ym (fA t))).length<=1000000000:=by have:=Qv (fA t);simp only[yp,bp];omega
 refine jP (vs:=[.sl P Q (yp (ym (fA t))).length ((yp (ym (fA t))).flatMap ye),.fn (.func 256) [] [.ptr (2*(ub+64)+1) (ub+64) 0]]) zS rfl (by rw[bW,dt];exact .inr rfl) (evo96 (p:=λx=>!w.testBit x.toNat) rfl c (λx D tk base y h=>?_) _ _) ?_;unfold yp at D;obtain⟨a,S,rfl⟩:=aI.1 D;have:=(bitsUp_mem.1 S).1;exact evo256 (w:=w) (k:=kS) (u:=uS) (by simp(disch:=try exact zD)[yi,aG]) (by simp(disch:=try exact zD)[G,H]) (Off.new (by first|omega|(simp at h;omega))) (n.up (by first|omega|(simp at h;omega))) B zO tk base;have b:((yp (ym (fA t))).any λx=>!w.testBit x.toNat) = !(ym (fA t)).all λa=>w.testBit a:=by unfold yp;rw[List.any_map,List.not_all_eq_any_not];rfl
 rw[b];unfold j0l;cases F:(ym (fA t)).all λa=>w.testBit a;simp;exact j4 zS zS rfl;simp(disch:=try exact zD)[j0,yi,i,m,fdC,aG];refine jP (vs:=[rv,.fn (.func 258) [] [.ptr (2*(ub+128)+1) (ub+128) 0,.ptr (2*(ub+64)+1) (ub+64) 0,.ptr (2*ub+1) ub 0]]) zS rfl (by rw[bW,dt];exact .inr rfl)
  (evo257 (N:=N) (n0:=n0) (p:=barB w t (fW t)) rfl (d.r.keep λj h=>?_) zO (λr L tk base y h=>evo258 (g:=g) (kS:=kS) (uS:=uS) (rv:=rv) (al:=al) (ov:=ov) (most:=most) (sp:=sp) (n0:=n0) (d.keep λj h=>?_) ?_ (I.up ?_) ?_ (n.up ?_) ?_ B z J ?_ ?_ ?_ (Off.new ?_) (Off.new ?_) (Off.new ?_) (f r L) tk base) _ _) ?_
 simp(disch:=try exact zD)[(h.o.up e).ne];simp(disch:=try exact zD)[(h.o.up e).ne];simp(disch:=try exact zD)[m,i];first|omega|(simp at h;omega)
 simp(disch:=try exact zD)[G,H];first|omega|(simp at h;omega)
 first|omega|(simp at h;omega)
 simp(disch:=try exact zD)[yi,aG];simp(disch:=try exact zD)[yi,aG];simp(disch:=try exact zD)[yi,aG];first|omega|(simp at h;omega)
 first|omega|(simp at h;omega)
 first|omega|(simp at h;omega)
 simp;exact j4 zS zS rfl
end
def k_word:((List.range 512).all λw=>Xe 0 (ym w)==w)=true:=by kernel_rfl
def j4a {w:Nat}(a:w<512):Xe 0 (ym w)=w:=by simpa using ap.1 k_word w (aX.2 a)
def js9 {L:List Nat}{i:Nat}(h:i<L.length) (w:Nat):Xe w (L.take (i+1))=Xe w (L.take i)|||1<<<L[i]:=by unfold Xe;rw[aw h,ge];rfl
def jce:∀{L:List Nat}{w:Nat},w<2^64->(∀a∈L,a<64)->Xe w L<2^64
 |[],_,hw,_=>hw
 |a::L,w,hw,h=>jce (L:=L) (or_lt hw (h a (aJ ..))) λb c=>h b (aQ _ c)
def JV (L:List Nat):(yp L).length=L.length:=by simp[yp]
def jxd (L:List Nat) {i:Nat}(h:i<(yp L).length):(yp L)[i]=((L[i]'(by simpa[yp] using h):Nat):Int):=by simp[yp]
section
variable {ob:ZO}{ub k u w:Nat}
def j3o (G:ob k=some ⟨u,.cells (yt w)⟩) (F:Off ub k) (q:w<512) (tk:Nat->Bool) (base:Nat):EvO E 210 [.ptr k u 0] ob tk base ub (.int .u64 (w:Nat)):=by
 refine jo rfl ?_;have B:=Qv w;conv in(occs:=*)S210=>all_goals cbv
 simp;obtain⟨x,o⟩:=numR_intsV (yp (ym w));refine jP (vs:=[.ptr k u 0]) zS rfl rfl (jh0 G (F.up (by first|omega|(simp;omega))) q _ _) ?_;refine YE o λv add=>?_;simp;refine j7 [(3,5),(9,17)] (ym w).length (λi s=>s.tm 9=.int .i64 i/\s.tm 3=.int .u64 (Xe 0 ((ym w).take i):Nat)) rfl rfl ⟨zS,by simp[Xe]⟩ ?_;rintro i s K ⟨z,j⟩ f;have I:s.tm 7=.sl v x (yp (ym w)).length ((yp (ym w)).flatMap ye):=by rw[f.t 7 zS];simp
 have r:s.tm 8=.int .i64 (yp (ym w)).length:=by rw[f.t 8 zS];simp
 have D:s.df=[]:=by rw[f.d];simp
 clear f;by_cases e:i<(ym w).length;have c:i<(yp (ym w)).length:=by rw[JV];exact e
 have m:=jc c (by rw[JV];omega);have l:=XA jA v x (yp (ym w)) .i64 c;have h:=JL (yp (ym w)) c;have J:=(bitsUp_mem.1 (av e)).1;rw[jxd]at h;have y:=jie (n:=(ym w)[i]) zO;have g:=jei (a:=Xe 0 ((ym w).take i)) (b:=1<<<(ym w)[i]) (jce zQ λa H=>by have:=(bitsUp_mem.1 (dz H)).1;omega) (jpk zO);rw[<- js9 e]at g;generalize 1<<<(ym w)[i]=p1 at y g;generalize p:Xe 0 ((ym w).take (i+1))=p2 at g;generalize Xe 0 ((ym w).take i)=p3 at g j;simp[I,r,z,j,c,l,h,y,g,m];exact⟨e,by rw[p]⟩;have:i=(ym w).length:=zO;subst this;rw[bf,j4a q]at j;simp[r,z,JV,j];exact j4 (zU D) zS rfl
end
end Go.Pv.T
namespace Go.Pv.T
open Go Go.Pv
end Go.Pv.T
namespace Go.Pv.T
open Go Go.Pv
/-! What goes before,by loops. -/
def fD2 (r:Nat->Nat->Bool) (k b0 b a:Nat):Bool:=if b<b0 then war r (k+1) b a else war r k b a
def jy5 (r:Nat->Nat->Bool) (k a:Nat):war r (k+1) k a=war r k k a:=by rw[war];cases war r k k a<;>simp
def j3k (r:Nat->Nat->Bool) (k b a:Nat):fD2 r k b b a=war r k b a:=by simp[fD2]
def j16 {r:Nat->Nat->Bool}{k c:Nat}(h:war r k c k=false) (b a:Nat):fD2 r k c b a=fD2 r k (c+1) b a:=by unfold fD2;rcases dx b c with h1|h1|h1;rw[zb h1,zb zO];subst h1;rw[za zO,zb zO,war,h,bZ,bx];rw[za zO,za zO]
def j15 (r:Nat->Nat->Bool) (k b a:Nat):fD2 r k 0 b a=war r k b a:=by simp[fD2]
def j69 {r:Nat->Nat->Bool}{k n b:Nat}(c:b<n) (a:Nat):fD2 r k n b a=war r (k+1) b a:=by simp[fD2,c]
section
end
def jnu {l u n x:Nat}{kk:IntKind}(a:x<n):J0 1 (.osl l u 0 n 1) (.int kk (x:Int))=some (.ptr l u x):=j8u rfl a
def j44 {g:Hist'}{t:Nat}(a:t<g.ts.length):(g.ts.flatMap jt)[t*3]? = some (.int .i64 (yC g t)):=by have:=jk j9 g.ts a (by decide:0<3);rw[br]at this;rw[this];simp[jt,yC,a]
def jo7 (n:Nat) (v:V):jai n [v]=List.replicate n v:=by unfold jai;refine gp zS λi a b=>?_;simp[Nat.mod_one]
def jwu {Yf:YF}{f:FuncId}{q:A}{xs:List A}{st:St}{ub:Nat}{K:St->Nat->Prop}{d:Option Nat}{nm:Bool}{first captured vs:List V}{P:V×(ZO)×(Nat->Bool)×Nat->Prop}
 (i:yc E st.tm q=.fn (.func f) first captured) (k:first++xs.map (yc E st.tm)++captured=vs) (g:E.sh nm f=true)
 (l:∃r,EvS E Yf.y f vs st.ob st.tk st.ro ((st.fb+d.getD 0+1)*1024) ub r/\P r) (h:∀v c a b,P (v,c,a,b)->K (jrm st d v c a) b):j5 E Yf ⟨d,.callV q xs,none,nm⟩ st ub K:=by
 have e:j8 E nm (yc E st.tm) (.callV q xs)=some (f,vs):=by simp only[j8,i,g,k,cl,bZ,ak,zc]
 simp only[j5,yH,jb,i,e];obtain⟨r,j,m⟩:=l;exact .inl ⟨g,EvS.list ⟨r,j,h r.1 r.2.1 r.2.2.1 r.2.2.2 m⟩⟩
def Old (ob:ZO) (ub:Nat) (ob':ZO):Prop:=∀k,(∀m,ub<=m->k≠2*m+1)->ob' k=ob k
def NewAt (ub:Nat) (l:List Int) (v:V) (ob':ZO) (ub':Nat):Prop:=∃m,ub<=m/\m<ub'/\v=.osl (2*m+1) m 0 l.length 1/\ob' (2*m+1)=some ⟨m,.cells (l.flatMap ye)⟩
def jja {E:Env}{Yf:YF}{st:St}{ub:Nat}{K:St->Nat->Prop}{d:Option Nat}{nm o:Bool}{sz a l u off n z:Nat}{cs:List V}{s x:A}(e:yc E st.tm s=.osl l u off n z) (f:jE st.ob sz (yc E st.tm x)=some []) (c:st.ob l=some ⟨u,.cells cs⟩)
 (h:jal K st d ub (.osl l u off n z)):j5 E Yf ⟨d,.append o sz a s x,none,nm⟩ st ub K:=by
 have b:j0 st.ob l u=some cs:=by simp[j0,c]
 rw[jR _ rfl rfl];simp only[yR,e,f,b,am,zd,QF,jaf];exact h
@[simp] theorem eqVV_sl (ob:ZO) (neg nl:Bool) (t a:Option (Nat×Nat)) (n:Nat) (cs:List V):jyn ob neg .sl (.sl t nl n cs) (.sl a true 0 [])=some (.bool (xor neg nl)):=rfl
def CopyP (ob:ZO) (tk:Nat->Bool) (ub:Nat) (l:List Int) (r:V×(ZO)×(Nat->Bool)×Nat):Prop:=NewAt ub l r.1 r.2.1 r.2.2.2/\Old ob ub r.2.1/\r.2.2.1=tk/\ub<=r.2.2.2
def sv99 {Yf:YF}(l:List Int) (i:l.length<=1000000000) {ob:ZO}{tk:Nat->Bool}{ro base ub:Nat}(h:ro<=ub):∃r,EvS E Yf.y 99 [yj false ye l] ob tk ro base ub r/\CopyP ob tk ub l r:=by
 refine J7 rfl zQ ?_;show wpC E Yf S99.body _ (Jd S99.res _);conv in(occs:=*)S99=>all_goals cbv
 simp[yj];refine JB (cs:=[]) rfl rfl rfl ?_;simp;by_cases d:l=[]
 ·subst d;refine jja (l:=2*(ub+192)+1) (u:=ub+192) (off:=0) (n:=0) (z:=1) (cs:=[]) zS (by simp[jE]) zS ?_;simp;refine JQ zS ⟨⟨ub+192,zO,by simp;try omega,zS,zS⟩,λk a=>?_,by simp[jn],by simp;try omega⟩;have:=a (ub+192) zO;simp[this]
 ·have c:l.flatMap ye≠[]:=λe=>d (by have:=zg List.length e;rw[j3 jA]at this;exact cG.1 (zU this));have b:(l.flatMap ye).length/1=l.length:=by rw[j3 jA];simp
  refine XT (l:=2*(ub+192)+1) (u:=ub+192) (n:=0) (cs:=[]) (ys:=l.flatMap ye) zS (by simp[jE,j3 jA]) zS c zP zS zQ (by simp[ye]) (by rw[b];omega) (by rw[b];omega) ?_;rw[b];simp;refine JQ zS ⟨⟨ub+320,zO,by simp;try omega,zS,zS⟩,λk a=>?_,by simp[j76],by simp;try omega⟩;have g:=a (ub+192) zO;have f:=a (ub+320) zO;simp[g,f]
def sv99n {Yf:YF}{ob:ZO}{tk:Nat->Bool}{ro base ub:Nat}:∃r,EvS E Yf.y 99 [.sl none true 0 []] ob tk ro base ub r/\r.1=.sl none true 0 []/\r.2.1=ob/\r.2.2.1=tk/\ub<=r.2.2.2:=by
 refine J7 rfl zQ ?_;show wpC E Yf S99.body _ (Jd S99.res _);conv in(occs:=*)S99=>all_goals cbv
 simp;exact JQ zS ⟨zS,zS,zS,by simp;omega⟩
def Wf (c:List Int) (q:Nat):Nat:=(q+1) % c.length
end Go.Pv.T
namespace Go.Pv.T
open Go Go.Pv
end Go.Pv.T
namespace Go.Pv.T
open Go Go.Pv
def jjb {st:St}{ub:Nat}{K:List FP->St->Prop}{d:Option Nat}{nm:Bool}{r:List AOpr}(h:W1 E r K (yc E st.tm) .mkMap st d ub { v:=.map (jF d nm st.fb ub) ub,obs:=[(jF d nm st.fb ub,⟨ub,.mp 0 []⟩)] }):jC E (⟨d,.mkMap,none,nm⟩::r) st ub K:=by rw[JC rfl];simp only[yR,JZ,jJ,JY];exact h
end Go.Pv.T
namespace Go.Pv.T
open Go Go.Pv
end Go.Pv.T
namespace Go.Pv.T
open Go Go.Pv
end Go.Pv.T
namespace Go.Pv.T
open Go Go.Pv
section
end
def jzi {c:Type}{f:c->List V}{k:Nat}(b:∀a,(f a).length=k) (nl:Bool) (l:List c) (n:Nat) (kk:IntKind):YY k none (some (.int kk ((min l.length n:Nat):Int))) (yj nl f l)=some (.sl none nl (min l.length n) ((l.take n).flatMap f)):=by have d:=jmn (kk:=kk) (t:=none) (nl:=nl) (sz:=k) (cs:=l.flatMap f) (n:=l.length) (k:=min l.length n) (ey _ _) (j3 b _);refine Eq.trans d ?_;rw[jbg b];congr 2;rcases gW l.length n with h|h;rw[cq h,bf,aM h];rw[fo h]
def jrd {st:St}{k:Nat}{v:V}(h:v.pureLeaf=true):JU st (k+1) v=some v:=by
 cases v with
 |sl t b n cs=>cases t with
  |none=>rfl
  |some t=>cases h
 |osl l u a n s=>cases h
 |_=>simp[JU,h]
def jeo {st:St}{k:Nat}:∀{l:List V},l.all V.pureLeaf=true->l.mapM (JU st (k+1))=some l
 |[],_=>rfl
 |v::l,h=>by rw[bW,aj]at h;rw[bJ,jrd h.1,jeo h.2];rfl
def j0u (l:List Op'):(l.flatMap yP).all V.pureLeaf=true:=by rw[fE,ap];intro t _;rfl
def jpv {f:V->Option V}:∀{l m l' a:List V},l.mapM f=some l'->m.mapM f=some a->(l++m).mapM f=some (l'++a)
 |[],m,l',a,h,h'=>by cases (show some []=some l' from h);exact h'
 |v::l,m,l',a,h,h'=>by
  rw[bJ]at h;rw[db,bJ];cases c:f v with
  |none=>rw[c]at h;cases h
  |some e=>
   rw[c]at h;cases b:l.mapM f with
   |none=>rw[b]at h;cases h
   |some r=>rw[b]at h;cases (show some (e::r)=some l' from h);rw[jpv b h'];rfl
def txU (p:Txn'×Nat):List V:=[.int .i64 p.1.s,.int .i64 p.1.f,.osl (2*p.2+1) p.2 0 p.1.ops.length 4]
@[simp] theorem Wb (p:Txn'×Nat):(txU p).length=3:=rfl
structure InO (ob:ZO) (lo hi:Nat) (p:Txn'×Nat):Prop where
 nl:p.1.nl=false
 lo:lo<=p.2
 hi:p.2<hi
 ob:∃X,ob (2*p.2+1)=some ⟨p.2,.cells X⟩/\p.1.ops.length*4<=X.length/\X.take (p.1.ops.length*4)=p.1.ops.flatMap yP
def InO.frame {ob ob':ZO}{lo hi hi':Nat}{p:Txn'×Nat}(h:InO ob lo hi p) (a:ob' (2*p.2+1)=ob (2*p.2+1)) (b:hi<=hi'):InO ob' lo hi' p :=
 ⟨h.nl,h.lo,by have:=h.hi;omega,by rw[a];exact h.ob⟩
def TsO (ob:ZO) (lo hi:Nat) (P:List (Txn'×Nat)) (v:V):Prop :=
 (∀p∈P,InO ob lo hi p)/\((P=[]/\v=.sl none true 0 [])\/(P≠[]/\∃u,lo<=u/\u<hi/\(∀p∈P,p.2≠u)/\v=.osl (2*u+1) u 0 P.length 3/\ob (2*u+1)=some ⟨u,.cells (P.flatMap txU)⟩))
def TsO.frame {ob ob':ZO}{lo hi hi':Nat}{P:List (Txn'×Nat)}{v:V}(h:TsO ob lo hi P v) (e:∀u,lo<=u->u<hi->ob' (2*u+1)=ob (2*u+1)) (g:hi<=hi'):TsO ob' lo hi' P v:=by refine⟨λp a=>(h.1 p a).frame (e _ (h.1 p a).lo (h.1 p a).hi) g,?_⟩;rcases h.2 with c|⟨b,u,f,c,i,j,k⟩;exact .inl c;exact .inr ⟨b,u,f,zO,i,j,by rw[e u f c];exact k⟩
def jzh {st:St}{lo hi:Nat}{p:Txn'×Nat}(h:InO st.ob lo hi p) (i:st.ro<=lo):JU st 5 (.osl (2*p.2+1) p.2 0 p.1.ops.length 4)=some (yj p.1.nl yP p.1.ops):=by
 obtain⟨X,e,g,f⟩:=h.ob;have c:=h.lo;have a:j0 st.ob (2*p.2+1) p.2=some X:=by simp[j0,e]
 show((j0 st.ob (2*p.2+1) p.2).bind λcs=>if Nat.ble st.ro p.2=true/\0+p.1.ops.length*4<=cs.length then (((cs.drop 0).take (p.1.ops.length*4)).mapM (JU st 4)).map λb=>V.sl none false p.1.ops.length b else none)=_;rw[a,am,zb ⟨bT▸zO,zO⟩,dq,f,jeo (j0u _),h.nl];rfl
def jj8 {st:St}{lo hi:Nat}(a:st.ro<=lo):∀{P:List (Txn'×Nat)},(∀p∈P,InO st.ob lo hi p)->(P.flatMap txU).mapM (JU st 5)=some ((P.map (·.1)).flatMap jt)
 |[],_=>rfl
 |p::P,h=>by rw[ba,bi,ba];refine jpv ?_ (jj8 a λq b=>h q (aQ _ b));have:=jzh (h p (aJ ..)) a;show[V.int .i64 p.1.s,.int .i64 p.1.f,.osl (2*p.2+1) p.2 0 p.1.ops.length 4].mapM (JU st 5)=_;rw[bJ,bJ,bJ,this];rfl
def TsO.out {st:St}{lo hi:Nat}{P:List (Txn'×Nat)}{v:V}(h:TsO st.ob lo hi P v) (e:st.ro<=lo):jci st v P.isEmpty P.length ((P.map (·.1)).flatMap jt):=by
 rcases h.2 with⟨rfl,rfl⟩|⟨c,u,m,k,l,rfl,j⟩;exact XJ _ none true 0 [];intro keep i;have a:j0 st.ob (2*u+1) u=some (P.flatMap txU):=by simp[j0,j]
 have f:JU st 6 (.osl (2*u+1) u 0 P.length 3)=some (.sl none false P.length ((P.map (·.1)).flatMap jt)):=by show((j0 st.ob (2*u+1) u).bind λcs=>if Nat.ble st.ro u=true/\0+P.length*3<=cs.length then (((cs.drop 0).take (P.length*3)).mapM (JU st 5)).map λb=>V.sl none false P.length b else none)=_;rw[a,am,zb ⟨bT▸zO,by rw[j3 Wb];omega⟩,dq,<- j3 Wb P,bf,jj8 e h.1];rfl
 have g:P.isEmpty=false:=by cases P<;>simp_all
 rw[g];refine⟨_,by simp only[jr,f,am,a,aO];rfl,?_⟩;split;exact .inr ⟨_,rfl⟩;exact .inl rfl
section
variable {Yf:YF}{st:St}{ub:Nat}{K:St->Nat->Prop}{d:Nat}
def j07 {v:Type}{f:v->List V}{l:List v}{z sz c:Nat}{s x:A}(w:yc E st.tm s=.osl (2*z+1) z 0 0 sz) (j:st.ob (2*z+1)=some ⟨z,.cells []⟩) (p:st.ro<=z)
 (y:jE st.ob sz (yc E st.tm x)=some (l.flatMap f)) (r:∀a,(f a).length=sz) (m:0<sz) (hp:(l.flatMap f).all V.leaf=true) (D:l.length*c<=140737488355328) (o:l.length<=140737488355328)
 (h:∀(g:St) (u:Nat),(u=z\/u=ub)->g.ob (2*u+1)=some ⟨u,.cells (l.flatMap f)⟩->(∀b,b≠2*z+1->b≠2*ub+1->g.ob b=st.ob b)->(∀t,g.tm t=if t=d then .osl (2*u+1) u 0 l.length sz else st.tm t)->g.df=st.df->g.ro=st.ro->g.fb=st.fb->g.tk=st.tk->K g (ub+64)) :
 j5 E Yf ⟨some d,.append true sz c s x,none,true⟩ st ub K:=by
 cases l with
 |nil=>
  rw[jR _ rfl rfl];simp only[yR,w,y,am,List.flatMap_nil,zd];have i:j0 st.ob (2*z+1) z=some []:=by simp[j0,j]
  rw[i,am,QF];show Q6 K st (some d) ub _;rw[jb5];exact h _ z (.inl rfl) (zU j) (λb _ _=>by simp) (λt=>by rw[jl1];rfl) rfl rfl rfl zS
 |cons a l=>
  have q:((a::l).flatMap f).length/sz=(a::l).length:=by rw[j3 r];exact eL _ m
  have k:(a::l).flatMap f≠[]:=λe=>by have:=zg List.length e;rw[j3 r]at this;have:=Nat.mul_pos (show 0<(a::l).length by simp) m;simp_all
  refine XT (l:=2*z+1) (u:=z) (n:=0) (cs:=[]) (ys:=(a::l).flatMap f) w y j k p zS m hp (by rw[q,bN];exact D) (by rw[q,bN];exact o) ?_;rw[jb5,q,bN];refine h _ ub (.inr rfl) ?_ (λb B F=>?_) (λt=>by rw[jl1];rfl) rfl rfl rfl ?_;simp[jF];simp[jF,B,F];rfl
def jnm {lo hi:Nat}{P:List (Txn'×Nat)}{p:Txn'×Nat}{s x:A}(i:TsO st.ob lo hi P (yc E st.tm s)) (I:hi<=ub) (D:st.ro<=lo) (o:jE st.ob 3 (yc E st.tm x)=some (txU p)) (hp:InO st.ob hi ub p) (F:lo<=hi) (r:P.length<=100000)
 (h:∀(c:St) (m:V),TsO c.ob lo (ub+64) (P++[p]) m->(∀b,(∀u,lo<=u->u<hi->b≠2*u+1)->b≠2*ub+1->c.ob b=st.ob b)->(∀t,c.tm t=if t=d then m else st.tm t)->c.df=st.df->c.ro=st.ro->c.fb=st.fb->c.tk=st.tk->K c (ub+64)) :
 j5 E Yf ⟨some d,.append true 3 40 s x,none,true⟩ st ub K:=by
 have y:=hp.lo;have G:=hp.hi;rcases i.2 with⟨rfl,z⟩|⟨v,u,J,w,B,H,L⟩;refine Js (n:=0) (cs:=[]) (ys:=txU p) z o (by simp[txU]) zQ rfl zS zS ?_;rw[jb5,show(txU p).length/3=1 by rw[Wb]];refine h _ (.osl (2*ub+1) ub 0 1 3) ⟨?_,.inr ⟨zS,ub,zO,zO,?_,zS,?_⟩⟩ (λb k f=>?_) (λt=>by rw[jl1];rfl) rfl rfl rfl ?_;intro q a;simp only[dK,ae]at a;subst a;refine⟨hp.nl,zO,zO,?_⟩;have:¬2*q.2=2*ub:=zO;simpa[jF,X3,this] using hp.ob;intro q a;simp only[dK,ae]at a;subst a;omega;simp[jF,X3];simp[jF,X3,f];rfl;refine XT (l:=2*u+1) (u:=u) (n:=P.length) (cs:=P.flatMap txU) (ys:=txU p) H o L (by simp[txU]) zO (by rw[j3 Wb];omega) zQ rfl zP zP ?_;rw[jb5,show(txU p).length/3=1 by rw[Wb]];refine h _ (.osl (2*ub+1) ub 0 (P.length+1) 3) ⟨?_,.inr ⟨zS,ub,zO,zO,?_,zS,?_⟩⟩ (λb k f=>?_) (λt=>by rw[jl1];rfl) rfl rfl rfl ?_;intro q a;rw[aP,ae]at a;rcases a with a|rfl;have hi:=i.1 q a;refine⟨hi.nl,hi.lo,by have:=hi.hi;omega,?_⟩;have g:¬2*q.2=2*ub:=by have:=hi.hi;omega
 have j:¬2*q.2=2*u:=by have:=B q a;omega
 simpa[jF,g,j] using hi.ob;refine⟨hp.nl,zO,zO,?_⟩;have g:¬2*q.2=2*ub:=zO;have j:¬2*q.2=2*u:=zO;simpa[jF,g,j] using hp.ob;intro q a;rw[aP,ae]at a;rcases a with a|rfl;have:=(i.1 q a).hi;omega;omega;simp[jF];exact aM (by rw[j3 Wb];omega);have e:=k u J w;simp[jF,e,f];rfl
end
section
variable {E:Env}{st:St}{ub:Nat}{K:List FP->St->Prop}{d:Option Nat}{r:List AOpr}
def Xp {sz n:Nat}{zero:List V}{a:List (Nat×Nat×A)}{cs:List V}(b:fill zero (jw (yc E st.tm) a)=some cs) (c:cs.length=n*sz) (hp:cs.all V.leaf=true)
 (h:W1 E r K (yc E st.tm) (.buildSl true sz zero a n) st d ub { v:=.osl (2*ub+1) ub 0 n sz,obs:=[(2*ub+1,⟨ub,.cells cs⟩)] }):jC E (⟨d,.buildSl true sz zero a n,none,true⟩::r) st ub K:=by
 rw[JC rfl];simp only[yR,b,am,zd];rw[zb ⟨c,hp⟩,JZ,jJ];exact h
end
def jfn {b a:Type}{l:List b}{m:List a}(h:l.length=m.length):l.isEmpty=m.isEmpty:=by cases l<;>cases m<;>simp_all
def StO (ob:ZO) (lo hi:Nat) (l:List (List UInt8)) (v:V):Prop :=
 (l=[]/\v=.sl none true 0 [])\/(l≠[]/\∃u,lo<=u/\u<hi/\v=.osl (2*u+1) u 0 l.length 1/\ob (2*u+1)=some ⟨u,.cells (l.flatMap Jj)⟩)
def StO.frame {ob ob':ZO}{lo hi lo' hi':Nat}{l:List (List UInt8)}{v:V}(h:StO ob lo hi l v) (b:∀u,lo<=u->u<hi->ob' (2*u+1)=ob (2*u+1)) (g:lo'<=lo) (i:hi<=hi'):StO ob' lo' hi' l v:=by rcases h with h|⟨a,u,f,c,d,e⟩;exact .inl h;exact .inr ⟨a,u,zO,zO,d,by rw[b u f c];exact e⟩
def StO.leaf {ob:ZO}{lo hi:Nat}{l:List (List UInt8)}{v:V}(h:StO ob lo hi l v):v.leaf=true/\v.cells=[v]:=by rcases h with⟨_,rfl⟩|⟨_,u,_,_,rfl,_⟩<;>exact⟨rfl,rfl⟩
def TsO.leaf {ob:ZO}{lo hi:Nat}{P:List (Txn'×Nat)}{v:V}(h:TsO ob lo hi P v):v.leaf=true/\v.cells=[v]:=by rcases h.2 with⟨_,rfl⟩|⟨_,u,_,_,_,rfl,_⟩<;>exact⟨rfl,rfl⟩
def StO.out {st:St}{lo hi:Nat}{l:List (List UInt8)}{v:V}(h:StO st.ob lo hi l v) (e:st.ro<=lo):jci st v l.isEmpty l.length (l.flatMap Jj):=by
 rcases h with⟨rfl,rfl⟩|⟨b,u,f,d,rfl,c⟩;exact XJ _ none true 0 [];have a:l.isEmpty=false:=by cases l<;>simp_all
 rw[a];exact jeq c (by rw[j3 YR,bE]) zO (by rw[fE,ap];intro _ _;rfl)
def jG (st:St) (d:Option Nat) (v:V) (l k:Nat) (o':Obj') (ks:List Nat):(st.app d { v:=v,obs:=[(l,o')],kill:=ks }).ob k=if k=l then some o' else if ks.any (Nat.beq k) then none else st.ob k:=by simp[St.app,JP,yf]
def jfl {E:Env}{st:St}{ub:Nat}{K:List FP->St->Prop}{d:Option Nat}{r:List AOpr}{lo hi:Nat}{l:List (List UInt8)}{c:List UInt8}{s x:A}(w:StO st.ob lo hi l (yc E st.tm s)) (m:jE st.ob 1 (yc E st.tm x)=some (Jj c)) (t:st.ro<=lo) (i:l.length<=1000)
 (h:∀j:List Nat,(∀k∈j,∃u,lo<=u/\u<hi/\k=2*u+1)->W1 E r K (yc E st.tm) (.append true 1 16 s x) st d ub { v:=.osl (2*ub+1) ub 0 (l.length+1) 1,obs:=[(2*ub+1,⟨ub,.cells ((l++[c]).flatMap Jj)⟩)],kill:=j }) :
 jC E (⟨d,.append true 1 16 s x,none,true⟩::r) st ub K:=by
 rw[JC rfl];rcases w with⟨rfl,p⟩|⟨n,u,z,o,q,y⟩;simp only[yR,p,m,am];rw[za (by simp[Jj]),zb (show(true&&true)=true from rfl),zb ⟨zQ,rfl,by simp[Jj],by simp[Jj]⟩,JZ,jJ];have:=h [] (λk b=>by cases b);have e:([]++[c]).flatMap Jj=Jj c:=zS;rw[e]at this;have g:(Jj c).length/1=1:=by simp[Jj]
 rw[g];exact this;have f:j0 st.ob (2*u+1) u=some (l.flatMap Jj):=by simp[j0,y]
 simp only[yR,q,m,am,f];have a:(l.flatMap Jj).length=l.length:=by rw[j3 YR,bE]
 rw[za (by simp[Jj]),zb ⟨bT▸zO,trivial,trivial,by rw[a];omega,zQ,rfl,by simp[Jj];omega,by simp[Jj];omega⟩,jJ];have:=h [2*u+1] (λk b=>by simp only[ae]at b;exact⟨u,z,o,b⟩);have e:(l++[c]).flatMap Jj=(l.flatMap Jj).take (l.length*1)++Jj c:=by rw[aM (by rw[a];omega),ch];simp
 rw[e]at this;have g:(Jj c).length/1=1:=by simp[Jj]
 rw[g];exact this
def j3y {ks:List Nat}{key:Nat}(h:∀k∈ks,key≠k):ks.any (Nat.beq key)=false:=by rw[gh];intro k a b;exact h k a (bk b)
noncomputable def few1S:C:=tlC (tlC S27.body)
noncomputable def few2S:C:=tlC few1S
noncomputable def few3S:C:=tlC few2S
noncomputable def few4S:C:=tlC few3S
structure FewO (h:Hist') (ob0:ZO) (ub ro:Nat) (s:St) (a b N1 N2:Nat) (Sv Kv Tv:V) (P:List (Txn'×Nat)):Prop where
 t1:s.tm 1=.ptr (2*ub+1) ub 0
 t2:s.tm 2=.ptr (2*(ub+64)+1) (ub+64) 0
 t3:s.tm 3=.ptr (2*(ub+192)+1) (ub+192) 0
 d:s.df=[]
 ro:s.ro=ro
 o1:s.ob (2*ub+1)=some ⟨ub,.cells (ya h)⟩
 o2:s.ob (2*(ub+64)+1)=some ⟨ub+64,.cells [.sl none true 0 [],.sl none true 0 [],.sl none true 0 []]⟩
 o3:s.ob (2*(ub+192)+1)=some ⟨ub+192,.cells [Sv,Kv,Tv]⟩
 gS:StO s.ob (ub+256) N1 (WS a h.ss) Sv
 gK:StO s.ob N1 N2 (WS b h.ks) Kv
 gT:TsO s.ob N2 s.nx P Tv
 n0:ub+256<=N1
 n1:N1<=N2
 n2:N2<=s.nx
 fr:∀key,(∀m,ub<=m->key≠2*m+1)->s.ob key=ob0 key
def few0S {h:Hist'}{Yf:YF}{ob:ZO}{tk:Nat->Bool}{ro base ub:Nat}{Q:Ex->St->Prop}(d:ro<=ub) (a:∀s,FewO h ob ub ro s 0 0 s.nx s.nx (.sl none true 0 []) (.sl none true 0 []) (.sl none true 0 []) []->wpC E Yf few1S s Q) :
 wpC E Yf S27.body (Ju [.agg (ya h)] ob tk ro base ub) Q:=by
 have e:S27.body=.seq (hdC S27.body) (.seq (hdC (tlC S27.body)) few1S):=rfl;rw[e];conv in(occs:=*)S27=>all_goals cbv
 simp[hdC,tlC,ya,j0,j2];have a1:¬2*ub=2*(ub+64):=zO;have a2:¬2*ub=2*(ub+64+64+64):=zO;have a3:¬2*(ub+64)=2*(ub+64+64+64):=zO;refine⟨zO,a _ ⟨zS,zS,zS,zS,zS,by simp[ya,a1,a2],by simp[a3],zS,.inl ⟨rfl,rfl⟩,.inl ⟨rfl,rfl⟩,⟨zS,.inl ⟨rfl,rfl⟩⟩,zS,zK,zK,λc b=>?_⟩⟩;have f:=b ub zK;have i:=b (ub+64) zO;have g:=b (ub+64+64+64) zO;simp[f,i,g]
def j13:few1S=.seq (hdC few1S) few2S:=rfl
def few1O {h:Hist'}{Yf:YF}{ob0:ZO}{ub ro:Nat}{K:St}{Q:Ex->St->Prop}(b6:ro<=ub) (hs:FewO h ob0 ub ro K 0 0 K.nx K.nx (.sl none true 0 []) (.sl none true 0 []) (.sl none true 0 []) [])
 (p:∀s B,FewO h ob0 ub ro s 25 0 s.nx s.nx B (.sl none true 0 []) (.sl none true 0 []) []->wpC E Yf few2S s Q):wpC E Yf few1S K Q:=by
 rw[j13];obtain⟨o,I,t,J,fr,D,L,w,T,gK,gT,n0,n1,n2,H⟩:=hs;simp only[few1S];conv in(occs:=*)S27=>all_goals cbv
 simp[hdC,tlC];refine j7 [(4,4),(9,37)] 25 (λi s=>s.tm 4=.int .i64 i/\i<=h.ss.length/\∃B,FewO h ob0 ub ro s i 0 s.nx s.nx B (.sl none true 0 []) (.sl none true 0 []) []) rfl rfl ?_ ?_;refine⟨zS,zS,.sl none true 0 [],⟨by simp[o],by simp[I],by simp[t],by simp[J],by simp[fr],by simp[D],by simp[L],by simp[w],.inl ⟨rfl,rfl⟩,.inl ⟨rfl,rfl⟩,⟨zS,.inl ⟨rfl,rfl⟩⟩,by simp;omega,zK,zK,λa e=>by simp[H a e]⟩⟩;rintro i s hi ⟨G,b0,B,o,I,t,J,fr,D,L,w,T,gK,gT,n0,n1,n2,H⟩ f;clear f;have n:¬(i<h.ss.length/\i<25)->∀g:St,(g.tm 1=s.tm 1/\g.tm 2=s.tm 2/\g.tm 3=s.tm 3)->g.df=s.df->g.ro=s.ro->g.ob=s.ob->s.nx<=g.nx->wpC E Yf few2S g Q:=by intro hx g ⟨q1,q2,q3⟩ e2 e3 y e5;refine p g B ⟨q1.trans o,q2.trans I,q3.trans t,by rw[e2];exact J,by rw[e3];exact fr,by rw[y];exact D,by rw[y];exact L,by rw[y];exact w,?_,.inl ⟨rfl,rfl⟩,⟨zS,.inl ⟨rfl,rfl⟩⟩,zO,zK,zK,λa e=>by rw[y];exact H a e⟩;rw[<- jqi b0 hi hx,y];exact T.frame (λ_ _ _=>rfl) zK e5
 have r:s.ob (2*ub+1)=some ⟨ub,.cells [yj h.sn Jj h.ss,yj h.kn Jj h.ks,yj h.tn jt h.ts]⟩:=D;by_cases b:i<h.ss.length;by_cases q:i<25;have hw:=jc q zO;have d:(i:Int)<25:=zO;obtain⟨c,hc⟩:∃c,h.ss[i]=c:=⟨_,rfl⟩;have x:=jgr h.ss b;have m:=jlq b q;rw[hc]at x m;have F:=ji2 c.length 100;have z:=joy (l:=c) (kk:=.i64) (ey c.length 100);have S:=jel c;rw[S]at z;rw[show((100:Nat):Int)=100 from rfl]at F;simp[F,z,G,o,r,j0,b,d,t,w,j6 YR,x];refine Xp (cs:=[.str (c.take 100)]) (by simp[j2]) rfl rfl ?_;simp;have b5:s.nx<=(s.nx+64+64+64+64+64+64+64+64+64+64+64+64+64+64+64+64+64+64+64+64+64+64+64+64):=zO;have b9:s.nx<=(s.nx+64+64+64+64+64+64+64+64+64+64+64+64+64+64+64+64+64+64+64+64+64+64+64+64+64):=zO;have b8:(s.nx+64+64+64+64+64+64+64+64+64+64+64+64+64+64+64+64+64+64+64+64+64+64+64+64)<(s.nx+64+64+64+64+64+64+64+64+64+64+64+64+64+64+64+64+64+64+64+64+64+64+64+64+64):=zO;have b7:=jqh i h.ss;refine jfl (lo:=ub+256) (hi:=s.nx) (l:=WS i h.ss) (c:=c.take 100) ?_ (by simp[jE,j0];rfl) (by simp[fr];omega) zO λks U=>?_;simp;refine T.frame (λu X N=>?_) zK zK;have e1:¬2*u=2*(s.nx+64+64+64+64+64+64+64+64+64+64+64+64+64+64+64+64+64+64+64+64+64+64+64+64):=zO;simp[e1];rw[<- m];have v:(WS i h.ss).length+1=(WS (i+1) h.ss).length:=by rw[m];simp
 rw[v];have j:∀a,(∀u,ub+256<=u->u<s.nx->a≠2*u+1)->ks.any (Nat.beq a)=false:=λa e=>j3y λk P=>by obtain⟨u,X,N,h3⟩:=U k P;rw[h3];exact e u X N
 have O:=j (2*ub+1) (λu _ _=>by omega);have a0:=j (2*(ub+64)+1) (λu _ _=>by omega);have Z:=j (2*(ub+192)+1) (λu _ _=>by omega);have w1:¬2*ub=2*(s.nx+64+64+64+64+64+64+64+64+64+64+64+64+64+64+64+64+64+64+64+64+64+64+64+64+64):=zO;have w2:¬2*(ub+64)=2*(s.nx+64+64+64+64+64+64+64+64+64+64+64+64+64+64+64+64+64+64+64+64+64+64+64+64+64):=zO;have w3:¬2*(ub+192)=2*(s.nx+64+64+64+64+64+64+64+64+64+64+64+64+64+64+64+64+64+64+64+64+64+64+64+64+64):=zO;have w4:¬2*ub=2*(s.nx+64+64+64+64+64+64+64+64+64+64+64+64+64+64+64+64+64+64+64+64+64+64+64+64):=zO;have w5:¬2*(ub+64)=2*(s.nx+64+64+64+64+64+64+64+64+64+64+64+64+64+64+64+64+64+64+64+64+64+64+64+64):=zO;have w6:¬2*(ub+192)=2*(s.nx+64+64+64+64+64+64+64+64+64+64+64+64+64+64+64+64+64+64+64+64+64+64+64+64):=zO;have w7:¬2*(s.nx+64+64+64+64+64+64+64+64+64+64+64+64+64+64+64+64+64+64+64+64+64+64+64+64+64)=2*(ub+192):=zO;have w8:¬2*ub=2*(ub+192):=zO;have w9:¬2*(ub+64)=2*(ub+192):=zO;simp[t,j0,jG,Z,w3,w6,w,fr,j2,G,hw];refine⟨zO,?_,?_⟩;simp[Jp,Q7,Qt,ja7,yx,yy,yO,Delta.wo,Delta.wt];exact nbeq zO;have M:WS (i+1) h.ss≠[]:=by rw[m];simp
 refine⟨q,zO,.osl (2*(s.nx+64+64+64+64+64+64+64+64+64+64+64+64+64+64+64+64+64+64+64+64+64+64+64+64+64)+1) (s.nx+64+64+64+64+64+64+64+64+64+64+64+64+64+64+64+64+64+64+64+64+64+64+64+64+64) 0 (WS (i+1) h.ss).length 1,⟨by simp[o],by simp[I],by simp[t],by simp[J],by simp[fr],by simp[jG,O,w1,w4,w8,D],by simp[jG,a0,w2,w5,w9,L],zS,
  .inr ⟨M,(s.nx+64+64+64+64+64+64+64+64+64+64+64+64+64+64+64+64+64+64+64+64+64+64+64+64+64),zO,zS,rfl,by simp[jG,w7]⟩,.inl ⟨rfl,rfl⟩,⟨zS,.inl ⟨rfl,rfl⟩⟩,by simp;omega,zK,zK,λa e=>?_⟩⟩
 have k1:=e (ub+192) zO;have k2:=e (s.nx+64+64+64+64+64+64+64+64+64+64+64+64+64+64+64+64+64+64+64+64+64+64+64+64+64) zO;have k3:=e (s.nx+64+64+64+64+64+64+64+64+64+64+64+64+64+64+64+64+64+64+64+64+64+64+64+64) zO;have k4:=j a (λu X N=>e u zO);simp[jG,k1,k2,k3,k4];exact H a e;have d:¬(i:Int)<25:=zO;simp[G,o,r,j0,b,d];exact n zO _ ⟨zS,zS,zS⟩ zS zS (by funext k;simp) zP;simp[G,o,r,j0,b];exact n zO _ ⟨zS,zS,zS⟩ zS zS (by funext k;simp) zP
def j12:few2S=.seq (hdC few2S) few3S:=rfl
def few2O {h:Hist'}{Yf:YF}{ob0:ZO}{ub ro:Nat}{s0:St}{Q:Ex->St->Prop}{w:Nat}{S0:V}(b9:ro<=ub) (hs:FewO h ob0 ub ro s0 25 0 w s0.nx S0 (.sl none true 0 []) (.sl none true 0 []) [])
 (p:∀s B,FewO h ob0 ub ro s 25 45 w s.nx S0 B (.sl none true 0 []) []->wpC E Yf few3S s Q):wpC E Yf few2S s0 Q:=by
 rw[j12];obtain⟨o,L,v,M,fr,F,P,y,N,gK,gT,K,n1,n2,J⟩:=hs;simp only[few2S,few1S];conv in(occs:=*)S27=>all_goals cbv
 simp[hdC,tlC];refine j7 [(5,5),(38,66)] 45 (λi s=>s.tm 5=.int .i64 i/\i<=h.ks.length/\∃B,FewO h ob0 ub ro s 25 i w s.nx S0 B (.sl none true 0 []) []) rfl rfl ?_ ?_;refine⟨zS,zS,.sl none true 0 [],⟨by simp[o],by simp[L],by simp[v],by simp[M],by simp[fr],by simp[F],by simp[P],by simp[y],N.frame (λ_ _ _=>by simp) zK zK,.inl ⟨rfl,rfl⟩,⟨zS,.inl ⟨rfl,rfl⟩⟩,K,by simp;omega,zK,λa g=>by simp[J a g]⟩⟩;rintro i s hi ⟨I,b7,B,o,L,v,M,fr,F,P,y,N,gK,gT,K,n1,n2,J⟩ f;clear f;have n:¬(i<h.ks.length/\i<45)->∀j:St,(j.tm 1=s.tm 1/\j.tm 2=s.tm 2/\j.tm 3=s.tm 3)->j.df=s.df->j.ro=s.ro->j.ob=s.ob->s.nx<=j.nx->wpC E Yf few3S j Q:=by intro hx j ⟨q1,q2,q3⟩ e2 e3 t e5;refine p j B ⟨q1.trans o,q2.trans L,q3.trans v,by rw[e2];exact M,by rw[e3];exact fr,by rw[t];exact F,by rw[t];exact P,by rw[t];exact y,by rw[t];exact N,?_,⟨zS,.inl ⟨rfl,rfl⟩⟩,K,zO,zK,λa g=>by rw[t];exact J a g⟩;rw[<- jqi b7 hi hx,t];exact gK.frame (λ_ _ _=>rfl) zK e5
 have r:s.ob (2*ub+1)=some ⟨ub,.cells [yj h.sn Jj h.ss,yj h.kn Jj h.ks,yj h.tn jt h.ts]⟩:=F;by_cases d:i<h.ks.length;by_cases q:i<45;have hw:=jc q zO;have e:(i:Int)<45:=zO;obtain⟨c,hc⟩:∃c,h.ks[i]=c:=⟨_,rfl⟩;have z:=jgr h.ks d;have m:=jlq d q;rw[hc]at z m;have G:=ji2 c.length 100;have D:=joy (l:=c) (kk:=.i64) (ey c.length 100);have a0:=jel c;rw[a0]at D;rw[show((100:Nat):Int)=100 from rfl]at G;simp[G,D,I,o,r,j0,d,e,v,y,j6 YR,z];refine Xp (cs:=[.str (c.take 100)]) (by simp[j2]) rfl rfl ?_;simp;have b8:s.nx<=(s.nx+64+64+64+64+64+64+64+64+64+64+64+64+64+64+64+64+64+64+64+64+64+64+64+64):=zO;have c2:s.nx<=(s.nx+64+64+64+64+64+64+64+64+64+64+64+64+64+64+64+64+64+64+64+64+64+64+64+64+64):=zO;have c1:(s.nx+64+64+64+64+64+64+64+64+64+64+64+64+64+64+64+64+64+64+64+64+64+64+64+64)<(s.nx+64+64+64+64+64+64+64+64+64+64+64+64+64+64+64+64+64+64+64+64+64+64+64+64+64):=zO;have c0:=jqh i h.ks;refine jfl (lo:=w) (hi:=s.nx) (l:=WS i h.ks) (c:=c.take 100) ?_ (by simp[jE,j0];rfl) (by simp[fr];omega) zO λks b0=>?_;simp;refine gK.frame (λu O H=>?_) zK zK;have e1:¬2*u=2*(s.nx+64+64+64+64+64+64+64+64+64+64+64+64+64+64+64+64+64+64+64+64+64+64+64+64):=zO;simp[e1];rw[<- m];have x:(WS i h.ks).length+1=(WS (i+1) h.ks).length:=by rw[m];simp
 rw[x];have b:∀a,(∀u,w<=u->u<s.nx->a≠2*u+1)->ks.any (Nat.beq a)=false:=λa g=>j3y λk U=>by obtain⟨u,O,H,h3⟩:=b0 k U;rw[h3];exact g u O H
 have T:=b (2*ub+1) (λu _ _=>by omega);have b6:=b (2*(ub+64)+1) (λu _ _=>by omega);have b5:=b (2*(ub+192)+1) (λu _ _=>by omega);have w1:¬2*ub=2*(s.nx+64+64+64+64+64+64+64+64+64+64+64+64+64+64+64+64+64+64+64+64+64+64+64+64+64):=zO;have w2:¬2*(ub+64)=2*(s.nx+64+64+64+64+64+64+64+64+64+64+64+64+64+64+64+64+64+64+64+64+64+64+64+64+64):=zO;have w3:¬2*(ub+192)=2*(s.nx+64+64+64+64+64+64+64+64+64+64+64+64+64+64+64+64+64+64+64+64+64+64+64+64+64):=zO;have w4:¬2*ub=2*(s.nx+64+64+64+64+64+64+64+64+64+64+64+64+64+64+64+64+64+64+64+64+64+64+64+64):=zO;have w5:¬2*(ub+64)=2*(s.nx+64+64+64+64+64+64+64+64+64+64+64+64+64+64+64+64+64+64+64+64+64+64+64+64):=zO;have w6:¬2*(ub+192)=2*(s.nx+64+64+64+64+64+64+64+64+64+64+64+64+64+64+64+64+64+64+64+64+64+64+64+64):=zO;have w7:¬2*(s.nx+64+64+64+64+64+64+64+64+64+64+64+64+64+64+64+64+64+64+64+64+64+64+64+64+64)=2*(ub+192):=zO;have w8:¬2*ub=2*(ub+192):=zO;have w9:¬2*(ub+64)=2*(ub+192):=zO;simp[v,j0,jG,b5,w3,w6,y,fr,j2,I,hw];refine⟨zO,?_,?_⟩;simp[Jp,Q7,Qt,ja7,yx,yy,yO,Delta.wo,Delta.wt];exact nbeq zO;have S:WS (i+1) h.ks≠[]:=by rw[m];simp
 refine⟨q,zO,.osl (2*(s.nx+64+64+64+64+64+64+64+64+64+64+64+64+64+64+64+64+64+64+64+64+64+64+64+64+64)+1) (s.nx+64+64+64+64+64+64+64+64+64+64+64+64+64+64+64+64+64+64+64+64+64+64+64+64+64) 0 (WS (i+1) h.ks).length 1,⟨by simp[o],by simp[L],by simp[v],by simp[M],by simp[fr],by simp[jG,T,w1,w4,w8,F],by simp[jG,b6,w2,w5,w9,P],zS,
  N.frame (λu O H=>?_) zK zK,.inr ⟨S,(s.nx+64+64+64+64+64+64+64+64+64+64+64+64+64+64+64+64+64+64+64+64+64+64+64+64+64),zO,zS,rfl,by simp[jG,w7]⟩,⟨zS,.inl ⟨rfl,rfl⟩⟩,K,by first|omega|(simp;omega),zK,λa g=>?_⟩⟩
 have k1:¬2*u=2*(ub+192):=zO;have Z:¬2*u=2*(s.nx+64+64+64+64+64+64+64+64+64+64+64+64+64+64+64+64+64+64+64+64+64+64+64+64+64):=zO;have X:¬2*u=2*(s.nx+64+64+64+64+64+64+64+64+64+64+64+64+64+64+64+64+64+64+64+64+64+64+64+64):=zO;have k4:=b (2*u+1) (λu' _ _=>by omega);simp[jG,k1,Z,X,k4];have k1:=g (ub+192) zO;have Z:=g (s.nx+64+64+64+64+64+64+64+64+64+64+64+64+64+64+64+64+64+64+64+64+64+64+64+64+64) zO;have X:=g (s.nx+64+64+64+64+64+64+64+64+64+64+64+64+64+64+64+64+64+64+64+64+64+64+64+64) zO;have k4:=b a (λu O H=>g u zO);simp[jG,k1,Z,X,k4];exact J a g;have e:¬(i:Int)<45:=zO;simp[I,o,r,j0,d,e];exact n zO _ ⟨zS,zS,zS⟩ zS zS (by funext k;simp) zP;simp[I,o,r,j0,d];exact n zO _ ⟨zS,zS,zS⟩ zS zS (by funext k;simp) zP
end Go.Pv.T
