/- Part. -/
import Derived.Test.YtmanndcfeicokaaGreatDoorTAJ
set_option maxRecDepth 100000
set_option maxHeartbeats 8000000
set_option linter.all false
namespace Go.Pv.T
open Go Go.Pv
def ev65 {g:Hist'}(hs:Small g) (a:Int):∃v,Ev E 65 [.agg (ya g),.int .i64 a] v/\SlR v false (badH g a).length ((badH g a).flatMap yf):=by
 have b5:=ev48 hs;have b9:=hs.ts;refine X6 rfl zQ ?_;obtain⟨B,q⟩:∃B,badH g a=B:=⟨_,rfl⟩;rw[q];unfold badH Jv at q;have x:∀{X:St},X.df=[]->B=[]->(∃t,X.tm 4=.sl t false 0 [])->Ws [.t 4] (λv=>SlR v false B.length (B.flatMap yf)) .ret X:=by rintro X hd rfl ⟨t,U⟩;exact slE (t:=t) (nl:=false) (k:=0) (cs:=[]) (λr h=>h) hd U
 conv in(occs:=*)F65=>all_goals cbv
 simp[ya];refine jN (cs:=[]) rfl rfl rfl ?_;simp[j0];refine jL b5 zI rfl zI ?_;cases Z:Yr g;rw[Qw Z];rw[Z]at q;simp;exact x zS (by simpa[YH] using q.symm) ⟨some (128,1),zS⟩;rw[Z]at q;rw[W2 Z];by_cases k1:a<0;rw[za zP]at q;simp[k1];exact x zS (by simpa[YH] using q.symm) ⟨some (128,1),zS⟩;by_cases k2:(g.ts.length:Int)<=a;rw[za zP]at q;simp[k1,k2,j0];exact x zS (by simpa[YH] using q.symm) ⟨some (128,1),zS⟩;obtain⟨i,rfl⟩:∃i:Nat,a=i:=⟨a.toNat,zO⟩;have hi:i<g.ts.length:=zO;rw[zb zP]at q;simp only[aX]at q;rw[JN hi]at q;have T:=hs.os _ (au hi);have z:=jd jA (λ_=>none) g.ts hi;obtain⟨t,U⟩:∃t,g.ts[i]=t:=⟨_,rfl⟩;have z:∀ob,W3 ob (some 3) (.eptr (g.ts.flatMap jl) (i*3))=some (.agg (jl t)):=λob=>by rw[jd jA ob g.ts hi,U]
 rw[U]at q T;clear x;obtain⟨s0,f0,nl,e⟩:=t;simp only at q T;have b0:¬((i:Int)<0):=zO;have a0:¬((g.ts.length:Int)<=i):=zO;have b7:¬(g.ts.length<=i):=zO;simp[b0,a0,j0,hi,j7 jA,z,jl,j6];refine j9 [(5,5),(7,9),(31,83)] e.length (λk s=>s.tm 7=.int .i64 k/\s.ob 12=some ⟨1472,.cells (jl ⟨s0,f0,nl,e⟩)⟩/\GrowT s.tk s.nx yf 1 (YH e k) (s.tm 5)) rfl rfl ⟨zS,by simp[jl],by simp[YH];exact⟨128,zS,by simp[jf],zS⟩⟩ ?_;rintro k s hk ⟨G,p,L⟩ f;have I:s.tm 6=.ptr 12 1472 0:=by rw[f.t 6 zS];simp
 have fd:s.df=[]:=by rw[f.d];simp
 have fb:s.fb=0:=by rw[f.b];simp
 have fr:s.ro=0:=by rw[f.r];simp
 clear f;by_cases j:k<e.length
 ·have y:=jb j zO;have c:=jj1 j;have b8:=jhn e k;obtain⟨o,Q⟩:∃o,e[k]=o:=⟨_,rfl⟩;rw[Q]at c;unfold badO at c;have J:(e.flatMap yQ)[k*4]? = some (.bool o.w):=by have:=jZ jH e j (by decide:0<4);rw[bp,Q]at this;rw[this];rfl
  have q1:(e.flatMap yQ)[k*4+1]? = some (.int .i64 o.key):=by rw[jZ jH e j (by decide:1<4),Q];rfl
  have q2:(e.flatMap yQ)[k*4+2]? = some (.int .i64 o.v.kind):=by rw[jZ jH e j (by decide:2<4),Q];rfl
  have a2:∀ob,W3 ob (some 2) (.eptr (e.flatMap yQ) (k*4+2))=some (.agg (J4 o.v)):=λob=>by
   have:=Xp jH e k j;have h4:=j4 jH e;simp only[W3,Xz];rw[zb zO];congr 2;rw[Q]at this;have h2:((e.flatMap yQ).drop (k*4+2)).take 2=((((e.flatMap yQ).drop (k*4)).take 4).drop 2).take 2:=by rw[gp,dI,iq];rfl
   rw[h2,this];rfl
  have O:=j6u ⟨s0,f0,nl,e⟩ zP o.key (n:=k) zP;simp only at O;simp[G,I,p,j0,jl,j,j7 jH,q1];refine Jb O (by simp[jl]) rfl (by simp[jl]) ?_;rw[JW (by simp[V.plain,J4])];generalize JD o.key e k=H at *;obtain⟨H,rb⟩:=H;simp only at c;simp[J4,j0,j6,fb,fr];refine⟨by simp[Jc,W6,QR,Qe,yy,yz,yP,Delta.wo,Delta.wt,I];try decide,?_⟩;cases hw:o.w;rw[hw]at c J;cases rb;simp only[bE,dz,ah,zc,aP]at c;simp[G,I,y,p,j0,jl,j,j7 jH,J];rw[c];refine L.mono (λu S h=>?_) zO;first|exact h|simpa[jq] using h
  cases N:(o.v.kind==2);have m:(o.v.kind != 2)=true:=by simp only[bne,N,cp]
  rw[m]at c;simp only[cp,bF]at c;have K:=a2;simp only[J4]at K;cases F:((H.kind==o.v.kind)&&(H.n==o.v.n));rw[F]at c;have D:((o.v.kind==H.kind)&&(o.v.n==H.n))=false:=by rw[<- F,gy,gy (a:=o.v.n)]
  simp only[cp,zd]at c;simp[G,I,p,j0,jl,j,j7 jH,J,q2,m,K,D];refine jN (cs:=yf k) (by simp[j6,yf]) rfl rfl ?_;simp;refine YA (f:=yf) (hi:=s.nx) (l:=YH e k) (a:=(k:Int)) (v:=s.tm 5) (L.mono (λu _ h=>by simp[jf,h]) zK) zS (by simp[jF,yf]) j8 zQ rfl zO zO (λc0 b6=>?_);have P:(YH e k).length+1=(YH e (k+1)).length:=by rw[c];simp
  rw[<- c,P];obtain⟨M,hM⟩:∃M,YH e (k+1)=M:=⟨_,rfl⟩;rw[hM];simp[G,y,p,jl,hM];exact⟨j,_,rfl,by simp[jf],zO⟩;rw[F]at c;have D:((o.v.kind==H.kind)&&(o.v.n==H.n))=true:=by rw[<- F,gy,gy (a:=o.v.n)]
  simp only[bN,ah,zc,aP]at c;simp[G,I,y,p,j0,jl,j,j7 jH,J,q2,m,K,D];rw[c];refine L.mono (λu S h=>?_) zO;first|exact h|simpa[jq] using h
  have m:(o.v.kind != 2)=false:=by simp only[bne,N,bN]
  rw[m]at c;simp only[bE,dz,ah,zc,aP]at c;simp[G,I,y,p,j0,jl,j,j7 jH,J,q2,m];rw[c];refine L.mono (λu S h=>?_) zO;first|exact h|simpa[jq] using h
  rw[hw]at c J;simp only[bN,bE,ah,zc,aP]at c;simp[G,I,y,p,j0,jl,j,j7 jH,J];rw[c];refine L.mono (λu S h=>?_) zO;first|exact h|simpa[jq] using h
 have:k=e.length:=zO;subst this;rw[q]at L;obtain⟨u,S,_,_⟩:=L;simp[G,I,p,j0,jl];exact slE (t:=some (u,1)) (nl:=false) (k:=B.length) (cs:=B.flatMap yf) (λr h=>h) (by simp[fd]) (by simp[S])
end Go.Pv.T
namespace Go.Pv.T
open Go Go.Pv
end Go.Pv.T
namespace Go.Pv.T
open Go Go.Pv
end Go.Pv.T
namespace Go.Pv.T
open Go Go.Pv
def jzj {Yf:YF}{f:FuncId}{q:A}{xs:List A}{st:St}{ub:Nat}{K:St->Nat->Prop}{d:Option Nat}{nm:Bool}{first captured vs:List V}{P:V×(ZO)×(Nat->Bool)×Nat->Prop}
 (i:ye E st.tm q=.fn (.func f) first captured) (k:first++xs.map (ye E st.tm)++captured=vs) (g:E.sh nm f=true)
 (l:∃r,EvS E Yf.y f vs st.ob st.tk st.ro ((st.fb+d.getD 0+1)*1024) ub r/\P r) (h:∀v c a b,P (v,c,a,b)->K (jt6 st d v c a) b):jB E Yf ⟨d,.callV q xs,none,nm⟩ st ub K:=by
 have e:jC E nm (ye E st.tm) (.callV q xs)=some (f,vs):=by simp only[jC,i,g,k,bN,bE,ah,zc]
 simp only[jB,yJ,jj,i,e];obtain⟨r,j,m⟩:=l;exact .inl ⟨g,EvS.list ⟨r,j,h r.1 r.2.1 r.2.2.1 r.2.2.2 m⟩⟩
def OwnI (ob:ZO) (v:V) (l:List Int):Prop:=(v=.sl none true 0 []/\l=[])\/∃L u cs,v=.osl L u 0 l.length 1/\ob L=some ⟨u,.cells cs⟩/\l.length<=cs.length/\cs.take l.length=l.flatMap yf
def OwnI.at {l:List Int}{cs:List V}(b:cs.take l.length=l.flatMap yf) {i:Nat}(h:i<l.length):cs[i]? = some (.int .i64 l[i]):=by have a:=jt l h;rw[<- b,bi h]at a;exact a
def jsg {E:Env}{Yf:YF}{st:St}{ub:Nat}{K:St->Nat->Prop}{d:Option Nat}{nm:Bool}{sz l u off n:Nat}{zero cs:List V}{x:A}(e:ye E st.tm x=.osl l u off n sz) (c:st.ob l=some ⟨u,.cells cs⟩) (b:st.ro<=u) (g:zero.length=sz) (f:off+n*sz<=cs.length)
 (h:QW K st d ub { v:=js,obs:=[(l,⟨u,.cells (j6 cs off (ja8 n zero))⟩)] }):jB E Yf ⟨d,.clear sz zero x,none,nm⟩ st ub K:=by
 have a:j0 st.ob l u=some cs:=by simp[j0,c]
 rw[jR _ rfl rfl];simp only[yS,e];rw[zb ⟨bY▸b,trivial,g⟩,a,ap,zb f,jJ];exact h
def jtz {L u n i:Nat}(h:i<=n):Y5 1 (some (.int .i64 (i:Int))) none (.osl L u 0 n 1)=some (.osl L u i (n-i) 1):=by have a:(i:Int)<=n:=zO;simp[Y5,Js];omega
def j2f {L u n i:Nat}(h:i<=n):Y5 1 none (some (.int .i64 (i:Int))) (.osl L u 0 n 1)=some (.osl L u 0 i 1):=by have a:(i:Int)<=n:=zO;simp[Y5,Js,a]
def jd4 {p:Int->Bool}{l:List Int}(h:l.findIdx? p=none):l.filter (λx=>!p x)=l:=by rw[fg];intro x a;have:=fE.1 h x a;simp[this]
def jh9:∀(l:List Int) (n:Nat),(l.flatMap yf).take n=(l.take n).flatMap yf
 |[],n=>by simp
 |a::l,0=>by simp
 |a::l,n+1=>by have:=jh9 l n;simp only[aZ,yf,List.singleton_append,eZ,this]
def DelP (L u:Nat) (l:List Int) (ob:ZO) (tk:Nat->Bool) (ub:Nat) (r:V×(ZO)×(Nat->Bool)×Nat):Prop :=
 OwnI r.2.1 r.1 l/\(∀key,key≠L->r.2.1 key=ob key)/\r.2.2.1=tk/\ub<=r.2.2.2/\(r.1=.sl none true 0 []\/∃n,r.1=.osl L u 0 n 1)
def jct (p:Int->Bool) (l:List Int) (j:Nat):List Int:=(l.take j).filter λx=>!p x
def jjg {p:Int->Bool}{l:List Int}{j:Nat}(h:j<l.length):jct p l (j+1)=jct p l j++if p l[j] then [] else [l[j]]:=by unfold jct;rw[ay h,cl];cases a:p l[j]<;>simp[a]
def j3r (p:Int->Bool) (l:List Int) (j:Nat):(jct p l j).length<=j:=by unfold jct;have:=cg (λx=>!p x) (l.take j);rw[ai]at this;omega
end Go.Pv.T
namespace Go.Pv.T
open Go Go.Pv
end Go.Pv.T
namespace Go.Pv.T
open Go Go.Pv
def jmf {g:Hist'}(a:Small g):(jbt g).length<=1000000:=by unfold jbt;have:=jam a g.ts.length;have b:=a.ts;have:g.ts.length*1000<=1000*1000:=bf _ b;split;unfold yi;omega;simp
def yv (g:Hist'):List (Bool×List Int):=(jbt g).map λp=>((ofH g p.1 p.2).isEmpty,ofH g p.1 p.2)
def jw5 (T:List Int):SlR (jk7 T) T.isEmpty T.length (T.flatMap yf):=by
 unfold jk7;cases T with
 |nil=>exact⟨none,rfl,zS⟩
 |cons a l=>exact⟨some (0,1),rfl,zS⟩
def ev73 {g:Hist'}(B:Small g):∃v,Ev E 73 [.agg (ya g)] v/\SlR v (yv g).isEmpty (yv g).length ((yv g).flatMap WS):=by
 obtain⟨vr,G,n⟩:=ev72 B;have y:=jmf B;obtain⟨L,O⟩:∃L,jbt g=L:=⟨_,rfl⟩;obtain⟨C,H⟩:∃C,yv g=C:=⟨_,rfl⟩;have j:C=L.map λp=>((ofH g p.1 p.2).isEmpty,ofH g p.1 p.2):=by rw[<- H,<- O];rfl
 have z:C.length=L.length:=by rw[j];simp
 rw[H];rw[O]at n y;refine X6 rfl zQ ?_;conv in(occs:=*)F73=>all_goals cbv
 simp[ya,j0];refine jL G zI rfl zI ?_;refine XB n λK Q=>?_;simp;refine j9 [(3,5),(9,20)] L.length (λi s=>s.tm 9=.int .i64 i/\s.ob 2=some ⟨0,.cells (ya g)⟩/\Grow s.tk 0 s.nx WS 1 (C.take i) (s.tm 3)) rfl rfl ⟨zS,zI,by simp;exact Grow.nil _ _ _ _ _⟩ ?_;rintro i s hi ⟨F,P,D⟩ f;have f1:s.tm 1=.ptr 2 0 0:=by rw[f.t 1 zS];simp
 have Z:s.tm 7=.sl K L.isEmpty L.length (L.flatMap jE):=by rw[f.t 7 zS];simp
 have I:s.tm 8=.int .i64 L.length:=by rw[f.t 8 zS];simp
 have S:s.df=[]:=by rw[f.d];simp
 have fb:s.fb=0:=by rw[f.b];simp
 have fr:s.ro=0:=by rw[f.r];simp
 clear f;by_cases e:i<L.length;have hw:=jb e zO;have x:ju 2 (.sl K L.isEmpty L.length (L.flatMap jE)) (.int .i64 (i:Int))=some (.eptr (L.flatMap jE) (i*2)):=by simp only[JF,j4 jU];rw[zb zP];rfl
 have hp:=λob=>WP L ob e;have q:C[i]? = some ((ofH g (L[i]).1 (L[i]).2).isEmpty,ofH g (L[i]).1 (L[i]).2):=by rw[j,aV,aa e];rfl
 have w:=ev113 B (L[i]).1 (L[i]).2;generalize (L[i]).1=a at *;generalize (L[i]).2=b at *;obtain⟨T,hT⟩:∃T,ofH g a b=T:=⟨_,rfl⟩;rw[hT]at w q;simp[F,f1,Z,I,P,j0,ya,e,x,hp,j6,fb,fr];refine jL w (by simp[ya,jE]) rfl (by simp[ya,jE]) ?_;refine XB (jw5 T) λt add=>?_;simp;have c:C.take (i+1)=C.take i++[(T.isEmpty,T)]:=by rw[gN,q];rfl
 have a0:i<C.length:=zO;have X:(C.take i).length=i:=by rw[ai];omega
 refine jN (cs:=[.sl t T.isEmpty T.length (T.flatMap yf)]) (by simp[j6]) rfl (by simp[V.strip1,V.pureLeaf]) ?_;simp[V.strip1];refine Xn (f:=WS) (lo:=0) (hi:=s.nx) (l:=C.take i) (a:=(T.isEmpty,T)) (v:=s.tm 3) (D.mono (λu _ _ h=>by simp[jf,h]) zK) zS (by simp[jF,WS]) Yn zQ (by simp[WS,V.pureLeaf]) zO zO (λb0 N=>?_);have m:C.take (i+1)≠[]:=by rw[c];simp
 have o:(C.take i).length+1=(C.take (i+1)).length:=by rw[c,aw];rfl
 rw[<- c,o];obtain⟨M,J⟩:∃M,C.take (i+1)=M:=⟨_,rfl⟩;rw[J]at m ⊢;simp[F,hw,P,ya,J];exact⟨e,.inr ⟨m,_,rfl,by simp[jf],ch _,zO⟩⟩;have:i=L.length:=zO;subst this;rw[<- z,bk]at D;obtain⟨t,U⟩:=D.form;simp[F,I];exact slE (t:=t) (nl:=C.isEmpty) (k:=C.length) (cs:=C.flatMap WS) (λr h=>h) (by simp[S]) (by simp[U])
def choR (g:Hist'):List (Bool×List Int):=(yi g).map λp=>(false,ofH g p.1 p.2)
def XZ {g:Hist'}(a:Small g):(yi g).length<=1000000:=by have:=jam a g.ts.length;have b:=a.ts;have:g.ts.length*1000<=1000*1000:=bf _ b;unfold yi;omega
def ev37 {g:Hist'}(D:Small g):∃v,Ev E 37 [.agg (ya g)] v/\SlR v false (choR g).length ((choR g).flatMap WS):=by
 obtain⟨vr,G,m⟩:=ev64 D;have x:=XZ D;obtain⟨L,N⟩:∃L,yi g=L:=⟨_,rfl⟩;obtain⟨C,H⟩:∃C,choR g=C:=⟨_,rfl⟩;have j:C=L.map λp=>(false,ofH g p.1 p.2):=by rw[<- H,<- N];rfl
 have B:C.length=L.length:=by rw[j];simp
 rw[H];rw[N]at m x;refine X6 rfl zQ ?_;conv in(occs:=*)F37=>all_goals cbv
 simp[ya,j0];refine jL G zI rfl zI ?_;refine XB m λJ P=>?_;simp;refine jN (cs:=[]) rfl rfl rfl ?_;simp;refine j9 [(4,5),(9,24)] L.length (λi s=>s.tm 5=.int .i64 i/\s.ob 2=some ⟨0,.cells (ya g)⟩/\GrowT s.tk s.nx WS 1 (C.take i) (s.tm 4)) rfl rfl ⟨zS,zI,⟨256,zS,by simp[jf],zS⟩⟩ ?_;rintro i s hi ⟨y,O,F⟩ f;have X:s.tm 1=.ptr 2 0 0:=by rw[f.t 1 zS];simp
 have Q:s.tm 3=.sl J false L.length (L.flatMap jE):=by rw[f.t 3 zS];simp
 have S:s.df=[]:=by rw[f.d];simp
 clear f;by_cases c:i<L.length;have hw:=jb c zO;have w:ju 2 (.sl J false L.length (L.flatMap jE)) (.int .i64 (i:Int))=some (.eptr (L.flatMap jE) (i*2)):=by simp only[JF,j4 jU];rw[zb zP];rfl
 have hp:=λob=>WP L ob c;have q:C[i]? = some (false,ofH g (L[i]).1 (L[i]).2):=by rw[j,aV,aa c];rfl
 obtain⟨vo,z,o⟩:=ev69' D (L[i]).1 (L[i]).2;generalize (L[i]).1=a at *;generalize (L[i]).2=b at *;obtain⟨T,Z⟩:∃T,ofH g a b=T:=⟨_,rfl⟩;rw[Z]at o q;have e:C.take (i+1)=C.take i++[(false,T)]:=by rw[gN,q];rfl
 have a0:i<C.length:=zO;have U:(C.take i).length=i:=by rw[ai];omega
 simp[y,X,Q,O,j0,ya,c,w,hp];refine Jb z (by simp[ya,jE]) rfl (by simp[ya,jE]) ?_;refine XB o λt add=>?_;simp;refine jau (cs:=[.sl t false T.length (T.flatMap yf)]) (by simp[j6]) rfl (by simp[V.strip1,V.pureLeaf]) ?_;simp[V.strip1];refine ju6 (f:=WS) (hi:=s.nx) (l:=C.take i) (a:=(false,T)) (v:=s.tm 4) (F.mono (λu _ h=>by simp[jf,h]) zK) zS (by simp[jF,WS]) Yn zQ (by simp[WS,V.pureLeaf]) zO zO (λb0 K=>?_);have n:(C.take i).length+1=(C.take (i+1)).length:=by rw[e,aw];rfl
 rw[<- e,n];obtain⟨M,I⟩:∃M,C.take (i+1)=M:=⟨_,rfl⟩;rw[I];simp[y,hw,O,ya,I];exact⟨c,_,rfl,by simp[jf],zO⟩;have:i=L.length:=zO;subst this;rw[<- B,bk]at F;obtain⟨u,hv,_,_⟩:=F;simp[y,Q];exact slE (t:=some (u,1)) (nl:=false) (k:=C.length) (cs:=C.flatMap WS) (λr h=>h) (by simp[S]) (by simp[hv])
def jdc:List (Bool×List Int)->List Int->Bool
 |[],_=>true
 |_::_,[]=>false
 |c::cs,m::ms=>c.2.contains m&&jdc cs ms
def Xl (g:Hist') (M:List Int):Bool:=jX g&&(M.length==(choR g).length&&jdc (choR g) M)
def jja (C:List (Bool×List Int)) {i:Nat}(h:i<C.length):(C.flatMap WS)[i]? = some (.sl none (C[i]).1 (C[i]).2.length ((C[i]).2.flatMap yf)):=by have:=jZ Yn C h (by decide:0<1);rw[bB,bp]at this;rw[this];rfl
def jpi {g:Hist'}(c:Yr g=true) (a b:Int):(ofH g a b).length<=41:=by unfold ofH;split;split;simp;exact j8w (jyy c) a _;simp
def ev34 {g:Hist'}(w:Small g) {b:Bool}(M:List Int) (_:M.length<=1000000000):Ev E 34 [.agg (ya g),yl b yf M] (.bool (Xl g M)):=by
 have h:=ev28 w;refine jQ rfl ?_;unfold Xl;cases l:jX g
 ·rw[l]at h;conv in(occs:=*)F34=>all_goals cbv
  simp[ya,j0];refine jL h zI rfl zI ?_;simp;exact j5 zS zS rfl
 rw[l]at h;obtain⟨T,q,r⟩:=ev37 w;have v:=XZ w;have P:(choR g).length<=1000000:=by unfold choR;rw[bm];exact v
 have y:∀x∈choR g,x.2.length<=41:=by
  intro x H;unfold choR at H;obtain⟨p,_,rfl⟩:=aE.1 H;have Q:Yr g=true:=by unfold jX at l;simp only[ab]at l;exact l.1
  exact jpi Q _ _
 generalize choR g=C at *;conv in(occs:=*)F34=>all_goals cbv
 simp[ya,j0];refine jL h zI rfl zI ?_;simp[j0];refine jL q zI rfl zI ?_;refine XB r λD G=>?_;by_cases O:M.length=C.length;obtain⟨R,I⟩:∃R,jdc C M=R:=⟨_,rfl⟩;rw[I];simp[O];refine j9 [(4,4),(6,6),(17,32)] C.length (λi s=>s.tm 6=.int .i64 i/\jdc (C.drop i) (M.drop i)=R) rfl rfl ⟨zS,zU I⟩ ?_;rintro i s S ⟨z,j⟩ f;have L:s.tm 1=yl b yf M:=by rw[f.t 1 zS];simp
 have F:s.tm 5=.sl D false C.length (C.flatMap WS):=by rw[f.t 5 zS];simp
 have B:s.df=[]:=by rw[f.d];simp
 clear f;by_cases c:i<C.length;have n:=jb c zO;have e:i<M.length:=zO;have N:=jja C c;have K:=jt M e;have k:ju 1 (.sl D false C.length (C.flatMap WS)) (.int .i64 (i:Int))=some (.eptr (C.flatMap WS) (i*1)):=by simp only[JF,j4 Yn];rw[zb zP];rfl
 rw[bB]at k;rw[aR c,aR e,jdc]at j;have u:=ev63 (a:=(C[i]).1) (C[i]).2 (by have:=y _ (au c);omega) M[i];simp[z,L,F,c,e,k,j7 j8,N,K];refine Jb u (by simp[yl]) rfl (by simp[yl]) ?_;cases J:(C[i]).2.contains M[i];rw[J,bE]at j;simp;exact j5 (by simp[B]) (by simp[<- j]) rfl;rw[J,bF]at j;simp[z,n];exact⟨c,j⟩;have:i=C.length:=zO;subst this;rw[dc,jdc]at j;simp[z,F];exact j5 (by simp[B]) (by simp[<- j]) rfl;have o:((M.length:Int) != C.length)=true:=by simp;omega
 have m:(M.length==C.length)=false:=by simp;omega
 simp[o];exact j5 zS (by simp[m]) rfl
def kD_own {st:St}{ub:Nat}{K:List FP->St->Prop}{d:Option Nat}{nm:Bool}{r:List AOpr}{f:FuncId}{xs:List A}{vs a:List V}{v:V}{δ:Delta}(j:xs.map (ye E st.tm)=vs) (i:E.sh nm f=true) (b:E.tw f=true)
 (k:vs.mapM (Wu st.ob)=some a) (c:Ev E f a v) (g:ja4 (jI d nm st.fb ub) ub v=some δ)
 (h:jG E r (st.app d δ) (ub+64) (kFp { wo:=δ.wo,all:=true,seen:=λl=>(st.ob l).isSome,nw:=true } K)):jG E (⟨d,.call f xs,none,nm⟩::r) st ub K:=by
 have e:jC E nm (ye E st.tm) (.call f xs)=some (f,vs):=by simp only[jC,i,j,bN,bE,ah,zc]
 simp only[jG,yJ,e];exact .inr (.inl ⟨i,b,a,v,k,c,δ,by rw[name_eq'];exact g,h⟩)
where
 name_eq':∀{d:Option Nat}{op:AOp}{nm:Bool}{fb ub:Nat},AOpr.name ⟨d,op,none,nm⟩ fb ub=jI d nm fb ub:=by
  intro d op nm fb ub;cases nm<;>rfl
end Go.Pv.T
namespace Go.Pv.T
open Go Go.Pv
end Go.Pv.T
namespace Go.Pv.T
open Go Go.Pv
end Go.Pv.T
namespace Go.Pv.T
open Go Go.Pv
end Go.Pv.T
namespace Go.Pv.T
open Go Go.Pv
def jhv {f:FuncId}{af:AF}{args:List V}{ob:ZO}{tk:Nat->Bool}{base ub:Nat}{P:V->Prop}(b:E.fs f=some af) (g:af.body.one=true) (h:wpC E YU af.body (XA args ob (λ_=>false) ub base ub) (Ws af.res P)) (i:E.fz f=false:=by rfl):∃r,EvO E f args ob tk base ub r/\P r:=by obtain⟨n,x,d,r,c,e⟩:=jmq g h λ_=>rfl;refine⟨r,⟨n+1,?_⟩,e⟩;simp only[yK,b,ap,i,ah,zc];rw[show jh E (yK E n) noY n af.body (XA args ob (λ_=>false) ub base ub)=some [x] from d];exact jkr (cQ _ _) (λy a=>by rw[ag]at a;subst a;exact c)
def jvy (l:List V) (v:V):Prop:=∃vs,v=.tup vs/\vs.map V.strip1=l/\∀p∈vs.flatMap V.toks,p<64
def noAgg:V->Bool
 | .agg _=>false
 |_=>true
def jrb {ub:Nat}{v:V}{l:List V}{K:Delta->Prop}(j:jvy l v) (f:l.all noAgg=true) (h:∀ws add,ws.map V.strip1=l->K { v:=.tup ws,add:=add }):wpD (Xt ub v) K:=by
 obtain⟨a,rfl,b,g⟩:=j;have e:Xt ub (.tup a)=some { v:=.tup (a.map (Qa ub)),add:=(a.flatMap V.toks).map (ub + ·) }:=by rw[Xt,zb (by simpa only[yx,av,dk] using g)];rfl
 rw[e,jJ];refine h _ _ ?_;rw[<- b,dl];refine dm λw c=>?_;have i:noAgg w.strip1=true:=av.1 f _ (by rw[<- b];exact aE.2 ⟨w,c,rfl⟩);cases w with
 |agg=>cases i
 |sl t k n cs=>cases t<;>rfl
 |_=>rfl
def Qk {w:V}{nl:Bool}{n:Nat}{cs:List V}(h:w.strip1=.sl none nl n cs):∃t,w=.sl t nl n cs:=by cases w<;>simp[V.strip1]at h;obtain⟨rfl,rfl,rfl⟩:=h;exact⟨_,rfl⟩
def jfq {w:V}{b:Bool}(h:w.strip1=.bool b):w=.bool b:=by cases w<;>simp[V.strip1]at h;subst h;rfl
def jdj {w:V}{k:IntKind}{b:Int}(h:w.strip1=.int k b):w=.int k b:=by cases w<;>simp[V.strip1]at h;obtain⟨rfl,rfl⟩:=h;rfl
def map2 {e c:Type}{f:e->c}{ws:List e}{a b:c}(h:ws.map f=[a,b]):∃x y,ws=[x,y]/\f x=a/\f y=b:=by
 match ws with
 |[x,y]=>simp only[bc,co,eD,and_true]at h;exact⟨x,y,rfl,h.1,h.2⟩
 |[]=>simp at h
 |[_]=>simp at h
 |_::_::_::_=>simp at h
def map3 {g e:Type}{f:g->e}{ws:List g}{a b c:e}(h:ws.map f=[a,b,c]):∃x y z,ws=[x,y,z]/\f x=a/\f y=b/\f z=c:=by
 match ws with
 |[x,y,z]=>simp only[bc,co,eD,and_true]at h;exact⟨x,y,z,rfl,h.1,h.2.1,h.2.2⟩
 |[]=>simp at h
 |[_]=>simp at h
 |[_,_]=>simp at h
 |_::_::_::_::_=>simp at h
def jrc {ub:Nat}{v:V}{a1 a2 b:Bool}{n1 f:Nat}{c1 e:List V}{K:Delta->Prop}(k:jvy [.sl none a1 n1 c1,.sl none a2 f e,.bool b] v)
 (h:∀c a add,K { v:=.tup [.sl c a1 n1 c1,.sl a a2 f e,.bool b],add:=add }):wpD (Xt ub v) K:=by
 refine jrb k rfl λws add g=>?_;obtain⟨x,y,z,rfl,l,i,j⟩:=map3 g;obtain⟨c,rfl⟩:=Qk l;obtain⟨a,rfl⟩:=Qk i;obtain rfl:=jfq j;exact h c a add
def retSB {ub:Nat}{v:V}{a1 b:Bool}{n1:Nat}{c1:List V}{K:Delta->Prop}(f:jvy [.sl none a1 n1 c1,.bool b] v)
 (h:∀a add,K { v:=.tup [.sl a a1 n1 c1,.bool b],add:=add }):wpD (Xt ub v) K:=by
 refine jrb f rfl λws add c=>?_;obtain⟨x,z,rfl,g,e⟩:=map2 c;obtain⟨a,rfl⟩:=Qk g;obtain rfl:=jfq e;exact h a add
def jxk {ub:Nat}{v:V}{a1:Bool}{k:IntKind}{b:Int}{n1:Nat}{c1:List V}{K:Delta->Prop}(f:jvy [.sl none a1 n1 c1,.int k b] v)
 (h:∀a add,K { v:=.tup [.sl a a1 n1 c1,.int k b],add:=add }):wpD (Xt ub v) K:=by
 refine jrb f rfl λws add c=>?_;obtain⟨x,z,rfl,g,e⟩:=map2 c;obtain⟨a,rfl⟩:=Qk g;obtain rfl:=jdj e;exact h a add
def j5r (st:St) (v w:V):Prop:=∀keep i,∃a,XD st keep i v=some a/\a.strip1=w/\(a.toks=[]\/a.toks=[i])
def jtd (st:St):List V->List V->Prop
 |[],[]=>True
 |v::vs,w::ws=>j5r st v w/\jtd st vs ws
 |_,_=>False
def ja {st:St}{v:V}(h:v.pureLeaf=true):j5r st v v:=by
 intro keep i;refine⟨v,?_,YI h,.inl ?_⟩;cases v with
 |agg=>cases h
 |fn=>cases h
 |_=>exact YT (st:=st) (keep:=keep) (i:=i) h
 cases v with
 |agg=>cases h
 |_=>exact jqw h
def YJ {st:St}{v:V}{nl:Bool}{n:Nat}{cs:List V}(c:v.leaf=true) (h:jde st v nl n cs):j5r st v (.sl none nl n cs):=by
 intro keep i;obtain⟨a,b,e⟩:=h keep i;refine⟨.sl a nl n cs,?_,rfl,?_⟩;rw[<- b];cases v with
 |agg=>cases c
 |fn=>simp only[jw,Ja]at b;split at b<;>cases b
 |_=>rfl
 rcases e with rfl|⟨z,rfl⟩;exact .inl rfl;exact .inr rfl
def Wp {st:St}{keep:Bool}:∀{vs ls:List V}{i:Nat},jtd st vs ls->∃b,Je st keep i vs=some b/\b.map V.strip1=ls/\(∀p∈b.flatMap V.toks,i<=p/\p<i+16*vs.length)/\yH (b.flatMap V.toks)=true
 |[],[],i,_=>⟨[],rfl,rfl,zS,rfl⟩
 |v::vs,w::ws,i,h=>by obtain⟨a,n,k,e⟩:=h.1 keep i;obtain⟨b,j,l,f,g⟩:=Wp (keep:=keep) (i:=i+16) h.2;refine⟨a::b,by simp only[Je,n,ap,j,aU],by rw[bc,k,l],λp c=>?_,?_⟩;rw[aZ,aQ]at c;simp only[bh];rcases c with c|c;rcases e with e|e<;>rw[e]at c<;>simp at c;omega;have:=f p c;omega;rw[aZ];rcases e with e|e<;>rw[e];exact g;simp only[List.singleton_append,yH,ab,g,and_true,bG];rw[eN];intro o;obtain⟨p,c,m⟩:=bD.1 o;have:=bo m;have:=f p c;omega
 |[],_::_,_,h=>h.elim
 |_::_,[],_,h=>h.elim
def jrg (st:St):∀a:List Nat,(a.map ARes.t).mapM (jv st)=some (a.map st.tm)
 |[]=>rfl
 |n::a=>by rw[bc,bP,jrg st a];rfl
def jor {ns:List Nat}{st:St}{vs ls:List V}{P:V->Prop}(n:∀r,jvy ls r->P r) (f:st.df=[]) (h:ns.map st.tm=vs) (u:2<=vs.length) (x:vs.length<=4) (g:jtd st vs ls):Ws (ns.map .t) P .ret st:=by
 obtain⟨c,k,j,o,s⟩:=Wp (keep:=yH (vs.flatMap V.toks)) (i:=0) g;have e:2<=c.length:=by
  have m:=zg List.length j;have:∀{vs ls:List V},jtd st vs ls->vs.length=ls.length:=by
   intro vs;induction vs with
   |nil=>intro ls h;cases ls with|nil=>rfl|cons=>exact h.elim
   |cons v vs q=>intro ls h;cases ls with|nil=>exact h.elim|cons w ws=>rw[bh,bh,q h.2]
  have:=this g;simp only[bm]at m;omega
 refine⟨.tup c,?_,n _ ⟨c,rfl,j,λp l=>by have:=o p l;omega⟩⟩;simp only[jc2,WB f,W0 f,zd,jrg,h,ap,WQ,k,s];match c,e with
 |a::b::r,_=>rfl
section
variable {E:Env}{Yf:YF}{st:St}{ub:Nat}{K:St->Nat->Prop}{d:Option Nat}{nm:Bool}
def jk3 {sz a n:Nat}{zero:List V}{x y:A}(b:ye E st.tm x=.int .i64 (n:Int)) (f:ye E st.tm y=.int .i64 (n:Int)) (e:n*a<=140737488355328) (i:n<=140737488355328) (g:zero.length=sz) (c:0<sz)
 (h:QW K st d ub { v:=.osl (jI d nm st.fb ub) ub 0 n sz,obs:=[(jI d nm st.fb ub,⟨ub,.cells (ja8 n zero)⟩)] }):jB E Yf ⟨d,.mkSl true sz a zero x y,none,nm⟩ st ub K:=by
 rw[jR _ rfl rfl];simp only[yS,b,f];rw[zb (by refine⟨zO,zO,?_,zO,g,c⟩;rw[<- fZ];exact gV.2 e),za zS,Jo,jJ];simp only[aX,Jm];exact h
end
def Upto (n i:Nat) (J:List Int) (cs:List V):Prop:=cs.length=n/\(∀j,j<i->cs[j]? = (J.flatMap yf)[j]?)/\cs.all V.pureLeaf=true
def Upto.set {n i:Nat}{J:List Int}{cs:List V}(h:Upto n i J cs) (hi:i<n) {x:Int}(m:J[i]? = some x):Upto n (i+1) J (j6 cs i [.int .i64 x]):=by
 obtain⟨g,f,k⟩:=h;have l:j6 cs i [.int .i64 x]=cs.set i (.int .i64 x):=by unfold j6;rw[dK,zb zO,bj];rfl
 rw[l];refine⟨by rw[dO];exact g,λj o=>?_,?_⟩;by_cases a:j=i;subst a;have c:=(aj.1 m);rw[dF zO,jt J c.1,c.2];rw[cP (λe=>a e.symm)];exact f j zO;refine av.2 λy b=>?_;rcases List.mem_or_eq_of_mem_set b with b|rfl
 exact av.1 k y b;rfl
def Upto.whole {n:Nat}{J:List Int}{cs:List V}(h:Upto n n J cs) (b:J.length=n):cs=J.flatMap yf:=by apply dC;intro j;by_cases a:j<n;exact h.2.1 j a;rw[dJ (by rw[h.1];omega),dJ (by rw[j4 j8];omega)]
def Upto.zero (n:Nat) (J:List Int):Upto n 0 J (ja8 n [.int .i64 0]):=by refine⟨by simp[ja8],λj b=>by omega,?_⟩;refine av.2 λy a=>?_;simp only[ja8,aE]at a;obtain⟨i,_,rfl⟩:=a;simp[V.pureLeaf,Nat.mod_one]
def jcw {st:St}{ub:Nat}{K:List FP->St->Prop}{d:Option Nat}{nm:Bool}{r:List AOpr}{f:FuncId}{xs:List A}{vs:List V}{v:V}{δ:Delta}(i:xs.map (ye E st.tm)=vs) (g:E.sh nm f=false) (hp:(vs.all λv=>v.strip.pureTop)=false)
 (a:EvO E f vs st.ob st.tk ((st.fb+d.getD 0+1)*1024) (ub+64*(r.length+1)) v) (e:Xt ub v=some δ)
 (h:jG E r (st.app d δ) (ub+64) (kFp { wt:=δ.wt,all:=true,seen:=λl=>(st.ob l).isSome } K)):jG E (⟨d,.call f xs,none,nm⟩::r) st ub K:=by
 have b:(xs.all λx=>(ye E st.tm x).strip.pureTop)=false:=by rw[<- i,dG]at hp;exact hp
 have c:jC E nm (ye E st.tm) (.call f xs)=some (f,vs):=by simp only[jC,g,i,b,cp,dz,ah,zc]
 simp only[jG,yJ,c];exact .inl ⟨g,v,a,δ,e,h⟩
def j9s {st:St}{ub:Nat}{K:List FP->St->Prop}{d:Option Nat}{nm:Bool}{r:List AOpr}{f:FuncId}{xs:List A}{vs:List V}{l:List Int}(e:xs.map (ye E st.tm)=vs) (c:E.sh nm f=false) (hp:(vs.all λv=>v.strip.pureTop)=false)
 (i:∃v,EvO E f vs st.ob st.tk ((st.fb+d.getD 0+1)*1024) (ub+64*(r.length+1)) v/\j1l l v)
 (h:∀t a add,jG E r (st.app d { v:=.sl t a l.length (l.flatMap yf),add:=add }) (ub+64) (kFp { wt:=add,all:=true,seen:=λl=>(st.ob l).isSome } K)):jG E (⟨d,.call f xs,none,nm⟩::r) st ub K:=by
 obtain⟨v,g,a,j⟩:=i;obtain⟨t,add,b⟩:=jkh (ub:=ub) j;exact jcw e c hp g b (h t a add)
def blC (b:Bool):List V:=[.bool b]
@[simp] theorem jqj (b:Bool):(blC b).length=1:=rfl
def bl_at (l:List Bool) {i:Nat}(h:i<l.length):(l.flatMap blC)[i]? = some (.bool l[i]):=by have:=jZ jqj l h (by decide:0<1);simpa[blC] using this
end Go.Pv.T
namespace Go.Pv.T
open Go Go.Pv Go.Sort
@[simp] theorem cellV_lf (v:Val'):(jd8 v).leaf=true:=by unfold jd8;split;rfl;split<;>rfl
def lessV (a b:Val'):Bool:=if a.kind=b.kind then (a.kind==1&&decide (a.n<b.n)) else decide (a.kind<b.kind)
def cmpV (a b:Val'):Int:=if jtn a&&jtn b&&lessV a b then -1 else if jtn b&&jtn a&&lessV b a then 1 else 0
abbrev VV:Type:={ v:Val' // jtn v=true }
instance:Inhabited VV:=⟨⟨⟨0,0⟩,rfl⟩⟩
def vvC (v:VV):List V:=J4 v.1
@[simp] theorem j7d (v:VV):(vvC v).length=2:=rfl
@[simp] theorem vvC_leaf (v:VV):∀x∈vvC v,x.leaf=true:=by intro x a;simp only[vvC,J4,bt,cZ,or_false]at a;rcases a with rfl|rfl<;>rfl
@[simp] theorem vvC_leafs (v:VV):(vvC v).all V.leaf=true:=rfl
@[simp] theorem vvC_strip1 (v:VV):(vvC v).map V.strip1=vvC v:=rfl
@[simp] theorem vvC_pure (v:VV):(vvC v).all V.pureLeaf=true:=rfl
def ltVV (a b:VV):Bool:=decide (cmpV a.1 b.1<0)
@[simp] theorem ltVV_fold (a b:VV):decide (cmpV a.1 b.1<0)=ltVV a b:=rfl
@[simp] theorem arrV_len (d:Array VV):(arr vvC d).length=d.size*2:=j08 (sz:=2) j7d d
end Go.Pv.T
namespace Go.Pv.T.Vs
open Go Go.Pv Go.Pv.T Go.Sort
end Go.Pv.T.Vs
namespace Go.Pv.T.Vs
open Go Go.Pv Go.Pv.T Go.Sort
end Go.Pv.T.Vs
namespace Go.Pv.T.Vs
open Go Go.Pv Go.Pv.T Go.Sort
end Go.Pv.T.Vs
namespace Go.Pv.T.Vs
open Go Go.Pv Go.Pv.T Go.Sort
end Go.Pv.T.Vs
namespace Go.Pv.T.Vs
open Go Go.Pv Go.Pv.T Go.Sort
end Go.Pv.T.Vs
namespace Go.Pv.T.Vs
open Go Go.Pv Go.Pv.T Go.Sort
end Go.Pv.T.Vs
namespace Go.Pv.T.Vs
open Go Go.Pv Go.Pv.T Go.Sort
end Go.Pv.T.Vs
namespace Go.Pv.T.Vs
open Go Go.Pv Go.Pv.T Go.Sort
end Go.Pv.T.Vs
namespace Go.Pv.T.Vs
open Go Go.Pv Go.Pv.T Go.Sort
end Go.Pv.T.Vs
namespace Go.Pv.T.Vs
open Go Go.Pv Go.Pv.T Go.Sort
end Go.Pv.T.Vs
namespace Go.Pv.T.Vs
open Go Go.Pv Go.Pv.T Go.Sort
end Go.Pv.T.Vs
namespace Go.Pv.T
open Go Go.Pv
@[simp] theorem jaj (v:Val'):(J4 v).length=2:=rfl
def j5y (a b:Val'):(a==b)=(a.kind==b.kind&&a.n==b.n):=by obtain⟨a1,a2⟩:=a;obtain⟨b1,b2⟩:=b;rw[bz];simp
def j3n (ob:ZO) (l:List Val') {i:Nat}(h:i<l.length):W3 ob (some 2) (.eptr (l.flatMap J4) (i*2))=some (.agg (J4 l[i])):=jd jaj ob l h
def idxJ:List (Bool×List Int)->List Int->List Int
 |c::cs,m::ms=>yG c.2 m 0::idxJ cs ms
 |_,_=>[]
def jk9:∀(C:List (Bool×List Int)) (M:List Int),C.length=M.length->(idxJ C M).length=C.length
 |[],[],_=>rfl
 |c::cs,m::ms,h=>by simp only[idxJ,bh]at h ⊢;rw[jk9 cs ms zO]
 |[],_::_,h=>by simp at h
 |_::_,[],h=>by simp at h
def jp5:∀(C:List (Bool×List Int)) (M:List Int) (i:Nat) (h:i<C.length) (a:i<M.length),(idxJ C M)[i]? = some (yG (C[i]).2 M[i] 0)
 |c::cs,m::ms,0,_,_=>rfl
 |c::cs,m::ms,i+1,h,a=>by simp only[idxJ,bS,eM];exact jp5 cs ms i (zU h) (zU a)
 |[],_,_,h,_=>by simp at h
 |_::_,[],_,_,h=>by simp at h
def jsm (k:Int):∀(l:List Int) (n:Nat),yG l k n<(n+l.length:Nat)
 |[],n=>by simp only[yG,ct];omega
 |x::r,n=>by rw[yG];split;simp only[bh];omega;have:=jsm k r (n+1);simp only[bh];omega
def XT (g:Hist') (M:List Int):Option (List Int):=if jX g&&((yv g).length==M.length&&(idxJ (yv g) M).all λx=>decide (0<=x)) then some (idxJ (yv g) M) else none
def jlo (g:Hist') (r:Option (List Int)) (v:V):Prop:=match r with
 |some J=>jvy [.sl none (yv g).isEmpty (yv g).length ((yv g).flatMap WS),.sl none false J.length (J.flatMap yf),.bool true] v
 |none=>jvy [.sl none true 0 [],.sl none true 0 [],.bool false] v
def js4 {g:Hist'}(a:Small g):(yv g).length<=1000000:=by unfold yv;rw[bm];exact jmf a
def jqh {g:Hist'}(_:Small g):∀x∈yv g,x.1=x.2.isEmpty/\x.2.length<=41:=by
 intro x a;unfold yv jbt at a;split at a;rename_i b;obtain⟨p,_,rfl⟩:=aE.1 a;have c:Yr g=true:=by unfold jX at b;simp only[ab]at b;exact b.1
 exact⟨rfl,jpi c _ _⟩;simp at a
def ev98 {g:Hist'}(hs:Small g) {b:Bool}(M:List Int) (hM:M.length<=1000000):∃v,Ev E 98 [.agg (ya g),yl b yf M] v/\jlo g (XT g M) v:=by
 obtain⟨vc,b0,K⟩:=ev73 hs;have b8:=ev30 hs;have b7:=js4 hs;have I:=jqh hs;have w:∀{p:St}{P:V->Prop},p.df=[]->p.tm 4=.sl none true 0 []->p.tm 5=.sl none true 0 []->p.tm 6=.bool false->XT g M=none->Ws [.t 4,.t 5,.t 6] (jlo g (XT g M)) .ret p:=by intro p _ hd h4 h5 h6 hp;rw[hp];exact jor (ns:=[4,5,6]) (vs:=[.sl none true 0 [],.sl none true 0 [],.bool false]) (λr h=>h) hd (by simp[h4,h5,h6]) zS zS ⟨ja rfl,ja rfl,ja rfl,trivial⟩
 refine X6 rfl zQ ?_;obtain⟨P,hP⟩:∃P,jlo g (XT g M)=P:=⟨_,rfl⟩;have D:=λp h1 h2 h3 h4 h5=>hP▸@w p (λ_=>True) h1 h2 h3 h4 h5;rw[hP];obtain⟨C,hC⟩:∃C,yv g=C:=⟨_,rfl⟩;rw[hC]at K b7 I;conv in(occs:=*)F98=>all_goals cbv
 simp[ya,j0];refine jL b0 zI rfl zI ?_;refine XB K λtc c1=>?_;simp[j0];refine jL b8 zI rfl zI ?_;cases hw:jX g;simp;exact D _ zS zS zS zS (by simp[XT,hw]);by_cases B:¬C.length=M.length;have q:((C.length:Int) != M.length)=true:=by simp;omega
 simp[q];exact D _ zS zS zS zS (by simp[XT,hC,B]);have B:C.length=M.length:=dt B;have q:((C.length:Int) != M.length)=false:=by simp;omega
 simp[q];refine jk3 (n:=M.length) zS zS zO zO rfl zQ ?_;simp;obtain⟨J,hJ⟩:∃J,idxJ C M=J:=⟨_,rfl⟩;have S:J.length=M.length:=by rw[<- hJ,jk9 C M B];exact B
 have o:=jp5 C M;rw[hJ]at o;have e:XT g M=if J.all (λx=>decide (0<=x)) then some J else none:=by unfold XT;rw[hC,hJ,hw,B];simp
 refine j9 [(4,6),(9,10),(28,47)] C.length (λi s=>s.tm 28=.int .i64 i/\(∃cs,s.ob 2433=some ⟨1216,.cells cs⟩/\Upto M.length i J cs)/\(J.take i).all (λx=>decide (0<=x))=true) rfl rfl ⟨zS,⟨_,zS,Upto.zero _ _⟩,zS⟩ ?_;rintro i s hi ⟨z,⟨cs,T,F⟩,k⟩ f;have f1:s.tm 1=yl b yf M:=by rw[f.t 1 zS];simp
 have f7:s.tm 7=.sl tc C.isEmpty C.length (C.flatMap WS):=by rw[f.t 7 zS];simp
 have f8:s.tm 8=.osl 2433 1216 0 M.length 1:=by rw[f.t 8 zS];simp
 have b5:s.tm 26=.sl tc C.isEmpty C.length (C.flatMap WS):=by rw[f.t 26 zS];simp
 have N:s.tm 27=.int .i64 C.length:=by rw[f.t 27 zS];simp
 have fd:s.df=[]:=by rw[f.d];simp
 have fr:s.ro=0:=by rw[f.r];simp
 clear f;by_cases j:i<C.length;have a0:=jb j zO;have c:i<M.length:=zO;have h1:=jja C j;have h2:=jt M c;have H:ju 1 (.sl tc C.isEmpty C.length (C.flatMap WS)) (.int .i64 (i:Int))=some (.eptr (C.flatMap WS) (i*1)):=by simp only[JF,j4 Yn];rw[zb zP];rfl
 rw[bB]at H;have b6:=j6j (l:=2433) (u:=1216) (n:=M.length) (kk:=.i64) (X:=(i:Int)) rfl c;have Z:=ev148 (a:=(C[i]).1) (C[i]).2 (by have:=(I _ (au j)).2;omega) M[i];have m:=o i j c;generalize yG (C[i]).2 M[i] 0=x at *;have O:=F.set c m;have Q:(j6 cs i [.int .i64 x])[i]? = some (.int .i64 x):=by rw[O.2.1 i zO];have L:=aj.1 m;rw[jt J L.1,L.2]
 have c0:=F.1;have b9:i+1<=M.length:=c;simp[z,f1,f8,b5,N,j,c,H,j7 j8,h1,h2];refine jL Z (by simp[yl]) rfl (by simp[yl]) ?_;simp[b6,T,j0,fr,c0,b9,f8,Q];by_cases hx:x<0;simp[hx];refine D _ (by simp[fd]) zS zS zS ?_;rw[e];have hm:x∈J:=aH m;rw[za];rw[av];intro h;have:=h x hm;simp at this;omega;simp[hx,z,a0];refine⟨j,O,λy G=>?_⟩;rw[gN,m,aQ]at G;rcases G with G|G;simpa using av.1 k y G;simp at G;omega;have:i=C.length:=zO;subst this;simp[z,N];rw[aJ zO]at k;rw[B]at F;have U:=F.whole S;rw[<- hP,e,zb k];subst U;refine jor (ns:=[4,5,6]) (vs:=[.sl tc C.isEmpty C.length (C.flatMap WS),.osl 2433 1216 0 M.length 1,.bool true]) (λr h=>h) (by simp[fd]) (by simp[f7,f8]) zS zS ⟨?_,?_,ja rfl,trivial⟩;rw[hC];exact YJ rfl (Xc _ _ _ _ _);rw[S];exact YJ rfl (jfu (by simp[T]) F.1 (by simp[fr]) F.2.2)
def ev114 {g:Hist'}(i:Small g) {b:Bool}(M:List Int) (h:M.length<=1000000):Ev E 114 [.agg (ya g),yl b yf M] (.bool (XT g M).isSome):=by
 obtain⟨v,d,a⟩:=ev98 i (b:=b) M h;refine jQ rfl ?_;conv in(occs:=*)F114=>all_goals cbv
 simp[ya,j0];refine jL d zH rfl zH ?_;cases c:XT g M with
 |none=>rw[c]at a;refine jrc a λf e add=>?_;simp;exact j5 zS zS rfl
 |some J=>rw[c]at a;refine jrc a λf e add=>?_;simp;exact j5 zS zS rfl
def jn7:∀(C D:List (Bool×List Int)) (M:List Int),C.map (·.2)=D.map (·.2)->jdc D M=((idxJ C M).all (λx=>decide (0<=x))&&decide (C.length<=M.length))
 |[],[],M,_=>by cases M<;>simp[jdc,idxJ]
 |c::C,d::D,[],_=>by simp[jdc]
 |c::C,d::D,m::M,h=>by
  simp only[bc,eD]at h;have a:=jn7 C D M h.2;have e:=je8 m c.2 0;have b:decide (0<=yG c.2 m 0)=c.2.contains m:=by
   have:decide (0<=yG c.2 m 0) = !decide (yG c.2 m 0<0):=by by_cases h:yG c.2 m 0<0;simp[h];simp[h];omega
   rw[this,e,Bool.not_not]
  simp only[jdc,idxJ,bH,a,b,<- h.1,bh,Nat.add_le_add_iff_right];rw[fw]
 |[],_::_,_,h=>by simp at h
 |_::_,[],_,h=>by simp at h
def jhg {g:Hist'}(a:jX g=true):(yv g).map (·.2)=(choR g).map (·.2):=by unfold yv choR jbt;rw[zb a];simp[dl,Function.comp_def]
def cho_len {g:Hist'}(a:jX g=true):(yv g).length=(choR g).length:=by have:=zg List.length (jhg a);simpa using this
def j4l (g:Hist') (M:List Int):(XT g M).isSome=Xl g M:=by
 unfold XT Xl;cases d:jX g;simp;rw[jn7 _ _ M (jhg d),cho_len d];by_cases b:M.length=(choR g).length;have a:((choR g).length==M.length)=true:=by simp[b]
 have c:(M.length==(choR g).length)=true:=by simp[b]
 rw[a,c];simp only[bF,b,dx,decide_true,eA];split;rename_i h;simp[h];rename_i h;simp only[cM];simpa using h;have a:((choR g).length==M.length)=false:=by simp;omega
 have c:(M.length==(choR g).length)=false:=by simp;omega
 rw[a,c];simp
@[simp] theorem eqVV_bool (ob:ZO) (neg a b:Bool):j1j ob neg .bool (.bool a) (.bool b)=some (.bool (xor neg (a==b))):=rfl
def j8b {ub:Nat}{r:V}{g:Hist'}{K:Delta->Prop}(h:jv2 r g)
 (e:∀a b c add,K { v:=.agg [.sl a g.sn g.ss.length (g.ss.flatMap Jp),.sl b g.kn g.ks.length (g.ks.flatMap Jp),.sl c g.tn g.ts.length (g.ts.flatMap jl)],add:=add }):wpD (Xt ub r) K:=by
 obtain⟨a,b,c,add,d⟩:=jt7 (ub:=ub) h;rw[d,jJ];exact e a b c add
def jb9 {c:Type}{f:c->List V}{k:Nat}(b:∀a,(f a).length=k):∀(l:List c) (n:Nat),(l.flatMap f).take (n*k)=(l.take n).flatMap f
 |[],n=>by simp
 |a::l,0=>by simp
 |a::l,n+1=>by rw[aZ,eZ,aZ,cJ,fl,<- b a,fm,b a,jb9 b l n]
section
variable {E:Env}{st:St}{ub:Nat}{K:List FP->St->Prop}{d:Option Nat}{nm:Bool}{r:List AOpr}
def nbeq {a b:Nat}(h:a≠b):a.beq b=false:=by cases e:a.beq b;rfl;exact zf (bo e) h
@[simp] theorem j7f (v:Val'):(J4 v).map V.strip1=J4 v:=rfl
def j9w {sz a n:Nat}{t:Option (Nat×Nat)}{cs:List V}{s x:A}(c:ye E st.tm s=.sl t false n cs) (e:jF st.ob sz (ye E st.tm x)=some []) (b:cs.length=n*sz)
 (h:YW E r K (ye E st.tm) (.append false sz a s x) st d ub { v:=.sl t false n cs }):jG E (⟨d,.append false sz a s x,none,nm⟩::r) st ub K:=by
 rw[jz rfl];simp only[yS,c,e,ap,zd];rw[zb b,WV];exact h
def jz0 {sz a u n:Nat}{cs ys:List V}{s x:A}(j:ye E st.tm s=.sl (some (u,sz)) false n cs) (e:st.tk u=true) (k:jF st.ob sz (ye E st.tm x)=some ys) (c:ys≠[]) (b:cs.length=n*sz) (g:0<sz)
 (hp:ys.all V.pureLeaf=true) (i:(n+ys.length/sz)*a<=140737488355328) (f:n+ys.length/sz<=140737488355328) (h:YW E r K (ye E st.tm) (.append false sz a s x) st d ub { v:=.sl (some (ub,sz)) false (n+ys.length/sz) (cs++ys),del:=some u,add:=[ub] }) :
 jG E (⟨d,.append false sz a s x,none,nm⟩::r) st ub K:=by
 rw[jz rfl];simp only[yS,j,k,ap,za c,bE,ah,zc];rw[zb ⟨b,g,hp,i,f⟩,zb (by simp[e]),jJ];exact h
end
def joy {c:Type}{f:c->List V}{sz:Nat}(b:∀a,(f a).length=sz) (t:Option (Nat×Nat)) (nl:Bool) (l:List c) {k:Nat}(i:k<=l.length):Y5 sz none (some (.int .i64 (k:Int))) (.sl t nl l.length (l.flatMap f))=some (.sl none nl (l.take k).length ((l.take k).flatMap f)):=by
 have h:(l.take k).length=k:=by rw[ai];omega
 have e:=jb9 b l k;have g:(k:Int)<=l.length:=zO;simp[Y5,Js,j4 b,h,e,g]
def jnu {c:Type}{f:c->List V}{k:Nat}(b:∀a,(f a).length=k):∀(l:List c) (n:Nat),(l.flatMap f).drop (n*k)=(l.drop n).flatMap f
 |[],n=>by simp
 |a::l,0=>by simp
 |a::l,n+1=>by rw[aZ,List.drop_succ_cons,cJ,fl,<- b a,fo,b a,jnu b l n]
def j7u {c:Type}{f:c->List V}{sz:Nat}(b:∀a,(f a).length=sz) (t:Option (Nat×Nat)) (nl:Bool) (l:List c) {k:Nat}(g:k<=l.length):Y5 sz (some (.int .i64 (k:Int))) none (.sl t nl l.length (l.flatMap f))=some (.sl none nl (l.drop k).length ((l.drop k).flatMap f)):=by have e:=jnu b l k;have i:(k:Int)<=l.length:=zO;have h:(l.flatMap f).take (l.length*sz)=l.flatMap f:=aJ (by rw[j4 b];exact dx _);simp[Y5,Js,j4 b,e,h];exact g
def jig {L u n i:Nat}(h:i<=n):Y5 2 (some (.int .i64 (i:Int))) none (.osl L u 0 n 2)=some (.osl L u (i*2) (n-i) 2):=by have a:(i:Int)<=n:=zO;simp[Y5,Js];omega
def j2h {L u n i:Nat}(h:i<=n):Y5 2 none (some (.int .i64 (i:Int))) (.osl L u 0 n 2)=some (.osl L u 0 i 2):=by have a:(i:Int)<=n:=zO;simp[Y5,Js,a]
def idx2 {l u off n x:Nat}{kk:IntKind}{X:Int}(a:X=(x:Nat)) (b:x<n):ju 2 (.osl l u off n 2) (.int kk X)=some (.ptr l u (off+x*2)):=by subst a;have:(x:Int)<n:=zO;simp[ju,this]
def ld2 {ob:ZO}{l u:Nat}{M:List Val'}{x:Nat}(a:ob l=some ⟨u,.cells (M.flatMap J4)⟩) (b:x<M.length):W3 ob (some 2) (.ptr l u (x*2))=some (.agg (J4 M[x])):=by have h:=j3n ob M b;rw[<- h];simp only[W3,j0,a,zd,ap]
def st2 {M:List Val'}{x:Nat}(a:x<M.length) (v:Val'):j6 (M.flatMap J4) (x*2) (J4 v)=(M.set x v).flatMap J4:=jaw jaj v M x a
def Jd (T:List Val'):Nat->List Val'
 |0=>[]
 |j+1=>Jd T j++(if 0<j/\T[j-1]? = T[j]? then [] else T[j]?.toList)
def jjs (T:List Val'):∀j,j<=T.length->(Jd T j).length<=j
 |0,_=>by simp[Jd]
 |j+1,h=>by have:=jjs T j zO;simp only[Jd,aw,aa (show j<T.length by omega)];split<;>simp<;>omega
def jnw {T:List Val'}{j:Nat}(a:0<j) (h:j<T.length) (b:T[j]=T[j-1]):Jd T (j+1)=Jd T j:=by simp only[Jd];rw[zb ⟨a,by rw[aa zO,aa h,b]⟩,aP]
def jhb {T:List Val'}{j:Nat}(h:j<T.length) (c:0<j->T[j]≠T[j-1]):Jd T (j+1)=Jd T j++[T[j]]:=by simp only[Jd];rw[za,aa h];rfl;rintro⟨b,a⟩;rw[aa zO,aa h]at a;exact c b (cm a).symm
def CompP (l u n:Nat) (C:List Val') (ob:ZO) (tk:Nat->Bool) (ub:Nat) (r:V×(ZO)×(Nat->Bool)×Nat):Prop :=
 r.1=.osl l u 0 C.length 2/\(∃cs,r.2.1 l=some ⟨u,.cells cs⟩/\cs.length=n*2/\C.length<=n/\cs.take (C.length*2)=C.flatMap J4)/\(∀key,key≠l->r.2.1 key=ob key)/\r.2.2.1=tk/\ub<=r.2.2.2
end Go.Pv.T
namespace Go.Pv.T
open Go Go.Pv
end Go.Pv.T
namespace Go.Pv.T
open Go Go.Pv
end Go.Pv.T
