/- Part. -/
import Derived.Test.YtmanndcfeicokaaGreatDoorTAV
set_option maxRecDepth 100000
set_option maxHeartbeats 8000000
set_option linter.all false
namespace Go.Pv.T
open Go Go.Pv
def NumE (r:List Int×Int) (v:V):Prop:=∃nl,(nl=true->r.1=[])/\jvy [.sl none nl r.1.length (r.1.flatMap yf),.int .i64 r.2] v
def jks {st:St}{a b:Nat}{r:List Int×Int}{t:Option (Nat×Nat)}{nl:Bool}(c:st.df=[]) (d:st.tm a=.sl t nl r.1.length (r.1.flatMap yf)) (f:st.tm b=.int .i64 r.2) (e:nl=true->r.1=[]):Ws [.t a,.t b] (NumE r) .ret st :=
 jor (ns:=[a,b]) (vs:=[.sl t nl r.1.length (r.1.flatMap yf),.int .i64 r.2]) (ls:=[.sl none nl r.1.length (r.1.flatMap yf),.int .i64 r.2]) (λ_ h=>⟨nl,e,h⟩) c (by simp[d,f]) zS zS ⟨YJ rfl (Xc _ t nl _ _),ja rfl,trivial⟩
section
end
def jtc (l:List Int) (g:FuncId) (cap:V) (p:Int->Bool) (ob:ZO):Prop:=∀(Yf:YF) (x:Int),x∈l->∀(tk:Nat->Bool) (ro base ub:Nat),∃r,EvS E Yf.y g [.int .i64 x,cap] ob tk ro base ub r/\(r.1=.bool (p x)/\r.2.1=ob/\r.2.2.1=tk/\ub<=r.2.2.2)
def jen {Yf:YF}{q x:A}{st:St}{ub:Nat}{K:St->Nat->Prop}{d:Option Nat}{nm:Bool}{l:List Int}{g:FuncId}{cap:V}{p:Int->Bool}{ob0:ZO}{k:Int}(hp:jtc l g cap p ob0) (t:k∈l) (b:st.ob=ob0) (u:ye E st.tm q=.fn (.func g) [] [cap]) (s:ye E st.tm x=.int .i64 k)
 (r:E.sh nm g=true) (h:∀a,ub<=a->K (jt6 st d (.bool (p k)) ob0 st.tk) a):jB E Yf ⟨d,.callV q [x],none,nm⟩ st ub K:=by
 refine jzj (f:=g) (first:=[]) (captured:=[cap]) (vs:=[.int .i64 k,cap]) u (by simp[s]) r (by rw[b];exact hp Yf k t st.tk st.ro _ ub) ?_;rintro v n o c ⟨m,e,i,j⟩;simp only at m e i j;subst m e i;exact h c j
def evo147b {p:Int->Bool}{l:List Int}{g:FuncId}{cap:V}{ob:ZO}(B:E.sh true g=true) (hp:jtc l g cap p ob) {L u:Nat}{cs:List V}(x:ob L=some ⟨u,.cells cs⟩) (z:cs.take l.length=l.flatMap yf) (F:l.length<=1000000) (tk:Nat->Bool) (base ub:Nat) :
 EvO E 147 [.osl L u 0 l.length 1,.fn (.func g) [] [cap]] ob tk base ub (.int .i64 (W8 p l)):=by
 refine J1 rfl ?_;conv in(occs:=*)S147=>all_goals cbv
 simp;refine Yk (n:=l.length) (λk s=>∃i,k=l.length-i/\i<=l.length/\s.df=[]/\s.ob=ob/\s.tm 0=.osl L u 0 l.length 1/\s.tm 1=.fn (.func g) [] [cap]/\s.tm 7=.int .i64 l.length/\s.tm 8=.int .i64 i/\∀j (c:j<l.length),j<i->p l[j]=false)
  ⟨0,zS⟩ ?_
 rintro k s ⟨i,rfl,G,e,d,v,w,r,f,o⟩;by_cases a:i<l.length;have m:=j6j (l:=L) (u:=u) (n:=l.length) (kk:=.i64) (X:=(i:Int)) rfl a;have q:=OwnI.at z a;simp[v,w,r,f,a,m,j0,d,x,q];refine jen hp (au a) (by simpa using d) zS (k:=l[i]) zS B λD y=>?_;cases b:p l[i];simp[v,w,r,f,e];refine⟨l.length-(i+1),zO,i+1,rfl,zO,by rw[jk zO zO];simp,?_⟩;intro j c t;rcases bg.1 t with h|rfl
 exact o j c h;exact b;simp;refine j5 (by simpa using e) ?_ rfl;simp;rw[YZ a b o];have:i=l.length:=zO;subst this;simp[r,f];refine j5 (by simpa using e) ?_ rfl;simp[W7 (λj c=>o j c c)]
def sv153b {Yf:YF}{g:FuncId}{a b c:Nat}{p:Int->Bool}(hg:E.sh true g=true) {ob:ZO}{tk:Nat->Bool}{ro base ub L u:Nat}{l:List Int}(hl:l.length<=1000000) (ho:ob L=some ⟨u,.cells (l.flatMap yf)⟩) (b0:ro<=u)
 (hp:∀U:ZO,(∀q,q≠L->U q=ob q)->jtc l g (.ptr a b c) p U) :
 ∃r,EvS E Yf.y 153 [.osl L u 0 l.length 1,.fn (.func g) [] [.ptr a b c]] ob tk ro base ub r/\DelP L u (l.filter λx=>!p x) ob tk ub r:=by
 refine JI rfl zQ ?_;show wpC E Yf S153.body _ (Jw S153.res _);have Q:=λtk base ub=>evo147b (g:=g) (cap:=.ptr a b c) hg (hp ob λ_ _=>rfl) ho (by rw[aJ (by rw[j4 j8];omega)]) hl tk base ub;conv in(occs:=*)S153=>all_goals cbv
 simp;refine jW (vs:=[.osl L u 0 l.length 1,.fn (.func g) [] [.ptr a b c]]) zS rfl rfl (by simpa using Q _ _ _) ?_;cases O:l.findIdx? p with
 |none=>
  have J:W8 p l = -1:=by unfold W8;rw[O]
  rw[J];simp;refine Jj zS ⟨.inr ⟨L,u,l.flatMap yf,by simp[jd4 O],by simpa using ho,?_,?_⟩,λq h=>by simp,zS,by simp;omega,.inr ⟨_,by simp;rfl⟩⟩;rw[jd4 O,j4 j8];omega;rw[jd4 O,aJ (by rw[j4 j8];omega)]
 |some v=>
  have J:W8 p l=(v:Int):=by unfold W8;rw[O]
  rw[J];obtain⟨Z,c3,b7⟩:=eH.1 O;have c2:((v:Int) == -1)=false:=zS;have c6:=jb Z zO;have b6:jct p l (v+1)=l.take v:=by rw[jjg Z,c3];simp only[zd,aP];unfold jct;rw[fg];intro x hx;obtain⟨j,G,rfl⟩:=cw.1 hx;rw[ai]at G;rw[dB];have:=b7 j zO;simpa using this
  simp[c2,c6];refine j9 [(5,7),(16,35)] (l.length-(v+1)) (λk s=>s.tm 6=.int .i64 ((v+1+k:Nat):Int)/\s.tm 5=.int .i64 ((jct p l (v+1+k)).length:Int)/\(∃cs,s.ob L=some ⟨u,.cells cs⟩/\cs.length=l.length/\cs.take (jct p l (v+1+k)).length=(jct p l (v+1+k)).flatMap yf/\∀j,v+1+k<=j->cs[j]? = (l.flatMap yf)[j]?)/\(∀q,q≠L->s.ob q=ob q)/\s.tk=tk/\ub<=s.nx) rfl rfl ⟨zS,by simp[b6];omega,⟨l.flatMap yf,by simpa using ho,by rw[j4 j8];omega,?_,λ_ _=>rfl⟩,λq h=>by simp,zS,by simp;omega⟩ ?_;rw[bp,b6];rw[ai,cC zO,jh9];rintro k s hk ⟨P,H,⟨cs,F,D,w,o⟩,z,K,d5⟩ f;have f0:s.tm 0=.osl L u 0 l.length 1:=by rw[f.t 0 zS];simp
  have f1:s.tm 1=.fn (.func g) [] [.ptr a b c]:=by rw[f.t 1 zS];simp
  have fd:s.df=[]:=by rw[f.d];simp
  have fr:s.ro=ro:=by rw[f.r];simp
  clear f;have B:=j3r p l (v+1+k);by_cases d4:k<l.length-(v+1);have G:v+1+k<l.length:=zO;obtain⟨j,c9⟩:∃j,v+1+k=j:=⟨_,rfl⟩;rw[c9]at P H w o G B;have S:v+1+(k+1)=j+1:=zO;have a0:=jb (i:=j) (N:=l.length) G zO;have e:=jjg (p:=p) G;have c4:cs[j]? = some (.int .i64 l[j]):=by rw[o j zK,jt l G]
  have c7:=j6j (l:=L) (u:=u) (n:=l.length) (kk:=.i64) (X:=(j:Int)) rfl G;have c5:(j:Int)<l.length:=zO;simp[P,f0,f1,c5,c7,j0,F,c4];refine jen (hp s.ob z) (au G) zS zS (k:=l[j]) zS hg λd3 d2=>?_;cases T:p l[j];rw[T]at e;simp only[ah,zc]at e;obtain⟨i,b8⟩:∃i,(jct p l j).length=i:=⟨_,rfl⟩;rw[b8]at H w B;have M:i<l.length:=zO;have c1:=jb (i:=i) (N:=l.length) M zO;have c0:=j6j (l:=L) (u:=u) (n:=l.length) (kk:=.i64) (X:=(i:Int)) rfl M;have d0:i+1<=l.length:=M;have b5:(jct p l (j+1)).length=i+1:=by rw[e,aw,b8];rfl
  simp[P,H,f0,c0,j0,F,fr,b0,D,d0,a0,c1];rw[S];refine⟨zO,zO,by rw[b5];omega,⟨?_,?_,λm hm=>?_⟩,λq h=>by simp[h,z],by simp[jq,K],zO⟩;unfold j6;simp only[aw,ai,aY,ee,D];omega;have I:(cs.take i++[V.int .i64 l[j]]).length=i+1:=by rw[aw,ai];simp;omega
  rw[b5,e,cn,<- w];unfold j6;exact dD I;have hs:j6 cs i [.int .i64 l[j]]=cs.set i (.int .i64 l[j]):=by unfold j6;rw[dK,zb zO,bj];rfl
  rw[hs,cP zO];exact o m zO;rw[T]at e;simp only[zd,aP]at e;simp[P,H,a0];rw[S,e];exact⟨zO,zO,rfl,⟨cs,F,D,w,λm hm=>o m zO⟩,z,by simp[K],zO⟩;have c8:v+1+k=l.length:=zO;rw[c8]at P H w o B;have b9:jct p l l.length=l.filter λx=>!p x:=by unfold jct;rw[bk]
  rw[b9]at H w B;generalize (l.filter λx=>!p x)=R at *;have d1:(R.length:Int)<=l.length:=zO;simp[P,H,f0,jtz B];refine jsg (l:=L) (u:=u) (off:=R.length) (n:=l.length-R.length) (cs:=cs) zS (by simpa using F) (by simp[fr,b0]) rfl zO ?_;simp[H,f0,j2f B];have I:(cs.take R.length).length=R.length:=by rw[ai];omega
  refine Jj (by simp[fd]) ⟨.inr ⟨L,u,_,zS,by simp;rfl,?_,?_⟩,λq h=>by simp[h,z],?_,?_,.inr ⟨_,by simp;rfl⟩⟩;unfold j6;simp only[aw,ai];omega;unfold j6;rw[bj];rw[dD I];exact w;simp[jq,K];simp;omega
def sv154 {g:Hist'}{u:Nat}{ob:ZO}(e:ob (2*u+1)=some ⟨u,.cells (ya g)⟩) {l:List Int}(n:∀x∈l,0<=x/\x<=g.ts.length):jtc l 154 (.ptr (2*u+1) u 0) (λx=>!(ym g).contains x) ob:=by
 intro r x q z t i w;obtain⟨v,D⟩:=n x q;obtain⟨k,rfl⟩:∃k:Nat,x=k:=⟨x.toNat,zO⟩;have y:k<=g.ts.length:=zO;have s:(ym g).contains (k:Int)=J8 g k:=by rw[bz,bx,comL_mem];constructor;rintro⟨j,B,h⟩;have:j=k:=zO;subst this;exact h;exact λh=>⟨k,rfl,h⟩
 simp only[];rw[s];refine JI rfl zQ ?_;show wpC E r S154.body _ (Jw S154.res _);by_cases b:k=g.ts.length
 ·have d:J8 g k=false:=by cases h:J8 g k;rfl;exact zf (JZ h) zO
  conv in(occs:=*)S154=>all_goals cbv
  simp[j0,e,ya,b];refine Jj zS ⟨by rw[<- b,d];simp,by funext key;simp,zS,zL⟩
 ·have a:k<g.ts.length:=zO;have p:=j7 jA g.tn g.ts .i64 a;have c:J8 g k=(g.ts[k].f==1):=by unfold J8;rw[aa a];rfl
  have m:=jZ (f:=jl) jA g.ts a (by decide:1<3);have o:((k:Int)==(g.ts.length:Int))=false:=by rw[zk];omega
  conv in(occs:=*)S154=>all_goals cbv
  simp[j0,e,ya,o,p,m,show(jl g.ts[k])[1]? = some (.int .i64 g.ts[k].f) from rfl];refine Jj zS ⟨by rw[c];simp[bne],by funext key;simp,zS,zL⟩
def jqv {n:Nat}{p:Nat->Nat->Bool}:∀(k:Nat) (D:List Nat),(∀x∈D,x<n)->∀b,WW n p k D=some b->∀x∈b,x<n
 |0,D,h,b,e=>by
  have:D=b:=by simpa[WW] using e
  subst this;exact h
 |k+1,D,h,b,e=>by
  unfold WW at e;cases d:(List.range n).find? (WK n p D) with
  |none=>rw[d]at e;cases e
  |some a=>rw[d]at e;refine jqv k (D++[a]) (λx c=>?_) b e;rcases aQ.1 c with c|c;exact h x c;have:=aM.1 (fD d);rw[ag.1 c];exact this
def Qj {n:Nat}{p:Nat->Nat->Bool}:∀(k:Nat) (D:List Nat) (b:List Nat),WW n p k D=some b->b.length=D.length+k
 |0,D,b,e=>by
  have:D=b:=by simpa[WW] using e
  subst this;rfl
 |k+1,D,b,e=>by
  unfold WW at e;cases c:(List.range n).find? (WK n p D) with
  |none=>rw[c]at e;cases e
  |some a=>rw[c]at e;rw[Qj k (D++[a]) b e];simp;omega
def j0m (N:Nat) (p:Nat->Nat->Bool):(J0 N p).length<=N*N:=by
 unfold J0;rw[List.length_flatMap];have:∀l:List Nat,(l.map λa=>(((List.range N).filter (p a)).map λb:Nat=>((a:Int),(b:Int))).length).sum<=l.length*N:=by
  intro l;induction l with
  |nil=>simp
  |cons x l c=>have d:((List.range N).filter (p x)).length<=N:=bL (cg _ _) zS;simp only[bc,List.sum_cons,bm,bh,cJ];simp only[bm]at c;omega
 simpa using this (List.range N)
def j5a (N:Nat) (p:Nat->Nat->Bool):InG N (J0 N p):=λz f=>by obtain⟨a,b,c,d,_,e⟩:=edgesOf_mem.1 f;exact⟨a,b,e,c,d⟩
def jug (g:Hist') (lvl:Int) (M:List Int):List Int×Int :=
 if jnt g lvl M=0 then match jdh (g.ts.length+1) (J0 (g.ts.length+1) (Qd g lvl M)) with
  |none=>([],3)
  |some D=>((yq D).filter λx=>(ym g).contains x,0)
 else ([],jnt g lvl M)
section
variable {g:Hist'}{M:List Int}
def ev102 (hs:Small g) (h8:g.ts.length<=8) {mn:Bool}(lvl:Int) (I:M.length<=100) :
 ∃v,Ev E 102 [.int .i64 lvl,.agg (ya g),yl mn yf M] v/\NumE (jug g lvl M) v:=by
 obtain⟨N,q,f,hn,hv⟩:=ev74 hs h8 (mn:=mn) lvl I;have hw:=jk (n:=((g.ts.length:Int)+1)) zO zO;refine X6 rfl zQ ?_;conv in(occs:=*)F102=>all_goals cbv
 simp[j0,ya,yl,V.cells,V.leaf];refine jL q zH rfl zH ?_;refine jxk hv λH G=>?_;by_cases m:jnt g lvl M=0;have B:jt1 g lvl M=(J0 (g.ts.length+1) (Qd g lvl M),0):=by simp[jt1,m]
 rw[B]at hn ⊢;simp[j0,hw];generalize F:J0 (g.ts.length+1) (Qd g lvl M)=L at *;have z:InG (g.ts.length+1) L:=by rw[<- F];exact j5a _ _
 have y:L.length<=10000:=by have X:=j0m (g.ts.length+1) (Qd g lvl M);have:(g.ts.length+1)*(g.ts.length+1)<=9*9:=Nat.mul_le_mul zO zO;rw[F]at X;omega
 have b:jug g lvl M=match jdh (g.ts.length+1) L with
  |none=>([],3)
  |some D=>((yq D).filter λx=>(ym g).contains x,0):=by rw[jug,zb m,F]
 refine jP (vs:=[.int .i64 ((g.ts.length+1:Nat):Int),.sl H f L.length (L.flatMap yR)]) zS rfl (sv152 zS zO zO (.inl ⟨H,f,rfl⟩) z y) ?_;rintro v1 a0 J b5 ⟨U,i,d⟩;simp only at U i d;cases o:jdh (g.ts.length+1) L with
 |none=>rw[o]at d b;simp only at d;subst d;simp;rw[b];exact jks (r:=([],3)) (t:=none) (nl:=true) zS zS zS (λ_=>rfl)
 |some D=>
  rw[o]at d b;obtain⟨v,rfl,u,rfl,Z,o2,o3⟩:=d;have s:=jqv _ _ (λx h=>by cases h) D o;have e:∀x∈yq D,0<=x/\x<=g.ts.length:=λx hx=>by obtain⟨a,ha,rfl⟩:=aE.1 hx;have:=s a ha;omega
  simp;refine jP (vs:=[.osl (2*u+1) u 0 (yq D).length 1,.fn (.func 154) [] [.ptr (2*0+1) 0 0]]) zS rfl (sv153b (l:=yq D) (p:=λx=>!(ym g).contains x) rfl ?_ (by simpa using Z) zS λb0 h=>sv154 (g:=g) ?_ e) ?_;have:=Qj _ _ D o;simp at this;rw[JY];omega;rw[h _ zO];simp;rw[i 1 (show Off _ (2*0+1) from Off.new zO)];simp[ya,yl];rintro v2 P Q S ⟨c,w,_,q2,_⟩;simp only at c w q2;have k:((yq D).filter λx=>!!(ym g).contains x)=(yq D).filter λx=>(ym g).contains x:=zS;rw[k]at c;have j:jug g lvl M=((yq D).filter λx=>(ym g).contains x,0):=b;rw[j];clear b j k;generalize ((yq D).filter λx=>(ym g).contains x)=R at *;rcases c with⟨rfl,rfl⟩|⟨L2,T,cs,rfl,h6,l6,O⟩
  simp;exact jks (r:=([],0)) (t:=none) (nl:=true) zS zS zS (λ_=>rfl);simp;refine jor (ns:=[6,7]) (vs:=[.osl L2 T 0 R.length 1,.int .i64 0]) (ls:=[.sl none false R.length (R.flatMap yf),.int .i64 0]) (λr h=>⟨false,λh=>(by cases h),h⟩) zS zS zS zS ⟨YJ rfl (jih (cs:=cs) (by simpa using h6) ?_ zO (by simpa using O) (ju9 _)),ja rfl,trivial⟩;simp
 have B:jt1 g lvl M=([],jnt g lvl M):=by simp[jt1,m]
 have b:jug g lvl M=([],jnt g lvl M):=by simp[jug,m]
 rw[B,b];have K:(jnt g lvl M != 0)=true:=by simpa using m
 simp[K];exact jks (r:=([],jnt g lvl M)) (t:=none) (nl:=true) zS zS zS (λ_=>rfl)
end
section
variable {nx:Nat->Nat->Bool}{C:List Nat}{most most':Int}
def Qx {rec:Nat->List Nat->List Nat->R3}(h:∀w d v,v.length<=(rec w d v).2.2.length) (w:Nat) (done:List Nat):∀(r vis:List Nat),vis.length<=(loopM rec nx w done r vis).2.2.length
 |[],vis=>dx _
 |t::r,vis=>by
  rw[loopM];split
  ·exact Qx h w done r vis
  ·have a:=h (w|||1<<<t) (done++[t]) vis;rcases c:rec (w|||1<<<t) (done++[t]) vis with⟨o,b,v⟩;rw[c]at a;cases o with
   |some l=>exact a
   |none=>cases b with
    |true=>exact a
    |false=>exact bL a (Qx h w done r v)
def jpd:∀(n w:Nat) (done vis:List Nat),vis.length<=(onM nx C most n w done vis).2.2.length
 |0,w,done,vis=>by rw[onM];split<;>simp
 |n+1,w,done,vis=>by
  rw[onM];split;exact dx _
  ·exact bL zS (Qx (λw d v=>jpd n w d v) w done C (vis++[w]))
structure More (most:Int) (a b:R3):Prop where
 le:(a.2.2.length:Int)<=most
 sp:a.2.1=true->(a.2.2.length:Int)=most/\a.1=none/\(b.2.1=true\/most<b.2.2.length)
 same:a.2.1=false->b=a
def jgt {n:Nat}(f:∀w d v,(v.length:Int)<=most->More most (onM nx C most n w d v) (onM nx C most' n w d v)) (w:Nat) (done:List Nat) :
 ∀(r vis:List Nat),(vis.length:Int)<=most->More most (loopM (onM nx C most n) nx w done r vis) (loopM (onM nx C most' n) nx w done r vis)
 |[],vis,h=>⟨h,λe=>(by cases e),λ_=>rfl⟩
 |t::r,vis,h=>by
  rw[loopM,loopM];split
  ·exact jgt f w done r vis h
  ·have a:=f (w|||1<<<t) (done++[t]) vis h;rcases q:onM nx C most n (w|||1<<<t) (done++[t]) vis with⟨o,p,v⟩;rcases b:onM nx C most' n (w|||1<<<t) (done++[t]) vis with⟨s,i,j⟩;rw[q,b]at a;cases p with
   |false=>
    have e:=a.same rfl;cases e;cases o with
    |some l=>exact⟨a.le,λe=>(by cases e),λ_=>rfl⟩
    |none=>exact jgt f w done r v a.le
   |true=>
    obtain⟨k,m,c⟩:=a.sp rfl;simp only at k m c;subst m;refine⟨a.le,λ_=>⟨k,rfl,?_⟩,λe=>(by cases e)⟩;cases s with
    |some x=>exact c
    |none=>cases i with
     |true=>exact .inl rfl
     |false=>
      have u:=Qx (nx:=nx) (λw d v=>jpd (nx:=nx) (C:=C) (most:=most') n w d v) w done r j;rcases c with h|h;cases h
      ·exact .inr (show most<((loopM _ nx w done r j).2.2.length:Int) by omega)
def jpc (b:most<=most'):∀(n w:Nat) (done vis:List Nat),(vis.length:Int)<=most->More most (onM nx C most n w done vis) (onM nx C most' n w done vis)
 |0,w,done,vis,h=>by rw[onM,onM];by_cases e:(vis.length:Int)=most;rw[zb e];refine⟨h,λ_=>⟨e,rfl,?_⟩,λe=>(by cases e)⟩;by_cases a:(vis.length:Int)=most';rw[zb a];exact .inl rfl;rw[za a];exact .inr zP;rw[za e,za zO];exact⟨by simp;omega,λe=>(by cases e),λ_=>rfl⟩
 |n+1,w,done,vis,h=>by
  rw[onM,onM];by_cases e:(vis.length:Int)=most
  ·rw[zb e];refine⟨h,λ_=>⟨e,rfl,?_⟩,λe=>(by cases e)⟩;by_cases a:(vis.length:Int)=most';rw[zb a];exact .inl rfl
   ·rw[za a];have c:=Qx (nx:=nx) (λw d v=>jpd (nx:=nx) (C:=C) (most:=most') n w d v) w done C (vis++[w]);simp only[aw,ee]at c;exact .inr (show most<((loopM _ nx w done C (vis++[w])).2.2.length:Int) by omega)
  ·rw[za e,za zO];exact jgt (λw d v h=>jpc b n w d v h) w done C (vis++[w]) zP
end
def Qt (g:Hist') (lvl:Int) (M:List Int) (left:Int):List Int×Int×Int :=
 if lvl=3 then jbi g M left else if left=0 then ([],0,13) else ((jug g lvl M).1,1,(jug g lvl M).2)
def Y0 (g:Hist') (lvl:Int):List (List Int)->Int->(List Int×List Int)×Bool×Int×Int
 |[],left=>(([],[]),false,left,0)
 |M::r,left=>if (Qt g lvl M left).2.2=0 then ((M,(Qt g lvl M left).1),true,left-(Qt g lvl M left).2.1,0)
  else if (Qt g lvl M left).2.2=13 then (([],[]),false,left-(Qt g lvl M left).2.1,13) else Y0 g lvl r (left-(Qt g lvl M left).2.1)
def jj2 (g:Hist'):Bool:=(ym g).any λt=>!(badH g t).isEmpty
def jbc (g:Hist') (lvl left:Int):(List Int×List Int)×Bool×Int×Int :=
 if jj2 g=true\/jo (yv g)=false then (if left=0 then (([],[]),false,left,13) else (([],[]),false,left-1,0)) else Y0 g lvl (yF (yv g)) left
def Jn (g:Hist') (lvl most:Int):(List Int×List Int)×Bool×Int×Int :=
 if jX g=false then (([],[]),false,0,4) else if lvl<1\/3<lvl\/most<0 then (([],[]),false,0,2) else
  ((jbc g lvl most).1,(jbc g lvl most).2.1,most-(jbc g lvl most).2.2.1,(jbc g lvl most).2.2.2)
section
variable {g:Hist'}{lvl left left':Int}{M:List Int}
def jd2 (a:jX g=true) (b:Xl g M=true) (c:0<=left):jbi g M left=if (jy g M left).2.1 then (([]:List Int),((jy g M left).2.2.length:Int),(13:Int)) else match (jy g M left).1 with
 |none=>(([]:List Int),((jy g M left).2.2.length:Int),(3:Int))
 |some l=>(yq l,((jy g M left).2.2.length:Int),(0:Int)):=by
 unfold jbi
 simp only[a,b,bN,bQ,ah,zc,ze]
 rw[za zO]
 cases (jy g M left).2.1<;>cases (jy g M left).1<;>rfl
def je4 (i:jX g=true) (m:Xl g M=true) (j:0<=left) (n:left<=left') :
 0<=(Qt g lvl M left).2.1/\(Qt g lvl M left).2.1<=left/\0<=(Qt g lvl M left').2.1/\(Qt g lvl M left').2.1<=left' /\
 ((Qt g lvl M left).2.2≠13->Qt g lvl M left'=Qt g lvl M left) /\
 ((Qt g lvl M left).2.2=13->(Qt g lvl M left).2.1=left/\((Qt g lvl M left').2.2=13\/left<(Qt g lvl M left').2.1)):=by
 unfold Qt;by_cases k:lvl=3;simp only[k,zd];have d:=jpc (nx:=nxM g M) (C:=yB g) n (yB g).length 0 [] [] (by simpa using j);have b:=jpc (nx:=nxM g M) (C:=yB g) (dr left') (yB g).length 0 [] [] zP;rw[show onM (nxM g M) (yB g) left (yB g).length 0 [] []=jy g M left from rfl,show onM (nxM g M) (yB g) left' (yB g).length 0 [] []=jy g M left' from rfl]at d;rw[show onM (nxM g M) (yB g) left' (yB g).length 0 [] []=jy g M left' from rfl]at b;rw[jd2 i m j,jd2 i m zO];have a1:=d.le;have a2:=b.le;have b1:(if (jy g M left).2.1=true then ([],((jy g M left).2.2.length:Int),(13:Int)) else match (jy g M left).1 with
  |none=>(([]:List Int),((jy g M left).2.2.length:Int),(3:Int))
  |some l=>(yq l,((jy g M left).2.2.length:Int),0)).2.1=(jy g M left).2.2.length:=by
  split
  ·rfl
  ·split<;>rfl
 have b2:(if (jy g M left').2.1=true then ([],((jy g M left').2.2.length:Int),(13:Int)) else match (jy g M left').1 with
  |none=>(([]:List Int),((jy g M left').2.2.length:Int),(3:Int))
  |some l=>(yq l,((jy g M left').2.2.length:Int),0)).2.1=(jy g M left').2.2.length:=by
  split
  ·rfl
  ·split<;>rfl
 refine⟨by rw[b1];omega,by rw[b1];exact a1,by rw[b2];omega,by rw[b2];exact a2,λh=>?_,λh=>?_⟩;cases a:(jy g M left).2.1 with
 |true=>rw[a]at h;exact zf rfl h
 |false=>rw[d.same a,a]
 cases a:(jy g M left).2.1 with
 |false=>rw[a]at h;simp only[ah,zc]at h;split at h<;>cases h
 |true=>obtain⟨o,_,c⟩:=d.sp a;rw[a]at b1;refine⟨by rw[b1];exact o,?_⟩;rcases c with c|c;left;rw[zb c];right;rw[b2];exact c
 simp only[k,zc];by_cases e:left=0;subst e;simp only[zd];by_cases f:left'=0;simp[f];simp only[f,zc];exact⟨dr _,dr _,zO,zO,λh=>zf rfl h,λ_=>⟨zS,.inr zO⟩⟩;have f:left'≠0:=zO;simp only[e,f,zc];refine⟨zO,zO,zO,zO,λ_=>by simp,λh=>?_⟩;exfalso;unfold jug at h;split at h;split at h<;>cases h;rename_i p;simp only at h;unfold jnt at h;rw[i]at h;simp only[bN,ah,zc]at h;split at h<;>cases h
def jy0 (a:jX g=true):∀(L:List (List Int)) (left:Int),(∀M∈L,Xl g M=true)->0<=left->0<=(Y0 g lvl L left).2.2.1/\(Y0 g lvl L left).2.2.1<=left
 |[],left,_,h0=>⟨h0,dr _⟩
 |M::r,left,hm,h0=>by obtain⟨a1,a2,_⟩:=je4 (lvl:=lvl) a (hm M (aK ..)) h0 (dr left);rw[Y0];split;simp only;omega;split;simp only;omega;have:=jy0 a r (left-(Qt g lvl M left).2.1) (λM h=>hm M (aS _ h)) zO;omega
def jao (d:Small g) (b:jX g=true):∀M∈yF (yv g),Xl g M=true:=by intro M h;rw[<- j4l];unfold XT;obtain⟨a,c⟩:=jrn h;rw[b,a,c];simp
end
end Go.Pv.T
