/- Part. -/
import Derived.Test.YtmanndcfeicokaaGreatDoorPE
import Derived.Sort.AssemblyPlain
import Derived.Laws.Bits64
set_option maxRecDepth 100000
set_option maxHeartbeats 8000000
set_option linter.all false
namespace Go.Pv.T
open Go Go.Pv
def SlR (v:V) (nl:Bool) (n:Nat) (cs:List V):Prop:=∃t:Option (Nat×Nat),v=.sl t nl n cs/\∀p∈t.toList,p.1<64
def j5w {st:St}{n k:Nat}{t:Option (Nat×Nat)}{nl:Bool}{cs:List V}(g:st.df=[]) (h:st.tm n=.sl t nl k cs):∃r,jb4 [.t n] (.ret,st)=some r/\SlR r nl k cs:=by
 have b:[ARes.t n].mapM (ju st)=some [.sl t nl k cs]:=by simp[ju,h]
 obtain⟨a,i,c⟩:=ja st t nl k cs (yJ (List.flatMap V.toks [.sl t nl k cs])) 0;refine⟨.sl a nl k cs,?_,a,rfl,?_⟩;simp only[jb4,Yj g,Ye g,zd,b,ah,W4];generalize yJ (List.flatMap V.toks [.sl t nl k cs])=keep at *;have e:XE st keep 0 (.sl t nl k cs)=some (.sl a nl k cs):=i;simp only[Jc,e,ah,aU];have f:yJ (List.flatMap V.toks [.sl a nl k cs])=true:=by rcases c with rfl|⟨_,rfl⟩<;>rfl
 show(if yJ (List.flatMap V.toks [.sl a nl k cs])=true then some (V.sl a nl k cs) else none)=_;rw[zb f];intro p d;rcases c with rfl|⟨_,rfl⟩;simp at d;simp at d;subst d;simp
def jj6 {ub:Nat}{v:V}{nl:Bool}{n:Nat}{cs:List V}(h:SlR v nl n cs):∃t add,Xp ub v=some { v:=.sl t nl n cs,add:=add }:=by
 obtain⟨t,rfl,a⟩:=h;cases t with
 |none=>exact⟨none,[],rfl⟩
 |some p=>have:=a p zS;refine⟨some (ub+p.1,p.2),[ub+p.1],?_⟩;rw[Xp,zb (by simp[yy,V.toks,V.tok,dt,this])];rfl
def slE {st:St}{n k:Nat}{t:Option (Nat×Nat)}{nl:Bool}{cs:List V}{P:V->Prop}(b:∀r,SlR r nl k cs->P r) (a:st.df=[]) (h:st.tm n=.sl t nl k cs):WO [.t n] P .ret st:=by obtain⟨r,d,c⟩:=j5w a h;exact⟨r,d,b r c⟩
def j1c (l:List Int) (v:V):Prop:=∃nl,SlR v nl l.length (l.flatMap yf)
def ev95 (t:Txn'):Ev E 95 [.agg (jf t)] (.bool (XU t)):=by
 refine jS rfl ?_;conv in(occs:=*)F95=>all_goals cbv
 simp[jf,ya];exact j3 rfl (by simp[XU]) rfl
def W6 {g:Hist'}(a:Yr g=true):errH g=0:=by unfold errH;rw[a];rfl
def ev94 {g:Hist'}(B:Small g) (J:Yr g=true):∃v,Ev E 94 [.agg (yb g),.fn (.func 95) [] []] v/\j1c (Y3 g) v:=by
 have n:=ev53 B;rw[W6 J]at n;have I:=B.ts;refine JW rfl zQ ?_;conv in(occs:=*)F94=>all_goals cbv
 simp[yb,ya];refine jH n zI rfl zI ?_;simp[ya];refine j5 [(4,7),(14,26)] g.ts.length (λi s=>s.tm 14=.int .i64 i/\Grow s.tk 0 s.nx yf 1 (yu XU g.ts i) (s.tm 5)) rfl rfl ⟨zS,by simp[yu];exact Grow.nil _ _ _ _ _⟩ ?_;rintro i s hi ⟨j,y⟩ f;have K:s.tm 1=.fn (.func 95) [] []:=by rw[f.t 1 zS];simp
 have x:s.tm 12=yl g.tn jf g.ts:=by rw[f.t 12 zS];simp
 have m:s.tm 13=.int .i64 g.ts.length:=by rw[f.t 13 zS];simp
 have F:s.df=[]:=by rw[f.d];simp
 have H:s.fb=0:=by rw[f.b];simp
 have fr:s.ro=0:=by rw[f.r];simp
 clear f;by_cases e:i<g.ts.length;have z:=jP e zO;have c:=Jm (p:=XU) e;obtain⟨t,q⟩:∃t,g.ts[i]=t:=⟨_,rfl⟩;rw[q]at c;have G:=Jj XU g.ts i;simp[j,x,m,e,j4 j7,jd j7,q,jf,ya,H,fr,j2,K];refine kS_evV (f:=95) (first:=[]) (captured:=[]) (ev95 t) zS (by simp[jf]) rfl (by simp[jf]) ?_;cases hi:XU t;rw[hi]at c;simp only[ag,zc,aL]at c;simp[j,z];exact⟨e,by rw[c];exact y.mono (λu _ _ h=>by simpa[jk] using h) zO⟩;rw[hi]at c;simp only[zd]at c;simp;refine jF (cs:=[.int .i64 i]) (by simp[j2]) rfl rfl ?_;simp;refine Xl (f:=yf) (lo:=0) (hi:=s.nx) (l:=yu XU g.ts i) (a:=(i:Int)) (v:=s.tm 5) (y.mono (λu _ _ h=>by simp[jb,h]) zK) zS (by simp[yp,yf]) j6 zQ rfl zO zO (λL D=>?_);have w:yu XU g.ts (i+1)≠[]:=by rw[c];simp
 have o:(yu XU g.ts i).length+1=(yu XU g.ts (i+1)).length:=by rw[c];simp
 rw[<- c,o];simp[j,z];exact⟨e,.inr ⟨w,_,rfl,by simp[jb],cw _,zO⟩⟩;have:i=g.ts.length:=zO;subst this;obtain⟨t,q⟩:=y.form;simp[j,m];exact slE (t:=t) (nl:=(yu XU g.ts g.ts.length).isEmpty) (k:=(Y3 g).length) (cs:=(Y3 g).flatMap yf) (λr h=>⟨_,h⟩) (by simp[F]) (by simp[q,Y3])
def ev54 {g:Hist'}(e:Small g) (b:Yr g=true):∃v,Ev E 54 [.agg (yb g)] v/\j1c (Y3 g) v:=by
 obtain⟨v,a,nl,c⟩:=ev94 e b;refine JW rfl zQ ?_;conv in(occs:=*)F54=>all_goals cbv
 simp[yb,ya];refine jH a zI rfl zI ?_;obtain⟨t,add,d⟩:=jj6 (ub:=192) c;rw[d];simp;exact slE (t:=t) (nl:=nl) (k:=(Y3 g).length) (cs:=(Y3 g).flatMap yf) (λr h=>⟨_,h⟩) rfl zS
def slE_df {st:St}{n k l u:Nat}{t:Option (Nat×Nat)}{nl:Bool}{cs:List V}{P:V->Prop}(c:∀r,SlR r nl k cs->P r) (a:st.df=[(l,u)]) (b:st.ob l=some ⟨u,.dfr⟩) (e:st.ro<=u) (h:st.tm n=.sl t nl k cs):WO [.t n] P .ret st:=by obtain⟨r,f,d⟩:=j5w (st:={ st with ob:=λk=>if Nat.beq l k then none else st.ob k,df:=[] }) rfl h;exact⟨r,jaa a b e f,c r d⟩
def jC (p:Int×Int):List V:=[.int .i64 p.1,.int .i64 p.2]
@[simp] theorem jR (p:Int×Int):(jC p).length=2:=rfl
def jgl (i:Nat) (ops:List Op'):Nat->List (Int×Int)
 |0=>[]
 |k+1=>jgl i ops k++(match ops[k]? with|some o=>if o.v.kind==2 then [((i:Int),(k:Int))] else []|none=>[])
def jgk (ts:List Txn'):Nat->List (Int×Int)
 |0=>[]
 |i+1=>jgk ts i++(match ts[i]? with|some t=>jgl i t.ops t.ops.length|none=>[])
def XT (h:Hist') (i k:Nat):List (Int×Int):=jgk h.ts i++(match h.ts[i]? with|some t=>jgl i t.ops k|none=>[])
def jdz (h:Hist'):List (Int×Int):=jgk h.ts h.ts.length
def jdy (i:Nat) (ops:List Op'):∀k,(jgl i ops k).length<=k
 |0=>dH _
 |k+1=>by have:=jdy i ops k;simp only[jgl,ap];split;split<;>simp<;>omega;simp;omega
def jdx {ts:List Txn'}(h:∀t∈ts,t.ops.length<=1000):∀i,(jgk ts i).length<=i*1000
 |0=>cw _
 |i+1=>by have:=jdx h i;simp only[jgk,ap];rw[show(i+1)*1000=i*1000+1000 by omega];split;rename_i t a;have b:=jdy i t.ops t.ops.length;have c:=h t (aJ a);omega;simp only[cD];omega
def jgn {h:Hist'}{i k:Nat}(hi:i<h.ts.length) (a:k<(h.ts[i]).ops.length):XT h i (k+1)=XT h i k++(if (h.ts[i]).ops[k].v.kind==2 then [((i:Int),(k:Int))] else []):=by simp only[XT,aa hi,jgl,aa a,aY]
def jgo {h:Hist'}{i:Nat}(hi:i<h.ts.length):XT h i (h.ts[i]).ops.length=XT h (i+1) 0:=by simp only[XT,aa hi,jgk];cases h.ts[i+1]?<;>simp[jgl]
def ji0 (h:Hist'):XT h h.ts.length 0=jdz h:=by simp[XT,jdz]
def jgm (h:Hist'):XT h 0 0=[]:=by unfold XT;cases h.ts[0]?<;>rfl
def jiz {h:Hist'}(a:Small h) {i k:Nat}(hi:i<h.ts.length) (b:k<=(h.ts[i]).ops.length):(XT h i k).length<=1001000:=by have e:=jdx a.os i;have c:=a.ts;have f:=jdy i (h.ts[i]).ops k;have d:=a.os _ (au hi);simp only[XT,aa hi,ap];have:i*1000<=1000*1000:=bh _ zO;omega
def PlR (l:List (Int×Int)) (v:V):Prop:=∃nl,SlR v nl l.length (l.flatMap jC)
def ev55 {g:Hist'}(D:Small g) (hm:Yr g=true):∃v,Ev E 55 [.agg (yb g)] v/\PlR (jdz g) v:=by
 have s:=ev53 D;rw[W6 hm]at s;have K:=D.ts;refine JW rfl zQ ?_;conv in(occs:=*)F55=>all_goals cbv
 simp[yb,ya];refine jH s zI rfl zI ?_;simp[ya];refine jcz (vs:=[.agg (yb g)]) zI rfl ?_;obtain⟨r,T,Z,B,e3,e4⟩:=ev91 (Yf:=YS) g _ _ 0 _ _;refine⟨r,T,?_⟩;simp;refine jQ λc d=>?_;obtain⟨m,b5,a0,L,p2,I,pl⟩:∃m,m % 64=0/\m<c.nx/\c.tm 10=.fn (.func 145) [] [.ptr (2*m+1) m 0]/\c.ob 2=some ⟨0,.cells (yb g)⟩/\(∃u,c.tm 3=.ptr 6 u 0/\c.ob 6=some ⟨u,.cells [.sl none true 0 []]⟩)/\c.ob (2*m+1)=some ⟨m,.cells (yb g)⟩:=by refine⟨_,?_,?_,by rw[d];simp only[joq,put,WQ];exact Z,?_,⟨320,?_,?_⟩,?_⟩;decide;rw[d,jjz,e4];omega;rw[d];simp only[JZ];rw[B];simp[yb];rw[d];simp[put,yg];rw[d];simp only[JZ];rw[B];simp;rw[d];simp only[JZ];rw[B];simp
 obtain⟨u6,M,I⟩:=I;have gd:c.df=[]:=by rw[d];simp
 have gb:c.fb=0:=by rw[d];simp
 have X:c.ro=0:=by rw[d];simp
 clear d Z B e3 e4 T;refine jih g K (λt ht=>by have:=D.os t ht;omega) rfl rfl rfl (zU L) pl zO zO X
  (λi k ob w q=>∃j,ob 6=some ⟨u6,.cells [j]⟩/\Grow w 0 q jC 2 (XT g i k) j) ?_ ?_ ?_ ?_ ?_
 rintro i k ob b9 w q b7 ⟨j,n,e⟩ p G;exact⟨j,(G 6 (λm _=>by omega)).trans n,e.mono (λ_ _ _ h=>h) p⟩;rintro i hi ob w q ⟨j,n,e⟩;exact⟨j,n,by rw[<- jgo hi];exact e⟩;rintro i hi k N ob w q ⟨j,n,e⟩ w1 z p;have r1:¬2*c.nx+1=8:=zO;have r3:¬2*c.nx+1=10:=zO;have r5:¬2*c.nx+1=6:=zO;have P:¬2*c.nx+3=8:=zO;have Q:¬2*c.nx+3=10:=zO;have q5:¬2*c.nx+3=6:=zO;have q7:¬2*c.nx+3=2*c.nx+1:=zO;have b8:¬8=2*c.nx+1:=zO;have J:¬10=2*c.nx+1:=zO;have H:¬6=2*c.nx+1:=zO;have b:=jgn hi N;have b0:=jiz D hi (gD N);obtain⟨o,ho⟩:∃o,(g.ts[i]).ops[k]=o:=⟨_,rfl⟩;rw[ho]at b ⊢;obtain⟨U,y⟩:=e.form;simp[jfw,yg,yS,ya,gb,j2,r1,r3,w1,J];cases S:(o.v.kind==2);rw[S]at b;simp only[ag,zc,aL]at b;simp[yg,P,Q,z,H,n];exact⟨zO,by rw[b];exact e.mono (λu _ _ h=>by simpa[jk] using h) zO⟩;rw[S]at b;simp only[zd]at b;simp[M,yg,H,n,ya,b8];refine jF (cs:=jC (i,k)) (by simp[j2,jC]) rfl rfl ?_;simp;refine Xl (f:=jC) (lo:=0) (hi:=q) (l:=XT g i k) (a:=((i:Int),(k:Int))) (v:=j) (e.mono (λu _ _ h=>by simp[jk,jb,h]) zK) zS (by simp[yp,jC]) jR zQ rfl zO zO (λc0 O=>?_);have F:XT g i (k+1)≠[]:=by rw[b];simp
 have x:(XT g i k).length+1=(XT g i (k+1)).length:=by rw[b];simp
 rw[<- b,x];simp[M,yg,H,n,ya,j2,r5,q5,P,Q,z];exact⟨zO,.inr ⟨F,_,rfl,by simp[jk,jb],cw _,zO⟩⟩;exact⟨_,I,by rw[jgm];exact Grow.nil _ _ _ _ _⟩;rintro ob w q ⟨j,n,e⟩ z p;rw[ji0]at e;obtain⟨U,y⟩:=e.form;simp[M,ya,n,y];exact slE_df (l:=2*c.nx+3) (u:=c.nx+1) (t:=U) (nl:=(jdz g).isEmpty) (k:=(jdz g).length) (cs:=(jdz g).flatMap jC) (λr h=>⟨_,h⟩) (by simp[gd]) (by simp[z]) (by simp[X]) zS
def GrowT {α:Type}(tk:Nat->Bool) (nx:Nat) (f:α->List V) (sz:Nat) (l:List α) (v:V):Prop:=∃u,v=.sl (some (u,sz)) false l.length (l.flatMap f)/\tk u=true/\u<nx
def GrowT.mono {b:Type}{tk a:Nat->Bool}{nx nx':Nat}{f:b->List V}{sz:Nat}{l:List b}{v:V}(h:GrowT tk nx f sz l v) (g:∀u,u<nx->tk u=true->a u=true) (i:nx<=nx'):GrowT a nx' f sz l v:=by obtain⟨u,c,e,d⟩:=h;exact⟨u,c,g u d e,zO⟩
def Y9 {E:Env}{Yf:YF}{st:St}{ub:Nat}{K:St->Nat->Prop}{d:Option Nat}{nm:Bool}{i:Type}{f:i->List V}{sz b hi:Nat}{l:List i}{a:i}{v:V}{s x:A}(q:GrowT st.tk hi f sz l v) (p:ye E st.tm s=v) (r:yp st.ob sz (ye E st.tm x)=some (f a)) (c:∀a,(f a).length=sz) (m:0<sz)
 (hp:(f a).all V.pureLeaf=true) (o:(l.length+1)*b<=140737488355328) (j:l.length+1<=140737488355328)
 (h:∀del:Option Nat,(∀u,del=some u->u<hi)->QN K st d ub { v:=.sl (some (ub,sz)) false (l.length+1) ((l++[a]).flatMap f),del:=del,add:=[ub] }):j8 E Yf ⟨d,.append false sz b s x,none,nm⟩ st ub K:=by
 have g:f a≠[]:=λe=>by have:=c a;rw[e]at this;simp at this;omega
 have k:(f a).length/sz=1:=by rw[c];exact gE m
 obtain⟨u,rfl,n,t⟩:=q;refine Jl p n r g (by rw[j1 c]) m hp (by rw[k];exact o) (by rw[k];exact j) ?_;rw[k];have:=h (some u) (λw e=>by cases e;exact t);simpa using this
def ev50 {g:Hist'}(I:Small g):∃v,Ev E 50 [.agg (yb g)] v/\PlR (jdz g) v:=by
 have S:=I.ts;refine JW rfl zQ ?_;conv in(occs:=*)F50=>all_goals cbv
 simp[yb];refine jF (cs:=[]) rfl rfl rfl ?_;simp;refine j5 [(3,5),(7,42)] g.ts.length (λi s=>s.tm 4=.int .i64 i/\s.ob 2=some ⟨0,.cells (yb g)⟩/\GrowT s.tk s.nx jC 2 (XT g i 0) (s.tm 3)) rfl rfl ⟨zS,zI,by rw[jgm];exact⟨128,zS,by simp[jb],zS⟩⟩ ?_;rintro i s hi ⟨H,D,J⟩ f;have G:s.tm 1=.ptr 2 0 0:=by rw[f.t 1 zS];simp
 have M:s.df=[]:=by rw[f.d];simp
 clear f;by_cases c:i<g.ts.length;have Q:=jP c zO;simp[H,G,D,ya,yb,c];refine j5 [(3,3),(5,5),(14,42)] (g.ts[i]).ops.length (λk j=>j.tm 5=.int .i64 k/\j.ob=s.ob/\GrowT j.tk j.nx jC 2 (XT g i k) (j.tm 3)) rfl rfl ⟨zS,zS,by simp;exact J.mono (λ_ _ h=>h) zO⟩ ?_;rintro k j Z ⟨B,m,p⟩ f;have K:j.tm 1=.ptr 2 0 0:=by rw[f.t 1 zS];simp[G]
 have L:j.tm 4=.int .i64 i:=by rw[f.t 4 zS];simp[H]
 have ed:j.df=[]:=by rw[f.d];simp[M]
 clear f;have w:j.ob 2=some ⟨0,.cells (yb g)⟩:=by rw[m];exact D
 obtain⟨t,z⟩:∃t,g.ts[i]=t:=⟨_,rfl⟩;have U:=I.os t (z▸au c);have n:(g.ts.flatMap jf)[i*3+2]? = some (yl t.nl yS t.ops):=by rw[jO j7 g.ts c (by decide:2<3),z];rfl
 by_cases e:k<(g.ts[i]).ops.length;have b:=jgn c e;have P:=jiz I c (gD e);obtain⟨o,O⟩:∃o,(g.ts[i]).ops[k]=o:=⟨_,rfl⟩;rw[O]at b;subst z;have q:=jP e zO;have y:((g.ts[i]).ops.flatMap yS)[k*4+2]? = some (.int .i64 o.v.kind):=by rw[jO jD (g.ts[i]).ops e (by decide:2<4),O];rfl
 cases F:(o.v.kind==2);rw[F]at b;simp only[ag,zc,aL]at b;simp[B,K,L,ya,yb,c,j4 j7,n,e,j4 jD,y,F,q,m,D];rw[b];exact p.mono (λ_ _ h=>h) zO;rw[F]at b;simp only[zd]at b;simp[B,K,L,w,ya,yb,c,j4 j7,n,e,j4 jD,y,F,j2];refine jF (cs:=jC (i,k)) (by simp[j2,jC]) rfl rfl ?_;simp;refine Y9 (f:=jC) (hi:=j.nx) (l:=XT g i k) (a:=((i:Int),(k:Int))) (v:=j.tm 3) (p.mono (λu _ h=>by simp[jb,h]) zK) zS (by simp[yp,jC]) jR zQ rfl zO zO (λT N=>?_);have x:(XT g i k).length+1=(XT g i (k+1)).length:=by rw[b];simp
 rw[<- b,x];simp[B,q,m];exact⟨e,_,rfl,by simp[jb],zO⟩;have:k=(g.ts[i]).ops.length:=zO;subst this;subst z;simp[B,K,L,w,ya,yb,c,j4 j7,n,Q];rw[<- jgo c];exact p.mono (λ_ _ h=>h) zO;have:i=g.ts.length:=zO;subst this;rw[ji0]at J;obtain⟨u,X,_,_⟩:=J;simp[H,G,D,ya,yb];exact slE (t:=some (u,2)) (nl:=false) (k:=(jdz g).length) (cs:=(jdz g).flatMap jC) (λr h=>⟨_,h⟩) (by simp[M]) (by simp[X])
def wkB (k:Int) (o:Op'):Bool:=o.w&&o.key==k
def wrB (k:Int) (t:Txn'):Bool:=t.f != 2&&t.ops.any (wkB k)
def KeyAt (k:Int) (ob:ZO) (l u:Nat):Prop:=l % 2=0/\ob l=some ⟨u,.cells [.int .i64 k]⟩
def evo263 {k:Int}{ob:ZO}{l u:Nat}(c:KeyAt k ob l u) (o:Op') (tk:Nat->Bool) (base ub:Nat):EvO E 263 [.agg (yS o),.ptr l u 0] ob tk base ub (.bool (wkB k o)):=by
 obtain⟨e,d⟩:=c;refine jq rfl ?_;have a:¬l=2*ub+1:=zO;unfold wkB;cases b:o.w
 ·conv in(occs:=*)S263=>all_goals cbv
  simp[yS,ya,b];exact j3 rfl zS rfl
 ·conv in(occs:=*)S263=>all_goals cbv
  simp[yS,ya,b,a,d];exact j3 rfl zS rfl
def evo293 {p:Op'->Bool}{g:FuncId}{cap:V}{ob:ZO}(y:E.sh true g=false) (e:cap.strip.pureTop=false) (hp:∀(t:Op') (tk:Nat->Bool) (base ub:Nat),EvO E g [.agg (yS t),cap] ob tk base ub (.bool (p t)))
 (nl:Bool) (l:List Op') (w:l.length<=1000000000) (tk:Nat->Bool) (base ub:Nat):EvO E 293 [yl nl yS l,.fn (.func g) [] [cap]] ob tk base ub (.int .i64 (WE p l)):=by
 refine jq rfl ?_;conv in(occs:=*)S293=>all_goals cbv
 simp;refine j5 [(4,5),(8,18)] l.length (λi s=>s.tm 8=.int .i64 i/\s.ob=ob/\∀j (c:j<l.length),j<i->p l[j]=false) rfl rfl ⟨zS,zS,λ_ _ h=>by omega⟩ ?_;rintro i s B ⟨k,q,m⟩ f;have x:s.tm 0=yl nl yS l:=by rw[f.t 0 zS];simp
 have z:s.tm 1=.fn (.func g) [] [cap]:=by rw[f.t 1 zS];simp
 have r:s.tm 7=.int .i64 l.length:=by rw[f.t 7 zS];simp
 have o:s.df=[]:=by rw[f.d];simp
 clear f;by_cases a:i<l.length;have u:=jP a w;simp[x,z,r,k,a,j4 jD,jd jD];refine Wv (f:=g) (first:=[]) (captured:=[cap]) zS y (by simp[e]) (v:=.bool (p l[i])) (by simpa[q] using hp l[i] _ _ _) ?_;cases b:p l[i];simp[k,u];refine⟨a,q,?_⟩;intro j c n;rcases bi.1 n with h|rfl;exact m j c h;exact b;simp;refine j3 (zU o) ?_ rfl;simp;rw[YY a b m];have:i=l.length:=zO;subst this;simp[r,k];refine j3 (zU o) ?_ rfl;simp[WD (λj c=>m j c c)]
def evo262 {p:Op'->Bool}{g:FuncId}{ob:ZO}{a b c:Nat}(e:E.sh true g=false) (hp:∀(t:Op') (tk:Nat->Bool) (base ub:Nat),EvO E g [.agg (yS t),.ptr a b c] ob tk base ub (.bool (p t)))
 (nl:Bool) (l:List Op') (d:l.length<=1000000000) (tk:Nat->Bool) (base ub:Nat):EvO E 262 [yl nl yS l,.fn (.func g) [] [.ptr a b c]] ob tk base ub (.bool (l.any p)):=by
 refine jq rfl ?_;conv in(occs:=*)S262=>all_goals cbv
 simp;refine jN (vs:=[yl nl yS l,.fn (.func g) [] [.ptr a b c]]) zS rfl rfl (evo293 e rfl hp nl l d _ _ _) ?_;simp;exact j3 rfl (by simp[jas]) rfl
def evo261 {k:Int}{ob:ZO}{l u:Nat}(c:KeyAt k ob l u) (t:Txn') (i:t.ops.length<=1000000) (tk:Nat->Bool) (base ub:Nat):EvO E 261 [.agg (jf t),.ptr l u 0] ob tk base ub (.bool (wrB k t)):=by
 have a:¬l=2*ub+1:=by have:=c.1;omega
 refine jq rfl ?_;unfold wrB;cases d:(t.f != 2)
 ·conv in(occs:=*)S261=>all_goals cbv
  simp[jf,ya,d];exact j3 rfl zS rfl
 ·conv in(occs:=*)S261=>all_goals cbv
  simp[jf,ya,d];refine jN (vs:=[yl t.nl yS t.ops,.fn (.func 263) [] [.ptr l u 0]]) zS rfl rfl (evo262 (p:=wkB k) rfl (λh tk base b=>evo263 ?_ h tk base b) t.nl t.ops zO _ _ _) ?_;obtain⟨g,e⟩:=c;exact⟨g,by simp[a,e]⟩;simp;exact j3 rfl zS rfl
def yP (g:Hist') (k:Int):List Int:=yu (wrB k) g.ts g.ts.length
def ev218 {g:Hist'}(y:Small g) (L:Yr g=true) (k:Int):∃v,Ev E 218 [.agg (yb g),.int .i64 k] v/\j1c (yP g k) v:=by
 have o:=ev53 y;rw[W6 L]at o;have K:=y.ts;refine JW rfl zQ ?_;conv in(occs:=*)F218=>all_goals cbv
 simp[yb,ya];refine jH o zI rfl zI ?_;simp[ya];refine j5 [(4,4),(6,8),(16,28)] g.ts.length (λi s=>s.tm 16=.int .i64 i/\s.ob 6=some ⟨64,.cells [.int .i64 k]⟩/\Grow s.tk 0 s.nx yf 1 (yu (wrB k) g.ts i) (s.tm 6)) rfl rfl ⟨zS,zS,by simp[yu];exact Grow.nil _ _ _ _ _⟩ ?_;rintro i s hi ⟨j,x,z⟩ f;have I:s.tm 5=.fn (.func 261) [] [.ptr 6 64 0]:=by rw[f.t 5 zS];simp
 have B:s.tm 14=yl g.tn jf g.ts:=by rw[f.t 14 zS];simp
 have n:s.tm 15=.int .i64 g.ts.length:=by rw[f.t 15 zS];simp
 have G:s.df=[]:=by rw[f.d];simp
 have J:s.fb=0:=by rw[f.b];simp
 have fr:s.ro=0:=by rw[f.r];simp
 clear f;by_cases e:i<g.ts.length;have D:=jP e zO;have c:=Jm (p:=wrB k) e;obtain⟨t,m⟩:∃t,g.ts[i]=t:=⟨_,rfl⟩;rw[m]at c;have M:=y.os t (m▸au e);have H:=Jj (wrB k) g.ts i;simp[j,B,n,e,j4 j7,jd j7,m,jf,ya,J,fr,j2,I];refine Wv (f:=261) (first:=[]) (captured:=[.ptr 6 64 0]) zS rfl (by simp;rfl) (evo261 (k:=k) (l:=6) (u:=64) ⟨rfl,by simp[x]⟩ t zO _ _ _) ?_;cases hi:wrB k t;rw[hi]at c;simp only[ag,zc,aL]at c;simp[j,D,x];exact⟨e,by rw[c];exact z.mono (λu _ _ h=>by simpa[jk] using h) zO⟩;rw[hi]at c;simp only[zd]at c;simp;refine jF (cs:=[.int .i64 i]) (by simp[j2]) rfl rfl ?_;simp;refine Xl (f:=yf) (lo:=0) (hi:=s.nx) (l:=yu (wrB k) g.ts i) (a:=(i:Int)) (v:=s.tm 6) (z.mono (λu _ _ h=>by simp[jb,h]) zK) zS (by simp[yp,yf]) j6 zQ rfl zO zO (λN F=>?_);have w:yu (wrB k) g.ts (i+1)≠[]:=by rw[c];simp
 have q:(yu (wrB k) g.ts i).length+1=(yu (wrB k) g.ts (i+1)).length:=by rw[c];simp
 rw[<- c,q];simp[j,D,x];exact⟨e,.inr ⟨w,_,rfl,by simp[jb],cw _,zO⟩⟩;have:i=g.ts.length:=zO;subst this;obtain⟨t,m⟩:=z.form;simp[j,n];exact slE (t:=t) (nl:=(yu (wrB k) g.ts g.ts.length).isEmpty) (k:=(yP g k).length) (cs:=(yP g k).flatMap yf) (λr h=>⟨_,h⟩) (by simp[G]) (by simp[m,yP])
def jr3 (g:Hist'):Nat->Nat
 |0=>0
 |i+1=>max (jr3 g i) (yP g i).length
def mostH (g:Hist'):Nat:=jr3 g g.ks.length
def jmx {g:Hist'}(a:Small g):∀i,jr3 g i<=1000
 |0=>cw _
 |i+1=>by have b:=jmx a i;have d:=Jj (wrB i) g.ts g.ts.length;have c:=a.ts;simp only[jr3,yP];omega
def JH (k:Int) (ops:List Op'):Nat->Val'×Bool
 |0=>(⟨0,0⟩,false)
 |i+1=>match ops[i]? with
  |some o=>if wkB k o then (o.v,true) else JH k ops i
  |none=>JH k ops i
def jak {k:Int}{ops:List Op'}{i:Nat}(h:i<ops.length):JH k ops (i+1)=if wkB k ops[i] then (ops[i].v,true) else JH k ops i:=by simp[JH,aa h]
def Qk (k:Int) (ops:List Op'):∀i,i<=ops.length->(JH k ops i).2=(ops.take i).any (wkB k)
 |0,_=>by simp[JH]
 |i+1,h=>by rw[jak zO,av zO,eY,<- Qk k ops i zO];cases a:wkB k ops[i]<;>simp[a]
def ev107 (t:Txn') (J:t.ops.length<=1000000) (k:Int):Ev E 107 [.agg (jf t),.int .i64 t.ops.length,.int .i64 k] (.tup [.agg (J7 (JH k t.ops t.ops.length).1),.bool (JH k t.ops t.ops.length).2]):=by
 refine jS rfl ?_;conv in(occs:=*)F107=>all_goals cbv
 simp[jf,ya,j2];refine j5 [(9,10),(12,45)] t.ops.length (λi s=>s.tm 10=.int .i64 i/\s.ob 6=some ⟨0,.cells (jf t)⟩/\s.ob 12=some ⟨64,.cells [.int .i64 0,.int .i64 0]⟩/\s.ob 16=some ⟨256,.cells (J7 (JH k t.ops i).1)⟩/\s.tm 9=.bool (JH k t.ops i).2) rfl rfl
  ⟨zS,by simp[jf],zS,by simp[JH,J7],by simp[JH]⟩ ?_
 rintro i s K ⟨m,x,g,h,z⟩ f;have q:s.tm 1=.int .i64 t.ops.length:=by rw[f.t 1 zS];simp
 have G:s.tm 2=.int .i64 k:=by rw[f.t 2 zS];simp
 have B:s.tm 3=.ptr 6 0 0:=by rw[f.t 3 zS];simp
 have F:s.tm 6=.ptr 12 64 0:=by rw[f.t 6 zS];simp
 have D:s.tm 8=.ptr 16 256 0:=by rw[f.t 8 zS];simp
 have H:s.df=[]:=by rw[f.d];simp
 have fr:s.ro=0:=by rw[f.r];simp
 clear f;by_cases a:i<t.ops.length;have u:=jP a zO;have c:=jak (k:=k) a;obtain⟨o,p⟩:∃o,t.ops[i]=o:=⟨_,rfl⟩;rw[p]at c;have y:(t.ops.flatMap yS)[i*4]? = some (.bool o.w):=by have:=jO jD t.ops a (by decide:0<4);rw[bl,p]at this;rw[this];rfl
 have a1:(t.ops.flatMap yS)[i*4+1]? = some (.int .i64 o.key):=by rw[jO jD t.ops a (by decide:1<4),p];rfl
 have a2:∀ob,W8 ob (some 2) (.eptr (t.ops.flatMap yS) (i*4+2))=some (.agg (J7 o.v)):=λob=>by
  have I:i*4+4<=t.ops.length*4:=zO;rw[jd2,Wr,zb (by rw[j1 jD];omega)];have:=XS jD t.ops i a;rw[p]at this;have e:((t.ops.flatMap yS).drop (i*4+2)).take 2=((((t.ops.flatMap yS).drop (i*4)).take 4).drop 2):=by rw[gm,dQ]
  rw[e,this];rfl
 cases b:o.w;have n:wkB k o=false:=by unfold wkB;rw[b];rfl
 rw[n]at c;simp only[ag,zc]at c;simp[m,q,B,x,ya,jf,a,j4 jD,y,b,u,g,h,z];exact⟨by rw[c],by rw[c]⟩;cases j:(o.key==k);have n:wkB k o=false:=by unfold wkB;rw[b,j];rfl
 rw[n]at c;simp only[ag,zc]at c;simp[m,q,G,B,x,ya,jf,a,j4 jD,y,a1,b,j,u,g,h,z];exact⟨by rw[c],by rw[c]⟩;have n:wkB k o=true:=by unfold wkB;rw[b,j];rfl
 rw[n]at c;simp only[zd]at c;simp[m,q,G,B,D,x,ya,jf,a,j4 jD,y,a1,a2,b,j,u,g,h,J7,fr,j2];rw[c];simp;have:i=t.ops.length:=zO;subst this;simp[m,q,D,h,ya,z,F,g,J7,fr,j2];exact JP (by simp[H]) (l:=[.agg (J7 (JH k t.ops t.ops.length).1),.bool (JH k t.ops t.ops.length).2]) (by simp[ju,ya,F,J7]) rfl rfl
section
variable {E:Env}{Yf:YF}{st:St}{ub:Nat}{K:St->Nat->Prop}{d:Option Nat}{nm:Bool}
def jsd {sz a n:Nat}{zero:List V}{x y:A}(b:ye E st.tm x=.int .i64 (n:Int)) (g:ye E st.tm y=.int .i64 (n:Int)) (c:0<n) (f:n*a<=140737488355328) (j:n<=140737488355328) (i:zero.length=sz) (e:0<sz)
 (h:QN K st d ub { v:=.osl (jI d nm st.fb ub) ub 0 n sz,obs:=[(jI d nm st.fb ub,⟨ub,.cells (ja3 n zero)⟩)] }):j8 E Yf ⟨d,.mkSl false sz a zero x y,none,nm⟩ st ub K:=by
 rw[jT _ rfl rfl];simp only[yU,b,g];rw[zb (by refine⟨zO,zO,?_,zO,i,e⟩;rw[<- ga];exact gN.2 f),za (by intro h;omega),Jn,jG];simp only[ba,Jd];exact h
end
def jwx {st:St}{L u n:Nat}{cs:List V}(f:st.ob L=some ⟨u,.cells cs⟩) (m:cs.length=n) (e:st.ro<=u) (hp:cs.all V.pureLeaf=true):JX st 6 (.osl L u 0 n 1)=some (.sl none false n cs):=by
 have b:ya st.ob L u=some cs:=by simp[ya,f]
 have g:∀(k:Nat) (l:List V),l.all V.pureLeaf=true->l.mapM (JX st (k+1))=some l:=by
  intro k l;induction l with
  |nil=>intro _;rfl
  |cons a l j=>
   intro h;simp only[bU,aj]at h;rw[bQ,j h.2];have:JX st (k+1) a=some a:=by
    have:=YR (st:=st) (keep:=false) (i:=0) h.1;cases a with
    |sl t o n cs=>cases t with
     |none=>rfl
     |some t=>cases h.1
    |osl=>cases h.1
    |_=>simp only[JX,h.1,zd]
   rw[this];rfl
 show((ya st.ob L u).bind λcs=>if Nat.ble st.ro u=true/\0+n*1<=cs.length then (((cs.drop 0).take (n*1)).mapM (JX st 5)).map λc=>V.sl none false n c else none)=_;rw[b,ah,zb ⟨bS▸e,zO⟩,du,bz,aH zO,g 4 cs hp];rfl
def jcf {st:St}{L u n:Nat}{cs:List V}(c:st.ob L=some ⟨u,.cells cs⟩) (e:cs.length=n) (b:st.ro<=u) (hp:cs.all V.pureLeaf=true):jdg st (.osl L u 0 n 1) false n cs:=by
 intro keep i;have a:ya st.ob L u=some cs:=by simp[ya,c]
 have f:=jwx c e b hp;refine⟨_,by simp only[js,f,ah,a,aU];rfl,?_⟩;split;exact .inr ⟨_,rfl⟩;exact .inl rfl
end Go.Pv.T
namespace Go.Pv.T
open Go Go.Pv
end Go.Pv.T
namespace Go.Pv.T
open Go Go.Pv
end Go.Pv.T
namespace Go.Pv.T
open Go Go.Pv
def ju7 (l:List Int):(l.flatMap yf).all V.pureLeaf=true:=by rw[aw];intro y c;obtain⟨a,_,b⟩:=cq.1 c;simp[yf]at b;subst b;rfl
def jxh {l:List Txn'}(h:∀t∈l,t.ops.length<=1000):rcT l<=l.length*1000:=by
 induction l with
 |nil=>simp[rcT,rc]
 |cons t l a=>
  have e:=a (λt b=>h t (aX _ b));have c:=h t (aO ..);have d:=rc_le t.ops;have:rcT (t::l)=rc t.ops+rcT l:=by rw[rcT,bk,rc_app];rfl
  rw[this,bj,dh];omega
structure Bnd (g:Hist'):Prop where
 i:(Y3 g).length<=1000
 l:(jdz g).length<=1000000
 r:rcT g.ts<=1000000
 m:mostH g<=1000
 t:g.ts.length<=1000
def bnd_of {g:Hist'}(a:Small g):Bnd g:=by have b:=a.ts;refine⟨?_,?_,?_,jmx a _,b⟩;have:=Jj XU g.ts g.ts.length;show(yu XU g.ts g.ts.length).length<=1000;omega;have:=jdx a.os g.ts.length;show(jgk g.ts g.ts.length).length<=1000000;have:g.ts.length*1000<=1000*1000:=bh _ b;omega;have:=jxh a.os;have:g.ts.length*1000<=1000*1000:=bh _ b;omega
def jj5 {ub n:Nat}{cs:List V}:Xp ub (.sl (some (0,1)) false n cs)=some { v:=.sl (some (ub,1)) false n cs,add:=[ub] }:=by rw[Xp,zb (by rfl)];rfl
end Go.Pv.T
namespace Go.Pv.T
open Go Go.Pv
end Go.Pv.T
namespace Go.Pv.T
open Go Go.Pv
end Go.Pv.T
namespace Go.Pv.T
open Go Go.Pv
def WL (n:Nat) (l:List (List UInt8)):List (List UInt8):=(l.take n).map (·.take 100)
def fewT (t:Txn'):Txn':={ t with nl:=false,ops:=t.ops.take 25 }
def jes (h:Hist'):Hist':={ sn:=(WL 25 h.ss).isEmpty,ss:=WL 25 h.ss,kn:=(WL 45 h.ks).isEmpty,ks:=WL 45 h.ks,tn:=((h.ts.take 45).map fewT).isEmpty,ts:=(h.ts.take 45).map fewT }
def jst (n:Nat) (l:List (List UInt8)):WL n (WL n l)=WL n l:=by simp[WL,<- List.map_take,cM,eC,Function.comp_def]
def jwy (h:Hist'):Small (jes h):=by refine⟨?_,?_,?_,?_,?_,?_⟩;show(WL 25 h.ss).length<=1000;simp[WL];omega;intro s b;obtain⟨a,_,rfl⟩:=aI.1 (show s∈WL 25 h.ss from b);simp;omega;show(WL 45 h.ks).length<=1000;simp[WL];omega;intro s b;obtain⟨a,_,rfl⟩:=aI.1 (show s∈WL 45 h.ks from b);simp;omega;show((h.ts.take 45).map fewT).length<=1000;simp;omega;intro t c;obtain⟨a,_,rfl⟩:=aI.1 (show t∈(h.ts.take 45).map fewT from c);simp[fewT];omega
def jnn {n i:Nat}{l:List (List UInt8)}(hi:i<l.length) (_:i<n):WL (i+1) l=WL i l++[(l[i]).take 100]:=by rw[WL,av hi,bE];rfl
def jsu {n:Nat}{l:List (List UInt8)}{i:Nat}(hi:i<=l.length) (b:i<=n) (h:¬(i<l.length/\i<n)):WL i l=WL n l:=by unfold WL;congr 1;by_cases a:i<l.length;have:i=n:=zO;rw[this];rw[aH zO,aH zO]
def tlC:C->C
 | .seq _ b=>b
 |c=>c
def hdC:C->C
 | .seq a _=>a
 |c=>c
def jkj (n m:Nat):jbv false [.int .i64 (n:Int),.int .i64 (m:Int)]=some (.int .i64 ((min n m:Nat):Int)):=by simp only[jbv,QL];by_cases h:n<=m;rw[cE h];simp[jgj];omega;rw[fO (Nat.le_of_not_le h)];simp[jgj];omega
def jfr (c:List UInt8):c.take (min c.length 100)=c.take 100:=by rcases iu c.length 100 with h'|h';rw[cE h',aH zK,aH h'];rw[fO h']
def jss (n:Nat) (l:List (List UInt8)):(WL n l).length<=n:=by simp[WL];omega
def jq6 {l:List UInt8}{kk:IntKind}{k:Nat}(h:k<=l.length):Y2 none (some (.int kk (k:Int))) (.str l)=some (.str (l.take k)):=by simp[Y2,Jz,h]
def joo {cs:List V}{kk:IntKind}{t:Option (Nat×Nat)}{nl:Bool}{sz n k:Nat}(h:k<=n) (a:cs.length=n*sz):Yz sz none (some (.int kk (k:Int))) (.sl t nl n cs)=some (.sl none nl k (cs.take (k*sz))):=by simp[Yz,Jz,h,a]
end Go.Pv.T
namespace Go.Pv.T
open Go Go.Pv
end Go.Pv.T
namespace Go.Pv.T
open Go Go.Pv
def j95 {h:Hist'}{i:Nat}(hi:i<=h.ts.length) (c:i<=45) (b:¬(i<h.ts.length/\i<45)):(h.ts.take i).map fewT=(h.ts.take 45).map fewT:=by congr 1;by_cases a:i<h.ts.length;have:i=45:=zO;rw[this];rw[aH zO,aH zO]
def j1v (l:List Op') (k:Nat):(l.flatMap yS).take (k*4)=(l.take k).flatMap yS:=by
 induction l generalizing k with
 |nil=>simp
 |cons a l b=>
  cases k with
  |zero=>simp
  |succ k=>rw[bk,eG,bk,dh,<- b k];show(V.bool a.w::V.int .i64 a.key::V.int .i64 a.v.kind::V.int .i64 a.v.n::l.flatMap yS).take (k*4+4)=_;simp[yS]
def kE1 {st:St}{p l u:Nat}{x y z:V}{g:Hist'}(a:st.df=[]) (hp:st.tm p=.ptr l u 0) (b:st.ob l=some ⟨u,.cells [x,y,z]⟩)
 (e:jdg st x g.sn g.ss.length (g.ss.flatMap X1)) (c:jdg st y g.kn g.ks.length (g.ks.flatMap X1)) (d:jdg st z g.tn g.ts.length (g.ts.flatMap jf)):WO [.cell p (some 3)] (λr=>jvz r g) .ret st:=endH1 a hp b e c d
def run217 {Yf:YF}(nl:Bool) (ops:List Op') (hm:ops.length<=1000000) {l u lh uh:Nat}{ob0:ZO}{tk0:Nat->Bool}{ro base ub0:Nat}(J:Nat->(ZO)->(Nat->Bool)->Nat->Prop) (P:V×(ZO)×(Nat->Bool)×Nat->Prop)
 (m:∀k ob g h b c,J k ob h b->b<=c->Fr b ob g->J k g h c) (n:∀k ob h b,J k ob h b->ob lh=some ⟨uh,.cells [yl nl yS ops]⟩) (N:ro<=ub0)
 (p:∀k (_:k<ops.length) ob h b,J k ob h b->ro<=b->∃r,EvY Yf l u [.int .i64 (ops.length-1-k:Nat),.agg (yS (ops.getD (ops.length-1-k) ⟨false,0,0,0⟩))] ob h ro b r/\ro<=r.2.2.2 /\
  ((r.1=.bool true/\J (k+1) r.2.1 r.2.2.1 r.2.2.2)\/(r.1=.bool false/\∀g c,r.2.2.2<=c->Fr r.2.2.2 r.2.1 g->P (.tup [],g,r.2.2.1,c))))
 (w:∀ob h b,J ops.length ob h b->P (.tup [],ob,h,b)) (M:J 0 ob0 tk0 ub0):∃r,EvS E Yf.y 217 [.yld l u,.ptr lh uh 0] ob0 tk0 ro base ub0 r/\P r:=by
 refine J6 rfl zQ ?_;show wpC E Yf S217.body _ (Jg S217.res P);have hh:=n 0 ob0 tk0 ub0 M;have Q:IntKind.i64.wrap ((ops.length:Int)-1)=(ops.length:Int)-1:=jg zO zO;conv in(occs:=*)S217=>all_goals cbv
 simp[ya,hh,Q];refine j5 [(3,3),(7,18)] ops.length (λk s=>s.tm 3=.int .i64 ((ops.length:Int)-1-k)/\ro<=s.nx/\J k s.ob s.tk s.nx) rfl rfl ⟨zS,by simp;omega,m _ _ _ _ _ _ M zP (Fr.refl _ _)⟩ ?_;rintro k s hk ⟨B,a0,I⟩ f;have U:s.tm 0=.yld l u:=by rw[f.t 0 zS];simp
 have Z:s.tm 1=.ptr lh uh 0:=by rw[f.t 1 zS];simp
 have L:s.df=[]:=by rw[f.d];simp
 have fr:s.ro=ro:=by rw[f.r];simp
 clear f;have hc:=n _ _ _ _ I;by_cases v:k<ops.length;obtain⟨j,hj⟩:∃j,j=ops.length-1-k:=⟨_,rfl⟩;have z:j<ops.length:=zO;have e:(ops.length:Int)-1-k=(j:Int):=zO;rw[e]at B;have w2:IntKind.i64.wrap ((j:Int)-1)=(ops.length:Int)-1-(k+1):=by rw[jg zO zO];omega
 have D:ops.getD j ⟨false,0,0,0⟩=ops[j]:=by rw[ay,aa z];rfl
 simp[B,U,Z,ya,hc,z,j4 jD,jd jD];refine jq3 λi a=>?_;have F:i.tm 11=.yld l u:=by rw[a];simp
 have K:i.tm 12=.int .i64 j:=by rw[a];simp
 have H:i.tm 16=.agg (yS ops[j]):=by rw[a];simp
 have e3:i.tm 3=.int .i64 j:=by rw[a];simp[B]
 have ed:i.df=[]:=by rw[a];simp[L]
 have S:i.ro=ro:=by rw[a];simp[fr]
 have et:i.tk=s.tk:=by rw[a];simp
 have eo:i.ob=s.ob:=by rw[a];simp
 clear a;obtain⟨r,O,b0,o⟩:=p k v i.ob s.tk (s.nx+64+64+64+64+64+64+64+64) (m _ _ _ _ _ _ I zO (by rw[eo];exact Fr.refl _ _)) zO;rw[<- hj,D]at O;refine jlj (l:=l) (u:=u) (zU F) ⟨r,by simpa[K,H,et,S] using O,?_⟩;rcases o with⟨q,G⟩|⟨q,hP⟩;simp[q,put,yg,e3,w2];exact⟨v,zO,m _ _ _ _ _ _ G zO (Fr.refl _ _)⟩;simp[q,put];refine⟨(.tup [],r.2.1,r.2.2.1,r.2.2.2+64),?_,hP _ _ zO (Fr.refl _ _)⟩;simp[endS,ed];have:k=ops.length:=zO;subst this;obtain⟨X,T⟩:∃x:Int,x=(ops.length:Int)-1-ops.length:=⟨_,rfl⟩;rw[<- T]at B;have c1:¬0<=X:=zO;simp[B,c1];refine⟨(.tup [],s.ob,s.tk,s.nx+64+64),?_,w _ _ _ (m _ _ _ _ _ _ I zO (Fr.refl _ _))⟩;simp[endS,L]
def j5p:C:=.region [⟨some 7,.alloc [(.bool false),(.int .i64 0),(.int .i64 0),(.int .i64 0)],none,false⟩,⟨none,.store 4 (.t 7) (.t 11),none,false⟩]
def jv0:C:=.block 1 (.seq (.region [⟨some 12,.fieldAddr 0 (.t 7),none,false⟩,⟨some 13,.load none (.t 12),none,false⟩,⟨some 14,.mov (.t 13),none,false⟩,⟨some 15,.fieldAddr 1 (.t 7),(some (14,true)),false⟩,⟨some 16,.load none (.t 15),(some (14,true)),false⟩,⟨some 17,.load none (.t 3),(some (14,true)),false⟩,⟨some 18,.bin .eql (.t 16) (.t 17),(some (14,true)),false⟩,⟨some 19,.pick (.t 14) (.t 18) (.c (.bool false)),none,false⟩])
 (.cond (.t 19) (.seq (.region [⟨some 20,.fieldAddr 2 (.t 7),none,false⟩,⟨some 21,.load (some 2) (.t 20),none,false⟩,⟨none,.store 2 (.t 4) (.t 21),none,false⟩,⟨none,.store 1 (.t 5) (.c (.bool true)),none,false⟩]) (.ret)) (.skip)))
def j2j (nl:Bool) (ops:List Op') (x:ops.length<=1000000) (d:Int) {st:St}{lh uh:Nat}(U:Nat) (hU:st.nx=U) (d2:64<=U) (h9:st.tm 9=.fn (.func 217) [] [.ptr lh uh 0]) (hl:∃m,lh=2*m+1/\m<U)
 (h3:st.tm 3=.ptr 6 0 0) (h4:st.tm 4=.ptr 8 64 0) (h5:st.tm 5=.ptr 10 128 0) (b0:st.ro=0) (a0:st.fb=0) (o6:st.ob 6=some ⟨0,.cells [.int .i64 d]⟩) (o8:st.ob 8=some ⟨64,.cells [.int .i64 0,.int .i64 0]⟩) (c6:st.ob 10=some ⟨128,.cells [.bool false]⟩)
 (oh:st.ob lh=some ⟨uh,.cells [yl nl yS ops]⟩) {Q:Ex->St->Prop}
 (hQ:∀(e:Ex) (ob:ZO) (tk:Nat->Bool) (ub:Nat) (v:Val') (b:Bool),ob 8=some ⟨64,.cells (J7 v)⟩->ob 10=some ⟨128,.cells [.bool b]⟩->ob (2*U+3)=some ⟨U+1,.dfr⟩->U+64<=ub ->
  JH d ops ops.length=(v,b)->(e=.nrm/\v=⟨0,0⟩/\b=false\/e=.ret)->Q e { st with ob:=ob,tk:=tk,nx:=ub,df:=(2*U+3,U+1)::st.df }) :
 wpC E YS (.rangeFunc (.t 9) [10,11] j5p jv0) st Q:=by
 obtain⟨m,rfl,c9⟩:=hl;subst hU;refine Q9 (g:=217) (first:=[]) (captured:=[.ptr (2*m+1) uh 0]) (zU h9) ?_;have e1:¬2*m+1=2*st.nx+1:=zO;have e2:¬2*m+1=2*st.nx+3:=zO;have b9:¬2*m=2*st.nx:=zO;have c1:¬2*m=2*st.nx+2:=zO;have:=run217 (Yf:=jia E YS j5p jv0 st [10,11] (2*st.nx+1) st.nx) nl ops x (l:=2*st.nx+1) (u:=st.nx) (lh:=2*m+1) (uh:=uh)
  (ob0:=upd (upd st.ob (2*st.nx+3) (some ⟨st.nx+1,.dfr⟩)) (2*st.nx+1) (some ⟨st.nx,.loop .ready none⟩)) (tk0:=st.tk) (ro:=st.ro) (base:=(st.fb+1023)*1024) (ub0:=st.nx+64)
  (λk ob tk ub=>JH d ops ops.length=JH d ops (ops.length-k)/\ob (2*st.nx+1)=some ⟨st.nx,.loop .ready none⟩/\ob (2*st.nx+3)=some ⟨st.nx+1,.dfr⟩/\ob 6=some ⟨0,.cells [.int .i64 d]⟩/\ob 8=some ⟨64,.cells [.int .i64 0,.int .i64 0]⟩/\ob 10=some ⟨128,.cells [.bool false]⟩/\ob (2*m+1)=some ⟨uh,.cells [yl nl yS ops]⟩/\st.nx+64<=ub)
  (λr=>∃s z,r.2.1 (2*st.nx+1)=some ⟨st.nx,.loop s z⟩/\s≠.busy/\st.ro<=st.nx/\Q (z.getD .nrm) { st with ob:=λk=>if Nat.beq (2*st.nx+1) k then none else r.2.1 k,tk:=r.2.2.1,nx:=r.2.2.2,df:=(2*st.nx+3,st.nx+1)::st.df })
  ?_ ?_ zO ?_ ?_ ?_
 obtain⟨r,hr,hP⟩:=this;exact⟨r,hr,hP⟩;rintro k ob i tk ub b7 ⟨p,J,N,T,M,L,K,g8⟩ d0 H;have f:∀n,(∀m,ub<=m->n≠2*m+1)->i n=ob n:=H;exact⟨p,by rw[f _ (λm x=>by omega)];exact J,by rw[f _ (λm x=>by omega)];exact N,by rw[f _ (λm x=>by omega)];exact T,by rw[f _ (λm x=>by omega)];exact M,by rw[f _ (λm x=>by omega)];exact L,by rw[f _ (λm x=>by omega)];exact K,zO⟩;rintro k ob tk ub ⟨p,J,N,T,M,L,K,g8⟩;exact K
 ·rintro k hk ob tk ub ⟨p,J,N,T,M,L,K,g8⟩ d1;obtain⟨j,hj⟩:∃j,j=ops.length-1-k:=⟨_,rfl⟩;have P:j<ops.length:=zO;have c0:ops.getD j ⟨false,0,0,0⟩=ops[j]:=by rw[ay,aa P];rfl
  have B:=jak (k:=d) P;rw[<- hj,c0];obtain⟨o,ho⟩:∃o,ops[j]=o:=⟨_,rfl⟩;rw[ho]at B ⊢;rw[show ops.length-k=j+1 by omega]at p;rw[B]at p;refine jhn (asg:=j5p) (bd:=jv0) (xs:=[.int .i64 (j:Nat),.agg (yS o)]) rfl zO J zQ zQ ?_;simp[j5p,jfw,ya,a0,yS,b0,j2];refine⟨by rw[za zO,za zO];exact J,jQ λc a=>?_⟩;have f3:c.tm 3=.ptr 6 0 0:=by rw[a];simp[yg,h3]
  have f4:c.tm 4=.ptr 8 64 0:=by rw[a];simp[yg,h4]
  have f5:c.tm 5=.ptr 10 128 0:=by rw[a];simp[yg,h5]
  have f7:c.tm 7=.ptr 14 ub 0:=by rw[a];simp
  have n6:¬6=2*st.nx+1:=zO;have Z:¬8=2*st.nx+1:=zO;have q:¬10=2*st.nx+1:=zO;have c5:¬14=2*st.nx+1:=zO;have n3:¬2*st.nx+3=2*st.nx+1:=zO;have X:¬2*st.nx+3=14:=zO;have O:¬2*m+1=14:=zO;have p6:c.ob 6=some ⟨0,.cells [.int .i64 d]⟩:=by rw[a];simp[yg,n6,T]
  have p8:c.ob 8=some ⟨64,.cells [.int .i64 0,.int .i64 0]⟩:=by rw[a];simp[yg,Z,M]
  have F:c.ob 10=some ⟨128,.cells [.bool false]⟩:=by rw[a];simp[yg,q,L]
  have I:c.ob 14=some ⟨ub,.cells (yS o)⟩:=by rw[a];simp[yg,c5,yS]
  have p3:c.ob (2*st.nx+3)=some ⟨st.nx+1,.dfr⟩:=by rw[a];simp[yg,X,N]
  have p1:c.ob (2*st.nx+1)=some ⟨st.nx,.loop .busy none⟩:=by rw[a];simp
  have ph:c.ob (2*m+1)=some ⟨uh,.cells [yl nl yS ops]⟩:=by rw[a];simp[yg,b9,O,K]
  have fr:c.ro=0:=by rw[a]
  have fn:ub<=c.nx:=by rw[a];simp;omega
  clear a;have c3:¬2*st.nx+1=8:=zO;have S:¬2*st.nx+1=10:=zO;have c8:¬2*st.nx+3=8:=zO;have b5:¬2*st.nx+3=10:=zO;have skip:wkB d o=false->JH d ops ops.length=JH d ops (ops.length-(k+1)):=λD=>by rw[D]at p;rw[p,show ops.length-(k+1)=j by omega];rfl
  have done:wkB d o=false->(c4:True)->JH d ops ops.length=JH d ops (ops.length-(k+1))/\upd c.ob (2*st.nx+1) (some ⟨st.nx,.loop .ready none⟩) (2*st.nx+3)=some ⟨st.nx+1,.dfr⟩:=λD _=>⟨skip D,by rw[yg,za n3];exact p3⟩;cases h:o.w;have D:=skip (by unfold wkB;rw[h];rfl);simp[jv0,f7,I,ya,yS,h,p1,QF];exact⟨D,by rw[yg,za n3];exact p3,by rw[yg,za n6];exact p6,by rw[yg,za Z];exact p8,by rw[yg,za q];exact F,by rw[yg,za e1];exact ph,zO⟩;cases y:(o.key==d);have D:=skip (by unfold wkB;rw[h,y];rfl);simp[jv0,f7,I,ya,yS,h,f3,p6,y,p1,QF];exact⟨D,by rw[yg,za n3];exact p3,by rw[yg,za n6];exact p6,by rw[yg,za Z];exact p8,by rw[yg,za q];exact F,by rw[yg,za e1];exact ph,zO⟩;have c7:wkB d o=true:=by unfold wkB;rw[h,y];rfl
  rw[c7]at p;simp only[zd]at p;simp[jv0,f7,I,ya,yS,h,f3,p6,y,f4,f5,p8,F,fr,j2,c3,S,p1,QF];intro i b7 d4 H;have fk:∀n,(∀m,c.nx+64+64+64+64+64+64+64+64+64+64+64+64<=m->n≠2*m+1)->i n=_:=H;have G:∀{k:Nat},k≠2*st.nx+1->(if 2*st.nx+1=k then none else i k)=i k:=λhk=>za λe=>hk e.symm;refine⟨.done,some .ret,?_,zS,?_⟩;rw[fk _ (λm x=>by omega)];simp;have:=hQ .ret (λk=>if 2*st.nx+1=k then none else i k) c.tk b7 o.v true (by rw[G Z,fk _ (λm x=>by omega)];simp[yg,Z,J7]) (by rw[G q,fk _ (λm x=>by omega)];simp[yg,q])
   (by rw[G n3,fk _ (λm x=>by omega)];simp[yg,c8,b5,p3]) zO p (Or.inr rfl)
  rw[b0,a0]at this;simpa[jk] using this
 rintro ob tk ub ⟨p,J,N,T,M,L,K,g8⟩;refine⟨.ready,none,J,zS,zO,?_⟩;rw[fV]at p;exact hQ .nrm _ _ _ ⟨0,0⟩ false ((j6t ob zO).trans M) ((j6t ob zO).trans L) ((j6t ob zO).trans N) g8 p (Or.inl ⟨rfl,rfl,rfl⟩);have d3:¬2*st.nx+3=2*st.nx+1:=zO;have a6:¬6=2*st.nx+1:=zO;have b6:¬6=2*st.nx+3:=zO;have a8:¬8=2*st.nx+1:=zO;have b8:¬8=2*st.nx+3:=zO;have a10:¬10=2*st.nx+1:=zO;have c2:¬10=2*st.nx+3:=zO;exact⟨by rw[Nat.sub_zero],zS,by simp[yg],by simp[yg,a6,b6,o6],by simp[yg,a8,b8,o8],by simp[yg,a10,c2,c6],by simp[yg,b9,c1,oh],zO⟩
end Go.Pv.T
namespace Go.Pv.T
open Go Go.Pv
end Go.Pv.T
namespace Go.Pv.T
open Go Go.Pv
def Qr {g:Hist'}(a:Yr g=false):errH g=4:=by unfold errH;rw[a];rfl
end Go.Pv.T
namespace Go.Pv.T
open Go Go.Pv Go.Sort
def arr {α:Type}(f:α->List V) (d:Array α):List V:=d.toList.flatMap f
def j00 {α:Type}{f:α->List V}{sz:Nat}(b:∀a,(f a).length=sz) (d:Array α):(arr f d).length=d.size*sz:=by unfold arr;rw[j1 b,aM]
def jar {α:Type}{f:α->List V}{sz:Nat}(b:∀a,(f a).length=sz) (a:α):∀(l:List α) (i:Nat),i<l.length->j2 (l.flatMap f) (i*sz) (f a)=(l.set i a).flatMap f
 |[],_,h=>by simp at h
 |x::l,0,_=>by simp[j2,b]
 |x::l,i+1,h=>by
  have c:=jar b a l i (zU h);have e:(i+1)*sz=(f x).length+i*sz:=by rw[b,dh,fX]
  unfold j2 at c ⊢;rw[List.set_cons_succ,bk,bk,<- c,e,fm,aA,ic];simp
section
variable {α:Type}[Inhabited α] {f:α->List V}{sz:Nat}{d:Array α}
def idxA {l u n:Nat}{kk:IntKind}{x:Int}(b:0<=x) (a:x<n):jt sz (.osl l u 0 n sz) (.int kk x)=some (.ptr l u (x.toNat*sz)):=by simp[jt,b,a]
end
@[simp] theorem arrI_len (d:Array Int):(arr yf d).length=d.size:=by rw[j00 (sz:=1) j6,bz]
def At (l u:Nat) (cs:List V) (ob:ZO) (tk:Nat->Bool) (ub:Nat) (ob':ZO) (tk':Nat->Bool) (ub':Nat):Prop :=
 ob' l=some ⟨u,.cells cs⟩/\(∀key,key≠l->(∀m,ub<=m->key≠2*m+1)->ob' key=ob key)/\tk'=tk/\ub<=ub'
def jfj {st:St}{P:V×(ZO)×(Nat->Bool)×Nat->Prop}{e:Ex}(b:e=.nrm\/e=.ret) (a:st.df=[]) (h:P (.tup [],st.ob,st.tk,st.nx)):Jg [] P e st:=by refine⟨_,?_,h⟩;rcases b with rfl|rfl<;>simp[endS,a]
def wrapN {x:Int}(a:-1000000000<=x) (b:x<=1000000000):IntKind.i64.wrap x=x:=jg zO zO
def j4k {l u n x:Nat}{kk:IntKind}{X:Int}(a:X=(x:Nat)) (b:x<n):jt 1 (.osl l u 0 n 1) (.int kk X)=some (.ptr l u x):=by subst a;have:=idxA (sz:=1) (l:=l) (u:=u) (n:=n) (kk:=kk) (x:=(x:Int)) zO zO;simpa using this
def At.swap {l u:Nat}{k:Array Int}{cs:List V}{ob:ZO}{tk:Nat->Bool}{ub:Nat}{e:ZO}{f:Nat->Bool}{j:Nat}{d:ZO}{g:Nat->Bool}{i:Nat}(h:At l u (arr yf k) ob tk ub e f j)
 (p:d l=some ⟨u,.cells cs⟩) (m:∀c,c≠l->d c=e c) (n:g=f) (o:j<=i):At l u cs ob tk ub d g i :=
 ⟨p,λc a b=>(m c a).trans (h.2.1 c a b),n.trans h.2.2.1,bI h.2.2.2 o⟩
def jt5 (st:St) (d:Option Nat) (v:V) (ob:ZO) (tk:Nat->Bool):St:={ st with tm:=put st.tm d v,ob:=ob,tk:=tk }
section
variable {st:St}{d:Option Nat}{v:V}{ob:ZO}{tk:Nat->Bool}
@[simp] theorem retS_tm (e n:Nat):(jt5 st (some e) v ob tk).tm n=if n=e then v else st.tm n:=by simp[jt5,put,yg]
@[simp] theorem retS_tm0 (n:Nat):(jt5 st none v ob tk).tm n=st.tm n:=rfl
@[simp] theorem jj3:(jt5 st d v ob tk).ob=ob:=rfl
@[simp] theorem retS_tk:(jt5 st d v ob tk).tk=tk:=rfl
@[simp] theorem retS_ro:(jt5 st d v ob tk).ro=st.ro:=rfl
@[simp] theorem retS_nx:(jt5 st d v ob tk).nx=st.nx:=rfl
@[simp] theorem retS_fb:(jt5 st d v ob tk).fb=st.fb:=rfl
@[simp] theorem retS_df:(jt5 st d v ob tk).df=st.df:=rfl
end
@[simp] theorem j3a (l u o:Nat):jcs (.ptr l u o)=some (.ptr l u o):=rfl
def jJ {Yf:YF}{f:FuncId}{xs:List A}{st:St}{ub:Nat}{K:St->Nat->Prop}{d:Option Nat}{nm:Bool}{vs:List V}{P:V×(ZO)×(Nat->Bool)×Nat->Prop}(i:xs.map (ye E st.tm)=vs) (g:E.sh nm f=true)
 (j:∃r,EvS E Yf.y f vs st.ob st.tk st.ro ((st.fb+d.getD 0+1)*1024) ub r/\P r) (h:∀v c a b,P (v,c,a,b)->K (jt5 st d v c a) b):j8 E Yf ⟨d,.call f xs,none,nm⟩ st ub K:=by
 obtain⟨r,e,k⟩:=j;exact jcz i g ⟨r,e,h r.1 r.2.1 r.2.2.1 r.2.2.2 k⟩
def YZ {st:St}{x y:Nat}{P:V×(ZO)×(Nat->Bool)×Nat->Prop}(a:st.df=[]) (h:P (.tup [st.tm x,st.tm y],st.ob,st.tk,st.nx)):Jg [.t x,.t y] P .ret st:=⟨_,by simp[endS,a,ju],h⟩
def JL {st:St}{x:Nat}{P:V×(ZO)×(Nat->Bool)×Nat->Prop}(a:st.df=[]) (h:P (st.tm x,st.ob,st.tk,st.nx)):Jg [.t x] P .ret st:=⟨_,by simp[endS,a,ju],h⟩
def At.refl {l u:Nat}{cs:List V}{ob:ZO}{tk:Nat->Bool}{ub:Nat}(h:ob l=some ⟨u,.cells cs⟩):At l u cs ob tk ub ob tk ub:=⟨h,λ_ _ _=>rfl,rfl,zK⟩
def At.trans {l u:Nat}{cs f:List V}{ob g j:ZO}{tk i k:Nat->Bool}{ub o c n:Nat}(h:At l u cs ob tk ub g i o) (p:At l u f g i c j k n) (q:o<=c):At l u f ob tk ub j k n :=
 ⟨p.1,λe a b=>(p.2.1 e a (λm r=>b m (by have:=h.2.2.2;omega))).trans (h.2.1 e a b),p.2.2.1.trans h.2.2.1,by have:=h.2.2.2;have:=p.2.2.2;omega⟩
def At.same {l u:Nat}{cs:List V}{ob e a:ZO}{tk f b:Nat->Bool}{ub g c:Nat}(h:At l u cs ob tk ub e f g) (j:a=e) (i:b=f) (k:g<=c):At l u cs ob tk ub a b c:=by subst j i;exact⟨h.1,h.2.1,h.2.2.1,bI h.2.2.2 k⟩
end Go.Pv.T
namespace Go.Pv.T
open Go Go.Pv Go.Sort
end Go.Pv.T
namespace Go.Pv.T
open Go Go.Pv Go.Sort
def j9f {Yf:YF}{a b:C}{st:St}{Q:Ex->St->Prop}{c:Bool}(h:∀s,s=st->kIf E Yf a b s Q c):kIf E Yf a b st Q c:=h st rfl
end Go.Pv.T
namespace Go.Pv.T
open Go Go.Pv Go.Sort
end Go.Pv.T
namespace Go.Pv.T
open Go Go.Pv Go.Sort
end Go.Pv.T
namespace Go.Pv.T
open Go Go.Pv Go.Sort
end Go.Pv.T
namespace Go.Pv.T
open Go Go.Pv Go.Sort
@[simp] theorem convV_int (k a:IntKind) (n:Int):Xz k (.int a n)=some (.int k (k.wrap n)):=rfl
end Go.Pv.T
namespace Go.Pv.T
open Go Go.Pv Go.Sort
end Go.Pv.T
namespace Go.Pv.T
open Go Go.Pv Go.Sort
end Go.Pv.T
namespace Go.Pv.T
open Go Go.Pv Go.Sort
def sv167n {Yf:YF}{ob:ZO}{tk:Nat->Bool}{ro base ub:Nat}:∃r,EvS E Yf.y 167 [.sl none true 0 []] ob tk ro base ub r/\r.2.1=ob/\r.2.2.1=tk/\ub<=r.2.2.2 :=
 ⟨(.tup [],ob,tk,ub),jle (m:=none) rfl rfl rfl,rfl,rfl,zK⟩
def jnd:∀L:List Int,(L.flatMap yf).mapM int64? = some L
 |[]=>rfl
 |x::L=>by rw[bk];show(V.int .i64 x::L.flatMap yf).mapM int64? = _;simp only[bQ,jnd L];rfl
def sv167 {Yf:YF}{l u:Nat}{L T:List Int}(hp:L.Perm T) (f:T.Pairwise (·<=·)) (j:L.length<=1000000000) {ob:ZO}{tk:Nat->Bool}{ro base ub:Nat}(e:ob l=some ⟨u,.cells (L.flatMap yf)⟩) (b:ro<=u) (_:∀m,ub<=m->l≠2*m+1) (_:ro<=ub) :
 ∃r,EvS E Yf.y 167 [.osl l u 0 L.length 1] ob tk ro base ub r/\At l u (T.flatMap yf) ob tk ub r.2.1 r.2.2.1 r.2.2.2:=by
 have g:jon L=T:=jj9 ((jaf L).trans hp) (jjx L) f;have c:(L.flatMap yf).length=L.length:=by rw[j1 j6,bz]
 have a:∀T:List Int,T.map (V.int .i64)=T.flatMap yf:=λT=>by induction T<;>simp_all [yf]
 refine⟨(.tup [],upd ob l (some ⟨u,.cells (T.flatMap yf)⟩),tk,ub),jle (m:=none) rfl ?_ rfl,zS,λd h _=>by simp[JU _ _ h],rfl,zK⟩;have i:ya ob l u=some (L.flatMap yf):=by simp[ya,e]
 simp only[jtw,jls,jhp,jq4,QY,i,ah,bz,zd];rw[zb ⟨bS▸b,trivial,zO,j⟩,du,aH zO,jnd,ah,g,a];have:(T.flatMap yf).length=(L.flatMap yf).length:=by rw[j1 j6,j1 j6,hp.length_eq]
 rw[j2,dP,dz,bC zO,aL]
end Go.Pv.T
namespace Go.Pv.T
open Go Go.Pv
def sv164 {Yf:YF}{b:V}(d:b.cells=[b]) (c:b.leaf=true) {ob:ZO}{tk:Nat->Bool}{ro base ub:Nat}:∃r,EvS E Yf.y 164 [b] ob tk ro base ub r /\
 r.1=.fn (.func 217) [] [.ptr (2*ub+1) ub 0]/\(∀a,r.2.1 a=if a=2*ub+1 then some ⟨ub,.cells [b]⟩ else ob a)/\r.2.2.1=tk/\r.2.2.2=ub+256:=by
 refine J6 rfl zQ ?_;show wpC E Yf S164.body _ (Jg S164.res _);conv in(occs:=*)S164=>all_goals cbv
 simp[d,c];exact JL zS ⟨zS,λa=>by simp,by simp[jk],zS⟩
def Ys (ops:List Op') (key:Int):Val'×Bool:=JH key ops ops.length
def ev111 (nl:Bool) (ops:List Op') (H:ops.length<=1000000) (key:Int):Ev E 111 [yl nl yS ops,.int .i64 key] (.tup [.agg (J7 (Ys ops key).1),.bool (Ys ops key).2]):=by
 refine jS rfl ?_;conv in(occs:=*)F111=>all_goals cbv
 simp;refine jJ (vs:=[yl nl yS ops]) zS rfl (sv164 zS zS) ?_;rintro v F t B ⟨p,f,I,q⟩;simp only at p f I q;subst p q;simp;refine jQ λc a=>?_;have K:c.tm 3=.ptr 6 0 0:=by rw[a];simp
 have i:c.tm 4=.ptr 8 64 0:=by rw[a];simp
 have j:c.tm 5=.ptr 10 128 0:=by rw[a];simp
 have s:c.tm 9=.fn (.func 217) [] [.ptr 513 256 0]:=by rw[a];simp
 have o:c.df=[]:=by rw[a];simp
 have y:c.fb=0:=by rw[a];simp
 have m:c.ro=0:=by rw[a];simp
 have G:c.nx=512:=by rw[a];simp
 have x:c.ob 6=some ⟨0,.cells [.int .i64 key]⟩:=by rw[a];simp only[JZ,jj3];rw[f];simp
 have z:c.ob 8=some ⟨64,.cells [.int .i64 0,.int .i64 0]⟩:=by rw[a];simp only[JZ,jj3];rw[f];simp
 have k:c.ob 10=some ⟨128,.cells [.bool false]⟩:=by rw[a];simp only[JZ,jj3];rw[f];simp
 have J:c.ob 513=some ⟨256,.cells [yl nl yS ops]⟩:=by rw[a];simp only[JZ,jj3];rw[f];simp
 clear a f;refine j2j nl ops H key 512 G zO s ⟨256,rfl,zO⟩ K i j m y x z k J ?_;intro e ob L M v b r h n w g d;have D:Ys ops key=(v,b):=g;rw[D];rcases d with⟨rfl,rfl,rfl⟩|rfl;simp[i,j,ya,r,h,m,j2,J7];refine jaa (l:=1027) (u:=513) (by simp[o]) (by simp[n]) zS (JP rfl (l:=[.agg (J7 ⟨0,0⟩),.bool false]) (by simp[ju,ya,i,j,J7]) rfl rfl);simp;refine jaa (l:=1027) (u:=513) (by simp[o]) (by simp[n]) (by simp[m]) (JP rfl (l:=[.agg (J7 v),.bool b]) (by simp[ju,ya,i,j,r,h,J7]) rfl rfl)
def Jr (h:Hist') (i:Int):Bool×List Op':=if Yr h&&(decide (0<=i)&&decide (i<h.ts.length)) then ((h.ts.getD i.toNat ⟨0,0,true,[]⟩).nl,(h.ts.getD i.toNat ⟨0,0,true,[]⟩).ops) else (true,[])
def ev110 {h:Hist'}(k:Small h) (i:Int):Ev E 110 [.agg (yb h),.int .i64 i] (yl (Jr h i).1 yS (Jr h i).2):=by
 have f:=ev53 k;have l:=k.ts;refine jS rfl ?_;obtain⟨R,a⟩:∃R,Jr h i=R:=⟨_,rfl⟩;rw[a];unfold Jr at a;conv in(occs:=*)F110=>all_goals cbv
 simp[yb,ya];refine jH f zI rfl zI ?_;cases b:Yr h;rw[Qr b];rw[b]at a;subst a;simp;exact j3 rfl (by simp[yl]) rfl;rw[b]at a;rw[W6 b];by_cases c:i<0;rw[za zP]at a;subst a;simp[c];exact j3 rfl (by simp[yl]) rfl;by_cases g:(h.ts.length:Int)<=i;rw[za zP]at a;subst a;simp[c,g,ya];exact j3 rfl (by simp[yl]) rfl;rw[zb zP]at a;obtain⟨j,rfl⟩:∃j:Nat,i=j:=⟨i.toNat,zO⟩;have d:j<h.ts.length:=zO;have e:(h.ts.flatMap jf)[j*3+2]? = some (yl (h.ts[j]).nl yS (h.ts[j]).ops):=by rw[jO j7 h.ts d (by decide:2<3)];rfl
 rw[ba,XB d]at a;subst a;simp[c,g,ya,d,j4 j7,e];exact j3 rfl zS rfl
def jmg {h:Hist'}(b:Small h) (i:Int):(Jr h i).2.length<=1000:=by unfold Jr;split;rename_i c;simp only[aj,ze]at c;have a:i.toNat<h.ts.length:=zO;rw[XB a];exact b.os _ (au a);simp
def ev169 {h:Hist'}(c:Small h) (i key:Int):Ev E 169 [.agg (yb h),.int .i64 i,.int .i64 key] (.tup [.agg (J7 (Ys (Jr h i).2 key).1),.bool (Ys (Jr h i).2 key).2]):=by
 have b:=ev110 c i;have a:=ev111 (Jr h i).1 (Jr h i).2 (by have:=jmg c i;omega) key;refine jS rfl ?_;generalize (Jr h i).1=nl at *;generalize (Jr h i).2=ops at *;obtain⟨R,d⟩:∃R,Ys ops key=R:=⟨_,rfl⟩;rw[d]at a ⊢;conv in(occs:=*)F169=>all_goals cbv
 simp[yb,ya];refine jH b zI rfl zI ?_;rw[JY (show(yl nl yS ops).plain=true from rfl)];simp;refine jH a zS rfl zS ?_;rw[Jb (by simp[V.plain,J7])];simp[ya,j2,J7];exact JP zS (l:=[.agg (J7 R.1),.bool R.2]) (by simp[ju,ya,J7]) rfl rfl
def opAt (h:Hist') (a b:Int):Option Op' :=
 if Yr h&&(decide (0<=a)&&(decide (a<h.ts.length)&&(decide (0<=b)&&decide (b<((h.ts.getD a.toNat ⟨0,0,true,[]⟩).ops.length:Nat))))) then (h.ts.getD a.toNat ⟨0,0,true,[]⟩).ops[b.toNat]? else none
def op0:Op':=⟨false,0,0,0⟩
def ev165 {h:Hist'}(v:Small h) (a b:Int):Ev E 165 [.agg (yb h),.agg (jC (a,b))] (.tup [.agg (yS ((opAt h a b).getD op0)),.bool ((opAt h a b).any λo=>!o.w)]):=by
 have x:=ev53 v;have I:=v.ts;refine jS rfl ?_;obtain⟨R,c⟩:∃R,opAt h a b=R:=⟨_,rfl⟩;rw[c];unfold opAt at c;conv in(occs:=*)F165=>all_goals cbv
 simp[yb,ya,jC];generalize u:jv1 E YS (C.seq (C.draw _ _) _) (j57 _ _)=K;have d:∀s:St,j57 [.cell 4 (some 4),.t 5] (.tup [.agg (yS (R.getD op0)),.bool (R.any λo=>!o.w)]) .ret s->K .ret s:=λs h=>by rw[<- u,jsa];exact h
 refine X4 x zI rfl zI ?_;cases n:Yr h;rw[Qr n];rw[n]at c;subst c;simp[ya,j2];exact d _ (JP zS (l:=[.agg (yS op0),.bool false]) (by simp[ju,ya,yS,op0]) rfl rfl);rw[n]at c;rw[W6 n];by_cases k:a<0;rw[za zP]at c;subst c;simp[k,ya,j2];exact d _ (JP zS (l:=[.agg (yS op0),.bool false]) (by simp[ju,ya,yS,op0]) rfl rfl);by_cases m:(h.ts.length:Int)<=a;rw[za zP]at c;subst c;simp[k,m,ya,j2];exact d _ (JP zS (l:=[.agg (yS op0),.bool false]) (by simp[ju,ya,yS,op0]) rfl rfl);obtain⟨i,rfl⟩:∃i:Nat,a=i:=⟨a.toNat,zO⟩;have f:i<h.ts.length:=zO;rw[ba,XB f]at c;obtain⟨t,p⟩:∃t,h.ts[i]=t:=⟨_,rfl⟩;rw[p]at c;have Q:=v.os t (p▸au f);have e:(h.ts.flatMap jf)[i*3+2]? = some (yl t.nl yS t.ops):=by rw[jO j7 h.ts f (by decide:2<3),p];rfl
 by_cases q:b<0;rw[za zP]at c;subst c;simp[k,m,q,ya,j2];exact d _ (JP zS (l:=[.agg (yS op0),.bool false]) (by simp[ju,ya,yS,op0]) rfl rfl);by_cases B:(t.ops.length:Int)<=b;rw[za zP]at c;subst c;simp[k,m,q,B,ya,j2,f,j4 j7,e];exact d _ (JP zS (l:=[.agg (yS op0),.bool false]) (by simp[ju,ya,yS,op0]) rfl rfl);obtain⟨j,rfl⟩:∃j:Nat,b=j:=⟨b.toNat,zO⟩;have z:j<t.ops.length:=zO;rw[zb zP,ba,aa z]at c;obtain⟨o,y⟩:∃o,t.ops[j]=o:=⟨_,rfl⟩;rw[y]at c;subst c;have O:¬t.ops.length<=j:=zO;have L:¬h.ts.length<=i:=zO;have g:∀s:St,s.tm 2=.ptr 4 0 0->s.tm 3=.ptr 6 64 0->s.tm 4=.ptr 8 128 0->s.ob 4=some ⟨0,.cells (yb h)⟩->s.ob 6=some ⟨64,.cells [.int .i64 i,.int .i64 j]⟩->s.ob 8=some ⟨128,.cells [.bool false,.int .i64 0,.int .i64 0,.int .i64 0]⟩->s.df=[]->s.ro=0->s.fb=0->K .nrm s:=by intro s F H r P G M J D N;rw[<- u,jkp];simp[F,H,P,G,ya,yb,f,j4 j7,e,z,j4 jD,jd jD,y,yS,j2,N,D];refine⟨by simp[JQ,YW,Wk,QP,yz,yB,yR,Delta.wo,Delta.wt];try decide,?_⟩;simp[r,M,ya,D,j2];refine⟨by simp[JQ,YW,Wk,QP,yz,yB,yR,Delta.wo,Delta.wt,r];try decide,?_⟩;exact JP (by simp[J]) (l:=[.agg (yS o),.bool !o.w]) (by simp[ju,ya,yS,r]) rfl (by simp[j7e,yS])
 clear u;simp[k,m,q,B,ya,f,j4 j7,e];exact g _ zS zS zS zI zS zS zS zS zS
def valV (v:Val'):V:=.agg (J7 v)
def Xx (g:Hist') (key i:Int):Val':=(Ys (Jr g i).2 key).1
def X3 (g:Hist') (a key:Int) (W:List Int):List (Int×Val'):=(W.filter λi=>!(i==a)).map λi=>(i,Xx g key i)
def Qp {p:Txn'->Bool}{ts:List Txn'}:∀n,n<=ts.length->(∀x∈yu p ts n,0<=x/\x<n)/\(yu p ts n).Pairwise (· < ·)
 |0,_=>by simp[yu]
 |n+1,h=>by have a:=Qp (p:=p) (ts:=ts) n zO;have e:=Jm (p:=p) (show n<ts.length by omega);rw[e];cases d:p ts[n];simp only[ag,zc,aL];exact⟨λx b=>by have:=a.1 x b;omega,a.2⟩;simp only[zd];refine⟨λx b=>?_,?_⟩;rcases aQ.1 b with h|h;have:=a.1 x h;omega;rw[ae]at h;omega;rw[List.pairwise_append];refine⟨a.2,fQ _ _,λx b y c=>?_⟩;rw[ae]at c;have:=a.1 x b;omega
def j3c {b:Type}{m:List (Int×b)}{k:Int}{a:b}(h:k ∉ m.map (·.1)):Wj m k a=m++[(k,a)]:=by unfold Wj;rw[mfind_none.2 h]
def jka {g:Hist'}{a key:Int}{W:List Int}{i:Nat}(hi:i<W.length):X3 g a key (W.take (i+1))=X3 g a key (W.take i)++(if W[i]=a then [] else [(W[i],Xx g key W[i])]):=by unfold X3;rw[av hi,bN,bE];by_cases h:W[i]=a<;>simp[h]
def jmf {g:Hist'}{a key:Int}{W:List Int}(d:W.Pairwise (· < ·)) {i:Nat}(hi:i<W.length):W[i] ∉ (X3 g a key (W.take i)).map (·.1):=by intro h;unfold X3 at h;rw[cM]at h;obtain⟨x,f,c⟩:=aI.1 h;have b:=(bL.1 f).1;simp only[Function.comp]at c;obtain⟨j,e,rfl⟩:=bq b;rw[ai]at e;rw[ew]at c;have:=cZ.1 d j i zO hi zO;omega
def OthR (g:Hist') (a key:Int) (W:List Int) (ob:ZO) (ub:Nat) (r:V×(ZO)×(Nat->Bool)×Nat):Prop :=
 ∃M U ver:Nat,r.1=.map (2*M+1) U/\ub<=M/\M<r.2.2.2/\ub<=U/\r.2.1 (2*M+1)=some ⟨U,.mp ver (MP valV (X3 g a key W))⟩/\(∀k,(∀m,ub<=m->k≠2*m+1)->r.2.1 k=ob k)/\ub<=r.2.2.2
def sv166 {Yf:YF}{g:Hist'}(Q:Small g) (hm:Yr g=true) (a key:Int) {ob:ZO}{tk:Nat->Bool}{ro base ub:Nat}(a0:ro<=ub) :
 ∃r,EvS E Yf.y 166 [.agg (yb g),.int .i64 a,.int .i64 key] ob tk ro base ub r/\OthR g a key (yP g key) ob ub r:=by
 refine J6 rfl zQ ?_;show wpC E Yf S166.body _ (Jg S166.res _);obtain⟨vw,O,H⟩:=ev218 Q hm key;obtain⟨W,N⟩:∃W,yP g key=W:=⟨_,rfl⟩;have b0:W.length<=1000:=by have h1:=Jj (wrB key) g.ts g.ts.length;have T:=Q.ts;rw[<- N];unfold yP;omega
 have I:W.Pairwise (· < ·):=by rw[<- N];exact(Qp _ zK).2
 rw[N]at H ⊢;have S:¬2*ub=2*(ub+64+64):=zO;have n2:¬2*(ub+64+64)=2*ub:=zO;conv in(occs:=*)S166=>all_goals cbv
 simp[yb,ya,S];refine jH O zI rfl zI ?_;obtain⟨nl,H⟩:=H;obtain⟨t,add,p⟩:=jj6 (ub:=ub+64+64+64+64+64+64) H;rw[p];simp;refine jQ λe b=>?_;obtain⟨M,G⟩:∃M,M=ub+64+64:=⟨_,rfl⟩;have g1:e.tm 1=.int .i64 a:=by rw[b];simp
 have g2:e.tm 2=.int .i64 key:=by rw[b];simp
 have g3:e.tm 3=.ptr (2*ub+1) ub 0:=by rw[b];simp
 have g7:e.tm 7=.map (2*M+1) M:=by rw[b,G];simp
 have P:e.tm 13=.sl t nl W.length (W.flatMap yf):=by rw[b];simp
 have L:e.tm 14=.int .i64 W.length:=by rw[b];simp
 have K:e.tm 15=.int .i64 0:=by rw[b];simp
 have gd:e.df=[]:=by rw[b];simp
 have gr:e.ro=ro:=by rw[b];simp
 have gn:M<e.nx:=by rw[b,G];simp
 have ph:e.ob (2*ub+1)=some ⟨ub,.cells (yb g)⟩:=by rw[b];simp[S,yb]
 have pm:e.ob (2*M+1)=some ⟨M,.mp 0 []⟩:=by rw[b,G];simp
 have pf:∀k,(∀m,ub<=m->k≠2*m+1)->e.ob k=ob k:=by intro k B;have h1:=B ub zO;have T:=B (ub+64+64) zO;rw[b];simp[h1,T]
 clear b p;have b5:ub<M:=zO;clear G S n2;refine j5 [(9,9),(15,31)] W.length (λi s=>s.tm 15=.int .i64 i/\M<s.nx/\s.ob (2*ub+1)=some ⟨ub,.cells (yb g)⟩/\(∀k,(∀m,ub<=m->k≠2*m+1)->s.ob k=ob k)/\∃ver,s.ob (2*M+1)=some ⟨M,.mp ver (MP valV (X3 g a key (W.take i)))⟩) rfl rfl
  ⟨by simp[K],gn,ph,pf,0,by simp[pm,X3,MP]⟩ ?_
 rintro i s hi ⟨n,hn,oh,of,ver,om⟩ f;have X:=(f.t 1 zS).trans g1;have f2:=(f.t 2 zS).trans g2;have f3:=(f.t 3 zS).trans g3;have U:=(f.t 7 zS).trans g7;have F:=(f.t 13 zS).trans P;have q:=(f.t 14 zS).trans L;have fd:=f.d.trans gd;have fr:=f.r.trans gr;clear f;by_cases c:i<W.length;have Z:=jP c zO;obtain⟨x,hx⟩:∃x,W[i]=x:=⟨_,rfl⟩;have hI:jt 1 (.sl t nl W.length (W.flatMap yf)) (.int .i64 (i:Int))=some (.eptr (W.flatMap yf) i):=by simp[jt,c,j1 j6]
 have v:∀ob,W8 ob none (.eptr (W.flatMap yf) i)=some (.int .i64 x):=λob=>by have h:=jO j6 W c (by decide:0<1);rw[hx,bz,bl]at h;rw[jd2];simpa[Y0,yf] using h
 have j:=jka (g:=g) (a:=a) (key:=key) c;have w:=jmf (g:=g) (a:=a) (key:=key) I c;rw[hx]at j w;by_cases o:x=a;rw[zb o,aL]at j;subst o;simp[n,F,q,c,hI,v,X,Z];exact⟨zO,oh,of,ver,by rw[j];exact om⟩;rw[za o]at j;have D:(x != a)=true:=by simpa using o
 have z:=ev169 Q x key;simp[n,F,q,c,hI,v,X,D,f2,f3,oh,ya,U,yb];refine jH z zI rfl zI ?_;rw[Jb (by simp[V.plain,J7])];have b6:valV (Ys (Jr g x).2 key).1=valV (Xx g key x):=rfl;simp;refine jcy (f:=valV) (a:=Xx g key x) (ver:=ver) (l:=2*M+1) (u:=M) (k:=x) (X3 g a key (W.take i)) zS zS (by simp[valV,Xx,J7]) (zU om) (by simp[fr];omega) ?_;rw[j3c w,<- j];have nM:¬2*ub+1=2*M+1:=zO;have J:¬2*ub=2*M:=zO;simp[n,Z,J,oh,yb];refine⟨c,zO,λk B=>?_⟩;have:=B M zO;rw[za this];exact of k B;have:i=W.length:=zO;subst this;rw[bg]at om;simp[n,q,U];exact JL (by simp[fd]) ⟨M,M,ver,zS,zO,by simp;omega,zO,zU om,zU of,by simp;omega⟩
section
variable {E:Env}{Yf:YF}{st:St}{ub:Nat}{K:St->Nat->Prop}{d:Option Nat}{nm:Bool}
def jpo {x:A}{l u ver:Nat}{es:List (V×V)}(e:ye E st.tm x=.map l u) (a:st.ob l=some ⟨u,.mp ver es⟩)
 (h:QN K st d ub { v:=.iter (jI d nm st.fb ub) ub,obs:=[(jI d nm st.fb ub,⟨ub,.miter l u ver es none⟩)] }):j8 E Yf ⟨d,.range false x,none,nm⟩ st ub K:=by
 rw[jT _ rfl rfl];have c:jY st.ob l u=some es:=by simp[jY,a]
 have b:jn st.ob l=ver:=by simp[jn,a]
 simp only[yU,e,c,b,ah,Jn,jG,Jd];exact h
def jmc {l u l' u' ver:Nat}{δ:Delta}:∀{es c:List (V×V)},δ∈jmd l u l' u' ver c es->∃a k v b,es=a++(k,v)::b/\δ={ v:=.tup [.bool true,k,v],obs:=[(l,⟨u,.miter l' u' ver (c++a++b) (some (k,v))⟩)] }
 |[],_,h=>by simp[jmd]at h
 |(k,v)::r,c,h=>by rw[jmd,bB]at h;rcases h with h|h;exact⟨[],k,v,r,rfl,by rw[h];simp⟩;obtain⟨a,i,g,b,e,f⟩:=jmc h;exact⟨(k,v)::a,i,g,b,by rw[e];rfl,by rw[f];simp⟩
def juz {x:A}{l u l' u' ver:Nat}{left es:List (V×V)}{f:Option (V×V)}(i:ye E st.tm x=.iter l u) (h:st.ob l=some ⟨u,.miter l' u' ver left f⟩) (j:st.ob l'=some ⟨u',.mp ver es⟩) (g:st.ro<=u)
 (q:left=[]->jao K st d ub (.tup [.bool false]))
 (t:∀a k v b,left=a++(k,v)::b->QN K st d ub { v:=.tup [.bool true,k,v],obs:=[(l,⟨u,.miter l' u' ver (a++b) (some (k,v))⟩)] }):j8 E Yf ⟨d,.nextMap x,none,nm⟩ st ub K:=by
 have m:(jY st.ob l' u').isSome=true:=by simp[jY,j]
 have n:jn st.ob l'=ver:=by simp[jn,j]
 simp only[j8,yK,jl,jA];cases left with
 |nil=>refine⟨[{ v:=.tup [.bool false] }],?_,?_⟩;simp only[X6,i,h];rw[zb ⟨bS▸g,trivial,m,n⟩];intro s c;rw[ae]at c;subst c;have:=q rfl;rw[ja6];exact this
 |cons p r=>refine⟨jmd l u l' u' ver [] (p::r),?_,?_⟩;simp only[X6,i,h];rw[zb ⟨bS▸g,trivial,m,n⟩];intro s c;obtain⟨a,k,v,b,e,o⟩:=jmc c;subst o;exact t a k v b e
def j3y {x:A}{l u l' u' ver:Nat}{left es:List (V×V)}{k v:V}(f:ye E st.tm x=.iter l u) (b:st.ob l=some ⟨u,.miter l' u' ver left (some (k,v))⟩) (a:st.ob l'=some ⟨u',.mp ver es⟩)
 (h:jao K st d ub (.tup [k,v])):j8 E Yf ⟨d,.entry x,none,nm⟩ st ub K:=by
 have c:(jY st.ob l' u').isSome=true:=by simp[jY,a]
 have e:jn st.ob l'=ver:=by simp[jn,a]
 rw[jT _ rfl rfl];simp only[yU,f,b];rw[zb ⟨trivial,c,e⟩,WZ,ja6];exact h
end
def IntsO (ob:ZO) (p:Nat->Prop) (l:List Int) (v:V):Prop :=
 (l=[]/\v=.sl none true 0 [])\/(l≠[]/\∃u,v=.osl (2*u+1) u 0 l.length 1/\ob (2*u+1)=some ⟨u,.cells (l.flatMap yf)⟩/\p u)
def IntsO.frame {ob ob':ZO}{p b:Nat->Prop}{l:List Int}{v:V}(h:IntsO ob p l v) (c:∀u,p u->ob' (2*u+1)=ob (2*u+1)) (f:∀u,p u->b u):IntsO ob' b l v:=by rcases h with h|⟨g,u,e,i,a⟩;exact Or.inl h;exact Or.inr ⟨g,u,e,(c u a).trans i,f u a⟩
def jhj (st:St) (d:Option Nat) (v:V) (l:Nat) (o:Obj') (kl:List Nat) (k:Nat):(st.app d { v:=v,obs:=[(l,o)],kill:=kl }).ob k=if k=l then some o else if kl.any (Nat.beq k) then none else st.ob k:=by simp[St.app,Jk,yg]
def jk7 (st:St) (d:Option Nat) (v:V) (l:Nat) (o:Obj') (kl:List Nat) (k:Nat) (h:k ∉ kl):(st.app d { v:=v,obs:=[(l,o)],kill:=kl }).ob k=if k=l then some o else st.ob k:=by
 rw[jhj];have:(kl.any (Nat.beq k))=false:=by rw[eO];intro x b a;exact h (bt a▸b)
 rw[this];rfl
def jdo (st:St) (k:Nat):∀l:List Int,(l.flatMap yf).mapM (JX st (k+1))=some (l.flatMap yf)
 |[]=>rfl
 |a::l=>by show((V.int .i64 a)::l.flatMap yf).mapM _=_;rw[bQ,jdo st k l];rfl
def jkt (T:List Int):V:=if T.isEmpty then .sl none true 0 [] else .sl (some (0,1)) false T.length (T.flatMap yf)
def numR_intsV (T:List Int):j1c T (jkt T):=by
 cases T with
 |nil=>exact⟨true,none,rfl,zS⟩
 |cons a T=>exact⟨false,some (0,1),rfl,zS⟩
def Ww {st:St}{p:Nat->Prop}{n:Nat}{T:List Int}{v:V}(g:st.df=[]) (m:st.tm n=v) (h:IntsO st.ob p T v) (j:∀u,p u->st.ro<=u):j57 [.t n] (jkt T) .ret st:=by
 show jb4 [.t n] (.ret,st)=some (jkt T);rcases h with⟨rfl,rfl⟩|⟨b,u,rfl,l,o⟩;exact j3 g (by rw[m];rfl) rfl;have a:ya st.ob (2*u+1) u=some (T.flatMap yf):=by simp[ya,l]
 have f:(T.flatMap yf).length=T.length:=by rw[j1 j6];omega
 have c:T.isEmpty=false:=by cases T with|nil=>exact zf rfl b|cons=>rfl
 have e:0<T.length:=dZ.2 b;have w:JX st 6 (.osl (2*u+1) u 0 T.length 1)=some (.sl none false T.length (T.flatMap yf)):=by show((ya st.ob (2*u+1) u).bind λcs=>if Nat.ble st.ro u=true/\0+T.length*1<=cs.length then (((cs.drop 0).take (T.length*1)).mapM (JX st 5)).map λi=>V.sl none false T.length i else none)=_;rw[a,ah];rw[zb ⟨bS▸j u o,zO⟩];rw[du,bz,aH zO,jdo];rfl
 have q:js st true 0 (.osl (2*u+1) u 0 T.length 1)=some (.sl (some (0,1)) false T.length (T.flatMap yf)):=by
  simp only[js,w,ah,a,aU];have s:(true&&Nat.beq 0 0&&Nat.blt 0 T.length&&Nat.beq (T.length*1) (T.flatMap yf).length)=true:=by rw[f,bz,cP,cP];simp;exact e
  rw[s];rfl
 have k:XE st true 0 (.osl (2*u+1) u 0 T.length 1)=some (.sl (some (0,1)) false T.length (T.flatMap yf)):=q;have r:[ARes.t n].mapM (ju st)=some [.osl (2*u+1) u 0 T.length 1]:=by simp[ju,m]
 simp only[jb4,Yj g,Ye g,zd,r,ah,W4];have x:yJ ([V.osl (2*u+1) u 0 T.length 1].flatMap V.toks)=true:=rfl;rw[x];simp only[Jc,k,ah,aU];rw[jkt,c];rfl
def jap {E:Env}{Yf:YF}{st:St}{ub:Nat}{K:St->Nat->Prop}{d:Option Nat}{p:Nat->Prop}{l:List Int}{z:Int}{v:V}{s x:A}{X uX:Nat}(f:ye E st.tm s=v) (o:IntsO st.ob p l v) (n:ye E st.tm x=.osl X uX 0 1 1) (m:st.ob X=some ⟨uX,.cells [.int .i64 z]⟩) (b:∀u,p u->st.ro<=u) (q:l.length<=1000)
 (h:∀g:List Nat,(∀k∈g,∃u,p u/\k=2*u+1)->QN K st d ub { v:=.osl (2*ub+1) ub 0 (l++[z]).length 1,obs:=[(2*ub+1,⟨ub,.cells ((l++[z]).flatMap yf)⟩)],kill:=g }) :
 j8 E Yf ⟨d,.append true 1 8 s x,none,true⟩ st ub K:=by
 have a:yp st.ob 1 (ye E st.tm x)=some [.int .i64 z]:=by rw[n];simp[yp,ya,m]
 rcases o with⟨rfl,rfl⟩|⟨j,u,rfl,c,e⟩;refine X8 f a zS zQ rfl zS zS ?_;simpa[yf,jI] using h [] zS;have i:(l.flatMap yf).length=l.length:=by rw[j1 j6];omega
 refine JJ (cs:=l.flatMap yf) f a c zS (b u e) zO zQ rfl zP zP ?_;have:=h [2*u+1] (by simp;exact⟨u,e,rfl⟩);rw[bz,aH zO];simpa[yf,jI] using this
end Go.Pv.T
