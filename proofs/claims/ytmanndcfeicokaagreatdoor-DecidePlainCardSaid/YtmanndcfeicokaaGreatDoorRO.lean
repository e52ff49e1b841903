/- Part. -/
import Derived.Test.YtmanndcfeicokaaGreatDoorRN
set_option maxRecDepth 100000
set_option maxHeartbeats 8000000
set_option linter.all false
namespace Go.Pv.T
open Go Go.Pv
def LsV (ob:ZO) (lo hi:Nat) (v:V) (T:List Int):Prop:=(v=.sl none true 0 []/\T=[])\/IntL ob lo hi v T
def LsV.len {ob:ZO}{lo hi:Nat}{v:V}{L:List Int}(h:LsV ob lo hi v L):WZ v=some (.int .i64 (L.length:Nat)):=by rcases h with⟨rfl,rfl⟩|⟨u,rfl,_⟩<;>rfl
def jgq {F:Env}{Yf:YF}{lo hi ub:Nat}{v:V}{T:List Int}{p:Int}{s x:A}{st:St}{K:St->Nat->Prop}{d:Option Nat}(b:ye F st.tm s=v) (l:LsV st.ob lo hi v T) (k:st.ro<=lo) (c:yp st.ob 1 (ye F st.tm x)=some (yf p)) (o:T.length<=1000000)
 (h:∀a:List Nat,(a=[]\/∃u,v=.osl (2*u+1) u 0 T.length 1/\lo<=u/\u<hi/\a=[2*u+1])->QP K st d ub { v:=.osl (2*ub+1) ub 0 (T.length+1) 1,obs:=[(2*ub+1,⟨ub,.cells ((T++[p]).flatMap yf)⟩)],kill:=a }):j8 F Yf ⟨d,.append true 1 8 s x,none,true⟩ st ub K:=by
 rcases l with⟨rfl,rfl⟩|⟨u,rfl,e,n,f⟩;refine X9 b c (by simp[yf]) zQ rfl (by simp[yf]) (by simp[yf]) ?_;simpa[yf,jI] using h [] (.inl rfl);have j:=j1 j6 T;refine JL (cs:=T.flatMap yf) b c e (by simp[yf]) zO zO zQ rfl (by simp[yf];omega) (by simp[yf];omega) ?_;have:=h [2*u+1] (.inr ⟨u,rfl,n,f,rfl⟩);rw[aH zO];simpa[yf,jI] using this
def lkV (m:List (Int×(Nat×Nat))) (s:Int):V:=match jz m s with
 |none=>.sl none true 0 []
 |some p=>osV p.2
section
variable {g:Hist'}{mv rv:V}{kX uX lo kM uM:Nat}{ob0 ob:ZO}{nx i:Nat}{Z:List P2}{m:List (Int × (Nat × Nat))}
def SesM.look {hi:Nat}(h:SesM g ob lo hi kM uM i m) (s:Int):Yh ob .int (.sl none true 0 []) false (.map kM uM) (.int .i64 s)=some (lkV m s):=by rw[ji0 (f:=osV) m (by simp[jY,h.o])];unfold lkV;cases jz m s<;>rfl
def SesM.ls {hi:Nat}(h:SesM g ob lo hi kM uM i m) (s:Int):LsV ob lo hi (lkV m s) (sesT g i s):=by
 unfold lkV;cases a:jz m s with
 |none=>exact .inl ⟨rfl,h.z s (by rw[a];rfl)⟩
 |some p=>obtain⟨j,u,n⟩:=p;obtain⟨d,b,e,c⟩:=h.s s u n (by rw[a];rfl);exact .inr ⟨u,by rw[<- d];rfl,b,e,c⟩
structure SesJ (g:Hist') (mv rv:V) (kX uX lo kM uM:Nat) (ob0 ob:ZO) (nx:Nat) (Z:List P2) (i:Nat) (m:List (Int×(Nat×Nat))):Prop where
 e:∃lv,ob kX=some ⟨uX,.cells (mkS g mv rv lv)⟩/\EdV ob lo nx lv Z/\j5k lv Z kM/\∀s u n,(jz m s).map (·.2)=some (u,n)->j5k lv Z (2*u+1)
 q:SesM g ob (uM+1) nx kM uM i m
 w:∀key,Off lo key->key≠kX->ob key=ob0 key
 h:lo<=uM/\uM<nx/\kM=2*uM+1
 x:Off lo kX
def SesJ.up {nx':Nat}(h:SesJ g mv rv kX uX lo kM uM ob0 ob nx Z i m) (a:nx<=nx'):SesJ g mv rv kX uX lo kM uM ob0 ob nx' Z i m:=by obtain⟨⟨f,b,j,c,d⟩,q,w,⟨e,l,k⟩,x⟩:=h;exact⟨⟨f,b,j.frame (λ_ _ _=>rfl) a,c,d⟩,q.frame rfl (λ_ _ _ _=>rfl) a,w,⟨e,zO,k⟩,x⟩
def SesJ.put {Yf:YF}{tk:Nat->Bool}{ro base:Nat}(h:SesJ g mv rv kX uX lo kM uM ob0 ob nx Z i m) (p:ro<=lo) (t:ro<=uX) (Q:Z.length<=100000) (a b:Int) :
 ∃r,EvS E Yf.y 168 [.ptr kX uX 0,.int .i64 a,.int .i64 b] ob tk ro base nx r/\nx<=r.2.2.2/\SesJ g mv rv kX uX lo kM uM ob0 r.2.1 r.2.2.2 (Z++[(Jg g a,Jg g b)]) i m:=by
 obtain⟨⟨lv,S,G,T,U⟩,q,w,⟨F,B,k⟩,x⟩:=h;obtain⟨r,L,I,⟨f,K,u,D,O,X,M⟩,z⟩:=jwn (Yf:=Yf) (tk:=tk) (ro:=ro) (base:=base) S G x zO p t Q a b;have c:∀y,y<nx->j5k f (Z++[(Jg g a,Jg g b)]) (2*y+1):=λy d w H=>by
  rw[D]at H;have:u=w:=by injection H
  omega
 have o:kM≠kX:=λe=>x uM F (by rw[<- k,e]);have v:∀y,uM+1<=y->2*y+1≠kX:=λy d e=>x y zO e.symm;refine⟨r,L,I,⟨f,K,.inr ⟨u,D,O,zO,M⟩,by rw[k];exact c uM B,λs y n d=>c y (q.s s y n d).2.2.2⟩,q.frame (z kM (by rw[k];exact Off.new B) o T) (λs y n d=>?_) I,λj l J=>(z j (l.up zO) J (G.off l)).trans (w j l J),⟨F,zO,k⟩,x⟩;obtain⟨_,_,N,P⟩:=q.s s y n d;exact z _ (Off.new P) (v y N) (U s y n d)
def SesJ.next {ob':ZO}{nx' w:Nat}{kl:List Nat}{c:Int}(h:SesJ g mv rv kX uX lo kM uM ob0 ob nx Z i m) (H:i<(ym g).length) (h0:c=yE g (ym g)[i].toNat)
 (hM:ob' kM=some ⟨uM,.mp (i+1) (MP osV (Wm m c (w,(sesT g i c).length+1)))⟩) (hw:ob' (2*w+1)=some ⟨w,.cells ((sesT g i c++[(ym g)[i]]).flatMap yf)⟩) (z:kl=[]\/∃u,lkV m c=.osl (2*u+1) u 0 (sesT g i c).length 1/\uM+1<=u/\u<nx/\kl=[2*u+1])
 (r:∀a,Off nx a->a≠kM->kl.any (Nat.beq a)=false->ob' a=ob a) (L:nx<=w) (U:w<nx'):SesJ g mv rv kX uX lo kM uM ob0 ob' nx' Z (i+1) (Wm m c (w,(sesT g i c).length+1)):=by
 obtain⟨⟨J,e1,o,O,Q⟩,q,k0,⟨I,l2,F⟩,x⟩:=h;have G:kX≠kM:=λe=>x uM I (by rw[<- F,e]);have d:∀a,(∀u n,(jz m c).map (·.2)=some (u,n)->a≠2*u+1)->kl.any (Nat.beq a)=false:=λa B=>by
  rcases z with rfl|⟨u,b,_,_,rfl⟩;rfl;simp only[bp,bC,bm];refine JG (B u (sesT g i c).length ?_);unfold lkV at b;cases M:jz m c with
  |none=>rw[M]at b;cases b
  |some p=>rw[M]at b;obtain⟨j,v,n⟩:=p;simp only[osV]at b;injection b with _ a2 _ a4 _;subst a2 a4;rfl
 have f:∀a,Off lo a->kl.any (Nat.beq a)=false:=λa B=>d a λu n b e=>B u (by have:=(q.s c u n b).2.2.1;omega) e;have K:EdV ob' lo nx' J Z:=by rcases o with o|⟨v,rfl,v2,X,N⟩;exact .inl o;refine .inr ⟨v,rfl,(r _ (Off.new N) (λe=>O v rfl e.symm) (d _ λu n b e=>Q c u n b v rfl e.symm)).trans v2,X,zO⟩
 have k:∀y,nx<=y->j5k J Z (2*y+1):=λy hy v P=>by
  rcases o with⟨rfl,_⟩|⟨T,rfl,_,_,N⟩;cases P;have:T=v:=by injection P
  omega
 refine⟨⟨J,(r _ (x.up zO) G (f _ x)).trans e1,K,O,λs u n b=>?_⟩,q.next H h0 hM (λs u n t b=>?_) hw L zO U zO,λa l k2=>(r a (l.up zO) (λe=>l uM I (by rw[<- F,e])) (f _ l)).trans (k0 a l k2),⟨I,zO,F⟩,x⟩;rw[W7]at b;by_cases e:s=c;rw[zb e]at b;cases b;exact k _ L;rw[za e]at b;exact Q s u n b;obtain⟨_,_,q3,q4⟩:=q.s s u n b;refine r _ (Off.new q4) zO (d _ λu' S D e=>?_);have:u=u':=zO;subst this;exact t (q.j s c u n S b D)
end
def idxF (A:List Int) (x:Int):Option Nat:=(List.range A.length).find? λa=>decide (A.getD a 0=x)
def jja {f:Nat->Bool}{n i:Nat}(hi:i<n) (h:f i=true) (b:∀j,j<i->f j=false):(List.range n).find? f=some i:=by rw[List.find?_range_eq_some];exact⟨h,by simpa using hi,λj a=>by simp[b j a]⟩
def jz5 {f:Nat->Bool}{n:Nat}(a:∀j,j<n->f j=false):(List.range n).find? f=none:=by rw[List.find?_eq_none];intro j b;simp[a j (bf.1 b)]
section
variable {ob:ZO}{ub uA:Nat}{A:List Int}
def evo148 (z:ob (2*uA+1)=some ⟨uA,.cells (A.flatMap yf)⟩) (G:uA<ub) (F:A.length<=1000000) (x:Int) (tk:Nat->Bool) (base:Nat):EvO E 148 [.osl (2*uA+1) uA 0 A.length 1,.int .i64 x] ob tk base ub (.int .i64 (match idxF A x with|some a=>(a:Int)|none=>-1)):=by
 refine jr rfl ?_;conv in(occs:=*)S148=>all_goals cbv
 simp;refine j5 [(4,5),(8,18)] A.length (λi s=>s.tm 8=.int .i64 i/\s.ob=ob/\∀j,j<i->decide (A.getD j 0=x)=false) rfl rfl ⟨zS,zS,λj h=>by omega⟩ ?_;rintro i s H ⟨o,v,p⟩ f;have y:s.tm 0=.osl (2*uA+1) uA 0 A.length 1:=by rw[f.t 0 zS];simp
 have w:s.tm 1=.int .i64 x:=by rw[f.t 1 zS];simp
 have q:s.tm 7=.int .i64 A.length:=by rw[f.t 7 zS];simp
 have r:s.df=[]:=by rw[f.d];simp
 clear f;by_cases b:i<A.length;have k:=jR b zO;have g:=jlf (l:=2*uA+1) (u:=uA) (kk:=.i64) b;have m:=jn A b;have B:A.getD i 0=A[i]:=by simp[ay,aa b]
 cases c:(x==A[i]);simp(disch:=try exact zD)[o,q,w,y,b,g,ya,v,z,m,c,k];intro j D;rcases bj.1 D with h|rfl;simpa using p j h;simp only[zk,ne_eq]at c;have:¬A[j]=x:=λe=>c e.symm
 simpa[aa b] using this;simp(disch:=try exact zD)[o,q,w,y,b,g,ya,v,z,m,c,k];have n:idxF A x=some i:=jja b (by rw[B];simp only[zh]at c;simp[c]) p;refine j3 (by simp[r]) ?_ rfl;rw[n];simp;have:i=A.length:=zO;subst this;have n:idxF A x=none:=jz5 p;simp(disch:=try exact zD)[o,q];refine j3 (by simp[r]) ?_ rfl;rw[n];simp
end
def jjl {n w:Nat}(d:n<=9) (a:w<2^n):yq w=(List.range n).filter λx=>w.testBit x:=by
 unfold yq;obtain⟨m,b⟩:∃m,9=n+m:=⟨9-n,zO⟩;rw[b,List.range_add,bP];have:((List.range m).map (n + ·)).filter (λx=>w.testBit x)=[]:=by rw[fX];intro x c;obtain⟨k,_,rfl⟩:=aI.1 c;rw[dq (aX a (bY zQ zO))];decide
 rw[this,aL]
def jvo (w:Nat):(yq w).Nodup:=List.nodup_range.filter _
def jbl (n:Nat) (L:List P2):Option (List Nat):=QZ n (λ(a b:Nat)=>L.contains ((a:Int),(b:Int))) n []
def TopR (ob:ZO) (ub n:Nat) (L:List P2) (r:V×(ZO)×(Nat->Bool)×Nat):Prop :=
 ub<=r.2.2.2/\(∀key,Off ub key->r.2.1 key=ob key)/\match jbl n L with
  |none=>r.1=.tup [.sl none true 0 [],.int .i64 3]
  |some D=>∃v,r.1=.tup [v,.int .i64 0]/\IntL r.2.1 ub r.2.2.2 v (yt D)
def j3s {Yf:YF}{st:St}{ub:Nat}{K:St->Nat->Prop}{d:Option Nat}{nm:Bool}{sz a n:Nat}{zero:List V}{x y:A}(b:ye E st.tm x=.int .i64 0) (f:ye E st.tm y=.int .i64 (n:Int)) (e:n*a<=140737488355328) (i:n<=140737488355328) (g:zero.length=sz) (c:0<sz)
 (h:QP K st d ub { v:=.osl (jI d nm st.fb ub) ub 0 0 sz,obs:=[(jI d nm st.fb ub,⟨ub,.cells []⟩)] }):j8 E Yf ⟨d,.mkSl true sz a zero x y,none,nm⟩ st ub K:=by
 rw[jU _ rfl rfl];simp only[yU,b,f];rw[zb (by refine⟨zO,zO,?_,zO,g,c⟩;rw[<- fZ];exact gN.2 e),za zS,Jo,jG];simpa[Je,ja6] using h
section
variable {ob:ZO}{ub n:Nat}{L:List P2}{v:V}
def sv152 {Yf:YF}{tk:Nat->Bool}{ro base:Nat}(l3:ro<=ub) (O:0<n) (h9:n<=9) (hv:EdA ub ob v L) (hL:InG n L) (hl:L.length<=10000) :
 ∃r,EvS E Yf.y 152 [.int .i64 (n:Int),v] ob tk ro base ub r/\TopR ob ub n L r:=by
 obtain⟨p,hp⟩:∃p:Nat->Nat->Bool,p=λ(a b:Nat)=>L.contains ((a:Int),(b:Int)):=⟨_,rfl⟩
 have hr:=λa=>W4 hL a
 have hc:=λb=>jhb hL b
 have e6:(2:Nat)^n<=512:=bY zQ h9
 have b8:∀b,(yq (colW L b)).length=cntP n p [] b:=λb=>by
  rw[jjl h9 (hc b).1]
  unfold cntP
  congr 1
  refine gH λx _=>?_
  rw[(hc b).2,hp]
  simp
 have Z:∀a b,b∈yq (rowW L a) ↔ b<n/\p a b=true:=λa b=>by
  rw[jjl h9 (hr a).1,bK,bf,(hr a).2,hp]
 refine J6 rfl zQ ?_
 show wpC E Yf S152.body _ (Jh S152.res _)
 conv in(occs:=*)S152=>all_goals cbv
 simp(disch:=try exact zD)[S152]
 refine jJ (vs:=[.int .i64 n,v]) zS rfl (j7f zP O h9 (hv.up (λc _=>by simp) ?_) hL hl) ?_
 ·first|omega|(simp;done)|(simp;omega)
 rintro v1 b5 k9 N ⟨S,ut,uf,ue,tu,fu,T,rfl,hG,l8,l5,hT,q1,a0⟩
 simp only at hG q1 a0
 have l2:ub<=N:=by first|omega|(simp at q1;omega)
 have hG:=hG.wide (lo':=ub) zL
 have a0:∀c,Off ub c->b5 c=ob c:=λc H=>by
  rw[a0 c (H.up zL)]
  simp
 simp
 refine jkp (n:=n) zS zS zO zO rfl zQ ?_
 rw[jrj]
 simp
 refine jQ λG g=>?_
 obtain⟨w,u1,u2,g8,gA⟩:∃u,N<=u/\u<G.nx/\G.tm 8=.osl (2*u+1) u 0 n 1/\G.ob (2*u+1)=some ⟨u,.cells ((List.replicate n (0:Int)).flatMap yf)⟩:=by
  refine⟨N+512,zO,by rw[g];first|omega|(simp;done)|(simp;omega),by rw[g];simp[aA],?_⟩
  rw[g]
  simp[aA,yf,List.flatMap_replicate]
 have g0:G.tm 0=.int .i64 n:=by rw[g];simp
 have g6:G.tm 6=.ptr (2*S+1) S 0:=by rw[g];simp
 have g7:G.tm 7=.int .i64 0:=by rw[g];simp
 have g2:G.tm 25=.int .i64 n:=by rw[g];simp
 have f5:G.tm 26=.int .i64 0:=by rw[g];simp
 have gd:G.df=[]:=by rw[g];simp
 have gr:G.ro=ro:=by rw[g];simp
 have go:∀c,Off N c->G.ob c=b5 c:=λc H=>by
  have:=H.ne
  rw[g]
  simp(disch:=try exact zD)[this]
 clear g
 -- how many are ahead of each
 obtain⟨J,hJ⟩:∃J:Nat->St->Prop,J=λi s=>s.tm 26=.int .i64 i/\w<s.nx/\(∃A:List Int,s.ob (2*w+1)=some ⟨w,.cells (A.flatMap yf)⟩/\A.length=n/\∀b,b<i->A.getD b 0=cntP n p [] b)/\∀c,Off N c->s.ob c=b5 c:=⟨_,rfl⟩
 refine j5 [(9,9),(26,36)] n J rfl rfl ?_ ?_
 ·rw[hJ]
  exact⟨by simpa using f5,u2,⟨_,gA,zS,λb h=>by omega⟩,go⟩
 clear f5 gA go u2
 intro i s hi e2 f
 rw[hJ]at e2
 obtain⟨b0,sn,⟨A,sA,M,c3⟩,so⟩:=e2
 have s0:=(f.t 0 zS).trans g0
 have s6:=(f.t 6 zS).trans g6
 have s7:=(f.t 7 zS).trans g7
 have s8:=(f.t 8 zS).trans g8
 have d3:=(f.t 25 zS).trans g2
 have sd:=f.d.trans gd
 have sr:=f.r.trans gr
 clear f
 by_cases U:i<n
 ·have c4:=jR U zO
  have c1:=jlf (l:=2*w+1) (u:=w) (kk:=.i64) U
  have I:=jau j6 ((cntP n p [] i:Nat):Int) A i zO
  rw[bx,show yf ((cntP n p [] i:Nat):Int)=[.int .i64 ((cntP n p [] i:Nat):Int)] from rfl]at I
  have c8:=j1 j6 A
  generalize h8:A.flatMap yf=cs at sA I c8
  have k6:=b8 i
  have nA:∀m,s.nx<=m->¬w=m:=λm hm=>by omega
  simp(disch:=try exact zD)[b0,d3,s8,s6,U]
  refine jpt (vs:=[.ptr (2*S+1) S 0,.int .i64 i]) zS rfl rfl (evo180 (hG.keep (hi':=s.nx+448) (λx _ h=>?_) ?_) ?_ zO zO (aX (hc i).1 e6) _ _) λtt nl add=>?_
  ·simp
   exact so _ (Off.new h)
  ·first|omega|(simp;done)|(simp;omega)
  ·first|omega|(simp;done)|(simp;omega)
  rw[JA,k6]
  simp(disch:=try exact zD)[c1,ya,sA,I,V.cells,V.leaf]
  refine⟨zO,zO,?_⟩
  simp(disch:=try exact zD)[b0,c4,U]
  rw[hJ]
  refine⟨zS,zL,⟨A.set i ((cntP n p [] i:Nat):Int),zS,by simp[M],λb hb=>?_⟩,λc H=>?_⟩
  ·rw[jfb A zO]
   by_cases e:b=i
   ·subst e;simp
   ·rw[za e]
    exact c3 b zO
  ·have:¬c=2*w+1:=H w u1
   simp[this]
   exact so c H
 have e:i=n:=zO
 subst e
 have e3:AhOk i p [] A:=⟨M,λb _ h=>(by cases h),λb hb _=>c3 b hb,λb x h=>(by cases h)⟩
 clear c3 M b8 U hi
 simp(disch:=try exact zD)[b0,d3,s0]
 refine j3s (n:=i) zS zS zO zO rfl zQ ?_
 simp(disch:=try exact zD)[s0]
 refine jQ λG g=>?_
 have g0:G.tm 0=.int .i64 i:=by rw[g];simp[s0]
 have g6:G.tm 6=.ptr (2*S+1) S 0:=by rw[g];simp[s6]
 have g7:G.tm 7=.int .i64 0:=by rw[g];simp[s7]
 have g8:G.tm 8=.osl (2*w+1) w 0 i 1:=by rw[g];simp[s8]
 have g5:G.tm 39=.int .i64 i:=by rw[g];simp
 have e9:G.tm 40=.int .i64 0:=by rw[g];simp
 have gd:G.df=[]:=by rw[g];simp[sd]
 have gr:G.ro=ro:=by rw[g];simp[sr]
 have gn:s.nx<=G.nx:=by rw[g];first|omega|(simp;done)|(simp;omega)
 have gI:IntL G.ob s.nx G.nx (G.tm 10) (yt []):=by
  refine⟨s.nx+128,by rw[g];simp[aA,yt],by rw[g];simp[aA,yt],zO,?_⟩
  rw[g]
  first|omega|(simp;done)|(simp;omega)
 have go:∀c,Off s.nx c->G.ob c=s.ob c:=λc H=>by
  have:=H.ne
  rw[g]
  simp(disch:=try exact zD)[this]
 clear g
 have i7:∀c,Off N c->s.ob c=b5 c:=so
 have e1:Gr ub s.nx S (some ut) (some uf) ue tu fu (rowW L) (colW L) T s.ob:=hG.keep (λx _ h=>so _ (Off.new h)) zO
 have d8:∀c,Off ub c->c≠2*w+1->Off s.nx c:=λc H _=>H.up zO
 obtain⟨n0,e4⟩:∃n0,n0=s.nx:=⟨_,rfl⟩
 obtain⟨b6,b9⟩:∃o,o=s.ob:=⟨_,rfl⟩
 rw[<- e4]at gn gI go sn e1
 rw[<- b9]at go e1 sA so
 clear e4 b9 i7 d8 s0 s6 s7 s8 d3 b0 sd sr hJ
 have gA:G.ob (2*w+1)=some ⟨w,.cells (A.flatMap yf)⟩:=(go _ (Off.new sn)).trans sA
 have X:∀c,Off ub c->b6 c=ob c:=λc H=>(so c (H.up zO)).trans (by
  rw[a0 c (H.up zO)]
  simp)
 have c0:∀D',jbl i L=D' ↔ QZ i p i []=D':=λD'=>by unfold jbl;rw[hp]
 obtain⟨J2,c6⟩:∃J2:Nat->St->Prop,J2=λk s=>s.tm 40=.int .i64 k/\(∃(D:List Nat) (A:List Int),D.length=k/\AhOk i p D A/\s.ob (2*w+1)=some ⟨w,.cells (A.flatMap yf)⟩/\IntL s.ob n0 s.nx (s.tm 10) (yt D)/\QZ i p (i-k) D=QZ i p i [])/\n0<=s.nx/\∀c,Off n0 c->c≠2*w+1->s.ob c=b6 c:=⟨_,rfl⟩
 refine j5 [(4,5),(10,13),(40,68)] i J2 rfl rfl (by rw[c6];exact⟨by simpa using e9,⟨[],A,rfl,e3,gA,gI,rfl⟩,gn,λc h _=>go c h⟩) ?_
 clear e9 gI gn go gA e3
 intro k q H f2 f
 rw[c6]at f2
 obtain⟨c9,⟨D,A,h6,hA,qA,qI,hT⟩,qn,qo⟩:=f2
 have q0:=(f.t 0 zS).trans g0
 have q6:=(f.t 6 zS).trans g6
 have q7:=(f.t 7 zS).trans g7
 have q8:=(f.t 8 zS).trans g8
 have d0:=(f.t 39 zS).trans g5
 have qd:=f.d.trans gd
 have qr:=f.r.trans gr
 clear f
 have m0:Gr ub q.nx S (some ut) (some uf) ue tu fu (rowW L) (colW L) T q.ob:=by
  have k8:∀x,x<N->x≠w:=λx hx e=>by omega
  exact(hG.keep (ob':=q.ob) (hi':=q.nx) (λx _ h=>(qo _ (Off.new zO) zO).trans (so _ (Off.new h))) zO)
 by_cases c7:k<i
 ·have c4:=jR c7 zO
  have M:=hA.l
  have g4:=hA.find
  have c1:idxF A 0=(List.range i).find? (WD i p D):=by rw[g4];unfold idxF;rw[M]
  have K:QZ i p (i-k) D=match (List.range i).find? (WD i p D) with
   |none=>none
   |some a=>QZ i p (i-(k+1)) (D++[a]):=by rw[show i-k=(i-(k+1))+1 by omega];rfl
  simp(disch:=try exact zD)[c9,d0,q8,c7]
  refine jN (vs:=[.osl (2*w+1) w 0 A.length 1,.int .i64 0]) (by simp[M]) rfl rfl (evo148 (by simpa using qA) zL zO 0 _ _) ?_
  rw[c1]
  cases hf:(List.range i).find? (WD i p D) with
  |none=>
   rw[hf]at K
   simp
   refine Yb (by simp[qd]) ⟨zL,λc H=>?_,?_⟩
   ·have O:¬c=2*w+1:=H w zO
    simp
    rw[qo c (H.up zO) O,X c H]
   ·rw[show jbl i L=none from(c0 none).2 (by rw[<- hT,K])]
    simp
  |some a=>
   rw[hf]at K
   have f6:=List.find?_some hf
   have ha:a<i:=bf.1 (io hf)
   have d9:¬(a:Int)<0:=zO
   have h7:=jlf (l:=2*w+1) (u:=w) (kk:=.i64) ha
   have I:=jau j6 (-1:Int) A a zO
   rw[bx,show yf (-1)=[.int .i64 (-1)] from rfl]at I
   have c8:=j1 j6 A
   generalize h8:A.flatMap yf=cs at qA I c8
   have nA:∀m,q.nx<=m->¬w=m:=λm hm=>by omega
   simp(disch:=try exact zD)[d9,q8,h7,ya,qA,I]
   refine⟨zO,zO,?_⟩
   refine jZ (cs:=[.int .i64 (a:Int)]) (by simp[j2]) rfl rfl ?_
   simp
   obtain⟨uo,o1,o2,o3,o4⟩:=qI
   have nO:∀m,q.nx<=m->¬uo=m:=λm hm=>by omega
   have k2:¬uo=w:=zO
   refine jgq (lo:=n0) (hi:=q.nx) (v:=q.tm 10) (T:=yt D) (p:=(a:Int)) zS (.inr ⟨uo,o1,?_,o3,o4⟩) ?_ (by simp[yp,ya,yf]) (by rw[JA];omega) λkl i9=>?_
   ·simp(disch:=try exact zD)[yj,nO,k2,o2]
   ·simp[qr];omega
   have e7:kl=[2*uo+1]\/kl=[]:=by
    rcases i9 with h|⟨u,hu,_,_,rfl⟩
    ·exact .inr h
    ·rw[o1]at hu
     have:uo=u:=by injection hu
     exact .inl (by rw[this])
   have c2:∀c,c≠2*uo+1->kl.any (Nat.beq c)=false:=λc H=>by
    rcases e7 with rfl|rfl
    ·simp only[bp,bC,bm]
     exact JG H
    ·rfl
   have i8:=c2 (2*w+1) zO
   have k4:yt D++[(a:Int)]=yt (D++[a]):=by simp[yt]
   have l6:=ja0 (rowW L a)
   have g9:∀x,x<N->kl.any (Nat.beq (2*x+1))=false:=λx hx=>c2 _ zO
   rw[k4]
   simp(disch:=try exact zD)[q6]
   refine jpt (vs:=[.ptr (2*S+1) S 0,.int .i64 a]) zS rfl rfl (j6i (hG.keep (λx _ h=>?_) ?_) zK zO (aX (hr a).1 e6) _ _) λtt nl add=>?_
   ·have O:∀m,q.nx<=m->¬x=m:=λm hm=>by omega
    have h2:¬x=w:=zO
    have h3:=g9 x h
    simp(disch:=try exact zD)[j9,yj,O,h2,h3]
    exact(qo _ (Off.new zO) zO).trans (so _ (Off.new h))
   ·first|omega|(simp;done)|(simp;omega)
   have f7:(yt (D++[a])).length=(yt D).length+1:=by simp[yt]
   generalize i2:yt (D++[a])=DD at *
   simp
   refine jQ λp F=>?_
   have p0:p.tm 0=.int .i64 i:=by rw[F];simp[q0]
   have p6:p.tm 6=.ptr (2*S+1) S 0:=by rw[F];simp[q6]
   have p7:p.tm 7=.int .i64 0:=by rw[F];simp[q7]
   have p8:p.tm 8=.osl (2*w+1) w 0 i 1:=by rw[F];simp[q8]
   have l1:p.tm 39=.int .i64 i:=by rw[F];simp[d0]
   have f9:p.tm 40=.int .i64 k:=by rw[F];simp[c9]
   have i4:p.tm 55=.sl tt nl (yq (rowW L a)).length ((yt (yq (rowW L a))).flatMap yf):=by rw[F];simp[JA]
   have i5:p.tm 56=.int .i64 (yq (rowW L a)).length:=by rw[F];simp[JA]
   have d7:p.tm 57=.int .i64 0:=by rw[F];simp
   have pd:p.df=[]:=by rw[F];simp[qd]
   have pr:p.ro=ro:=by rw[F];simp[qr]
   have pn:q.nx<=p.nx:=by rw[F];first|omega|(simp;done)|(simp;omega)
   have k0:∀m,q.nx<=m->¬m=w:=λm hm=>by omega
   have pI:IntL p.ob n0 p.nx (p.tm 10) DD:=by
    refine⟨q.nx+832,by rw[F];simp[aA,f7],?_,zO,by rw[F];first|omega|(simp;done)|(simp;omega)⟩
    rw[F]
    simp(disch:=try exact zD)[j9,yj,aA,k0]
   have pA:p.ob (2*w+1)=some ⟨w,.cells ((A.set a (-1)).flatMap yf)⟩:=by
    rw[F]
    simp(disch:=try exact zD)[j9,yj,nA,i8]
   have po:∀c,Off n0 c->c≠2*w+1->p.ob c=b6 c:=λc O h2=>by
    have h3:=(O.up qn).ne
    have h4:=c2 c (O uo o3)
    rw[F]
    simp(disch:=try exact zD)[j9,h3,h4,h2]
    exact qo c O h2
   clear F
   have f4:∀b∈yq (rowW L a),b<i:=λb hb=>((Z a b).1 hb).1
   have f3:=jvo (rowW L a)
   have k5:=hA.next ha f6 (bs:=yq (rowW L a)) (Z a) f3
   have k3:=hA.rng
   generalize yq (rowW L a)=bs at *
   have g3:∀j b,-2<=(decL (A.set a (-1)) (bs.take j)).getD b 0/\(decL (A.set a (-1)) (bs.take j)).getD b 0<=100:=λj b=>by
    rw[j0i _ _ (f3.sublist (List.take_sublist _ _)) (λx hx=>by rw[dL,M];exact f4 x (dH hx)),jfb A zO]
    have:=k3 b
    split<;>split<;>omega
   have i1:∀j,(decL (A.set a (-1)) (bs.take j)).length=i:=λj=>by rw[jsz,dL,M]
   obtain⟨J3,d1⟩:∃J3:Nat->St->Prop,J3=λj s=>s.tm 57=.int .i64 j/\s.ob (2*w+1)=some ⟨w,.cells ((decL (A.set a (-1)) (bs.take j)).flatMap yf)⟩/\IntL s.ob n0 s.nx (s.tm 10) DD/\q.nx<=s.nx/\∀c,Off n0 c->c≠2*w+1->s.ob c=b6 c:=⟨_,rfl⟩
   refine j5 [(13,13),(57,67)] bs.length J3 rfl rfl (by rw[d1];exact⟨by simpa using d7,by simpa[decL] using pA,pI,pn,po⟩) ?_
   clear d7 pA pI pn po
   intro j y hj f0 f
   rw[d1]at f0
   obtain⟨d2,yA,yI,yn,yo⟩:=f0
   have y8:=(f.t 8 zS).trans p8
   have l0:y.tm 10=p.tm 10:=f.t 10 zS
   have i0:=(f.t 40 zS).trans f9
   have g1:=(f.t 55 zS).trans i4
   have e5:=(f.t 56 zS).trans i5
   have yd:=f.d.trans pd
   have yr:=f.r.trans pr
   clear f
   by_cases Q:j<bs.length
   ·have e8:=jR Q zO
    have d5:j<(yt bs).length:=by rw[JA];exact Q
    have f1:=JD j6 tt nl (yt bs) .i64 d5
    rw[JA]at f1
    have d6:=jn (yt bs) d5
    rw[jzx]at d6
    have f8:=f4 _ (au Q)
    have k1:bs.take (j+1)=bs.take j++[bs[j]]:=av Q
    have c5:=j0h (A.set a (-1)) (bs.take j) bs[j]
    rw[<- k1]at c5
    have l9:=g3 j bs[j]
    have l4:=i1 j
    generalize decL (A.set a (-1)) (bs.take j)=B at *
    generalize bs[j]=b at *
    have i6:=jlf (l:=2*w+1) (u:=w) (kk:=.i64) f8
    have b7:=jn B (i:=b) zO
    have i3:B.getD b 0=B[b]' zO:=by simp[ay,aa (show b<B.length by omega)]
    rw[<- i3]at b7
    have h0:IntKind.i64.wrap (B.getD b 0-1)=B.getD b 0-1:=jg zO zO
    have P:=jau j6 (B.getD b 0-1) B b zO
    rw[bx,show yf (B.getD b 0-1)=[.int .i64 (B.getD b 0-1)] from rfl,<- c5]at P
    have e0:=j1 j6 B
    generalize k7:B.flatMap yf=cs2 at yA P e0 b7
    generalize B.getD b 0=bv at *
    have d4:b<cs2.length:=zO
    have h5:cs2[b]=.int .i64 bv:=by rw[aa d4]at b7;exact cu b7
    have l7:∀m,y.nx<=m->¬w=m:=λm hm=>by omega
    simp(disch:=try exact zD)[d2,e5,g1,y8,Q,f1,d6,i6,ya,yA,d4,h5,h0,P]
    refine⟨zO,zO,?_⟩
    simp(disch:=try exact zD)[d2,e8,Q]
    rw[d1]
    obtain⟨z,z1,z2,z3,z4⟩:=yI
    refine⟨zS,by simp[c5],⟨z,by simpa using z1,?_,z3,zL⟩,zL,λc O h2=>?_⟩
    ·have:¬z=w:=zO
     simp(disch:=try exact zD)[yj,this,z2]
    ·simp[h2]
     exact yo c O h2
   ·have:j=bs.length:=zO
    subst this
    rw[bh]at yA
    simp(disch:=try exact zD)[d2,e5,i0,c4,c7]
    rw[c6]
    refine⟨zS,⟨D++[a],decL (A.set a (-1)) bs,by simp[h6],k5,by simpa using yA,?_,by rw[<- hT,K]⟩,zL,λc O h2=>by simpa using yo c O h2⟩
    rw[i2]
    obtain⟨z,z1,z2,z3,z4⟩:=yI
    refine⟨z,by simpa using z1,by simpa using z2,z3,zL⟩
 ·have:k=i:=zO
  subst this
  rw[fU]at hT
  simp(disch:=try exact zD)[c9,d0,q7]
  refine Yb (by simp[qd]) ⟨zL,λc H=>?_,?_⟩
  ·have O:¬c=2*w+1:=H w zO
   simp
   rw[qo c (H.up zO) O,X c H]
  ·rw[show jbl k L=some D from(c0 (some D)).2 (by rw[<- hT];rfl)]
   obtain⟨u,O,h2,h3,h4⟩:=qI
   exact⟨q.tm 10,zS,u,O,by simpa using h2,zO,zL⟩
end
section
variable {g:Hist'}{mv rv:V}{kX uX lo:Nat}{ob:ZO}{ub:Nat}
def sv115 {Yf:YF}(hs:Small g) (hw:jP g=true) (h8:g.ts.length<=8) {tk:Nat->Bool}{ro base:Nat}(hX:MkR g mv rv kX uX lo ob ub []) (Z:Off lo kX) (Q:lo<=ub) (g1:ro<=lo) (g4:ro<=uX) :
 ∃r,EvS E Yf.y 115 [.ptr kX uX 0] ob tk ro base ub r/\ub<=r.2.2.2/\MkR g mv rv kX uX lo r.2.1 r.2.2.2 (yF g (ym g).length)/\∀b,Off lo b->b≠kX->r.2.1 b=ob b:=by
 have g9:=Xe g;obtain⟨vc,e4,c2⟩:=ev70 hs;rw[jha hw]at c2;obtain⟨e3,c5,b9⟩:=hX;have oX:=(Z.up Q).ne;refine J6 rfl zQ ?_;show wpC E Yf S115.body _ (Jh S115.res _);conv in(occs:=*)S115=>all_goals cbv
 simp(disch:=try exact zD)[S115,ya,c5,mkS,yb,oX];refine jH e4 zI rfl zI ?_;refine Jw c2 λM add=>?_;simp;refine jQ λH x=>?_;obtain⟨B,u1,u2,g2,gM⟩:∃u,ub<=u/\u<H.nx/\H.tm 2=.map (2*u+1) u/\H.ob (2*u+1)=some ⟨u,.mp 0 []⟩:=by refine⟨ub,zK,?_,by rw[x];simp,by rw[x];simp⟩;rw[x];simp;omega
 have g0:H.tm 0=.ptr kX uX 0:=by rw[x];simp
 have f2:H.tm 13=.sl M (ym g).isEmpty (ym g).length ((ym g).flatMap yf):=by rw[x];simp
 have d5:H.tm 14=.int .i64 (ym g).length:=by rw[x];simp
 have b5:H.tm 15=.int .i64 0:=by rw[x];simp
 have gd:H.df=[]:=by rw[x];simp
 have gr:H.ro=ro:=by rw[x];simp
 have go:∀b,Off ub b->H.ob b=ob b:=λb Z=>by have:=Z.ne;rw[x];simp(disch:=try exact zD)[this]
 clear x;have gJ:SesJ g mv rv kX uX lo (2*B+1) B ob H.ob H.nx [] 0 []:=by
  refine⟨⟨e3,(go _ (Z.up Q)).trans c5,b9.frame (λu _ h=>go _ (Off.new h)) zO,?_,λs u n h=>by simp[jz]at h⟩,⟨gM,λs _=>by simp[sesT],λs u n h=>by simp[jz]at h,λs s' u n n' h=>by simp[jz]at h⟩,λb k1 _=>go b (k1.up Q),⟨zO,u2,rfl⟩,Z⟩;rcases b9 with⟨rfl,_⟩|⟨w,rfl,_,_,w4⟩;exact λu hu=>by cases hu
  exact λu hu=>by
   have:w=u:=by injection hu
   omega
 obtain⟨J,hJ⟩:∃J:Nat->St->Prop,J=λi s=>s.tm 15=.int .i64 i/\∃m,SesJ g mv rv kX uX lo (2*B+1) B ob s.ob s.nx (yF g i) i m:=⟨_,rfl⟩;refine j5 [(4,7),(15,52)] (ym g).length J rfl rfl (by rw[hJ];exact⟨by simpa using b5,[],gJ⟩) ?_;clear gJ b5 go gM;intro i s hi c0 f;rw[hJ]at c0;obtain⟨S,m,sJ⟩:=c0;have s0:=(f.t 0 zS).trans g0;have s2:=(f.t 2 zS).trans g2;have c1:=(f.t 13 zS).trans f2;have O:=(f.t 14 zS).trans d5;have sd:=f.d.trans gd;have sr:=f.r.trans gr;clear f;by_cases z:i<(ym g).length
 ·have d3:=jR z zO;have c9:=JD j6 M (ym g).isEmpty (ym g) .i64 z;have b7:=jn (ym g) z;have e0:(ym g).getD i 0=(ym g)[i]:=by simp[ay,aa z]
  obtain⟨c,hc,_,b0⟩:=jnu z;rw[e0]at hc;have f0:=jai g 8 i zO;have f5:(yF g i).length<=72:=bI f0 (by have:i*(8+1)<=8*9:=bi 9 zO;omega);have hE:=sesE_T z;have d8:yF g (i+1)=yF g i++j18 g i:=by unfold yF;rw[cV,bJ];simp
  have b8:yE g (ym g)[i].toNat=yE g c:=by rw[hc,ba]
  have x1:=j4 j7 g.tn g.ts .i64 b0;have x2:(g.ts.flatMap jf)[c*3]? = some (.int .i64 (yE g c)):=j7x b0;have f7:=j17 g i (yE g c);rw[b8]at hE;rw[hc]at b7;have d1:Jg g (-1)=g.ts.length:=rfl;have c8:Jg g (c:Int)=c:=by unfold Jg;rw[za zO]
  simp(disch:=try exact zD)[S,O,c1,s0,z,c9,b7];refine jJ (vs:=[.ptr kX uX 0,.int .i64 (-1),.int .i64 (c:Int)]) zS rfl ((sJ.up zL).put (by first|omega|(simp[sr];done)|(simp[sr];omega)) (by first|omega|(simp[sr];done)|(simp[sr];omega)) zO _ _) ?_;rintro v1 d9 f6 g6 ⟨r1,X⟩;simp only at r1 X;rw[d1,c8]at X;obtain⟨g3,a0,_⟩:=id X.e;simp(disch:=try exact zD)[s0,ya,a0,mkS,yb,x1,x2,s2];have I:=X.q.look (yE g c);have F:=X.q.ls (yE g c);simp(disch:=try exact zD)[I,F.len];refine jQ λp G=>?_;have p0:p.tm 0=.ptr kX uX 0:=by rw[G];simp[s0]
  have p2:p.tm 2=.map (2*B+1) B:=by rw[G];simp[s2]
  have p4:p.tm 4=.int .i64 c:=by rw[G];simp
  have p5:p.tm 5=.int .i64 (yE g c):=by rw[G];simp
  have f9:p.tm 13=.sl M (ym g).isEmpty (ym g).length ((ym g).flatMap yf):=by rw[G];simp[c1]
  have d7:p.tm 14=.int .i64 (ym g).length:=by rw[G];simp[O]
  have d0:p.tm 15=.int .i64 i:=by rw[G];simp[S]
  have f3:p.tm 33=lkV m (yE g c):=by rw[G];simp
  have d4:p.tm 34=.int .i64 (sesT g i (yE g c)).length:=by rw[G];simp
  have b6:p.tm 35=.int .i64 0:=by rw[G];simp
  have pd:p.df=[]:=by rw[G];simp[sd]
  have pr:p.ro=ro:=by rw[G];simp[sr]
  have pJ:SesJ g mv rv kX uX lo (2*B+1) B ob p.ob p.nx (yF g i++((g.ts.length:Int),(c:Int))::((sesT g i (yE g c)).take 0).map λa=>(a,(c:Int))) i m:=by
   have:=X.up (nx':=p.nx) (by rw[G];first|omega|(simp;done)|(simp;omega));have e:p.ob=d9:=by rw[G];simp
   rw[e];simpa using this
  clear G I F X a0;have e7:∀a∈sesT g i (yE g c),Jg g a=a:=λa ha=>by unfold sesT at ha;obtain⟨k,Z,_⟩:=comL_mem.1 (dH (bK.1 ha).1);unfold Jg;rw[za zO]
  rw[hc]at hE;generalize K:sesT g i (yE g c)=T at *;obtain⟨J2,N⟩:∃J2:Nat->St->Prop,J2=λj q=>q.tm 35=.int .i64 j/\SesJ g mv rv kX uX lo (2*B+1) B ob q.ob q.nx (yF g i++((g.ts.length:Int),(c:Int))::(T.take j).map λa=>(a,(c:Int))) i m:=⟨_,rfl⟩;refine j5 [(7,7),(35,43)] T.length J2 rfl rfl (by rw[N];exact⟨by simpa using b6,pJ⟩) ?_;clear b6 pJ;intro j q hj c7 f;rw[N]at c7;obtain⟨L,P⟩:=c7;have q0:=(f.t 0 zS).trans p0;have q2:=(f.t 2 zS).trans p2;have q4:=(f.t 4 zS).trans p4;have q5:=(f.t 5 zS).trans p5;have e5:=(f.t 15 zS).trans d0;have f8:=(f.t 14 zS).trans d7;have f4:=(f.t 33 zS).trans f3;have c3:=(f.t 34 zS).trans d4;have qd:=f.d.trans pd;have qr:=f.r.trans pr;clear f;have F:=P.q.ls (yE g c);rw[K]at F;by_cases D:j<T.length
  ·have c4:=jR D zO;rcases F with⟨_,rfl⟩|⟨u,hv,ho,_,_⟩;simp at D;have d6:=jlf (l:=2*u+1) (u:=u) (kk:=.i64) D;have c6:=jn T D;have e8:=e7 _ (au D);have f1:(T.take (j+1)).map (λa=>(a,(c:Int)))=(T.take j).map (λa=>(a,(c:Int)))++[(T[j],(c:Int))]:=by rw[av D,bE];rfl
   simp(disch:=try exact zD)[L,c3,f4,q0,q4,D,hv,d6,ya,ho,c6];refine jJ (vs:=[.ptr kX uX 0,.int .i64 T[j],.int .i64 (c:Int)]) zS rfl ((P.up zL).put (by first|omega|(simp[qr];done)|(simp[qr];omega)) (by first|omega|(simp[qr];done)|(simp[qr];omega)) zP _ _) ?_;rintro v2 d2 g7 e6 ⟨z1,z2⟩;simp only at z1 z2;rw[e8,c8,aY,cZ,<- f1]at z2;simp(disch:=try exact zD)[L,c4,D];rw[N];exact⟨zS,(by simpa using z2:SesJ g mv rv kX uX lo (2*B+1) B ob d2 e6 _ i m).up zL⟩
  have:j=T.length:=zO;subst this;rw[aH zK,<- hE,<- d8]at P;have I:=P.q.look (yE g c);simp(disch:=try exact zD)[L,c3,q2,q4,q5,I];refine jZ (cs:=[.int .i64 (c:Int)]) (by simp[j2]) rfl rfl ?_;simp;have g5:=F;refine jgq (lo:=B+1) (hi:=q.nx) (v:=lkV m (yE g c)) (T:=T) (p:=(c:Int)) zS ?_ (by simp[qr];omega) (by simp[yp,ya,yf]) zO λkl U=>?_;rcases F with h|⟨u,hv,ho,h3,h4⟩
  exact .inl h;refine .inr ⟨u,hv,?_,h3,h4⟩;have:∀m,q.nx<=m->¬u=m:=λm hm=>by omega
  simp(disch:=try exact zD)[yj,this,ho];have hq:=P.q.o;obtain⟨l1,l2,l3⟩:=P.h;have nM:∀m,q.nx<=m->¬B=m:=λm hm=>by omega
  have e9:kl.any (Nat.beq (2*B+1))=false:=by rcases U with rfl|⟨u,_,h1,_,rfl⟩;rfl;simp only[bp,bC,bm];exact JG zO
  have g8:∀m,q.nx<=m->kl.any (Nat.beq (2*m+1))=false:=λm hm=>by rcases U with rfl|⟨u,_,_,h2,rfl⟩;rfl;simp only[bp,bC,bm];exact JG zO
  simp(disch:=try exact zD);refine jcw (f:=osV) (a:=(q.nx+512,T.length+1)) (ver:=i) (l:=2*B+1) (u:=B) (k:=yE g c) m zS zS (by simp[osV,aA,V.strip]) (by simp(disch:=try exact zD)[j9,yj,nM,e9,hq]) (by simp[qr];omega) ?_;simp(disch:=try exact zD)[e5,d3,z];rw[hJ];rw[<- K];refine⟨zS,Wm m (yE g c) (q.nx+512,(sesT g i (yE g c)).length+1),P.next (kl:=kl) z b8.symm ?_ ?_ (by rw[K];exact U) (λb k1 k2 k3=>?_) zO zL⟩;simp;rw[K,hc];simp(disch:=try exact zD)[j9,yj,aA,dz (nM _ _)];have:=k1.ne;simp(disch:=try exact zD)[j9,this,k2,k3]
 have:i=(ym g).length:=zO;subst this;simp(disch:=try exact zD)[S,O];obtain⟨⟨lv,e1,e2,_⟩,_,w,h,_⟩:=sJ;exact jfg (.inl rfl) (by simp[sd]) ⟨zL,⟨lv,by simpa using e1,e2.frame (λ_ _ _=>by simp) zL⟩,λb h1 h2=>by simpa using w b h1 h2⟩
end
def revE (n:Nat) (L:List P2):List P2:=(L.filter λz=>decide (z.1<(n:Int))).map λz=>(z.2,z.1)
def jw5 (n:Nat) (L:List P2) (z:P2):revE n (L++[z])=revE n L++if z.1<(n:Int) then [(z.2,z.1)] else []:=by unfold revE;rw[bP,bE];congr 1;by_cases h:z.1<(n:Int)<;>simp[h]
def jrd (n:Nat) (L:List P2):(revE n L).length<=L.length:=by unfold revE;rw[bt];exact ch _ _
def EdV.toA {ob:ZO}{lo hi hi':Nat}{v:V}{L:List P2}(h:EdV ob lo hi v L) (c:hi<=hi'):EdA hi' ob v L:=by rcases h with⟨rfl,rfl⟩|⟨u,b,a,e,d⟩;exact .inl ⟨none,true,rfl⟩;exact .inr ⟨2*u+1,u,b,a,Off.new zO⟩
structure PastO (kX uX:Nat) (R:List P2) (u1 u3 hi:Nat) (ob:ZO):Prop where
 a:ob (2*u1+1)=some ⟨u1,.cells [.ptr kX uX 0]⟩
 b:∃lv,ob (2*u3+1)=some ⟨u3,.cells [lv]⟩/\EdV ob (u3+1) hi lv R
 h:u1<u3/\u3<hi
def PastO.keep {kX uX c e hi hi':Nat}{R:List P2}{ob ob':ZO}(h:PastO kX uX R c e hi ob) (d:∀u,c<=u->u<hi->ob' (2*u+1)=ob (2*u+1)) (i:hi<=hi'):PastO kX uX R c e hi' ob':=by obtain⟨k,b1,b2⟩:=h.b;have f:=h.h;exact⟨(d c zK zO).trans h.a,⟨k,(d e zO f.2).trans b1,b2.frame (λu l j=>d u zO j) i⟩,f.1,zO⟩
section
variable {g:Hist'}{mv rv:V}{kX uX lo:Nat}{ob:ZO}{ub:Nat}{L:List P2}
def sv170 {Yf:YF}{tk:Nat->Bool}{ro base:Nat}(hX:MkR g mv rv kX uX lo ob ub L) (k:Off lo kX) (S:lo<=ub) (c1:ro<=lo) (hl:L.length<=10000) :
 ∃r,EvS E Yf.y 170 [.ptr kX uX 0] ob tk ro base ub r/\∃l j,r.1=.fn (.func 221) [] [.ptr (2*l+1) l 0,.ptr (2*j+1) j 0]/\ub<=l/\PastO kX uX (revE g.ts.length L) l j r.2.2.2 r.2.1/\∀c,Off ub c->r.2.1 c=ob c:=by
 obtain⟨lv,K,hE⟩:=hX;have hA:=hE.toA zK;have O:=hA.len;have oX:=(k.up S).ne;have B:¬ub=ub+64+64:=zO;refine J6 rfl zQ ?_;show wpC E Yf S170.body _ (Jh S170.res _);conv in(occs:=*)S170=>all_goals cbv
 simp(disch:=try exact zD)[S170,ya,K,mkS,yb,oX,V.cells,V.leaf,O,yj,B];refine jQ λq e=>?_;obtain⟨l,j,a1,a2,a3,g1,g3,gA,gB⟩:∃l j,ub<=l/\l<j/\j<q.nx/\q.tm 1=.ptr (2*l+1) l 0/\q.tm 3=.ptr (2*j+1) j 0/\q.ob (2*l+1)=some ⟨l,.cells [.ptr kX uX 0]⟩/\q.ob (2*j+1)=some ⟨j,.cells [.sl none true 0 []]⟩ :=
  ⟨ub,ub+128,zO,zO,by rw[e];first|omega|(simp;done)|(simp;omega),by rw[e];simp,by rw[e];simp[aA],by rw[e];simp[yj,B],by rw[e];simp[aA]⟩
 have g9:q.tm 9=lv:=by rw[e];simp
 have b9:q.tm 10=.int .i64 L.length:=by rw[e];simp
 have N:q.tm 11=.int .i64 0:=by rw[e];simp
 have gd:q.df=[]:=by rw[e];simp
 have gr:q.ro=ro:=by rw[e];simp
 have go:∀c,Off ub c->q.ob c=ob c:=λc k=>by have:=k.ne;rw[e];simp(disch:=try exact zD)[this]
 clear e;obtain⟨J,hJ⟩:∃J:Nat->St->Prop,J=λi s=>s.tm 11=.int .i64 i/\PastO kX uX (revE g.ts.length (L.take i)) l j s.nx s.ob/\∀c,Off ub c->s.ob c=ob c:=⟨_,rfl⟩;refine j5 [(5,5),(11,32)] L.length J rfl rfl ?_ ?_;rw[hJ];exact⟨by simpa using N,⟨gA,⟨_,gB,.inl ⟨rfl,by simp[revE]⟩⟩,a2,a3⟩,go⟩;clear N gA gB go a3;intro i s hi Z f;rw[hJ]at Z;obtain⟨w,I,M⟩:=Z;have s1:=(f.t 1 zS).trans g1;have s3:=(f.t 3 zS).trans g3;have s9:=(f.t 9 zS).trans g9;have Q:=(f.t 10 zS).trans b9;have sd:=f.d.trans gd;have sr:=f.r.trans gr;clear f;have hh:=I.h;by_cases o:i<L.length;have P:=jR o zO;obtain⟨p,a0,G⟩:=hA.at o;have n:=jw5 g.ts.length (L.take i) L[i];rw[<- av o]at n;have U:s.ob kX=_:=(M kX (k.up S)).trans K;have X:=(k.up (show lo<=s.nx by omega)).ne;have H:=I.a;obtain⟨lw,T,b5⟩:=I.b;have n1:∀m,s.nx<=m->¬l=m:=λm hm=>by omega
 have n3:∀m,s.nx<=m->¬j=m:=λm hm=>by omega
 generalize L[i]=z at G n;obtain⟨x,y⟩:=z;simp only at G n;simp(disch:=try exact zD)[w,Q,s9,o,a0];rw[G _ λc k=>by simpa using M c k];have b8:=jrd g.ts.length (L.take i);rw[ai]at b8;by_cases hc:x<(g.ts.length:Int);rw[zb hc]at n;simp(disch:=try exact zD)[s1,s3,ya,j2,yj,n1,n3,H,T,U,mkS,yb,X,yl,hc];refine⟨zO,?_⟩;refine jZ (cs:=[.int .i64 y,.int .i64 x]) (by simp[j2]) rfl rfl ?_;simp;refine jgr (lo:=j+1) (hi:=s.nx) (v:=lw) (L:=revE g.ts.length (L.take i)) (p:=(y,x)) zS (b5.frame (λu h1 h2=>?_) zK) (by simp[sr];omega) (by simp[yp,ya,yT]) zO λkl b7=>?_;have:∀m,s.nx<=m->¬u=m:=λm hm=>by omega
 simp(disch:=try exact zD)[yj,this];have D:∀c,Off (j+1) c->kl.any (Nat.beq c)=false:=λc k=>by rcases b7 with rfl|⟨u,h1,_,rfl,_⟩;rfl;simp only[bp,bC,bm];exact JF (k u h1)
 have k3:=D (2*j+1) (Off.new zO);have k1:=D (2*l+1) (Off.new zO);have b0:¬l=j:=zO;rw[<- n];have F:(revE g.ts.length (L.take (i+1))).length=(revE g.ts.length (L.take i)).length+1:=by rw[n];simp
 generalize c0:revE g.ts.length (L.take (i+1))=R1 at *;simp(disch:=try exact zD)[s3,ya,j2,yj,n3,T,j9,k3,V.cells,V.leaf];refine⟨zO,?_⟩;simp(disch:=try exact zD)[w,P,o];rw[hJ];simp only[c0];have b6:∀m,s.nx<=m->¬m=j:=λm hm=>by omega
 refine⟨zS,⟨?_,⟨.osl (2*(s.nx+1344)+1) (s.nx+1344) 0 R1.length 2,?_,.inr ⟨s.nx+1344,rfl,?_,zO,zL⟩⟩,a2,zL⟩,λc k=>?_⟩;simp(disch:=try exact zD)[j9,yj,n1,b0,k1,H];simp(disch:=try exact zD)[aA,F];simp(disch:=try exact zD)[j9,yj,aA,b6];have h1:=D c (k.up zO);have h2:=(k.up (show ub<=s.nx by omega)).ne;have h3:¬c=2*j+1:=k j zO;simp(disch:=try exact zD)[j9,h1,h2,h3];exact M c k;rw[za hc,aL]at n;simp(disch:=try exact zD)[s1,ya,j2,yj,n1,H,U,mkS,yb,X,yl,hc];refine⟨zO,?_⟩;simp(disch:=try exact zD)[w,P,o];rw[hJ];have h2:∀c,Off ub c->∀m,s.nx<=m->¬c=2*m+1:=λc k=>(k.up (show ub<=s.nx by omega)).ne;refine⟨zS,?_,λc k=>?_⟩;rw[n];refine I.keep (λu h3 h4=>?_) zL;have:∀m,s.nx<=m->¬u=m:=λm hm=>by omega
 simp(disch:=try exact zD)[yj,this];have h3:=h2 c k;simp(disch:=try exact zD)[h3];exact M c k;have:i=L.length:=zO;subst this;rw[bh]at I;simp(disch:=try exact zD)[w,Q,s1,s3];exact JN (by simp[sd]) ⟨l,j,zS,a1,I.keep (λu _ _=>by simp) zL,λc k=>by simpa using M c k⟩
end
def j3r {Yf:YF}{f:FuncId}{xs:List A}{st:St}{ub:Nat}{K:St->Nat->Prop}{d:Option Nat}{nm:Bool}{vs:List V}{P:V->Prop}(b:xs.map (ye E st.tm)=vs) (a:E.sh nm f=false) (hp:(vs.all λv=>v.strip.pureTop)=false)
 (h:∃v,EvO E f vs st.ob st.tk ((st.fb+d.getD 0+1)*1024) ub v/\P v) (c:∀v,P v->wpD (Xq ub v) (QP K st d ub)):j8 E Yf ⟨d,.call f xs,none,nm⟩ st ub K:=by
 obtain⟨v,e,i⟩:=h;exact jN b a hp e (c v i)
def jse {Yf:YF}{f:FuncId}{q:A}{xs:List A}{st:St}{ub:Nat}{K:St->Nat->Prop}{d:Option Nat}{nm:Bool}{first captured vs:List V}{P:V->Prop}(e:ye E st.tm q=.fn (.func f) first captured) (a:first++xs.map (ye E st.tm)++captured=vs) (b:E.sh nm f=false)
 (hp:(vs.all λv=>v.strip.pureTop)=false) (h:∃v,EvO E f vs st.ob st.tk ((st.fb+d.getD 0+1)*1024) ub v/\P v) (c:∀v,P v->wpD (Xq ub v) (QP K st d ub)):j8 E Yf ⟨d,.callV q xs,none,nm⟩ st ub K:=by
 obtain⟨v,i,j⟩:=h;exact Wy e b (by rw[a];exact hp) (by rw[a];exact i) (c v j)
def Reach (n:Nat) (R:List P2) (t:Nat) (v:V):Prop:=∃w,(w<2^n/\∀a,a<n->w.testBit a=war (edB R) n t a)/\j09 (yt (yq w)) v
def ev222n {n:Nat}(H:0<n) (B:n<=9) {t:Nat}(F:t<n) :
 ∃q,Ev E 222 [.int .i64 (n:Int),.int .i64 (t:Int),.sl none true 0 []] q/\∃w,(w<2^n/\∀a,a<n->w.testBit a=war (edB []) n t a)/\FromR w q:=by
 have hp:(2:Nat)^n<=512:=bY zQ B;have D:¬(t:Int)<0:=zO;have m:¬(n:Int)<=t:=zO;have d:¬(n<=t):=zO;refine JX rfl zQ ?_;conv in(occs:=*)F222=>all_goals cbv
 simp(disch:=try exact zD)[F222];refine jJ (vs:=[.int .i64 n,.sl none true 0 []]) zS rfl (j7f (L:=[]) ?_ H B (.inl ⟨none,true,rfl⟩) (λz c=>by cases c) zS) ?_;simp;rintro v1 U K b0 ⟨G,ut,uf,ue,tu,fu,T,rfl,J,p,b5,hT,Q,v⟩;simp only at J Q v;simp(disch:=try exact zD)[D,m,d];refine jJ (vs:=[.ptr (2*G+1) G 0]) zS rfl (sv273 (n:=n) (r:=edB []) (J.keep (λx _ _=>?_) ?_) ?_ p H B (λb _=>⟨(W4 (n:=n) (L:=[]) (λz c=>by cases c) b).1,λa _=>(W4 (n:=n) (L:=[]) (λz c=>by cases c) b).2 a⟩)) ?_;simp
 ·first|omega|(simp;done)|(simp;omega)
 ·first|omega|(simp;done)|(simp;omega)
 rintro v2 M O P ⟨I,j,W,rfl,a0,e,N⟩;simp only at e;have f:=e.o;rw[fg,aL]at f;have S:=e.r;have x1:=jlf (l:=2*I+1) (u:=I) (kk:=.i64) F;have x2:=jj6 (l:=j) (i:=t) zO;have X:=e.s t zO;have ls:=e.rs _ (au (show t<j.length by omega));have ws:=N t F;simp(disch:=try exact zD)[x1,x2,ya,f];obtain⟨y,k⟩:=numR_intsV (yt (yq (W t)));refine jN (vs:=[.ptr (2*j[t]+1) j[t] 0]) zS rfl rfl (jjc (w:=W t) (by simpa using X) (Off.new zL) zO _ _) ?_;refine Jw k λZ add=>?_;simp;refine jhy (ns:=[6,7]) (ls:=[.sl none y (yt (yq (W t))).length ((yt (yq (W t))).flatMap yf),.int .i64 0]) (λr h=>⟨W t,ws,y,h⟩) zS rfl zS zS ?_;simp;exact⟨XP rfl (ja _ Z y _ _),jM rfl,trivial⟩
section
variable {g:Hist'}{mv rv:V}{kX uX:Nat}{ob:ZO}{ub u1 u3 hi:Nat}{R:List P2}
def evo221 (p:PastO kX uX R u1 u3 hi ob) (J:hi<=ub) (j:∃z,ob kX=some ⟨uX,.cells (mkS g mv rv z)⟩) (D:Off ub kX) (u:0<g.ts.length) (P:g.ts.length<=8) (M:InG g.ts.length R) (I:R.length<=10000) {t:Nat}(y:t<g.ts.length) (tk:Nat->Bool) (base:Nat) :
 ∃v,EvO E 221 [.int .i64 (t:Int),.ptr (2*u1+1) u1 0,.ptr (2*u3+1) u3 0] ob tk base ub v/\Reach g.ts.length R t v:=by
 obtain⟨z,j⟩:=j;have N:=D.ne;have s:=p.a;obtain⟨O,o,c⟩:=p.b;have Q:=p.h;have L:∀m,ub<=m->¬u1=m:=λm K=>by omega
 have B:∀m,ub<=m->¬u3=m:=λm K=>by omega
 refine jb3 rfl zQ ?_;conv in(occs:=*)S221=>all_goals cbv
 simp(disch:=try exact zD)[S221,ya,s,o,j,N,mkS,yb,yl,yj,L,B];have f:∀q w e add d,(w<2^g.ts.length/\∀a,a<g.ts.length->w.testBit a=war (edB R) g.ts.length t a)->d.df=[]->d.tm 4=.sl e q (yt (yq w)).length ((yt (yq w)).flatMap yf)->add=add->WQ [.t 4] (Reach g.ts.length R t) .ret d:=λq w e _ d i hd h4 (_:()=())=>
  slE (t:=e) (nl:=q) (k:=(yt (yq w)).length) (cs:=(yt (yq w)).flatMap yf) (λr h=>⟨w,i,q,h⟩) hd h4
 rcases c with⟨rfl,rfl⟩|c;obtain⟨q,n,w,i,nl,l⟩:=ev222n u zO y;refine jH n zS rfl zS ?_;refine jw6 l λe add=>?_
 simp;exact f nl w e () _ i zS zS rfl
 ·have G:=EdV.toA (.inr c) J;obtain⟨x,rfl,_⟩:=c;refine j3r (vs:=[.int .i64 g.ts.length,.int .i64 t,.osl (2*x+1) x 0 R.length 2]) zS rfl rfl (evo222 u zO (G.up (λH _=>by simp) ?_) M I y _ _) λq F=>?_
  ·first|omega|(simp;done)|(simp;omega)
  obtain⟨w,i,nl,l⟩:=F;refine jw6 l λe add=>?_;simp;exact f nl w e () _ i zS zS rfl
end
section
variable {g:Hist'}{M:List Int}{mn:Bool}{rt:Option (Nat × Nat)}{rn:Bool}{kX uX:Nat}{ob:ZO}{ub u1 u2 u3 u5 hi:Nat}{R:List P2}
def evo171 (I:PastO kX uX R u1 u3 hi ob) (D:hi<=ub) (s:ob (2*u5+1)=some ⟨u5,.cells [.fn (.func 221) [] [.ptr (2*u1+1) u1 0,.ptr (2*u3+1) u3 0]]⟩) (p:ob (2*u2+1)=some ⟨u2,.cells [.ptr kX uX 0]⟩) (L:u5<ub) (N:u2<ub)
 (q:∃n,ob kX=some ⟨uX,.cells (mkS g (yl mn yf M) (rdV rt rn (yi g)) n)⟩) (o:Off ub kX) (z:g.ts.length<=8) (J:InG g.ts.length R) (B:R.length<=10000) {i:Nat}(hi:i<(yi g).length) (tk:Nat->Bool) (base:Nat) :
 ∃v,EvO E 171 [.int .i64 (i:Int),.ptr (2*u5+1) u5 0,.ptr (2*u2+1) u2 0] ob tk base ub v/\Reach g.ts.length R ((yi g).getD i (0,0)).1.toNat v:=by
 obtain⟨n,c⟩:=id q;have O:=o.ne;have K:∀m,ub<=m->¬u5=m:=λm G=>by omega
 have P:∀m,ub<=m->¬u2=m:=λm G=>by omega
 have d:=JD jS rt rn (yi g) .i64 hi;obtain⟨a,l,_,j⟩:=jig hi;have b:((yi g).flatMap jC)[i*2]? = some (.int .i64 (a:Int)):=by
  have:=jO jS (yi g) hi (by decide:0<2);rw[bl]at this;rw[this];have e:(yi g).getD i (0,0)=(yi g)[i]:=by simp[ay,aa hi]
  rw[e]at l;simp[jC,l]
 rw[l,ba];refine jb3 rfl zQ ?_;conv in(occs:=*)S171=>all_goals cbv
 simp(disch:=try exact zD)[S171,ya,s,p,c,mkS,yb,yl,rdV,d,b];refine jse (f:=221) (first:=[]) (captured:=[.ptr (2*u1+1) u1 0,.ptr (2*u3+1) u3 0]) (vs:=[.int .i64 a,.ptr (2*u1+1) u1 0,.ptr (2*u3+1) u3 0]) zS zS rfl rfl (evo221 (mv:=yl mn yf M) (rv:=rdV rt rn (yi g)) (I.keep (λu _ _=>by simp) D) ?_ ?_ (o.up ?_) zO z J B j _ _) λv H=>?_
 ·first|omega|(simp;done)|(simp;omega)
 exact⟨n,by simpa using c⟩
 ·first|omega|(simp;done)|(simp;omega)
 obtain⟨w,x,nl,F⟩:=H;refine Jw F λy add=>?_;simp;exact slE (t:=y) (nl:=nl) (k:=(yt (yq w)).length) (cs:=(yt (yq w)).flatMap yf) (λr h=>⟨w,x,nl,h⟩) zS zS
def rcQ (g:Hist') (M:List Int) (i k:Nat):Bool:=((yi g).getD k (0,0)).1==((yi g).getD i (0,0)).1&&(decide (((yi g).getD k (0,0)).2<((yi g).getD i (0,0)).2)&&decide (0<=M.getD k 0))
def rcS (g:Hist') (M:List Int) (i n:Nat):List Int:=((List.range n).filter (rcQ g M i)).map λk=>M.getD k 0
def j2f (g:Hist') (M:List Int) (i n:Nat):rcS g M i (n+1)=rcS g M i n++if rcQ g M i n then [M.getD n 0] else []:=by unfold rcS;rw[cV,bP,bE];congr 1;cases h:rcQ g M i n<;>simp[h]
def jxg (g:Hist') (M:List Int) (i n:Nat):(rcS g M i n).length<=n:=by unfold rcS;rw[bt];exact bI (ch _ _) zS
def evo172 (hm:WM g M=true) (h2:ob (2*u2+1)=some ⟨u2,.cells [.ptr kX uX 0]⟩) (l2:u2<ub) (hX:∃lv,ob kX=some ⟨uX,.cells (mkS g (yl mn yf M) (rdV rt rn (yi g)) lv)⟩) (o:Off ub kX) (hR:(yi g).length<=1000) {i:Nat}(hi:i<(yi g).length) (tk:Nat->Bool) (base:Nat) :
 EvO E 172 [.int .i64 (i:Int),.ptr (2*u2+1) u2 0] ob tk base ub (jks (rcS g M i (yi g).length)):=by
 obtain⟨lv,hX⟩:=hX;have c9:=Xi hm;have oX:=o.ne;have n2:∀m,ub<=m->¬u2=m:=λm hm=>by omega
 have Z:∀{k:Nat}(h:k<(yi g).length),((yi g).flatMap jC)[k*2]? = some (.int .i64 ((yi g).getD k (0,0)).1)/\((yi g).flatMap jC)[k*2+1]? = some (.int .i64 ((yi g).getD k (0,0)).2):=fun {k} h=>by
  have e:(yi g).getD k (0,0)=(yi g)[k]:=by simp[ay,aa h]
  have a1:=jO jS (yi g) h (by decide:0<2);have a2:=jO jS (yi g) h (by decide:1<2);rw[bl]at a1;rw[a1,a2,e];exact⟨rfl,rfl⟩
 have B:=JD jS rt rn (yi g) .i64 hi;obtain⟨S,f2⟩:=Z hi;refine jr rfl ?_;conv in(occs:=*)S172=>all_goals cbv
 simp(disch:=try exact zD)[S172,ya,h2,hX,mkS,yb,yl,rdV];refine jQ λy c=>?_;have g0:y.tm 0=.int .i64 i:=by rw[c];simp
 have g1:y.tm 1=.ptr (2*u2+1) u2 0:=by rw[c];simp
 have g4:y.tm 4=.sl none true 0 []:=by rw[c];simp
 have c6:y.tm 10=rdV rt rn (yi g):=by rw[c];simp[rdV]
 have b7:y.tm 11=.int .i64 (yi g).length:=by rw[c];simp
 have b5:y.tm 12=.int .i64 0:=by rw[c];simp
 have gd:y.df=[]:=by rw[c];simp
 have gr:y.ro=ub:=by rw[c];simp
 have gn:ub<=y.nx:=by rw[c];first|omega|(simp;done)|(simp;omega)
 have go:∀a,Off ub a->y.ob a=ob a:=λa o=>by rw[c];simp
 clear c;obtain⟨P,N⟩:∃P:Nat->Nat->Prop,P=λhi u=>ub<=u/\u<hi:=⟨_,rfl⟩;obtain⟨J,hJ⟩:∃J:Nat->St->Prop,J=λk s=>s.tm 12=.int .i64 k/\IntsO s.ob (P s.nx) (rcS g M i k) (s.tm 4)/\ub<=s.nx/\∀a,Off ub a->s.ob a=ob a:=⟨_,rfl⟩;refine j5 [(4,6),(12,61)] (yi g).length J rfl rfl (by rw[hJ];exact⟨by simpa using b5,.inl ⟨by simp[rcS],g4⟩,gn,go⟩) ?_;clear b5 g4 gn go;intro k s c7 a0 f;rw[hJ]at a0;obtain⟨w,sI,sn,so⟩:=a0;have s0:=(f.t 0 zS).trans g0;have s1:=(f.t 1 zS).trans g1;have b9:=(f.t 10 zS).trans c6;have U:=(f.t 11 zS).trans b7;have sd:=f.d.trans gd;have sr:=f.r.trans gr;clear f;by_cases j:k<(yi g).length;have D:=jR j zO;have L:k<M.length:=zO;have b8:=JD jS rt rn (yi g) .i64 j;obtain⟨k1,k2⟩:=Z j;have b6:=λob=>Ys (yi g) ob j;have T:=JD j6 none mn M .i64 L;have b0:=jn M L;have b:=j2f g M i k;have c8:=jxg g M i k;have F:s.ob (2*u2+1)=_:=(so _ (Off.new l2)).trans h2;have I:s.ob kX=_:=(so _ o).trans hX;have H:=(o.up sn).ne;have G:∀m,s.nx<=m->¬u2=m:=λm hm=>by omega
 have c5:M.getD k 0=M[k]:=by simp[ay,aa L]
 have c0:(yi g).getD k (0,0)=(yi g)[k]:=by simp[ay,aa j]
 unfold rcQ at b;rw[c5,c0]at b;generalize (yi g).getD i (0,0)=p at *;generalize (yi g)[k]=q at *;obtain⟨pa,pb⟩:=p;obtain⟨qa,qb⟩:=q;simp only at b6 b S f2;simp(disch:=try exact zD)[w,U,b9,s1,j,b8,b6,rdV,ya,j2,yj];refine⟨zO,?_⟩;have skip:rcS g M i (k+1)=rcS g M i k->∀Q:St,Q.tm 12=.int .i64 ((k:Int)+1)->Q.tm 4=s.tm 4->s.nx<=Q.nx->(∀a,Off s.nx a->Q.ob a=s.ob a)->J (k+1) Q:=λe Q h1 h2 h3 h4=>by rw[hJ];refine⟨by simpa using h1,?_,zO,λa o=>(h4 a (o.up sn)).trans (so a o)⟩;rw[e,h2];exact sI.frame (λu n=>by rw[N]at n;exact h4 _ (Off.new n.2)) λu n=>by rw[N]at n ⊢;exact⟨n.1,by have:=n.2;omega⟩
 cases K:(qa==pa);rw[K,bH,za zQ,aL]at b;simp(disch:=try exact zD)[w,s0,ya,F,I,mkS,yb,H,G,rdV,yl,B,S,K,D,j];exact skip b _ zS zS zL λa o=>by simp(disch:=try exact zD)[o.ne]
 by_cases O:qb<pb;by_cases c3:0<=M[k];rw[K,zi O,zi c3,bO,bO,zb rfl]at b;simp(disch:=try exact zD)[s1,s0,ya,yj,F,I,mkS,yb,H,G,rdV,yl,B,S,f2,K,O,c3,T,b0];refine jZ (cs:=[.int .i64 M[k]]) (by simp[j2]) rfl rfl ?_;simp;refine jas (p:=P s.nx) (l:=rcS g M i k) (z:=M[k]) (v:=s.tm 4) (X:=2*(s.nx+3136)+1) (uX:=s.nx+3136) zS (sI.frame (λu n=>?_) λ_ h=>h) (by simp[aA]) (by simp[aA]) (λu n=>by rw[N]at n;simp[sr];exact n.1) zO λkl c4=>?_;rw[N]at n;have:∀m,s.nx<=m->¬u=m:=λm hm=>by omega
 simp(disch:=try exact zD)[yj,this];simp(disch:=try exact zD)[w,D,j];rw[hJ];refine⟨zS,.inr ⟨by rw[b];simp,s.nx+3200,by rw[b];simp[aA],by rw[b];simp[aA,jhj],?_⟩,zL,λa o=>?_⟩;rw[N];simp;omega;have h3:=(o.up sn).ne;have h4:kl.any (Nat.beq a)=false:=by rw[eO];intro x hx hb;obtain⟨u,n,rfl⟩:=c4 x hx;rw[N]at n;exact o u n.1 (br hb)
 simp(disch:=try exact zD)[jhj,h3,h4];exact so a o;rw[K,zi O,decide_eq_false c3,bO,bO,za zQ,aL]at b;simp(disch:=try exact zD)[w,s1,s0,ya,yj,F,I,mkS,yb,H,G,rdV,yl,B,S,f2,K,O,c3,T,b0,D,j];exact skip b _ zS zS zL λa o=>by simp(disch:=try exact zD)[o.ne]
 rw[K,decide_eq_false O,bH,du,za zQ,aL]at b;simp(disch:=try exact zD)[w,s1,s0,ya,yj,F,I,mkS,yb,H,G,rdV,yl,B,S,f2,K,O,D,j];exact skip b _ zS zS zL λa o=>by simp(disch:=try exact zD)[o.ne]
 have:k=(yi g).length:=zO;subst this;simp(disch:=try exact zD)[w,U];exact Wz (by simp[sd]) zS (sI.frame (λu n=>by simp) λu n=>n) (λu n=>by rw[N]at n;simp[sr];exact n.1)
end
section
variable {g:Hist'}{M:List Int}{lvl:Int}
def askL (g:Hist') (M:List Int) (S:Nat->List Int) (n:Nat):List P2:=(List.range n).flatMap λi=>askE g M (S i) i
def jeb {S a:List Int}(h:∀x,x∈S ↔ x∈a) (i:Nat) (z:P2):z∈askE g M S i ↔ z∈askE g M a i:=by unfold askE;simp only[aI,bK,h]
def sat_of {S:Nat->List Int}(b:∀i,i<(yi g).length->∀x,x∈S i ↔ x∈XA g lvl M i):jlc g lvl M (yF g (ym g).length++srcL g M (yi g).length++askL g M S (yi g).length):=by intro z;simp only[aQ,yF,srcL,askL,cq,aI,bf];constructor;rintro((⟨i,a,h⟩|⟨i,a,rfl⟩)|⟨i,a,h⟩);exact .inl ⟨i,a,h⟩;exact .inr ⟨i,a,.inl rfl⟩;exact .inr ⟨i,a,.inr ((jeb (b i a) i z).1 h)⟩;rintro(⟨i,a,h⟩|⟨i,a,h|h⟩);exact .inl (.inl ⟨i,a,h⟩);exact .inl (.inr ⟨i,a,h.symm⟩);exact .inr ⟨i,a,(jeb (b i a) i z).2 h⟩
def jfw (g:Hist') (M:List Int) (i:Nat):XA g 0 M i=[]:=by unfold XA jdn;rw[List.eq_nil_iff_forall_not_mem];intro x a;obtain⟨k,_,_,h⟩:=filTo_mem.1 a;simp[jdm]at h
def jj1 (g:Hist') (M:List Int):jlc g 0 M (yF g (ym g).length++srcL g M (yi g).length):=by
 have:=sat_of (g:=g) (M:=M) (lvl:=0) (S:=λ_=>[]) λi _ x=>by rw[jfw]
 have e:askL g M (λ_=>[]) (yi g).length=[]:=by simp[askL,askE]
 rwa [e,aL]at this
def jxp (r:WM g M=true) {x y:Nat}(H:x<g.ts.length) (G:y<g.ts.length):(yF g (ym g).length++srcL g M (yi g).length).contains ((x:Int),(y:Int))=jez g M x y:=by
 have B:=jj1 g M;have D:((x:Int),(y:Int))∈(yF g (ym g).length++srcL g M (yi g).length) ↔ jdo g 0 M x y=true:=by rw[<- (XO _).mem_iff,<- compP_mem,Qj r B,edgesOf_mem];constructor;rintro⟨a,b,_,_,h,e⟩;have f:(x:Int)=a:=zg Prod.fst e;have l:(y:Int)=b:=zg Prod.snd e;rw[show x=a by omega,show y=b by omega];exact h;exact λh=>⟨x,y,zO,zO,h,rfl⟩
 rw[bz,cB,D];have m:(x==g.ts.length)=false:=by simp;omega
 unfold jdo jez;rw[m,bH,bS,bG];constructor;rintro(h|h);simp only[aj]at h ⊢;exact⟨⟨h.1.1.1,h.1.1.2⟩,by simp[h.1.2,h.2]⟩;obtain⟨i,d,h⟩:=ce.1 h;have d:=bf.1 d;rw[jfw,show askE g M [] i=[] from rfl]at h;simp only[List.contains_nil,bm,zh]at h;obtain⟨b,q,n,_⟩:=jig d;have f:Jg g (M.getD i 0)=(x:Int):=zg Prod.fst h;have l:((yi g).getD i (0,0)).1=(y:Int):=zg Prod.snd h;have w:=Xi r;have s:y=b:=by rw[q]at l;omega
 rcases jys r d with c|⟨a,v,o,_⟩;unfold Jg at f;rw[zb c]at f;omega;have p:x=a:=by unfold Jg at f;rw[za zO]at f;omega
 rw[p,s,o,n,dp,bO,bG];refine .inr (ce.2 ⟨((yi g)[i],M[i]),?_,?_⟩);rw[di];exact⟨i,by simp;omega,zS⟩;have t:M.getD i 0=M[i]:=by simp[ay,aa (show i<M.length by omega)]
 have u:(yi g).getD i (0,0)=(yi g)[i]:=by simp[ay,aa d]
 rw[t]at v;rw[u]at q;simp[v,q];intro h;simp only[aj,bG]at h;obtain⟨⟨f,l⟩,c⟩:=h;rcases c with c|c;left;simp only[aj];exact⟨⟨⟨f,l⟩,c.1⟩,c.2⟩;right;obtain⟨z,F,k⟩:=ce.1 c;obtain⟨i,d,e⟩:=bA F;simp only[List.length_zip]at d;have j:i<(yi g).length:=zO;rw[List.getElem_zip]at e;simp only[aj,zh]at k;rw[<- e]at k;simp only at k;refine ce.2 ⟨i,bf.2 j,?_⟩;rw[bG];left;have t:M.getD i 0=M[i]:=by simp[ay,aa (show i<M.length by omega)]
 have u:(yi g).getD i (0,0)=(yi g)[i]:=by simp[ay,aa j]
 unfold j05 Jg;rw[t,u,k.1,k.2,za zO];simp
def jb8 {n:Nat}{r c:Nat->Nat->Bool}(h:∀x y,x<n->y<n->r x y=c x y):∀K,K<=n->∀b a,b<n->a<n->war r K b a=war c K b a
 |0,_,b,a,hb,ha=>h a b ha hb
 |K+1,hK,b,a,hb,ha=>by rw[war,war,jb8 h K zO b a hb ha,jb8 h K zO b K hb zO,jb8 h K zO K a zO ha]
def edB_rev {n:Nat}{L:List P2}{x y:Nat}(i:x<n):edB (revE n L) x y=L.contains ((x:Int),(y:Int)):=by rw[bz];unfold edB revE;simp only[cB,aI,bK,ze];constructor;rintro⟨⟨a,b⟩,⟨d,_⟩,e⟩;have c:b=(y:Int):=zg Prod.fst e;have f:a=(x:Int):=zg Prod.snd e;rw[<- c,<- f];exact d;exact λh=>⟨_,⟨h,by simp only;omega⟩,rfl⟩
def jua (o:WM g M=true) (p:g.ts.length<=8) {i w:Nat}(hi:i<(yi g).length) (f:w<2^g.ts.length/\∀a,a<g.ts.length->w.testBit a=war (edB (revE g.ts.length (yF g (ym g).length++srcL g M (yi g).length))) g.ts.length ((yi g).getD i (0,0)).1.toNat a) (x:Int) :
 x∈yt (yq w) ↔ x∈XA g 2 M i:=by
 obtain⟨b,k,_,l⟩:=jig hi;rw[k,ba]at f;have c:∀a,a<g.ts.length->w.testBit a=farB g M b a:=λa d=>by rw[f.2 a d];exact jb8 (λx y m n=>by rw[edB_rev m];exact jxp o m n) _ zK b a l d
 unfold XA jdn yt;rw[filTo_mem,aI];constructor;rintro⟨a,d,rfl⟩;obtain⟨_,j⟩:=bitsUp_mem.1 d;have e:a<g.ts.length:=by rcases cJ a g.ts.length with h|h;exact h;rw[dq (aX f.1 (bY zQ h))]at j;cases j
 refine⟨a,e,rfl,?_⟩;unfold jdm;rw[za zQ,zb rfl,k,ba,<- c a e];exact j;rintro⟨a,d,rfl,h⟩;refine⟨a,bitsUp_mem.2 ⟨zO,?_⟩,rfl⟩;unfold jdm at h;rw[za zQ,zb rfl,k,ba,<- c a d]at h;exact h
def j77 (n:WM g M=true) {i:Nat}(x:Int):x∈rcS g M i (yi g).length ↔ x∈XA g 1 M i:=by
 have p:=Xi n;unfold XA jdn rcS;rw[filTo_mem,aI];simp only[bK,bf];constructor;rintro⟨k,⟨d,c⟩,rfl⟩;unfold rcQ at c;simp only[aj,zh,ze]at c;rcases jys n d with r|⟨a,f,o,l⟩;omega;refine⟨a,l,f,?_⟩;unfold jdm rcB;rw[zb rfl,ce];have j:M.getD k 0=M[k]:=by simp[ay,aa (show k<M.length by omega)]
 have m:(yi g).getD k (0,0)=(yi g)[k]:=by simp[ay,aa d]
 rw[j]at f;rw[m]at c;refine⟨((yi g)[k],M[k]),?_,by
  show((yi g)[k].1==_&&(decide ((yi g)[k].2<_)&&M[k]==(a:Int)))=true;rw[c.1,zi c.2.1,f];simp⟩
 rw[di];exact⟨k,by simp;omega,zS⟩;rintro⟨a,f,rfl,h⟩;unfold jdm rcB at h;rw[zb rfl,ce]at h;obtain⟨z,q,b⟩:=h;obtain⟨k,d,e⟩:=bA q;simp only[List.length_zip]at d;rw[List.getElem_zip]at e;simp only[aj,zh,ze]at b;rw[<- e]at b;simp only at b;have j:M.getD k 0=M[k]:=by simp[ay,aa (show k<M.length by omega)]
 have m:(yi g).getD k (0,0)=(yi g)[k]:=by simp[ay,aa (show k<(yi g).length by omega)]
 refine⟨k,⟨zO,?_⟩,by rw[j];exact b.2.2⟩;unfold rcQ;rw[j,m,b.2.2,b.1,zi b.2.1];simp
end
section
variable {g:Hist'}{M:List Int}{lvl:Int}
def j7y {A:List P2}(b:∀z,z∈A ↔ ∃i,i<(yi g).length/\z∈askE g M (XA g lvl M i) i):jlc g lvl M (yF g (ym g).length++srcL g M (yi g).length++A):=by intro z;rw[aQ,b];simp only[aQ,yF,srcL,cq,aI,bf];constructor;rintro((⟨i,a,h⟩|⟨i,a,rfl⟩)|⟨i,a,h⟩);exact .inl ⟨i,a,h⟩;exact .inr ⟨i,a,.inl rfl⟩;exact .inr ⟨i,a,.inr h⟩;rintro(⟨i,a,h⟩|⟨i,a,h|h⟩);exact .inl (.inl ⟨i,a,h⟩);exact .inl (.inr ⟨i,a,h.symm⟩);exact .inr ⟨i,a,h⟩
def rev_in (m:WM g M=true):InG g.ts.length (revE g.ts.length (yF g (ym g).length++srcL g M (yi g).length)):=by
 intro z k;unfold revE at k;simp only[aI,bK,ze]at k;obtain⟨p,⟨l,d⟩,rfl⟩:=k;obtain⟨a,b,rfl,t,s⟩:=jov m (jj1 g M) p l;simp only at d ⊢;refine⟨b,a,rfl,?_,zO⟩;rcases cJ b g.ts.length with h|h;exact h;have r:b=g.ts.length:=zO;have j:jdo g 0 M a b=true:=by
  have:((a:Int),(b:Int))∈jp (g.ts.length+1) (jdo g 0 M):=by rw[<- Qj m (jj1 g M),compP_mem,(XO _).mem_iff];exact l
  obtain⟨x,y,_,_,h,e⟩:=edgesOf_mem.1 this;have u:(a:Int)=x:=zg Prod.fst e;have o:(b:Int)=y:=zg Prod.snd e;rw[show a=x by omega,show b=y by omega];exact h
 unfold jdo at j;have n:Ju g b=false:=by cases h:Ju g b;rfl;have:=XG h;omega
 rw[n,du,bS,du,bH,bH,bS]at j;obtain⟨i,f,h⟩:=ce.1 j;have f:=bf.1 f;rw[jfw,show askE g M [] i=[] from rfl]at h;simp only[List.contains_nil,bm,zh]at h;obtain⟨c,n,_,q⟩:=jig f;have o:((yi g).getD i (0,0)).1=(b:Int):=zg Prod.snd h;omega
end
structure SeenF (g:Hist') (lvl:Int) (M:List Int) (mv rv:V) (kX uX ub0:Nat) (K:Nat->Prop) (ob0:ZO) (f:FuncId) (cap:List V):Prop where
 sh:E.sh true f=false
 np:(cap.all λv=>v.strip.pureTop)=false
 ev:∀i,i<(yi g).length->∀(ob':ZO) (ub':Nat) (tk:Nat->Bool) (base:Nat),ub0<=ub'->(∃lv,ob' kX=some ⟨uX,.cells (mkS g mv rv lv)⟩)->(∀key,K key->ob' key=ob0 key) ->
  ∃v,EvO E f (.int .i64 (i:Int)::cap) ob' tk base ub' v/\∃l,(∀x,x∈l ↔ x∈XA g lvl M i)/\l.length<=100/\j09 l v
def jvv (ub kX:Nat) (lv:V) (Z:List P2) (key:Nat):Prop:=Off ub key/\key≠kX/\j5k lv Z key
section
variable {g:Hist'}{M:List Int}{lvl:Int}{mn rn:Bool}{rt:Option (Nat × Nat)}{kX uX lo:Nat}{ob:ZO}{ub:Nat}{lv:V}
def jl0 {Z:List P2}{ob:ZO}(b:EdV ob lo ub lv Z) (c:Off lo kX) (f:lo<=ub) {u nx:Nat}(i:ub<=u) (d:u<nx):jvv nx kX lv Z (2*u+1):=by
 refine⟨Off.new d,λe=>c u zO e.symm,λw a=>?_⟩;rcases b with⟨rfl,_⟩|⟨v,rfl,_,_,h⟩;cases a;have:v=w:=by injection a
 omega
def sv118 {Yf:YF}{tk:Nat->Bool}{ro base:Nat}(hX:ob kX=some ⟨uX,.cells (mkS g (yl mn yf M) (rdV rt rn (yi g)) lv)⟩) (H:EdV ob lo ub lv (yF g (ym g).length++srcL g M (yi g).length)) (b:Off lo kX) (j:lo<=ub) (a0:ro<=lo) (n:WM g M=true) (T:g.ts.length<=8) (hR:(yi g).length<=100) (P:lvl=1\/lvl=2) :
 ∃r,EvS E Yf.y 118 [.ptr kX uX 0,.int .i64 lvl] ob tk ro base ub r/\ub<=r.2.2.2/\(∀c,Off ub c->r.2.1 c=ob c)/\∃f q,r.1=.fn (.func f) [] q/\SeenF g lvl M (yl mn yf M) (rdV rt rn (yi g)) kX uX r.2.2.2 (jvv r.2.2.2 kX lv (yF g (ym g).length++srcL g M (yi g).length)) r.2.1 f q:=by
 have b6:=Xe g;have hl:(yF g (ym g).length++srcL g M (yi g).length).length<=10000:=by rw[ap,jju];have:=jai g 8 (ym g).length zO;have:(ym g).length*(8+1)<=8*9:=bi 9 zO;omega
 have o:=rev_in n;have b5:=jrd g.ts.length (yF g (ym g).length++srcL g M (yi g).length);have D:=fun {i:Nat}(l:i<(yi g).length) {w:Nat}=>jua (w:=w) n T l;generalize yF g (ym g).length++srcL g M (yi g).length=Z at *;have oX:=(b.up j).ne;refine J6 rfl zQ ?_;show wpC E Yf S118.body _ (Jh S118.res _);rcases P with rfl|rfl
 ·conv in(occs:=*)S118=>all_goals cbv
  simp(disch:=try exact zD)[S118,V.cells,V.leaf];refine JN zS ⟨zL,λc b=>?_,172,[.ptr (2*ub+1) ub 0],zS,rfl,rfl,λi l s d tk base K e F=>?_⟩;have:=b.ne;simp(disch:=try exact zD)[this];have p:ub<d:=by first|omega|(simp at K;omega)
  have B:=F (2*ub+1) (jl0 H b j zK zL);exact⟨_,evo172 n (u2:=ub) (by rw[B];simp) p e (b.up zO) zO l _ _,_,λx=>j77 n x,bI (jxg _ _ _ _) hR,numR_intsV _⟩
 ·conv in(occs:=*)S118=>all_goals cbv
  simp(disch:=try exact zD)[S118,V.cells,V.leaf,ya];refine jJ (vs:=[.ptr kX uX 0]) zS rfl (sv170 (g:=g) (lo:=lo) (mv:=yl mn yf M) (rv:=rdV rt rn (yi g)) (L:=Z) ⟨lv,?_,H.frame (λu _ h=>?_) ?_⟩ b ?_ ?_ zO) ?_;simp(disch:=try exact zD)[oX,hX];have:∀m,ub<=m->¬u=m:=λm n=>by omega
  simp(disch:=try exact zD)[yj,this]
  ·first|omega|(simp;done)|(simp;omega)
  ·first|omega|(simp;done)|(simp;omega)
  ·first|omega|(simp;done)|(simp;omega)
  rintro v1 J X a ⟨S,u3,rfl,Q,N,I⟩;simp only at Q N I;have b0:=N.h;have U:ub<S:=by first|omega|(simp at Q;omega)
  have O:J (2*ub+1)=some ⟨ub,.cells [.ptr kX uX 0]⟩:=by rw[I _ (Off.new zL)];simp
  simp(disch:=try exact zD)[V.cells,V.leaf,ya,j2];refine⟨zO,?_⟩;refine JN zS ⟨zL,λc b=>?_,171,[.ptr (2*a+1) a 0,.ptr (2*ub+1) ub 0],zS,rfl,rfl,λi l s d tk base K e F=>?_⟩;have t:=(b.up (show ub<=a by omega)).ne;simp(disch:=try exact zD)[t];rw[I _ (b.up zL)];have:=b.ne;simp(disch:=try exact zD)[this];have p:a<d:=by first|omega|(simp at K;omega)
  have k:=λ(u:Nat) (t:ub<=u) (B:u<=a)=>F (2*u+1) (jl0 H b j t zL);have G:PastO kX uX (revE g.ts.length Z) S u3 a s:=N.keep (λu t B=>by
   rw[k u zO zO];have:∀m,a<=m->¬u=m:=λm n=>by omega
   simp(disch:=try exact zD)[yj,this]) zK
  obtain⟨v,hv,w,z,hn⟩:=evo171 (M:=M) (mn:=mn) (rt:=rt) (rn:=rn) (u5:=a) (u2:=ub) (ub:=d) G zO (by rw[k a zO zO];simp) (by
   rw[k ub zO zO];simp(disch:=try exact zD)[yj,show ¬ub=a by omega,O]) zO zO e (b.up zO) T o zO l tk base
  refine⟨v,hv,_,λx=>D l z x,?_,hn⟩;rw[JA];have:=ja0 w;omega
end
end Go.Pv.T
