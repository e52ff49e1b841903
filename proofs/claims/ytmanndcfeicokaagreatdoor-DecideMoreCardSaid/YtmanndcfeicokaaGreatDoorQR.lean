/- Part. -/
import Derived.Test.YtmanndcfeicokaaGreatDoorQQ
set_option maxRecDepth 100000
set_option maxHeartbeats 8000000
set_option linter.all false
namespace Go.Pv.T
open Go Go.Pv
section
variable {g:Hist'}{M:List Int}{mn rn:Bool}{rt:Option (Nat × Nat)}{kX uX lo:Nat}{ob:ZO}{ub:Nat}{L:List P2}
def srcL (g:Hist') (M:List Int) (i:Nat):List P2:=(List.range i).map (j20 g M)
def juc (g:Hist') (M:List Int) (i:Nat):srcL g M (i+1)=srcL g M i++[j20 g M i]:=by unfold srcL;rw[du,bw];rfl
def jih (g:Hist') (M:List Int) (i:Nat):(srcL g M i).length=i:=by simp[srcL]
def rdV (rt:Option (Nat×Nat)) (rn:Bool) (R:List (Int×Int)):V:=.sl rt rn R.length (R.flatMap jD)
def sv116 {Yf:YF}{tk:Nat->Bool}{ro base:Nat}(hX:MkR g (yj mn ye M) (rdV rt rn (yh g)) kX uX lo ob ub L) (hm:WR g M=true) (l:Off lo kX) (P:lo<=ub) (b0:ro<=lo) (b7:ro<=uX) (hl:L.length<=10000) (hR:(yh g).length<=10000) :
 ∃r,EvS E Yf.y 116 [.ptr kX uX 0] ob tk ro base ub r/\ub<=r.2.2.2/\MkR g (yj mn ye M) (rdV rt rn (yh g)) kX uX lo r.2.1 r.2.2.2 (L++srcL g M (yh g).length)/\∀c,Off lo c->c≠kX->r.2.1 c=ob c:=by
 have b6:=Xm hm;obtain⟨b8,o,_⟩:=id hX;refine J7 rfl zQ ?_;show wpC E Yf S116.body _ (Jd S116.res _);conv in(occs:=*)S116=>all_goals cbv
 simp(disch:=try exact zD)[S116,j0,o,mkS,ya,rdV];refine jf λm h=>?_;have g0:m.tm 0=.ptr kX uX 0:=by rw[h];simp
 have g7:m.tm 7=rdV rt rn (yh g):=by rw[h];simp[rdV]
 have g8:m.tm 8=.int .i64 (yh g).length:=by rw[h];simp
 have g9:m.tm 9=.int .i64 0:=by rw[h];simp
 have gd:m.df=[]:=by rw[h];simp
 have gr:m.ro=ro:=by rw[h];simp
 have S:ub<=m.nx:=by rw[h];first|omega|(simp;done)|(simp;omega)
 have go:m.ob=ob:=by rw[h];simp
 clear h;obtain⟨J,O⟩:∃J:Nat->St->Prop,J=λi s=>s.tm 9=.int .i64 i/\MkR g (yj mn ye M) (rdV rt rn (yh g)) kX uX lo s.ob s.nx (L++srcL g M i)/\ub<=s.nx/\∀c,Off lo c->c≠kX->s.ob c=ob c:=⟨_,rfl⟩;refine j7 [(2,3),(9,25)] (yh g).length J rfl rfl ?_ ?_;rw[O];exact⟨by simpa using g9,by simpa[srcL] using hX.keep (λc _=>by rw[go]) (l.up P) S,S,λc _ _=>by rw[go]⟩;clear o g9 go S;intro i s hi q f;rw[O]at q;obtain⟨F,U,sn,so⟩:=q;have s0:=(f.t 0 zS).trans g0;have s7:=(f.t 7 zS).trans g7;have Z:=(f.t 8 zS).trans g8;have sd:=f.d.trans gd;have sr:=f.r.trans gr;clear f;by_cases j:i<(yh g).length;have K:=jc j zO;have n:i<M.length:=zO;obtain⟨lv,B,_⟩:=id U;have oX:=(l.up (show lo<=s.nx by omega)).ne;have x:=XA jq rt rn (yh g) .i64 j;have v:=λob=>Qj (yh g) ob j;have I:=j6 jA mn M .i64 n;have H:=JL M n;have T:=juc g M i;have D:j20 g M i=(Jt g M[i],(yh g)[i].1):=by unfold j20;simp[aC,aa n,aa j]
 have G:=jih g M i;generalize hp:(yh g)[i]=p at *;obtain⟨a,b⟩:=p;simp only at v;simp(disch:=try exact zD)[F,Z,s7,s0,j,rdV,x,v,j0,j2,yi];refine⟨by first|omega|(simp[sr];omega),?_⟩;simp(disch:=try exact zD)[s0,j0,j2,yi,B,mkS,ya,oX,I,H];refine jK (vs:=[.ptr kX uX 0,.int .i64 M[i],.int .i64 a]) zS rfl (sv168 (L:=L++srcL g M i) (lo:=lo) (U.keep (λc l=>?_) (l.up zO) zL) l zL (by first|omega|(simp[sr];omega)) (by first|omega|(simp[sr];omega)) (by rw[au,G];omega) _ _) ?_;have:=l.ne;simp(disch:=try exact zD)[this];rintro v1 b5 a0 N ⟨r1,Q,X⟩;simp only at r1 Q X;have q1:s.nx<=N:=by first|omega|(simp at r1;omega)
 have z:Jt g (a:Int)=a:=by
  unfold Jt;obtain⟨k,l,_⟩:=jg5 j;have e:(yh g).getD i (0,0)=(a,b):=by simp[aC,aa j,hp]
  rw[e]at l;have:a=(k:Int):=l;rw[za zO]
 rw[bm,z,<- D,<- T]at Q;simp(disch:=try exact zD)[F,K,j];rw[O];refine⟨zS,Q.keep (λc _=>by simp) (l.up zO) zL,zL,λc u w=>?_⟩;have h3:=(u.up (show lo<=s.nx by omega)).ne;simp;rw[X c u w];simp(disch:=try exact zD)[h3];exact so c u w;have:i=(yh g).length:=zO;subst this;simp(disch:=try exact zD)[F,Z];exact jec (.inl rfl) (by simp[sd]) ⟨zL,U.keep (λc _=>by simp) (l.up zO) zL,λc u w=>by simpa using so c u w⟩
end
def j45 (g:Hist') (i k:Nat):List P2:=((g.ts.length:Int),(yl g).getD i 0)::((List.range k).filter λk=>yC g ((yl g).getD k 0).toNat==yC g ((yl g).getD i 0).toNat).map λk=>((yl g).getD k 0,(yl g).getD i 0)
def yD (g:Hist') (i:Nat):List P2:=(List.range i).flatMap (jzp g)
def jui (g:Hist') (i:Nat):yD g (i+1)=yD g i++j45 g i i:=by unfold yD;rw[du,ch];simp[jzp,j45]
def juj (g:Hist') (i k:Nat):j45 g i (k+1)=j45 g i k++if yC g ((yl g).getD k 0).toNat==yC g ((yl g).getD i 0).toNat then [((yl g).getD k 0,(yl g).getD i 0)] else []:=by unfold j45;rw[du,cg,bw,db];congr 2;cases h:yC g ((yl g).getD k 0).toNat==yC g ((yl g).getD i 0).toNat<;>simp only[cC,eC,h,zd,ak,zc,bi,ci]
def joz (g:Hist') (i:Nat):∀k,(j45 g i k).length<=k+1
 |0=>by simp[j45]
 |k+1=>by have:=joz g i k;rw[juj];split<;>simp<;>omega
def jd1 (g:Hist') (N:Nat):∀i,i<=N->(yD g i).length<=i*(N+1)
 |0,_=>by simp[yD]
 |i+1,h=>by have a:=jd1 g N i zO;have b:=joz g i i;rw[jui,au,cX];omega
section
variable {g:Hist'}{M:List Int}
def jun {lvl:Int}(c:WR g M=true) {l:List P2}(h:jyh g lvl M l):∀z∈l,∃a b:Nat,z=((a:Int),(b:Int))/\a<g.ts.length+1/\b<g.ts.length+1:=by
 intro z i;have:z∈Ja (g.ts.length+1) (jgc g lvl M):=by rw[<- jbn c h,compP_mem,(XP l).mem_iff];exact i
 obtain⟨a,b,d,f,_,e⟩:=edgesOf_mem.1 this;exact⟨a,b,e,d,f⟩
end
section
variable {g:Hist'}{M:List Int}{kX uX lo:Nat}{ob:ZO}{ub:Nat}{L:List P2}
def sesT (g:Hist') (i:Nat) (s:Int):List Int:=((yl g).take i).filter λa=>yC g a.toNat==s
def jka {i:Nat}(h:i<(yl g).length) (s:Int):sesT g (i+1) s=sesT g i s++if yC g (yl g)[i].toNat==s then [(yl g)[i]] else []:=by unfold sesT;rw[aw h,cg];congr 1;cases h:yC g (yl g)[i].toNat==s<;>simp only[cC,eC,h,zd,ak,zc]
def jzo (g:Hist') (i:Nat) (s:Int):(sesT g i s).length<=i:=by unfold sesT;have:=bR (λa:Int=>yC g a.toNat==s) ((yl g).take i);rw[ai]at this;omega
def jor (l:List Int) (p:Int->Bool):∀i,i<=l.length->((List.range i).filter λk=>p (l.getD k 0)).map (λk=>l.getD k 0)=(l.take i).filter p
 |0,_=>rfl
 |i+1,h=>by
  have e:l.getD i 0=l[i]:=by simp[aC,aa (show i<l.length by omega)]
  rw[du,cg,bw,jor l p i zO,aw zO,cg];congr 1;cases a:p l[i]<;>simp only[cC,eC,e,a,zd,ak,zc,bi,ci]
def j92 {i:Nat}(h:i<(yl g).length):jzp g i=((g.ts.length:Int),(yl g)[i])::(sesT g i (yC g (yl g)[i].toNat)).map λa=>(a,(yl g)[i]):=by
 have e:(yl g).getD i 0=(yl g)[i]:=by simp[aC,aa h]
 unfold jzp sesT;rw[e,<- jor (yl g) (λa=>yC g a.toNat==yC g (yl g)[i].toNat) i zO,dl];rfl
def osV (p:Nat×Nat):V:=.osl (2*p.1+1) p.1 0 p.2 1
structure SesM (g:Hist') (ob:ZO) (lo hi kM uM i:Nat) (m:List (Int×(Nat×Nat))):Prop where
 o:ob kM=some ⟨uM,.mp i (MP osV m)⟩
 z:∀s,(jm m s).map (·.2)=none->sesT g i s=[]
 s:∀s u n,(jm m s).map (·.2)=some (u,n)->n=(sesT g i s).length/\ob (2*u+1)=some ⟨u,.cells ((sesT g i s).flatMap ye)⟩/\lo<=u/\u<hi
 j:∀s s' u n n',(jm m s).map (·.2)=some (u,n)->(jm m s').map (·.2)=some (u,n')->s=s'
def SesM.frame {ob':ZO}{hi hi' a b i:Nat}{m:List (Int×(Nat×Nat))}(h:SesM g ob lo hi a b i m) (e:ob' a=ob a) (k:∀s u n,(jm m s).map (·.2)=some (u,n)->ob' (2*u+1)=ob (2*u+1)) (p:hi<=hi'):SesM g ob' lo hi' a b i m :=
 ⟨e.trans h.o,h.z,λs u n c=>by
  obtain⟨l,d,f,q⟩:=h.s s u n c;exact⟨l,(k s u n c).trans d,f,zO⟩,h.j⟩
def SesM.next {ob':ZO}{hi hi' t p i w:Nat}{m:List (Int×(Nat×Nat))}(h:SesM g ob lo hi t p i m) (f:i<(yl g).length) {a:Int}(v:a=yC g (yl g)[i].toNat) (D:ob' t=some ⟨p,.mp (i+1) (MP osV (W6 m a (w,(sesT g i a).length+1)))⟩)
 (q:∀s u n,s≠a->(jm m s).map (·.2)=some (u,n)->ob' (2*u+1)=ob (2*u+1)) (x:ob' (2*w+1)=some ⟨w,.cells ((sesT g i a++[(yl g)[i]]).flatMap ye)⟩) (N:hi<=w) (B:lo<=w) (F:w<hi') (K:hi<=hi'):SesM g ob' lo hi' t p (i+1) (W6 m a (w,(sesT g i a).length+1)):=by
 have d:∀s,s≠a->sesT g (i+1) s=sesT g i s:=λs q=>by rw[jka f,show(yC g (yl g)[i].toNat==s)=false by rw[<- v];simpa using dg q,za zQ,aU]
 have r:sesT g (i+1) a=sesT g i a++[(yl g)[i]]:=by rw[jka f,<- v,beq_self_eq_true,zb rfl]
 refine⟨D,λs l=>?_,λs u n c=>?_,λs o u n y c b=>?_⟩;rw[Ye]at l;by_cases e:s=a;rw[zb e]at l;cases l;rw[za e]at l;rw[d s e];exact h.z s l;rw[Ye]at c;by_cases e:s=a;rw[zb e]at c;cases c;subst e;rw[r];exact⟨zS,x,B,F⟩;rw[za e]at c;rw[d s e];obtain⟨G,I,H,J⟩:=h.s s u n c;exact⟨G,(q s u n e c).trans I,H,zO⟩;rw[Ye]at c b;by_cases e:s=a;by_cases k:o=a;rw[e,k];rw[zb e]at c;rw[za k]at b;cases c;have:=(h.s o _ _ b).2.2.2;omega;by_cases k:o=a;rw[za e]at c;rw[zb k]at b;cases b;have:=(h.s s _ _ c).2.2.2;omega;rw[za e]at c;rw[za k]at b;exact h.j s o u n y c b
end
def LsV (ob:ZO) (lo hi:Nat) (v:V) (T:List Int):Prop:=(v=.sl none true 0 []/\T=[])\/IntL ob lo hi v T
def LsV.len {ob:ZO}{lo hi:Nat}{v:V}{L:List Int}(h:LsV ob lo hi v L):Ww v=some (.int .i64 (L.length:Nat)):=by rcases h with⟨rfl,rfl⟩|⟨u,rfl,_⟩<;>rfl
def jfk {F:Env}{Yf:YF}{lo hi ub:Nat}{v:V}{T:List Int}{p:Int}{s x:A}{st:St}{K:St->Nat->Prop}{d:Option Nat}(b:yc F st.tm s=v) (l:LsV st.ob lo hi v T) (k:st.ro<=lo) (c:jE st.ob 1 (yc F st.tm x)=some (ye p)) (o:T.length<=1000000)
 (h:∀a:List Nat,(a=[]\/∃u,v=.osl (2*u+1) u 0 T.length 1/\lo<=u/\u<hi/\a=[2*u+1])->Q6 K st d ub { v:=.osl (2*ub+1) ub 0 (T.length+1) 1,obs:=[(2*ub+1,⟨ub,.cells ((T++[p]).flatMap ye)⟩)],kill:=a }):j5 F Yf ⟨d,.append true 1 8 s x,none,true⟩ st ub K:=by
 rcases l with⟨rfl,rfl⟩|⟨u,rfl,e,n,f⟩;refine Js b c (by simp[ye]) zQ rfl (by simp[ye]) (by simp[ye]) ?_;simpa[ye,jF] using h [] (.inl rfl);have j:=j3 jA T;refine XT (cs:=T.flatMap ye) b c e (by simp[ye]) zO zO zQ rfl (by simp[ye];omega) (by simp[ye];omega) ?_;have:=h [2*u+1] (.inr ⟨u,rfl,n,f,rfl⟩);rw[aM zO];simpa[ye,jF] using this
def lkV (m:List (Int×(Nat×Nat))) (s:Int):V:=match jm m s with
 |none=>.sl none true 0 []
 |some p=>osV p.2
section
variable {g:Hist'}{mv rv:V}{kX uX lo kM uM:Nat}{ob0 ob:ZO}{nx i:Nat}{Z:List P2}{m:List (Int × (Nat × Nat))}
def SesM.look {hi:Nat}(h:SesM g ob lo hi kM uM i m) (s:Int):YG ob .int (.sl none true 0 []) false (.map kM uM) (.int .i64 s)=some (lkV m s):=by rw[jhq (f:=osV) m (by simp[jS,h.o])];unfold lkV;cases jm m s<;>rfl
def SesM.ls {hi:Nat}(h:SesM g ob lo hi kM uM i m) (s:Int):LsV ob lo hi (lkV m s) (sesT g i s):=by
 unfold lkV;cases a:jm m s with
 |none=>exact .inl ⟨rfl,h.z s (by rw[a];rfl)⟩
 |some p=>obtain⟨j,u,n⟩:=p;obtain⟨d,b,e,c⟩:=h.s s u n (by rw[a];rfl);exact .inr ⟨u,by rw[<- d];rfl,b,e,c⟩
structure SesJ (g:Hist') (mv rv:V) (kX uX lo kM uM:Nat) (ob0 ob:ZO) (nx:Nat) (Z:List P2) (i:Nat) (m:List (Int×(Nat×Nat))):Prop where
 e:∃lv,ob kX=some ⟨uX,.cells (mkS g mv rv lv)⟩/\EdV ob lo nx lv Z/\j2q lv Z kM/\∀s u n,(jm m s).map (·.2)=some (u,n)->j2q lv Z (2*u+1)
 q:SesM g ob (uM+1) nx kM uM i m
 w:∀key,Off lo key->key≠kX->ob key=ob0 key
 h:lo<=uM/\uM<nx/\kM=2*uM+1
 x:Off lo kX
def SesJ.up {nx':Nat}(h:SesJ g mv rv kX uX lo kM uM ob0 ob nx Z i m) (a:nx<=nx'):SesJ g mv rv kX uX lo kM uM ob0 ob nx' Z i m:=by obtain⟨⟨f,b,j,c,d⟩,q,w,⟨e,l,k⟩,x⟩:=h;exact⟨⟨f,b,j.frame (λ_ _ _=>rfl) a,c,d⟩,q.frame rfl (λ_ _ _ _=>rfl) a,w,⟨e,zO,k⟩,x⟩
def SesJ.put {Yf:YF}{tk:Nat->Bool}{ro base:Nat}(h:SesJ g mv rv kX uX lo kM uM ob0 ob nx Z i m) (p:ro<=lo) (t:ro<=uX) (Q:Z.length<=100000) (a b:Int) :
 ∃r,EvS E Yf.y 168 [.ptr kX uX 0,.int .i64 a,.int .i64 b] ob tk ro base nx r/\nx<=r.2.2.2/\SesJ g mv rv kX uX lo kM uM ob0 r.2.1 r.2.2.2 (Z++[(Jt g a,Jt g b)]) i m:=by
 obtain⟨⟨lv,S,G,T,U⟩,q,w,⟨F,B,k⟩,x⟩:=h;obtain⟨r,L,I,⟨f,K,u,D,O,X,M⟩,z⟩:=jt7 (Yf:=Yf) (tk:=tk) (ro:=ro) (base:=base) S G x zO p t Q a b;have c:∀y,y<nx->j2q f (Z++[(Jt g a,Jt g b)]) (2*y+1):=λy d w H=>by
  rw[D]at H;have:u=w:=by injection H
  omega
 have o:kM≠kX:=λe=>x uM F (by rw[<- k,e]);have v:∀y,uM+1<=y->2*y+1≠kX:=λy d e=>x y zO e.symm;refine⟨r,L,I,⟨f,K,.inr ⟨u,D,O,zO,M⟩,by rw[k];exact c uM B,λs y n d=>c y (q.s s y n d).2.2.2⟩,q.frame (z kM (by rw[k];exact Off.new B) o T) (λs y n d=>?_) I,λj l J=>(z j (l.up zO) J (G.off l)).trans (w j l J),⟨F,zO,k⟩,x⟩;obtain⟨_,_,N,P⟩:=q.s s y n d;exact z _ (Off.new P) (v y N) (U s y n d)
def SesJ.next {ob':ZO}{nx' w:Nat}{kl:List Nat}{c:Int}(h:SesJ g mv rv kX uX lo kM uM ob0 ob nx Z i m) (H:i<(yl g).length) (h0:c=yC g (yl g)[i].toNat)
 (hM:ob' kM=some ⟨uM,.mp (i+1) (MP osV (W6 m c (w,(sesT g i c).length+1)))⟩) (hw:ob' (2*w+1)=some ⟨w,.cells ((sesT g i c++[(yl g)[i]]).flatMap ye)⟩) (z:kl=[]\/∃u,lkV m c=.osl (2*u+1) u 0 (sesT g i c).length 1/\uM+1<=u/\u<nx/\kl=[2*u+1])
 (r:∀a,Off nx a->a≠kM->kl.any (Nat.beq a)=false->ob' a=ob a) (L:nx<=w) (U:w<nx'):SesJ g mv rv kX uX lo kM uM ob0 ob' nx' Z (i+1) (W6 m c (w,(sesT g i c).length+1)):=by
 obtain⟨⟨J,e1,o,O,Q⟩,q,k0,⟨I,l2,F⟩,x⟩:=h;have G:kX≠kM:=λe=>x uM I (by rw[<- F,e]);have d:∀a,(∀u n,(jm m c).map (·.2)=some (u,n)->a≠2*u+1)->kl.any (Nat.beq a)=false:=λa B=>by
  rcases z with rfl|⟨u,b,_,_,rfl⟩;rfl;simp only[bG,bP,bx];refine Jq (B u (sesT g i c).length ?_);unfold lkV at b;cases M:jm m c with
  |none=>rw[M]at b;cases b
  |some p=>rw[M]at b;obtain⟨j,v,n⟩:=p;simp only[osV]at b;injection b with _ a2 _ a4 _;subst a2 a4;rfl
 have f:∀a,Off lo a->kl.any (Nat.beq a)=false:=λa B=>d a λu n b e=>B u (by have:=(q.s c u n b).2.2.1;omega) e;have K:EdV ob' lo nx' J Z:=by rcases o with o|⟨v,rfl,v2,X,N⟩;exact .inl o;refine .inr ⟨v,rfl,(r _ (Off.new N) (λe=>O v rfl e.symm) (d _ λu n b e=>Q c u n b v rfl e.symm)).trans v2,X,zO⟩
 have k:∀y,nx<=y->j2q J Z (2*y+1):=λy hy v P=>by
  rcases o with⟨rfl,_⟩|⟨T,rfl,_,_,N⟩;cases P;have:T=v:=by injection P
  omega
 refine⟨⟨J,(r _ (x.up zO) G (f _ x)).trans e1,K,O,λs u n b=>?_⟩,q.next H h0 hM (λs u n t b=>?_) hw L zO U zO,λa l k2=>(r a (l.up zO) (λe=>l uM I (by rw[<- F,e])) (f _ l)).trans (k0 a l k2),⟨I,zO,F⟩,x⟩;rw[Ye]at b;by_cases e:s=c;rw[zb e]at b;cases b;exact k _ L;rw[za e]at b;exact Q s u n b;obtain⟨_,_,q3,q4⟩:=q.s s u n b;refine r _ (Off.new q4) zO (d _ λu' S D e=>?_);have:u=u':=zO;subst this;exact t (q.j s c u n S b D)
end
def idxF (A:List Int) (x:Int):Option Nat:=(List.range A.length).find? λa=>decide (A.getD a 0=x)
def jsw {f:Nat->Bool}{n i:Nat}(hi:i<n) (h:f i=true) (b:∀j,j<i->f j=false):(List.range n).find? f=some i:=by rw[List.find?_range_eq_some];exact⟨h,by simpa using hi,λj a=>by simp[b j a]⟩
def jxk {f:Nat->Bool}{n:Nat}(a:∀j,j<n->f j=false):(List.range n).find? f=none:=by rw[List.find?_eq_none];intro j b;simp[a j (aX.1 b)]
section
variable {ob:ZO}{ub uA:Nat}{A:List Int}
def evo148 (z:ob (2*uA+1)=some ⟨uA,.cells (A.flatMap ye)⟩) (G:uA<ub) (F:A.length<=1000000) (x:Int) (tk:Nat->Bool) (base:Nat):EvO E 148 [.osl (2*uA+1) uA 0 A.length 1,.int .i64 x] ob tk base ub (.int .i64 (match idxF A x with|some a=>(a:Int)|none=>-1)):=by
 refine jo rfl ?_;conv in(occs:=*)S148=>all_goals cbv
 simp;refine j7 [(4,5),(8,18)] A.length (λi s=>s.tm 8=.int .i64 i/\s.ob=ob/\∀j,j<i->decide (A.getD j 0=x)=false) rfl rfl ⟨zS,zS,λj h=>by omega⟩ ?_;rintro i s H ⟨o,v,p⟩ f;have y:s.tm 0=.osl (2*uA+1) uA 0 A.length 1:=by rw[f.t 0 zS];simp
 have w:s.tm 1=.int .i64 x:=by rw[f.t 1 zS];simp
 have q:s.tm 7=.int .i64 A.length:=by rw[f.t 7 zS];simp
 have r:s.df=[]:=by rw[f.d];simp
 clear f;by_cases b:i<A.length;have k:=jc b zO;have g:=jnu (l:=2*uA+1) (u:=uA) (kk:=.i64) b;have m:=JL A b;have B:A.getD i 0=A[i]:=by simp[aC,aa b]
 cases c:(x==A[i]);simp(disch:=try exact zD)[o,q,w,y,b,g,j0,v,z,m,c,k];intro j D;rcases bz.1 D with h|rfl;simpa using p j h;simp only[zk,ne_eq]at c;have:¬A[j]=x:=λe=>c e.symm
 simpa[aa b] using this;simp(disch:=try exact zD)[o,q,w,y,b,g,j0,v,z,m,c,k];have n:idxF A x=some i:=jsw b (by rw[B];simp only[zh]at c;simp[c]) p;refine j4 (by simp[r]) ?_ rfl;rw[n];simp;have:i=A.length:=zO;subst this;have n:idxF A x=none:=jxk p;simp(disch:=try exact zD)[o,q];refine j4 (by simp[r]) ?_ rfl;rw[n];simp
end
def jh8 {n w:Nat}(d:n<=9) (a:w<2^n):ym w=(List.range n).filter λx=>w.testBit x:=by
 unfold ym;obtain⟨m,b⟩:∃m,9=n+m:=⟨9-n,zO⟩;rw[b,List.range_add,cg];have:((List.range m).map (n + ·)).filter (λx=>w.testBit x)=[]:=by rw[fH];intro x c;obtain⟨k,_,rfl⟩:=aI.1 c;rw[dH (aS a (cj zQ zO))];decide
 rw[this,aU]
def js8 (w:Nat):(ym w).Nodup:=List.nodup_range.filter _
def jj2 (n:Nat) (L:List P2):Option (List Nat):=jcm n (λ(a b:Nat)=>L.contains ((a:Int),(b:Int))) n []
def TopR (ob:ZO) (ub n:Nat) (L:List P2) (r:V×(ZO)×(Nat->Bool)×Nat):Prop :=
 ub<=r.2.2.2/\(∀key,Off ub key->r.2.1 key=ob key)/\match jj2 n L with
  |none=>r.1=.tup [.sl none true 0 [],.int .i64 3]
  |some D=>∃v,r.1=.tup [v,.int .i64 0]/\IntL r.2.1 ub r.2.2.2 v (yp D)
def j01 {Yf:YF}{st:St}{ub:Nat}{K:St->Nat->Prop}{d:Option Nat}{nm:Bool}{sz a n:Nat}{zero:List V}{x y:A}(b:yc E st.tm x=.int .i64 0) (f:yc E st.tm y=.int .i64 (n:Int)) (e:n*a<=140737488355328) (i:n<=140737488355328) (g:zero.length=sz) (c:0<sz)
 (h:Q6 K st d ub { v:=.osl (jF d nm st.fb ub) ub 0 0 sz,obs:=[(jF d nm st.fb ub,⟨ub,.cells []⟩)] }):j5 E Yf ⟨d,.mkSl true sz a zero x y,none,nm⟩ st ub K:=by
 rw[jR _ rfl rfl];simp only[yR,b,f];rw[zb (by refine⟨zO,zO,?_,zO,g,c⟩;rw[<- gz];exact ic.2 e),za zS,JZ,jJ];simpa[JY,jai] using h
section
variable {ob:ZO}{ub n:Nat}{L:List P2}{v:V}
def sv152 {Yf:YF}{tk:Nat->Bool}{ro base:Nat}(l3:ro<=ub) (O:0<n) (h9:n<=9) (hv:EdA ub ob v L) (hL:InG n L) (hl:L.length<=10000) :
 ∃r,EvS E Yf.y 152 [.int .i64 (n:Int),v] ob tk ro base ub r/\TopR ob ub n L r:=by
 obtain⟨p,hp⟩:∃p:Nat->Nat->Bool,p=λ(a b:Nat)=>L.contains ((a:Int),(b:Int)):=⟨_,rfl⟩
 have hr:=λa=>Yb hL a
 have hc:=λb=>jfz hL b
 have e6:(2:Nat)^n<=512:=cj zQ h9
 have b8:∀b,(ym (colW L b)).length=cntP n p [] b:=λb=>by
  rw[jh8 h9 (hc b).1]
  unfold cntP
  congr 1
  refine gg λx _=>?_
  rw[(hc b).2,hp]
  simp
 have Z:∀a b,b∈ym (rowW L a) ↔ b<n/\p a b=true:=λa b=>by
  rw[jh8 h9 (hr a).1,bA,aX,(hr a).2,hp]
 refine J7 rfl zQ ?_
 show wpC E Yf S152.body _ (Jd S152.res _)
 conv in(occs:=*)S152=>all_goals cbv
 simp(disch:=try exact zD)[S152]
 refine jK (vs:=[.int .i64 n,v]) zS rfl (j4l zP O h9 (hv.up (λc _=>by simp) ?_) hL hl) ?_
 ·first|omega|(simp;done)|(simp;omega)
 rintro v1 b5 k9 N ⟨S,ut,uf,ue,tu,fu,T,rfl,hG,l8,l5,hT,q1,a0⟩
 simp only at hG q1 a0
 have l2:ub<=N:=by first|omega|(simp at q1;omega)
 have hG:=hG.wide (lo':=ub) zL
 have a0:∀c,Off ub c->b5 c=ob c:=λc H=>by
  rw[a0 c (H.up zL)]
  simp
 simp
 refine ji8 (n:=n) zS zS zO zO rfl zQ ?_
 rw[jo7]
 simp
 refine jf λG g=>?_
 obtain⟨w,u1,u2,g8,gA⟩:∃u,N<=u/\u<G.nx/\G.tm 8=.osl (2*u+1) u 0 n 1/\G.ob (2*u+1)=some ⟨u,.cells ((List.replicate n (0:Int)).flatMap ye)⟩:=by
  refine⟨N+512,zO,by rw[g];first|omega|(simp;done)|(simp;omega),by rw[g];simp[aG],?_⟩
  rw[g]
  simp[aG,ye,List.flatMap_replicate]
 have g0:G.tm 0=.int .i64 n:=by rw[g];simp
 have g6:G.tm 6=.ptr (2*S+1) S 0:=by rw[g];simp
 have g7:G.tm 7=.int .i64 0:=by rw[g];simp
 have g2:G.tm 25=.int .i64 n:=by rw[g];simp
 have f5:G.tm 26=.int .i64 0:=by rw[g];simp
 have gd:G.df=[]:=by rw[g];simp
 have gr:G.ro=ro:=by rw[g];simp
 have go:∀c,Off N c->G.ob c=b5 c:=λc H=>by
  have:=H.ne
  rw[g]
  simp(disch:=try exact zD)[this]
 clear g
 -- how many are ahead of each
 obtain⟨J,hJ⟩:∃J:Nat->St->Prop,J=λi s=>s.tm 26=.int .i64 i/\w<s.nx/\(∃A:List Int,s.ob (2*w+1)=some ⟨w,.cells (A.flatMap ye)⟩/\A.length=n/\∀b,b<i->A.getD b 0=cntP n p [] b)/\∀c,Off N c->s.ob c=b5 c:=⟨_,rfl⟩
 refine j7 [(9,9),(26,36)] n J rfl rfl ?_ ?_
 ·rw[hJ]
  exact⟨by simpa using f5,u2,⟨_,gA,zS,λb h=>by omega⟩,go⟩
 clear f5 gA go u2
 intro i s hi e2 f
 rw[hJ]at e2
 obtain⟨b0,sn,⟨A,sA,M,c3⟩,so⟩:=e2
 have s0:=(f.t 0 zS).trans g0
 have s6:=(f.t 6 zS).trans g6
 have s7:=(f.t 7 zS).trans g7
 have s8:=(f.t 8 zS).trans g8
 have d3:=(f.t 25 zS).trans g2
 have sd:=f.d.trans gd
 have sr:=f.r.trans gr
 clear f
 by_cases U:i<n
 ·have c4:=jc U zO
  have c1:=jnu (l:=2*w+1) (u:=w) (kk:=.i64) U
  have I:=Qp jA ((cntP n p [] i:Nat):Int) A i zO
  rw[bE,show ye ((cntP n p [] i:Nat):Int)=[.int .i64 ((cntP n p [] i:Nat):Int)] from rfl]at I
  have c8:=j3 jA A
  generalize h8:A.flatMap ye=cs at sA I c8
  have k6:=b8 i
  have nA:∀m,s.nx<=m->¬w=m:=λm hm=>by omega
  simp(disch:=try exact zD)[b0,d3,s8,s6,U]
  refine jnj (vs:=[.ptr (2*S+1) S 0,.int .i64 i]) zS rfl rfl (evo180 (hG.keep (hi':=s.nx+448) (λx _ h=>?_) ?_) ?_ zO zO (aS (hc i).1 e6) _ _) λtt nl add=>?_
  ·simp
   exact so _ (Off.new h)
  ·first|omega|(simp;done)|(simp;omega)
  ·first|omega|(simp;done)|(simp;omega)
  rw[JV,k6]
  simp(disch:=try exact zD)[c1,j0,sA,I,V.cells,V.leaf]
  refine⟨zO,zO,?_⟩
  simp(disch:=try exact zD)[b0,c4,U]
  rw[hJ]
  refine⟨zS,zL,⟨A.set i ((cntP n p [] i:Nat):Int),zS,by simp[M],λb hb=>?_⟩,λc H=>?_⟩
  ·rw[jd7 A zO]
   by_cases e:b=i
   ·subst e;simp
   ·rw[za e]
    exact c3 b zO
  ·have:¬c=2*w+1:=H w u1
   simp[this]
   exact so c H
 have e:i=n:=zO
 subst e
 have e3:AhOk i p [] A:=⟨M,λb _ h=>(by cases h),λb hb _=>c3 b hb,λb x h=>(by cases h)⟩
 clear c3 M b8 U hi
 simp(disch:=try exact zD)[b0,d3,s0]
 refine j01 (n:=i) zS zS zO zO rfl zQ ?_
 simp(disch:=try exact zD)[s0]
 refine jf λG g=>?_
 have g0:G.tm 0=.int .i64 i:=by rw[g];simp[s0]
 have g6:G.tm 6=.ptr (2*S+1) S 0:=by rw[g];simp[s6]
 have g7:G.tm 7=.int .i64 0:=by rw[g];simp[s7]
 have g8:G.tm 8=.osl (2*w+1) w 0 i 1:=by rw[g];simp[s8]
 have g5:G.tm 39=.int .i64 i:=by rw[g];simp
 have e9:G.tm 40=.int .i64 0:=by rw[g];simp
 have gd:G.df=[]:=by rw[g];simp[sd]
 have gr:G.ro=ro:=by rw[g];simp[sr]
 have gn:s.nx<=G.nx:=by rw[g];first|omega|(simp;done)|(simp;omega)
 have gI:IntL G.ob s.nx G.nx (G.tm 10) (yp []):=by
  refine⟨s.nx+128,by rw[g];simp[aG,yp],by rw[g];simp[aG,yp],zO,?_⟩
  rw[g]
  first|omega|(simp;done)|(simp;omega)
 have go:∀c,Off s.nx c->G.ob c=s.ob c:=λc H=>by
  have:=H.ne
  rw[g]
  simp(disch:=try exact zD)[this]
 clear g
 have i7:∀c,Off N c->s.ob c=b5 c:=so
 have e1:Gr ub s.nx S (some ut) (some uf) ue tu fu (rowW L) (colW L) T s.ob:=hG.keep (λx _ h=>so _ (Off.new h)) zO
 have d8:∀c,Off ub c->c≠2*w+1->Off s.nx c:=λc H _=>H.up zO
 obtain⟨n0,e4⟩:∃n0,n0=s.nx:=⟨_,rfl⟩
 obtain⟨b6,b9⟩:∃o,o=s.ob:=⟨_,rfl⟩
 rw[<- e4]at gn gI go sn e1
 rw[<- b9]at go e1 sA so
 clear e4 b9 i7 d8 s0 s6 s7 s8 d3 b0 sd sr hJ
 have gA:G.ob (2*w+1)=some ⟨w,.cells (A.flatMap ye)⟩:=(go _ (Off.new sn)).trans sA
 have X:∀c,Off ub c->b6 c=ob c:=λc H=>(so c (H.up zO)).trans (by
  rw[a0 c (H.up zO)]
  simp)
 have c0:∀D',jj2 i L=D' ↔ jcm i p i []=D':=λD'=>by unfold jj2;rw[hp]
 obtain⟨J2,c6⟩:∃J2:Nat->St->Prop,J2=λk s=>s.tm 40=.int .i64 k/\(∃(D:List Nat) (A:List Int),D.length=k/\AhOk i p D A/\s.ob (2*w+1)=some ⟨w,.cells (A.flatMap ye)⟩/\IntL s.ob n0 s.nx (s.tm 10) (yp D)/\jcm i p (i-k) D=jcm i p i [])/\n0<=s.nx/\∀c,Off n0 c->c≠2*w+1->s.ob c=b6 c:=⟨_,rfl⟩
 refine j7 [(4,5),(10,13),(40,68)] i J2 rfl rfl (by rw[c6];exact⟨by simpa using e9,⟨[],A,rfl,e3,gA,gI,rfl⟩,gn,λc h _=>go c h⟩) ?_
 clear e9 gI gn go gA e3
 intro k q H f2 f
 rw[c6]at f2
 obtain⟨c9,⟨D,A,h6,hA,qA,qI,hT⟩,qn,qo⟩:=f2
 have q0:=(f.t 0 zS).trans g0
 have q6:=(f.t 6 zS).trans g6
 have q7:=(f.t 7 zS).trans g7
 have q8:=(f.t 8 zS).trans g8
 have d0:=(f.t 39 zS).trans g5
 have qd:=f.d.trans gd
 have qr:=f.r.trans gr
 clear f
 have m0:Gr ub q.nx S (some ut) (some uf) ue tu fu (rowW L) (colW L) T q.ob:=by
  have k8:∀x,x<N->x≠w:=λx hx e=>by omega
  exact(hG.keep (ob':=q.ob) (hi':=q.nx) (λx _ h=>(qo _ (Off.new zO) zO).trans (so _ (Off.new h))) zO)
 by_cases c7:k<i
 ·have c4:=jc c7 zO
  have M:=hA.l
  have g4:=hA.find
  have c1:idxF A 0=(List.range i).find? (ja6 i p D):=by rw[g4];unfold idxF;rw[M]
  have K:jcm i p (i-k) D=match (List.range i).find? (ja6 i p D) with
   |none=>none
   |some a=>jcm i p (i-(k+1)) (D++[a]):=by rw[show i-k=(i-(k+1))+1 by omega];rfl
  simp(disch:=try exact zD)[c9,d0,q8,c7]
  refine jP (vs:=[.osl (2*w+1) w 0 A.length 1,.int .i64 0]) (by simp[M]) rfl rfl (evo148 (by simpa using qA) zL zO 0 _ _) ?_
  rw[c1]
  cases hf:(List.range i).find? (ja6 i p D) with
  |none=>
   rw[hf]at K
   simp
   refine jca (by simp[qd]) ⟨zL,λc H=>?_,?_⟩
   ·have O:¬c=2*w+1:=H w zO
    simp
    rw[qo c (H.up zO) O,X c H]
   ·rw[show jj2 i L=none from(c0 none).2 (by rw[<- hT,K])]
    simp
  |some a=>
   rw[hf]at K
   have f6:=List.find?_some hf
   have ha:a<i:=aX.1 (gQ hf)
   have d9:¬(a:Int)<0:=zO
   have h7:=jnu (l:=2*w+1) (u:=w) (kk:=.i64) ha
   have I:=Qp jA (-1:Int) A a zO
   rw[bE,show ye (-1)=[.int .i64 (-1)] from rfl]at I
   have c8:=j3 jA A
   generalize h8:A.flatMap ye=cs at qA I c8
   have nA:∀m,q.nx<=m->¬w=m:=λm hm=>by omega
   simp(disch:=try exact zD)[d9,q8,h7,j0,qA,I]
   refine⟨zO,zO,?_⟩
   refine JB (cs:=[.int .i64 (a:Int)]) (by simp[j2]) rfl rfl ?_
   simp
   obtain⟨uo,o1,o2,o3,o4⟩:=qI
   have nO:∀m,q.nx<=m->¬uo=m:=λm hm=>by omega
   have k2:¬uo=w:=zO
   refine jfk (lo:=n0) (hi:=q.nx) (v:=q.tm 10) (T:=yp D) (p:=(a:Int)) zS (.inr ⟨uo,o1,?_,o3,o4⟩) ?_ (by simp[jE,j0,ye]) (by rw[JV];omega) λkl i9=>?_
   ·simp(disch:=try exact zD)[yi,nO,k2,o2]
   ·simp[qr];omega
   have e7:kl=[2*uo+1]\/kl=[]:=by
    rcases i9 with h|⟨u,hu,_,_,rfl⟩
    ·exact .inr h
    ·rw[o1]at hu
     have:uo=u:=by injection hu
     exact .inl (by rw[this])
   have c2:∀c,c≠2*uo+1->kl.any (Nat.beq c)=false:=λc H=>by
    rcases e7 with rfl|rfl
    ·simp only[bG,bP,bx]
     exact Jq H
    ·rfl
   have i8:=c2 (2*w+1) zO
   have k4:yp D++[(a:Int)]=yp (D++[a]):=by simp[yp]
   have l6:=Qv (rowW L a)
   have g9:∀x,x<N->kl.any (Nat.beq (2*x+1))=false:=λx hx=>c2 _ zO
   rw[k4]
   simp(disch:=try exact zD)[q6]
   refine jnj (vs:=[.ptr (2*S+1) S 0,.int .i64 a]) zS rfl rfl (j3p (hG.keep (λx _ h=>?_) ?_) zK zO (aS (hr a).1 e6) _ _) λtt nl add=>?_
   ·have O:∀m,q.nx<=m->¬x=m:=λm hm=>by omega
    have h2:¬x=w:=zO
    have h3:=g9 x h
    simp(disch:=try exact zD)[jG,yi,O,h2,h3]
    exact(qo _ (Off.new zO) zO).trans (so _ (Off.new h))
   ·first|omega|(simp;done)|(simp;omega)
   have f7:(yp (D++[a])).length=(yp D).length+1:=by simp[yp]
   generalize i2:yp (D++[a])=DD at *
   simp
   refine jf λp F=>?_
   have p0:p.tm 0=.int .i64 i:=by rw[F];simp[q0]
   have p6:p.tm 6=.ptr (2*S+1) S 0:=by rw[F];simp[q6]
   have p7:p.tm 7=.int .i64 0:=by rw[F];simp[q7]
   have p8:p.tm 8=.osl (2*w+1) w 0 i 1:=by rw[F];simp[q8]
   have l1:p.tm 39=.int .i64 i:=by rw[F];simp[d0]
   have f9:p.tm 40=.int .i64 k:=by rw[F];simp[c9]
   have i4:p.tm 55=.sl tt nl (ym (rowW L a)).length ((yp (ym (rowW L a))).flatMap ye):=by rw[F];simp[JV]
   have i5:p.tm 56=.int .i64 (ym (rowW L a)).length:=by rw[F];simp[JV]
   have d7:p.tm 57=.int .i64 0:=by rw[F];simp
   have pd:p.df=[]:=by rw[F];simp[qd]
   have pr:p.ro=ro:=by rw[F];simp[qr]
   have pn:q.nx<=p.nx:=by rw[F];first|omega|(simp;done)|(simp;omega)
   have k0:∀m,q.nx<=m->¬m=w:=λm hm=>by omega
   have pI:IntL p.ob n0 p.nx (p.tm 10) DD:=by
    refine⟨q.nx+832,by rw[F];simp[aG,f7],?_,zO,by rw[F];first|omega|(simp;done)|(simp;omega)⟩
    rw[F]
    simp(disch:=try exact zD)[jG,yi,aG,k0]
   have pA:p.ob (2*w+1)=some ⟨w,.cells ((A.set a (-1)).flatMap ye)⟩:=by
    rw[F]
    simp(disch:=try exact zD)[jG,yi,nA,i8]
   have po:∀c,Off n0 c->c≠2*w+1->p.ob c=b6 c:=λc O h2=>by
    have h3:=(O.up qn).ne
    have h4:=c2 c (O uo o3)
    rw[F]
    simp(disch:=try exact zD)[jG,h3,h4,h2]
    exact qo c O h2
   clear F
   have f4:∀b∈ym (rowW L a),b<i:=λb hb=>((Z a b).1 hb).1
   have f3:=js8 (rowW L a)
   have k5:=hA.next ha f6 (bs:=ym (rowW L a)) (Z a) f3
   have k3:=hA.rng
   generalize ym (rowW L a)=bs at *
   have g3:∀j b,-2<=(decL (A.set a (-1)) (bs.take j)).getD b 0/\(decL (A.set a (-1)) (bs.take j)).getD b 0<=100:=λj b=>by
    rw[jxx _ _ (f3.sublist (List.take_sublist _ _)) (λx hx=>by rw[dv,M];exact f4 x (dz hx)),jd7 A zO]
    have:=k3 b
    split<;>split<;>omega
   have i1:∀j,(decL (A.set a (-1)) (bs.take j)).length=i:=λj=>by rw[jqk,dv,M]
   obtain⟨J3,d1⟩:∃J3:Nat->St->Prop,J3=λj s=>s.tm 57=.int .i64 j/\s.ob (2*w+1)=some ⟨w,.cells ((decL (A.set a (-1)) (bs.take j)).flatMap ye)⟩/\IntL s.ob n0 s.nx (s.tm 10) DD/\q.nx<=s.nx/\∀c,Off n0 c->c≠2*w+1->s.ob c=b6 c:=⟨_,rfl⟩
   refine j7 [(13,13),(57,67)] bs.length J3 rfl rfl (by rw[d1];exact⟨by simpa using d7,by simpa[decL] using pA,pI,pn,po⟩) ?_
   clear d7 pA pI pn po
   intro j y hj f0 f
   rw[d1]at f0
   obtain⟨d2,yA,yI,yn,yo⟩:=f0
   have y8:=(f.t 8 zS).trans p8
   have l0:y.tm 10=p.tm 10:=f.t 10 zS
   have i0:=(f.t 40 zS).trans f9
   have g1:=(f.t 55 zS).trans i4
   have e5:=(f.t 56 zS).trans i5
   have yd:=f.d.trans pd
   have yr:=f.r.trans pr
   clear f
   by_cases Q:j<bs.length
   ·have e8:=jc Q zO
    have d5:j<(yp bs).length:=by rw[JV];exact Q
    have f1:=XA jA tt nl (yp bs) .i64 d5
    rw[JV]at f1
    have d6:=JL (yp bs) d5
    rw[jxd]at d6
    have f8:=f4 _ (av Q)
    have k1:bs.take (j+1)=bs.take j++[bs[j]]:=aw Q
    have c5:=jxw (A.set a (-1)) (bs.take j) bs[j]
    rw[<- k1]at c5
    have l9:=g3 j bs[j]
    have l4:=i1 j
    generalize decL (A.set a (-1)) (bs.take j)=B at *
    generalize bs[j]=b at *
    have i6:=jnu (l:=2*w+1) (u:=w) (kk:=.i64) f8
    have b7:=JL B (i:=b) zO
    have i3:B.getD b 0=B[b]' zO:=by simp[aC,aa (show b<B.length by omega)]
    rw[<- i3]at b7
    have h0:IntKind.i64.wrap (B.getD b 0-1)=B.getD b 0-1:=ji zO zO
    have P:=Qp jA (B.getD b 0-1) B b zO
    rw[bE,show ye (B.getD b 0-1)=[.int .i64 (B.getD b 0-1)] from rfl,<- c5]at P
    have e0:=j3 jA B
    generalize k7:B.flatMap ye=cs2 at yA P e0 b7
    generalize B.getD b 0=bv at *
    have d4:b<cs2.length:=zO
    have h5:cs2[b]=.int .i64 bv:=by rw[aa d4]at b7;exact bV b7
    have l7:∀m,y.nx<=m->¬w=m:=λm hm=>by omega
    simp(disch:=try exact zD)[d2,e5,g1,y8,Q,f1,d6,i6,j0,yA,d4,h5,h0,P]
    refine⟨zO,zO,?_⟩
    simp(disch:=try exact zD)[d2,e8,Q]
    rw[d1]
    obtain⟨z,z1,z2,z3,z4⟩:=yI
    refine⟨zS,by simp[c5],⟨z,by simpa using z1,?_,z3,zL⟩,zL,λc O h2=>?_⟩
    ·have:¬z=w:=zO
     simp(disch:=try exact zD)[yi,this,z2]
    ·simp[h2]
     exact yo c O h2
   ·have:j=bs.length:=zO
    subst this
    rw[bf]at yA
    simp(disch:=try exact zD)[d2,e5,i0,c4,c7]
    rw[c6]
    refine⟨zS,⟨D++[a],decL (A.set a (-1)) bs,by simp[h6],k5,by simpa using yA,?_,by rw[<- hT,K]⟩,zL,λc O h2=>by simpa using yo c O h2⟩
    rw[i2]
    obtain⟨z,z1,z2,z3,z4⟩:=yI
    refine⟨z,by simpa using z1,by simpa using z2,z3,zL⟩
 ·have:k=i:=zO
  subst this
  rw[fX]at hT
  simp(disch:=try exact zD)[c9,d0,q7]
  refine jca (by simp[qd]) ⟨zL,λc H=>?_,?_⟩
  ·have O:¬c=2*w+1:=H w zO
   simp
   rw[qo c (H.up zO) O,X c H]
  ·rw[show jj2 k L=some D from(c0 (some D)).2 (by rw[<- hT];rfl)]
   obtain⟨u,O,h2,h3,h4⟩:=qI
   exact⟨q.tm 10,zS,u,O,by simpa using h2,zO,zL⟩
end
section
variable {g:Hist'}{mv rv:V}{kX uX lo:Nat}{ob:ZO}{ub:Nat}
def sv115 {Yf:YF}(hs:Small g) (hw:jW g=true) (h8:g.ts.length<=8) {tk:Nat->Bool}{ro base:Nat}(hX:MkR g mv rv kX uX lo ob ub []) (Z:Off lo kX) (Q:lo<=ub) (g1:ro<=lo) (g4:ro<=uX) :
 ∃r,EvS E Yf.y 115 [.ptr kX uX 0] ob tk ro base ub r/\ub<=r.2.2.2/\MkR g mv rv kX uX lo r.2.1 r.2.2.2 (yD g (yl g).length)/\∀b,Off lo b->b≠kX->r.2.1 b=ob b:=by
 have g9:=Wt g;obtain⟨vc,e4,c2⟩:=ev70 hs;rw[jfy hw]at c2;obtain⟨e3,c5,b9⟩:=hX;have oX:=(Z.up Q).ne;refine J7 rfl zQ ?_;show wpC E Yf S115.body _ (Jd S115.res _);conv in(occs:=*)S115=>all_goals cbv
 simp(disch:=try exact zD)[S115,j0,c5,mkS,ya,oX];refine jQ e4 zI rfl zI ?_;refine YE c2 λM add=>?_;simp;refine jf λH x=>?_;obtain⟨B,u1,u2,g2,gM⟩:∃u,ub<=u/\u<H.nx/\H.tm 2=.map (2*u+1) u/\H.ob (2*u+1)=some ⟨u,.mp 0 []⟩:=by refine⟨ub,zK,?_,by rw[x];simp,by rw[x];simp⟩;rw[x];simp;omega
 have g0:H.tm 0=.ptr kX uX 0:=by rw[x];simp
 have f2:H.tm 13=.sl M (yl g).isEmpty (yl g).length ((yl g).flatMap ye):=by rw[x];simp
 have d5:H.tm 14=.int .i64 (yl g).length:=by rw[x];simp
 have b5:H.tm 15=.int .i64 0:=by rw[x];simp
 have gd:H.df=[]:=by rw[x];simp
 have gr:H.ro=ro:=by rw[x];simp
 have go:∀b,Off ub b->H.ob b=ob b:=λb Z=>by have:=Z.ne;rw[x];simp(disch:=try exact zD)[this]
 clear x;have gJ:SesJ g mv rv kX uX lo (2*B+1) B ob H.ob H.nx [] 0 []:=by
  refine⟨⟨e3,(go _ (Z.up Q)).trans c5,b9.frame (λu _ h=>go _ (Off.new h)) zO,?_,λs u n h=>by simp[jm]at h⟩,⟨gM,λs _=>by simp[sesT],λs u n h=>by simp[jm]at h,λs s' u n n' h=>by simp[jm]at h⟩,λb k1 _=>go b (k1.up Q),⟨zO,u2,rfl⟩,Z⟩;rcases b9 with⟨rfl,_⟩|⟨w,rfl,_,_,w4⟩;exact λu hu=>by cases hu
  exact λu hu=>by
   have:w=u:=by injection hu
   omega
 obtain⟨J,hJ⟩:∃J:Nat->St->Prop,J=λi s=>s.tm 15=.int .i64 i/\∃m,SesJ g mv rv kX uX lo (2*B+1) B ob s.ob s.nx (yD g i) i m:=⟨_,rfl⟩;refine j7 [(4,7),(15,52)] (yl g).length J rfl rfl (by rw[hJ];exact⟨by simpa using b5,[],gJ⟩) ?_;clear gJ b5 go gM;intro i s hi c0 f;rw[hJ]at c0;obtain⟨S,m,sJ⟩:=c0;have s0:=(f.t 0 zS).trans g0;have s2:=(f.t 2 zS).trans g2;have c1:=(f.t 13 zS).trans f2;have O:=(f.t 14 zS).trans d5;have sd:=f.d.trans gd;have sr:=f.r.trans gr;clear f;by_cases z:i<(yl g).length
 ·have d3:=jc z zO;have c9:=XA jA M (yl g).isEmpty (yl g) .i64 z;have b7:=JL (yl g) z;have e0:(yl g).getD i 0=(yl g)[i]:=by simp[aC,aa z]
  obtain⟨c,hc,_,b0⟩:=jx0 z;rw[e0]at hc;have f0:=jd1 g 8 i zO;have f5:(yD g i).length<=72:=bH f0 (by have:i*(8+1)<=8*9:=aW 9 zO;omega);have hE:=j92 z;have d8:yD g (i+1)=yD g i++jzp g i:=by unfold yD;rw[du,ch];simp
  have b8:yC g (yl g)[i].toNat=yC g c:=by rw[hc,bh]
  have x1:=j6 j9 g.tn g.ts .i64 b0;have x2:(g.ts.flatMap jt)[c*3]? = some (.int .i64 (yC g c)):=j44 b0;have f7:=jzo g i (yC g c);rw[b8]at hE;rw[hc]at b7;have d1:Jt g (-1)=g.ts.length:=rfl;have c8:Jt g (c:Int)=c:=by unfold Jt;rw[za zO]
  simp(disch:=try exact zD)[S,O,c1,s0,z,c9,b7];refine jK (vs:=[.ptr kX uX 0,.int .i64 (-1),.int .i64 (c:Int)]) zS rfl ((sJ.up zL).put (by first|omega|(simp[sr];done)|(simp[sr];omega)) (by first|omega|(simp[sr];done)|(simp[sr];omega)) zO _ _) ?_;rintro v1 d9 f6 g6 ⟨r1,X⟩;simp only at r1 X;rw[d1,c8]at X;obtain⟨g3,a0,_⟩:=id X.e;simp(disch:=try exact zD)[s0,j0,a0,mkS,ya,x1,x2,s2];have I:=X.q.look (yC g c);have F:=X.q.ls (yC g c);simp(disch:=try exact zD)[I,F.len];refine jf λp G=>?_;have p0:p.tm 0=.ptr kX uX 0:=by rw[G];simp[s0]
  have p2:p.tm 2=.map (2*B+1) B:=by rw[G];simp[s2]
  have p4:p.tm 4=.int .i64 c:=by rw[G];simp
  have p5:p.tm 5=.int .i64 (yC g c):=by rw[G];simp
  have f9:p.tm 13=.sl M (yl g).isEmpty (yl g).length ((yl g).flatMap ye):=by rw[G];simp[c1]
  have d7:p.tm 14=.int .i64 (yl g).length:=by rw[G];simp[O]
  have d0:p.tm 15=.int .i64 i:=by rw[G];simp[S]
  have f3:p.tm 33=lkV m (yC g c):=by rw[G];simp
  have d4:p.tm 34=.int .i64 (sesT g i (yC g c)).length:=by rw[G];simp
  have b6:p.tm 35=.int .i64 0:=by rw[G];simp
  have pd:p.df=[]:=by rw[G];simp[sd]
  have pr:p.ro=ro:=by rw[G];simp[sr]
  have pJ:SesJ g mv rv kX uX lo (2*B+1) B ob p.ob p.nx (yD g i++((g.ts.length:Int),(c:Int))::((sesT g i (yC g c)).take 0).map λa=>(a,(c:Int))) i m:=by
   have:=X.up (nx':=p.nx) (by rw[G];first|omega|(simp;done)|(simp;omega));have e:p.ob=d9:=by rw[G];simp
   rw[e];simpa using this
  clear G I F X a0;have e7:∀a∈sesT g i (yC g c),Jt g a=a:=λa ha=>by unfold sesT at ha;obtain⟨k,Z,_⟩:=comL_mem.1 (dz (bA.1 ha).1);unfold Jt;rw[za zO]
  rw[hc]at hE;generalize K:sesT g i (yC g c)=T at *;obtain⟨J2,N⟩:∃J2:Nat->St->Prop,J2=λj q=>q.tm 35=.int .i64 j/\SesJ g mv rv kX uX lo (2*B+1) B ob q.ob q.nx (yD g i++((g.ts.length:Int),(c:Int))::(T.take j).map λa=>(a,(c:Int))) i m:=⟨_,rfl⟩;refine j7 [(7,7),(35,43)] T.length J2 rfl rfl (by rw[N];exact⟨by simpa using b6,pJ⟩) ?_;clear b6 pJ;intro j q hj c7 f;rw[N]at c7;obtain⟨L,P⟩:=c7;have q0:=(f.t 0 zS).trans p0;have q2:=(f.t 2 zS).trans p2;have q4:=(f.t 4 zS).trans p4;have q5:=(f.t 5 zS).trans p5;have e5:=(f.t 15 zS).trans d0;have f8:=(f.t 14 zS).trans d7;have f4:=(f.t 33 zS).trans f3;have c3:=(f.t 34 zS).trans d4;have qd:=f.d.trans pd;have qr:=f.r.trans pr;clear f;have F:=P.q.ls (yC g c);rw[K]at F;by_cases D:j<T.length
  ·have c4:=jc D zO;rcases F with⟨_,rfl⟩|⟨u,hv,ho,_,_⟩;simp at D;have d6:=jnu (l:=2*u+1) (u:=u) (kk:=.i64) D;have c6:=JL T D;have e8:=e7 _ (av D);have f1:(T.take (j+1)).map (λa=>(a,(c:Int)))=(T.take j).map (λa=>(a,(c:Int)))++[(T[j],(c:Int))]:=by rw[aw D,bw];rfl
   simp(disch:=try exact zD)[L,c3,f4,q0,q4,D,hv,d6,j0,ho,c6];refine jK (vs:=[.ptr kX uX 0,.int .i64 T[j],.int .i64 (c:Int)]) zS rfl ((P.up zL).put (by first|omega|(simp[qr];done)|(simp[qr];omega)) (by first|omega|(simp[qr];done)|(simp[qr];omega)) zP _ _) ?_;rintro v2 d2 g7 e6 ⟨z1,z2⟩;simp only at z1 z2;rw[e8,c8,bm,db,<- f1]at z2;simp(disch:=try exact zD)[L,c4,D];rw[N];exact⟨zS,(by simpa using z2:SesJ g mv rv kX uX lo (2*B+1) B ob d2 e6 _ i m).up zL⟩
  have:j=T.length:=zO;subst this;rw[aM zK,<- hE,<- d8]at P;have I:=P.q.look (yC g c);simp(disch:=try exact zD)[L,c3,q2,q4,q5,I];refine JB (cs:=[.int .i64 (c:Int)]) (by simp[j2]) rfl rfl ?_;simp;have g5:=F;refine jfk (lo:=B+1) (hi:=q.nx) (v:=lkV m (yC g c)) (T:=T) (p:=(c:Int)) zS ?_ (by simp[qr];omega) (by simp[jE,j0,ye]) zO λkl U=>?_;rcases F with h|⟨u,hv,ho,h3,h4⟩
  exact .inl h;refine .inr ⟨u,hv,?_,h3,h4⟩;have:∀m,q.nx<=m->¬u=m:=λm hm=>by omega
  simp(disch:=try exact zD)[yi,this,ho];have hq:=P.q.o;obtain⟨l1,l2,l3⟩:=P.h;have nM:∀m,q.nx<=m->¬B=m:=λm hm=>by omega
  have e9:kl.any (Nat.beq (2*B+1))=false:=by rcases U with rfl|⟨u,_,h1,_,rfl⟩;rfl;simp only[bG,bP,bx];exact Jq zO
  have g8:∀m,q.nx<=m->kl.any (Nat.beq (2*m+1))=false:=λm hm=>by rcases U with rfl|⟨u,_,_,h2,rfl⟩;rfl;simp only[bG,bP,bx];exact Jq zO
  simp(disch:=try exact zD);refine jb2 (f:=osV) (a:=(q.nx+512,T.length+1)) (ver:=i) (l:=2*B+1) (u:=B) (k:=yC g c) m zS zS (by simp[osV,aG,V.strip]) (by simp(disch:=try exact zD)[jG,yi,nM,e9,hq]) (by simp[qr];omega) ?_;simp(disch:=try exact zD)[e5,d3,z];rw[hJ];rw[<- K];refine⟨zS,W6 m (yC g c) (q.nx+512,(sesT g i (yC g c)).length+1),P.next (kl:=kl) z b8.symm ?_ ?_ (by rw[K];exact U) (λb k1 k2 k3=>?_) zO zL⟩;simp;rw[K,hc];simp(disch:=try exact zD)[jG,yi,aG,dg (nM _ _)];have:=k1.ne;simp(disch:=try exact zD)[jG,this,k2,k3]
 have:i=(yl g).length:=zO;subst this;simp(disch:=try exact zD)[S,O];obtain⟨⟨lv,e1,e2,_⟩,_,w,h,_⟩:=sJ;exact jec (.inl rfl) (by simp[sd]) ⟨zL,⟨lv,by simpa using e1,e2.frame (λ_ _ _=>by simp) zL⟩,λb h1 h2=>by simpa using w b h1 h2⟩
end
end Go.Pv.T
