/- Part. -/
import Derived.Test.YtmanndcfeicokaaGreatDoorTAQ
set_option maxRecDepth 100000
set_option maxHeartbeats 8000000
set_option linter.all false
namespace Go.Pv.T
open Go Go.Pv
def j40:few3S=.seq (hdC few3S) few4S:=rfl
def few3O {h:Hist'}{Yf:YF}{ob0:ZO}{ub ro:Nat}{s0:St}{Q:Ex->St->Prop}{N1 H:Nat}{S0 K0:V}(c4:ro<=ub) (hs:FewO h ob0 ub ro s0 25 45 N1 H S0 K0 (.sl none true 0 []) [])
 (w:∀s F P,P.map (·.1)=(h.ts.take 45).map fewT->FewO h ob0 ub ro s 25 45 N1 H S0 K0 F P->wpC E Yf few4S s Q):wpC E Yf few3S s0 Q:=by
 rw[j40];obtain⟨r,f2,G,fd,fr,S,o2,J,gS,gK,gT,n0,n1,n2,ff⟩:=hs;simp only[few3S,few2S,few1S];conv in(occs:=*)S27=>all_goals cbv
 simp[hdC,tlC];refine j9 [(6,7),(67,98)] 45 (λi s=>s.tm 6=.int .i64 i/\i<=h.ts.length/\∃F P,P.map (·.1)=(h.ts.take i).map fewT/\FewO h ob0 ub ro s 25 45 N1 H S0 K0 F P) rfl rfl ?_ ?_;refine⟨zS,zS,.sl none true 0 [],[],zS,⟨by simp[r],by simp[f2],by simp[G],by simp[fd],by simp[fr],by simp[S],by simp[o2],by simp[J],gS.frame (λ_ _ _=>by simp) zK zK,gK.frame (λ_ _ _=>by simp) zK zK,⟨zS,.inl ⟨rfl,rfl⟩⟩,n0,n1,by simp;omega,λa e=>by simp[ff a e]⟩⟩;rintro i s hi ⟨h4,b9,F,P,hP,r,f2,G,fd,fr,S,o2,J,gS,gK,gT,n0,n1,n2,ff⟩ f;clear f;have q:¬(i<h.ts.length/\i<45)->∀m:St,(m.tm 1=s.tm 1/\m.tm 2=s.tm 2/\m.tm 3=s.tm 3)->m.df=s.df->m.ro=s.ro->m.ob=s.ob->s.nx<=m.nx->wpC E Yf few4S m Q:=by intro hx m ⟨q1,q2,q3⟩ n e3 x e5;refine w m F P (hP.trans (few_end b9 hi hx)) ⟨q1.trans r,q2.trans f2,q3.trans G,by rw[n];exact fd,by rw[e3];exact fr,by rw[x];exact S,by rw[x];exact o2,by rw[x];exact J,by rw[x];exact gS,by rw[x];exact gK,?_,n0,n1,zO,λa e=>by rw[x];exact ff a e⟩;exact gT.frame (λ_ _ _=>by rw[x]) e5
 have D:s.ob (2*ub+1)=some ⟨ub,.cells [yl h.sn Jp h.ss,yl h.kn Jp h.ks,yl h.tn jl h.ts]⟩:=S;by_cases o:i<h.ts.length;by_cases O:i<45;have hw:=jb O zO;have j:(i:Int)<45:=zO;obtain⟨t,ht⟩:∃t,h.ts[i]=t:=⟨_,rfl⟩;have B:=jkw t.ops.length 25;rw[show((25:Nat):Int)=25 from rfl]at B;have U:=j2e jH t.nl t.ops 25 .i64;have b7:min t.ops.length 25=(t.ops.take 25).length:=by rw[ai,Nat.min_comm]
 rw[b7]at U B;generalize hL:t.ops.take 25=L at *;have c7:L.length<=25:=by rw[<- hL,ai];omega
 have a0:(L.flatMap yQ).all V.leaf=true:=by rw[fS,av];intro _ _;rfl
 obtain⟨z,hz⟩:∃z,s.nx=z:=⟨_,rfl⟩;simp[h4,r,D,j0,o,j,j7 jA,jd jA,ht,jl,fr,j6,hz];refine⟨zO,?_⟩;refine JL (cs:=[]) rfl rfl rfl ?_;simp[j0];obtain⟨d,hB⟩:∃y,(z+64+64+64+64+64+64+64+64+64+64+64+64+64+64+64+64)=y:=⟨_,rfl⟩;obtain⟨b,hA⟩:∃y,(z+64+64+64+64+64+64+64+64+64+64+64+64+64+64)=y:=⟨_,rfl⟩;have c8:d=b+128:=zO;have c9:z+896=b:=zO;rw[hB,hA];have w1:¬2*b=2*d:=zO;have w2:¬2*d=2*b:=zO;simp[j0,w1,B,U];refine j34 (f:=yQ) (l:=L) (z:=d) zS zS (by simp[fr];omega) (by simp[yl,jF,j4 jH]) jH zQ a0 zO zO ?_;intro s1 u hu c0 cf K cd cr cb ck;have c6:d<=u:=zO;have c1:u<=d+512:=zO;have cA:s1.ob (2*b+1)=some ⟨b,.cells [.int .i64 t.s,.int .i64 t.f,yl t.nl yQ t.ops]⟩:=by rw[cf _ zO zO];simp[w1]
 have cO:∀a,a≠2*b+1->a≠2*d+1->a≠2*(d+512)+1->s1.ob a=s.ob a:=by intro a k1 k2 k3;rw[cf _ k2 zO];simp[k1,k2]
 have v1:¬2*b=2*(ub+192):=zO;have v2:¬2*(ub+192)=2*b:=zO;have c3:s1.ob (2*(ub+192)+1)=some ⟨ub+192,.cells [S0,K0,F]⟩:=(cO _ zO zO zO).trans J;have b5:ro<=b:=zO;simp[K,j0,cA,cr,fr,j6,G,c3,v2,b5];obtain⟨p,hp⟩:∃p,(fewT t,u)=p:=⟨_,rfl⟩;have X:txU p=[.int .i64 t.s,.int .i64 t.f,.osl (2*u+1) u 0 L.length 4]:=by rw[<- hp];simp[txU,fewT,<- hL]
 refine JL (cs:=txU p) (by rw[X];simp[j6]) rfl (by rw[X];rfl) ?_;simp;obtain⟨N,hE⟩:∃y,(d+64+64+64+64+64+64+64+64+64+64+64+64+64+64)=y:=⟨_,rfl⟩;have c5:d+896=N:=zO;rw[hE];have c2:P.length=i:=by have:=zg List.length hP;rw[bm,bm,ai]at this;omega
 have v:p.2=u:=by rw[<- hp]
 have M:p.1=fewT t:=by rw[<- hp]
 have b0:p.1.ops=L:=by rw[M];exact hL
 rw[hz]at gT n2;have g:∀y,y<z->s1.ob (2*y+1)=s.ob (2*y+1):=λy y2=>cO _ zO zO zO;refine jpy (lo:=H) (hi:=z) (P:=P) (p:=p) ?_ zO (by simp[cr,fr];omega) (by simp[jF,j0];rfl) ?_ n2 zO ?_;simp;refine gT.frame (λy y1 y2=>?_) zK;have c:¬2*y=2*N:=zO;have n:¬2*y=2*b:=zO;simp[c,n];exact g y y2;refine⟨by rw[M];rfl,by rw[v];omega,by rw[v];omega,L.flatMap yQ,?_,?_,?_⟩;rw[v];have c:¬2*u=2*N:=zO;have n:¬2*u=2*b:=zO;simp[c,n];exact c0;rw[b0,j4 jH];exact dx _;rw[b0,<- j4 jH,bk];intro s4 v4 T x4 xt xd xr xb xk;obtain⟨I,b8⟩:=T.leaf;have Z:∀y,(y<H)->s4.ob (2*y+1)=s.ob (2*y+1):=by intro y hy;rw[x4 _ (λy y1 y2=>by omega) zO];have c:¬2*y=2*N:=zO;have n:¬2*y=2*b:=zO;simp[c,n];exact g y zO
 have x3:=(Z (ub+192) zO).trans J;have b6:(P++[p]).map (·.1)=(h.ts.take (i+1)).map fewT:=by rw[bA,hP,ay o,bA,ht,<- hp];rfl
 simp[xt,K,G,j0,x3,xr,cr,fr,j6,I,b8,h4,hw];have b1:¬2*ub=2*(ub+192):=zO;have b2:¬2*(ub+64)=2*(ub+192):=zO;refine⟨zO,O,zO,v4,P++[p],by rw[b6,fI],⟨by simp[xt,K,r],by simp[xt,K,f2],by simp[xt,K,G],by simp[xd,cd,fd],by simp[xr,cr,fr],by simp[b1];exact(Z ub zO).trans S,by simp[b2];exact(Z (ub+64) zO).trans o2,zS,
  gS.frame (λy h1 h2=>?_) zK zK,gK.frame (λy h1 h2=>?_) zK zK,T.frame (λy h1 h2=>?_) (by simp<;>omega),n0,n1,by simp<;>omega,λa e=>?_⟩⟩
 have c:¬2*y=2*(ub+192):=zO;simp[c];exact Z y zO;have c:¬2*y=2*(ub+192):=zO;simp[c];exact Z y zO;have c:¬2*y=2*(ub+192):=zO;simp[c];have c:=e (ub+192) zO;have n:=e N zO;have e3:=e b zO;simp[c];rw[x4 _ (λy y1 y2=>e y zO) (e _ zO)];simp[n,e3];exact(cO a e3 (e d zO) (e (d+512) zO)).trans (ff a e);have j:¬(i:Int)<45:=zO;simp[h4,r,D,j0,o,j];exact q zO _ ⟨zS,zS,zS⟩ zS zS (by funext k;simp) zP;simp[h4,r,D,j0,o];exact q zO _ ⟨zS,zS,zS⟩ zS zS (by funext k;simp) zP
def FewP (h:Hist') (ob:ZO) (ub:Nat) (r:V×(ZO)×(Nat->Bool)×Nat):Prop :=
 ∃Sv Kv Tv P N1 N2,r.1=.agg [Sv,Kv,Tv]/\StO r.2.1 (ub+256) N1 (Wz 25 h.ss) Sv/\StO r.2.1 N1 N2 (Wz 45 h.ks) Kv/\TsO r.2.1 N2 r.2.2.2 P Tv/\P.map (·.1)=(h.ts.take 45).map fewT/\ub+256<=N1/\N1<=N2/\N2<=r.2.2.2 /\
  ∀key,(∀m,ub<=m->key≠2*m+1)->r.2.1 key=ob key
def sv27 {Yf:YF}{h:Hist'}{ob:ZO}{tk:Nat->Bool}{ro base ub:Nat}(a:ro<=ub):∃r,EvS E Yf.y 27 [.agg (ya h)] ob tk ro base ub r/\FewP h ob ub r:=by
 refine JI rfl zQ ?_;show wpC E Yf S27.body _ (Jw S27.res _);refine few0S a λN d=>?_;refine few1O a d λL m c=>?_;refine few2O a c λO p z=>?_;refine few3O a z λH k P D t=>?_;obtain⟨K,o,F,q,fr,M,v,x,i,j,n,w,G,T,u⟩:=t;obtain⟨lS,I⟩:=i.leaf;obtain⟨B,J⟩:=j.leaf;obtain⟨s,S⟩:=n.leaf;have b1:¬2*(ub+192)=2*(ub+64):=zO;have g:S27.res=[.cell 2 (some 3)]:=rfl;rw[g];generalize e:Jw [.cell 2 (some 3)] (FewP h ob ub)=Q;simp only[few4S,few3S,few2S,few1S];conv in(occs:=*)S27=>all_goals cbv
 simp[tlC,o,F,v,x,j0,fr,j6,lS,B,s];refine⟨zO,?_⟩;rw[<- e];refine⟨(.agg [m,p,k],_,_,_),by simp[endS,q,jv,o,j0];exact⟨rfl,rfl,rfl⟩,m,p,k,P,_,_,rfl,i.frame (λy d c=>?_) zK zK,j.frame (λy d c=>?_) zK zK,n.frame (λy d c=>?_) ?_,D,w,G,?_,λf l=>?_⟩;have b:¬2*y=2*(ub+64):=zO;simp[b];have b:¬2*y=2*(ub+64):=zO;simp[b];have b:¬2*y=2*(ub+64):=zO;simp[b];simp;omega;simp;omega;have b:=l (ub+64) zO;simp[b];exact u f l
def jlq (t:Txn'):Txn':={ t with ops:=t.ops.take 6 }
def yC (h:Hist'):Hist':=if 8<(fewH h).ts.length then { fewH h with tn:=true,ts:=[] } else { fewH h with ts:=(fewH h).ts.map jlq }
def mixT (P:List (Txn'×Nat)) (i:Nat):List (Txn'×Nat):=P.mapIdx λj p=>if j<i then (jlq p.1,p.2) else p
def QJ {P:List (Txn'×Nat)}{i:Nat}:(mixT P i).length=P.length:=by simp[mixT]
def jyv {P:List (Txn'×Nat)}:mixT P 0=P:=by apply dC;intro n;simp[mixT]
def j3k {P:List (Txn'×Nat)}:(mixT P P.length).map (·.1)=(P.map (·.1)).map jlq:=by
 apply dC;intro n;simp only[mixT,aV,List.getElem?_mapIdx];cases h:P[n]? with
 |none=>rfl
 |some o=>have:=(aj.1 h).1;simp[this]
def jpo {P:List (Txn'×Nat)}{i:Nat}(h:i<P.length):(mixT P i)[i]'(by rw[QJ];exact h)=P[i]:=by simp[mixT]
def jm5 {P:List (Txn'×Nat)}{i:Nat}(_:i<P.length):mixT P (i+1)=(mixT P i).modify i λp=>(jlq p.1,p.2):=by
 apply dC;intro n;simp only[mixT,List.getElem?_mapIdx,List.getElem?_modify];cases c:P[n]? with
 |none=>simp
 |some o=>simp only[aU,Option.map_eq_map];by_cases b:i=n;subst b;simp;simp only[za b];by_cases a:n<i;rw[zb a,zb zO];rw[za zO,za a]
def jwn:∀{P:List (Txn'×Nat)}{i:Nat}(h:i<P.length),j6 (P.flatMap txU) (i*3+2) [.osl (2*(P[i]).2+1) (P[i]).2 0 (jlq (P[i]).1).ops.length 4]=(P.modify i λp=>(jlq p.1,p.2)).flatMap txU
 |[],_,h=>by simp at h
 |p::P,0,_=>by simp[fP,j6,txU,jlq]
 |p::P,i+1,h=>by
  have a:=jwn (P:=P) (i:=i) (zU h);simp only[fP,Nat.add_one_ne_zero,zc,fq,aZ,eM];rw[<- a];have:(i+1)*3+2=(txU p).length+(i*3+2):=by simp;omega
  rw[this];simp only[j6,aI];rw[fm,fo];simp only[bj]
def InO.six {ob:ZO}{lo hi:Nat}{p:Txn'×Nat}(h:InO ob lo hi p):InO ob lo hi (jlq p.1,p.2):=by
 obtain⟨X,a,c,b⟩:=h.ob;refine⟨h.nl,h.lo,h.hi,X,a,?_,?_⟩;simp only[jlq,ai];omega;have e:X.take ((jlq p.1).ops.length*4)=(X.take (p.1.ops.length*4)).take ((jlq p.1).ops.length*4):=by rw[iq];congr 1;simp only[jlq,ai];omega
 rw[e,b,j15];congr 1;simp only[jlq,ai];rcases iA p.1.ops.length 6 with h'|h';rw[fK h',bk,aJ h'];rw[cC h']
def j2g {L u n i:Nat}(h:i<=n):Y5 4 none (some (.int .i64 (i:Int))) (.osl L u 0 n 4)=some (.osl L u 0 i 4):=by simp[Y5,Js,h]
def TsO.len {ob:ZO}{lo hi:Nat}{P:List (Txn'×Nat)}{v:V}(h:TsO ob lo hi P v):QV v=some (.int .i64 P.length):=by rcases h.2 with⟨rfl,rfl⟩|⟨_,u,_,_,_,rfl,_⟩<;>rfl
def ev9 (h:Hist'):∃v,Ev E 9 [.agg (ya h)] v/\jv2 v (yC h):=by
 refine X6 rfl zQ ?_;generalize b0:(Ws [.cell 2 (some 3)] λr=>jv2 r (yC h))=PP;conv in(occs:=*)F9=>all_goals cbv
 simp[ya,j0,b0];refine jP (vs:=[.agg (ya h)]) zI rfl (sv27 (h:=h) (ch _)) ?_;rintro v b8 d0 B ⟨Sv,Kv,Tv,P,X,M,hv,D,F,T,hP,n0,n1,n2,ff⟩;simp only at hv D F T hP n0 n1 n2 ff;subst hv;obtain⟨lS,cS⟩:=D.leaf;obtain⟨lK,cK⟩:=F.leaf;obtain⟨lT,cT⟩:=T.leaf;have c1:=T.len;have b1:b8 1=some ⟨0,.cells (ya h)⟩:=by rw[ff 1 (λm hm=>by omega)];simp[ya]
 have b2:b8 129=some ⟨64,.cells [.sl none true 0 [],.sl none true 0 [],.sl none true 0 []]⟩:=by rw[ff 129 (λm hm=>by omega)];simp
 have e1:(yC h).ss=Wz 25 h.ss:=by unfold yC;split<;>rfl
 have e2:(yC h).sn=(Wz 25 h.ss).isEmpty:=by unfold yC;split<;>rfl
 have e3:(yC h).ks=Wz 45 h.ks:=by unfold yC;split<;>rfl
 have e4:(yC h).kn=(Wz 45 h.ks).isEmpty:=by unfold yC;split<;>rfl
 have G:(fewH h).ts.length=P.length:=by show((h.ts.take 45).map fewT).length=P.length;rw[<- hP,bm]
 simp[b1,j0,ya,j6];generalize hK:juz E YU _ PP=K;have H:∀(s:St) (c:List (Txn'×Nat)) (o:V),c.length<=8->(yC h).ts=(c.map (·.1)).map jlq->(yC h).tn=c.isEmpty->s.tm 1=.ptr 1 0 0->s.tm 2=.ptr 129 64 0->s.df=[]->s.ro=0->s.fb=0->B<=s.nx ->
  s.ob 1=some ⟨0,.cells [Sv,Kv,o]⟩->s.ob 129=some ⟨64,.cells [.sl none true 0 [],.sl none true 0 [],.sl none true 0 []]⟩->StO s.ob (192+256) X (Wz 25 h.ss) Sv->StO s.ob X M (Wz 45 h.ks) Kv->TsO s.ob M B c o->K .nrm s:=by
  intro s c o d1 b6 c0 g1 g2 gd gr gb gn p1 p2 D F T
  rw[<- hK,jk2]
  clear hK
  have c3:=T.leaf
  simp
  refine j9 [(3,3),(11,37)] c.length (λi s=>s.tm 3=.int .i64 i/\s.ob 1=some ⟨0,.cells [Sv,Kv,o]⟩/\s.ob 129=some ⟨64,.cells [.sl none true 0 [],.sl none true 0 [],.sl none true 0 []]⟩/\StO s.ob (192+256) X (Wz 25 h.ss) Sv/\StO s.ob X M (Wz 45 h.ks) Kv/\TsO s.ob M B (mixT c i) o) rfl rfl
   ⟨zS,by simp[p1],by simp[p2],D.frame (λ_ _ _=>by simp) zK zK,F.frame (λ_ _ _=>by simp) zK zK,by rw[jyv];exact T.frame (λ_ _ _=>by simp) zK⟩ ?_
  clear D F
  rintro i Z hi ⟨h3,o1,o2,D,F,gX⟩ f
  have f1:Z.tm 1=.ptr 1 0 0:=by rw[f.t 1 zS];simp[g1]
  have f2:Z.tm 2=.ptr 129 64 0:=by rw[f.t 2 zS];simp[g2]
  have fd:Z.df=[]:=by rw[f.d];simp[gd]
  have fb:Z.fb=0:=by rw[f.b];simp[gb]
  have fr:Z.ro=0:=by rw[f.r];simp[gr]
  clear f
  have Q:=gX.len
  rw[QJ]at Q
  by_cases j:i<c.length
  ·have hw:=jb j zO;have p:i<(mixT c i).length:=by rw[QJ];exact j
   rcases gX.2 with⟨he,_⟩|⟨c9,u,h1,h2,h4,rfl,h5⟩;rw[he]at p;simp at p;have d2:=gX.1 (c[i]) (by rw[<- jpo j];exact au p);have b7:ju 3 (.osl (2*u+1) u 0 (mixT c i).length 3) (.int .i64 (i:Int))=some (.ptr (2*u+1) u (i*3)):=by simp[ju,p]
   have S:((mixT c i).flatMap txU)[i*3+2]? = some (.osl (2*(c[i]).2+1) (c[i]).2 0 (c[i]).1.ops.length 4):=by rw[jZ Q8 _ p (by decide:2<3),jpo j];rfl
   have k:=jwn (P:=mixT c i) (i:=i) p;rw[<- jm5 j]at k;simp only[jpo j]at k;have b9:=jkw (c[i]).1.ops.length 6;rw[show((6:Nat):Int)=6 from rfl]at b9;have c6:=λL u=>j2g (L:=L) (u:=u) (n:=(c[i]).1.ops.length) (i:=min (c[i]).1.ops.length 6) (eS _ _);have c2:(jlq (c[i]).1).ops.length=min (c[i]).1.ops.length 6:=by simp only[jlq,ai,Nat.min_comm]
   rw[c2]at k;have c4:¬2*u=0:=zO;have c5:¬2*u=128:=zO;have b5:i*3+2+1<=((mixT c i).flatMap txU).length:=by rw[j4 Q8];omega
   simp[h3,f1,o1,j0,Q,j,b7,h5,S,b9,c6,fr,c4,c5,k];have I:∀q∈mixT c (i+1),InO Z.ob M B q/\q.2≠u:=by intro q I;rw[jm5 j]at I;rcases ji7 I with I|⟨x,hx,rfl⟩;exact⟨gX.1 q I,h4 q I⟩;have a0:=aH hx;exact⟨(gX.1 x a0).six,h4 x a0⟩
   have O:(mixT c (i+1)).length=(mixT c i).length:=by rw[QJ,QJ]
   refine⟨by have:=b5;simp only[List.length_flatMap,Q8]at this;exact this,hw,o2,D.frame (λy y1 y2=>?_) zK zK,F.frame (λy y1 y2=>?_) zK zK,λq N=>?_,.inr ⟨?_,u,h1,h2,λq N=>(I q N).2,by rw[O],zS⟩⟩;have w:¬2*y=2*u:=zO;simp[w];have w:¬2*y=2*u:=zO;simp[w];obtain⟨a,b⟩:=I q N;have w:¬2*q.2=2*u:=zO;exact a.frame (by simp[w]) zK;intro e;rw[e]at O;simp at O;omega
  ·have:i=c.length:=zO;subst this;simp[h3,f1,o1,j0,Q,f2,o2,j6,fr,D.leaf.1,F.leaf.1,c3.1];rw[<- b0];have c7:(mixT c c.length).isEmpty=(yC h).tn:=by rw[c0];exact jgx QJ
   refine kE1 (g:=yC h) (l:=129) (u:=64) (x:=Sv) (y:=Kv) (z:=o) (by simp[fd]) (by simp[f2]) zS ?_ ?_ ?_;rw[e1,e2];refine StO.out (lo:=192+256) (hi:=X) (D.frame (λy J q2=>?_) zK zK) (by simp[fr]);have w:¬2*y=128:=zO;simp[w];rw[e3,e4];refine StO.out (lo:=X) (hi:=M) (F.frame (λy J q2=>?_) zK zK) (by simp[fr]);have w:¬2*y=128:=zO;simp[w];have c8:(yC h).ts.length=(mixT c c.length).length:=by rw[b6,QJ];simp
   rw[c8,<- c7,b6,<- j3k];refine TsO.out (lo:=M) (hi:=B) (gX.frame (λy J q2=>?_) zK) (by simp[fr]);have w:¬2*y=128:=zO;simp[w]
 refine⟨⟨lS,lK,lT⟩,?_⟩;simp[c1];have J:∀y,192<=y->¬2*y=0:=λy hy=>by omega
 by_cases h8:8<P.length;have U:(8:Int)<(P.length:Int):=zO;simp[U,j0,j6];exact H _ [] (.sl none true 0 []) zS (by unfold yC;rw[zb (by rw[G];exact h8)];rfl) (by unfold yC;rw[zb (by rw[G];exact h8)];rfl) zS zS zS zS zS (by simp<;>omega) zS (by simp[b2])
  (D.frame (λy y1 y2=>by simp[J y zO]) zK zK) (F.frame (λy y1 y2=>by simp[J y zO]) zK zK) ⟨zS,.inl ⟨rfl,rfl⟩⟩
 have U:¬(8:Int)<(P.length:Int):=zO;simp[U];exact H _ P Tv zO (by unfold yC;rw[za (by rw[G];exact h8),hP];rfl) (by unfold yC;rw[za (by rw[G];exact h8)];show((h.ts.take 45).map fewT).isEmpty=_;rw[<- hP];exact jgx zS) zS zS zS zS zS (by simp<;>omega) zS (by simp[b2])
  (D.frame (λy y1 y2=>by simp[J y zO]) zK zK) (F.frame (λy y1 y2=>by simp[J y zO]) zK zK) (T.frame (λy y1 y2=>by simp[J y zO]) zK)
def small8 (h:Hist'):Small (yC h):=by have a:=jw4 h;unfold yC;split;exact⟨a.ss,a.sl,a.ks,a.kl,zS,zS⟩;refine⟨a.ss,a.sl,a.ks,a.kl,zU a.ts,λt c=>?_⟩;simp only[aE]at c;obtain⟨d,b,rfl⟩:=c;have:=a.os d b;simp only[jlq,ai];omega
end Go.Pv.T
namespace Go.Pv.T
open Go Go.Pv
end Go.Pv.T
namespace Go.Pv.T
open Go Go.Pv
def f20:Small H20:=⟨zQ,zQ,zQ,zQ,zQ,zQ⟩
def j0g (h:Hist'):(yC h).ts.length<=8:=by unfold yC;split;simp;rename_i a;simp only[bm];omega
def ev38t (b:Bool) (l:List Int) (d:l.length<=1000000000):Ev E 38 [yl b yf l] (.sl (some (0,1)) false l.length (l.flatMap yf)):=by
 refine jQ rfl ?_;conv in(occs:=*)F38=>all_goals cbv
 simp;refine jN (cs:=[]) rfl rfl rfl ?_;simp;cases l with
 |nil=>rw[jR _ rfl rfl];simp[yS,yl,jF,WV];exact jaf (u:=64) zS zS (by simp[jf])
 |cons a l=>
  refine XQ (u:=64) (nl:=false) (n:=0) (cs:=[]) (ys:=(a::l).flatMap yf) zS (by simp[jf]) (by simp[jl6 j8]) (by simp[yf]) zS zQ (by simp[yf,V.pureLeaf]) (by rw[j4 j8];omega) (by rw[j4 j8];omega) ?_;have c:((a::l).flatMap yf).length/1=(a::l).length:=by rw[j4 j8];simp
  rw[c,bK,dq];simp;exact jaf (u:=192) zS zS (by simp[jf])
section
variable {E:Env}{st:St}{ub:Nat}{K:List FP->St->Prop}{d:Option Nat}{nm:Bool}{r:List AOpr}
def jz1 {p:Type}{f:p->List V}{sz c u n:Nat}{cs:List V}{l:List p}{s x:A}(q:ye E st.tm s=.sl (some (u,sz)) false n cs) (w:st.tk u=true) (t:jF st.ob sz (ye E st.tm x)=some (l.flatMap f)) (g:cs.length=n*sz) (o:∀a,(f a).length=sz) (j:0<sz)
 (hp:(l.flatMap f).all V.pureLeaf=true) (y:(n+l.length)*c<=140737488355328) (k:n+l.length<=140737488355328)
 (h:∀b:Bool,YW E r K (ye E st.tm) (.append false sz c s x) st d ub { v:=.sl (some (if b then u else ub,sz)) false (n+l.length) (cs++l.flatMap f),del:=if b then none else some u,add:=if b then [] else [ub] }):jG E (⟨d,.append false sz c s x,none,nm⟩::r) st ub K:=by
 cases l with
 |nil=>refine j9w q t g ?_;have:=h true;simpa using this
 |cons a l=>
  have m:((a::l).flatMap f).length/sz=(a::l).length:=by rw[j4 o];exact eE _ j
  have i:(a::l).flatMap f≠[]:=λe=>by have:=zg List.length e;rw[j4 o]at this;have:=Nat.mul_pos (show 0<(a::l).length by simp) j;simp_all
  refine jz0 q w t i g j hp (by rw[m];exact y) (by rw[m];exact k) ?_;rw[m];exact h false
def Ju {a b:Nat}(h:a≠b):Nat.beq a b=false:=by cases c:Nat.beq a b;rfl;exact zf (bo c) h
def j6f {f:FuncId}{xs:List A}{args:List V}{n:Nat}{cs:List V}(a:Ev E f args (.sl (some (0,1)) false n cs)) (c:(xs.map λx=>(ye E st.tm x).strip)=args) (b:E.sh nm f=false) (hp:args.all V.pureTop=true)
 (h:∀u,u=ub->YW E r K (ye E st.tm) (.call f xs) st d ub { v:=.sl (some (u,1)) false n cs,add:=[u] }):jG E (⟨d,.call f xs,none,nm⟩::r) st ub K:=by
 refine Jb a c b hp ?_;rw[jrd];rw[jJ];exact h ub rfl
end
section
end
def Jl (g:Hist') (x:Int):Int:=if x<0 then g.ts.length else x
def jv5 (g:Hist') (i:Nat):List P2:=((g.ts.length:Int),(ym g).getD i 0)::((List.range i).filter λk=>yD g ((ym g).getD k 0).toNat==yD g ((ym g).getD i 0).toNat).map λk=>((ym g).getD k 0,(ym g).getD i 0)
def jov (g:Hist') (M:List Int) (i:Nat):P2:=(Jl g (M.getD i 0),((yi g).getD i (0,0)).1)
def askE (g:Hist') (M:List Int) (seen:List Int) (i:Nat):List P2:=(seen.filter λt=>X9 g t (We g ((yi g).getD i (0,0)))&&(t != M.getD i 0)).map λt=>(t,Jl g (M.getD i 0))
def WH (g:Hist') (lvl:Int) (M:List Int) (i:Nat):List Int:=WZ g lvl M [] ((yi g).getD i (0,0))
def Qd (g:Hist') (lvl:Int) (M:List Int) (a b:Nat):Bool :=
 (a==g.ts.length&&J8 g b)||((J8 g a&&J8 g b&&decide (a<b)&&(yD g a==yD g b)) ||
  (List.range (yi g).length).any λi=>jov g M i==((a:Int),(b:Int))||(askE g M (WH g lvl M i) i).contains ((a:Int),(b:Int)))
def jv1 (g:Hist') (lvl:Int) (M:List Int) (l:List P2):Prop:=∀z,z∈l ↔ (∃i,i<(ym g).length/\z∈jv5 g i)\/∃i,i<(yi g).length/\(z=jov g M i\/z∈askE g M (WH g lvl M i) i)
section
variable {g:Hist'}{lvl:Int}{M:List Int}
def js2 {i:Nat}(h:i<(ym g).length):∃k:Nat,(ym g).getD i 0=k/\J8 g k=true/\k<g.ts.length:=by
 have e:(ym g).getD i 0=(ym g)[i]:=by simp[am,aa h]
 obtain⟨k,b,a⟩:=comL_mem.1 (au h);exact⟨k,by rw[e,b],a,JZ a⟩
def j6x {i k:Nat}(hi:i<(ym g).length) (b:k<i):(ym g).getD k 0<(ym g).getD i 0:=by
 have a:=jhd g;have c:(ym g).getD i 0=(ym g)[i]:=by simp[am,aa hi]
 have d:(ym g).getD k 0=(ym g)[k]' zO:=by simp[am,aa (show k<(ym g).length by omega)]
 rw[c,d];exact cB.1 a k i zO hi b
def jej {i:Nat}(h:i<(yi g).length):∃k:Nat,((yi g).getD i (0,0)).1=k/\J8 g k=true/\k<g.ts.length:=by
 have e:(yi g).getD i (0,0)=(yi g)[i]:=by simp[am,aa h]
 obtain⟨k,b,a⟩:=comL_mem.1 (jkj (au h));exact⟨k,by rw[e,b],a,JZ a⟩
def jr8 (a:Xl g M=true) {i:Nat}(h:i<(yi g).length):M.getD i 0<0\/∃k:Nat,M.getD i 0=k/\J8 g k=true/\k<g.ts.length:=by
 have b:i<M.length:=by rw[XE a];exact h
 have e:M.getD i 0=M[i]:=by simp[am,aa b]
 rcases jkx a (au b) with h1|h1;exact .inl (by rw[e,h1];decide);obtain⟨k,d,c⟩:=comL_mem.1 h1;exact .inr ⟨k,by rw[e,d],c,JZ c⟩
def jw9 {i:Nat}{t:Int}(h:t∈WH g lvl M i):∃k:Nat,t=k/\k<g.ts.length:=by unfold WH WZ at h;obtain⟨k,a,e,_⟩:=filTo_mem.1 h;exact⟨k,e,a⟩
def Qo (O:Xl g M=true) {l:List P2}(h:jv1 g lvl M l):jba (ja7 l)=J0 (g.ts.length+1) (Qd g lvl M):=by
 refine j0t λz=>?_;rw[h];constructor;rintro(⟨i,f,d⟩|⟨i,f,d⟩);obtain⟨b,u,r,G⟩:=js2 f;unfold jv5 at d;rw[u]at d;rcases bt.1 d with rfl|d
 exact⟨g.ts.length,b,zO,zO,by simp[Qd,r],rfl⟩;obtain⟨k,o,rfl⟩:=aE.1 d;obtain⟨B,m⟩:=bu.1 o;have n:=aM.1 B;obtain⟨a,p,D,s⟩:=js2 (show k<(ym g).length by omega);have q:=j6x f n;rw[p]at m ⊢;rw[p,u]at q;refine⟨a,b,zO,zO,?_,rfl⟩;simp only[aX]at m;simp[Qd,D,r,m,iC.1 q];have w:∀a b:Nat,z=((a:Int),(b:Int))->Qd g lvl M a b=true:=λa b e=>by unfold Qd;rw[bq,bq];refine .inr (.inr (bD.2 ⟨i,aM.2 f,?_⟩));rw[bq];rcases d with d|d;exact .inl (by rw[<- d,e];simp);exact .inr (by rw[e]at d;simpa using d)
 obtain⟨b,u,_,G⟩:=jej f;have N:∃a:Nat,Jl g (M.getD i 0)=a/\a<g.ts.length+1:=by unfold Jl;rcases jr8 O f with h|⟨k,o,_,H⟩;exact⟨g.ts.length,by rw[zb h],zO⟩;exact⟨k,by rw[za zO,o],zO⟩
 obtain⟨a,p,s⟩:=N;rcases d with d|d;have e:z=((a:Int),(b:Int)):=by rw[d,jov,p,u]
 exact⟨a,b,s,zO,w a b e,e⟩;unfold askE at d;obtain⟨t,I,e⟩:=aE.1 d;obtain⟨c,P,J⟩:=jw9 (bu.1 I).1;have e:z=((c:Int),(a:Int)):=by rw[<- e,P,p]
 exact⟨c,a,zO,zO,w c a e,e⟩;rintro⟨a,b,p,u,j,rfl⟩;unfold Qd at j;rw[bq,bq]at j;rcases j with j|j|j;rw[ab]at j;obtain⟨v,F⟩:=j;have v:a=g.ts.length:=by simpa using v
 obtain⟨i,f,e⟩:=ba (comL_mem.2 ⟨b,rfl,F⟩);refine .inl ⟨i,f,?_⟩;unfold jv5;rw[show(ym g).getD i 0=(b:Int) by simp[am,aa f,e],v];exact aK ..;simp only[ab,ze]at j;obtain⟨⟨⟨v,F⟩,Q⟩,K⟩:=j;obtain⟨i,f,e⟩:=ba (comL_mem.2 ⟨b,rfl,F⟩);obtain⟨k,o,L⟩:=ba (comL_mem.2 ⟨a,rfl,v⟩);have y:(ym g).getD i 0=(b:Int):=by simp[am,aa f,e]
 have x:(ym g).getD k 0=(a:Int):=by simp[am,aa o,L]
 have n:k<i:=by rcases dQ k i with h|h|h;exact h;subst h;rw[y]at x;omega;have:=j6x o h;rw[y,x]at this;omega
 refine .inl ⟨i,f,?_⟩;unfold jv5;refine aS _ (aE.2 ⟨k,bu.2 ⟨aM.2 n,?_⟩,by rw[y,x]⟩);rw[y,x,aX,aX];exact K;obtain⟨i,f,h⟩:=bD.1 j;refine .inr ⟨i,aM.1 f,?_⟩;rw[bq]at h;rcases h with h|h;exact .inl (by simpa using(beq_iff_eq.1 h).symm);exact .inr (by simpa using h)
end
def yR (p:P2):List V:=[.int .i64 p.1,.int .i64 p.2]
def QP (p:P2):(yR p).length=2:=rfl
def ed_leaf (L:List P2):(L.flatMap yR).all V.pureLeaf=true:=by rw[fS,av];intro _ _;rfl
def EdV (ob:ZO) (lo hi:Nat) (v:V) (L:List P2):Prop :=
 (v=.sl none true 0 []/\L=[])\/∃u,v=.osl (2*u+1) u 0 L.length 2/\ob (2*u+1)=some ⟨u,.cells (L.flatMap yR)⟩/\lo<=u/\u<hi
def EdV.frame {ob ob':ZO}{lo hi hi':Nat}{v:V}{L:List P2}(h:EdV ob lo hi v L) (b:∀u,lo<=u->u<hi->ob' (2*u+1)=ob (2*u+1)) (f:hi<=hi'):EdV ob' lo hi' v L:=by rcases h with h|⟨u,e,c,a,d⟩;exact .inl h;exact .inr ⟨u,e,(b u a d).trans c,a,zO⟩
def EdV.len {ob:ZO}{lo hi:Nat}{v:V}{L:List P2}(h:EdV ob lo hi v L):QV v=some (.int .i64 (L.length:Nat)):=by rcases h with⟨rfl,rfl⟩|⟨u,rfl,_⟩<;>rfl
def jpz {F:Env}{Yf:YF}{lo hi ub:Nat}{v:V}{L:List P2}{p:P2}{s x:A}{st:St}{K:St->Nat->Prop}{d:Option Nat}(c:ye F st.tm s=v) (j:EdV st.ob lo hi v L) (i:st.ro<=lo) (e:jF st.ob 2 (ye F st.tm x)=some (yR p)) (l:L.length<=1000000)
 (h:∀a:List Nat,(a=[]\/∃u,lo<=u/\u<hi/\a=[2*u+1]/\st.ob (2*u+1)=some ⟨u,.cells (L.flatMap yR)⟩)->QW K st d ub { v:=.osl (2*ub+1) ub 0 (L.length+1) 2,obs:=[(2*ub+1,⟨ub,.cells ((L++[p]).flatMap yR)⟩)],kill:=a }):jB F Yf ⟨d,.append true 2 16 s x,none,true⟩ st ub K:=by
 rcases j with⟨rfl,rfl⟩|⟨u,rfl,b,k,f⟩;refine X8 c e (by simp[yR]) zQ rfl (by simp[yR]) (by simp[yR]) ?_;simpa[yR,jI] using h [] (.inl rfl);have g:=j4 QP L;refine Xm (cs:=L.flatMap yR) c e b (by simp[yR]) zO zO zQ rfl (by simp[yR];omega) (by simp[yR];omega) ?_;have:=h [2*u+1] (.inr ⟨u,k,f,rfl,b⟩);rw[aJ zO];simpa[yR,jI] using this
section
end
end Go.Pv.T
namespace Go.Pv.T
open Go Go.Pv
end Go.Pv.T
namespace Go.Pv.T
open Go Go.Pv
def IntL (ob:ZO) (lo hi:Nat) (v:V) (L:List Int):Prop:=∃u,v=.osl (2*u+1) u 0 L.length 1/\ob (2*u+1)=some ⟨u,.cells (L.flatMap yf)⟩/\lo<=u/\u<hi
def EdL (ob:ZO) (lo hi:Nat) (v:V) (L:List P2):Prop:=∃u,v=.osl (2*u+1) u 0 L.length 2/\ob (2*u+1)=some ⟨u,.cells (L.flatMap yR)⟩/\lo<=u/\u<hi
section
end
section
end
def jnt (g:Hist') (lvl:Int) (M:List Int):Int:=if !jX g then 4 else if lvl<1\/2<lvl\/Xl g M=false then 2 else 0
section
end
def jp1 {st:St}{ub lo hi:Nat}{K:List FP->St->Prop}{d:Option Nat}{r:List AOpr}{v:V}{L:List P2}{p:P2}{s x:A}(f:ye E st.tm s=v) (m:EdV st.ob lo hi v L) (l:st.ro<=lo) (i:jF st.ob 2 (ye E st.tm x)=some (yR p)) (q:L.length<=1000000)
 (h:∀e:List Nat,(e=[]\/∃u,lo<=u/\u<hi/\e=[2*u+1])->YW E r K (ye E st.tm) (.append true 2 16 s x) st d ub { v:=.osl (2*ub+1) ub 0 (L.length+1) 2,obs:=[(2*ub+1,⟨ub,.cells ((L++[p]).flatMap yR)⟩)],kill:=e }):jG E (⟨d,.append true 2 16 s x,none,true⟩::r) st ub K:=by
 rw[jz rfl];have a:yR p≠[]:=by simp[yR]
 have b:(yR p).all V.leaf=true:=rfl;have k:=j4 QP L;rcases m with⟨rfl,rfl⟩|⟨u,rfl,n,o,j⟩;simp only[yS,f,i,ap,za a,di,zd,Jm,Yz];rw[zb ⟨zQ,b,by simp[yR],by simp[yR]⟩];simp only[Jo,jJ];have:=h [] (.inl rfl);simpa[yR] using this;have c:j0 st.ob (2*u+1) u=some (L.flatMap yR):=by simp[j0,n]
 simp only[yS,f,i,c,ap,za a,Jm,Yz];rw[zb ⟨bY▸zO,trivial,trivial,zO,zQ,b,by simp[yR];omega,by simp[yR];omega⟩,jJ];have:=h [2*u+1] (.inr ⟨u,o,j,rfl⟩);rw[show(L.flatMap yR).take (L.length*2)=L.flatMap yR from aJ zO];simpa[yR,cn] using this
def mkS (g:Hist') (mv rv lv:V):List V:=ya g++[mv,rv,lv]
def MkR (g:Hist') (mv rv:V) (kX uX lo:Nat) (ob:ZO) (ub:Nat) (L:List P2):Prop:=∃lv,ob kX=some ⟨uX,.cells (mkS g mv rv lv)⟩/\EdV ob lo ub lv L
def MkR.keep {g:Hist'}{mv rv:V}{kX uX lo ub b:Nat}{ob ob':ZO}{L:List P2}(h:MkR g mv rv kX uX lo ob ub L) (c:∀a,Off ub a->ob' a=ob a) (f:Off ub kX) (e:ub<=b):MkR g mv rv kX uX lo ob' b L:=by obtain⟨j,i,d⟩:=h;exact⟨j,(c _ f).trans i,d.frame (λu _ h=>c _ (Off.new h)) e⟩
section
variable {g:Hist'}{mv rv:V}{kX uX lo:Nat}{ob:ZO}{ub:Nat}{L:List P2}
def j6q (a:∃b,ob kX=some ⟨uX,.cells (mkS g mv rv b)⟩) (x:Int) (tk:Nat->Bool) (base ub:Nat):EvO E 220 [.ptr kX uX 0,.int .i64 x] ob tk base ub (.int .i64 (Jl g x)):=by
 obtain⟨b,a⟩:=a;refine J1 rfl ?_;unfold Jl;by_cases h:x<0
 ·conv in(occs:=*)S220=>all_goals cbv
  simp[j0,a,mkS,ya,h];exact j5 rfl zS rfl
 ·conv in(occs:=*)S220=>all_goals cbv
  simp[h];exact j5 rfl zS rfl
def EdV.at {ob:ZO}{lo hi:Nat}{v:V}{L:List P2}(h:EdV ob lo hi v L):∃b a,lo<=b/\(a<=hi\/a=lo)/\EdV ob b a v L/\∀u,b<=u->u<a->v=.osl (2*u+1) u 0 L.length 2:=by rcases h with⟨a,c⟩|⟨u,a,c,e,f⟩;exact⟨lo,lo,zK,.inr rfl,.inl ⟨a,c⟩,λu h d=>by omega⟩;exact⟨u,u+1,e,.inl zO,.inr ⟨u,a,c,zK,cY _⟩,λw h d=>by rw[a,show w=u by omega]⟩
def j5s (v:V) (L:List P2) (key:Nat):Prop:=∀u,v=.osl (2*u+1) u 0 L.length 2->key≠2*u+1
def EdV.off {ob:ZO}{lo hi:Nat}{v:V}{L:List P2}(h:EdV ob lo hi v L) {key:Nat}(b:Off lo key):j5s v L key:=by
 intro u a;rcases h with⟨rfl,_⟩|⟨w,rfl,_,c,_⟩;cases a;have:w=u:=by injection a
 exact b u zO
def jwu {Yf:YF}{tk:Nat->Bool}{ro base:Nat}{lv:V}(d:ob kX=some ⟨uX,.cells (mkS g mv rv lv)⟩) (B:EdV ob lo ub lv L) (k:Off lo kX) (x:lo<=ub) (D:ro<=lo) (z:ro<=uX) (N:L.length<=100000) (a b:Int) :
 ∃r,EvS E Yf.y 168 [.ptr kX uX 0,.int .i64 a,.int .i64 b] ob tk ro base ub r/\ub<=r.2.2.2/\(∃h,r.2.1 kX=some ⟨uX,.cells (mkS g mv rv h)⟩/\EdL r.2.1 ub r.2.2.2 h (L++[(Jl g a,Jl g b)]))/\∀c,Off ub c->c≠kX->j5s lv L c->r.2.1 c=ob c:=by
 have n:=(k.up x).ne;obtain⟨I,f,O,M,H,J⟩:=B.at;refine JI rfl zQ ?_;show wpC E Yf S168.body _ (Jw S168.res _);conv in(occs:=*)S168=>all_goals cbv
 simp(disch:=try exact zD)[S168,j0,d,mkS,ya];refine jcw (vs:=[.ptr kX uX 0,.int .i64 a]) zS rfl rfl (j6q (g:=g) (mv:=mv) (rv:=rv) ⟨lv,by simpa using d⟩ _ _ _ _) (JT rfl) ?_;simp;refine jcw (vs:=[.ptr kX uX 0,.int .i64 b]) zS rfl rfl (j6q (g:=g) (mv:=mv) (rv:=rv) ⟨lv,by simpa using d⟩ _ _ _ _) (JT rfl) ?_;simp[j6];refine YB (cs:=[.int .i64 (Jl g a),.int .i64 (Jl g b)]) (by simp[j6]) rfl rfl ?_;simp;refine jp1 (lo:=I) (hi:=f) (v:=lv) (L:=L) (p:=(Jl g a,Jl g b)) zS (H.frame (λu f j=>?_) zK) zP (by simp[jF,j0,yR]) zO λK q=>?_;have t:∀m,ub<=m->¬u=m:=λm l=>by omega
 simp(disch:=try exact zD)[yj,t];have i:∀c,j5s lv L c->K.any (Nat.beq c)=false:=λc k=>by rcases q with rfl|⟨u,f,j,rfl⟩;rfl;simp only[bJ,ce,bI];exact XJ (k u (J u f j))
 have o:=i _ (B.off k);generalize w:List.flatMap yR (L++[(Jl g a,Jl g b)])=cs9;simp(disch:=try exact zD)[j0,d,mkS,ya,o,jK,n,j6];have G:∀m,ub<=m->Nat.beq kX (2*m+1)=false:=λm l=>Ju (n m l);have s:∀m,ub<=m->Nat.beq (2*m+1) kX=false:=λm l=>Ju (dA (n m l));refine⟨z,by simp(disch:=try exact zD)[Jc,W6,QR,Qe,yy,yz,yP,uOf,Delta.wo,Delta.wt,G,s],?_⟩;refine jfe (.inl rfl) zS ⟨zL,⟨.osl (2*(ub+832)+1) (ub+832) 0 (L.length+1) 2,by simp[mkS,ya,aI],ub+832,zS,?_,zO,zL⟩,λc f j F=>?_⟩;simp(disch:=try exact zD)[jK,yj,aI,w];exact λe=>zf e.symm (n _ zO);have t:=f.ne;simp(disch:=try exact zD)[jK,j,t,i c F]
def sv168 {Yf:YF}{tk:Nat->Bool}{ro base:Nat}(p:MkR g mv rv kX uX lo ob ub L) (q:Off lo kX) (d:lo<=ub) (h:ro<=lo) (i:ro<=uX) (m:L.length<=100000) (a b:Int) :
 ∃r,EvS E Yf.y 168 [.ptr kX uX 0,.int .i64 a,.int .i64 b] ob tk ro base ub r/\ub<=r.2.2.2/\MkR g mv rv kX uX lo r.2.1 r.2.2.2 (L++[(Jl g a,Jl g b)])/\∀c,Off lo c->c≠kX->r.2.1 c=ob c:=by
 obtain⟨B,e,j⟩:=p;obtain⟨r,v,n,⟨f,o,u,t,x,z,w⟩,l⟩:=jwu (Yf:=Yf) (tk:=tk) (ro:=ro) (base:=base) e j q d h i m a b;exact⟨r,v,n,⟨f,o,.inr ⟨u,t,x,zO,w⟩⟩,λc k s=>l c (k.up d) s (j.off k)⟩
end
def ptC (u:Nat):List V:=[.ptr (2*u+1) u 0]
def jkl (u:Nat):(ptC u).length=1:=rfl
def slU (o:Option Nat) (n sz:Nat):V:=match o with
 |none=>.sl none true 0 []
 |some u=>.osl (2*u+1) u 0 n sz
structure Gr (lo hi uG:Nat) (ut uf ue:Option Nat) (tu fu:List Nat) (WT WF:Nat->Nat) (T:List P2) (ob:ZO):Prop where
 o:ob (2*uG+1)=some ⟨uG,.cells [slU ut tu.length 1,slU uf fu.length 1,slU ue T.length 2,.bool true]⟩
 t:∀u,ut=some u->ob (2*u+1)=some ⟨u,.cells (tu.flatMap ptC)⟩
 f:∀u,uf=some u->ob (2*u+1)=some ⟨u,.cells (fu.flatMap ptC)⟩
 e:∀u,ue=some u->ob (2*u+1)=some ⟨u,.cells (T.flatMap yR)⟩
 z:(ut=none->tu=[])/\(uf=none->fu=[])/\(ue=none->T=[])
 st:∀i (h:i<tu.length),ob (2*tu[i]+1)=some ⟨tu[i],.cells (yu (WT i))⟩
 sf:∀i (h:i<fu.length),ob (2*fu[i]+1)=some ⟨fu[i],.cells (yu (WF i))⟩
 nT:tu.Nodup
 nF:fu.Nodup
 nX:∀x∈tu,x ∉ fu
 nS:∀x,x∈tu\/x∈fu->x≠uG/\ut≠some x/\uf≠some x/\ue≠some x
 nG:ut≠some uG/\uf≠some uG/\ue≠some uG
 nU:∀x,ut=some x->uf≠some x/\ue≠some x
 nV:∀x,uf=some x->ue≠some x
 rG:lo<=uG/\uG<hi
 rL:∀x,ut=some x\/uf=some x\/ue=some x->lo<=x/\x<hi
 rS:∀x,x∈tu\/x∈fu->lo<=x/\x<hi
section
variable {lo hi hi' uG:Nat}{ut uf ue:Option Nat}{tu fu:List Nat}{WT WF:Nat->Nat}{T:List P2}{ob ob':ZO}
def Gr.keep (h:Gr lo hi uG ut uf ue tu fu WT WF T ob) (c:∀x,lo<=x->x<hi->ob' (2*x+1)=ob (2*x+1)) (d:hi<=hi'):Gr lo hi' uG ut uf ue tu fu WT WF T ob':=by
 have g:=λx a=>c x (h.rL x a).1 (h.rL x a).2;have j:=λx a=>c x (h.rS x a).1 (h.rS x a).2;exact⟨(c uG h.rG.1 h.rG.2).trans h.o,λu b=>(g u (.inl b)).trans (h.t u b),λu b=>(g u (.inr (.inl b))).trans (h.f u b),λu b=>(g u (.inr (.inr b))).trans (h.e u b),h.z,
  λi hi=>(j _ (.inl (au hi))).trans (h.st i hi),λi hi=>(j _ (.inr (au hi))).trans (h.sf i hi),h.nT,h.nF,h.nX,h.nS,h.nG,h.nU,h.nV,
  ⟨h.rG.1,aW h.rG.2 d⟩,λx a=>⟨(h.rL x a).1,aW (h.rL x a).2 d⟩,λx a=>⟨(h.rS x a).1,aW (h.rS x a).2 d⟩⟩
def Gr.wide {lo':Nat}(h:Gr lo hi uG ut uf ue tu fu WT WF T ob) (b:lo'<=lo):Gr lo' hi uG ut uf ue tu fu WT WF T ob :=
 ⟨h.o,h.t,h.f,h.e,h.z,h.st,h.sf,h.nT,h.nF,h.nX,h.nS,h.nG,h.nU,h.nV,⟨bL b h.rG.1,h.rG.2⟩,λx a=>⟨bL b (h.rL x a).1,(h.rL x a).2⟩,λx a=>⟨bL b (h.rS x a).1,(h.rS x a).2⟩⟩
def Gr.off (h:Gr lo hi uG ut uf ue tu fu WT WF T ob) {x:Nat}(a:x<hi):Off hi (2*x+1):=Off.new a
def jar {b:Type}{l:List b}(h:l.Nodup) {i j:Nat}(hi:i<l.length) (a:j<l.length) (e:l[i]=l[j]):i=j:=by rcases dQ i j with h1|h1|h1;exact zf e (cB.1 h i j hi a h1);exact h1;exact zf e.symm (cB.1 h j i a hi h1)
def Gr.putT (h:Gr lo hi uG ut uf ue tu fu WT WF T ob) {a w:Nat}(m:a<tu.length) (n:ob' (2*tu[a]+1)=some ⟨tu[a],.cells (yu w)⟩) (g:∀x,lo<=x->x<hi->x≠tu[a]->ob' (2*x+1)=ob (2*x+1)) (d:hi<=hi') :
 Gr lo hi' uG ut uf ue tu fu (λi=>if i=a then w else WT i) WF T ob':=by
 have l:tu[a]∈tu:=au m;obtain⟨p,r,s,v⟩:=h.nS _ (.inl l);have j:=λx (b:ut=some x\/uf=some x\/ue=some x)=>g x (h.rL x b).1 (h.rL x b).2 (λe=>by subst e;rcases b with b|b|b<;>contradiction);have k:=λx b=>g x (h.rS x b).1 (h.rS x b).2;refine⟨(g uG h.rG.1 h.rG.2 (dA p)).trans h.o,λu c=>(j u (.inl c)).trans (h.t u c),λu c=>(j u (.inr (.inl c))).trans (h.f u c),λu c=>(j u (.inr (.inr c))).trans (h.e u c),h.z,
  λi hi=>?_,λi hi=>(k _ (.inr (au hi)) (λe=>h.nX _ l (e▸au hi))).trans (h.sf i hi),h.nT,h.nF,h.nX,h.nS,h.nG,h.nU,h.nV,
  ⟨h.rG.1,aW h.rG.2 d⟩,λx b=>⟨(h.rL x b).1,aW (h.rL x b).2 d⟩,λx b=>⟨(h.rS x b).1,aW (h.rS x b).2 d⟩⟩
 by_cases e:i=a;subst e;rw[zb rfl];exact n;rw[za e];exact(k _ (.inl (au hi)) (λq=>e (jar h.nT hi m q))).trans (h.st i hi)
def Gr.putF (h:Gr lo hi uG ut uf ue tu fu WT WF T ob) {a w:Nat}(m:a<fu.length) (n:ob' (2*fu[a]+1)=some ⟨fu[a],.cells (yu w)⟩) (g:∀x,lo<=x->x<hi->x≠fu[a]->ob' (2*x+1)=ob (2*x+1)) (d:hi<=hi') :
 Gr lo hi' uG ut uf ue tu fu WT (λi=>if i=a then w else WF i) T ob':=by
 have l:fu[a]∈fu:=au m;obtain⟨p,r,s,v⟩:=h.nS _ (.inr l);have j:=λx (b:ut=some x\/uf=some x\/ue=some x)=>g x (h.rL x b).1 (h.rL x b).2 (λe=>by subst e;rcases b with b|b|b<;>contradiction);have k:=λx b=>g x (h.rS x b).1 (h.rS x b).2;refine⟨(g uG h.rG.1 h.rG.2 (dA p)).trans h.o,λu c=>(j u (.inl c)).trans (h.t u c),λu c=>(j u (.inr (.inl c))).trans (h.f u c),λu c=>(j u (.inr (.inr c))).trans (h.e u c),h.z,
  λi hi=>(k _ (.inl (au hi)) (λe=>h.nX _ (au hi) (e▸l))).trans (h.st i hi),λi hi=>?_,h.nT,h.nF,h.nX,h.nS,h.nG,h.nU,h.nV,
  ⟨h.rG.1,aW h.rG.2 d⟩,λx b=>⟨(h.rL x b).1,aW (h.rL x b).2 d⟩,λx b=>⟨(h.rS x b).1,aW (h.rS x b).2 d⟩⟩
 by_cases e:i=a;subst e;rw[zb rfl];exact n;rw[za e];exact(k _ (.inr (au hi)) (λq=>e (jar h.nF hi m q))).trans (h.sf i hi)
def Gr.edge (h:Gr lo hi uG ut uf ue tu fu WT WF T ob) {x:Nat}{p:P2}(m:ob' (2*uG+1)=some ⟨uG,.cells [slU ut tu.length 1,slU uf fu.length 1,slU (some x) (T.length+1) 2,.bool true]⟩) (s:ob' (2*x+1)=some ⟨x,.cells ((T++[p]).flatMap yR)⟩)
 (j:∀y,lo<=y->y<hi->y≠uG->ue≠some y->ob' (2*y+1)=ob (2*y+1)) (v:hi<=x) (o:x<hi'):Gr lo hi' uG ut uf (some x) tu fu WT WF (T++[p]) ob':=by
 have g:hi<=hi':=zO;have k:lo<=x:=by have:=h.rG;omega
 have ne:∀y,ut=some y\/uf=some y\/ue=some y->y≠x:=λy a e=>by have:=(h.rL y a).2;omega
 have r:∀y,y∈tu\/y∈fu->y≠x:=λy a e=>by have:=(h.rS y a).2;omega
 refine⟨by rw[aw];exact m,λu b=>(j u (h.rL u (.inl b)).1 (h.rL u (.inl b)).2 (λe=>h.nG.1 (e▸b)) (h.nU u b).2).trans (h.t u b),λu b=>(j u (h.rL u (.inr (.inl b))).1 (h.rL u (.inr (.inl b))).2 (λe=>h.nG.2.1 (e▸b)) (h.nV u b)).trans (h.f u b),
  λu b=>by cases b;exact s,⟨h.z.1,h.z.2.1,λe=>by cases e⟩,λi hi=>?_,λi hi=>?_,h.nT,h.nF,h.nX,λy a=>?_,⟨h.nG.1,h.nG.2.1,λe=>?_⟩,λy a=>⟨(h.nU y a).1,λe=>ne y (.inl a) (by injection e with e;exact e.symm)⟩,λy a e=>ne y (.inr (.inl a)) (by injection e with e;exact e.symm),
  ⟨h.rG.1,aW h.rG.2 g⟩,λy a=>?_,λy a=>⟨(h.rS y a).1,aW (h.rS y a).2 g⟩⟩
 have c:=au hi;obtain⟨d,_,_,l⟩:=h.nS _ (.inl c);exact(j _ (h.rS _ (.inl c)).1 (h.rS _ (.inl c)).2 d l).trans (h.st i hi);have c:=au hi;obtain⟨d,_,_,l⟩:=h.nS _ (.inr c);exact(j _ (h.rS _ (.inr c)).1 (h.rS _ (.inr c)).2 d l).trans (h.sf i hi);obtain⟨d,n,q,_⟩:=h.nS y a;exact⟨d,n,q,λe=>r y a (by injection e with e;exact e.symm)⟩;have:=h.rG.2;injection e with e;omega;rcases a with a|a|a;exact⟨(h.rL y (.inl a)).1,aW (h.rL y (.inl a)).2 g⟩;exact⟨(h.rL y (.inr (.inl a))).1,aW (h.rL y (.inr (.inl a))).2 g⟩;cases a;exact⟨k,o⟩
def Gr.node {a b c d:Nat}(h:Gr lo hi uG ut uf none tu fu (λ_=>0) (λ_=>0) [] ob) (w:ob' (2*uG+1)=some ⟨uG,.cells [slU (some b) (tu.length+1) 1,slU (some d) (fu.length+1) 1,.sl none true 0 [],.bool true]⟩)
 (s:ob' (2*b+1)=some ⟨b,.cells ((tu++[a]).flatMap ptC)⟩) (p:ob' (2*d+1)=some ⟨d,.cells ((fu++[c]).flatMap ptC)⟩) (B:ob' (2*a+1)=some ⟨a,.cells (yu 0)⟩) (D:ob' (2*c+1)=some ⟨c,.cells (yu 0)⟩)
 (t:∀y,lo<=y->y<hi->y≠uG->ut≠some y->uf≠some y->ob' (2*y+1)=ob (2*y+1)) (v:hi<=a/\a<b/\b<c/\c<d/\d<hi'):Gr lo hi' uG (some b) (some d) none (tu++[a]) (fu++[c]) (λ_=>0) (λ_=>0) [] ob':=by
 obtain⟨F,K,G,I,H⟩:=v;have J:hi<=hi':=zO;have n:=h.rG;have g:∀y,y∈tu\/y∈fu->lo<=y/\y<hi:=h.rS;have o:∀y,y∈tu\/y∈fu->ob' (2*y+1)=ob (2*y+1):=λy f=>by obtain⟨x,q,r,_⟩:=h.nS y f;exact t y (g y f).1 (g y f).2 x q r
 have j:∀y,y∈tu++[a]\/y∈fu++[c]->(y∈tu\/y∈fu)\/y=a\/y=c:=λy f=>by simp only[aQ,ag]at f;rcases f with(h|h)|(h|h);exact .inl (.inl h);exact .inr (.inl h);exact .inl (.inr h);exact .inr (.inr h)
 refine⟨by simpa[slU] using w,λu k=>(by cases k;exact s),λu k=>(by cases k;exact p),λu k=>(by cases k),⟨λe=>(by cases e),λe=>(by cases e),λ_=>rfl⟩,λi hi=>?_,λi hi=>?_,?_,?_,λy f=>?_,λy f=>?_,⟨λe=>?_,λe=>?_,λe=>(by cases e)⟩,
  λy f=>⟨λe=>?_,λe=>(by cases e)⟩,λy _ e=>(by cases e),⟨n.1,zO⟩,λy f=>?_,λy f=>?_⟩
 by_cases e:i<tu.length;rw[dw e];exact(o _ (.inl (au e))).trans (h.st i e);have:i=tu.length:=by rw[aw,ee]at hi;omega
 subst this;rw[dL zK];simpa using B;by_cases e:i<fu.length;rw[dw e];exact(o _ (.inr (au e))).trans (h.sf i e);have:i=fu.length:=by rw[aw,ee]at hi;omega
 subst this;rw[dL zK];simpa using D;rw[cU];exact⟨h.nT,zS,λy f z m e=>by rw[ag]at m;have:=(g y (.inl f)).2;omega⟩;rw[cU];exact⟨h.nF,zS,λy f z m e=>by rw[ag]at m;have:=(g y (.inr f)).2;omega⟩;simp only[aQ,ag]at f ⊢;rintro(l|l);rcases f with h3|h3;exact h.nX y h3 l;have:=(g y (.inr l)).2;omega;rcases f with h3|h3;have:=(g y (.inl h3)).2;omega;omega;refine⟨?_,λe=>?_,λe=>?_,λe=>(by cases e)⟩;rcases j y f with h3|h3|h3;exact(h.nS y h3).1;omega;omega;injection e with e;rcases j y f with h3|h3|h3;have:=(g y h3).2;omega;omega;omega;injection e with e;rcases j y f with h3|h3|h3;have:=(g y h3).2;omega;omega;omega;injection e with e;omega;injection e with e;omega;injection f with f;injection e with e;omega;rcases f with f|f|f;injection f with f;omega;injection f with f;omega;cases f;rcases j y f with h3|h3|h3;have:=g y h3;omega;omega;omega
end
end Go.Pv.T
