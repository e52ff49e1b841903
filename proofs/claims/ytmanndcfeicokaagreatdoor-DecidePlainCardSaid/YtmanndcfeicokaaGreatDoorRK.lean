/- Part. -/
import Derived.Test.YtmanndcfeicokaaGreatDoorRJ
set_option maxRecDepth 100000
set_option maxHeartbeats 8000000
set_option linter.all false
namespace Go.Pv.T
open Go Go.Pv
def StO (ob:ZO) (lo hi:Nat) (l:List (List UInt8)) (v:V):Prop :=
 (l=[]/\v=.sl none true 0 [])\/(l≠[]/\∃u,lo<=u/\u<hi/\v=.osl (2*u+1) u 0 l.length 1/\ob (2*u+1)=some ⟨u,.cells (l.flatMap X2)⟩)
def StO.frame {ob ob':ZO}{lo hi lo' hi':Nat}{l:List (List UInt8)}{v:V}(h:StO ob lo hi l v) (b:∀u,lo<=u->u<hi->ob' (2*u+1)=ob (2*u+1)) (g:lo'<=lo) (i:hi<=hi'):StO ob' lo' hi' l v:=by rcases h with h|⟨a,u,f,c,d,e⟩;exact .inl h;exact .inr ⟨a,u,zO,zO,d,by rw[b u f c];exact e⟩
def StO.leaf {ob:ZO}{lo hi:Nat}{l:List (List UInt8)}{v:V}(h:StO ob lo hi l v):v.leaf=true/\v.cells=[v]:=by rcases h with⟨_,rfl⟩|⟨_,u,_,_,rfl,_⟩<;>exact⟨rfl,rfl⟩
def TsO.leaf {ob:ZO}{lo hi:Nat}{P:List (Txn'×Nat)}{v:V}(h:TsO ob lo hi P v):v.leaf=true/\v.cells=[v]:=by rcases h.2 with⟨_,rfl⟩|⟨_,u,_,_,_,rfl,_⟩<;>exact⟨rfl,rfl⟩
def StO.out {st:St}{lo hi:Nat}{l:List (List UInt8)}{v:V}(h:StO st.ob lo hi l v) (e:st.ro<=lo):jdd st v l.isEmpty l.length (l.flatMap X2):=by
 rcases h with⟨rfl,rfl⟩|⟨b,u,f,d,rfl,c⟩;exact ja _ none true 0 [];have a:l.isEmpty=false:=by cases l<;>simp_all
 rw[a];exact jce c (by rw[j1 Yr,bx]) zO (by rw[eS,aw];intro _ _;rfl)
def j9 (st:St) (d:Option Nat) (v:V) (l k:Nat) (o':Obj') (ks:List Nat):(st.app d { v:=v,obs:=[(l,o')],kill:=ks }).ob k=if k=l then some o' else if ks.any (Nat.beq k) then none else st.ob k:=by simp[St.app,Jl,yg]
def jgs {E:Env}{st:St}{ub:Nat}{K:List FP->St->Prop}{d:Option Nat}{r:List AOpr}{lo hi:Nat}{l:List (List UInt8)}{c:List UInt8}{s x:A}(w:StO st.ob lo hi l (ye E st.tm s)) (m:yp st.ob 1 (ye E st.tm x)=some (X2 c)) (t:st.ro<=lo) (i:l.length<=1000)
 (h:∀j:List Nat,(∀k∈j,∃u,lo<=u/\u<hi/\k=2*u+1)->YW E r K (ye E st.tm) (.append true 1 16 s x) st d ub { v:=.osl (2*ub+1) ub 0 (l.length+1) 1,obs:=[(2*ub+1,⟨ub,.cells ((l++[c]).flatMap X2)⟩)],kill:=j }) :
 jE E (⟨d,.append true 1 16 s x,none,true⟩::r) st ub K:=by
 rw[jw rfl];rcases w with⟨rfl,p⟩|⟨n,u,z,o,q,y⟩;simp only[yU,p,m,ah];rw[za (by simp[X2]),zb (show(true&&true)=true from rfl),zb ⟨zQ,rfl,by simp[X2],by simp[X2]⟩,Jo,jG];have:=h [] (λk b=>by cases b);have e:([]++[c]).flatMap X2=X2 c:=zS;rw[e]at this;have g:(X2 c).length/1=1:=by simp[X2]
 rw[g];exact this;have f:ya st.ob (2*u+1) u=some (l.flatMap X2):=by simp[ya,y]
 simp only[yU,q,m,ah,f];have a:(l.flatMap X2).length=l.length:=by rw[j1 Yr,bx]
 rw[za (by simp[X2]),zb ⟨bT▸zO,trivial,trivial,by rw[a];omega,zQ,rfl,by simp[X2];omega,by simp[X2];omega⟩,jG];have:=h [2*u+1] (λk b=>by simp only[ae]at b;exact⟨u,z,o,b⟩);have e:(l++[c]).flatMap X2=(l.flatMap X2).take (l.length*1)++X2 c:=by rw[aH (by rw[a];omega),bJ];simp
 rw[e]at this;have g:(X2 c).length/1=1:=by simp[X2]
 rw[g];exact this
def j6r {ks:List Nat}{key:Nat}(h:∀k∈ks,key≠k):ks.any (Nat.beq key)=false:=by rw[eO];intro k a b;exact h k a (br b)
noncomputable def few1S:C:=tlC (tlC S27.body)
noncomputable def few2S:C:=tlC few1S
noncomputable def few3S:C:=tlC few2S
noncomputable def few4S:C:=tlC few3S
structure FewO (h:Hist') (ob0:ZO) (ub ro:Nat) (s:St) (a b N1 N2:Nat) (Sv Kv Tv:V) (P:List (Txn'×Nat)):Prop where
 t1:s.tm 1=.ptr (2*ub+1) ub 0
 t2:s.tm 2=.ptr (2*(ub+64)+1) (ub+64) 0
 t3:s.tm 3=.ptr (2*(ub+192)+1) (ub+192) 0
 d:s.df=[]
 ro:s.ro=ro
 o1:s.ob (2*ub+1)=some ⟨ub,.cells (yb h)⟩
 o2:s.ob (2*(ub+64)+1)=some ⟨ub+64,.cells [.sl none true 0 [],.sl none true 0 [],.sl none true 0 []]⟩
 o3:s.ob (2*(ub+192)+1)=some ⟨ub+192,.cells [Sv,Kv,Tv]⟩
 gS:StO s.ob (ub+256) N1 (WO a h.ss) Sv
 gK:StO s.ob N1 N2 (WO b h.ks) Kv
 gT:TsO s.ob N2 s.nx P Tv
 n0:ub+256<=N1
 n1:N1<=N2
 n2:N2<=s.nx
 fr:∀key,(∀m,ub<=m->key≠2*m+1)->s.ob key=ob0 key
def few0S {h:Hist'}{Yf:YF}{ob:ZO}{tk:Nat->Bool}{ro base ub:Nat}{Q:Ex->St->Prop}(d:ro<=ub) (a:∀s,FewO h ob ub ro s 0 0 s.nx s.nx (.sl none true 0 []) (.sl none true 0 []) (.sl none true 0 []) []->wpC E Yf few1S s Q) :
 wpC E Yf S27.body (XE [.agg (yb h)] ob tk ro base ub) Q:=by
 have e:S27.body=.seq (hdC S27.body) (.seq (hdC (tlC S27.body)) few1S):=rfl;rw[e];conv in(occs:=*)S27=>all_goals cbv
 simp[hdC,tlC,yb,ya,j2];have a1:¬2*ub=2*(ub+64):=zO;have a2:¬2*ub=2*(ub+64+64+64):=zO;have a3:¬2*(ub+64)=2*(ub+64+64+64):=zO;refine⟨zO,a _ ⟨zS,zS,zS,zS,zS,by simp[yb,a1,a2],by simp[a3],zS,.inl ⟨rfl,rfl⟩,.inl ⟨rfl,rfl⟩,⟨zS,.inl ⟨rfl,rfl⟩⟩,zS,zK,zK,λc b=>?_⟩⟩;have f:=b ub zK;have i:=b (ub+64) zO;have g:=b (ub+64+64+64) zO;simp[f,i,g]
def j4w:few1S=.seq (hdC few1S) few2S:=rfl
def few1O {h:Hist'}{Yf:YF}{ob0:ZO}{ub ro:Nat}{K:St}{Q:Ex->St->Prop}(b6:ro<=ub) (hs:FewO h ob0 ub ro K 0 0 K.nx K.nx (.sl none true 0 []) (.sl none true 0 []) (.sl none true 0 []) [])
 (p:∀s B,FewO h ob0 ub ro s 25 0 s.nx s.nx B (.sl none true 0 []) (.sl none true 0 []) []->wpC E Yf few2S s Q):wpC E Yf few1S K Q:=by
 rw[j4w];obtain⟨o,I,t,J,fr,D,L,w,T,gK,gT,n0,n1,n2,H⟩:=hs;simp only[few1S];conv in(occs:=*)S27=>all_goals cbv
 simp[hdC,tlC];refine j5 [(4,4),(9,37)] 25 (λi s=>s.tm 4=.int .i64 i/\i<=h.ss.length/\∃B,FewO h ob0 ub ro s i 0 s.nx s.nx B (.sl none true 0 []) (.sl none true 0 []) []) rfl rfl ?_ ?_;refine⟨zS,zS,.sl none true 0 [],⟨by simp[o],by simp[I],by simp[t],by simp[J],by simp[fr],by simp[D],by simp[L],by simp[w],.inl ⟨rfl,rfl⟩,.inl ⟨rfl,rfl⟩,⟨zS,.inl ⟨rfl,rfl⟩⟩,by simp;omega,zK,zK,λa e=>by simp[H a e]⟩⟩;rintro i s hi ⟨G,b0,B,o,I,t,J,fr,D,L,w,T,gK,gT,n0,n1,n2,H⟩ f;clear f;have n:¬(i<h.ss.length/\i<25)->∀g:St,(g.tm 1=s.tm 1/\g.tm 2=s.tm 2/\g.tm 3=s.tm 3)->g.df=s.df->g.ro=s.ro->g.ob=s.ob->s.nx<=g.nx->wpC E Yf few2S g Q:=by intro hx g ⟨q1,q2,q3⟩ e2 e3 y e5;refine p g B ⟨q1.trans o,q2.trans I,q3.trans t,by rw[e2];exact J,by rw[e3];exact fr,by rw[y];exact D,by rw[y];exact L,by rw[y];exact w,?_,.inl ⟨rfl,rfl⟩,⟨zS,.inl ⟨rfl,rfl⟩⟩,zO,zK,zK,λa e=>by rw[y];exact H a e⟩;rw[<- jsw b0 hi hx,y];exact T.frame (λ_ _ _=>rfl) zK e5
 have r:s.ob (2*ub+1)=some ⟨ub,.cells [yl h.sn X2 h.ss,yl h.kn X2 h.ks,yl h.tn jf h.ts]⟩:=D;by_cases b:i<h.ss.length;by_cases q:i<25;have hw:=jR q zO;have d:(i:Int)<25:=zO;obtain⟨c,hc⟩:∃c,h.ss[i]=c:=⟨_,rfl⟩;have x:=jh2 h.ss b;have m:=jnn b q;rw[hc]at x m;have F:=jki c.length 100;have z:=jq9 (l:=c) (kk:=.i64) (eX c.length 100);have S:=jfp c;rw[S]at z;rw[show((100:Nat):Int)=100 from rfl]at F;simp[F,z,G,o,r,ya,b,d,t,w,j4 Yr,x];refine J0 (cs:=[.str (c.take 100)]) (by simp[j2]) rfl rfl ?_;simp;have b5:s.nx<=(s.nx+64+64+64+64+64+64+64+64+64+64+64+64+64+64+64+64+64+64+64+64+64+64+64+64):=zO;have b9:s.nx<=(s.nx+64+64+64+64+64+64+64+64+64+64+64+64+64+64+64+64+64+64+64+64+64+64+64+64+64):=zO;have b8:(s.nx+64+64+64+64+64+64+64+64+64+64+64+64+64+64+64+64+64+64+64+64+64+64+64+64)<(s.nx+64+64+64+64+64+64+64+64+64+64+64+64+64+64+64+64+64+64+64+64+64+64+64+64+64):=zO;have b7:=jsu i h.ss;refine jgs (lo:=ub+256) (hi:=s.nx) (l:=WO i h.ss) (c:=c.take 100) ?_ (by simp[yp,ya];rfl) (by simp[fr];omega) zO λks U=>?_;simp;refine T.frame (λu X N=>?_) zK zK;have e1:¬2*u=2*(s.nx+64+64+64+64+64+64+64+64+64+64+64+64+64+64+64+64+64+64+64+64+64+64+64+64):=zO;simp[e1];rw[<- m];have v:(WO i h.ss).length+1=(WO (i+1) h.ss).length:=by rw[m];simp
 rw[v];have j:∀a,(∀u,ub+256<=u->u<s.nx->a≠2*u+1)->ks.any (Nat.beq a)=false:=λa e=>j6r λk P=>by obtain⟨u,X,N,h3⟩:=U k P;rw[h3];exact e u X N
 have O:=j (2*ub+1) (λu _ _=>by omega);have a0:=j (2*(ub+64)+1) (λu _ _=>by omega);have Z:=j (2*(ub+192)+1) (λu _ _=>by omega);have w1:¬2*ub=2*(s.nx+64+64+64+64+64+64+64+64+64+64+64+64+64+64+64+64+64+64+64+64+64+64+64+64+64):=zO;have w2:¬2*(ub+64)=2*(s.nx+64+64+64+64+64+64+64+64+64+64+64+64+64+64+64+64+64+64+64+64+64+64+64+64+64):=zO;have w3:¬2*(ub+192)=2*(s.nx+64+64+64+64+64+64+64+64+64+64+64+64+64+64+64+64+64+64+64+64+64+64+64+64+64):=zO;have w4:¬2*ub=2*(s.nx+64+64+64+64+64+64+64+64+64+64+64+64+64+64+64+64+64+64+64+64+64+64+64+64):=zO;have w5:¬2*(ub+64)=2*(s.nx+64+64+64+64+64+64+64+64+64+64+64+64+64+64+64+64+64+64+64+64+64+64+64+64):=zO;have w6:¬2*(ub+192)=2*(s.nx+64+64+64+64+64+64+64+64+64+64+64+64+64+64+64+64+64+64+64+64+64+64+64+64):=zO;have w7:¬2*(s.nx+64+64+64+64+64+64+64+64+64+64+64+64+64+64+64+64+64+64+64+64+64+64+64+64+64)=2*(ub+192):=zO;have w8:¬2*ub=2*(ub+192):=zO;have w9:¬2*(ub+64)=2*(ub+192):=zO;simp[t,ya,j9,Z,w3,w6,w,fr,j2,G,hw];refine⟨zO,?_,?_⟩;simp[JR,YY,Wn,QS,yz,yB,yR,Delta.wo,Delta.wt];exact nbeq zO;have M:WO (i+1) h.ss≠[]:=by rw[m];simp
 refine⟨q,zO,.osl (2*(s.nx+64+64+64+64+64+64+64+64+64+64+64+64+64+64+64+64+64+64+64+64+64+64+64+64+64)+1) (s.nx+64+64+64+64+64+64+64+64+64+64+64+64+64+64+64+64+64+64+64+64+64+64+64+64+64) 0 (WO (i+1) h.ss).length 1,⟨by simp[o],by simp[I],by simp[t],by simp[J],by simp[fr],by simp[j9,O,w1,w4,w8,D],by simp[j9,a0,w2,w5,w9,L],zS,
  .inr ⟨M,(s.nx+64+64+64+64+64+64+64+64+64+64+64+64+64+64+64+64+64+64+64+64+64+64+64+64+64),zO,zS,rfl,by simp[j9,w7]⟩,.inl ⟨rfl,rfl⟩,⟨zS,.inl ⟨rfl,rfl⟩⟩,by simp;omega,zK,zK,λa e=>?_⟩⟩
 have k1:=e (ub+192) zO;have k2:=e (s.nx+64+64+64+64+64+64+64+64+64+64+64+64+64+64+64+64+64+64+64+64+64+64+64+64+64) zO;have k3:=e (s.nx+64+64+64+64+64+64+64+64+64+64+64+64+64+64+64+64+64+64+64+64+64+64+64+64) zO;have k4:=j a (λu X N=>e u zO);simp[j9,k1,k2,k3,k4];exact H a e;have d:¬(i:Int)<25:=zO;simp[G,o,r,ya,b,d];exact n zO _ ⟨zS,zS,zS⟩ zS zS (by funext k;simp) zP;simp[G,o,r,ya,b];exact n zO _ ⟨zS,zS,zS⟩ zS zS (by funext k;simp) zP
def j4v:few2S=.seq (hdC few2S) few3S:=rfl
def few2O {h:Hist'}{Yf:YF}{ob0:ZO}{ub ro:Nat}{s0:St}{Q:Ex->St->Prop}{w:Nat}{S0:V}(b9:ro<=ub) (hs:FewO h ob0 ub ro s0 25 0 w s0.nx S0 (.sl none true 0 []) (.sl none true 0 []) [])
 (p:∀s B,FewO h ob0 ub ro s 25 45 w s.nx S0 B (.sl none true 0 []) []->wpC E Yf few3S s Q):wpC E Yf few2S s0 Q:=by
 rw[j4v];obtain⟨o,L,v,M,fr,F,P,y,N,gK,gT,K,n1,n2,J⟩:=hs;simp only[few2S,few1S];conv in(occs:=*)S27=>all_goals cbv
 simp[hdC,tlC];refine j5 [(5,5),(38,66)] 45 (λi s=>s.tm 5=.int .i64 i/\i<=h.ks.length/\∃B,FewO h ob0 ub ro s 25 i w s.nx S0 B (.sl none true 0 []) []) rfl rfl ?_ ?_;refine⟨zS,zS,.sl none true 0 [],⟨by simp[o],by simp[L],by simp[v],by simp[M],by simp[fr],by simp[F],by simp[P],by simp[y],N.frame (λ_ _ _=>by simp) zK zK,.inl ⟨rfl,rfl⟩,⟨zS,.inl ⟨rfl,rfl⟩⟩,K,by simp;omega,zK,λa g=>by simp[J a g]⟩⟩;rintro i s hi ⟨I,b7,B,o,L,v,M,fr,F,P,y,N,gK,gT,K,n1,n2,J⟩ f;clear f;have n:¬(i<h.ks.length/\i<45)->∀j:St,(j.tm 1=s.tm 1/\j.tm 2=s.tm 2/\j.tm 3=s.tm 3)->j.df=s.df->j.ro=s.ro->j.ob=s.ob->s.nx<=j.nx->wpC E Yf few3S j Q:=by intro hx j ⟨q1,q2,q3⟩ e2 e3 t e5;refine p j B ⟨q1.trans o,q2.trans L,q3.trans v,by rw[e2];exact M,by rw[e3];exact fr,by rw[t];exact F,by rw[t];exact P,by rw[t];exact y,by rw[t];exact N,?_,⟨zS,.inl ⟨rfl,rfl⟩⟩,K,zO,zK,λa g=>by rw[t];exact J a g⟩;rw[<- jsw b7 hi hx,t];exact gK.frame (λ_ _ _=>rfl) zK e5
 have r:s.ob (2*ub+1)=some ⟨ub,.cells [yl h.sn X2 h.ss,yl h.kn X2 h.ks,yl h.tn jf h.ts]⟩:=F;by_cases d:i<h.ks.length;by_cases q:i<45;have hw:=jR q zO;have e:(i:Int)<45:=zO;obtain⟨c,hc⟩:∃c,h.ks[i]=c:=⟨_,rfl⟩;have z:=jh2 h.ks d;have m:=jnn d q;rw[hc]at z m;have G:=jki c.length 100;have D:=jq9 (l:=c) (kk:=.i64) (eX c.length 100);have a0:=jfp c;rw[a0]at D;rw[show((100:Nat):Int)=100 from rfl]at G;simp[G,D,I,o,r,ya,d,e,v,y,j4 Yr,z];refine J0 (cs:=[.str (c.take 100)]) (by simp[j2]) rfl rfl ?_;simp;have b8:s.nx<=(s.nx+64+64+64+64+64+64+64+64+64+64+64+64+64+64+64+64+64+64+64+64+64+64+64+64):=zO;have c2:s.nx<=(s.nx+64+64+64+64+64+64+64+64+64+64+64+64+64+64+64+64+64+64+64+64+64+64+64+64+64):=zO;have c1:(s.nx+64+64+64+64+64+64+64+64+64+64+64+64+64+64+64+64+64+64+64+64+64+64+64+64)<(s.nx+64+64+64+64+64+64+64+64+64+64+64+64+64+64+64+64+64+64+64+64+64+64+64+64+64):=zO;have c0:=jsu i h.ks;refine jgs (lo:=w) (hi:=s.nx) (l:=WO i h.ks) (c:=c.take 100) ?_ (by simp[yp,ya];rfl) (by simp[fr];omega) zO λks b0=>?_;simp;refine gK.frame (λu O H=>?_) zK zK;have e1:¬2*u=2*(s.nx+64+64+64+64+64+64+64+64+64+64+64+64+64+64+64+64+64+64+64+64+64+64+64+64):=zO;simp[e1];rw[<- m];have x:(WO i h.ks).length+1=(WO (i+1) h.ks).length:=by rw[m];simp
 rw[x];have b:∀a,(∀u,w<=u->u<s.nx->a≠2*u+1)->ks.any (Nat.beq a)=false:=λa g=>j6r λk U=>by obtain⟨u,O,H,h3⟩:=b0 k U;rw[h3];exact g u O H
 have T:=b (2*ub+1) (λu _ _=>by omega);have b6:=b (2*(ub+64)+1) (λu _ _=>by omega);have b5:=b (2*(ub+192)+1) (λu _ _=>by omega);have w1:¬2*ub=2*(s.nx+64+64+64+64+64+64+64+64+64+64+64+64+64+64+64+64+64+64+64+64+64+64+64+64+64):=zO;have w2:¬2*(ub+64)=2*(s.nx+64+64+64+64+64+64+64+64+64+64+64+64+64+64+64+64+64+64+64+64+64+64+64+64+64):=zO;have w3:¬2*(ub+192)=2*(s.nx+64+64+64+64+64+64+64+64+64+64+64+64+64+64+64+64+64+64+64+64+64+64+64+64+64):=zO;have w4:¬2*ub=2*(s.nx+64+64+64+64+64+64+64+64+64+64+64+64+64+64+64+64+64+64+64+64+64+64+64+64):=zO;have w5:¬2*(ub+64)=2*(s.nx+64+64+64+64+64+64+64+64+64+64+64+64+64+64+64+64+64+64+64+64+64+64+64+64):=zO;have w6:¬2*(ub+192)=2*(s.nx+64+64+64+64+64+64+64+64+64+64+64+64+64+64+64+64+64+64+64+64+64+64+64+64):=zO;have w7:¬2*(s.nx+64+64+64+64+64+64+64+64+64+64+64+64+64+64+64+64+64+64+64+64+64+64+64+64+64)=2*(ub+192):=zO;have w8:¬2*ub=2*(ub+192):=zO;have w9:¬2*(ub+64)=2*(ub+192):=zO;simp[v,ya,j9,b5,w3,w6,y,fr,j2,I,hw];refine⟨zO,?_,?_⟩;simp[JR,YY,Wn,QS,yz,yB,yR,Delta.wo,Delta.wt];exact nbeq zO;have S:WO (i+1) h.ks≠[]:=by rw[m];simp
 refine⟨q,zO,.osl (2*(s.nx+64+64+64+64+64+64+64+64+64+64+64+64+64+64+64+64+64+64+64+64+64+64+64+64+64)+1) (s.nx+64+64+64+64+64+64+64+64+64+64+64+64+64+64+64+64+64+64+64+64+64+64+64+64+64) 0 (WO (i+1) h.ks).length 1,⟨by simp[o],by simp[L],by simp[v],by simp[M],by simp[fr],by simp[j9,T,w1,w4,w8,F],by simp[j9,b6,w2,w5,w9,P],zS,
  N.frame (λu O H=>?_) zK zK,.inr ⟨S,(s.nx+64+64+64+64+64+64+64+64+64+64+64+64+64+64+64+64+64+64+64+64+64+64+64+64+64),zO,zS,rfl,by simp[j9,w7]⟩,⟨zS,.inl ⟨rfl,rfl⟩⟩,K,by first|omega|(simp;omega),zK,λa g=>?_⟩⟩
 have k1:¬2*u=2*(ub+192):=zO;have Z:¬2*u=2*(s.nx+64+64+64+64+64+64+64+64+64+64+64+64+64+64+64+64+64+64+64+64+64+64+64+64+64):=zO;have X:¬2*u=2*(s.nx+64+64+64+64+64+64+64+64+64+64+64+64+64+64+64+64+64+64+64+64+64+64+64+64):=zO;have k4:=b (2*u+1) (λu' _ _=>by omega);simp[j9,k1,Z,X,k4];have k1:=g (ub+192) zO;have Z:=g (s.nx+64+64+64+64+64+64+64+64+64+64+64+64+64+64+64+64+64+64+64+64+64+64+64+64+64) zO;have X:=g (s.nx+64+64+64+64+64+64+64+64+64+64+64+64+64+64+64+64+64+64+64+64+64+64+64+64) zO;have k4:=b a (λu O H=>g u zO);simp[j9,k1,Z,X,k4];exact J a g;have e:¬(i:Int)<45:=zO;simp[I,o,r,ya,d,e];exact n zO _ ⟨zS,zS,zS⟩ zS zS (by funext k;simp) zP;simp[I,o,r,ya,d];exact n zO _ ⟨zS,zS,zS⟩ zS zS (by funext k;simp) zP
def rdsF (g:Hist') (M:List Int):List (Int×Int×Int):=((yi g).zip M).map λx=>(x.1.1,x.2,Wx g x.1)
def jrn {g:Hist'}{M:List Int}(h:M.length=(yi g).length):(rdsF g M).length=(yi g).length:=by simp[rdsF,h]
def j76 {g:Hist'}{M:List Int}{i:Nat}(a:i<(yi g).length) (b:i<M.length):(rdsF g M)[i]? = some ((yi g)[i].1,M[i],Wx g (yi g)[i]):=by unfold rdsF;rw[aW,show((yi g).zip M)[i]? = some ((yi g)[i],M[i]) from fF.2 ⟨aa a,aa b⟩];rfl
def WP (g:Hist') (t a:Nat):Bool:=yE g a==yE g t
def Q9 (g:Hist') (t i:Nat):Nat:=Y3 0 ((List.range i).filter λkey=>Jp g t key)
def RowG (ob:ZO) (lo hi:Nat) (v:V) (rs:List (Int×Int×Int)):Prop:=(v=.sl none true 0 []/\rs=[])\/∃u,v=.osl (2*u+1) u 0 rs.length 3/\ob (2*u+1)=some ⟨u,.cells (rs.flatMap rdC)⟩/\lo<=u/\u<hi
def RowG.frame {ob ob':ZO}{lo hi hi':Nat}{v:V}{rs:List (Int×Int×Int)}(h:RowG ob lo hi v rs) (b:∀u,lo<=u->u<hi->ob' (2*u+1)=ob (2*u+1)) (f:hi<=hi'):RowG ob' lo hi' v rs:=by rcases h with h|⟨u,e,c,a,d⟩;exact .inl h;exact .inr ⟨u,e,(b u a d).trans c,a,zO⟩
def ju7 {v:V}{rs:List (Int×Int×Int)}{r:Int×Int×Int}{s x:A}{st:St}{lo hi ub:Nat}{K:List FP->St->Prop}{d:Option Nat}{q:List AOpr}(e:ye E st.tm s=v) (m:RowG st.ob lo hi v rs) (l:st.ro<=lo)
 (f:yp st.ob 3 (ye E st.tm x)=some (rdC r)) (o:rs.length<=1000000)
 (h:∀kill:List Nat,(kill=[]\/∃u,v=.osl (2*u+1) u 0 rs.length 3/\kill=[2*u+1]/\lo<=u/\u<hi)->YW E q K (ye E st.tm) (.append true 3 24 s x) st d ub { v:=.osl (2*ub+1) ub 0 (rs.length+1) 3,obs:=[(2*ub+1,⟨ub,.cells ((rs++[r]).flatMap rdC)⟩)],kill:=kill }):jE E (⟨d,.append true 3 24 s x,none,true⟩::q) st ub K:=by
 have a:rdC r≠[]:=by simp[rdC]
 have b:(rdC r).all V.leaf=true:=rfl;have j:=j1 joz rs;rw[jw rfl];rcases m with⟨rfl,rfl⟩|⟨u,rfl,i,n,k⟩;simp only[yU,e,f,ah,za a,dp,zd,Je,Xw];rw[zb ⟨zQ,b,by simp[rdC],by simp[rdC]⟩];simp only[Jo,jG];have:=h [] (.inl rfl);simpa[rdC] using this;have c:ya st.ob (2*u+1) u=some (rs.flatMap rdC):=by simp[ya,i]
 simp only[yU,e,f,c,ah,za a,Je,Xw];rw[zb ⟨bT▸zO,trivial,trivial,zO,zQ,b,by simp[rdC];omega,by simp[rdC];omega⟩,jG];have:=h [2*u+1] (.inr ⟨u,rfl,rfl,n,k⟩);rw[show(rs.flatMap rdC).take (rs.length*3)=rs.flatMap rdC from aH zO];simpa[rdC,bJ] using this
def jur {b:Type}(m:List (Int×b)) (k:Int) (a:b):∃i,jz (Wm m k a) k=some (i,a):=by
 have:=W7 k a k m;rw[zb rfl]at this;cases h:jz (Wm m k a) k with
 |none=>rw[h]at this;cases this
 |some p=>rw[h]at this;simp only[aU,ab]at this;exact⟨p.1,by rw[<- this]⟩
def jus {c:Type}(m:List (Int×c)) (k b:Int) (a z:c):jbw (Wm m k a) b z=if b=k then a else jbw m b z:=by rw[jr5,jr5,W7];split<;>rfl
def lookP {ob:ZO}{l u:Nat}{k:Int}{m:List (Int×Option (Nat×Nat))}{p:Nat×Nat}(h:jY ob l u=some (MK .i64 jhq (Wm m k (some p)))):Yh ob .int .nilptr false (.map l u) (.int .i64 k)=some (.ptr p.1 p.2 0):=by rw[jdx (q:=.i64) (f:=jhq) _ h];obtain⟨i,a⟩:=jur m k (some p);rw[a];rfl
def jnl (p:Nat->Bool) (L:List Nat) (x:Nat):Y3 0 ((L++[x]).filter p)=if p x then Y3 0 (L.filter p)|||1<<<x else Y3 0 (L.filter p):=by rw[bP,ct,dy];cases p x;simp;rw[zb rfl,zb rfl,Y3,fI];rfl
def jhu {L:List Nat}(h:L.Pairwise (· < ·)) {j t:Nat}(f:j<L.length) (l:t=L[j]) (p:Nat->Bool):L.filter (λa=>decide (a<t)&&p a)=(L.take j).filter p:=by
 subst l;have d:=dA.1 h;have e:L.filter (λa=>decide (a<L[j])&&p a)=(L.take j++L.drop j).filter (λa=>decide (a<L[j])&&p a):=by rw[dR]
 rw[e,bP];have k:(L.drop j).filter (λa=>decide (a<L[j])&&p a)=[]:=by
  rw[fX];intro a b;obtain⟨i,c,rfl⟩:=bA b;rw[bc]at c;rw[List.getElem_drop];have:¬L[j+i]<L[j]:=by rcases cL i with h0|h0;subst h0;simp;have:=d j (j+i) f zO zO;omega
  simp[this]
 rw[k,aL];refine gH λa b=>?_;obtain⟨i,c,rfl⟩:=bA b;rw[ai]at c;rw[eN];simp[d i j zO f zO]
structure SB (ob:ZO) (lo hi k u:Nat) (T:List Nat) (v f:Nat->Nat):Prop where
 m:∃m,ob k=some ⟨u,.mp (2*T.length) (MK .i64 jhq m)⟩/\∀t∈T,jbw m (t:Int) none=some (2*v t+1,v t)
 s:∀t∈T,ob (2*v t+1)=some ⟨v t,.cells (yv (f t))⟩/\lo<=v t/\v t<hi
def SB.snoc {ob ob':ZO}{lo hi hi' k u t x:Nat}{T:List Nat}{v f:Nat->Nat}{m:List (Int×Option (Nat×Nat))}(h:SB ob lo hi k u T v f) (i:∀z∈T,jbw m (z:Int) none=some (2*v z+1,v z))
 (j:ob' k=some ⟨u,.mp (2*(T.length+1)) (MK .i64 jhq (Wm m (t:Int) (some (2*x+1,x))))⟩) (c:∀z∈T,ob' (2*v z+1)=ob (2*v z+1)) (d:ob' (2*x+1)=some ⟨x,.cells (yv (f t))⟩) (n:lo<=x) (b:x<hi') (r:hi<=hi') (q:t ∉ T) :
 SB ob' lo hi' k u (T++[t]) (λz=>if z=t then x else v z) f:=by
 refine⟨⟨_,by rw[ap];exact j,λz a=>?_⟩,λz a=>?_⟩;rw[jus];by_cases e:z=t;subst e;simp;have o:¬(z:Int)=t:=zO;rw[za o,za e];rcases aQ.1 a with a|a;exact i z a;exact zf (ae.1 a) e;by_cases e:z=t;subst e;simp only[zd];exact⟨d,n,b⟩;rcases aQ.1 a with a|a;simp only[za e];obtain⟨l,p,w⟩:=h.s z a;exact⟨(c z a).trans l,p,zO⟩;exact zf (ae.1 a) e
def j4x {T:List Nat}{j i:Nat->Nat}{t a w hi:Nat}(h:∀z∈T,∀b∈T,j z≠i b) (o:∀z∈T,j z<hi) (l:∀z∈T,i z<hi) (q:hi<=a) (p:hi<=w) (f:a≠w) :
 ∀z∈T++[t],∀b∈T++[t],(if z=t then a else j z)≠(if b=t then w else i b):=by
 intro z k b d;have m:∀{y},y∈T++[t]->¬y=t->y∈T:=λn e=>by rcases aQ.1 n with h|h;exact h;exact zf (ae.1 h) e
 by_cases e:z=t;by_cases c:b=t;rw[zb e,zb c];exact f;rw[zb e,za c];have:=l b (m d c);omega;by_cases c:b=t;rw[za e,zb c];have:=o z (m k e);omega;rw[za e,za c];exact h z (m k e) b (m d c)
def jsl {T:List Nat}{v:Nat->Nat}{t a hi:Nat}(h:∀z∈T,∀b∈T,v z=v b->z=b) (i:∀z∈T,v z<hi) (l:hi<=a) :
 ∀z∈T++[t],∀b∈T++[t],(if z=t then a else v z)=(if b=t then a else v b)->z=b:=by
 intro z j b f c;have m:∀{y},y∈T++[t]->¬y=t->y∈T:=λk e=>by rcases aQ.1 k with h|h;exact h;exact zf (ae.1 h) e
 by_cases e:z=t;by_cases d:b=t;rw[e,d];rw[zb e,za d]at c;have:=i b (m f d);omega;by_cases d:b=t;rw[za e,zb d]at c;have:=i z (m j e);omega;rw[za e,za d]at c;exact h z (m j e) b (m f d) c
def jbi (g:Hist') (t:Nat):Nat:=Y3 0 ((yC g).filter λa=>decide (a<t)&&WP g t a)
def Qd (g:Hist') (t:Nat):Nat:=Q9 g t g.ks.length
def SB.sets {N:FN}{ob ob':ZO}{lo hi n0 k u:Nat}{T:List Nat}{v f:Nat->Nat}(h:SB ob lo hi k u T v f) (d:FixF N n0 k) (e:ob' k=ob k) (b:∀z∈T,ob' (2*v z+1)=ob (2*v z+1)/\FixF N n0 (2*v z+1)):SetsF N n0 ob' k u T f:=by obtain⟨m,i,c⟩:=h.m;exact⟨d,_,m,e.trans i,λt a=>⟨_,_,c t a,(b t a).1.trans (h.s t a).1,(b t a).2⟩⟩
def BegF (g:Hist') (M:List Int) (ob:ZO) (ub:Nat) (r:V×(ZO)×(Nat->Bool)×Nat):Prop :=
 ub<=r.2.2.2/\Was ub ob r.2.1/\∃(N:FN) (rv:V) (tc:Option (Nat×Nat)),r.1=.ptr N.kF N.uF 0/\r.2.1 N.kF=some ⟨N.uF,.cells (fdC g N rv (.sl tc (ym g).isEmpty (ym g).length ((ym g).flatMap yf)) (.sl none true 0 []) 0 false)⟩ /\
  Fd N rv (rdsF g M) (yC g) (jbi g) (Qd g) r.2.2.2 r.2.1/\r.2.1 N.kV=some ⟨N.uV,.mp 0 (MK .u64 jht [])⟩/\Off r.2.2.2 N.kF/\Off r.2.2.2 N.kV/\N.kF≠N.kV/\ub<=N.uF/\ub<=N.uV
section
variable {g:Hist'}{M:List Int}
def sv149 {Yf:YF}(hs:Small g) (hm:WM g M=true) {nl:Bool}{ob:ZO}{tk:Nat->Bool}{ro base ub:Nat}(r8:ro<=ub) :
 ∃r,EvS E Yf.y 149 [.agg (yb g),yl nl yf M] ob tk ro base ub r/\BegF g M ob ub r:=by
 have hw:=YV hm;have hM:=Xi hm;have hR:=YP hs;have a0:=Yz hw;obtain⟨vr,m1,h5⟩:=ev72 hs;have p7:jbq g=yi g:=by simp[jbq,hw]
 rw[p7]at h5;obtain⟨vc,o8,i1⟩:=ev70 hs;rw[jha hw]at i1;refine J6 rfl zQ ?_;show wpC E Yf S149.body _ (Jh S149.res _);simp only[S149,cfc,cf,Proofs.Tryz.f149,je0,ah];conv in (occs := *) j5b _ _ _ _=>all_goals cbv
 simp only[ah,aU];conv in (occs := *) Option.getD _ _=>all_goals cbv
 simp(disch:=try exact zD)[S149,ya,yb,V.cells,aA];refine jkr ?_;simp(disch:=try exact zD);refine jkr ?_;simp(disch:=try exact zD)[ya,yj,aA];refine X5 o8 zH rfl zH ?_;refine Jw i1 λtc r5=>?_;simp(disch:=try exact zD);refine jkr ?_;simp(disch:=try exact zD)[j2,V.cells,JR,YY,Wn,QS,yz,yB,yR,Delta.wo,Delta.wt,yl,aA];refine⟨⟨JF zO,JF zO,JF zO,JF zO,JF zO,JF zO,JF zO,JF zO,JF zO⟩,?_⟩;simp(disch:=try exact zD)[ya,yj];refine jH m1 zH rfl zH ?_;refine Jw h5 λtr r0=>?_;simp(disch:=try exact zD);refine jQ λB c=>?_;obtain⟨H,e9⟩:∃u,u=ub+192:=⟨_,rfl⟩;obtain⟨G,f0⟩:∃u,u=ub+256:=⟨_,rfl⟩;obtain⟨uV,f3⟩:∃u,u=ub+448:=⟨_,rfl⟩;obtain⟨uF,d1⟩:∃u,u=ub+576:=⟨_,rfl⟩;obtain⟨N,hN⟩:∃N:FN,N=⟨2*uF+1,uF,2*H+1,H,2*G+1,G,2*uV+1,uV⟩:=⟨_,rfl⟩;obtain⟨al,c9⟩:∃al:V,al=.sl tc (ym g).isEmpty (ym g).length ((ym g).flatMap yf):=⟨_,rfl⟩;have g1:B.tm 1=yl nl yf M:=by rw[c];simp[yl]
 have g2:B.tm 2=.ptr (2*ub+1) ub 0:=by rw[c];simp
 have g5:B.tm 5=.ptr (2*uF+1) uF 0:=by rw[c,d1];simp
 have n6:B.tm 24=.sl tr (yi g).isEmpty (yi g).length ((yi g).flatMap jC):=by rw[c];simp
 have l6:B.tm 25=.int .i64 (yi g).length:=by rw[c];simp
 have q7:B.tm 26=.int .i64 0:=by rw[c];simp
 have gd:B.df=[]:=by rw[c];simp
 have gr:B.ro=ro:=by rw[c];simp
 have gn:uF<B.nx:=by rw[c,d1];simp
 have gw:Was ub ob B.ob:=λb D=>by rw[c];simp(disch:=try exact zD)[show ∀m,ub<=m->¬b=2*m+1 from D]
 have pB:B.ob (2*ub+1)=some ⟨ub,.cells (yb g)⟩:=by rw[c];simp(disch:=try exact zD)[yj,yb,yl]
 have pF:B.ob (2*uF+1)=some ⟨uF,.cells (fdC g N (.sl none true 0 []) al (.sl none true 0 []) 0 false)⟩:=by rw[c,hN,d1,e9,f0,f3,c9];simp(disch:=try exact zD)[fdC,yl]
 have pA:B.ob (2*H+1)=some ⟨H,.mp 0 (MK .i64 jhq [])⟩:=by rw[c,e9];simp(disch:=try exact zD)[yj,MK]
 have pW:B.ob (2*G+1)=some ⟨G,.mp 0 (MK .i64 jhq [])⟩:=by rw[c,f0];simp(disch:=try exact zD)[yj,MK]
 have pV:B.ob (2*uV+1)=some ⟨uV,.mp 0 (MK .u64 jht [])⟩:=by rw[c,f3];simp(disch:=try exact zD)[yj,MK]
 clear c;obtain⟨o1,o2,o3,o4⟩:ub<H/\H<G/\G<uV/\uV<uF:=zO;clear e9 f0 f3 d1;obtain⟨n8,b9⟩:∃o,o=B.ob:=⟨_,rfl⟩;obtain⟨n0,o7⟩:∃n,n=B.nx:=⟨_,rfl⟩;rw[<- b9]at gw pB pF pA pW pV;rw[<- o7]at gn;have r9:=jrn (g:=g) hM;obtain⟨J,hJ⟩:∃J:Nat->St->Prop,J=λi s=>s.tm 26=.int .i64 i/\(∃rv,s.ob (2*uF+1)=some ⟨uF,.cells (fdC g N rv al (.sl none true 0 []) 0 false)⟩/\RowG s.ob n0 s.nx rv ((rdsF g M).take i))/\(∀b,Off n0 b->b≠2*uF+1->s.ob b=n8 b)/\n0<=s.nx:=⟨_,rfl⟩;refine j5 [(6,7),(26,59)] (yi g).length J rfl rfl (by
  rw[hJ];exact⟨zU q7,⟨_,by rw[<- b9];exact pF,.inl ⟨rfl,rfl⟩⟩,λb _ _=>by rw[b9],zO⟩) ?_
 clear pF;intro i s hi c1 f;rw[hJ]at c1;obtain⟨d0,⟨rv,sF,sR⟩,X,sn⟩:=c1;have s1:s.tm 1=yl nl yf M:=by rw[f.t 1 zS];simp[g1]
 have s2:s.tm 2=.ptr (2*ub+1) ub 0:=by rw[f.t 2 zS];simp[g2]
 have s5:s.tm 5=.ptr (2*uF+1) uF 0:=by rw[f.t 5 zS];simp[g5]
 have h7:s.tm 24=.sl tr (yi g).isEmpty (yi g).length ((yi g).flatMap jC):=by rw[f.t 24 zS];simp[n6]
 have f5:s.tm 25=.int .i64 (yi g).length:=by rw[f.t 25 zS];simp[l6]
 have sd:s.df=[]:=by rw[f.d];simp[gd]
 have sr:s.ro=ro:=by rw[f.r];simp[gr]
 clear f;have qB:s.ob (2*ub+1)=some ⟨ub,.cells (yb g)⟩:=by rw[X _ (Off.new zO) zO];exact pB
 have nB:∀m,s.nx<=m->¬ub=m:=λm hm=>by omega
 have nF:∀m,s.nx<=m->¬uF=m:=λm hm=>by omega
 by_cases I:i<(yi g).length;have e6:=jR I zO;have g4:i<M.length:=zO;obtain⟨a,k,ha,D,e,b0,hc⟩:=jf4 a0 I;have e2:=JD jS tr (yi g).isEmpty (yi g) .i64 I;have l0:=λob=>Ys (yi g) ob I;have d7:=j76 I g4;simp only[e]at l0 d7;have p4:=jn M g4;have o0:(g.ts.flatMap jf)[a*3+2]? = some (yl (g.ts[a]).nl yS (g.ts[a]).ops):=by rw[jO j7 g.ts ha (by decide:2<3)];rfl
 have l8:((g.ts[a]).ops.flatMap yS)[k*4+1]? = some (.int .i64 ((g.ts[a]).ops[k]).key):=by rw[jO jD (g.ts[a]).ops D (by decide:1<4)];rfl
 simp(disch:=try exact zD)[d0,f5,h7,s5,I,e2,l0,ya,j2,yj,nF,sF,fdC];refine⟨by first|omega|(simp[sr];omega),?_⟩;simp(disch:=try exact zD)[ya,j2,yj,nB,qB,s1,s2,yb,j4 j7,j4 jD,j4 j6,o0,l8,p4,aA];obtain⟨b,c6⟩:∃b,b=Wx g (yi g)[i]:=⟨_,rfl⟩;rw[<- c6]at b0;rw[<- b0];refine J0 (cs:=rdC ((a:Int),M[i],b)) (by simp[j2,rdC]) rfl rfl ?_;simp;refine ju7 (lo:=n0) (hi:=s.nx) (rs:=(rdsF g M).take i) (r:=((a:Int),M[i],b)) (v:=rv) zS ?_ ?_ ?_ ?_ λe1 c4=>?_;refine sR.frame (λu L h2=>?_) zK;have h3:∀m,s.nx<=m->¬u=m:=λm hm=>by omega
 simp(disch:=try exact zD)[yj,h3];first|omega|(simp[sr];omega)
 simp[yp,ya,rdC];rw[ai];omega;have g8:∀b,Off n0 b->e1.any (Nat.beq b)=false:=λb b0=>by rcases c4 with rfl|⟨u,h,rfl,L,h2⟩;rfl;simp only[bp,bC,bm];exact JF (b0 u L)
 have s4:∀m,s.nx<=m->e1.any (Nat.beq (2*m+1))=false:=λm hm=>by rcases c4 with rfl|⟨u,h,rfl,L,h2⟩;rfl;simp only[bp,bC,bm];exact JF zO
 have m4:=g8 (2*uF+1) (Off.new zO);generalize o5:List.flatMap rdC (List.take i (rdsF g M)++[(((a:Nat):Int),M[i],b)])=cs56;simp(disch:=try exact zD)[ya,yj,nF,sF,fdC,m4,j9,j2,JR,YY,Wn,QS,yz,yB,yR,Delta.wo,Delta.wt,eY];refine⟨by first|omega|(simp[sr];omega),JF zO,?_⟩;simp[d0,e6,I];rw[hJ];refine⟨zS,⟨.osl (2*(s.nx+2048)+1) (s.nx+2048) 0 (((rdsF g M).take i).length+1) 3,?_,.inr ⟨s.nx+2048,?_,?_,zO,zL⟩⟩,λb D K=>?_,zL⟩;simp(disch:=try exact zD)[fdC];rw[ai,ai];congr 1;omega;have q1:(rdsF g M)[i]' zO=(((a:Nat):Int),M[i],b):=by obtain⟨_,h2⟩:=ak.1 d7;rw[h2,c6,e]
 rw[av zO,q1,o5];simp(disch:=try exact zD)[j9,yj,show ¬s.nx+2048=uF from by omega];have f1:=D.ne;simp(disch:=try exact zD)[j9,f1,K,g8 b D,X b D K];have:i=(yi g).length:=zO;subst this;clear I hi;rw[aH zO]at sR;have eB:=qB;simp(disch:=try exact zD)[d0,f5,s5,ya,sF,fdC,yj];rw[c9];simp;refine jQ λB c=>?_;have g2:B.tm 2=.ptr (2*ub+1) ub 0:=by rw[c];simp[s2]
 have g5:B.tm 5=.ptr (2*uF+1) uF 0:=by rw[c];simp[s5]
 have c7:B.tm 63=.sl tc (ym g).isEmpty (ym g).length ((ym g).flatMap yf):=by rw[c];simp
 have c8:B.tm 64=.int .i64 (ym g).length:=by rw[c];simp
 have c5:B.tm 65=.int .i64 0:=by rw[c];simp
 have gd:B.df=[]:=by rw[c];simp[sd]
 have gr:B.ro=ro:=by rw[c];simp[sr]
 have go:B.ob=s.ob:=by rw[c];simp
 have n9:s.nx<=B.nx:=by rw[c];simp;omega
 clear c;obtain⟨b6,Z⟩:∃o,o=B.ob:=⟨_,rfl⟩;obtain⟨n1,r6⟩:∃n,n=B.nx:=⟨_,rfl⟩;rw[<- go,<- Z]at sF sR X qB;have qA:b6 (2*H+1)=some ⟨H,.mp 0 (MK .i64 jhq [])⟩:=by rw[X _ (Off.new zO) zO];exact pA
 have qW:b6 (2*G+1)=some ⟨G,.mp 0 (MK .i64 jhq [])⟩:=by rw[X _ (Off.new zO) zO];exact pW
 have qV:b6 (2*uV+1)=some ⟨uV,.mp 0 (MK .u64 jht [])⟩:=by rw[X _ (Off.new zO) zO];exact pV
 have o9:Was ub ob b6:=λb D=>by rw[X b (D.up zO) (D uF zO)];exact gw b D
 have l7:RowG b6 n0 n1 rv (rdsF g M):=sR.frame (λ_ _ _=>rfl) zO;have r4:n0<=n1:=zO;clear X pA pW pV sR gw go n9 sn d0 s1 s2 s5 h7 f5 sd sr nB nF eB;obtain⟨J2,e7⟩:∃J2:Nat->St->Prop,J2=λi s=>s.tm 65=.int .i64 i/\(∀b,Off n1 b->b≠2*H+1->b≠2*G+1->s.ob b=b6 b)/\n1<=s.nx /\
  ∃vA vW,SB s.ob n1 s.nx (2*H+1) H ((yC g).take i) vA (jbi g)/\SB s.ob n1 s.nx (2*G+1) G ((yC g).take i) vW (Qd g)/\(∀t∈(yC g).take i,∀t'∈(yC g).take i,vA t≠vW t') /\
   (∀t∈(yC g).take i,∀t'∈(yC g).take i,vA t=vA t'->t=t')/\∀t∈(yC g).take i,∀t'∈(yC g).take i,vW t=vW t'->t=t':=⟨_,rfl⟩
 refine j5 [(8,9),(11,14),(65,142)] (ym g).length J2 rfl rfl (by
  rw[e7];exact⟨zU c5,λb _ _ _=>by rw[Z],zO,λ_=>0,λ_=>0,⟨⟨[],by rw[<- Z];exact qA,λt h=>(by cases h)⟩,λt h=>(by cases h)⟩,⟨⟨[],by rw[<- Z];exact qW,λt h=>(by cases h)⟩,λt h=>(by cases h)⟩,λt h=>(by cases h),λt h=>(by cases h),λt h=>(by cases h)⟩) ?_
 intro i s hi c1 f;rw[e7]at c1;obtain⟨e4,X,sn,vA,vW,sA,sW,h0,k9,f7⟩:=c1;have s2:s.tm 2=.ptr (2*ub+1) ub 0:=by rw[f.t 2 zS];simp[g2]
 have s5:s.tm 5=.ptr (2*uF+1) uF 0:=by rw[f.t 5 zS];simp[g5]
 have f9:s.tm 63=.sl tc (ym g).isEmpty (ym g).length ((ym g).flatMap yf):=by rw[f.t 63 zS];simp[c7]
 have f4:s.tm 64=.int .i64 (ym g).length:=by rw[f.t 64 zS];simp[c8]
 have sd:s.df=[]:=by rw[f.d];simp[gd]
 have sr:s.ro=ro:=by rw[f.r];simp[gr]
 clear f;have s8:=jaz g;by_cases I:i<(ym g).length;have U:i<(yC g).length:=zO;have s3:=hs.ts;have q8:(yC g).length<=1000:=by have:=Xe g;omega
 have hK:jpm=1000000000000:=rfl;have e6:=jR I zO;obtain⟨t,ht⟩:∃t,t=(yC g)[i]:=⟨_,rfl⟩;have q3:(ym g)[i]=(t:Int):=by
  have L:(ym g)[i]? = (yt (yC g))[i]?:=by rw[jc5]
  rw[aa I]at L;unfold yt at L;rw[aW,aa U]at L;simpa[ht] using L
 have e2:=JD j6 tc (ym g).isEmpty (ym g) .i64 I;have g6:=jn (ym g) I;rw[q3]at g6;obtain⟨mA,f8,i8⟩:=sA.m;obtain⟨mW,i0,h6⟩:=sW.m;have e3:((yC g).take i).length=i:=by rw[ai];omega
 rw[e3]at f8 i0;have xF:s.ob (2*uF+1)=some ⟨uF,.cells (fdC g N rv al (.sl none true 0 []) 0 false)⟩:=by rw[X _ (Off.new zO) zO zO];exact sF
 have xB:s.ob (2*ub+1)=some ⟨ub,.cells (yb g)⟩:=by rw[X _ (Off.new zO) zO zO];exact qB
 have nB:∀m,s.nx<=m->¬ub=m:=λm hm=>by omega
 have nF:∀m,s.nx<=m->¬uF=m:=λm hm=>by omega
 have nA:∀m,s.nx<=m->¬H=m:=λm hm=>by omega
 have nW:∀m,s.nx<=m->¬G=m:=λm hm=>by omega
 have m7:¬G=H:=zO;have b7:N.kA=2*H+1/\N.uA=H/\N.kW=2*G+1/\N.uW=G:=by rw[hN];exact⟨rfl,rfl,rfl,rfl⟩
 simp(disch:=try exact zD)[e4,f4,f9,s5,I,e2,g6,ya,xF,fdC,b7];refine jsh zS rfl rfl rfl ?_;simp;refine jsh zS rfl rfl rfl ?_;simp;refine ji4 (q:=.i64) (f:=jhq) (a:=none) (ver:=2*i) (k:=(t:Int)) (l:=2*H+1) (u:=H) mA zS zS rfl (by simp(disch:=try exact zD)[yj,nA,f8]) (by first|omega|(simp[sr];omega)) zO ?_;simp;refine jna (q:=.i64) (f:=jhq) (a:=some (2*(s.nx+1024)+1,s.nx+1024)) (ver:=2*i+1) (k:=(t:Int)) (l:=2*H+1) (u:=H) (Wm mA (t:Int) (jbw mA (t:Int) none)) zS zS (by simp[jhq,V.strip]) (jyl mA t _) zS (by first|omega|(simp[sr];omega)) zO ?_;rw[jr3];simp;refine ji4 (q:=.i64) (f:=jhq) (a:=none) (ver:=2*i) (k:=(t:Int)) (l:=2*G+1) (u:=G) mW zS zS rfl (by simp(disch:=try exact zD)[yj,nW,i0,m7]) (by first|omega|(simp[sr];omega)) zO ?_;simp;refine jna (q:=.i64) (f:=jhq) (a:=some (2*(s.nx+1088)+1,s.nx+1088)) (ver:=2*i+1) (k:=(t:Int)) (l:=2*G+1) (u:=G) (Wm mW (t:Int) (jbw mW (t:Int) none)) zS zS (by simp[jhq,V.strip]) (jyl mW t _) zS (by first|omega|(simp[sr];omega)) zO ?_;rw[jr3];simp;refine⟨jr2 (by simp(disch:=try exact zD)[jmt,jit,QL,Wn,QS,yz,yB,yR,Delta.wo,Delta.wt,s5,ya,xF,fdC,b7,yj];and_intros<;>exact JF zO),?_⟩;have m6:W1 1 none (some (.int .i64 (i:Int))) (.sl tc (ym g).isEmpty (ym g).length ((ym g).flatMap yf))=some (.sl none (ym g).isEmpty i (((ym g).take i).flatMap yf)):=by rw[j7m j6 tc _ (ym g) (show i<=_ by omega),ai,cE zO]
 have p6:¬uF=G:=zO;have m9:¬uF=H:=zO;simp(disch:=try exact zD)[s5,ya,xF,fdC,yj,nF,p6,m9];rw[c9,m6];simp;refine jQ λB c=>?_;obtain⟨Q,g0⟩:∃u,u=s.nx+1024:=⟨_,rfl⟩;obtain⟨P,e5⟩:∃u,u=s.nx+1088:=⟨_,rfl⟩;have g2:B.tm 2=.ptr (2*ub+1) ub 0:=by rw[c];simp[s2]
 have g5:B.tm 5=.ptr (2*uF+1) uF 0:=by rw[c];simp[s5]
 have g9:B.tm 9=.int .i64 t:=by rw[c];simp
 have c5:B.tm 65=.int .i64 i:=by rw[c];simp[e4]
 have l2:B.tm 91=.sl none (ym g).isEmpty i (((ym g).take i).flatMap yf):=by rw[c];simp
 have p5:B.tm 92=.int .i64 i:=by rw[c];simp
 have p9:B.tm 93=.int .i64 0:=by rw[c];simp
 have c7:B.tm 63=.sl tc (ym g).isEmpty (ym g).length ((ym g).flatMap yf):=by rw[c];simp[f9]
 have c8:B.tm 64=.int .i64 (ym g).length:=by rw[c];simp[f4]
 have gd:B.df=[]:=by rw[c];simp[sd]
 have gr:B.ro=ro:=by rw[c];simp[sr]
 have gn:P<B.nx:=by rw[c,e5];simp
 have gw:∀b,Off s.nx b->b≠2*H+1->b≠2*G+1->B.ob b=s.ob b:=λb D L h2=>by rw[c];simp(disch:=try exact zD)[D.ne,L,h2]
 have pa:B.ob (2*Q+1)=some ⟨Q,.cells (yv 0)⟩:=by rw[c,g0];simp(disch:=try exact zD)[yj,aA,jcg,show ¬s.nx+1024=H by omega,show ¬s.nx+1024=G by omega]
 have pw:B.ob (2*P+1)=some ⟨P,.cells (yv 0)⟩:=by rw[c,e5];simp(disch:=try exact zD)[yj,aA,jcg,show ¬s.nx+1088=H by omega,show ¬s.nx+1088=G by omega]
 have pA:B.ob (2*H+1)=some ⟨H,.mp (2*(i+1)) (MK .i64 jhq (Wm mA (t:Int) (some (2*Q+1,Q))))⟩:=by rw[c,g0];simp(disch:=try exact zD)[yj,aA,show ¬H=G by omega,Nat.mul_add]
 have pW:B.ob (2*G+1)=some ⟨G,.mp (2*(i+1)) (MK .i64 jhq (Wm mW (t:Int) (some (2*P+1,P))))⟩:=by rw[c,e5];simp(disch:=try exact zD)[yj,aA,Nat.mul_add]
 clear c;obtain⟨n7,c3⟩:∃o,o=B.ob:=⟨_,rfl⟩;obtain⟨n3,n2⟩:∃n,n=B.nx:=⟨_,rfl⟩;rw[<- c3]at gw pa pw pA pW;rw[<- n2]at gn;have f2:Y0 g=true:=by unfold Yt at a0;simp only[aj]at a0;exact a0.1
 unfold Y0 at f2;simp only[aj,ze]at f2;obtain⟨_,_,_,s7,s6⟩:=f2;have b8:∀{x:Nat},x∈yC g->x<g.ts.length:=λh=>XG (comN_mem.1 h);have m0:t<g.ts.length:=b8 (ht▸au U);have d6:∀{x:Nat}(h:x<g.ts.length),(g.ts.flatMap jf)[x*3]? = some (.int .i64 (yE g x)):=fun {x} h=>by have:=jO j7 g.ts h (by decide:0<3);rw[bl]at this;rw[this];simp[jf,yE,h]
 obtain⟨J3,d5⟩:∃J3:Nat->St->Prop,J3=λj s=>s.tm 93=.int .i64 j/\s.ob (2*Q+1)=some ⟨Q,.cells (yv (Y3 0 (((yC g).take j).filter (WP g t))))⟩/\(∀b,Off n3 b->b≠2*Q+1->s.ob b=n7 b)/\n3<=s.nx:=⟨_,rfl⟩;refine j5 [(11,11),(93,118)] i J3 rfl rfl (by
  rw[d5];exact⟨zU p9,by rw[<- c3];exact pa,λb _ _=>by rw[c3],zO⟩) ?_
 intro j q hj k0 f;rw[d5]at k0;obtain⟨d2,qa,qw,qn⟩:=k0;have q2:q.tm 2=.ptr (2*ub+1) ub 0:=by rw[f.t 2 zS];simp[g2]
 have q5:q.tm 5=.ptr (2*uF+1) uF 0:=by rw[f.t 5 zS];simp[g5]
 have q9:q.tm 9=.int .i64 t:=by rw[f.t 9 zS];simp[g9]
 have p0:q.tm 91=.sl none (ym g).isEmpty i (((ym g).take i).flatMap yf):=by rw[f.t 91 zS];simp[l2]
 have h9:q.tm 92=.int .i64 i:=by rw[f.t 92 zS];simp[p5]
 have m5:q.tm 63=.sl tc (ym g).isEmpty (ym g).length ((ym g).flatMap yf):=by rw[f.t 63 zS];simp[c7]
 have p8:q.tm 64=.int .i64 (ym g).length:=by rw[f.t 64 zS];simp[c8]
 have m3:q.tm 65=.int .i64 i:=by rw[f.t 65 zS];simp[c5]
 have qd:q.df=[]:=by rw[f.d];simp[gd]
 have qr:q.ro=ro:=by rw[f.r];simp[gr]
 clear f;have zF:q.ob (2*uF+1)=some ⟨uF,.cells (fdC g N rv al (.sl none true 0 []) 0 false)⟩:=by rw[qw _ (Off.new zO) zO,gw _ (Off.new zO) zO zO];exact xF
 have zB:q.ob (2*ub+1)=some ⟨ub,.cells (yb g)⟩:=by rw[qw _ (Off.new zO) zO,gw _ (Off.new zO) zO zO];exact xB
 by_cases c0:j<i;have f6:j<(yC g).length:=zO;obtain⟨x,hx⟩:∃x,x=(yC g)[j]:=⟨_,rfl⟩;have m2:x<g.ts.length:=b8 (hx▸au f6);have p2:(ym g)[j]' zO=(x:Int):=by
  have L:(ym g)[j]? = (yt (yC g))[j]?:=by rw[jc5]
  rw[aa (show j<(ym g).length by omega)]at L;unfold yt at L;rw[aW,aa f6]at L;simpa[hx] using L
 have e0:j<((ym g).take i).length:=by rw[ai];omega
 have q0:((ym g).take i).length=i:=by rw[ai];omega
 have i5:=JD j6 none (ym g).isEmpty ((ym g).take i) .i64 e0;have i3:=jn ((ym g).take i) e0;rw[eN,p2]at i3;rw[q0]at i5;have g3:=jR c0 zO;have i4:=d6 m2;have i2:=d6 m0;simp(disch:=try exact zD)[d2,h9,p0,q9,q2,c0,i5,i3,ya,zB,yb,j4 j7,i4,i2];have F:Y3 0 (((yC g).take (j+1)).filter (WP g t))=if yE g x==yE g t then Y3 0 (((yC g).take j).filter (WP g t))|||1<<<x else Y3 0 (((yC g).take j).filter (WP g t)):=by rw[av f6,<- hx,jnl];rfl
 cases h8:yE g x==yE g t;simp[d2,g3,c0];rw[d5];rw[h8]at F;refine⟨zS,by rw[F];simpa using qa,λb D K=>by simp[qw b D K],zL⟩;rw[h8,zb rfl]at F;have e8:Y3 0 (((yC g).take j).filter (WP g t))<2^64:=jc8 zQ λy hy=>by have:=b8 (dH (bK.1 hy).1);omega
 simp(disch:=try exact zD)[q5,q9,ya,zF,fdC,b7];rw[lookP (p:=(2*Q+1,Q)) (k:=(t:Int)) (m:=mA) (by simp[jY];rw[qw _ (Off.new zO) zO,pA];simp)];simp;refine jJ (vs:=[.ptr (2*Q+1) Q 0,.int .i64 x]) zS rfl (jtu (w:=Y3 0 (((yC g).take j).filter (WP g t))) (zU qa) (Off.new zL) (by first|omega|(simp[qr];omega)) zO e8) ?_;rintro v l3 l9 q4 ⟨r1,r2,r3⟩;simp only at r1 r2 r3;simp[d2,g3,c0];rw[d5];refine⟨zS,?_,λb D K=>?_,zL⟩;simp;rw[r2 _ (Off.new zL),zb rfl,F];simp;rw[r2 b (D.up zL),za K];simp[qw b D K];have:j=i:=zO;subst this;clear c0 hj;simp(disch:=try exact zD)[d2,h9,q2,ya,zB,yb];refine jQ λB c=>?_;have g2:B.tm 2=.ptr (2*ub+1) ub 0:=by rw[c];simp[q2]
 have g5:B.tm 5=.ptr (2*uF+1) uF 0:=by rw[c];simp[q5]
 have g9:B.tm 9=.int .i64 t:=by rw[c];simp[q9]
 have c5:B.tm 65=.int .i64 j:=by rw[c];simp[m3]
 have i9:B.tm 121=.int .i64 g.ks.length:=by rw[c];simp[yl]
 have i7:B.tm 122=.int .i64 0:=by rw[c];simp
 have c7:B.tm 63=.sl tc (ym g).isEmpty (ym g).length ((ym g).flatMap yf):=by rw[c];simp[m5]
 have c8:B.tm 64=.int .i64 (ym g).length:=by rw[c];simp[p8]
 have gd:B.df=[]:=by rw[c];simp[qd]
 have gr:B.ro=ro:=by rw[c];simp[qr]
 have go:B.ob=q.ob:=by rw[c];simp
 have r7:q.nx<=B.nx:=by rw[c];simp;omega
 clear c;obtain⟨l4,c2⟩:∃o,o=B.ob:=⟨_,rfl⟩;obtain⟨n5,s0⟩:∃n,n=B.nx:=⟨_,rfl⟩;rw[<- go,<- c2]at qa qw zF zB;obtain⟨J5,d4⟩:∃J5:Nat->St->Prop,J5=λk s=>s.tm 122=.int .i64 k/\s.ob (2*P+1)=some ⟨P,.cells (yv (Q9 g t k))⟩/\(∀b,Off n5 b->b≠2*P+1->s.ob b=l4 b)/\n5<=s.nx:=⟨_,rfl⟩;refine j5 [(12,14),(122,141)] g.ks.length J5 rfl rfl (by
  rw[d4];exact⟨zU i7,by rw[<- c2,qw _ (Off.new zO) zO];exact pw,λb _ _=>by rw[c2],zO⟩) ?_
 intro k y D i6 f;rw[d4]at i6;obtain⟨b5,yw,yk,yn⟩:=i6;have y2:y.tm 2=.ptr (2*ub+1) ub 0:=by rw[f.t 2 zS];simp[g2]
 have y5:y.tm 5=.ptr (2*uF+1) uF 0:=by rw[f.t 5 zS];simp[g5]
 have y9:y.tm 9=.int .i64 t:=by rw[f.t 9 zS];simp[g9]
 have n4:y.tm 65=.int .i64 j:=by rw[f.t 65 zS];simp[c5]
 have d8:y.tm 121=.int .i64 g.ks.length:=by rw[f.t 121 zS];simp[i9]
 have yd:y.df=[]:=by rw[f.d];simp[gd]
 have yr:y.ro=ro:=by rw[f.r];simp[gr]
 clear f;have wF:y.ob (2*uF+1)=some ⟨uF,.cells (fdC g N rv al (.sl none true 0 []) 0 false)⟩:=by rw[yk _ (Off.new zO) zO];exact zF
 have wB:y.ob (2*ub+1)=some ⟨ub,.cells (yb g)⟩:=by rw[yk _ (Off.new zO) zO];exact zB
 by_cases d3:k<g.ks.length;have d9:=jR d3 zO;have el:=ev169 hs t k;have ez:(Yu (Js g t).2 (k:Int)).2=Jp g t k:=rfl;rw[ez]at el;simp(disch:=try exact zD)[b5,d8,y9,y2,d3,ya,wB,yb];refine jH el zI rfl zI ?_;rw[Jc (by simp[V.plain,J7])];simp(disch:=try exact zD)[J7,ya,j2];refine⟨by first|omega|(simp[yr];omega),?_⟩;have F:Q9 g t (k+1)=if Jp g t k then Q9 g t k|||1<<<k else Q9 g t k:=by unfold Q9;rw[cV,jnl]
 cases l1:Jp g t k;simp[b5,d9,d3];rw[d4];rw[l1]at F;refine⟨zS,by rw[F];simp(disch:=try exact zD)[yj,yw,show ∀m,y.nx<=m->¬P=m from λm hm=>by omega],λb D K=>by simp(disch:=try exact zD)[D.ne,yk b D K],zL⟩;rw[l1,zb rfl]at F;have e8:Q9 g t k<2^64:=jc8 zQ λz S=>by have:=bf.1 (bK.1 S).1;omega
 have q6:∀m,y.nx<=m->¬P=m:=λm hm=>by omega
 have p1:∀m,y.nx<=m->¬G=m:=λm hm=>by omega
 have l5:∀m,y.nx<=m->¬uF=m:=λm hm=>by omega
 simp(disch:=try exact zD)[y5,y9,ya,wF,fdC,b7,yj,l5];rw[lookP (p:=(2*P+1,P)) (k:=(t:Int)) (m:=mW) (by simp(disch:=try exact zD)[jY,yj,p1];rw[yk _ (Off.new zO) zO,qw _ (Off.new zO) zO,pW];simp)];simp;refine jJ (vs:=[.ptr (2*P+1) P 0,.int .i64 k]) zS rfl (jtu (w:=Q9 g t k) (by simp(disch:=try exact zD)[yj,q6,yw]) (Off.new zL) (by first|omega|(simp[yr];omega)) zO e8) ?_;rintro v l3 l9 q4 ⟨r1,r2,r3⟩;simp only at r1 r2 r3;simp[b5,d9,d3];rw[d4];refine⟨zS,?_,λb D K=>?_,zL⟩;simp;rw[r2 _ (Off.new zL),zb rfl,F];simp;rw[r2 b (D.up zL),za K];simp(disch:=try exact zD)[D.ne,yk b D K];have:k=g.ks.length:=zO;subst this;have O:∀b,Off s.nx b->b≠2*H+1->b≠2*G+1->y.ob b=s.ob b:=λb D L h2=>by rw[yk b (D.up zO) (D P zO),qw b (D.up zO) (D Q zO),gw b D L h2]
 have m8:y.ob (2*H+1)=some ⟨H,.mp (2*(j+1)) (MK .i64 jhq (Wm mA (t:Int) (some (2*Q+1,Q))))⟩:=by rw[yk _ (Off.new zO) zO,qw _ (Off.new zO) zO,pA]
 have p3:y.ob (2*G+1)=some ⟨G,.mp (2*(j+1)) (MK .i64 jhq (Wm mW (t:Int) (some (2*P+1,P))))⟩:=by rw[yk _ (Off.new zO) zO,qw _ (Off.new zO) zO,pW]
 have o6:y.ob (2*Q+1)=some ⟨Q,.cells (yv (jbi g t))⟩:=by rw[yk _ (Off.new zO) zO,qa];unfold jbi;rw[jhu (jqb g) U ht]
 simp[b5,d8,n4,e6,I];rw[e7];have eT:(yC g).take (j+1)=(yC g).take j++[t]:=by rw[av U,ht]
 have g7:t ∉ (yC g).take j:=λh=>by obtain⟨i,hi,e⟩:=bA h;rw[ai]at hi;rw[eN]at e;have:=dA.1 (jqb g) i j zO U zO;omega
 refine⟨zS,λb D L h2=>?_,zL,λz=>if z=t then Q else vA z,λz=>if z=t then P else vW z,?_,?_,?_,?_,?_⟩;simp;rw[O b (D.up zO) L h2];exact X b D L h2;rw[eT];refine sA.snoc i8 (by rw[e3];simpa using m8) (λz S=>?_) (zU o6) zO zL zL g7;have:=(sA.s z S).2;simp;exact O _ (Off.new zO) zO zO;rw[eT];refine sW.snoc h6 (by rw[e3];simpa using p3) (λz S=>?_) (by simpa[Qd] using yw) zO zL zL g7;have:=(sW.s z S).2;simp;exact O _ (Off.new zO) zO zO;rw[eT];exact j4x h0 (λz S=>(sA.s z S).2.2) (λz S=>(sW.s z S).2.2) zO zO zO;rw[eT];exact jsl k9 (λz S=>(sA.s z S).2.2) zO;rw[eT];exact jsl f7 (λz S=>(sW.s z S).2.2) zO;have:i=(ym g).length:=zO;subst this;rw[aH zO]at sA sW h0 k9 f7;simp[e4,f4,s5];have xF:s.ob (2*uF+1)=some ⟨uF,.cells (fdC g N rv al (.sl none true 0 []) 0 false)⟩:=by rw[X _ (Off.new zO) zO zO];exact sF
 have xV:s.ob (2*uV+1)=some ⟨uV,.mp 0 (MK .u64 jht [])⟩:=by rw[X _ (Off.new zO) zO zO];exact qV
 have b7:N.kF=2*uF+1/\N.uF=uF/\N.kA=2*H+1/\N.uA=H/\N.kW=2*G+1/\N.uW=G/\N.kV=2*uV+1/\N.uV=uV:=by rw[hN];exact⟨rfl,rfl,rfl,rfl,rfl,rfl,rfl,rfl⟩
 obtain⟨k1,k2,k3,k4,k5,k6,k7,k8⟩:=b7;have T:∀u n,u<n->u≠uF->u≠uV->FixF N n (2*u+1):=λu n L h2 h3=>⟨by rw[k1];omega,by rw[k7];omega,Off.new L⟩;refine JN (by simp[sd]) ⟨zL,λb D=>?_,N,rv,tc,by simp[k1,k2],by rw[k1,k2,<- c9];simpa using xF,⟨?_,?_,?_⟩,by rw[k7,k8];simpa using xV,by rw[k1];exact Off.new zL,by rw[k7];exact Off.new zL,by rw[k1,k7];omega,by rw[k2];omega,by rw[k8];omega⟩;simp;rw[X b (D.up zO) (D H zO) (D G zO)];exact o9 b D;rcases l7 with h|⟨u,L,h2,h3,h4⟩
 exact .inl h;refine .inr ⟨2*u+1,u,L,?_,T u _ zL zO zO⟩;simp;rw[X _ (Off.new zO) zO zO];exact h2;rw[k3,k4];refine sA.sets (T H _ zL zO zO) zS λz S=>?_;have:=(sA.s z S).2;exact⟨zS,T _ _ zL zO zO⟩;rw[k5,k6];refine sW.sets (T G _ zL zO zO) zS λz S=>?_;have:=(sW.s z S).2;exact⟨zS,T _ _ zL zO zO⟩
end
section
variable {g:Hist'}{M:List Int}
def jrl (c:Yt g=true) {i:Nat}(hi:i<(yi g).length):∃k:Nat,Wx g (yi g)[i]=k/\k<g.ks.length:=by
 obtain⟨a,b,f,h,e,d,j⟩:=jf4 c hi;unfold Yt at c;simp only[aj,aw]at c;have:=c.2.2.1 (g.ts[a].ops[b]) (by
  unfold jds;exact cq.2 ⟨g.ts[a],au f,au h⟩)
 simp only[opB,Yn,aj,ze]at this;exact⟨(Wx g (yi g)[i]).toNat,by rw[d];omega,by rw[d];omega⟩
def jr6 (a:Yt g=true):g.ks.length<=40/\g.ts.length<=40:=by unfold Yt at a;simp only[aj]at a;have h:=a.1;unfold Y0 at h;simp only[aj,ze]at h;exact⟨h.2.2.2.1,h.2.2.2.2⟩
def j75 (f:WM g M=true) {r:Int×Int×Int}(a:r∈rdsF g M):∃(i:Nat) (p:Int×Int) (m:Int),(yi g)[i]? = some p/\M[i]? = some m/\r=(p.1,m,Wx g p):=by unfold rdsF at a;obtain⟨⟨p,m⟩,e,rfl⟩:=aI.1 a;obtain⟨i,d⟩:=List.mem_iff_getElem?.1 e;obtain⟨c,b⟩:=fF.1 d;exact⟨i,p,m,c,b,rfl⟩
def rds_ok (d:WM g M=true):∀r∈rdsF g M,RdOk r:=λr l=>by obtain⟨i,p,m,q,j,rfl⟩:=j75 d l;have c:=Yz (YV d);have s:=jr6 c;obtain⟨e,rfl⟩:=ak.1 q;obtain⟨k,t,f⟩:=jrl c e;obtain⟨a,u,o⟩:=comL_mem.1 (jrm (au e));have:=XG o;refine⟨⟨zO,zO⟩,?_,by show 0<=Wx g _;omega,by show Wx g _<64;omega⟩;show m<64;rcases jpl d (aJ j) with h|h;omega;obtain⟨b,v,n⟩:=comL_mem.1 h;have:=XG n;omega
def jkz (p:Nat->Bool) (L:List Nat) (a:Nat):(Y3 0 (L.filter p)).testBit a=decide (a∈L/\p a=true):=by rw[js5,Nat.zero_testBit,bS,bz,cB,bK,ze]
def j8m (u:WM g M=true) (z:g.ts.length<=8) (w t:Nat):j28 (rdsF g M) (jbi g) (Qd g) w t=jpf g M (λa=>w.testBit a) t:=by
 have b:=Yz (YV u);unfold j28 jpf;congr 1;rw[bz,aw,andTo_iff];constructor;intro h a l;by_cases o:Ju g a=true;by_cases c:yE g a=yE g t;have q:=XG o;have:=h a (bitsUp_mem.2 ⟨zO,by unfold jbi;rw[jkz,ze];exact⟨comN_mem.2 o,by simp[WP,c,l]⟩⟩);simp[this];simp[c];simp[o];intro h a l;have f:=(bitsUp_mem.1 l).2;unfold jbi at f;rw[jkz,ze]at f;obtain⟨n,d⟩:=f;simp only[WP,aj,ze,zh]at d;have:=h a d.1;simpa[comN_mem.1 n,d.2] using this;rw[List.not_any_eq_all_not,rdsF,dN,bz,aw,aw];refine forall_congr' λx=>forall_congr' λs=>?_;obtain⟨p,m⟩:=x;obtain⟨i,r⟩:=List.mem_iff_getElem?.1 s;obtain⟨n,d⟩:=fF.1 r;obtain⟨j,rfl⟩:=ak.1 n;obtain⟨k,y,e⟩:=jrl b j;have v:(Qd g t).testBit k=Jp g t k:=by unfold Qd Q9;rw[jkz,bz,ze,bf];exact⟨λh=>h.2,λh=>⟨e,h⟩⟩
 simp only[Function.comp,barB,y,ba,v,jdj];split;cases decide (m<0)<;>cases w.testBit m.toNat<;>rfl;cases w.testBit (yi g)[i].1.toNat<;>cases decide (m<0)<;>cases w.testBit m.toNat<;>cases Jp g t k<;>rfl
end
def jod (vis:List Nat):List (Int×Int):=vis.map λv:Nat=>((v:Int),(1:Int))
def jqu (y:Nat):∀a:List Nat,(match jz (jod a) (y:Int) with|some p=>jht p.2|none=>V.int .i64 0)=.int .i64 (if a.contains y then 1 else 0)
 |[]=>rfl
 |v::a=>by
  have b:=jqu y a;unfold jod at b ⊢;rw[aZ,jz,dD];by_cases h:y=v;subst h;simp[jht];have d:¬(y:Int)=v:=zO;have e:(y==v)=false:=by simpa using h
  rw[za d,e,bS,<- b];cases jz (a.map λv:Nat=>((v:Int),(1:Int))) (y:Int)<;>rfl
def j66 {w:Nat}{vis:List Nat}(h:w ∉ vis):Wm (jod vis) (w:Int) 1=jod (vis++[w]):=by
 have:jz (jod vis) (w:Int)=none:=by
  rw[mfind_none];unfold jod;rw[cM,aI];rintro⟨v,a,e⟩;have b:(v:Int)=w:=by simpa using e
  have:v=w:=zO;exact h (this▸a)
 unfold Wm;rw[this];simp[jod]
def jqt {ob:ZO}{l u:Nat}{vis:List Nat}{y:Nat}(h:jY ob l u=some (MK .u64 jht (jod vis))):Yh ob .int (.int .i64 0) false (.map l u) (.int .u64 (y:Int))=some (.int .i64 (if vis.contains y then 1 else 0)):=by rw[jdx (q:=.u64) (f:=jht) _ h,<- jqu y vis];cases jz (jod vis) (y:Int)<;>rfl
def OrdV (ob:ZO) (lo hi:Nat) (ov:V) (done:List Nat):Prop :=
 (ov=.sl none true 0 []/\done=[])\/∃u cs,ov=.osl (2*u+1) u 0 done.length 1/\ob (2*u+1)=some ⟨u,.cells ((yt done).flatMap yf++cs)⟩/\lo<=u/\u<hi
def OrdV.frame {ob ob':ZO}{lo hi hi':Nat}{ov:V}{done:List Nat}(h:OrdV ob lo hi ov done) (b:∀u,lo<=u->u<hi->ob' (2*u+1)=ob (2*u+1)) (g:hi<=hi'):OrdV ob' lo hi' ov done:=by rcases h with h|⟨u,cs,f,d,a,e⟩;exact .inl h;exact .inr ⟨u,cs,f,(b u a e).trans d,a,zO⟩
structure OnC where
 g:Hist'
 M:List Int
 N:FN
 rv:V
 tc:Option (Nat×Nat)
 most:Int
 n0:Nat
 n1:Nat
 uS:Nat
def OnC.al (c:OnC):V:=.sl c.tc (ym c.g).isEmpty (ym c.g).length ((ym c.g).flatMap yf)
structure OnC.Ok (c:OnC):Prop where
 m:WM c.g c.M=true
 l:c.g.ts.length<=8
 f:Off c.n0 c.N.kF
 v:Off c.n0 c.N.kV
 fv:c.N.kF≠c.N.kV
 s:c.n0<=c.uS/\c.uS<c.n1
 r:(rdsF c.g c.M).length<=1000000
structure OnS (c:OnC) (w:Nat) (done vis:List Nat) (sp:Bool) (ob:ZO) (ub:Nat):Prop where
 f:∃ov,ob c.N.kF=some ⟨c.N.uF,.cells (fdC c.g c.N c.rv c.al ov c.most sp)⟩/\OrdV ob c.n1 ub ov done
 d:Fd c.N c.rv (rdsF c.g c.M) (yC c.g) (jbi c.g) (Qd c.g) c.n0 ob
 v:∃ver,ob c.N.kV=some ⟨c.N.uV,.mp ver (MK .u64 jht (jod vis))⟩
 s:ob (2*c.uS+1)=some ⟨c.uS,.cells (yv w)⟩
def OnC.Rest (c:OnC) (ob ob':ZO):Prop:=∀key,Off c.n1 key->key≠c.N.kF->key≠c.N.kV->key≠2*c.uS+1->ob' key=ob key
def OnC.Ok.fix {c:OnC}(h:c.Ok) {key:Nat}(a:FixF c.N c.n0 key):Off c.n1 key/\key≠c.N.kF/\key≠c.N.kV/\key≠2*c.uS+1:=by have:=h.s;exact⟨a.o.up zO,a.f,a.v,a.o c.uS this.1⟩
def OnR (c:OnC) (w:Nat) (done:List Nat) (R:R3) (ob:ZO) (ub:Nat) (r:V×(ZO)×(Nat->Bool)×Nat):Prop :=
 r.1=.bool R.1.isSome/\ub<=r.2.2.2/\c.Rest ob r.2.1/\∃w' done',OnS c w' done' R.2.2 R.2.1 r.2.1 r.2.2.2/\(∀l,R.1=some l->done'=l)/\(R.1=none->R.2.1=false->w'=w/\done'=done)
def jnz {k:Nat}:∀{L:List Nat}{w:Nat},w<2^k->(∀a∈L,a<k)->Y3 w L<2^k
 |[],_,hw,_=>hw
 |a::L,w,hw,h=>by refine jnz (L:=L) (w:=w|||1<<<a) (dJ hw ?_) λb d=>h b (aV _ d);rw[da];exact dU zQ (h a (aM ..))
section
variable {c:OnC}
def cl_lt (a:c.Ok) {t:Nat}(h:t∈yC c.g):t<8:=by have:=XG (comN_mem.1 h);have:=a.l;omega
def j5h (b:c.Ok) (t:Nat):jbi c.g t<512:=by
 have:jbi c.g t<2^9:=jnz zQ λa d=>by have:=cl_lt b (bK.1 d).1;omega
 exact this
def jv2 (b:c.Ok) (t:Nat):Qd c.g t<2^64:=jc8 zQ λa d=>by have:=bf.1 (bK.1 d).1;have:=(jr6 (Yz (YV b.m))).1;omega
end
end Go.Pv.T
