/- Part. -/
import Derived.Test.YtmanndcfeicokaaGreatDoorTAN
set_option maxRecDepth 100000
set_option maxHeartbeats 8000000
set_option linter.all false
namespace Go.Pv.T
open Go Go.Pv
def jk6 {st:St}{ub:Nat}{K:List FP->St->Prop}{d:Option Nat}{nm:Bool}{r:List AOpr}(h:YW E r K (ye E st.tm) .mkMap st d ub { v:=.map (jI d nm st.fb ub) ub,obs:=[(jI d nm st.fb ub,⟨ub,.mp 0 []⟩)] }):jG E (⟨d,.mkMap,none,nm⟩::r) st ub K:=by rw[jz rfl];simp only[yS,Jo,jJ,Jm];exact h
end Go.Pv.T
namespace Go.Pv.T
open Go Go.Pv
end Go.Pv.T
namespace Go.Pv.T
open Go Go.Pv
end Go.Pv.T
namespace Go.Pv.T
open Go Go.Pv
section
end
def j2e {c:Type}{f:c->List V}{k:Nat}(b:∀a,(f a).length=k) (nl:Bool) (l:List c) (n:Nat) (kk:IntKind):Y5 k none (some (.int kk ((min l.length n:Nat):Int))) (yl nl f l)=some (.sl none nl (min l.length n) ((l.take n).flatMap f)):=by have d:=joz (kk:=kk) (t:=none) (nl:=nl) (sz:=k) (cs:=l.flatMap f) (n:=l.length) (k:=min l.length n) (eS _ _) (j4 b _);refine Eq.trans d ?_;rw[jb9 b];congr 2;rcases iA l.length n with h|h;rw[cC h,bk,aJ h];rw[fK h]
def jty {st:St}{k:Nat}{v:V}(h:v.pureLeaf=true):Ja st (k+1) v=some v:=by
 cases v with
 |sl t b n cs=>cases t with
  |none=>rfl
  |some t=>cases h
 |osl l u a n s=>cases h
 |_=>simp[Ja,h]
def jfs {st:St}{k:Nat}:∀{l:List V},l.all V.pureLeaf=true->l.mapM (Ja st (k+1))=some l
 |[],_=>rfl
 |v::l,h=>by rw[bH,ab]at h;rw[bP,jty h.1,jfs h.2];rfl
def j3q (l:List Op'):(l.flatMap yQ).all V.pureLeaf=true:=by rw[fS,av];intro t _;rfl
def jr9 {f:V->Option V}:∀{l m l' a:List V},l.mapM f=some l'->m.mapM f=some a->(l++m).mapM f=some (l'++a)
 |[],m,l',a,h,h'=>by cases (show some []=some l' from h);exact h'
 |v::l,m,l',a,h,h'=>by
  rw[bP]at h;rw[de,bP];cases c:f v with
  |none=>rw[c]at h;cases h
  |some e=>
   rw[c]at h;cases b:l.mapM f with
   |none=>rw[b]at h;cases h
   |some r=>rw[b]at h;cases (show some (e::r)=some l' from h);rw[jr9 b h'];rfl
def txU (p:Txn'×Nat):List V:=[.int .i64 p.1.s,.int .i64 p.1.f,.osl (2*p.2+1) p.2 0 p.1.ops.length 4]
@[simp] theorem Q8 (p:Txn'×Nat):(txU p).length=3:=rfl
structure InO (ob:ZO) (lo hi:Nat) (p:Txn'×Nat):Prop where
 nl:p.1.nl=false
 lo:lo<=p.2
 hi:p.2<hi
 ob:∃X,ob (2*p.2+1)=some ⟨p.2,.cells X⟩/\p.1.ops.length*4<=X.length/\X.take (p.1.ops.length*4)=p.1.ops.flatMap yQ
def InO.frame {ob ob':ZO}{lo hi hi':Nat}{p:Txn'×Nat}(h:InO ob lo hi p) (a:ob' (2*p.2+1)=ob (2*p.2+1)) (b:hi<=hi'):InO ob' lo hi' p :=
 ⟨h.nl,h.lo,by have:=h.hi;omega,by rw[a];exact h.ob⟩
def TsO (ob:ZO) (lo hi:Nat) (P:List (Txn'×Nat)) (v:V):Prop :=
 (∀p∈P,InO ob lo hi p)/\((P=[]/\v=.sl none true 0 [])\/(P≠[]/\∃u,lo<=u/\u<hi/\(∀p∈P,p.2≠u)/\v=.osl (2*u+1) u 0 P.length 3/\ob (2*u+1)=some ⟨u,.cells (P.flatMap txU)⟩))
def TsO.frame {ob ob':ZO}{lo hi hi':Nat}{P:List (Txn'×Nat)}{v:V}(h:TsO ob lo hi P v) (e:∀u,lo<=u->u<hi->ob' (2*u+1)=ob (2*u+1)) (g:hi<=hi'):TsO ob' lo hi' P v:=by refine⟨λp a=>(h.1 p a).frame (e _ (h.1 p a).lo (h.1 p a).hi) g,?_⟩;rcases h.2 with c|⟨b,u,f,c,i,j,k⟩;exact .inl c;exact .inr ⟨b,u,f,zO,i,j,by rw[e u f c];exact k⟩
def j2d {st:St}{lo hi:Nat}{p:Txn'×Nat}(h:InO st.ob lo hi p) (i:st.ro<=lo):Ja st 5 (.osl (2*p.2+1) p.2 0 p.1.ops.length 4)=some (yl p.1.nl yQ p.1.ops):=by
 obtain⟨X,e,g,f⟩:=h.ob;have c:=h.lo;have a:j0 st.ob (2*p.2+1) p.2=some X:=by simp[j0,e]
 show((j0 st.ob (2*p.2+1) p.2).bind λcs=>if Nat.ble st.ro p.2=true/\0+p.1.ops.length*4<=cs.length then (((cs.drop 0).take (p.1.ops.length*4)).mapM (Ja st 4)).map λb=>V.sl none false p.1.ops.length b else none)=_;rw[a,ap,zb ⟨bY▸zO,zO⟩,dy,f,jfs (j3q _),h.nl];rfl
def jl5 {st:St}{lo hi:Nat}(a:st.ro<=lo):∀{P:List (Txn'×Nat)},(∀p∈P,InO st.ob lo hi p)->(P.flatMap txU).mapM (Ja st 5)=some ((P.map (·.1)).flatMap jl)
 |[],_=>rfl
 |p::P,h=>by rw[aZ,bc,aZ];refine jr9 ?_ (jl5 a λq b=>h q (aS _ b));have:=j2d (h p (aK ..)) a;show[V.int .i64 p.1.s,.int .i64 p.1.f,.osl (2*p.2+1) p.2 0 p.1.ops.length 4].mapM (Ja st 5)=_;rw[bP,bP,bP,this];rfl
def TsO.out {st:St}{lo hi:Nat}{P:List (Txn'×Nat)}{v:V}(h:TsO st.ob lo hi P v) (e:st.ro<=lo):jde st v P.isEmpty P.length ((P.map (·.1)).flatMap jl):=by
 rcases h.2 with⟨rfl,rfl⟩|⟨c,u,m,k,l,rfl,j⟩;exact Xc _ none true 0 [];intro keep i;have a:j0 st.ob (2*u+1) u=some (P.flatMap txU):=by simp[j0,j]
 have f:Ja st 6 (.osl (2*u+1) u 0 P.length 3)=some (.sl none false P.length ((P.map (·.1)).flatMap jl)):=by show((j0 st.ob (2*u+1) u).bind λcs=>if Nat.ble st.ro u=true/\0+P.length*3<=cs.length then (((cs.drop 0).take (P.length*3)).mapM (Ja st 5)).map λb=>V.sl none false P.length b else none)=_;rw[a,ap,zb ⟨bY▸zO,by rw[j4 Q8];omega⟩,dy,<- j4 Q8 P,bk,jl5 e h.1];rfl
 have g:P.isEmpty=false:=by cases P<;>simp_all
 rw[g];refine⟨_,by simp only[jw,f,ap,a,aU];rfl,?_⟩;split;exact .inr ⟨_,rfl⟩;exact .inl rfl
section
variable {Yf:YF}{st:St}{ub:Nat}{K:St->Nat->Prop}{d:Nat}
def j34 {v:Type}{f:v->List V}{l:List v}{z sz c:Nat}{s x:A}(w:ye E st.tm s=.osl (2*z+1) z 0 0 sz) (j:st.ob (2*z+1)=some ⟨z,.cells []⟩) (p:st.ro<=z)
 (y:jF st.ob sz (ye E st.tm x)=some (l.flatMap f)) (r:∀a,(f a).length=sz) (m:0<sz) (hp:(l.flatMap f).all V.leaf=true) (D:l.length*c<=140737488355328) (o:l.length<=140737488355328)
 (h:∀(g:St) (u:Nat),(u=z\/u=ub)->g.ob (2*u+1)=some ⟨u,.cells (l.flatMap f)⟩->(∀b,b≠2*z+1->b≠2*ub+1->g.ob b=st.ob b)->(∀t,g.tm t=if t=d then .osl (2*u+1) u 0 l.length sz else st.tm t)->g.df=st.df->g.ro=st.ro->g.fb=st.fb->g.tk=st.tk->K g (ub+64)) :
 jB E Yf ⟨some d,.append true sz c s x,none,true⟩ st ub K:=by
 cases l with
 |nil=>
  rw[jR _ rfl rfl];simp only[yS,w,y,ap,List.flatMap_nil,zd];have i:j0 st.ob (2*z+1) z=some []:=by simp[j0,j]
  rw[i,ap,WV];show QW K st (some d) ub _;rw[jcx];exact h _ z (.inl rfl) (zU j) (λb _ _=>by simp) (λt=>by rw[jn3];rfl) rfl rfl rfl zS
 |cons a l=>
  have q:((a::l).flatMap f).length/sz=(a::l).length:=by rw[j4 r];exact eE _ m
  have k:(a::l).flatMap f≠[]:=λe=>by have:=zg List.length e;rw[j4 r]at this;have:=Nat.mul_pos (show 0<(a::l).length by simp) m;simp_all
  refine Xm (l:=2*z+1) (u:=z) (n:=0) (cs:=[]) (ys:=(a::l).flatMap f) w y j k p zS m hp (by rw[q,bK];exact D) (by rw[q,bK];exact o) ?_;rw[jcx,q,bK];refine h _ ub (.inr rfl) ?_ (λb B F=>?_) (λt=>by rw[jn3];rfl) rfl rfl rfl ?_;simp[jI];simp[jI,B,F];rfl
def jpy {lo hi:Nat}{P:List (Txn'×Nat)}{p:Txn'×Nat}{s x:A}(i:TsO st.ob lo hi P (ye E st.tm s)) (I:hi<=ub) (D:st.ro<=lo) (o:jF st.ob 3 (ye E st.tm x)=some (txU p)) (hp:InO st.ob hi ub p) (F:lo<=hi) (r:P.length<=100000)
 (h:∀(c:St) (m:V),TsO c.ob lo (ub+64) (P++[p]) m->(∀b,(∀u,lo<=u->u<hi->b≠2*u+1)->b≠2*ub+1->c.ob b=st.ob b)->(∀t,c.tm t=if t=d then m else st.tm t)->c.df=st.df->c.ro=st.ro->c.fb=st.fb->c.tk=st.tk->K c (ub+64)) :
 jB E Yf ⟨some d,.append true 3 40 s x,none,true⟩ st ub K:=by
 have y:=hp.lo;have G:=hp.hi;rcases i.2 with⟨rfl,z⟩|⟨v,u,J,w,B,H,L⟩;refine X8 (n:=0) (cs:=[]) (ys:=txU p) z o (by simp[txU]) zQ rfl zS zS ?_;rw[jcx,show(txU p).length/3=1 by rw[Q8]];refine h _ (.osl (2*ub+1) ub 0 1 3) ⟨?_,.inr ⟨zS,ub,zO,zO,?_,zS,?_⟩⟩ (λb k f=>?_) (λt=>by rw[jn3];rfl) rfl rfl rfl ?_;intro q a;simp only[dq,ag]at a;subst a;refine⟨hp.nl,zO,zO,?_⟩;have:¬2*q.2=2*ub:=zO;simpa[jI,XK,this] using hp.ob;intro q a;simp only[dq,ag]at a;subst a;omega;simp[jI,XK];simp[jI,XK,f];rfl;refine Xm (l:=2*u+1) (u:=u) (n:=P.length) (cs:=P.flatMap txU) (ys:=txU p) H o L (by simp[txU]) zO (by rw[j4 Q8];omega) zQ rfl zP zP ?_;rw[jcx,show(txU p).length/3=1 by rw[Q8]];refine h _ (.osl (2*ub+1) ub 0 (P.length+1) 3) ⟨?_,.inr ⟨zS,ub,zO,zO,?_,zS,?_⟩⟩ (λb k f=>?_) (λt=>by rw[jn3];rfl) rfl rfl rfl ?_;intro q a;rw[aQ,ag]at a;rcases a with a|rfl;have hi:=i.1 q a;refine⟨hi.nl,hi.lo,by have:=hi.hi;omega,?_⟩;have g:¬2*q.2=2*ub:=by have:=hi.hi;omega
 have j:¬2*q.2=2*u:=by have:=B q a;omega
 simpa[jI,g,j] using hi.ob;refine⟨hp.nl,zO,zO,?_⟩;have g:¬2*q.2=2*ub:=zO;have j:¬2*q.2=2*u:=zO;simpa[jI,g,j] using hp.ob;intro q a;rw[aQ,ag]at a;rcases a with a|rfl;have:=(i.1 q a).hi;omega;omega;simp[jI];exact aJ (by rw[j4 Q8];omega);have e:=k u J w;simp[jI,e,f];rfl
end
section
variable {E:Env}{st:St}{ub:Nat}{K:List FP->St->Prop}{d:Option Nat}{r:List AOpr}
def YB {sz n:Nat}{zero:List V}{a:List (Nat×Nat×A)}{cs:List V}(b:fill zero (JB (ye E st.tm) a)=some cs) (c:cs.length=n*sz) (hp:cs.all V.leaf=true)
 (h:YW E r K (ye E st.tm) (.buildSl true sz zero a n) st d ub { v:=.osl (2*ub+1) ub 0 n sz,obs:=[(2*ub+1,⟨ub,.cells cs⟩)] }):jG E (⟨d,.buildSl true sz zero a n,none,true⟩::r) st ub K:=by
 rw[jz rfl];simp only[yS,b,ap,zd];rw[zb ⟨c,hp⟩,Jo,jJ];exact h
end
def jgx {b a:Type}{l:List b}{m:List a}(h:l.length=m.length):l.isEmpty=m.isEmpty:=by cases l<;>cases m<;>simp_all
def StO (ob:ZO) (lo hi:Nat) (l:List (List UInt8)) (v:V):Prop :=
 (l=[]/\v=.sl none true 0 [])\/(l≠[]/\∃u,lo<=u/\u<hi/\v=.osl (2*u+1) u 0 l.length 1/\ob (2*u+1)=some ⟨u,.cells (l.flatMap Jp)⟩)
def StO.frame {ob ob':ZO}{lo hi lo' hi':Nat}{l:List (List UInt8)}{v:V}(h:StO ob lo hi l v) (b:∀u,lo<=u->u<hi->ob' (2*u+1)=ob (2*u+1)) (g:lo'<=lo) (i:hi<=hi'):StO ob' lo' hi' l v:=by rcases h with h|⟨a,u,f,c,d,e⟩;exact .inl h;exact .inr ⟨a,u,zO,zO,d,by rw[b u f c];exact e⟩
def StO.leaf {ob:ZO}{lo hi:Nat}{l:List (List UInt8)}{v:V}(h:StO ob lo hi l v):v.leaf=true/\v.cells=[v]:=by rcases h with⟨_,rfl⟩|⟨_,u,_,_,rfl,_⟩<;>exact⟨rfl,rfl⟩
def TsO.leaf {ob:ZO}{lo hi:Nat}{P:List (Txn'×Nat)}{v:V}(h:TsO ob lo hi P v):v.leaf=true/\v.cells=[v]:=by rcases h.2 with⟨_,rfl⟩|⟨_,u,_,_,_,rfl,_⟩<;>exact⟨rfl,rfl⟩
def StO.out {st:St}{lo hi:Nat}{l:List (List UInt8)}{v:V}(h:StO st.ob lo hi l v) (e:st.ro<=lo):jde st v l.isEmpty l.length (l.flatMap Jp):=by
 rcases h with⟨rfl,rfl⟩|⟨b,u,f,d,rfl,c⟩;exact Xc _ none true 0 [];have a:l.isEmpty=false:=by cases l<;>simp_all
 rw[a];exact jfu c (by rw[j4 Ym,bB]) zO (by rw[fS,av];intro _ _;rfl)
def jK (st:St) (d:Option Nat) (v:V) (l k:Nat) (o':Obj') (ks:List Nat):(st.app d { v:=v,obs:=[(l,o')],kill:=ks }).ob k=if k=l then some o' else if ks.any (Nat.beq k) then none else st.ob k:=by simp[St.app,Ji,yg]
def jgv {E:Env}{st:St}{ub:Nat}{K:List FP->St->Prop}{d:Option Nat}{r:List AOpr}{lo hi:Nat}{l:List (List UInt8)}{c:List UInt8}{s x:A}(w:StO st.ob lo hi l (ye E st.tm s)) (m:jF st.ob 1 (ye E st.tm x)=some (Jp c)) (t:st.ro<=lo) (i:l.length<=1000)
 (h:∀j:List Nat,(∀k∈j,∃u,lo<=u/\u<hi/\k=2*u+1)->YW E r K (ye E st.tm) (.append true 1 16 s x) st d ub { v:=.osl (2*ub+1) ub 0 (l.length+1) 1,obs:=[(2*ub+1,⟨ub,.cells ((l++[c]).flatMap Jp)⟩)],kill:=j }) :
 jG E (⟨d,.append true 1 16 s x,none,true⟩::r) st ub K:=by
 rw[jz rfl];rcases w with⟨rfl,p⟩|⟨n,u,z,o,q,y⟩;simp only[yS,p,m,ap];rw[za (by simp[Jp]),zb (show(true&&true)=true from rfl),zb ⟨zQ,rfl,by simp[Jp],by simp[Jp]⟩,Jo,jJ];have:=h [] (λk b=>by cases b);have e:([]++[c]).flatMap Jp=Jp c:=zS;rw[e]at this;have g:(Jp c).length/1=1:=by simp[Jp]
 rw[g];exact this;have f:j0 st.ob (2*u+1) u=some (l.flatMap Jp):=by simp[j0,y]
 simp only[yS,q,m,ap,f];have a:(l.flatMap Jp).length=l.length:=by rw[j4 Ym,bB]
 rw[za (by simp[Jp]),zb ⟨bY▸zO,trivial,trivial,by rw[a];omega,zQ,rfl,by simp[Jp];omega,by simp[Jp];omega⟩,jJ];have:=h [2*u+1] (λk b=>by simp only[ag]at b;exact⟨u,z,o,b⟩);have e:(l++[c]).flatMap Jp=(l.flatMap Jp).take (l.length*1)++Jp c:=by rw[aJ (by rw[a];omega),cn];simp
 rw[e]at this;have g:(Jp c).length/1=1:=by simp[Jp]
 rw[g];exact this
def j61 {ks:List Nat}{key:Nat}(h:∀k∈ks,key≠k):ks.any (Nat.beq key)=false:=by rw[gU];intro k a b;exact h k a (bo b)
noncomputable def few1S:C:=tlC (tlC S27.body)
noncomputable def few2S:C:=tlC few1S
noncomputable def few3S:C:=tlC few2S
noncomputable def few4S:C:=tlC few3S
structure FewO (h:Hist') (ob0:ZO) (ub ro:Nat) (s:St) (a b N1 N2:Nat) (Sv Kv Tv:V) (P:List (Txn'×Nat)):Prop where
 t1:s.tm 1=.ptr (2*ub+1) ub 0
 t2:s.tm 2=.ptr (2*(ub+64)+1) (ub+64) 0
 t3:s.tm 3=.ptr (2*(ub+192)+1) (ub+192) 0
 d:s.df=[]
 ro:s.ro=ro
 o1:s.ob (2*ub+1)=some ⟨ub,.cells (ya h)⟩
 o2:s.ob (2*(ub+64)+1)=some ⟨ub+64,.cells [.sl none true 0 [],.sl none true 0 [],.sl none true 0 []]⟩
 o3:s.ob (2*(ub+192)+1)=some ⟨ub+192,.cells [Sv,Kv,Tv]⟩
 gS:StO s.ob (ub+256) N1 (Wz a h.ss) Sv
 gK:StO s.ob N1 N2 (Wz b h.ks) Kv
 gT:TsO s.ob N2 s.nx P Tv
 n0:ub+256<=N1
 n1:N1<=N2
 n2:N2<=s.nx
 fr:∀key,(∀m,ub<=m->key≠2*m+1)->s.ob key=ob0 key
def few0S {h:Hist'}{Yf:YF}{ob:ZO}{tk:Nat->Bool}{ro base ub:Nat}{Q:Ex->St->Prop}(d:ro<=ub) (a:∀s,FewO h ob ub ro s 0 0 s.nx s.nx (.sl none true 0 []) (.sl none true 0 []) (.sl none true 0 []) []->wpC E Yf few1S s Q) :
 wpC E Yf S27.body (XA [.agg (ya h)] ob tk ro base ub) Q:=by
 have e:S27.body=.seq (hdC S27.body) (.seq (hdC (tlC S27.body)) few1S):=rfl;rw[e];conv in(occs:=*)S27=>all_goals cbv
 simp[hdC,tlC,ya,j0,j6];have a1:¬2*ub=2*(ub+64):=zO;have a2:¬2*ub=2*(ub+64+64+64):=zO;have a3:¬2*(ub+64)=2*(ub+64+64+64):=zO;refine⟨zO,a _ ⟨zS,zS,zS,zS,zS,by simp[ya,a1,a2],by simp[a3],zS,.inl ⟨rfl,rfl⟩,.inl ⟨rfl,rfl⟩,⟨zS,.inl ⟨rfl,rfl⟩⟩,zS,zK,zK,λc b=>?_⟩⟩;have f:=b ub zK;have i:=b (ub+64) zO;have g:=b (ub+64+64+64) zO;simp[f,i,g]
def j42:few1S=.seq (hdC few1S) few2S:=rfl
def few1O {h:Hist'}{Yf:YF}{ob0:ZO}{ub ro:Nat}{K:St}{Q:Ex->St->Prop}(b6:ro<=ub) (hs:FewO h ob0 ub ro K 0 0 K.nx K.nx (.sl none true 0 []) (.sl none true 0 []) (.sl none true 0 []) [])
 (p:∀s B,FewO h ob0 ub ro s 25 0 s.nx s.nx B (.sl none true 0 []) (.sl none true 0 []) []->wpC E Yf few2S s Q):wpC E Yf few1S K Q:=by
 rw[j42];obtain⟨o,I,t,J,fr,D,L,w,T,gK,gT,n0,n1,n2,H⟩:=hs;simp only[few1S];conv in(occs:=*)S27=>all_goals cbv
 simp[hdC,tlC];refine j9 [(4,4),(9,37)] 25 (λi s=>s.tm 4=.int .i64 i/\i<=h.ss.length/\∃B,FewO h ob0 ub ro s i 0 s.nx s.nx B (.sl none true 0 []) (.sl none true 0 []) []) rfl rfl ?_ ?_;refine⟨zS,zS,.sl none true 0 [],⟨by simp[o],by simp[I],by simp[t],by simp[J],by simp[fr],by simp[D],by simp[L],by simp[w],.inl ⟨rfl,rfl⟩,.inl ⟨rfl,rfl⟩,⟨zS,.inl ⟨rfl,rfl⟩⟩,by simp;omega,zK,zK,λa e=>by simp[H a e]⟩⟩;rintro i s hi ⟨G,b0,B,o,I,t,J,fr,D,L,w,T,gK,gT,n0,n1,n2,H⟩ f;clear f;have n:¬(i<h.ss.length/\i<25)->∀g:St,(g.tm 1=s.tm 1/\g.tm 2=s.tm 2/\g.tm 3=s.tm 3)->g.df=s.df->g.ro=s.ro->g.ob=s.ob->s.nx<=g.nx->wpC E Yf few2S g Q:=by intro hx g ⟨q1,q2,q3⟩ e2 e3 y e5;refine p g B ⟨q1.trans o,q2.trans I,q3.trans t,by rw[e2];exact J,by rw[e3];exact fr,by rw[y];exact D,by rw[y];exact L,by rw[y];exact w,?_,.inl ⟨rfl,rfl⟩,⟨zS,.inl ⟨rfl,rfl⟩⟩,zO,zK,zK,λa e=>by rw[y];exact H a e⟩;rw[<- jsx b0 hi hx,y];exact T.frame (λ_ _ _=>rfl) zK e5
 have r:s.ob (2*ub+1)=some ⟨ub,.cells [yl h.sn Jp h.ss,yl h.kn Jp h.ks,yl h.tn jl h.ts]⟩:=D;by_cases b:i<h.ss.length;by_cases q:i<25;have hw:=jb q zO;have d:(i:Int)<25:=zO;obtain⟨c,hc⟩:∃c,h.ss[i]=c:=⟨_,rfl⟩;have x:=jib h.ss b;have m:=jnr b q;rw[hc]at x m;have F:=jkw c.length 100;have z:=jq8 (l:=c) (kk:=.i64) (eS c.length 100);have S:=jfo c;rw[S]at z;rw[show((100:Nat):Int)=100 from rfl]at F;simp[F,z,G,o,r,j0,b,d,t,w,j7 Ym,x];refine YB (cs:=[.str (c.take 100)]) (by simp[j6]) rfl rfl ?_;simp;have b5:s.nx<=(s.nx+64+64+64+64+64+64+64+64+64+64+64+64+64+64+64+64+64+64+64+64+64+64+64+64):=zO;have b9:s.nx<=(s.nx+64+64+64+64+64+64+64+64+64+64+64+64+64+64+64+64+64+64+64+64+64+64+64+64+64):=zO;have b8:(s.nx+64+64+64+64+64+64+64+64+64+64+64+64+64+64+64+64+64+64+64+64+64+64+64+64)<(s.nx+64+64+64+64+64+64+64+64+64+64+64+64+64+64+64+64+64+64+64+64+64+64+64+64+64):=zO;have b7:=jsw i h.ss;refine jgv (lo:=ub+256) (hi:=s.nx) (l:=Wz i h.ss) (c:=c.take 100) ?_ (by simp[jF,j0];rfl) (by simp[fr];omega) zO λks U=>?_;simp;refine T.frame (λu X N=>?_) zK zK;have e1:¬2*u=2*(s.nx+64+64+64+64+64+64+64+64+64+64+64+64+64+64+64+64+64+64+64+64+64+64+64+64):=zO;simp[e1];rw[<- m];have v:(Wz i h.ss).length+1=(Wz (i+1) h.ss).length:=by rw[m];simp
 rw[v];have j:∀a,(∀u,ub+256<=u->u<s.nx->a≠2*u+1)->ks.any (Nat.beq a)=false:=λa e=>j61 λk P=>by obtain⟨u,X,N,h3⟩:=U k P;rw[h3];exact e u X N
 have O:=j (2*ub+1) (λu _ _=>by omega);have a0:=j (2*(ub+64)+1) (λu _ _=>by omega);have Z:=j (2*(ub+192)+1) (λu _ _=>by omega);have w1:¬2*ub=2*(s.nx+64+64+64+64+64+64+64+64+64+64+64+64+64+64+64+64+64+64+64+64+64+64+64+64+64):=zO;have w2:¬2*(ub+64)=2*(s.nx+64+64+64+64+64+64+64+64+64+64+64+64+64+64+64+64+64+64+64+64+64+64+64+64+64):=zO;have w3:¬2*(ub+192)=2*(s.nx+64+64+64+64+64+64+64+64+64+64+64+64+64+64+64+64+64+64+64+64+64+64+64+64+64):=zO;have w4:¬2*ub=2*(s.nx+64+64+64+64+64+64+64+64+64+64+64+64+64+64+64+64+64+64+64+64+64+64+64+64):=zO;have w5:¬2*(ub+64)=2*(s.nx+64+64+64+64+64+64+64+64+64+64+64+64+64+64+64+64+64+64+64+64+64+64+64+64):=zO;have w6:¬2*(ub+192)=2*(s.nx+64+64+64+64+64+64+64+64+64+64+64+64+64+64+64+64+64+64+64+64+64+64+64+64):=zO;have w7:¬2*(s.nx+64+64+64+64+64+64+64+64+64+64+64+64+64+64+64+64+64+64+64+64+64+64+64+64+64)=2*(ub+192):=zO;have w8:¬2*ub=2*(ub+192):=zO;have w9:¬2*(ub+64)=2*(ub+192):=zO;simp[t,j0,jK,Z,w3,w6,w,fr,j6,G,hw];refine⟨zO,?_,?_⟩;simp[Jc,W6,QR,Qe,yy,yz,yP,Delta.wo,Delta.wt];exact nbeq zO;have M:Wz (i+1) h.ss≠[]:=by rw[m];simp
 refine⟨q,zO,.osl (2*(s.nx+64+64+64+64+64+64+64+64+64+64+64+64+64+64+64+64+64+64+64+64+64+64+64+64+64)+1) (s.nx+64+64+64+64+64+64+64+64+64+64+64+64+64+64+64+64+64+64+64+64+64+64+64+64+64) 0 (Wz (i+1) h.ss).length 1,⟨by simp[o],by simp[I],by simp[t],by simp[J],by simp[fr],by simp[jK,O,w1,w4,w8,D],by simp[jK,a0,w2,w5,w9,L],zS,
  .inr ⟨M,(s.nx+64+64+64+64+64+64+64+64+64+64+64+64+64+64+64+64+64+64+64+64+64+64+64+64+64),zO,zS,rfl,by simp[jK,w7]⟩,.inl ⟨rfl,rfl⟩,⟨zS,.inl ⟨rfl,rfl⟩⟩,by simp;omega,zK,zK,λa e=>?_⟩⟩
 have k1:=e (ub+192) zO;have k2:=e (s.nx+64+64+64+64+64+64+64+64+64+64+64+64+64+64+64+64+64+64+64+64+64+64+64+64+64) zO;have k3:=e (s.nx+64+64+64+64+64+64+64+64+64+64+64+64+64+64+64+64+64+64+64+64+64+64+64+64) zO;have k4:=j a (λu X N=>e u zO);simp[jK,k1,k2,k3,k4];exact H a e;have d:¬(i:Int)<25:=zO;simp[G,o,r,j0,b,d];exact n zO _ ⟨zS,zS,zS⟩ zS zS (by funext k;simp) zP;simp[G,o,r,j0,b];exact n zO _ ⟨zS,zS,zS⟩ zS zS (by funext k;simp) zP
def j41:few2S=.seq (hdC few2S) few3S:=rfl
def few2O {h:Hist'}{Yf:YF}{ob0:ZO}{ub ro:Nat}{s0:St}{Q:Ex->St->Prop}{w:Nat}{S0:V}(b9:ro<=ub) (hs:FewO h ob0 ub ro s0 25 0 w s0.nx S0 (.sl none true 0 []) (.sl none true 0 []) [])
 (p:∀s B,FewO h ob0 ub ro s 25 45 w s.nx S0 B (.sl none true 0 []) []->wpC E Yf few3S s Q):wpC E Yf few2S s0 Q:=by
 rw[j41];obtain⟨o,L,v,M,fr,F,P,y,N,gK,gT,K,n1,n2,J⟩:=hs;simp only[few2S,few1S];conv in(occs:=*)S27=>all_goals cbv
 simp[hdC,tlC];refine j9 [(5,5),(38,66)] 45 (λi s=>s.tm 5=.int .i64 i/\i<=h.ks.length/\∃B,FewO h ob0 ub ro s 25 i w s.nx S0 B (.sl none true 0 []) []) rfl rfl ?_ ?_;refine⟨zS,zS,.sl none true 0 [],⟨by simp[o],by simp[L],by simp[v],by simp[M],by simp[fr],by simp[F],by simp[P],by simp[y],N.frame (λ_ _ _=>by simp) zK zK,.inl ⟨rfl,rfl⟩,⟨zS,.inl ⟨rfl,rfl⟩⟩,K,by simp;omega,zK,λa g=>by simp[J a g]⟩⟩;rintro i s hi ⟨I,b7,B,o,L,v,M,fr,F,P,y,N,gK,gT,K,n1,n2,J⟩ f;clear f;have n:¬(i<h.ks.length/\i<45)->∀j:St,(j.tm 1=s.tm 1/\j.tm 2=s.tm 2/\j.tm 3=s.tm 3)->j.df=s.df->j.ro=s.ro->j.ob=s.ob->s.nx<=j.nx->wpC E Yf few3S j Q:=by intro hx j ⟨q1,q2,q3⟩ e2 e3 t e5;refine p j B ⟨q1.trans o,q2.trans L,q3.trans v,by rw[e2];exact M,by rw[e3];exact fr,by rw[t];exact F,by rw[t];exact P,by rw[t];exact y,by rw[t];exact N,?_,⟨zS,.inl ⟨rfl,rfl⟩⟩,K,zO,zK,λa g=>by rw[t];exact J a g⟩;rw[<- jsx b7 hi hx,t];exact gK.frame (λ_ _ _=>rfl) zK e5
 have r:s.ob (2*ub+1)=some ⟨ub,.cells [yl h.sn Jp h.ss,yl h.kn Jp h.ks,yl h.tn jl h.ts]⟩:=F;by_cases d:i<h.ks.length;by_cases q:i<45;have hw:=jb q zO;have e:(i:Int)<45:=zO;obtain⟨c,hc⟩:∃c,h.ks[i]=c:=⟨_,rfl⟩;have z:=jib h.ks d;have m:=jnr d q;rw[hc]at z m;have G:=jkw c.length 100;have D:=jq8 (l:=c) (kk:=.i64) (eS c.length 100);have a0:=jfo c;rw[a0]at D;rw[show((100:Nat):Int)=100 from rfl]at G;simp[G,D,I,o,r,j0,d,e,v,y,j7 Ym,z];refine YB (cs:=[.str (c.take 100)]) (by simp[j6]) rfl rfl ?_;simp;have b8:s.nx<=(s.nx+64+64+64+64+64+64+64+64+64+64+64+64+64+64+64+64+64+64+64+64+64+64+64+64):=zO;have c2:s.nx<=(s.nx+64+64+64+64+64+64+64+64+64+64+64+64+64+64+64+64+64+64+64+64+64+64+64+64+64):=zO;have c1:(s.nx+64+64+64+64+64+64+64+64+64+64+64+64+64+64+64+64+64+64+64+64+64+64+64+64)<(s.nx+64+64+64+64+64+64+64+64+64+64+64+64+64+64+64+64+64+64+64+64+64+64+64+64+64):=zO;have c0:=jsw i h.ks;refine jgv (lo:=w) (hi:=s.nx) (l:=Wz i h.ks) (c:=c.take 100) ?_ (by simp[jF,j0];rfl) (by simp[fr];omega) zO λks b0=>?_;simp;refine gK.frame (λu O H=>?_) zK zK;have e1:¬2*u=2*(s.nx+64+64+64+64+64+64+64+64+64+64+64+64+64+64+64+64+64+64+64+64+64+64+64+64):=zO;simp[e1];rw[<- m];have x:(Wz i h.ks).length+1=(Wz (i+1) h.ks).length:=by rw[m];simp
 rw[x];have b:∀a,(∀u,w<=u->u<s.nx->a≠2*u+1)->ks.any (Nat.beq a)=false:=λa g=>j61 λk U=>by obtain⟨u,O,H,h3⟩:=b0 k U;rw[h3];exact g u O H
 have T:=b (2*ub+1) (λu _ _=>by omega);have b6:=b (2*(ub+64)+1) (λu _ _=>by omega);have b5:=b (2*(ub+192)+1) (λu _ _=>by omega);have w1:¬2*ub=2*(s.nx+64+64+64+64+64+64+64+64+64+64+64+64+64+64+64+64+64+64+64+64+64+64+64+64+64):=zO;have w2:¬2*(ub+64)=2*(s.nx+64+64+64+64+64+64+64+64+64+64+64+64+64+64+64+64+64+64+64+64+64+64+64+64+64):=zO;have w3:¬2*(ub+192)=2*(s.nx+64+64+64+64+64+64+64+64+64+64+64+64+64+64+64+64+64+64+64+64+64+64+64+64+64):=zO;have w4:¬2*ub=2*(s.nx+64+64+64+64+64+64+64+64+64+64+64+64+64+64+64+64+64+64+64+64+64+64+64+64):=zO;have w5:¬2*(ub+64)=2*(s.nx+64+64+64+64+64+64+64+64+64+64+64+64+64+64+64+64+64+64+64+64+64+64+64+64):=zO;have w6:¬2*(ub+192)=2*(s.nx+64+64+64+64+64+64+64+64+64+64+64+64+64+64+64+64+64+64+64+64+64+64+64+64):=zO;have w7:¬2*(s.nx+64+64+64+64+64+64+64+64+64+64+64+64+64+64+64+64+64+64+64+64+64+64+64+64+64)=2*(ub+192):=zO;have w8:¬2*ub=2*(ub+192):=zO;have w9:¬2*(ub+64)=2*(ub+192):=zO;simp[v,j0,jK,b5,w3,w6,y,fr,j6,I,hw];refine⟨zO,?_,?_⟩;simp[Jc,W6,QR,Qe,yy,yz,yP,Delta.wo,Delta.wt];exact nbeq zO;have S:Wz (i+1) h.ks≠[]:=by rw[m];simp
 refine⟨q,zO,.osl (2*(s.nx+64+64+64+64+64+64+64+64+64+64+64+64+64+64+64+64+64+64+64+64+64+64+64+64+64)+1) (s.nx+64+64+64+64+64+64+64+64+64+64+64+64+64+64+64+64+64+64+64+64+64+64+64+64+64) 0 (Wz (i+1) h.ks).length 1,⟨by simp[o],by simp[L],by simp[v],by simp[M],by simp[fr],by simp[jK,T,w1,w4,w8,F],by simp[jK,b6,w2,w5,w9,P],zS,
  N.frame (λu O H=>?_) zK zK,.inr ⟨S,(s.nx+64+64+64+64+64+64+64+64+64+64+64+64+64+64+64+64+64+64+64+64+64+64+64+64+64),zO,zS,rfl,by simp[jK,w7]⟩,⟨zS,.inl ⟨rfl,rfl⟩⟩,K,by first|omega|(simp;omega),zK,λa g=>?_⟩⟩
 have k1:¬2*u=2*(ub+192):=zO;have Z:¬2*u=2*(s.nx+64+64+64+64+64+64+64+64+64+64+64+64+64+64+64+64+64+64+64+64+64+64+64+64+64):=zO;have X:¬2*u=2*(s.nx+64+64+64+64+64+64+64+64+64+64+64+64+64+64+64+64+64+64+64+64+64+64+64+64):=zO;have k4:=b (2*u+1) (λu' _ _=>by omega);simp[jK,k1,Z,X,k4];have k1:=g (ub+192) zO;have Z:=g (s.nx+64+64+64+64+64+64+64+64+64+64+64+64+64+64+64+64+64+64+64+64+64+64+64+64+64) zO;have X:=g (s.nx+64+64+64+64+64+64+64+64+64+64+64+64+64+64+64+64+64+64+64+64+64+64+64+64) zO;have k4:=b a (λu O H=>g u zO);simp[jK,k1,Z,X,k4];exact J a g;have e:¬(i:Int)<45:=zO;simp[I,o,r,j0,d,e];exact n zO _ ⟨zS,zS,zS⟩ zS zS (by funext k;simp) zP;simp[I,o,r,j0,d];exact n zO _ ⟨zS,zS,zS⟩ zS zS (by funext k;simp) zP
end Go.Pv.T
