/- Part. -/
import Derived.Test.YtmanndcfeicokaaGreatDoorTAO
set_option maxRecDepth 100000
set_option maxHeartbeats 8000000
set_option linter.all false
namespace Go.Pv.T
open Go Go.Pv
def rdsF (g:Hist') (M:List Int):List (Int×Int×Int):=((yi g).zip M).map λx=>(x.1.1,x.2,We g x.1)
def jrk {g:Hist'}{M:List Int}(h:M.length=(yi g).length):(rdsF g M).length=(yi g).length:=by simp[rdsF,h]
def j8i {g:Hist'}{M:List Int}{i:Nat}(a:i<(yi g).length) (b:i<M.length):(rdsF g M)[i]? = some ((yi g)[i].1,M[i],We g (yi g)[i]):=by unfold rdsF;rw[aV,show((yi g).zip M)[i]? = some ((yi g)[i],M[i]) from dM.2 ⟨aa a,aa b⟩];rfl
def WI (g:Hist') (t a:Nat):Bool:=yD g a==yD g t
def Q0 (g:Hist') (t i:Nat):Nat:=XX 0 ((List.range i).filter λkey=>X9 g t key)
def RowG (ob:ZO) (lo hi:Nat) (v:V) (rs:List (Int×Int×Int)):Prop:=(v=.sl none true 0 []/\rs=[])\/∃u,v=.osl (2*u+1) u 0 rs.length 3/\ob (2*u+1)=some ⟨u,.cells (rs.flatMap rdC)⟩/\lo<=u/\u<hi
def RowG.frame {ob ob':ZO}{lo hi hi':Nat}{v:V}{rs:List (Int×Int×Int)}(h:RowG ob lo hi v rs) (b:∀u,lo<=u->u<hi->ob' (2*u+1)=ob (2*u+1)) (f:hi<=hi'):RowG ob' lo hi' v rs:=by rcases h with h|⟨u,e,c,a,d⟩;exact .inl h;exact .inr ⟨u,e,(b u a d).trans c,a,zO⟩
def ju7 {v:V}{rs:List (Int×Int×Int)}{r:Int×Int×Int}{s x:A}{st:St}{lo hi ub:Nat}{K:List FP->St->Prop}{d:Option Nat}{q:List AOpr}(e:ye E st.tm s=v) (m:RowG st.ob lo hi v rs) (l:st.ro<=lo)
 (f:jF st.ob 3 (ye E st.tm x)=some (rdC r)) (o:rs.length<=1000000)
 (h:∀kill:List Nat,(kill=[]\/∃u,v=.osl (2*u+1) u 0 rs.length 3/\kill=[2*u+1]/\lo<=u/\u<hi)->YW E q K (ye E st.tm) (.append true 3 24 s x) st d ub { v:=.osl (2*ub+1) ub 0 (rs.length+1) 3,obs:=[(2*ub+1,⟨ub,.cells ((rs++[r]).flatMap rdC)⟩)],kill:=kill }):jG E (⟨d,.append true 3 24 s x,none,true⟩::q) st ub K:=by
 have a:rdC r≠[]:=by simp[rdC]
 have b:(rdC r).all V.leaf=true:=rfl;have j:=j4 jo5 rs;rw[jz rfl];rcases m with⟨rfl,rfl⟩|⟨u,rfl,i,n,k⟩;simp only[yS,e,f,ap,za a,di,zd,Jm,Yz];rw[zb ⟨zQ,b,by simp[rdC],by simp[rdC]⟩];simp only[Jo,jJ];have:=h [] (.inl rfl);simpa[rdC] using this;have c:j0 st.ob (2*u+1) u=some (rs.flatMap rdC):=by simp[j0,i]
 simp only[yS,e,f,c,ap,za a,Jm,Yz];rw[zb ⟨bY▸zO,trivial,trivial,zO,zQ,b,by simp[rdC];omega,by simp[rdC];omega⟩,jJ];have:=h [2*u+1] (.inr ⟨u,rfl,rfl,n,k⟩);rw[show(rs.flatMap rdC).take (rs.length*3)=rs.flatMap rdC from aJ zO];simpa[rdC,cn] using this
def jus {b:Type}(m:List (Int×b)) (k:Int) (a:b):∃i,jx (Wi m k a) k=some (i,a):=by
 have:=W1 k a k m;rw[zb rfl]at this;cases h:jx (Wi m k a) k with
 |none=>rw[h]at this;cases this
 |some p=>rw[h]at this;simp only[aU,ae]at this;exact⟨p.1,by rw[<- this]⟩
def jut {c:Type}(m:List (Int×c)) (k b:Int) (a z:c):jby (Wi m k a) b z=if b=k then a else jby m b z:=by rw[jr5,jr5,W1];split<;>rfl
def lookP {ob:ZO}{l u:Nat}{k:Int}{m:List (Int×Option (Nat×Nat))}{p:Nat×Nat}(h:jY ob l u=some (MK .i64 jhy (Wi m k (some p)))):Yc ob .int .nilptr false (.map l u) (.int .i64 k)=some (.ptr p.1 p.2 0):=by rw[jdw (q:=.i64) (f:=jhy) _ h];obtain⟨i,a⟩:=jus m k (some p);rw[a];rfl
def jnq (p:Nat->Bool) (L:List Nat) (x:Nat):XX 0 ((L++[x]).filter p)=if p x then XX 0 (L.filter p)|||1<<<x else XX 0 (L.filter p):=by rw[cl,cE,eV];cases p x;simp;rw[zb rfl,zb rfl,XX,gP];rfl
def jh2 {L:List Nat}(h:L.Pairwise (· < ·)) {j t:Nat}(f:j<L.length) (l:t=L[j]) (p:Nat->Bool):L.filter (λa=>decide (a<t)&&p a)=(L.take j).filter p:=by
 subst l;have d:=cB.1 h;have e:L.filter (λa=>decide (a<L[j])&&p a)=(L.take j++L.drop j).filter (λa=>decide (a<L[j])&&p a):=by rw[du]
 rw[e,cl];have k:(L.drop j).filter (λa=>decide (a<L[j])&&p a)=[]:=by
  rw[fX];intro a b;obtain⟨i,c,rfl⟩:=ba b;rw[aY]at c;rw[List.getElem_drop];have:¬L[j+i]<L[j]:=by rcases cI i with h0|h0;subst h0;simp;have:=d j (j+i) f zO zO;omega
  simp[this]
 rw[k,aP];refine gQ λa b=>?_;obtain⟨i,c,rfl⟩:=ba b;rw[ai]at c;rw[dB];simp[d i j zO f zO]
structure SB (ob:ZO) (lo hi k u:Nat) (T:List Nat) (v f:Nat->Nat):Prop where
 m:∃m,ob k=some ⟨u,.mp (2*T.length) (MK .i64 jhy m)⟩/\∀t∈T,jby m (t:Int) none=some (2*v t+1,v t)
 s:∀t∈T,ob (2*v t+1)=some ⟨v t,.cells (yu (f t))⟩/\lo<=v t/\v t<hi
def SB.snoc {ob ob':ZO}{lo hi hi' k u t x:Nat}{T:List Nat}{v f:Nat->Nat}{m:List (Int×Option (Nat×Nat))}(h:SB ob lo hi k u T v f) (i:∀z∈T,jby m (z:Int) none=some (2*v z+1,v z))
 (j:ob' k=some ⟨u,.mp (2*(T.length+1)) (MK .i64 jhy (Wi m (t:Int) (some (2*x+1,x))))⟩) (c:∀z∈T,ob' (2*v z+1)=ob (2*v z+1)) (d:ob' (2*x+1)=some ⟨x,.cells (yu (f t))⟩) (n:lo<=x) (b:x<hi') (r:hi<=hi') (q:t ∉ T) :
 SB ob' lo hi' k u (T++[t]) (λz=>if z=t then x else v z) f:=by
 refine⟨⟨_,by rw[aw];exact j,λz a=>?_⟩,λz a=>?_⟩;rw[jut];by_cases e:z=t;subst e;simp;have o:¬(z:Int)=t:=zO;rw[za o,za e];rcases aQ.1 a with a|a;exact i z a;exact zf (ag.1 a) e;by_cases e:z=t;subst e;simp only[zd];exact⟨d,n,b⟩;rcases aQ.1 a with a|a;simp only[za e];obtain⟨l,p,w⟩:=h.s z a;exact⟨(c z a).trans l,p,zO⟩;exact zf (ag.1 a) e
def j43 {T:List Nat}{j i:Nat->Nat}{t a w hi:Nat}(h:∀z∈T,∀b∈T,j z≠i b) (o:∀z∈T,j z<hi) (l:∀z∈T,i z<hi) (q:hi<=a) (p:hi<=w) (f:a≠w) :
 ∀z∈T++[t],∀b∈T++[t],(if z=t then a else j z)≠(if b=t then w else i b):=by
 intro z k b d;have m:∀{y},y∈T++[t]->¬y=t->y∈T:=λn e=>by rcases aQ.1 n with h|h;exact h;exact zf (ag.1 h) e
 by_cases e:z=t;by_cases c:b=t;rw[zb e,zb c];exact f;rw[zb e,za c];have:=l b (m d c);omega;by_cases c:b=t;rw[za e,zb c];have:=o z (m k e);omega;rw[za e,za c];exact h z (m k e) b (m d c)
def jsl {T:List Nat}{v:Nat->Nat}{t a hi:Nat}(h:∀z∈T,∀b∈T,v z=v b->z=b) (i:∀z∈T,v z<hi) (l:hi<=a) :
 ∀z∈T++[t],∀b∈T++[t],(if z=t then a else v z)=(if b=t then a else v b)->z=b:=by
 intro z j b f c;have m:∀{y},y∈T++[t]->¬y=t->y∈T:=λk e=>by rcases aQ.1 k with h|h;exact h;exact zf (ag.1 h) e
 by_cases e:z=t;by_cases d:b=t;rw[e,d];rw[zb e,za d]at c;have:=i b (m f d);omega;by_cases d:b=t;rw[za e,zb d]at c;have:=i z (m j e);omega;rw[za e,za d]at c;exact h z (m j e) b (m f d) c
def jbn (g:Hist') (t:Nat):Nat:=XX 0 ((yB g).filter λa=>decide (a<t)&&WI g t a)
def Qf (g:Hist') (t:Nat):Nat:=Q0 g t g.ks.length
def SB.sets {N:FN}{ob ob':ZO}{lo hi n0 k u:Nat}{T:List Nat}{v f:Nat->Nat}(h:SB ob lo hi k u T v f) (d:FixF N n0 k) (e:ob' k=ob k) (b:∀z∈T,ob' (2*v z+1)=ob (2*v z+1)/\FixF N n0 (2*v z+1)):SetsF N n0 ob' k u T f:=by obtain⟨m,i,c⟩:=h.m;exact⟨d,_,m,e.trans i,λt a=>⟨_,_,c t a,(b t a).1.trans (h.s t a).1,(b t a).2⟩⟩
def BegF (g:Hist') (M:List Int) (ob:ZO) (ub:Nat) (r:V×(ZO)×(Nat->Bool)×Nat):Prop :=
 ub<=r.2.2.2/\Was ub ob r.2.1/\∃(N:FN) (rv:V) (tc:Option (Nat×Nat)),r.1=.ptr N.kF N.uF 0/\r.2.1 N.kF=some ⟨N.uF,.cells (fdC g N rv (.sl tc (ym g).isEmpty (ym g).length ((ym g).flatMap yf)) (.sl none true 0 []) 0 false)⟩ /\
  Fd N rv (rdsF g M) (yB g) (jbn g) (Qf g) r.2.2.2 r.2.1/\r.2.1 N.kV=some ⟨N.uV,.mp 0 (MK .u64 jh1 [])⟩/\Off r.2.2.2 N.kF/\Off r.2.2.2 N.kV/\N.kF≠N.kV/\ub<=N.uF/\ub<=N.uV
section
variable {g:Hist'}{M:List Int}
def sv149 {Yf:YF}(hs:Small g) (hm:Xl g M=true) {nl:Bool}{ob:ZO}{tk:Nat->Bool}{ro base ub:Nat}(r6:ro<=ub) :
 ∃r,EvS E Yf.y 149 [.agg (ya g),yl nl yf M] ob tk ro base ub r/\BegF g M ob ub r:=by
 have hw:=Xa hm;have hM:=XE hm;have hR:=XZ hs;have a0:=Wk hw;obtain⟨vr,l9,h5⟩:=ev72 hs;have p5:jbt g=yi g:=by simp[jbt,hw]
 rw[p5]at h5;obtain⟨vc,o6,i1⟩:=ev70 hs;rw[jhe hw]at i1;refine JI rfl zQ ?_;show wpC E Yf S149.body _ (Jw S149.res _);simp only[S149,cfc,cf,Proofs.Tryz.f149,jh5,ap];conv in (occs := *) cbvRg _ _ _ _=>all_goals cbv
 simp only[ap,aU];conv in (occs := *) Option.getD _ _=>all_goals cbv
 simp(disch:=try exact zD)[S149,j0,ya,V.cells,aI];refine jk6 ?_;simp(disch:=try exact zD);refine jk6 ?_;simp(disch:=try exact zD)[j0,yj,aI];refine Jb o6 zH rfl zH ?_;refine XB i1 λtc r0=>?_;simp(disch:=try exact zD);refine jk6 ?_;simp(disch:=try exact zD)[j6,V.cells,Jc,W6,QR,Qe,yy,yz,yP,Delta.wo,Delta.wt,yl,aI];refine⟨⟨XJ zO,XJ zO,XJ zO,XJ zO,XJ zO,XJ zO,XJ zO,XJ zO,XJ zO⟩,?_⟩;simp(disch:=try exact zD)[j0,yj];refine jL l9 zH rfl zH ?_;refine XB h5 λtr q7=>?_;simp(disch:=try exact zD);refine jg λB c=>?_;obtain⟨H,e9⟩:∃u,u=ub+192:=⟨_,rfl⟩;obtain⟨G,f0⟩:∃u,u=ub+256:=⟨_,rfl⟩;obtain⟨uV,f3⟩:∃u,u=ub+448:=⟨_,rfl⟩;obtain⟨uF,d1⟩:∃u,u=ub+576:=⟨_,rfl⟩;obtain⟨N,hN⟩:∃N:FN,N=⟨2*uF+1,uF,2*H+1,H,2*G+1,G,2*uV+1,uV⟩:=⟨_,rfl⟩;obtain⟨al,c9⟩:∃al:V,al=.sl tc (ym g).isEmpty (ym g).length ((ym g).flatMap yf):=⟨_,rfl⟩;have g1:B.tm 1=yl nl yf M:=by rw[c];simp[yl]
 have g2:B.tm 2=.ptr (2*ub+1) ub 0:=by rw[c];simp
 have g5:B.tm 5=.ptr (2*uF+1) uF 0:=by rw[c,d1];simp
 have n2:B.tm 24=.sl tr (yi g).isEmpty (yi g).length ((yi g).flatMap jE):=by rw[c];simp
 have l4:B.tm 25=.int .i64 (yi g).length:=by rw[c];simp
 have q4:B.tm 26=.int .i64 0:=by rw[c];simp
 have gd:B.df=[]:=by rw[c];simp
 have gr:B.ro=ro:=by rw[c];simp
 have gn:uF<B.nx:=by rw[c,d1];simp
 have gw:Was ub ob B.ob:=λb D=>by rw[c];simp(disch:=try exact zD)[show ∀m,ub<=m->¬b=2*m+1 from D]
 have pB:B.ob (2*ub+1)=some ⟨ub,.cells (ya g)⟩:=by rw[c];simp(disch:=try exact zD)[yj,ya,yl]
 have pF:B.ob (2*uF+1)=some ⟨uF,.cells (fdC g N (.sl none true 0 []) al (.sl none true 0 []) 0 false)⟩:=by rw[c,hN,d1,e9,f0,f3,c9];simp(disch:=try exact zD)[fdC,yl]
 have pA:B.ob (2*H+1)=some ⟨H,.mp 0 (MK .i64 jhy [])⟩:=by rw[c,e9];simp(disch:=try exact zD)[yj,MK]
 have pW:B.ob (2*G+1)=some ⟨G,.mp 0 (MK .i64 jhy [])⟩:=by rw[c,f0];simp(disch:=try exact zD)[yj,MK]
 have pV:B.ob (2*uV+1)=some ⟨uV,.mp 0 (MK .u64 jh1 [])⟩:=by rw[c,f3];simp(disch:=try exact zD)[yj,MK]
 clear c;obtain⟨o1,o2,o3,o4⟩:ub<H/\H<G/\G<uV/\uV<uF:=zO;clear e9 f0 f3 d1;obtain⟨n6,b9⟩:∃o,o=B.ob:=⟨_,rfl⟩;obtain⟨n0,o5⟩:∃n,n=B.nx:=⟨_,rfl⟩;rw[<- b9]at gw pB pF pA pW pV;rw[<- o5]at gn;have r7:=jrk (g:=g) hM;obtain⟨J,hJ⟩:∃J:Nat->St->Prop,J=λi s=>s.tm 26=.int .i64 i/\(∃rv,s.ob (2*uF+1)=some ⟨uF,.cells (fdC g N rv al (.sl none true 0 []) 0 false)⟩/\RowG s.ob n0 s.nx rv ((rdsF g M).take i))/\(∀b,Off n0 b->b≠2*uF+1->s.ob b=n6 b)/\n0<=s.nx:=⟨_,rfl⟩;refine j9 [(6,7),(26,59)] (yi g).length J rfl rfl (by
  rw[hJ];exact⟨zU q4,⟨_,by rw[<- b9];exact pF,.inl ⟨rfl,rfl⟩⟩,λb _ _=>by rw[b9],zO⟩) ?_
 clear pF;intro i s hi c1 f;rw[hJ]at c1;obtain⟨d0,⟨rv,sF,sR⟩,X,sn⟩:=c1;have s1:s.tm 1=yl nl yf M:=by rw[f.t 1 zS];simp[g1]
 have s2:s.tm 2=.ptr (2*ub+1) ub 0:=by rw[f.t 2 zS];simp[g2]
 have s5:s.tm 5=.ptr (2*uF+1) uF 0:=by rw[f.t 5 zS];simp[g5]
 have h7:s.tm 24=.sl tr (yi g).isEmpty (yi g).length ((yi g).flatMap jE):=by rw[f.t 24 zS];simp[n2]
 have f5:s.tm 25=.int .i64 (yi g).length:=by rw[f.t 25 zS];simp[l4]
 have sd:s.df=[]:=by rw[f.d];simp[gd]
 have sr:s.ro=ro:=by rw[f.r];simp[gr]
 clear f;have qB:s.ob (2*ub+1)=some ⟨ub,.cells (ya g)⟩:=by rw[X _ (Off.new zO) zO];exact pB
 have nB:∀m,s.nx<=m->¬ub=m:=λm hm=>by omega
 have nF:∀m,s.nx<=m->¬uF=m:=λm hm=>by omega
 by_cases I:i<(yi g).length;have e6:=jb I zO;have g4:i<M.length:=zO;obtain⟨a,k,ha,D,e,b0,hc⟩:=jki a0 I;have e2:=JS jU tr (yi g).isEmpty (yi g) .i64 I;have k0:=λob=>WP (yi g) ob I;have d7:=j8i I g4;simp only[e]at k0 d7;have p2:=jt M g4;have n8:(g.ts.flatMap jl)[a*3+2]? = some (yl (g.ts[a]).nl yQ (g.ts[a]).ops):=by rw[jZ jA g.ts ha (by decide:2<3)];rfl
 have l6:((g.ts[a]).ops.flatMap yQ)[k*4+1]? = some (.int .i64 ((g.ts[a]).ops[k]).key):=by rw[jZ jH (g.ts[a]).ops D (by decide:1<4)];rfl
 simp(disch:=try exact zD)[d0,f5,h7,s5,I,e2,k0,j0,j6,yj,nF,sF,fdC];refine⟨by first|omega|(simp[sr];omega),?_⟩;simp(disch:=try exact zD)[j0,j6,yj,nB,qB,s1,s2,ya,j7 jA,j7 jH,j7 j8,n8,l6,p2,aI];obtain⟨b,c6⟩:∃b,b=We g (yi g)[i]:=⟨_,rfl⟩;rw[<- c6]at b0;rw[<- b0];refine YB (cs:=rdC ((a:Int),M[i],b)) (by simp[j6,rdC]) rfl rfl ?_;simp;refine ju7 (lo:=n0) (hi:=s.nx) (rs:=(rdsF g M).take i) (r:=((a:Int),M[i],b)) (v:=rv) zS ?_ ?_ ?_ ?_ λe1 c4=>?_;refine sR.frame (λu L h2=>?_) zK;have h3:∀m,s.nx<=m->¬u=m:=λm hm=>by omega
 simp(disch:=try exact zD)[yj,h3];first|omega|(simp[sr];omega)
 simp[jF,j0,rdC];rw[ai];omega;have g8:∀b,Off n0 b->e1.any (Nat.beq b)=false:=λb b0=>by rcases c4 with rfl|⟨u,h,rfl,L,h2⟩;rfl;simp only[bJ,ce,bI];exact XJ (b0 u L)
 have s0:∀m,s.nx<=m->e1.any (Nat.beq (2*m+1))=false:=λm hm=>by rcases c4 with rfl|⟨u,h,rfl,L,h2⟩;rfl;simp only[bJ,ce,bI];exact XJ zO
 have m2:=g8 (2*uF+1) (Off.new zO);generalize n9:List.flatMap rdC (List.take i (rdsF g M)++[(((a:Nat):Int),M[i],b)])=cs56;simp(disch:=try exact zD)[j0,yj,nF,sF,fdC,m2,jK,j6,Jc,W6,QR,Qe,yy,yz,yP,Delta.wo,Delta.wt,eW];refine⟨by first|omega|(simp[sr];omega),XJ zO,?_⟩;simp[d0,e6,I];rw[hJ];refine⟨zS,⟨.osl (2*(s.nx+2048)+1) (s.nx+2048) 0 (((rdsF g M).take i).length+1) 3,?_,.inr ⟨s.nx+2048,?_,?_,zO,zL⟩⟩,λb D K=>?_,zL⟩;simp(disch:=try exact zD)[fdC];rw[ai,ai];congr 1;omega;have p9:(rdsF g M)[i]' zO=(((a:Nat):Int),M[i],b):=by obtain⟨_,h2⟩:=aj.1 d7;rw[h2,c6,e]
 rw[ay zO,p9,n9];simp(disch:=try exact zD)[jK,yj,show ¬s.nx+2048=uF from by omega];have f1:=D.ne;simp(disch:=try exact zD)[jK,f1,K,g8 b D,X b D K];have:i=(yi g).length:=zO;subst this;clear I hi;rw[aJ zO]at sR;have eB:=qB;simp(disch:=try exact zD)[d0,f5,s5,j0,sF,fdC,yj];rw[c9];simp;refine jg λB c=>?_;have g2:B.tm 2=.ptr (2*ub+1) ub 0:=by rw[c];simp[s2]
 have g5:B.tm 5=.ptr (2*uF+1) uF 0:=by rw[c];simp[s5]
 have c7:B.tm 63=.sl tc (ym g).isEmpty (ym g).length ((ym g).flatMap yf):=by rw[c];simp
 have c8:B.tm 64=.int .i64 (ym g).length:=by rw[c];simp
 have c5:B.tm 65=.int .i64 0:=by rw[c];simp
 have gd:B.df=[]:=by rw[c];simp[sd]
 have gr:B.ro=ro:=by rw[c];simp[sr]
 have go:B.ob=s.ob:=by rw[c];simp
 have n7:s.nx<=B.nx:=by rw[c];simp;omega
 clear c;obtain⟨b6,Z⟩:∃o,o=B.ob:=⟨_,rfl⟩;obtain⟨n1,r4⟩:∃n,n=B.nx:=⟨_,rfl⟩;rw[<- go,<- Z]at sF sR X qB;have qA:b6 (2*H+1)=some ⟨H,.mp 0 (MK .i64 jhy [])⟩:=by rw[X _ (Off.new zO) zO];exact pA
 have qW:b6 (2*G+1)=some ⟨G,.mp 0 (MK .i64 jhy [])⟩:=by rw[X _ (Off.new zO) zO];exact pW
 have qV:b6 (2*uV+1)=some ⟨uV,.mp 0 (MK .u64 jh1 [])⟩:=by rw[X _ (Off.new zO) zO];exact pV
 have o7:Was ub ob b6:=λb D=>by rw[X b (D.up zO) (D uF zO)];exact gw b D
 have l5:RowG b6 n0 n1 rv (rdsF g M):=sR.frame (λ_ _ _=>rfl) zO;have q8:n0<=n1:=zO;clear X pA pW pV sR gw go n7 sn d0 s1 s2 s5 h7 f5 sd sr nB nF eB;obtain⟨J2,e7⟩:∃J2:Nat->St->Prop,J2=λi s=>s.tm 65=.int .i64 i/\(∀b,Off n1 b->b≠2*H+1->b≠2*G+1->s.ob b=b6 b)/\n1<=s.nx /\
  ∃vA vW,SB s.ob n1 s.nx (2*H+1) H ((yB g).take i) vA (jbn g)/\SB s.ob n1 s.nx (2*G+1) G ((yB g).take i) vW (Qf g)/\(∀t∈(yB g).take i,∀t'∈(yB g).take i,vA t≠vW t') /\
   (∀t∈(yB g).take i,∀t'∈(yB g).take i,vA t=vA t'->t=t')/\∀t∈(yB g).take i,∀t'∈(yB g).take i,vW t=vW t'->t=t':=⟨_,rfl⟩
 refine j9 [(8,9),(11,14),(65,142)] (ym g).length J2 rfl rfl (by
  rw[e7];exact⟨zU c5,λb _ _ _=>by rw[Z],zO,λ_=>0,λ_=>0,⟨⟨[],by rw[<- Z];exact qA,λt h=>(by cases h)⟩,λt h=>(by cases h)⟩,⟨⟨[],by rw[<- Z];exact qW,λt h=>(by cases h)⟩,λt h=>(by cases h)⟩,λt h=>(by cases h),λt h=>(by cases h),λt h=>(by cases h)⟩) ?_
 intro i s hi c1 f;rw[e7]at c1;obtain⟨e4,X,sn,vA,vW,sA,sW,h0,j2,f7⟩:=c1;have s2:s.tm 2=.ptr (2*ub+1) ub 0:=by rw[f.t 2 zS];simp[g2]
 have s5:s.tm 5=.ptr (2*uF+1) uF 0:=by rw[f.t 5 zS];simp[g5]
 have f9:s.tm 63=.sl tc (ym g).isEmpty (ym g).length ((ym g).flatMap yf):=by rw[f.t 63 zS];simp[c7]
 have f4:s.tm 64=.int .i64 (ym g).length:=by rw[f.t 64 zS];simp[c8]
 have sd:s.df=[]:=by rw[f.d];simp[gd]
 have sr:s.ro=ro:=by rw[f.r];simp[gr]
 clear f;have s6:=jff g;by_cases I:i<(ym g).length;have U:i<(yB g).length:=zO;have r9:=hs.ts;have q6:(yB g).length<=1000:=by have:=YM g;omega
 have hK:jpp=1000000000000:=rfl;have e6:=jb I zO;obtain⟨t,ht⟩:∃t,t=(yB g)[i]:=⟨_,rfl⟩;have q0:(ym g)[i]=(t:Int):=by
  have L:(ym g)[i]? = (yq (yB g))[i]?:=by rw[jc4]
  rw[aa I]at L;unfold yq at L;rw[aV,aa U]at L;simpa[ht] using L
 have e2:=JS j8 tc (ym g).isEmpty (ym g) .i64 I;have g6:=jt (ym g) I;rw[q0]at g6;obtain⟨mA,f8,i8⟩:=sA.m;obtain⟨mW,i0,h6⟩:=sW.m;have e3:((yB g).take i).length=i:=by rw[ai];omega
 rw[e3]at f8 i0;have xF:s.ob (2*uF+1)=some ⟨uF,.cells (fdC g N rv al (.sl none true 0 []) 0 false)⟩:=by rw[X _ (Off.new zO) zO zO];exact sF
 have xB:s.ob (2*ub+1)=some ⟨ub,.cells (ya g)⟩:=by rw[X _ (Off.new zO) zO zO];exact qB
 have nB:∀m,s.nx<=m->¬ub=m:=λm hm=>by omega
 have nF:∀m,s.nx<=m->¬uF=m:=λm hm=>by omega
 have nA:∀m,s.nx<=m->¬H=m:=λm hm=>by omega
 have nW:∀m,s.nx<=m->¬G=m:=λm hm=>by omega
 have m5:¬G=H:=zO;have b7:N.kA=2*H+1/\N.uA=H/\N.kW=2*G+1/\N.uW=G:=by rw[hN];exact⟨rfl,rfl,rfl,rfl⟩
 simp(disch:=try exact zD)[e4,f4,f9,s5,I,e2,g6,j0,xF,fdC,b7];refine jsh zS rfl rfl rfl ?_;simp;refine jsh zS rfl rfl rfl ?_;simp;refine jji (q:=.i64) (f:=jhy) (a:=none) (ver:=2*i) (k:=(t:Int)) (l:=2*H+1) (u:=H) mA zS zS rfl (by simp(disch:=try exact zD)[yj,nA,f8]) (by first|omega|(simp[sr];omega)) zO ?_;simp;refine jnh (q:=.i64) (f:=jhy) (a:=some (2*(s.nx+1024)+1,s.nx+1024)) (ver:=2*i+1) (k:=(t:Int)) (l:=2*H+1) (u:=H) (Wi mA (t:Int) (jby mA (t:Int) none)) zS zS (by simp[jhy,V.strip]) (jyu mA t _) zS (by first|omega|(simp[sr];omega)) zO ?_;rw[jr3];simp;refine jji (q:=.i64) (f:=jhy) (a:=none) (ver:=2*i) (k:=(t:Int)) (l:=2*G+1) (u:=G) mW zS zS rfl (by simp(disch:=try exact zD)[yj,nW,i0,m5]) (by first|omega|(simp[sr];omega)) zO ?_;simp;refine jnh (q:=.i64) (f:=jhy) (a:=some (2*(s.nx+1088)+1,s.nx+1088)) (ver:=2*i+1) (k:=(t:Int)) (l:=2*G+1) (u:=G) (Wi mW (t:Int) (jby mW (t:Int) none)) zS zS (by simp[jhy,V.strip]) (jyu mW t _) zS (by first|omega|(simp[sr];omega)) zO ?_;rw[jr3];simp;refine⟨jr2 (by simp(disch:=try exact zD)[jm2,ji4,QI,QR,Qe,yy,yz,yP,Delta.wo,Delta.wt,s5,j0,xF,fdC,b7,yj];and_intros<;>exact XJ zO),?_⟩;have m4:Y5 1 none (some (.int .i64 (i:Int))) (.sl tc (ym g).isEmpty (ym g).length ((ym g).flatMap yf))=some (.sl none (ym g).isEmpty i (((ym g).take i).flatMap yf)):=by rw[joy j8 tc _ (ym g) (show i<=_ by omega),ai,cC zO]
 have p4:¬uF=G:=zO;have m7:¬uF=H:=zO;simp(disch:=try exact zD)[s5,j0,xF,fdC,yj,nF,p4,m7];rw[c9,m4];simp;refine jg λB c=>?_;obtain⟨Q,g0⟩:∃u,u=s.nx+1024:=⟨_,rfl⟩;obtain⟨P,e5⟩:∃u,u=s.nx+1088:=⟨_,rfl⟩;have g2:B.tm 2=.ptr (2*ub+1) ub 0:=by rw[c];simp[s2]
 have g5:B.tm 5=.ptr (2*uF+1) uF 0:=by rw[c];simp[s5]
 have g9:B.tm 9=.int .i64 t:=by rw[c];simp
 have c5:B.tm 65=.int .i64 i:=by rw[c];simp[e4]
 have l0:B.tm 91=.sl none (ym g).isEmpty i (((ym g).take i).flatMap yf):=by rw[c];simp
 have p3:B.tm 92=.int .i64 i:=by rw[c];simp
 have p7:B.tm 93=.int .i64 0:=by rw[c];simp
 have c7:B.tm 63=.sl tc (ym g).isEmpty (ym g).length ((ym g).flatMap yf):=by rw[c];simp[f9]
 have c8:B.tm 64=.int .i64 (ym g).length:=by rw[c];simp[f4]
 have gd:B.df=[]:=by rw[c];simp[sd]
 have gr:B.ro=ro:=by rw[c];simp[sr]
 have gn:P<B.nx:=by rw[c,e5];simp
 have gw:∀b,Off s.nx b->b≠2*H+1->b≠2*G+1->B.ob b=s.ob b:=λb D L h2=>by rw[c];simp(disch:=try exact zD)[D.ne,L,h2]
 have pa:B.ob (2*Q+1)=some ⟨Q,.cells (yu 0)⟩:=by rw[c,g0];simp(disch:=try exact zD)[yj,aI,jce,show ¬s.nx+1024=H by omega,show ¬s.nx+1024=G by omega]
 have pw:B.ob (2*P+1)=some ⟨P,.cells (yu 0)⟩:=by rw[c,e5];simp(disch:=try exact zD)[yj,aI,jce,show ¬s.nx+1088=H by omega,show ¬s.nx+1088=G by omega]
 have pA:B.ob (2*H+1)=some ⟨H,.mp (2*(i+1)) (MK .i64 jhy (Wi mA (t:Int) (some (2*Q+1,Q))))⟩:=by rw[c,g0];simp(disch:=try exact zD)[yj,aI,show ¬H=G by omega,Nat.mul_add]
 have pW:B.ob (2*G+1)=some ⟨G,.mp (2*(i+1)) (MK .i64 jhy (Wi mW (t:Int) (some (2*P+1,P))))⟩:=by rw[c,e5];simp(disch:=try exact zD)[yj,aI,Nat.mul_add]
 clear c;obtain⟨n4,c3⟩:∃o,o=B.ob:=⟨_,rfl⟩;obtain⟨n3,m8⟩:∃n,n=B.nx:=⟨_,rfl⟩;rw[<- c3]at gw pa pw pA pW;rw[<- m8]at gn;have f2:Xx g=true:=by unfold Yr at a0;simp only[ab]at a0;exact a0.1
 unfold Xx at f2;simp only[ab,ze]at f2;obtain⟨_,_,_,s4,s3⟩:=f2;have b8:∀{x:Nat},x∈yB g->x<g.ts.length:=λh=>JZ (comN_mem.1 h);have l8:t<g.ts.length:=b8 (ht▸au U);have d6:∀{x:Nat}(h:x<g.ts.length),(g.ts.flatMap jl)[x*3]? = some (.int .i64 (yD g x)):=fun {x} h=>by have:=jZ jA g.ts h (by decide:0<3);rw[bp]at this;rw[this];simp[jl,yD,h]
 obtain⟨J3,d5⟩:∃J3:Nat->St->Prop,J3=λj s=>s.tm 93=.int .i64 j/\s.ob (2*Q+1)=some ⟨Q,.cells (yu (XX 0 (((yB g).take j).filter (WI g t))))⟩/\(∀b,Off n3 b->b≠2*Q+1->s.ob b=n4 b)/\n3<=s.nx:=⟨_,rfl⟩;refine j9 [(11,11),(93,118)] i J3 rfl rfl (by
  rw[d5];exact⟨zU p7,by rw[<- c3];exact pa,λb _ _=>by rw[c3],zO⟩) ?_
 intro j q hj j1 f;rw[d5]at j1;obtain⟨d2,qa,qw,qn⟩:=j1;have q2:q.tm 2=.ptr (2*ub+1) ub 0:=by rw[f.t 2 zS];simp[g2]
 have q5:q.tm 5=.ptr (2*uF+1) uF 0:=by rw[f.t 5 zS];simp[g5]
 have q9:q.tm 9=.int .i64 t:=by rw[f.t 9 zS];simp[g9]
 have o8:q.tm 91=.sl none (ym g).isEmpty i (((ym g).take i).flatMap yf):=by rw[f.t 91 zS];simp[l0]
 have h9:q.tm 92=.int .i64 i:=by rw[f.t 92 zS];simp[p3]
 have m3:q.tm 63=.sl tc (ym g).isEmpty (ym g).length ((ym g).flatMap yf):=by rw[f.t 63 zS];simp[c7]
 have p6:q.tm 64=.int .i64 (ym g).length:=by rw[f.t 64 zS];simp[c8]
 have m1:q.tm 65=.int .i64 i:=by rw[f.t 65 zS];simp[c5]
 have qd:q.df=[]:=by rw[f.d];simp[gd]
 have qr:q.ro=ro:=by rw[f.r];simp[gr]
 clear f;have zF:q.ob (2*uF+1)=some ⟨uF,.cells (fdC g N rv al (.sl none true 0 []) 0 false)⟩:=by rw[qw _ (Off.new zO) zO,gw _ (Off.new zO) zO zO];exact xF
 have zB:q.ob (2*ub+1)=some ⟨ub,.cells (ya g)⟩:=by rw[qw _ (Off.new zO) zO,gw _ (Off.new zO) zO zO];exact xB
 by_cases c0:j<i;have f6:j<(yB g).length:=zO;obtain⟨x,hx⟩:∃x,x=(yB g)[j]:=⟨_,rfl⟩;have m0:x<g.ts.length:=b8 (hx▸au f6);have p0:(ym g)[j]' zO=(x:Int):=by
  have L:(ym g)[j]? = (yq (yB g))[j]?:=by rw[jc4]
  rw[aa (show j<(ym g).length by omega)]at L;unfold yq at L;rw[aV,aa f6]at L;simpa[hx] using L
 have e0:j<((ym g).take i).length:=by rw[ai];omega
 have p8:((ym g).take i).length=i:=by rw[ai];omega
 have i5:=JS j8 none (ym g).isEmpty ((ym g).take i) .i64 e0;have i3:=jt ((ym g).take i) e0;rw[dB,p0]at i3;rw[p8]at i5;have g3:=jb c0 zO;have i4:=d6 m0;have i2:=d6 l8;simp(disch:=try exact zD)[d2,h9,o8,q9,q2,c0,i5,i3,j0,zB,ya,j7 jA,i4,i2];have F:XX 0 (((yB g).take (j+1)).filter (WI g t))=if yD g x==yD g t then XX 0 (((yB g).take j).filter (WI g t))|||1<<<x else XX 0 (((yB g).take j).filter (WI g t)):=by rw[ay f6,<- hx,jnq];rfl
 cases h8:yD g x==yD g t;simp[d2,g3,c0];rw[d5];rw[h8]at F;refine⟨zS,by rw[F];simpa using qa,λb D K=>by simp[qw b D K],zL⟩;rw[h8,zb rfl]at F;have e8:XX 0 (((yB g).take j).filter (WI g t))<2^64:=jc7 zQ λy hy=>by have:=b8 (da (bu.1 hy).1);omega
 simp(disch:=try exact zD)[q5,q9,j0,zF,fdC,b7];rw[lookP (p:=(2*Q+1,Q)) (k:=(t:Int)) (m:=mA) (by simp[jY];rw[qw _ (Off.new zO) zO,pA];simp)];simp;refine jP (vs:=[.ptr (2*Q+1) Q 0,.int .i64 x]) zS rfl (jts (w:=XX 0 (((yB g).take j).filter (WI g t))) (zU qa) (Off.new zL) (by first|omega|(simp[qr];omega)) zO e8) ?_;rintro v l1 l7 q1 ⟨r1,r2,r3⟩;simp only at r1 r2 r3;simp[d2,g3,c0];rw[d5];refine⟨zS,?_,λb D K=>?_,zL⟩;simp;rw[r2 _ (Off.new zL),zb rfl,F];simp;rw[r2 b (D.up zL),za K];simp[qw b D K];have:j=i:=zO;subst this;clear c0 hj;simp(disch:=try exact zD)[d2,h9,q2,j0,zB,ya];refine jg λB c=>?_;have g2:B.tm 2=.ptr (2*ub+1) ub 0:=by rw[c];simp[q2]
 have g5:B.tm 5=.ptr (2*uF+1) uF 0:=by rw[c];simp[q5]
 have g9:B.tm 9=.int .i64 t:=by rw[c];simp[q9]
 have c5:B.tm 65=.int .i64 j:=by rw[c];simp[m1]
 have i9:B.tm 121=.int .i64 g.ks.length:=by rw[c];simp[yl]
 have i7:B.tm 122=.int .i64 0:=by rw[c];simp
 have c7:B.tm 63=.sl tc (ym g).isEmpty (ym g).length ((ym g).flatMap yf):=by rw[c];simp[m3]
 have c8:B.tm 64=.int .i64 (ym g).length:=by rw[c];simp[p6]
 have gd:B.df=[]:=by rw[c];simp[qd]
 have gr:B.ro=ro:=by rw[c];simp[qr]
 have go:B.ob=q.ob:=by rw[c];simp
 have r5:q.nx<=B.nx:=by rw[c];simp;omega
 clear c;obtain⟨l2,c2⟩:∃o,o=B.ob:=⟨_,rfl⟩;obtain⟨n5,r8⟩:∃n,n=B.nx:=⟨_,rfl⟩;rw[<- go,<- c2]at qa qw zF zB;obtain⟨J5,d4⟩:∃J5:Nat->St->Prop,J5=λk s=>s.tm 122=.int .i64 k/\s.ob (2*P+1)=some ⟨P,.cells (yu (Q0 g t k))⟩/\(∀b,Off n5 b->b≠2*P+1->s.ob b=l2 b)/\n5<=s.nx:=⟨_,rfl⟩;refine j9 [(12,14),(122,141)] g.ks.length J5 rfl rfl (by
  rw[d4];exact⟨zU i7,by rw[<- c2,qw _ (Off.new zO) zO];exact pw,λb _ _=>by rw[c2],zO⟩) ?_
 intro k y D i6 f;rw[d4]at i6;obtain⟨b5,yw,yk,yn⟩:=i6;have y2:y.tm 2=.ptr (2*ub+1) ub 0:=by rw[f.t 2 zS];simp[g2]
 have y5:y.tm 5=.ptr (2*uF+1) uF 0:=by rw[f.t 5 zS];simp[g5]
 have y9:y.tm 9=.int .i64 t:=by rw[f.t 9 zS];simp[g9]
 have m9:y.tm 65=.int .i64 j:=by rw[f.t 65 zS];simp[c5]
 have d8:y.tm 121=.int .i64 g.ks.length:=by rw[f.t 121 zS];simp[i9]
 have yd:y.df=[]:=by rw[f.d];simp[gd]
 have yr:y.ro=ro:=by rw[f.r];simp[gr]
 clear f;have wF:y.ob (2*uF+1)=some ⟨uF,.cells (fdC g N rv al (.sl none true 0 []) 0 false)⟩:=by rw[yk _ (Off.new zO) zO];exact zF
 have wB:y.ob (2*ub+1)=some ⟨ub,.cells (ya g)⟩:=by rw[yk _ (Off.new zO) zO];exact zB
 by_cases d3:k<g.ks.length;have d9:=jb d3 zO;have el:=ev169 hs t k;have ez:(W4 (Jv g t).2 (k:Int)).2=X9 g t k:=rfl;rw[ez]at el;simp(disch:=try exact zD)[b5,d8,y9,y2,d3,j0,wB,ya];refine jL el zI rfl zI ?_;rw[JW (by simp[V.plain,J4])];simp(disch:=try exact zD)[J4,j0,j6];refine⟨by first|omega|(simp[yr];omega),?_⟩;have F:Q0 g t (k+1)=if X9 g t k then Q0 g t k|||1<<<k else Q0 g t k:=by unfold Q0;rw[dN,jnq]
 cases k9:X9 g t k;simp[b5,d9,d3];rw[d4];rw[k9]at F;refine⟨zS,by rw[F];simp(disch:=try exact zD)[yj,yw,show ∀m,y.nx<=m->¬P=m from λm hm=>by omega],λb D K=>by simp(disch:=try exact zD)[D.ne,yk b D K],zL⟩;rw[k9,zb rfl]at F;have e8:Q0 g t k<2^64:=jc7 zQ λz S=>by have:=aM.1 (bu.1 S).1;omega
 have q3:∀m,y.nx<=m->¬P=m:=λm hm=>by omega
 have o9:∀m,y.nx<=m->¬G=m:=λm hm=>by omega
 have l3:∀m,y.nx<=m->¬uF=m:=λm hm=>by omega
 simp(disch:=try exact zD)[y5,y9,j0,wF,fdC,b7,yj,l3];rw[lookP (p:=(2*P+1,P)) (k:=(t:Int)) (m:=mW) (by simp(disch:=try exact zD)[jY,yj,o9];rw[yk _ (Off.new zO) zO,qw _ (Off.new zO) zO,pW];simp)];simp;refine jP (vs:=[.ptr (2*P+1) P 0,.int .i64 k]) zS rfl (jts (w:=Q0 g t k) (by simp(disch:=try exact zD)[yj,q3,yw]) (Off.new zL) (by first|omega|(simp[yr];omega)) zO e8) ?_;rintro v l1 l7 q1 ⟨r1,r2,r3⟩;simp only at r1 r2 r3;simp[b5,d9,d3];rw[d4];refine⟨zS,?_,λb D K=>?_,zL⟩;simp;rw[r2 _ (Off.new zL),zb rfl,F];simp;rw[r2 b (D.up zL),za K];simp(disch:=try exact zD)[D.ne,yk b D K];have:k=g.ks.length:=zO;subst this;have O:∀b,Off s.nx b->b≠2*H+1->b≠2*G+1->y.ob b=s.ob b:=λb D L h2=>by rw[yk b (D.up zO) (D P zO),qw b (D.up zO) (D Q zO),gw b D L h2]
 have m6:y.ob (2*H+1)=some ⟨H,.mp (2*(j+1)) (MK .i64 jhy (Wi mA (t:Int) (some (2*Q+1,Q))))⟩:=by rw[yk _ (Off.new zO) zO,qw _ (Off.new zO) zO,pA]
 have p1:y.ob (2*G+1)=some ⟨G,.mp (2*(j+1)) (MK .i64 jhy (Wi mW (t:Int) (some (2*P+1,P))))⟩:=by rw[yk _ (Off.new zO) zO,qw _ (Off.new zO) zO,pW]
 have o0:y.ob (2*Q+1)=some ⟨Q,.cells (yu (jbn g t))⟩:=by rw[yk _ (Off.new zO) zO,qa];unfold jbn;rw[jh2 (jlc g) U ht]
 simp[b5,d8,m9,e6,I];rw[e7];have eT:(yB g).take (j+1)=(yB g).take j++[t]:=by rw[ay U,ht]
 have g7:t ∉ (yB g).take j:=λh=>by obtain⟨i,hi,e⟩:=ba h;rw[ai]at hi;rw[dB]at e;have:=cB.1 (jlc g) i j zO U zO;omega
 refine⟨zS,λb D L h2=>?_,zL,λz=>if z=t then Q else vA z,λz=>if z=t then P else vW z,?_,?_,?_,?_,?_⟩;simp;rw[O b (D.up zO) L h2];exact X b D L h2;rw[eT];refine sA.snoc i8 (by rw[e3];simpa using m6) (λz S=>?_) (zU o0) zO zL zL g7;have:=(sA.s z S).2;simp;exact O _ (Off.new zO) zO zO;rw[eT];refine sW.snoc h6 (by rw[e3];simpa using p1) (λz S=>?_) (by simpa[Qf] using yw) zO zL zL g7;have:=(sW.s z S).2;simp;exact O _ (Off.new zO) zO zO;rw[eT];exact j43 h0 (λz S=>(sA.s z S).2.2) (λz S=>(sW.s z S).2.2) zO zO zO;rw[eT];exact jsl j2 (λz S=>(sA.s z S).2.2) zO;rw[eT];exact jsl f7 (λz S=>(sW.s z S).2.2) zO;have:i=(ym g).length:=zO;subst this;rw[aJ zO]at sA sW h0 j2 f7;simp[e4,f4,s5];have xF:s.ob (2*uF+1)=some ⟨uF,.cells (fdC g N rv al (.sl none true 0 []) 0 false)⟩:=by rw[X _ (Off.new zO) zO zO];exact sF
 have xV:s.ob (2*uV+1)=some ⟨uV,.mp 0 (MK .u64 jh1 [])⟩:=by rw[X _ (Off.new zO) zO zO];exact qV
 have b7:N.kF=2*uF+1/\N.uF=uF/\N.kA=2*H+1/\N.uA=H/\N.kW=2*G+1/\N.uW=G/\N.kV=2*uV+1/\N.uV=uV:=by rw[hN];exact⟨rfl,rfl,rfl,rfl,rfl,rfl,rfl,rfl⟩
 obtain⟨k1,k2,k3,k4,k5,k6,k7,k8⟩:=b7;have T:∀u n,u<n->u≠uF->u≠uV->FixF N n (2*u+1):=λu n L h2 h3=>⟨by rw[k1];omega,by rw[k7];omega,Off.new L⟩;refine Jj (by simp[sd]) ⟨zL,λb D=>?_,N,rv,tc,by simp[k1,k2],by rw[k1,k2,<- c9];simpa using xF,⟨?_,?_,?_⟩,by rw[k7,k8];simpa using xV,by rw[k1];exact Off.new zL,by rw[k7];exact Off.new zL,by rw[k1,k7];omega,by rw[k2];omega,by rw[k8];omega⟩;simp;rw[X b (D.up zO) (D H zO) (D G zO)];exact o7 b D;rcases l5 with h|⟨u,L,h2,h3,h4⟩
 exact .inl h;refine .inr ⟨2*u+1,u,L,?_,T u _ zL zO zO⟩;simp;rw[X _ (Off.new zO) zO zO];exact h2;rw[k3,k4];refine sA.sets (T H _ zL zO zO) zS λz S=>?_;have:=(sA.s z S).2;exact⟨zS,T _ _ zL zO zO⟩;rw[k5,k6];refine sW.sets (T G _ zL zO zO) zS λz S=>?_;have:=(sW.s z S).2;exact⟨zS,T _ _ zL zO zO⟩
end
section
variable {g:Hist'}{M:List Int}
def jrj (c:Yr g=true) {i:Nat}(hi:i<(yi g).length):∃k:Nat,We g (yi g)[i]=k/\k<g.ks.length:=by
 obtain⟨a,b,f,h,e,d,j⟩:=jki c hi;unfold Yr at c;simp only[ab,av]at c;have:=c.2.2.1 (g.ts[a].ops[b]) (by
  unfold jdr;exact ci.2 ⟨g.ts[a],au f,au h⟩)
 simp only[opB,Yi,ab,ze]at this;exact⟨(We g (yi g)[i]).toNat,by rw[d];omega,by rw[d];omega⟩
def jr6 (a:Yr g=true):g.ks.length<=40/\g.ts.length<=40:=by unfold Yr at a;simp only[ab]at a;have h:=a.1;unfold Xx at h;simp only[ab,ze]at h;exact⟨h.2.2.2.1,h.2.2.2.2⟩
def j8h (f:Xl g M=true) {r:Int×Int×Int}(a:r∈rdsF g M):∃(i:Nat) (p:Int×Int) (m:Int),(yi g)[i]? = some p/\M[i]? = some m/\r=(p.1,m,We g p):=by unfold rdsF at a;obtain⟨⟨p,m⟩,e,rfl⟩:=aE.1 a;obtain⟨i,d⟩:=eO.1 e;obtain⟨c,b⟩:=dM.1 d;exact⟨i,p,m,c,b,rfl⟩
def rds_ok (d:Xl g M=true):∀r∈rdsF g M,RdOk r:=λr l=>by obtain⟨i,p,m,q,j,rfl⟩:=j8h d l;have c:=Wk (Xa d);have s:=jr6 c;obtain⟨e,rfl⟩:=aj.1 q;obtain⟨k,t,f⟩:=jrj c e;obtain⟨a,u,o⟩:=comL_mem.1 (jkj (au e));have:=JZ o;refine⟨⟨zO,zO⟩,?_,by show 0<=We g _;omega,by show We g _<64;omega⟩;show m<64;rcases jkx d (aH j) with h|h;omega;obtain⟨b,v,n⟩:=comL_mem.1 h;have:=JZ n;omega
def jlb (p:Nat->Bool) (L:List Nat) (a:Nat):(XX 0 (L.filter p)).testBit a=decide (a∈L/\p a=true):=by rw[jlg,Nat.zero_testBit,bQ,bz,bx,bu,ze]
def j8x (u:Xl g M=true) (z:g.ts.length<=8) (w t:Nat):j3i (rdsF g M) (jbn g) (Qf g) w t=jku g M (λa=>w.testBit a) t:=by
 have b:=Wk (Xa u);unfold j3i jku;congr 1;rw[bz,av,andTo_iff];constructor;intro h a l;by_cases o:J8 g a=true;by_cases c:yD g a=yD g t;have q:=JZ o;have:=h a (bitsUp_mem.2 ⟨zO,by unfold jbn;rw[jlb,ze];exact⟨comN_mem.2 o,by simp[WI,c,l]⟩⟩);simp[this];simp[c];simp[o];intro h a l;have f:=(bitsUp_mem.1 l).2;unfold jbn at f;rw[jlb,ze]at f;obtain⟨n,d⟩:=f;simp only[WI,ab,ze,zh]at d;have:=h a d.1;simpa[comN_mem.1 n,d.2] using this;rw[List.not_any_eq_all_not,rdsF,dG,bz,av,av];refine forall_congr' λx=>forall_congr' λs=>?_;obtain⟨p,m⟩:=x;obtain⟨i,r⟩:=eO.1 s;obtain⟨n,d⟩:=dM.1 r;obtain⟨j,rfl⟩:=aj.1 n;obtain⟨k,y,e⟩:=jrj b j;have v:(Qf g t).testBit k=X9 g t k:=by unfold Qf Q0;rw[jlb,bz,ze,aM];exact⟨λh=>h.2,λh=>⟨e,h⟩⟩
 simp only[Function.comp,barB,y,aX,v,jdk];split;cases decide (m<0)<;>cases w.testBit m.toNat<;>rfl;cases w.testBit (yi g)[i].1.toNat<;>cases decide (m<0)<;>cases w.testBit m.toNat<;>cases X9 g t k<;>rfl
end
def joi (vis:List Nat):List (Int×Int):=vis.map λv:Nat=>((v:Int),(1:Int))
def jqt (y:Nat):∀a:List Nat,(match jx (joi a) (y:Int) with|some p=>jh1 p.2|none=>V.int .i64 0)=.int .i64 (if a.contains y then 1 else 0)
 |[]=>rfl
 |v::a=>by
  have b:=jqt y a;unfold joi at b ⊢;rw[bc,jx,ec];by_cases h:y=v;subst h;simp[jh1];have d:¬(y:Int)=v:=zO;have e:(y==v)=false:=by simpa using h
  rw[za d,e,bQ,<- b];cases jx (a.map λv:Nat=>((v:Int),(1:Int))) (y:Int)<;>rfl
def j7e {w:Nat}{vis:List Nat}(h:w ∉ vis):Wi (joi vis) (w:Int) 1=joi (vis++[w]):=by
 have:jx (joi vis) (w:Int)=none:=by
  rw[mfind_none];unfold joi;rw[dl,aE];rintro⟨v,a,e⟩;have b:(v:Int)=w:=by simpa using e
  have:v=w:=zO;exact h (this▸a)
 unfold Wi;rw[this];simp[joi]
def jqs {ob:ZO}{l u:Nat}{vis:List Nat}{y:Nat}(h:jY ob l u=some (MK .u64 jh1 (joi vis))):Yc ob .int (.int .i64 0) false (.map l u) (.int .u64 (y:Int))=some (.int .i64 (if vis.contains y then 1 else 0)):=by rw[jdw (q:=.u64) (f:=jh1) _ h,<- jqt y vis];cases jx (joi vis) (y:Int)<;>rfl
def OrdV (ob:ZO) (lo hi:Nat) (ov:V) (done:List Nat):Prop :=
 (ov=.sl none true 0 []/\done=[])\/∃u cs,ov=.osl (2*u+1) u 0 done.length 1/\ob (2*u+1)=some ⟨u,.cells ((yq done).flatMap yf++cs)⟩/\lo<=u/\u<hi
def OrdV.frame {ob ob':ZO}{lo hi hi':Nat}{ov:V}{done:List Nat}(h:OrdV ob lo hi ov done) (b:∀u,lo<=u->u<hi->ob' (2*u+1)=ob (2*u+1)) (g:hi<=hi'):OrdV ob' lo hi' ov done:=by rcases h with h|⟨u,cs,f,d,a,e⟩;exact .inl h;exact .inr ⟨u,cs,f,(b u a e).trans d,a,zO⟩
structure OnC where
 g:Hist'
 M:List Int
 N:FN
 rv:V
 tc:Option (Nat×Nat)
 most:Int
 n0:Nat
 n1:Nat
 uS:Nat
def OnC.al (c:OnC):V:=.sl c.tc (ym c.g).isEmpty (ym c.g).length ((ym c.g).flatMap yf)
structure OnC.Ok (c:OnC):Prop where
 m:Xl c.g c.M=true
 l:c.g.ts.length<=8
 f:Off c.n0 c.N.kF
 v:Off c.n0 c.N.kV
 fv:c.N.kF≠c.N.kV
 s:c.n0<=c.uS/\c.uS<c.n1
 r:(rdsF c.g c.M).length<=1000000
structure OnS (c:OnC) (w:Nat) (done vis:List Nat) (sp:Bool) (ob:ZO) (ub:Nat):Prop where
 f:∃ov,ob c.N.kF=some ⟨c.N.uF,.cells (fdC c.g c.N c.rv c.al ov c.most sp)⟩/\OrdV ob c.n1 ub ov done
 d:Fd c.N c.rv (rdsF c.g c.M) (yB c.g) (jbn c.g) (Qf c.g) c.n0 ob
 v:∃ver,ob c.N.kV=some ⟨c.N.uV,.mp ver (MK .u64 jh1 (joi vis))⟩
 s:ob (2*c.uS+1)=some ⟨c.uS,.cells (yu w)⟩
def OnC.Rest (c:OnC) (ob ob':ZO):Prop:=∀key,Off c.n1 key->key≠c.N.kF->key≠c.N.kV->key≠2*c.uS+1->ob' key=ob key
def OnC.Ok.fix {c:OnC}(h:c.Ok) {key:Nat}(a:FixF c.N c.n0 key):Off c.n1 key/\key≠c.N.kF/\key≠c.N.kV/\key≠2*c.uS+1:=by have:=h.s;exact⟨a.o.up zO,a.f,a.v,a.o c.uS this.1⟩
def OnR (c:OnC) (w:Nat) (done:List Nat) (R:R3) (ob:ZO) (ub:Nat) (r:V×(ZO)×(Nat->Bool)×Nat):Prop :=
 r.1=.bool R.1.isSome/\ub<=r.2.2.2/\c.Rest ob r.2.1/\∃w' done',OnS c w' done' R.2.2 R.2.1 r.2.1 r.2.2.2/\(∀l,R.1=some l->done'=l)/\(R.1=none->R.2.1=false->w'=w/\done'=done)
def jn2 {k:Nat}:∀{L:List Nat}{w:Nat},w<2^k->(∀a∈L,a<k)->XX w L<2^k
 |[],_,hw,_=>hw
 |a::L,w,hw,h=>by refine jn2 (L:=L) (w:=w|||1<<<a) (dP hw ?_) λb d=>h b (aS _ d);rw[dj];exact em zQ (h a (aK ..))
section
variable {c:OnC}
def cl_lt (a:c.Ok) {t:Nat}(h:t∈yB c.g):t<8:=by have:=JZ (comN_mem.1 h);have:=a.l;omega
def j5p (b:c.Ok) (t:Nat):jbn c.g t<512:=by
 have:jbn c.g t<2^9:=jn2 zQ λa d=>by have:=cl_lt b (bu.1 d).1;omega
 exact this
def jv8 (b:c.Ok) (t:Nat):Qf c.g t<2^64:=jc7 zQ λa d=>by have:=aM.1 (bu.1 d).1;have:=(jr6 (Wk (Xa b.m))).1;omega
end
end Go.Pv.T
