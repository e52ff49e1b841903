/- Part. -/
import Derived.Test.YtmanndcfeicokaaGreatDoorPJ
set_option maxRecDepth 100000
set_option maxHeartbeats 8000000
set_option linter.all false
namespace Go.Pv.T
open Go Go.Pv
def rdsF (g:Hist') (M:List Int):List (Int×Int×Int):=((yi g).zip M).map λx=>(x.1.1,x.2,Wu g x.1)
def jrk {g:Hist'}{M:List Int}(h:M.length=(yi g).length):(rdsF g M).length=(yi g).length:=by simp[rdsF,h]
def j78 {g:Hist'}{M:List Int}{i:Nat}(a:i<(yi g).length) (b:i<M.length):(rdsF g M)[i]? = some ((yi g)[i].1,M[i],Wu g (yi g)[i]):=by unfold rdsF;rw[aV,show((yi g).zip M)[i]? = some ((yi g)[i],M[i]) from fF.2 ⟨aa a,aa b⟩];rfl
def WM (g:Hist') (t a:Nat):Bool:=yE g a==yE g t
def Q7 (g:Hist') (t i:Nat):Nat:=Y1 0 ((List.range i).filter λkey=>Jo g t key)
def RowG (ob:ZO) (lo hi:Nat) (v:V) (rs:List (Int×Int×Int)):Prop:=(v=.sl none true 0 []/\rs=[])\/∃u,v=.osl (2*u+1) u 0 rs.length 3/\ob (2*u+1)=some ⟨u,.cells (rs.flatMap rdC)⟩/\lo<=u/\u<hi
def RowG.frame {ob ob':ZO}{lo hi hi':Nat}{v:V}{rs:List (Int×Int×Int)}(h:RowG ob lo hi v rs) (b:∀u,lo<=u->u<hi->ob' (2*u+1)=ob (2*u+1)) (f:hi<=hi'):RowG ob' lo hi' v rs:=by rcases h with h|⟨u,e,c,a,d⟩;exact .inl h;exact .inr ⟨u,e,(b u a d).trans c,a,zO⟩
def ju5 {v:V}{rs:List (Int×Int×Int)}{r:Int×Int×Int}{s x:A}{st:St}{lo hi ub:Nat}{K:List FP->St->Prop}{d:Option Nat}{q:List AOpr}(e:ye E st.tm s=v) (m:RowG st.ob lo hi v rs) (l:st.ro<=lo)
 (f:yp st.ob 3 (ye E st.tm x)=some (rdC r)) (o:rs.length<=1000000)
 (h:∀kill:List Nat,(kill=[]\/∃u,v=.osl (2*u+1) u 0 rs.length 3/\kill=[2*u+1]/\lo<=u/\u<hi)->YU E q K (ye E st.tm) (.append true 3 24 s x) st d ub { v:=.osl (2*ub+1) ub 0 (rs.length+1) 3,obs:=[(2*ub+1,⟨ub,.cells ((rs++[r]).flatMap rdC)⟩)],kill:=kill }):jE E (⟨d,.append true 3 24 s x,none,true⟩::q) st ub K:=by
 have a:rdC r≠[]:=by simp[rdC]
 have b:(rdC r).all V.leaf=true:=rfl;have j:=j1 jox rs;rw[jv rfl];rcases m with⟨rfl,rfl⟩|⟨u,rfl,i,n,k⟩;simp only[yU,e,f,ah,za a,dq,zd,Jd,Xu];rw[zb ⟨zQ,b,by simp[rdC],by simp[rdC]⟩];simp only[Jn,jG];have:=h [] (.inl rfl);simpa[rdC] using this;have c:ya st.ob (2*u+1) u=some (rs.flatMap rdC):=by simp[ya,i]
 simp only[yU,e,f,c,ah,za a,Jd,Xu];rw[zb ⟨bS▸zO,trivial,trivial,zO,zQ,b,by simp[rdC];omega,by simp[rdC];omega⟩,jG];have:=h [2*u+1] (.inr ⟨u,rfl,rfl,n,k⟩);rw[show(rs.flatMap rdC).take (rs.length*3)=rs.flatMap rdC from aH zO];simpa[rdC,bK] using this
def juq {b:Type}(m:List (Int×b)) (k:Int) (a:b):∃i,jy (Wj m k a) k=some (i,a):=by
 have:=W5 k a k m;rw[zb rfl]at this;cases h:jy (Wj m k a) k with
 |none=>rw[h]at this;cases this
 |some p=>rw[h]at this;simp only[aU,ab]at this;exact⟨p.1,by rw[<- this]⟩
def jur {c:Type}(m:List (Int×c)) (k b:Int) (a z:c):jbw (Wj m k a) b z=if b=k then a else jbw m b z:=by rw[jr4,jr4,W5];split<;>rfl
def lookP {ob:ZO}{l u:Nat}{k:Int}{m:List (Int×Option (Nat×Nat))}{p:Nat×Nat}(h:jY ob l u=some (MK .i64 jhq (Wj m k (some p)))):Yg ob .int .nilptr false (.map l u) (.int .i64 k)=some (.ptr p.1 p.2 0):=by rw[jd1 (q:=.i64) (f:=jhq) _ h];obtain⟨i,a⟩:=juq m k (some p);rw[a];rfl
def jnl (p:Nat->Bool) (L:List Nat) (x:Nat):Y1 0 ((L++[x]).filter p)=if p x then Y1 0 (L.filter p)|||1<<<x else Y1 0 (L.filter p):=by rw[bN,ct,dA];cases p x;simp;rw[zb rfl,zb rfl,Y1,fJ];rfl
def jht {L:List Nat}(h:L.Pairwise (· < ·)) {j t:Nat}(f:j<L.length) (l:t=L[j]) (p:Nat->Bool):L.filter (λa=>decide (a<t)&&p a)=(L.take j).filter p:=by
 subst l;have d:=cZ.1 h;have e:L.filter (λa=>decide (a<L[j])&&p a)=(L.take j++L.drop j).filter (λa=>decide (a<L[j])&&p a):=by rw[dR]
 rw[e,bN];have k:(L.drop j).filter (λa=>decide (a<L[j])&&p a)=[]:=by
  rw[fY];intro a b;obtain⟨i,c,rfl⟩:=bq b;rw[bc]at c;rw[List.getElem_drop];have:¬L[j+i]<L[j]:=by rcases cL i with h0|h0;subst h0;simp;have:=d j (j+i) f zO zO;omega
  simp[this]
 rw[k,aL];refine gH λa b=>?_;obtain⟨i,c,rfl⟩:=bq b;rw[ai]at c;rw[ew];simp[d i j zO f zO]
structure SB (ob:ZO) (lo hi k u:Nat) (T:List Nat) (v f:Nat->Nat):Prop where
 m:∃m,ob k=some ⟨u,.mp (2*T.length) (MK .i64 jhq m)⟩/\∀t∈T,jbw m (t:Int) none=some (2*v t+1,v t)
 s:∀t∈T,ob (2*v t+1)=some ⟨v t,.cells (yv (f t))⟩/\lo<=v t/\v t<hi
def SB.snoc {ob ob':ZO}{lo hi hi' k u t x:Nat}{T:List Nat}{v f:Nat->Nat}{m:List (Int×Option (Nat×Nat))}(h:SB ob lo hi k u T v f) (i:∀z∈T,jbw m (z:Int) none=some (2*v z+1,v z))
 (j:ob' k=some ⟨u,.mp (2*(T.length+1)) (MK .i64 jhq (Wj m (t:Int) (some (2*x+1,x))))⟩) (c:∀z∈T,ob' (2*v z+1)=ob (2*v z+1)) (d:ob' (2*x+1)=some ⟨x,.cells (yv (f t))⟩) (n:lo<=x) (b:x<hi') (r:hi<=hi') (q:t ∉ T) :
 SB ob' lo hi' k u (T++[t]) (λz=>if z=t then x else v z) f:=by
 refine⟨⟨_,by rw[ap];exact j,λz a=>?_⟩,λz a=>?_⟩;rw[jur];by_cases e:z=t;subst e;simp;have o:¬(z:Int)=t:=zO;rw[za o,za e];rcases aQ.1 a with a|a;exact i z a;exact zf (ae.1 a) e;by_cases e:z=t;subst e;simp only[zd];exact⟨d,n,b⟩;rcases aQ.1 a with a|a;simp only[za e];obtain⟨l,p,w⟩:=h.s z a;exact⟨(c z a).trans l,p,zO⟩;exact zf (ae.1 a) e
def j4z {T:List Nat}{j i:Nat->Nat}{t a w hi:Nat}(h:∀z∈T,∀b∈T,j z≠i b) (o:∀z∈T,j z<hi) (l:∀z∈T,i z<hi) (q:hi<=a) (p:hi<=w) (f:a≠w) :
 ∀z∈T++[t],∀b∈T++[t],(if z=t then a else j z)≠(if b=t then w else i b):=by
 intro z k b d;have m:∀{y},y∈T++[t]->¬y=t->y∈T:=λn e=>by rcases aQ.1 n with h|h;exact h;exact zf (ae.1 h) e
 by_cases e:z=t;by_cases c:b=t;rw[zb e,zb c];exact f;rw[zb e,za c];have:=l b (m d c);omega;by_cases c:b=t;rw[za e,zb c];have:=o z (m k e);omega;rw[za e,za c];exact h z (m k e) b (m d c)
def jsj {T:List Nat}{v:Nat->Nat}{t a hi:Nat}(h:∀z∈T,∀b∈T,v z=v b->z=b) (i:∀z∈T,v z<hi) (l:hi<=a) :
 ∀z∈T++[t],∀b∈T++[t],(if z=t then a else v z)=(if b=t then a else v b)->z=b:=by
 intro z j b f c;have m:∀{y},y∈T++[t]->¬y=t->y∈T:=λk e=>by rcases aQ.1 k with h|h;exact h;exact zf (ae.1 h) e
 by_cases e:z=t;by_cases d:b=t;rw[e,d];rw[zb e,za d]at c;have:=i b (m f d);omega;by_cases d:b=t;rw[za e,zb d]at c;have:=i z (m j e);omega;rw[za e,za d]at c;exact h z (m j e) b (m f d) c
def jbg (g:Hist') (t:Nat):Nat:=Y1 0 ((yC g).filter λa=>decide (a<t)&&WM g t a)
def Qb (g:Hist') (t:Nat):Nat:=Q7 g t g.ks.length
def SB.sets {N:FN}{ob ob':ZO}{lo hi n0 k u:Nat}{T:List Nat}{v f:Nat->Nat}(h:SB ob lo hi k u T v f) (d:FixF N n0 k) (e:ob' k=ob k) (b:∀z∈T,ob' (2*v z+1)=ob (2*v z+1)/\FixF N n0 (2*v z+1)):SetsF N n0 ob' k u T f:=by obtain⟨m,i,c⟩:=h.m;exact⟨d,_,m,e.trans i,λt a=>⟨_,_,c t a,(b t a).1.trans (h.s t a).1,(b t a).2⟩⟩
def BegF (g:Hist') (M:List Int) (ob:ZO) (ub:Nat) (r:V×(ZO)×(Nat->Bool)×Nat):Prop :=
 ub<=r.2.2.2/\Was ub ob r.2.1/\∃(N:FN) (rv:V) (tc:Option (Nat×Nat)),r.1=.ptr N.kF N.uF 0/\r.2.1 N.kF=some ⟨N.uF,.cells (fdC g N rv (.sl tc (ym g).isEmpty (ym g).length ((ym g).flatMap yf)) (.sl none true 0 []) 0 false)⟩ /\
  Fd N rv (rdsF g M) (yC g) (jbg g) (Qb g) r.2.2.2 r.2.1/\r.2.1 N.kV=some ⟨N.uV,.mp 0 (MK .u64 jhs [])⟩/\Off r.2.2.2 N.kF/\Off r.2.2.2 N.kV/\N.kF≠N.kV/\ub<=N.uF/\ub<=N.uV
section
variable {g:Hist'}{M:List Int}
def sv149 {Yf:YF}(hs:Small g) (hm:W7 g M=true) {nl:Bool}{ob:ZO}{tk:Nat->Bool}{ro base ub:Nat}(r8:ro<=ub) :
 ∃r,EvS E Yf.y 149 [.agg (yb g),yl nl yf M] ob tk ro base ub r/\BegF g M ob ub r:=by
 have hw:=Xv hm;have hM:=XV hm;have hR:=Xr hs;have a0:=Yx hw;obtain⟨vr,m1,h5⟩:=ev72 hs;have p7:jbo g=yi g:=by simp[jbo,hw]
 rw[p7]at h5;obtain⟨vc,o8,i1⟩:=ev70 hs;rw[jg9 hw]at i1;refine J6 rfl zQ ?_;show wpC E Yf S149.body _ (Jg S149.res _);simp only[S149,cfc,cf,Proofs.Tryz.f149,je2,ah];conv in (occs := *) j5d _ _ _ _=>all_goals cbv
 simp only[ah,aU];conv in (occs := *) Option.getD _ _=>all_goals cbv
 simp(disch:=try exact zD)[S149,ya,yb,V.cells,aA];refine jks ?_;simp(disch:=try exact zD);refine jks ?_;simp(disch:=try exact zD)[ya,yj,aA];refine X4 o8 zH rfl zH ?_;refine Jv i1 λtc r5=>?_;simp(disch:=try exact zD);refine jks ?_;simp(disch:=try exact zD)[j2,V.cells,JQ,YW,Wk,QP,yz,yB,yR,Delta.wo,Delta.wt,yl,aA];refine⟨⟨JF zO,JF zO,JF zO,JF zO,JF zO,JF zO,JF zO,JF zO,JF zO⟩,?_⟩;simp(disch:=try exact zD)[ya,yj];refine jH m1 zH rfl zH ?_;refine Jv h5 λtr r0=>?_;simp(disch:=try exact zD);refine jQ λB c=>?_;obtain⟨H,e9⟩:∃u,u=ub+192:=⟨_,rfl⟩;obtain⟨G,f0⟩:∃u,u=ub+256:=⟨_,rfl⟩;obtain⟨uV,f3⟩:∃u,u=ub+448:=⟨_,rfl⟩;obtain⟨uF,d1⟩:∃u,u=ub+576:=⟨_,rfl⟩;obtain⟨N,hN⟩:∃N:FN,N=⟨2*uF+1,uF,2*H+1,H,2*G+1,G,2*uV+1,uV⟩:=⟨_,rfl⟩;obtain⟨al,c9⟩:∃al:V,al=.sl tc (ym g).isEmpty (ym g).length ((ym g).flatMap yf):=⟨_,rfl⟩;have g1:B.tm 1=yl nl yf M:=by rw[c];simp[yl]
 have g2:B.tm 2=.ptr (2*ub+1) ub 0:=by rw[c];simp
 have g5:B.tm 5=.ptr (2*uF+1) uF 0:=by rw[c,d1];simp
 have n6:B.tm 24=.sl tr (yi g).isEmpty (yi g).length ((yi g).flatMap jC):=by rw[c];simp
 have l6:B.tm 25=.int .i64 (yi g).length:=by rw[c];simp
 have q7:B.tm 26=.int .i64 0:=by rw[c];simp
 have gd:B.df=[]:=by rw[c];simp
 have gr:B.ro=ro:=by rw[c];simp
 have gn:uF<B.nx:=by rw[c,d1];simp
 have gw:Was ub ob B.ob:=λb D=>by rw[c];simp(disch:=try exact zD)[show ∀m,ub<=m->¬b=2*m+1 from D]
 have pB:B.ob (2*ub+1)=some ⟨ub,.cells (yb g)⟩:=by rw[c];simp(disch:=try exact zD)[yj,yb,yl]
 have pF:B.ob (2*uF+1)=some ⟨uF,.cells (fdC g N (.sl none true 0 []) al (.sl none true 0 []) 0 false)⟩:=by rw[c,hN,d1,e9,f0,f3,c9];simp(disch:=try exact zD)[fdC,yl]
 have pA:B.ob (2*H+1)=some ⟨H,.mp 0 (MK .i64 jhq [])⟩:=by rw[c,e9];simp(disch:=try exact zD)[yj,MK]
 have pW:B.ob (2*G+1)=some ⟨G,.mp 0 (MK .i64 jhq [])⟩:=by rw[c,f0];simp(disch:=try exact zD)[yj,MK]
 have pV:B.ob (2*uV+1)=some ⟨uV,.mp 0 (MK .u64 jhs [])⟩:=by rw[c,f3];simp(disch:=try exact zD)[yj,MK]
 clear c;obtain⟨o1,o2,o3,o4⟩:ub<H/\H<G/\G<uV/\uV<uF:=zO;clear e9 f0 f3 d1;obtain⟨n8,b9⟩:∃o,o=B.ob:=⟨_,rfl⟩;obtain⟨n0,o7⟩:∃n,n=B.nx:=⟨_,rfl⟩;rw[<- b9]at gw pB pF pA pW pV;rw[<- o7]at gn;have r9:=jrk (g:=g) hM;obtain⟨J,hJ⟩:∃J:Nat->St->Prop,J=λi s=>s.tm 26=.int .i64 i/\(∃rv,s.ob (2*uF+1)=some ⟨uF,.cells (fdC g N rv al (.sl none true 0 []) 0 false)⟩/\RowG s.ob n0 s.nx rv ((rdsF g M).take i))/\(∀b,Off n0 b->b≠2*uF+1->s.ob b=n8 b)/\n0<=s.nx:=⟨_,rfl⟩;refine j5 [(6,7),(26,59)] (yi g).length J rfl rfl (by
  rw[hJ];exact⟨zU q7,⟨_,by rw[<- b9];exact pF,.inl ⟨rfl,rfl⟩⟩,λb _ _=>by rw[b9],zO⟩) ?_
 clear pF;intro i s hi c1 f;rw[hJ]at c1;obtain⟨d0,⟨rv,sF,sR⟩,X,sn⟩:=c1;have s1:s.tm 1=yl nl yf M:=by rw[f.t 1 zS];simp[g1]
 have s2:s.tm 2=.ptr (2*ub+1) ub 0:=by rw[f.t 2 zS];simp[g2]
 have s5:s.tm 5=.ptr (2*uF+1) uF 0:=by rw[f.t 5 zS];simp[g5]
 have h7:s.tm 24=.sl tr (yi g).isEmpty (yi g).length ((yi g).flatMap jC):=by rw[f.t 24 zS];simp[n6]
 have f5:s.tm 25=.int .i64 (yi g).length:=by rw[f.t 25 zS];simp[l6]
 have sd:s.df=[]:=by rw[f.d];simp[gd]
 have sr:s.ro=ro:=by rw[f.r];simp[gr]
 clear f;have qB:s.ob (2*ub+1)=some ⟨ub,.cells (yb g)⟩:=by rw[X _ (Off.new zO) zO];exact pB
 have nB:∀m,s.nx<=m->¬ub=m:=λm hm=>by omega
 have nF:∀m,s.nx<=m->¬uF=m:=λm hm=>by omega
 by_cases I:i<(yi g).length;have e6:=jP I zO;have g4:i<M.length:=zO;obtain⟨a,k,ha,D,e,b0,hc⟩:=jf6 a0 I;have e2:=JC jR tr (yi g).isEmpty (yi g) .i64 I;have l0:=λob=>Yq (yi g) ob I;have d7:=j78 I g4;simp only[e]at l0 d7;have p4:=jj M g4;have o0:(g.ts.flatMap jf)[a*3+2]? = some (yl (g.ts[a]).nl yS (g.ts[a]).ops):=by rw[jO j7 g.ts ha (by decide:2<3)];rfl
 have l8:((g.ts[a]).ops.flatMap yS)[k*4+1]? = some (.int .i64 ((g.ts[a]).ops[k]).key):=by rw[jO jD (g.ts[a]).ops D (by decide:1<4)];rfl
 simp(disch:=try exact zD)[d0,f5,h7,s5,I,e2,l0,ya,j2,yj,nF,sF,fdC];refine⟨by first|omega|(simp[sr];omega),?_⟩;simp(disch:=try exact zD)[ya,j2,yj,nB,qB,s1,s2,yb,j4 j7,j4 jD,j4 j6,o0,l8,p4,aA];obtain⟨b,c6⟩:∃b,b=Wu g (yi g)[i]:=⟨_,rfl⟩;rw[<- c6]at b0;rw[<- b0];refine jz (cs:=rdC ((a:Int),M[i],b)) (by simp[j2,rdC]) rfl rfl ?_;simp;refine ju5 (lo:=n0) (hi:=s.nx) (rs:=(rdsF g M).take i) (r:=((a:Int),M[i],b)) (v:=rv) zS ?_ ?_ ?_ ?_ λe1 c4=>?_;refine sR.frame (λu L h2=>?_) zK;have h3:∀m,s.nx<=m->¬u=m:=λm hm=>by omega
 simp(disch:=try exact zD)[yj,h3];first|omega|(simp[sr];omega)
 simp[yp,ya,rdC];rw[ai];omega;have g8:∀b,Off n0 b->e1.any (Nat.beq b)=false:=λb b0=>by rcases c4 with rfl|⟨u,h,rfl,L,h2⟩;rfl;simp only[bp,bD,bm];exact JF (b0 u L)
 have s4:∀m,s.nx<=m->e1.any (Nat.beq (2*m+1))=false:=λm hm=>by rcases c4 with rfl|⟨u,h,rfl,L,h2⟩;rfl;simp only[bp,bD,bm];exact JF zO
 have m4:=g8 (2*uF+1) (Off.new zO);generalize o5:List.flatMap rdC (List.take i (rdsF g M)++[(((a:Nat):Int),M[i],b)])=cs56;simp(disch:=try exact zD)[ya,yj,nF,sF,fdC,m4,j9,j2,JQ,YW,Wk,QP,yz,yB,yR,Delta.wo,Delta.wt,eY];refine⟨by first|omega|(simp[sr];omega),JF zO,?_⟩;simp[d0,e6,I];rw[hJ];refine⟨zS,⟨.osl (2*(s.nx+2048)+1) (s.nx+2048) 0 (((rdsF g M).take i).length+1) 3,?_,.inr ⟨s.nx+2048,?_,?_,zO,zL⟩⟩,λb D K=>?_,zL⟩;simp(disch:=try exact zD)[fdC];rw[ai,ai];congr 1;omega;have q1:(rdsF g M)[i]' zO=(((a:Nat):Int),M[i],b):=by obtain⟨_,h2⟩:=ak.1 d7;rw[h2,c6,e]
 rw[av zO,q1,o5];simp(disch:=try exact zD)[j9,yj,show ¬s.nx+2048=uF from by omega];have f1:=D.ne;simp(disch:=try exact zD)[j9,f1,K,g8 b D,X b D K];have:i=(yi g).length:=zO;subst this;clear I hi;rw[aH zO]at sR;have eB:=qB;simp(disch:=try exact zD)[d0,f5,s5,ya,sF,fdC,yj];rw[c9];simp;refine jQ λB c=>?_;have g2:B.tm 2=.ptr (2*ub+1) ub 0:=by rw[c];simp[s2]
 have g5:B.tm 5=.ptr (2*uF+1) uF 0:=by rw[c];simp[s5]
 have c7:B.tm 63=.sl tc (ym g).isEmpty (ym g).length ((ym g).flatMap yf):=by rw[c];simp
 have c8:B.tm 64=.int .i64 (ym g).length:=by rw[c];simp
 have c5:B.tm 65=.int .i64 0:=by rw[c];simp
 have gd:B.df=[]:=by rw[c];simp[sd]
 have gr:B.ro=ro:=by rw[c];simp[sr]
 have go:B.ob=s.ob:=by rw[c];simp
 have n9:s.nx<=B.nx:=by rw[c];simp;omega
 clear c;obtain⟨b6,Z⟩:∃o,o=B.ob:=⟨_,rfl⟩;obtain⟨n1,r6⟩:∃n,n=B.nx:=⟨_,rfl⟩;rw[<- go,<- Z]at sF sR X qB;have qA:b6 (2*H+1)=some ⟨H,.mp 0 (MK .i64 jhq [])⟩:=by rw[X _ (Off.new zO) zO];exact pA
 have qW:b6 (2*G+1)=some ⟨G,.mp 0 (MK .i64 jhq [])⟩:=by rw[X _ (Off.new zO) zO];exact pW
 have qV:b6 (2*uV+1)=some ⟨uV,.mp 0 (MK .u64 jhs [])⟩:=by rw[X _ (Off.new zO) zO];exact pV
 have o9:Was ub ob b6:=λb D=>by rw[X b (D.up zO) (D uF zO)];exact gw b D
 have l7:RowG b6 n0 n1 rv (rdsF g M):=sR.frame (λ_ _ _=>rfl) zO;have r4:n0<=n1:=zO;clear X pA pW pV sR gw go n9 sn d0 s1 s2 s5 h7 f5 sd sr nB nF eB;obtain⟨J2,e7⟩:∃J2:Nat->St->Prop,J2=λi s=>s.tm 65=.int .i64 i/\(∀b,Off n1 b->b≠2*H+1->b≠2*G+1->s.ob b=b6 b)/\n1<=s.nx /\
  ∃vA vW,SB s.ob n1 s.nx (2*H+1) H ((yC g).take i) vA (jbg g)/\SB s.ob n1 s.nx (2*G+1) G ((yC g).take i) vW (Qb g)/\(∀t∈(yC g).take i,∀t'∈(yC g).take i,vA t≠vW t') /\
   (∀t∈(yC g).take i,∀t'∈(yC g).take i,vA t=vA t'->t=t')/\∀t∈(yC g).take i,∀t'∈(yC g).take i,vW t=vW t'->t=t':=⟨_,rfl⟩
 refine j5 [(8,9),(11,14),(65,142)] (ym g).length J2 rfl rfl (by
  rw[e7];exact⟨zU c5,λb _ _ _=>by rw[Z],zO,λ_=>0,λ_=>0,⟨⟨[],by rw[<- Z];exact qA,λt h=>(by cases h)⟩,λt h=>(by cases h)⟩,⟨⟨[],by rw[<- Z];exact qW,λt h=>(by cases h)⟩,λt h=>(by cases h)⟩,λt h=>(by cases h),λt h=>(by cases h),λt h=>(by cases h)⟩) ?_
 intro i s hi c1 f;rw[e7]at c1;obtain⟨e4,X,sn,vA,vW,sA,sW,h0,k9,f7⟩:=c1;have s2:s.tm 2=.ptr (2*ub+1) ub 0:=by rw[f.t 2 zS];simp[g2]
 have s5:s.tm 5=.ptr (2*uF+1) uF 0:=by rw[f.t 5 zS];simp[g5]
 have f9:s.tm 63=.sl tc (ym g).isEmpty (ym g).length ((ym g).flatMap yf):=by rw[f.t 63 zS];simp[c7]
 have f4:s.tm 64=.int .i64 (ym g).length:=by rw[f.t 64 zS];simp[c8]
 have sd:s.df=[]:=by rw[f.d];simp[gd]
 have sr:s.ro=ro:=by rw[f.r];simp[gr]
 clear f;have s8:=jaw g;by_cases I:i<(ym g).length;have U:i<(yC g).length:=zO;have s3:=hs.ts;have q8:(yC g).length<=1000:=by have:=Xd g;omega
 have hK:jpl=1000000000000:=rfl;have e6:=jP I zO;obtain⟨t,ht⟩:∃t,t=(yC g)[i]:=⟨_,rfl⟩;have q3:(ym g)[i]=(t:Int):=by
  have L:(ym g)[i]? = (yt (yC g))[i]?:=by rw[jc7]
  rw[aa I]at L;unfold yt at L;rw[aV,aa U]at L;simpa[ht] using L
 have e2:=JC j6 tc (ym g).isEmpty (ym g) .i64 I;have g6:=jj (ym g) I;rw[q3]at g6;obtain⟨mA,f8,i8⟩:=sA.m;obtain⟨mW,i0,h6⟩:=sW.m;have e3:((yC g).take i).length=i:=by rw[ai];omega
 rw[e3]at f8 i0;have xF:s.ob (2*uF+1)=some ⟨uF,.cells (fdC g N rv al (.sl none true 0 []) 0 false)⟩:=by rw[X _ (Off.new zO) zO zO];exact sF
 have xB:s.ob (2*ub+1)=some ⟨ub,.cells (yb g)⟩:=by rw[X _ (Off.new zO) zO zO];exact qB
 have nB:∀m,s.nx<=m->¬ub=m:=λm hm=>by omega
 have nF:∀m,s.nx<=m->¬uF=m:=λm hm=>by omega
 have nA:∀m,s.nx<=m->¬H=m:=λm hm=>by omega
 have nW:∀m,s.nx<=m->¬G=m:=λm hm=>by omega
 have m7:¬G=H:=zO;have b7:N.kA=2*H+1/\N.uA=H/\N.kW=2*G+1/\N.uW=G:=by rw[hN];exact⟨rfl,rfl,rfl,rfl⟩
 simp(disch:=try exact zD)[e4,f4,f9,s5,I,e2,g6,ya,xF,fdC,b7];refine jsf zS rfl rfl rfl ?_;simp;refine jsf zS rfl rfl rfl ?_;simp;refine ji5 (q:=.i64) (f:=jhq) (a:=none) (ver:=2*i) (k:=(t:Int)) (l:=2*H+1) (u:=H) mA zS zS rfl (by simp(disch:=try exact zD)[yj,nA,f8]) (by first|omega|(simp[sr];omega)) zO ?_;simp;refine jna (q:=.i64) (f:=jhq) (a:=some (2*(s.nx+1024)+1,s.nx+1024)) (ver:=2*i+1) (k:=(t:Int)) (l:=2*H+1) (u:=H) (Wj mA (t:Int) (jbw mA (t:Int) none)) zS zS (by simp[jhq,V.strip]) (jyo mA t _) zS (by first|omega|(simp[sr];omega)) zO ?_;rw[jr2];simp;refine ji5 (q:=.i64) (f:=jhq) (a:=none) (ver:=2*i) (k:=(t:Int)) (l:=2*G+1) (u:=G) mW zS zS rfl (by simp(disch:=try exact zD)[yj,nW,i0,m7]) (by first|omega|(simp[sr];omega)) zO ?_;simp;refine jna (q:=.i64) (f:=jhq) (a:=some (2*(s.nx+1088)+1,s.nx+1088)) (ver:=2*i+1) (k:=(t:Int)) (l:=2*G+1) (u:=G) (Wj mW (t:Int) (jbw mW (t:Int) none)) zS zS (by simp[jhq,V.strip]) (jyo mW t _) zS (by first|omega|(simp[sr];omega)) zO ?_;rw[jr2];simp;refine⟨jr1 (by simp(disch:=try exact zD)[jmu,jiu,QJ,Wk,QP,yz,yB,yR,Delta.wo,Delta.wt,s5,ya,xF,fdC,b7,yj];and_intros<;>exact JF zO),?_⟩;have m6:Yz 1 none (some (.int .i64 (i:Int))) (.sl tc (ym g).isEmpty (ym g).length ((ym g).flatMap yf))=some (.sl none (ym g).isEmpty i (((ym g).take i).flatMap yf)):=by rw[j7o j6 tc _ (ym g) (show i<=_ by omega),ai,cE zO]
 have p6:¬uF=G:=zO;have m9:¬uF=H:=zO;simp(disch:=try exact zD)[s5,ya,xF,fdC,yj,nF,p6,m9];rw[c9,m6];simp;refine jQ λB c=>?_;obtain⟨Q,g0⟩:∃u,u=s.nx+1024:=⟨_,rfl⟩;obtain⟨P,e5⟩:∃u,u=s.nx+1088:=⟨_,rfl⟩;have g2:B.tm 2=.ptr (2*ub+1) ub 0:=by rw[c];simp[s2]
 have g5:B.tm 5=.ptr (2*uF+1) uF 0:=by rw[c];simp[s5]
 have g9:B.tm 9=.int .i64 t:=by rw[c];simp
 have c5:B.tm 65=.int .i64 i:=by rw[c];simp[e4]
 have l2:B.tm 91=.sl none (ym g).isEmpty i (((ym g).take i).flatMap yf):=by rw[c];simp
 have p5:B.tm 92=.int .i64 i:=by rw[c];simp
 have p9:B.tm 93=.int .i64 0:=by rw[c];simp
 have c7:B.tm 63=.sl tc (ym g).isEmpty (ym g).length ((ym g).flatMap yf):=by rw[c];simp[f9]
 have c8:B.tm 64=.int .i64 (ym g).length:=by rw[c];simp[f4]
 have gd:B.df=[]:=by rw[c];simp[sd]
 have gr:B.ro=ro:=by rw[c];simp[sr]
 have gn:P<B.nx:=by rw[c,e5];simp
 have gw:∀b,Off s.nx b->b≠2*H+1->b≠2*G+1->B.ob b=s.ob b:=λb D L h2=>by rw[c];simp(disch:=try exact zD)[D.ne,L,h2]
 have pa:B.ob (2*Q+1)=some ⟨Q,.cells (yv 0)⟩:=by rw[c,g0];simp(disch:=try exact zD)[yj,aA,jch,show ¬s.nx+1024=H by omega,show ¬s.nx+1024=G by omega]
 have pw:B.ob (2*P+1)=some ⟨P,.cells (yv 0)⟩:=by rw[c,e5];simp(disch:=try exact zD)[yj,aA,jch,show ¬s.nx+1088=H by omega,show ¬s.nx+1088=G by omega]
 have pA:B.ob (2*H+1)=some ⟨H,.mp (2*(i+1)) (MK .i64 jhq (Wj mA (t:Int) (some (2*Q+1,Q))))⟩:=by rw[c,g0];simp(disch:=try exact zD)[yj,aA,show ¬H=G by omega,Nat.mul_add]
 have pW:B.ob (2*G+1)=some ⟨G,.mp (2*(i+1)) (MK .i64 jhq (Wj mW (t:Int) (some (2*P+1,P))))⟩:=by rw[c,e5];simp(disch:=try exact zD)[yj,aA,Nat.mul_add]
 clear c;obtain⟨n7,c3⟩:∃o,o=B.ob:=⟨_,rfl⟩;obtain⟨n3,n2⟩:∃n,n=B.nx:=⟨_,rfl⟩;rw[<- c3]at gw pa pw pA pW;rw[<- n2]at gn;have f2:Xy g=true:=by unfold Yr at a0;simp only[aj]at a0;exact a0.1
 unfold Xy at f2;simp only[aj,ze]at f2;obtain⟨_,_,_,s7,s6⟩:=f2;have b8:∀{x:Nat},x∈yC g->x<g.ts.length:=λh=>XF (comN_mem.1 h);have m0:t<g.ts.length:=b8 (ht▸au U);have d6:∀{x:Nat}(h:x<g.ts.length),(g.ts.flatMap jf)[x*3]? = some (.int .i64 (yE g x)):=fun {x} h=>by have:=jO j7 g.ts h (by decide:0<3);rw[bl]at this;rw[this];simp[jf,yE,h]
 obtain⟨J3,d5⟩:∃J3:Nat->St->Prop,J3=λj s=>s.tm 93=.int .i64 j/\s.ob (2*Q+1)=some ⟨Q,.cells (yv (Y1 0 (((yC g).take j).filter (WM g t))))⟩/\(∀b,Off n3 b->b≠2*Q+1->s.ob b=n7 b)/\n3<=s.nx:=⟨_,rfl⟩;refine j5 [(11,11),(93,118)] i J3 rfl rfl (by
  rw[d5];exact⟨zU p9,by rw[<- c3];exact pa,λb _ _=>by rw[c3],zO⟩) ?_
 intro j q hj k0 f;rw[d5]at k0;obtain⟨d2,qa,qw,qn⟩:=k0;have q2:q.tm 2=.ptr (2*ub+1) ub 0:=by rw[f.t 2 zS];simp[g2]
 have q5:q.tm 5=.ptr (2*uF+1) uF 0:=by rw[f.t 5 zS];simp[g5]
 have q9:q.tm 9=.int .i64 t:=by rw[f.t 9 zS];simp[g9]
 have p0:q.tm 91=.sl none (ym g).isEmpty i (((ym g).take i).flatMap yf):=by rw[f.t 91 zS];simp[l2]
 have h9:q.tm 92=.int .i64 i:=by rw[f.t 92 zS];simp[p5]
 have m5:q.tm 63=.sl tc (ym g).isEmpty (ym g).length ((ym g).flatMap yf):=by rw[f.t 63 zS];simp[c7]
 have p8:q.tm 64=.int .i64 (ym g).length:=by rw[f.t 64 zS];simp[c8]
 have m3:q.tm 65=.int .i64 i:=by rw[f.t 65 zS];simp[c5]
 have qd:q.df=[]:=by rw[f.d];simp[gd]
 have qr:q.ro=ro:=by rw[f.r];simp[gr]
 clear f;have zF:q.ob (2*uF+1)=some ⟨uF,.cells (fdC g N rv al (.sl none true 0 []) 0 false)⟩:=by rw[qw _ (Off.new zO) zO,gw _ (Off.new zO) zO zO];exact xF
 have zB:q.ob (2*ub+1)=some ⟨ub,.cells (yb g)⟩:=by rw[qw _ (Off.new zO) zO,gw _ (Off.new zO) zO zO];exact xB
 by_cases c0:j<i;have f6:j<(yC g).length:=zO;obtain⟨x,hx⟩:∃x,x=(yC g)[j]:=⟨_,rfl⟩;have m2:x<g.ts.length:=b8 (hx▸au f6);have p2:(ym g)[j]' zO=(x:Int):=by
  have L:(ym g)[j]? = (yt (yC g))[j]?:=by rw[jc7]
  rw[aa (show j<(ym g).length by omega)]at L;unfold yt at L;rw[aV,aa f6]at L;simpa[hx] using L
 have e0:j<((ym g).take i).length:=by rw[ai];omega
 have q0:((ym g).take i).length=i:=by rw[ai];omega
 have i5:=JC j6 none (ym g).isEmpty ((ym g).take i) .i64 e0;have i3:=jj ((ym g).take i) e0;rw[ew,p2]at i3;rw[q0]at i5;have g3:=jP c0 zO;have i4:=d6 m2;have i2:=d6 m0;simp(disch:=try exact zD)[d2,h9,p0,q9,q2,c0,i5,i3,ya,zB,yb,j4 j7,i4,i2];have F:Y1 0 (((yC g).take (j+1)).filter (WM g t))=if yE g x==yE g t then Y1 0 (((yC g).take j).filter (WM g t))|||1<<<x else Y1 0 (((yC g).take j).filter (WM g t)):=by rw[av f6,<- hx,jnl];rfl
 cases h8:yE g x==yE g t;simp[d2,g3,c0];rw[d5];rw[h8]at F;refine⟨zS,by rw[F];simpa using qa,λb D K=>by simp[qw b D K],zL⟩;rw[h8,zb rfl]at F;have e8:Y1 0 (((yC g).take j).filter (WM g t))<2^64:=jda zQ λy hy=>by have:=b8 (dI (bL.1 hy).1);omega
 simp(disch:=try exact zD)[q5,q9,ya,zF,fdC,b7];rw[lookP (p:=(2*Q+1,Q)) (k:=(t:Int)) (m:=mA) (by simp[jY];rw[qw _ (Off.new zO) zO,pA];simp)];simp;refine jJ (vs:=[.ptr (2*Q+1) Q 0,.int .i64 x]) zS rfl (jts (w:=Y1 0 (((yC g).take j).filter (WM g t))) (zU qa) (Off.new zL) (by first|omega|(simp[qr];omega)) zO e8) ?_;rintro v l3 l9 q4 ⟨r1,r2,r3⟩;simp only at r1 r2 r3;simp[d2,g3,c0];rw[d5];refine⟨zS,?_,λb D K=>?_,zL⟩;simp;rw[r2 _ (Off.new zL),zb rfl,F];simp;rw[r2 b (D.up zL),za K];simp[qw b D K];have:j=i:=zO;subst this;clear c0 hj;simp(disch:=try exact zD)[d2,h9,q2,ya,zB,yb];refine jQ λB c=>?_;have g2:B.tm 2=.ptr (2*ub+1) ub 0:=by rw[c];simp[q2]
 have g5:B.tm 5=.ptr (2*uF+1) uF 0:=by rw[c];simp[q5]
 have g9:B.tm 9=.int .i64 t:=by rw[c];simp[q9]
 have c5:B.tm 65=.int .i64 j:=by rw[c];simp[m3]
 have i9:B.tm 121=.int .i64 g.ks.length:=by rw[c];simp[yl]
 have i7:B.tm 122=.int .i64 0:=by rw[c];simp
 have c7:B.tm 63=.sl tc (ym g).isEmpty (ym g).length ((ym g).flatMap yf):=by rw[c];simp[m5]
 have c8:B.tm 64=.int .i64 (ym g).length:=by rw[c];simp[p8]
 have gd:B.df=[]:=by rw[c];simp[qd]
 have gr:B.ro=ro:=by rw[c];simp[qr]
 have go:B.ob=q.ob:=by rw[c];simp
 have r7:q.nx<=B.nx:=by rw[c];simp;omega
 clear c;obtain⟨l4,c2⟩:∃o,o=B.ob:=⟨_,rfl⟩;obtain⟨n5,s0⟩:∃n,n=B.nx:=⟨_,rfl⟩;rw[<- go,<- c2]at qa qw zF zB;obtain⟨J5,d4⟩:∃J5:Nat->St->Prop,J5=λk s=>s.tm 122=.int .i64 k/\s.ob (2*P+1)=some ⟨P,.cells (yv (Q7 g t k))⟩/\(∀b,Off n5 b->b≠2*P+1->s.ob b=l4 b)/\n5<=s.nx:=⟨_,rfl⟩;refine j5 [(12,14),(122,141)] g.ks.length J5 rfl rfl (by
  rw[d4];exact⟨zU i7,by rw[<- c2,qw _ (Off.new zO) zO];exact pw,λb _ _=>by rw[c2],zO⟩) ?_
 intro k y D i6 f;rw[d4]at i6;obtain⟨b5,yw,yk,yn⟩:=i6;have y2:y.tm 2=.ptr (2*ub+1) ub 0:=by rw[f.t 2 zS];simp[g2]
 have y5:y.tm 5=.ptr (2*uF+1) uF 0:=by rw[f.t 5 zS];simp[g5]
 have y9:y.tm 9=.int .i64 t:=by rw[f.t 9 zS];simp[g9]
 have n4:y.tm 65=.int .i64 j:=by rw[f.t 65 zS];simp[c5]
 have d8:y.tm 121=.int .i64 g.ks.length:=by rw[f.t 121 zS];simp[i9]
 have yd:y.df=[]:=by rw[f.d];simp[gd]
 have yr:y.ro=ro:=by rw[f.r];simp[gr]
 clear f;have wF:y.ob (2*uF+1)=some ⟨uF,.cells (fdC g N rv al (.sl none true 0 []) 0 false)⟩:=by rw[yk _ (Off.new zO) zO];exact zF
 have wB:y.ob (2*ub+1)=some ⟨ub,.cells (yb g)⟩:=by rw[yk _ (Off.new zO) zO];exact zB
 by_cases d3:k<g.ks.length;have d9:=jP d3 zO;have el:=ev169 hs t k;have ez:(Ys (Jr g t).2 (k:Int)).2=Jo g t k:=rfl;rw[ez]at el;simp(disch:=try exact zD)[b5,d8,y9,y2,d3,ya,wB,yb];refine jH el zI rfl zI ?_;rw[Jb (by simp[V.plain,J7])];simp(disch:=try exact zD)[J7,ya,j2];refine⟨by first|omega|(simp[yr];omega),?_⟩;have F:Q7 g t (k+1)=if Jo g t k then Q7 g t k|||1<<<k else Q7 g t k:=by unfold Q7;rw[cV,jnl]
 cases l1:Jo g t k;simp[b5,d9,d3];rw[d4];rw[l1]at F;refine⟨zS,by rw[F];simp(disch:=try exact zD)[yj,yw,show ∀m,y.nx<=m->¬P=m from λm hm=>by omega],λb D K=>by simp(disch:=try exact zD)[D.ne,yk b D K],zL⟩;rw[l1,zb rfl]at F;have e8:Q7 g t k<2^64:=jda zQ λz S=>by have:=bf.1 (bL.1 S).1;omega
 have q6:∀m,y.nx<=m->¬P=m:=λm hm=>by omega
 have p1:∀m,y.nx<=m->¬G=m:=λm hm=>by omega
 have l5:∀m,y.nx<=m->¬uF=m:=λm hm=>by omega
 simp(disch:=try exact zD)[y5,y9,ya,wF,fdC,b7,yj,l5];rw[lookP (p:=(2*P+1,P)) (k:=(t:Int)) (m:=mW) (by simp(disch:=try exact zD)[jY,yj,p1];rw[yk _ (Off.new zO) zO,qw _ (Off.new zO) zO,pW];simp)];simp;refine jJ (vs:=[.ptr (2*P+1) P 0,.int .i64 k]) zS rfl (jts (w:=Q7 g t k) (by simp(disch:=try exact zD)[yj,q6,yw]) (Off.new zL) (by first|omega|(simp[yr];omega)) zO e8) ?_;rintro v l3 l9 q4 ⟨r1,r2,r3⟩;simp only at r1 r2 r3;simp[b5,d9,d3];rw[d4];refine⟨zS,?_,λb D K=>?_,zL⟩;simp;rw[r2 _ (Off.new zL),zb rfl,F];simp;rw[r2 b (D.up zL),za K];simp(disch:=try exact zD)[D.ne,yk b D K];have:k=g.ks.length:=zO;subst this;have O:∀b,Off s.nx b->b≠2*H+1->b≠2*G+1->y.ob b=s.ob b:=λb D L h2=>by rw[yk b (D.up zO) (D P zO),qw b (D.up zO) (D Q zO),gw b D L h2]
 have m8:y.ob (2*H+1)=some ⟨H,.mp (2*(j+1)) (MK .i64 jhq (Wj mA (t:Int) (some (2*Q+1,Q))))⟩:=by rw[yk _ (Off.new zO) zO,qw _ (Off.new zO) zO,pA]
 have p3:y.ob (2*G+1)=some ⟨G,.mp (2*(j+1)) (MK .i64 jhq (Wj mW (t:Int) (some (2*P+1,P))))⟩:=by rw[yk _ (Off.new zO) zO,qw _ (Off.new zO) zO,pW]
 have o6:y.ob (2*Q+1)=some ⟨Q,.cells (yv (jbg g t))⟩:=by rw[yk _ (Off.new zO) zO,qa];unfold jbg;rw[jht (jk2 g) U ht]
 simp[b5,d8,n4,e6,I];rw[e7];have eT:(yC g).take (j+1)=(yC g).take j++[t]:=by rw[av U,ht]
 have g7:t ∉ (yC g).take j:=λh=>by obtain⟨i,hi,e⟩:=bq h;rw[ai]at hi;rw[ew]at e;have:=cZ.1 (jk2 g) i j zO U zO;omega
 refine⟨zS,λb D L h2=>?_,zL,λz=>if z=t then Q else vA z,λz=>if z=t then P else vW z,?_,?_,?_,?_,?_⟩;simp;rw[O b (D.up zO) L h2];exact X b D L h2;rw[eT];refine sA.snoc i8 (by rw[e3];simpa using m8) (λz S=>?_) (zU o6) zO zL zL g7;have:=(sA.s z S).2;simp;exact O _ (Off.new zO) zO zO;rw[eT];refine sW.snoc h6 (by rw[e3];simpa using p3) (λz S=>?_) (by simpa[Qb] using yw) zO zL zL g7;have:=(sW.s z S).2;simp;exact O _ (Off.new zO) zO zO;rw[eT];exact j4z h0 (λz S=>(sA.s z S).2.2) (λz S=>(sW.s z S).2.2) zO zO zO;rw[eT];exact jsj k9 (λz S=>(sA.s z S).2.2) zO;rw[eT];exact jsj f7 (λz S=>(sW.s z S).2.2) zO;have:i=(ym g).length:=zO;subst this;rw[aH zO]at sA sW h0 k9 f7;simp[e4,f4,s5];have xF:s.ob (2*uF+1)=some ⟨uF,.cells (fdC g N rv al (.sl none true 0 []) 0 false)⟩:=by rw[X _ (Off.new zO) zO zO];exact sF
 have xV:s.ob (2*uV+1)=some ⟨uV,.mp 0 (MK .u64 jhs [])⟩:=by rw[X _ (Off.new zO) zO zO];exact qV
 have b7:N.kF=2*uF+1/\N.uF=uF/\N.kA=2*H+1/\N.uA=H/\N.kW=2*G+1/\N.uW=G/\N.kV=2*uV+1/\N.uV=uV:=by rw[hN];exact⟨rfl,rfl,rfl,rfl,rfl,rfl,rfl,rfl⟩
 obtain⟨k1,k2,k3,k4,k5,k6,k7,k8⟩:=b7;have T:∀u n,u<n->u≠uF->u≠uV->FixF N n (2*u+1):=λu n L h2 h3=>⟨by rw[k1];omega,by rw[k7];omega,Off.new L⟩;refine JL (by simp[sd]) ⟨zL,λb D=>?_,N,rv,tc,by simp[k1,k2],by rw[k1,k2,<- c9];simpa using xF,⟨?_,?_,?_⟩,by rw[k7,k8];simpa using xV,by rw[k1];exact Off.new zL,by rw[k7];exact Off.new zL,by rw[k1,k7];omega,by rw[k2];omega,by rw[k8];omega⟩;simp;rw[X b (D.up zO) (D H zO) (D G zO)];exact o9 b D;rcases l7 with h|⟨u,L,h2,h3,h4⟩
 exact .inl h;refine .inr ⟨2*u+1,u,L,?_,T u _ zL zO zO⟩;simp;rw[X _ (Off.new zO) zO zO];exact h2;rw[k3,k4];refine sA.sets (T H _ zL zO zO) zS λz S=>?_;have:=(sA.s z S).2;exact⟨zS,T _ _ zL zO zO⟩;rw[k5,k6];refine sW.sets (T G _ zL zO zO) zS λz S=>?_;have:=(sW.s z S).2;exact⟨zS,T _ _ zL zO zO⟩
end
section
variable {g:Hist'}{M:List Int}
def jri (c:Yr g=true) {i:Nat}(hi:i<(yi g).length):∃k:Nat,Wu g (yi g)[i]=k/\k<g.ks.length:=by
 obtain⟨a,b,f,h,e,d,j⟩:=jf6 c hi;unfold Yr at c;simp only[aj,aw]at c;have:=c.2.2.1 (g.ts[a].ops[b]) (by
  unfold jdv;exact cq.2 ⟨g.ts[a],au f,au h⟩)
 simp only[opB,Ym,aj,ze]at this;exact⟨(Wu g (yi g)[i]).toNat,by rw[d];omega,by rw[d];omega⟩
def jr5 (a:Yr g=true):g.ks.length<=40/\g.ts.length<=40:=by unfold Yr at a;simp only[aj]at a;have h:=a.1;unfold Xy at h;simp only[aj,ze]at h;exact⟨h.2.2.2.1,h.2.2.2.2⟩
def j77 (f:W7 g M=true) {r:Int×Int×Int}(a:r∈rdsF g M):∃(i:Nat) (p:Int×Int) (m:Int),(yi g)[i]? = some p/\M[i]? = some m/\r=(p.1,m,Wu g p):=by unfold rdsF at a;obtain⟨⟨p,m⟩,e,rfl⟩:=aI.1 a;obtain⟨i,d⟩:=List.mem_iff_getElem?.1 e;obtain⟨c,b⟩:=fF.1 d;exact⟨i,p,m,c,b,rfl⟩
def rds_ok (d:W7 g M=true):∀r∈rdsF g M,RdOk r:=λr l=>by obtain⟨i,p,m,q,j,rfl⟩:=j77 d l;have c:=Yx (Xv d);have s:=jr5 c;obtain⟨e,rfl⟩:=ak.1 q;obtain⟨k,t,f⟩:=jri c e;obtain⟨a,u,o⟩:=comL_mem.1 (jrj (au e));have:=XF o;refine⟨⟨zO,zO⟩,?_,by show 0<=Wu g _;omega,by show Wu g _<64;omega⟩;show m<64;rcases jpk d (aJ j) with h|h;omega;obtain⟨b,v,n⟩:=comL_mem.1 h;have:=XF n;omega
def jk0 (p:Nat->Bool) (L:List Nat) (a:Nat):(Y1 0 (L.filter p)).testBit a=decide (a∈L/\p a=true):=by rw[js5,Nat.zero_testBit,bR,bA,cC,bL,ze]
def j8o (u:W7 g M=true) (z:g.ts.length<=8) (w t:Nat):j3b (rdsF g M) (jbg g) (Qb g) w t=jpf g M (λa=>w.testBit a) t:=by
 have b:=Yx (Xv u);unfold j3b jpf;congr 1;rw[bA,aw,andTo_iff];constructor;intro h a l;by_cases o:Jt g a=true;by_cases c:yE g a=yE g t;have q:=XF o;have:=h a (bitsUp_mem.2 ⟨zO,by unfold jbg;rw[jk0,ze];exact⟨comN_mem.2 o,by simp[WM,c,l]⟩⟩);simp[this];simp[c];simp[o];intro h a l;have f:=(bitsUp_mem.1 l).2;unfold jbg at f;rw[jk0,ze]at f;obtain⟨n,d⟩:=f;simp only[WM,aj,ze,zh]at d;have:=h a d.1;simpa[comN_mem.1 n,d.2] using this;rw[List.not_any_eq_all_not,rdsF,dN,bA,aw,aw];refine forall_congr' λx=>forall_congr' λs=>?_;obtain⟨p,m⟩:=x;obtain⟨i,r⟩:=List.mem_iff_getElem?.1 s;obtain⟨n,d⟩:=fF.1 r;obtain⟨j,rfl⟩:=ak.1 n;obtain⟨k,y,e⟩:=jri b j;have v:(Qb g t).testBit k=Jo g t k:=by unfold Qb Q7;rw[jk0,bA,ze,bf];exact⟨λh=>h.2,λh=>⟨e,h⟩⟩
 simp only[Function.comp,barB,y,ba,v,jdm];split;cases decide (m<0)<;>cases w.testBit m.toNat<;>rfl;cases w.testBit (yi g)[i].1.toNat<;>cases decide (m<0)<;>cases w.testBit m.toNat<;>cases Jo g t k<;>rfl
end
def job (vis:List Nat):List (Int×Int):=vis.map λv:Nat=>((v:Int),(1:Int))
def jqr (y:Nat):∀a:List Nat,(match jy (job a) (y:Int) with|some p=>jhs p.2|none=>V.int .i64 0)=.int .i64 (if a.contains y then 1 else 0)
 |[]=>rfl
 |v::a=>by
  have b:=jqr y a;unfold job at b ⊢;rw[aZ,jy,dE];by_cases h:y=v;subst h;simp[jhs];have d:¬(y:Int)=v:=zO;have e:(y==v)=false:=by simpa using h
  rw[za d,e,bR,<- b];cases jy (a.map λv:Nat=>((v:Int),(1:Int))) (y:Int)<;>rfl
def j68 {w:Nat}{vis:List Nat}(h:w ∉ vis):Wj (job vis) (w:Int) 1=job (vis++[w]):=by
 have:jy (job vis) (w:Int)=none:=by
  rw[mfind_none];unfold job;rw[cM,aI];rintro⟨v,a,e⟩;have b:(v:Int)=w:=by simpa using e
  have:v=w:=zO;exact h (this▸a)
 unfold Wj;rw[this];simp[job]
def jqq {ob:ZO}{l u:Nat}{vis:List Nat}{y:Nat}(h:jY ob l u=some (MK .u64 jhs (job vis))):Yg ob .int (.int .i64 0) false (.map l u) (.int .u64 (y:Int))=some (.int .i64 (if vis.contains y then 1 else 0)):=by rw[jd1 (q:=.u64) (f:=jhs) _ h,<- jqr y vis];cases jy (job vis) (y:Int)<;>rfl
def OrdV (ob:ZO) (lo hi:Nat) (ov:V) (done:List Nat):Prop :=
 (ov=.sl none true 0 []/\done=[])\/∃u cs,ov=.osl (2*u+1) u 0 done.length 1/\ob (2*u+1)=some ⟨u,.cells ((yt done).flatMap yf++cs)⟩/\lo<=u/\u<hi
def OrdV.frame {ob ob':ZO}{lo hi hi':Nat}{ov:V}{done:List Nat}(h:OrdV ob lo hi ov done) (b:∀u,lo<=u->u<hi->ob' (2*u+1)=ob (2*u+1)) (g:hi<=hi'):OrdV ob' lo hi' ov done:=by rcases h with h|⟨u,cs,f,d,a,e⟩;exact .inl h;exact .inr ⟨u,cs,f,(b u a e).trans d,a,zO⟩
structure OnC where
 g:Hist'
 M:List Int
 N:FN
 rv:V
 tc:Option (Nat×Nat)
 most:Int
 n0:Nat
 n1:Nat
 uS:Nat
def OnC.al (c:OnC):V:=.sl c.tc (ym c.g).isEmpty (ym c.g).length ((ym c.g).flatMap yf)
structure OnC.Ok (c:OnC):Prop where
 m:W7 c.g c.M=true
 l:c.g.ts.length<=8
 f:Off c.n0 c.N.kF
 v:Off c.n0 c.N.kV
 fv:c.N.kF≠c.N.kV
 s:c.n0<=c.uS/\c.uS<c.n1
 r:(rdsF c.g c.M).length<=1000000
structure OnS (c:OnC) (w:Nat) (done vis:List Nat) (sp:Bool) (ob:ZO) (ub:Nat):Prop where
 f:∃ov,ob c.N.kF=some ⟨c.N.uF,.cells (fdC c.g c.N c.rv c.al ov c.most sp)⟩/\OrdV ob c.n1 ub ov done
 d:Fd c.N c.rv (rdsF c.g c.M) (yC c.g) (jbg c.g) (Qb c.g) c.n0 ob
 v:∃ver,ob c.N.kV=some ⟨c.N.uV,.mp ver (MK .u64 jhs (job vis))⟩
 s:ob (2*c.uS+1)=some ⟨c.uS,.cells (yv w)⟩
def OnC.Rest (c:OnC) (ob ob':ZO):Prop:=∀key,Off c.n1 key->key≠c.N.kF->key≠c.N.kV->key≠2*c.uS+1->ob' key=ob key
def OnC.Ok.fix {c:OnC}(h:c.Ok) {key:Nat}(a:FixF c.N c.n0 key):Off c.n1 key/\key≠c.N.kF/\key≠c.N.kV/\key≠2*c.uS+1:=by have:=h.s;exact⟨a.o.up zO,a.f,a.v,a.o c.uS this.1⟩
def OnR (c:OnC) (w:Nat) (done:List Nat) (R:R3) (ob:ZO) (ub:Nat) (r:V×(ZO)×(Nat->Bool)×Nat):Prop :=
 r.1=.bool R.1.isSome/\ub<=r.2.2.2/\c.Rest ob r.2.1/\∃w' done',OnS c w' done' R.2.2 R.2.1 r.2.1 r.2.2.2/\(∀l,R.1=some l->done'=l)/\(R.1=none->R.2.1=false->w'=w/\done'=done)
def jny {k:Nat}:∀{L:List Nat}{w:Nat},w<2^k->(∀a∈L,a<k)->Y1 w L<2^k
 |[],_,hw,_=>hw
 |a::L,w,hw,h=>by refine jny (L:=L) (w:=w|||1<<<a) (dJ hw ?_) λb d=>h b (aX _ d);rw[da];exact dU zQ (h a (aO ..))
section
variable {c:OnC}
def cl_lt (a:c.Ok) {t:Nat}(h:t∈yC c.g):t<8:=by have:=XF (comN_mem.1 h);have:=a.l;omega
def j5k (b:c.Ok) (t:Nat):jbg c.g t<512:=by
 have:jbg c.g t<2^9:=jny zQ λa d=>by have:=cl_lt b (bL.1 d).1;omega
 exact this
def jv4 (b:c.Ok) (t:Nat):Qb c.g t<2^64:=jda zQ λa d=>by have:=bf.1 (bL.1 d).1;have:=(jr5 (Yx (Xv b.m))).1;omega
end
def OnP (c:OnC) (n:Nat):Prop:=∀(Yf:YF) (w:Nat) (done vis:List Nat) (ob:ZO) (tk:Nat->Bool) (ro base ub:Nat),OnS c w done vis false ob ub->done.length+n=(yC c.g).length->w<256->w ∉ vis->c.n1<=ub->ro<=c.n1->ro<=c.N.uF->ro<=c.N.uV->ro<=c.uS ->
 ∃r,EvS E Yf.y 150 [.ptr c.N.kF c.N.uF 0,.ptr (2*c.uS+1) c.uS 0] ob tk ro base ub r/\OnR c w done (onM (nxM c.g c.M) (yC c.g) c.most n w done vis) ob ub r
def jmk {nx:Nat->Nat->Bool}{C:List Nat}{most:Int}{w:Nat}{done vis:List Nat}(h:(vis.length:Int)=most):∀n,onM nx C most n w done vis=(none,true,vis)
 |0=>by rw[onM,zb h]
 |n+1=>by rw[onM,zb h]
def jm8 {F:Env}{Yf:YF}{lo hi t ub:Nat}{ov:V}{done:List Nat}{s x:A}{st:St}{K:St->Nat->Prop}{d:Option Nat}(f:ye F st.tm s=ov) (l:OrdV st.ob lo hi ov done) (j:st.ro<=lo) (g:yp st.ob 1 (ye F st.tm x)=some [.int .i64 (t:Int)]) (m:done.length<=1000)
 (h:∀e:List Nat,(e=[]\/∃u,lo<=u/\u<hi/\e=[2*u+1])->QN K st d ub { v:=.osl (2*ub+1) ub 0 (done.length+1) 1,obs:=[(2*ub+1,⟨ub,.cells ((yt (done++[t])).flatMap yf)⟩)],kill:=e }):j8 F Yf ⟨d,.append true 1 8 s x,none,true⟩ st ub K:=by
 rcases l with⟨rfl,rfl⟩|⟨u,cs,rfl,b,k,i⟩;refine X8 f g zS zQ rfl zS zS ?_;simpa[yf,jI,yt] using h [] (.inl rfl)
 ·have a:((yt done).flatMap yf).length=done.length:=by rw[j1 j6,J0];omega
  refine JJ (cs:=(yt done).flatMap yf++cs) f g b zS zO (by rw[ap];omega) zQ rfl zP zP ?_;have:=h [2*u+1] (.inr ⟨u,k,i,rfl⟩);rw[bz,ek a];simpa[yf,jI,yt] using this
section
variable {c:OnC}
def OnS.upd {w:Nat}{done vis b:List Nat}{sp:Bool}{ob ob':ZO}{ub g:Nat}(h:OnS c w done vis sp ob ub) (i:c.Ok) (t:c.n1<=ub) (n:ub<=g) (j:∀a,Off ub a->a≠c.N.kV->ob' a=ob a) (p:∃k,ob' c.N.kV=some ⟨c.N.uV,.mp k (MK .u64 jhs (job b))⟩):OnS c w done b sp ob' g:=by obtain⟨ov,r,q⟩:=h.f;have m:=i.s;refine⟨⟨ov,(j _ (i.f.up zO) i.fv).trans r,q.frame (λu x l=>j _ (Off.new l) λe=>i.v u zO e.symm) n⟩,h.d.keep λa h=>j _ (h.o.up zO) h.v,p,(j _ (Off.new zO) λe=>i.v c.uS m.1 e.symm).trans h.s⟩
def OnS.keep {w:Nat}{done vis:List Nat}{sp:Bool}{ob ob':ZO}{ub b:Nat}(h:OnS c w done vis sp ob ub) (e:c.Ok) (i:c.n1<=ub) (g:ub<=b) (f:∀a,Off ub a->ob' a=ob a):OnS c w done vis sp ob' b:=by obtain⟨d,j⟩:=h.v;have k:=e.s;exact h.upd e i g (λa h _=>f a h) ⟨d,(f _ (e.v.up zO)).trans j⟩
def jx3 (z:c.Ok) (n:Nat) (ih:∀k,n=k+1->OnP c k):OnP c n:=by
 intro Yf w done vis ob tk ro h7 ub hS i0 hw c8 c0 d1 b0 d4 g8;obtain⟨ov,Z,hO⟩:=hS.f;obtain⟨ver,hV⟩:=hS.v;have K:=hS.s;have gS:=z.s;have oF:=(z.f.up (show c.n0<=ub by omega)).ne;have oV:=(z.v.up (show c.n0<=ub by omega)).ne;have nS:∀m,ub<=m->¬c.uS=m:=λm hm=>by omega
 have fv:=z.fv;have fs:c.N.kF≠2*c.uS+1:=z.f c.uS gS.1;have vs:c.N.kV≠2*c.uS+1:=z.v c.uS gS.1;have g7:(job vis).length=vis.length:=by simp[job]
 refine J6 rfl zQ ?_;show wpC E Yf S150.body _ (Jg S150.res _);conv in(occs:=*)S150=>all_goals cbv
 simp(disch:=try exact zD)[S150,ya,Z,fdC,jY,hV,g7];by_cases H:(vis.length:Int)=c.most
 ·simp(disch:=try exact zD)[H,ya,Z,fdC,j2];refine⟨b0,JL zS ?_⟩;rw[jmk H];refine⟨zS,by simp;omega,λj p x B D=>by simp[x],w,done,⟨⟨ov,by simp[fdC],hO.frame (λu x B=>?_) zP⟩,hS.d.keep λj p=>by simp[p.f],⟨ver,by simp[dB fv,hV]⟩,by simp[dB fs,K]⟩,λl h=>(by cases h),λ_ h=>(by cases h)⟩;have:2*u+1≠c.N.kF:=λe=>z.f u zO e.symm;simp[this]
 have b5:((vis.length:Int)==c.most)=false:=by simpa using H
 have g3:vis.contains w=false:=by simpa using c8
 simp(disch:=try exact zD)[b5,ya,Z,fdC];refine jc0 (vs:=[.ptr (2*c.uS+1) c.uS 0]) zS rfl rfl (j6k (w:=w) (zU K) (Off.new zL) zO _ _) (JY rfl) ?_;simp;rw[jqq (vis:=vis) (y:=w) (by simp[jY,hV]),g3,za zQ];simp[show IntKind.i64.wrap 1=1 from rfl];refine ju2 (q:=.u64) (f:=jhs) (a:=1) (ver:=ver) (k:=(w:Int)) (l:=c.N.kV) (u:=c.N.uV) (job vis) zS zS (by simp[jhs,V.strip]) (by simp[hV]) (zU d4) ?_;rw[j68 c8];simp;have b7:∀i2:ZO,WW ov=some (.int .i64 (done.length:Nat)):=λ_=>by rcases hO with⟨rfl,rfl⟩|⟨u,cs,rfl,_⟩<;>rfl
 have i6:=jaw c.g;simp(disch:=try exact zD)[ya,Z,fdC,OnC.al,fv,b7 ob];by_cases h0:n=0
 ·subst h0;have e0:(done.length:Int)=(ym c.g).length:=zO;simp[e0];refine JL zS ?_;rw[onM,za H];refine⟨zS,zL,λj p x B D=>by simp[B],w,done,hS.upd z c0 zL (λj p h=>by simp[h]) ⟨ver+1,zS⟩,λl h=>by cases h;rfl,λh=>by cases h⟩
 ·obtain⟨k,rfl⟩:∃k,n=k+1:=⟨n-1,zO⟩;have e0:((done.length:Int)==(ym c.g).length)=false:=by simp;omega
  simp[e0];simp(disch:=try exact zD)[ya,Z,fdC,OnC.al,fv];refine jQ λX F=>?_;have g0:X.tm 0=.ptr c.N.kF c.N.uF 0:=by rw[F];simp
  have g1:X.tm 1=.ptr (2*c.uS+1) c.uS 0:=by rw[F];simp
  have g9:X.tm 42=.sl c.tc (ym c.g).isEmpty (ym c.g).length ((ym c.g).flatMap yf):=by rw[F];simp
  have f0:X.tm 43=.int .i64 (ym c.g).length:=by rw[F];simp
  have f9:X.tm 44=.int .i64 0:=by rw[F];simp
  have gd:X.df=[]:=by rw[F];simp
  have gr:X.ro=ro:=by rw[F];simp
  have gn:ub<=X.nx:=by rw[F];simp;omega
  have gO:OnS c w done (vis++[w]) false X.ob X.nx:=hS.upd z c0 gn (λj p h=>by rw[F];simp[h]) ⟨ver+1,by rw[F];simp⟩;have gR:c.Rest ob X.ob:=λj p x B D=>by rw[F];simp[B]
  clear F;obtain⟨R,hR⟩:∃R,R=loopM (onM (nxM c.g c.M) (yC c.g) c.most k) (nxM c.g c.M) w done (yC c.g) (vis++[w]):=⟨_,rfl⟩;have c1:onM (nxM c.g c.M) (yC c.g) c.most (k+1) w done vis=R:=by rw[onM,za H,hR]
  rw[c1];obtain⟨J,hJ⟩:∃J:Nat->St->Prop,J=λi s=>s.tm 44=.int .i64 i/\(∃vis,OnS c w done vis false s.ob s.nx/\R=loopM (onM (nxM c.g c.M) (yC c.g) c.most k) (nxM c.g c.M) w done ((yC c.g).drop i) vis)/\c.Rest ob s.ob/\ub<=s.nx:=⟨_,rfl⟩;refine j5 [(4,4),(6,6),(44,108)] (ym c.g).length J rfl rfl (by rw[hJ];exact⟨zU f9,⟨_,gO,hR⟩,gR,gn⟩) ?_;clear gO gR gn Z hV hO hS K hR c1 b7;intro i s hi c5 f;rw[hJ]at c5;obtain⟨P,⟨vis,sS,sR⟩,sw,sn⟩:=c5;have s0:s.tm 0=.ptr c.N.kF c.N.uF 0:=by rw[f.t 0 zS];simp[g0]
  have s1:s.tm 1=.ptr (2*c.uS+1) c.uS 0:=by rw[f.t 1 zS];simp[g1]
  have e8:s.tm 42=.sl c.tc (ym c.g).isEmpty (ym c.g).length ((ym c.g).flatMap yf):=by rw[f.t 42 zS];simp[g9]
  have c3:s.tm 43=.int .i64 (ym c.g).length:=by rw[f.t 43 zS];simp[f0]
  have sd:s.df=[]:=by rw[f.d];simp[gd]
  have sr:s.ro=ro:=by rw[f.r];simp[gr]
  clear f;by_cases I:i<(ym c.g).length
  ·have T:i<(yC c.g).length:=zO;obtain⟨t,ht⟩:∃t,t=(yC c.g)[i]:=⟨_,rfl⟩;have d2:t∈yC c.g:=ht▸au T;have g2:=cl_lt z d2;have h4:(ym c.g)[i]=(t:Int):=by
    have x:(ym c.g)[i]? = (yt (yC c.g))[i]?:=by rw[jc7]
    rw[aa I]at x;unfold yt at x;rw[aV,aa T]at x;simpa[ht] using x
   have i4:=z.l;have h6:=Xd c.g;have a0:=jP I zO;have d7:=JC j6 c.tc (ym c.g).isEmpty (ym c.g) .i64 I;have c4:=jj (ym c.g) I;rw[h4]at c4;rw[aP T,<- ht,loopM]at sR;obtain⟨ov,Z,hO⟩:=sS.f;obtain⟨ver,hV⟩:=sS.v;have K:=sS.s;simp(disch:=try exact zD)[P,c3,e8,s1,I,d7,c4];refine jc0 (vs:=[.ptr (2*c.uS+1) c.uS 0,.int .i64 t]) zS rfl rfl (jg5 (w:=w) (n:=t) (zU K) (Off.new zL) zO zO _ _) (JY rfl) ?_;have b8:=j8o z.m z.l w t;have G:(w.testBit t||(!nxM c.g c.M w t||vis.contains (w|||1<<<t)))=true->R=loopM (onM (nxM c.g c.M) (yC c.g) c.most k) (nxM c.g c.M) w done ((yC c.g).drop (i+1)) vis:=λh=>by rw[sR,zb h]
   cases hb:w.testBit t
   ·simp(disch:=try exact zD)[s0,s1];refine jc0 (vs:=[.ptr c.N.kF c.N.uF 0,.ptr (2*c.uS+1) c.uS 0,.int .i64 t]) zS rfl rfl (evo212 (g:=c.g) (rv:=c.rv) (al:=c.al) (ov:=ov) (most:=c.most) (sp:=false) (n0:=c.n0) (w:=w) (t:=t) (sS.d.keep λ_ _=>by simp) (zU Z) (z.f.up zL) (zU K) (Off.new zL) zL zO d2 (j5k z t) (jv4 z t) (rds_ok z.m) z.r _ _) (JY rfl) ?_;rw[b8];rw[show jpf c.g c.M (λa=>w.testBit a) t=nxM c.g c.M w t from rfl];cases hx:nxM c.g c.M w t;simp(disch:=try exact zD)[P,a0,I];rw[hJ];exact⟨zS,⟨vis,sS.keep z zO zL λj _=>by simp,G (by simp[hx])⟩,λj p x B D=>by simpa using sw j p x B D,zL⟩
    ·simp(disch:=try exact zD)[s0,s1,ya,Z,fdC];refine jc0 (vs:=[.ptr (2*c.uS+1) c.uS 0]) zS rfl rfl (j6k (w:=w) (zU K) (Off.new zL) zO _ _) (JY rfl) ?_;have e1:=jjr (n:=t) zO;have e2:=jfp (a:=w) (b:=1<<<t) zO (jru zO);generalize g5:1<<<t=p1 at e1 e2 G sR;generalize f7:w|||p1=p2 at e2 G sR;simp(disch:=try exact zD)[e1,e2];rw[jqq (vis:=vis) (y:=p2) (by simp[jY,hV])];cases hv:vis.contains p2
     ·have c7:(∀l sp v,onM (nxM c.g c.M) (yC c.g) c.most k p2 (done++[t]) vis=(some l,sp,v)->R=(some l,sp,v))/\(∀v,onM (nxM c.g c.M) (yC c.g) c.most k p2 (done++[t]) vis=(none,true,v)->R=(none,true,v)) /\
       ∀v,onM (nxM c.g c.M) (yC c.g) c.most k p2 (done++[t]) vis=(none,false,v)->R=loopM (onM (nxM c.g c.M) (yC c.g) c.most k) (nxM c.g c.M) w done ((yC c.g).drop (i+1)) v:=by
       rw[sR,za (by rw[hb,hx,hv];simp)]
       exact⟨λl sp v h=>by rw[h],λv h=>by rw[h],λv h=>by rw[h]⟩
      have S:w|||1<<<t=p2:=by rw[g5];exact f7
      simp;refine jJ (vs:=[.ptr (2*c.uS+1) c.uS 0,.int .i64 t]) (by simp[s1]) rfl (jts (w:=w) (zU K) (Off.new zL) (by first|omega|(simp[sr];omega)) zO zO) ?_;rintro v1 c6 h8 O ⟨r1,r2,r3⟩;simp only at r1 r2 r3;rw[S]at r2;have q1:s.nx<=O:=by first|omega|(simp at r3;omega)
      have q2:∀j,Off s.nx j->c6 j=if j=2*c.uS+1 then some ⟨c.uS,.cells (yv p2)⟩ else s.ob j:=λj p=>by rw[r2 j (p.up zL)];simp
      clear r1 r2 r3;have d0:c6 c.N.kF=some ⟨c.N.uF,.cells (fdC c.g c.N c.rv c.al ov c.most false)⟩:=by rw[q2 _ (z.f.up zO),za fs];exact Z
      simp(disch:=try exact zD)[s0,ya,d0,fdC];refine jZ (cs:=[.int .i64 (t:Int)]) (by simp[j2]) rfl rfl ?_;simp;refine jm8 (lo:=c.n1) (hi:=s.nx) (done:=done) (t:=t) (ov:=ov) zS (hO.frame (λu x B=>?_) zK) (by simpa[sr] using d1) (by simp[yp,ya]) zO λkl d3=>?_;have D:∀m,s.nx<=m->¬u=m:=λm hm=>by omega
      simp(disch:=try exact zD)[yj,D];rw[q2 _ (Off.new B),za zO];have e3:kl.any (Nat.beq c.N.kF)=false:=by rcases d3 with rfl|⟨u,x,B,rfl⟩;rfl;simp only[bp,bD,bm];exact JF (z.f u zO)
      have b6:∀j,Off c.n1 j->kl.any (Nat.beq j)=false:=λj p=>by rcases d3 with rfl|⟨u,x,B,rfl⟩;rfl;simp only[bp,bD,bm];exact JF (p u x)
      generalize e9:List.flatMap yf (yt (done++[t]))=cs9;simp(disch:=try exact zD)[ya,d0,fdC,e3,j2,j9,oF];refine⟨by simpa[sr] using b0,?_⟩;simp(disch:=try exact zD)[s0,s1];refine jJ (vs:=[.ptr c.N.kF c.N.uF 0,.ptr (2*c.uS+1) c.uS 0]) zS rfl (ih k rfl Yf p2 (done++[t]) vis _ _ _ _ _ ?_ zP ?_ (zU hv) zL (by simpa[sr] using d1) (by simpa[sr] using b0) (by simpa[sr] using d4) (by simpa[sr] using g8)) ?_
      ·have e6:¬2*(O+448)+1=c.N.kF:=λe=>oF (O+448) zO e.symm;refine⟨⟨.osl (2*(O+448)+1) (O+448) 0 (done.length+1) 1,by simp[fdC,aA],.inr ⟨O+448,[],zS,?_,zO,zL⟩⟩,sS.d.keep λj p=>?_,⟨ver,?_⟩,?_⟩;simp(disch:=try exact zD)[j9,aA,e6,e9];obtain⟨Q,f2,f3,f4⟩:=z.fix p;have f5:=(Q.up (show c.n1<=ub by omega)).ne;simp(disch:=try exact zD)[j9,f2,f5,b6 j Q];rw[q2 j (Q.up zO),za f4];have Q:=z.v.up (show c.n0<=c.n1 by omega);have f5:=(Q.up (show c.n1<=ub by omega)).ne;simp(disch:=try exact zD)[j9,dB fv,f5,b6 _ Q];rw[q2 _ (Q.up zO),za vs];exact hV;have Q:Off c.n1 (2*c.uS+1):=Off.new gS.2;have f5:=(Q.up (show c.n1<=ub by omega)).ne;simp(disch:=try exact zD)[j9,dB fs,f5,b6 _ Q,yj,nS];rw[q2 _ (Q.up zO),zb rfl]
      have:w|||1<<<t<2^8:=dJ hw (by rw[da];exact dU zQ g2);rw[S]at this;exact this
      ·rintro v2 c2 i5 b9 ⟨r1,r2,r3,w',U,r4,r5,r6⟩;simp only at r1 r2 r3 r4;have q3:O<=b9:=by first|omega|(simp at r2;omega)
       have L:c.Rest ob c2:=λj p x B D=>by rw[r3 j p x B D,<- sw j p x B D];have f5:=(p.up (show c.n1<=ub by omega)).ne;simp(disch:=try exact zD)[j9,x,f5,b6 j p];rw[q2 j (p.up zO),za D]
       clear r2 r3;rcases d5:onM (nxM c.g c.M) (yC c.g) c.most k p2 (done++[t]) vis with⟨o,sp,vv⟩;rw[d5]at r1 r4 r5 r6 c7;obtain⟨x,B,D⟩:=c7;obtain⟨i1,d6,d8⟩:=r4.f;cases o with
       |some l=>rw[r1];simp;refine JL (by simp[sd]) ?_;rw[x l sp vv rfl];exact⟨zS,zL,λj p x B D=>by simpa using L j p x B D,w',U,r4.keep z zO zL λj _=>by simp,r5,λh=>by cases h⟩
       |none=>
        rw[r1];cases sp with
        |true=>simp(disch:=try exact zD)[s0,ya,d6,fdC];refine JL (by simp[sd]) ?_;rw[B vv rfl];exact⟨zS,zL,λj p x B D=>by simpa using L j p x B D,w',U,r4.keep z zO zL λj _=>by simp,λl h=>(by cases h),λ_ h=>by cases h⟩
        |false=>
         obtain⟨rfl,rfl⟩:=r6 rfl rfl;rcases d8 with⟨_,h⟩|⟨u,cs,rfl,e5,g6,h9⟩;exact zf h zS;have g4:IntKind.i64.wrap (done.length:Int)=(done.length:Int):=jg zO zO;have e4:Yz 1 none (some (.int .i64 (done.length:Int))) (.osl (2*u+1) u 0 (done.length+1) 1)=some (.osl (2*u+1) u 0 done.length 1):=by have x:(done.length:Int)<=(done.length:Int)+1:=zO;simp[Yz,Jz,x]
         simp(disch:=try exact zD)[s0,ya,d6,fdC,g4,e4,j2];refine⟨by simpa[sr] using b0,?_⟩;simp(disch:=try exact zD)[s1];have f8:=r4.s;refine jJ (vs:=[.ptr (2*c.uS+1) c.uS 0,.int .i64 t]) zS rfl (sv213 (w:=w') (by simpa[dB fs] using f8) (Off.new zL) (by first|omega|(simp[sr];omega)) zO) ?_;rintro v3 e7 i3 h5 ⟨r7,r8,r9⟩;simp only at r7 r8 r9;have q4:b9<=h5:=by first|omega|(simp at r9;omega)
         have d9:jvh w' t=w:=by rw[<- S];exact j46 zO zO hb
         rw[d9]at r8;have q5:∀j,Off b9 j->e7 j=if j=2*c.uS+1 then some ⟨c.uS,.cells (yv w)⟩ else if j=c.N.kF then some ⟨c.N.uF,.cells (fdC c.g c.N c.rv c.al (.osl (2*u+1) u 0 done.length 1) c.most false)⟩ else c2 j:=λj p=>by rw[r8 j (p.up zL)];simp[fdC]
         clear r7 r8 r9;simp[P,a0,I];rw[hJ];obtain⟨c9,f6⟩:=r4.v;refine⟨zS,⟨vv,⟨⟨.osl (2*u+1) u 0 done.length 1,?_,.inr ⟨u,.int .i64 (t:Int)::cs,rfl,?_,g6,zL⟩⟩,r4.d.keep λj p=>?_,⟨c9,?_⟩,?_⟩,D vv rfl⟩,λj p x B D=>?_,zL⟩;simp;rw[q5 _ (z.f.up zO),za fs,zb rfl];simp;rw[q5 _ (Off.new zO),za zO,za (λe=>z.f u zO e.symm),e5];simp[yt,yf];obtain⟨Q,f2,f3,f4⟩:=z.fix p;simp;rw[q5 j (Q.up zO),za f4,za f2];simp;rw[q5 _ (z.v.up zO),za vs,za (dB fv)];exact f6;simp;rw[q5 _ (Off.new zO),zb rfl];simp;rw[q5 j (p.up zO),za D,za x];exact L j p x B D
     simp[P,a0,I];rw[hJ];exact⟨zS,⟨vis,sS.keep z zO zL λj _=>by simp,G (by rw[hv];simp)⟩,λj p x B D=>by simpa using sw j p x B D,zL⟩
   simp(disch:=try exact zD)[P,a0,I];rw[hJ];exact⟨zS,⟨vis,sS.keep z zO zL λj _=>by simp,G (by simp[hb])⟩,λj p x B D=>by simpa using sw j p x B D,zL⟩
  ·have:i=(ym c.g).length:=zO;subst this;rw[bC zO,loopM]at sR;simp[P,c3];refine JL (by simp[sd]) ?_;rw[sR];exact⟨zS,zL,λj p x B D=>by simpa using sw j p x B D,w,done,sS.keep z zO zL λj _=>by simp,λl h=>(by cases h),λ_ _=>⟨rfl,rfl⟩⟩
def sv150 (a:c.Ok) (n:Nat):OnP c n:=by
 induction n with
 |zero=>exact jx3 a 0 λk h=>by omega
 |succ n b=>refine jx3 a (n+1) λk h=>?_;have:k=n:=zO;exact this▸b
end
def jij {nx:Nat->Nat->Bool}:∀{L:List Nat}{w:Nat},jub nx w L=true->L.Nodup/\∀t∈L,w.testBit t=false
 |[],_,_=>⟨ee,λ_ h=>by cases h⟩
 |t::r,w,h=>by
  simp only[jub,aj,ci]at h;obtain⟨f,_,d⟩:=h;obtain⟨e,i⟩:=jij d;have c:∀a∈r,w.testBit a=false/\¬t=a:=λa b=>by have:=i a b;rw[jhg]at this;simpa using this
  rw[dK];refine⟨⟨λh=>(c t h).2 rfl,e⟩,λa b=>?_⟩;rcases bB.1 b with h|h;exact h▸f;exact(c a h).1
def js0 (C:List Nat):cnt C 0=0:=by simp[cnt]
def ju8 {L:List Nat}(h:L.Nodup):(yt L).Nodup:=fI.2 (List.Pairwise.imp (λh e=>h zO) h)
def JD (g:Hist') (M:List Int) (most:Int):R3:=onM (nxM g M) (yC g) most (yC g).length 0 [] []
section
variable {g:Hist'}{M:List Int}{most:Int}
def jvb (c:W7 g M=true) {L:List Nat}(h:Full (nxM g M) (yC g) 0 L):Qn g (yt L)=true:=by obtain⟨f,e,i⟩:=h;rw[jxw (Xv c)];rw[js0]at e;refine jbp (ju8 (jij i).1) (λx b=>?_) ?_;unfold yt at b;obtain⟨a,d,rfl⟩:=aI.1 b;exact comL_mem.2 ⟨a,rfl,comN_mem.1 (f a d)⟩;have:=jaw g;simp only[yt,bu];omega
def jp2 (g:Hist') (M:List Int) (most:Int):Found (nxM g M) (yC g) 0 [] [] (JD g M most):=jrv (jvm g) (jk2 g) _ 0 [] [] (by rw[js0,bJ]) λv h=>by cases h
def jve (a:W7 g M=true) {L:List Nat}(h:(JD g M most).1=some L):Qn g (yt L)=true:=by obtain⟨_,c,e,b,_⟩:=(jp2 g M most).yes L h;rw[dz]at e;subst e;exact jvb a b
end
def Y5 (g:Hist') (M:List Int) (most:Int):List Int×Int×Int :=
 if !jX g then ([],0,4) else if !W7 g M||decide (most<0) then ([],0,2) else
  if (JD g M most).2.1 then ([],(JD g M most).2.2.length,13) else match (JD g M most).1 with
   |none=>([],(JD g M most).2.2.length,3)
   |some l=>(yt l,(JD g M most).2.2.length,0)
def jte (r:List Int×Int×Int) (v:V):Prop:=∃nl,(nl=true->r.1=[])/\TupS [.sl none nl r.1.length (r.1.flatMap yf),.int .i64 r.2.1,.int .i64 r.2.2] v
def jxs {st:St}{lo hi:Nat}{ov:V}{done:List Nat}(h:OrdV st.ob lo hi ov done) (j:st.ro<=lo):∃e,(e=true->done=[])/\j5m st ov (.sl none e done.length ((yt done).flatMap yf)):=by
 rcases h with⟨rfl,rfl⟩|⟨u,cs,rfl,d,k,_⟩;exact⟨true,λ_=>rfl,jM rfl⟩
 ·refine⟨false,λh=>(by cases h),XP rfl λkeep i=>?_⟩;have b:((yt done).flatMap yf).length=done.length:=by rw[j1 j6,J0];omega
  have a:ya st.ob (2*u+1) u=some ((yt done).flatMap yf++cs):=by simp[ya,d]
  have f:JX st 6 (.osl (2*u+1) u 0 done.length 1)=some (.sl none false done.length ((yt done).flatMap yf)):=by show((ya st.ob (2*u+1) u).bind λcs=>if Nat.ble st.ro u=true/\0+done.length*1<=cs.length then (((cs.drop 0).take (done.length*1)).mapM (JX st 5)).map λc=>V.sl none false done.length c else none)=_;rw[a,ah,zb ⟨bS▸zO,by rw[ap];omega⟩,du,bz,ek b,jdo];rfl
  simp only[js,f,ah,a,aU];refine⟨_,rfl,?_⟩;split;exact .inr ⟨1,rfl⟩;exact .inl rfl
def Xb {st:St}{n e:Int}(a:st.df=[]) (b:st.tm 6=.sl none true 0 []) (d:st.tm 7=.int .i64 n) (c:st.tm 8=.int .i64 e):WO [.t 6,.t 7,.t 8] (jte ([],n,e)) .ret st :=
 jhx (ns:=[6,7,8]) (vs:=[.sl none true 0 [],.int .i64 n,.int .i64 e]) (ls:=[.sl none true 0 [],.int .i64 n,.int .i64 e]) (λr h=>⟨true,λ_=>rfl,h⟩) a (by simp[b,d,c]) zS zS ⟨jM rfl,jM rfl,jM rfl,trivial⟩
def jng {st:St}{lo hi:Nat}{ov:V}{l:List Nat}{n e:Int}(c:st.df=[]) (i:st.tm 6=ov) (j:st.tm 7=.int .i64 n) (d:st.tm 8=.int .i64 e) (m:OrdV st.ob lo hi ov l) (a:st.ro<=lo):WO [.t 6,.t 7,.t 8] (jte (yt l,n,e)) .ret st:=by obtain⟨b,k,f⟩:=jxs m a;refine jhx (ns:=[6,7,8]) (vs:=[ov,.int .i64 n,.int .i64 e]) (ls:=[.sl none b l.length ((yt l).flatMap yf),.int .i64 n,.int .i64 e]) (λr h=>⟨b,λh=>by rw[k h];rfl,?_⟩) c (by simp[i,j,d]) zS zS ⟨f,jM rfl,jM rfl,trivial⟩;rw[J0];exact h
section
variable {g:Hist'}{M:List Int}
def ev101 (D:Small g) (h8:g.ts.length<=8) {mn:Bool}(hM:M.length<=1000000) (most:Int):∃v,Ev E 101 [.agg (yb g),yl mn yf M,.int .i64 most] v/\jte (Y5 g M most) v:=by
 have L:=ev30 D;have u:=ev114 D (b:=mn) M hM;rw[jzy]at u;refine JW rfl zQ ?_;conv in(occs:=*)F101=>all_goals cbv
 simp(disch:=try exact zD)[F101,ya,yb];refine jH L zI rfl zI ?_;unfold Y5;cases hw:jX g;simp;exact Xb zS zS zS zS;simp(disch:=try exact zD)[ya,yl];refine jH u zH rfl zH ?_;cases P:W7 g M;simp(disch:=try exact zD);exact Xb zS zS zS zS;by_cases x:most<0;simp(disch:=try exact zD)[x];exact Xb zS zS zS zS;simp(disch:=try exact zD)[x,ya];refine jJ (vs:=[.agg (yb g),yl mn yf M]) zH rfl (sv149 D P zL) ?_;rintro v1 J c0 q ⟨b1,b2,N,rv,Z,b3,b4,S,X,B,G,b9,c1,b0⟩;simp only at b1 b2 b3 b4 S X B G;subst b3;simp(disch:=try exact zD)[ya,b4,fdC,j2];refine jJ (vs:=[.sl none true 0 []]) zS rfl sv151n ?_;rintro v2 i I n ⟨m,m1,T,U,F⟩;simp only at m1 T U F;subst U;have j:q<=m:=by first|omega|(simp at m1;omega)
 have hR:=Xr D;have O:=XV P;obtain⟨c,p⟩:∃c:OnC,c=⟨g,M,N,rv,Z,most,q,n,m⟩:=⟨_,rfl⟩;have hc:c.Ok:=by rw[p];exact⟨P,h8,B,G,b9,⟨j,T⟩,by rw[jrk O];omega⟩
 have n1:N.kF≠2*m+1:=B m j;have n2:N.kV≠2*m+1:=G m j;have Q:∀a,Off q a->i a=if a=N.kF then some ⟨N.uF,.cells (fdC g N rv (.sl Z (ym g).isEmpty (ym g).length ((ym g).flatMap yf)) (.sl none true 0 []) most false)⟩ else J a:=λa y=>by rw[F a,za (y m j)];simp[fdC]
 have hS:OnS c 0 [] [] false i n:=by rw[p];refine⟨⟨.sl none true 0 [],by show i N.kF=_;rw[Q _ B,zb rfl];rfl,.inl ⟨rfl,rfl⟩⟩,S.keep λa y=>by rw[Q a y.o,za y.f],⟨0,by show i N.kV=_;rw[Q _ G,za (dB b9)];exact X⟩,by rw[F,zb rfl]⟩
 clear F;simp;refine jJ (vs:=[.ptr N.kF N.uF 0,.ptr (2*m+1) m 0]) zS rfl (by
  have h:=sv150 hc (yC g).length YS 0 [] [] i I 0;rw[p]at h hS;exact h _ n hS zS zQ zS zK (cw _) (cw _) (cw _) (cw _)) ?_
 rintro v3 c2 c5 c4 ⟨r,r2,r3,w',K,s,z,H⟩;simp only at r r2 s;rw[show onM (nxM g M) (yC g) most (yC g).length 0 [] []=JD g M most from rfl]at r s z H;obtain⟨c3,d,t⟩:=s.f;obtain⟨a0,e⟩:=s.v;simp only at d e t;generalize JD g M most=R at r s z H d e ⊢;obtain⟨o,sp,w⟩:=R;simp only at r z H d e;have k:(job w).length=w.length:=by simp[job]
 rw[r];cases sp with
 |true=>simp(disch:=try exact zD)[ya,jY,d,e,fdC,k];exact Xb zS zS zS zS
 |false=>
  cases o with
  |none=>simp(disch:=try exact zD)[ya,jY,d,e,fdC,k];exact Xb zS zS zS zS
  |some l=>have:=z l rfl;subst this;simp(disch:=try exact zD)[ya,jY,d,e,fdC,k];exact jng zS zS zS zS (t.frame (λ_ _ _=>by simp) zK) zS
end
abbrev P2:Type:=Int×Int
def pLt (x y:P2):Prop:=x.1<y.1\/x.1=y.1/\x.2<y.2
def pairLe_iff {x y:P2}:Ql x y=true ↔ pLt x y\/x=y:=by obtain⟨a,b⟩:=x;obtain⟨c,d⟩:=y;simp only[Ql,pLt,bG,aj,ze,cm];omega
def Xj (x:P2):¬pLt x x:=by unfold pLt;omega
def YQ {x y z:P2}(h:pLt x y) (a:pLt y z):pLt x z:=by unfold pLt at *;omega
def Qm (x y:P2):pLt x y\/x=y\/pLt y x:=by obtain⟨a,b⟩:=x;obtain⟨c,d⟩:=y;simp only[pLt,cm];omega
def jgv (x:P2):∀l:List P2,(j6b x l).Perm (x::l)
 |[]=>eQ _
 |y::r=>by unfold j6b;split;exact eQ _;exact((jgv x r).cons y).trans (List.Perm.swap x y r)
def XO:∀l:List P2,(ja2 l).Perm l
 |[]=>eQ _
 |x::r=>(jgv x (ja2 r)).trans ((XO r).cons x)
def jz3 (x:P2):∀{l:List P2},l.Pairwise (λa b=>Ql a b=true)->(j6b x l).Pairwise λa b=>Ql a b=true
 |[],_=>fQ _ _
 |y::r,h=>by rw[ch]at h;unfold j6b;split;rename_i c;rw[ch];refine⟨λz d=>?_,ch.2 h⟩;rcases bB.1 d with rfl|d;exact c;rw[pairLe_iff]at c ⊢;have:=pairLe_iff.1 (h.1 z d);rcases c with c|rfl;rcases this with h2|rfl;exact .inl (YQ c h2);exact .inl c;exact this;rename_i c;rw[ch];refine⟨λz d=>?_,jz3 x h.2⟩;rcases bB.1 ((jgv x r).mem_iff.1 d) with rfl|d;rw[pairLe_iff]at c ⊢;rcases Qm y z with h|h|h;exact .inl h;exact .inr h;exact zf (.inl h) c;exact h.1 z d
def jjw:∀l:List P2,(ja2 l).Pairwise λa b=>Ql a b=true
 |[]=>List.Pairwise.nil
 |x::r=>jz3 x (jjw r)
def ja5:List P2->List P2
 |[]=>[]
 |x::r=>x::match ja5 r with
  |[]=>[]
  |y::s=>if x=y then s else y::s
def compP_mem {z:P2}:∀{l:List P2},z∈ja5 l ↔ z∈l
 |[]=>bT
 |x::r=>by
  have a:=compP_mem (z:=z) (l:=r);rw[ja5];cases h:ja5 r with
  |nil=>rw[h]at a;simp only[di,false_iff]at a;simp[a]
  |cons y s=>rw[h]at a;simp only;split;rename_i e;subst e;simp only[bB]at a ⊢;constructor;exact λh=>h.elim .inl λh=>.inr (a.1 (.inr h));exact λh=>h.elim .inl λh=>a.2 h;simp only[bB]at a ⊢;rw[a]
def jsy:∀{l:List P2},l.Pairwise (λa b=>Ql a b=true)->(ja5 l).Pairwise pLt
 |[],_=>List.Pairwise.nil
 |x::r,h=>by
  rw[ch]at h;have d:=jsy h.2;rw[ja5];cases i:ja5 r with
  |nil=>exact fQ _ _
  |cons y s=>rw[i]at d;rw[ch]at d;have j:y∈r:=compP_mem.1 (by rw[i];exact aO ..);have f:=pairLe_iff.1 (h.1 y j);simp only;split;rename_i e;subst e;exact ch.2 d;rename_i e;have c:pLt x y:=f.resolve_right e;rw[ch];refine⟨λz g=>?_,ch.2 d⟩;rcases bB.1 g with rfl|g;exact c;exact YQ c (d.1 z g)
def jga:∀{l m:List P2},l.Pairwise pLt->m.Pairwise pLt->(∀z,z∈l ↔ z∈m)->l=m
 |[],[],_,_,_=>rfl
 |[],y::m,_,_,h=>zf ((h y).2 (aO ..)) di
 |x::l,[],_,_,h=>zf ((h x).1 (aO ..)) di
 |x::l,y::m,h1,h2,h=>by
  rw[ch]at h1 h2;have c:=bB.1 ((h x).1 (aO ..));have b:=bB.1 ((h y).2 (aO ..));have e:x=y:=by rcases c with e|c;exact e;rcases b with e|b;exact e.symm;exact zf (YQ (h1.1 y b) (h2.1 x c)) (Xj _)
  subst e;rw[jga h1.2 h2.2 λz=>?_];constructor;intro a;rcases bB.1 ((h z).1 (aX _ a)) with e|h';subst e;exact zf (h1.1 z a) (Xj _);exact h';intro a;rcases bB.1 ((h z).2 (aX _ a)) with e|h';subst e;exact zf (h2.1 z a) (Xj _);exact h'
def jo (N:Nat) (p:Nat->Nat->Bool):List P2:=(List.range N).flatMap λa=>((List.range N).filter (p a)).map λb:Nat=>((a:Int),(b:Int))
def edgesOf_mem {N:Nat}{p:Nat->Nat->Bool}{z:P2}:z∈jo N p ↔ ∃a b:Nat,a<N/\b<N/\p a b=true/\z=((a:Int),(b:Int)):=by unfold jo;simp only[cq,bf,aI,bL];constructor;rintro⟨a,d,b,⟨e,c⟩,rfl⟩;exact⟨a,b,d,e,c,rfl⟩;rintro⟨a,b,d,e,c,rfl⟩;exact⟨a,d,b,⟨e,c⟩,rfl⟩
def jd9 (N:Nat) (p:Nat->Nat->Bool):(jo N p).Pairwise pLt:=by unfold jo;rw[List.pairwise_flatMap];refine⟨λa _=>?_,?_⟩;rw[fI];refine(iv.filter _).imp fun {b c} h=>?_;exact Or.inr ⟨rfl,iy.2 h⟩;refine iv.imp fun {a b} h x e y d=>?_;obtain⟨_,_,rfl⟩:=aI.1 e;obtain⟨_,_,rfl⟩:=aI.1 d;exact Or.inl (iy.2 h)
def j0o {N:Nat}{p:Nat->Nat->Bool}{l:List P2}(h:∀z,z∈l ↔ ∃a b:Nat,a<N/\b<N/\p a b=true/\z=((a:Int),(b:Int))):ja5 (ja2 l)=jo N p :=
 jga (jsy (jjw l)) (jd9 N p) λz=>by rw[compP_mem,(XO l).mem_iff,h,edgesOf_mem]
def WB (n:Nat) (p:Nat->Nat->Bool) (D:List Nat) (a:Nat):Bool:=!D.contains a&&(List.range n).all λx=>!p x a||D.contains x
def QW (n:Nat) (p:Nat->Nat->Bool):Nat->List Nat->Option (List Nat)
 |0,D=>some D
 |k+1,D=>match (List.range n).find? (WB n p D) with
  |none=>none
  |some a=>QW n p k (D++[a])
def cntP (n:Nat) (p:Nat->Nat->Bool) (D:List Nat) (b:Nat):Nat:=((List.range n).filter λx=>p x b && !D.contains x).length
structure AhOk (n:Nat) (p:Nat->Nat->Bool) (D:List Nat) (A:List Int):Prop where
 l:A.length=n
 d:∀b,b<n->b∈D->A.getD b 0 = -1
 c:∀b,b<n->b ∉ D->A.getD b 0=cntP n p D b
 k:∀b x,b∈D->x<n->p x b=true->x∈D
def j4q {n:Nat}{p:Nat->Nat->Bool}{D:List Nat}{a:Nat}(h:a ∉ D):WB n p D a=true ↔ cntP n p D a=0:=by
 unfold WB cntP;rw[cB,fY];have:D.contains a=false:=by simpa using h
 rw[this,cp,bM,aw];constructor;intro b x c;have:=b x c;cases d:p x a<;>simp_all;intro b x c;have:=b x c;cases d:p x a<;>simp_all
def AhOk.free {n:Nat}{p:Nat->Nat->Bool}{D:List Nat}{A:List Int}(h:AhOk n p D A) {a:Nat}(e:a<n):WB n p D a=decide (A.getD a 0=0):=by
 rw[bA,ze];by_cases b:a∈D;have g:=h.d a e b;have:WB n p D a=false:=by simp[WB,b]
 rw[this];constructor;exact λh=>(by cases h);intro f;omega;rw[j4q b,h.c a e b];omega
def AhOk.find {n:Nat}{p:Nat->Nat->Bool}{D:List Nat}{A:List Int}(h:AhOk n p D A):(List.range n).find? (WB n p D)=(List.range n).find? λa=>decide (A.getD a 0=0):=by
 have:∀l:List Nat,(∀a∈l,a<n)->l.find? (WB n p D)=l.find? λa=>decide (A.getD a 0=0):=by
  intro l;induction l with
  |nil=>intro _;rfl
  |cons a l e=>intro c;rw[List.find?_cons,List.find?_cons,h.free (c a (aO ..)),e λb f=>c b (aX _ f)]
 exact this _ λa d=>bf.1 d
def decL (A:List Int) (bs:List Nat):List Int:=bs.foldl (λA b=>A.set b (A.getD b 0-1)) A
def j0l (A:List Int) (bs:List Nat) (b:Nat):decL A (bs++[b])=(decL A bs).set b ((decL A bs).getD b 0-1):=by simp[decL]
def jsx (A:List Int):∀a:List Nat,(decL A a).length=A.length:=by
 intro a;induction a generalizing A with
 |nil=>rfl
 |cons b a c=>rw[show decL A (b::a)=decL (A.set b (A.getD b 0-1)) a from rfl,c,dL]
def jfe (A:List Int) {b:Nat}(a:b<A.length) (x:Int) (c:Nat):(A.set b x).getD c 0=if c=b then x else A.getD c 0:=by rw[ay,ay,List.getElem?_set];by_cases h:b=c;subst h;simp[a];rw[za h,za (dB h)]
def j0m (A:List Int):∀(bs:List Nat),bs.Nodup->(∀b∈bs,b<A.length)->∀c,(decL A bs).getD c 0=A.getD c 0-if c∈bs then 1 else 0:=by
 intro bs;induction bs generalizing A with
 |nil=>intro _ _ c;simp[decL]
 |cons b bs g=>intro e f c;rw[dK]at e;have d:=f b (aO ..);rw[show decL A (b::bs)=decL (A.set b (A.getD b 0-1)) bs from rfl,g _ e.2 (λx i=>by rw[dL];exact f x (aX _ i)),jfe A d];by_cases h:c=b;subst h;rw[zb rfl,za e.1,zb (aO ..)];omega;rw[za h];by_cases a:c∈bs;rw[zb a,zb (aX _ a)];rw[za a,za (by simp[h,a])]
def cntP_le (n:Nat) (p:Nat->Nat->Bool) (D:List Nat) (b:Nat):cntP n p D b<=n:=bI (bO _ _) zS
def cnt_add {n:Nat}{p:Nat->Nat->Bool}{D:List Nat}{a:Nat}(j:a<n) (i:a ∉ D) (b:Nat):cntP n p D b=cntP n p (D++[a]) b+if p a b=true then 1 else 0:=by
 have d:∀l:List Nat,l.Nodup->(l.filter λx=>p x b && !D.contains x).length=(l.filter λx=>p x b && !(D++[a]).contains x).length+if a∈l/\p a b=true then 1 else 0:=by
  intro l;induction l with
  |nil=>intro _;simp
  |cons x l c=>
   intro f;rw[dK]at f;have c:=c f.2;by_cases e:x=a;subst e;have g:D.contains x=false:=by simpa using i
   have h:(D++[x]).contains x=true:=zS;rw[ct,ct,g,h];rw[za (by simp[f.1])]at c;cases k:p x b;simp only[bH,ag,zc,and_false];exact c;simp only[bM,cp,bV,zd,ag,zc,bj,c,bB,true_or,and_self,bl];have g:(D++[a]).contains x=D.contains x:=by rw[bA];simp[e]
   rw[ct,ct,g];have h:(a∈x::l/\p a b=true) ↔ (a∈l/\p a b=true):=by simp[dB e]
   simp only[h];split;simp only[bj,c];omega;exact c
 have:=d (List.range n) List.nodup_range;unfold cntP;rw[this];simp[j]
def AhOk.rng {n:Nat}{p:Nat->Nat->Bool}{D:List Nat}{A:List Int}(h:AhOk n p D A) (b:Nat):-1<=A.getD b 0/\A.getD b 0<=n:=by by_cases e:b<n;by_cases a:b∈D;rw[h.d b e a];omega;rw[h.c b e a];have:=cntP_le n p D b;omega;rw[ay,cG (by rw[h.l];omega)];simp
def AhOk.next {n:Nat}{p:Nat->Nat->Bool}{D:List Nat}{A:List Int}(h:AhOk n p D A) {a:Nat}(s:a<n) (q:WB n p D a=true) {bs:List Nat}(j:∀b,b∈bs ↔ b<n/\p a b=true) (B:bs.Nodup):AhOk n p (D++[a]) (decL (A.set a (-1)) bs):=by
 unfold WB at q;simp only[aj,ci,aw,bf]at q;have t:a ∉ D:=by simpa using q.1
 have m:∀x,x<n->p x a=true->x∈D:=λx r f=>by have:=q.2 x r;simpa[f] using this
 have v:∀b,b∈D->p a b=false:=λb g=>by cases f:p a b;rfl;exact zf (h.k b a g s f) t
 have w:p a a=false:=by cases f:p a a;rfl;exact zf (m a s f) t
 have z:(A.set a (-1)).length=n:=by rw[dL,h.l]
 have o:∀c,(decL (A.set a (-1)) bs).getD c 0=(if c=a then -1 else A.getD c 0)-if c∈bs then 1 else 0:=λc=>by rw[j0m _ bs B (λb g=>by rw[z];exact((j b).1 g).1),jfe A (by rw[h.l];exact s)]
 refine⟨by rw[jsx,z],λb g i=>?_,λb g i=>?_,λb x g r f=>?_⟩;rw[o];rw[aQ,ae]at i;have y:b ∉ bs:=λu=>by have:=((j b).1 u).2;rcases i with i|rfl;rw[v b i]at this;cases this;rw[w]at this;cases this
 rw[za y];by_cases e:b=a;rw[zb e];omega;rw[za e,h.d b g (i.resolve_right e)];omega;rw[aQ,ae,not_or]at i;rw[o,za i.2,h.c b g i.1,cnt_add s t b];by_cases f:p a b=true;rw[zb f,zb ((j b).2 ⟨g,f⟩)];omega;rw[za f,za λu=>f ((j b).1 u).2];omega;rw[aQ,ae]at g ⊢;rcases g with g|rfl;exact .inl (h.k b x g r f);exact .inl (m x r f)
section
end
end Go.Pv.T
