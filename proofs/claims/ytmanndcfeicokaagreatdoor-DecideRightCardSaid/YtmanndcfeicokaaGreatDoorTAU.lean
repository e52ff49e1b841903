/- Part. -/
import Derived.Test.YtmanndcfeicokaaGreatDoorTAT
set_option maxRecDepth 100000
set_option maxHeartbeats 8000000
set_option linter.all false
namespace Go.Pv.T
open Go Go.Pv
def jdh (n:Nat) (L:List P2):Option (List Nat):=WW n (λ(a b:Nat)=>L.contains ((a:Int),(b:Int))) n []
def TopR (ob:ZO) (ub n:Nat) (L:List P2) (r:V×(ZO)×(Nat->Bool)×Nat):Prop :=
 ub<=r.2.2.2/\(∀key,Off ub key->r.2.1 key=ob key)/\match jdh n L with
  |none=>r.1=.tup [.sl none true 0 [],.int .i64 3]
  |some D=>∃v,r.1=.tup [v,.int .i64 0]/\IntL r.2.1 ub r.2.2.2 v (yq D)
def j3y {Yf:YF}{st:St}{ub:Nat}{K:St->Nat->Prop}{d:Option Nat}{nm:Bool}{sz a n:Nat}{zero:List V}{x y:A}(b:ye E st.tm x=.int .i64 0) (f:ye E st.tm y=.int .i64 (n:Int)) (e:n*a<=140737488355328) (i:n<=140737488355328) (g:zero.length=sz) (c:0<sz)
 (h:QW K st d ub { v:=.osl (jI d nm st.fb ub) ub 0 0 sz,obs:=[(jI d nm st.fb ub,⟨ub,.cells []⟩)] }):jB E Yf ⟨d,.mkSl true sz a zero x y,none,nm⟩ st ub K:=by
 rw[jR _ rfl rfl];simp only[yS,b,f];rw[zb (by refine⟨zO,zO,?_,zO,g,c⟩;rw[<- fZ];exact gV.2 e),za zS,Jo,jJ];simpa[Jm,ja8] using h
section
variable {ob:ZO}{ub n:Nat}{L:List P2}{v:V}
def sv152 {Yf:YF}{tk:Nat->Bool}{ro base:Nat}(l1:ro<=ub) (O:0<n) (h9:n<=9) (hv:EdA ub ob v L) (hL:InG n L) (hl:L.length<=10000) :
 ∃r,EvS E Yf.y 152 [.int .i64 (n:Int),v] ob tk ro base ub r/\TopR ob ub n L r:=by
 obtain⟨p,hp⟩:∃p:Nat->Nat->Bool,p=λ(a b:Nat)=>L.contains ((a:Int),(b:Int)):=⟨_,rfl⟩
 have hr:=λa=>Yw hL a
 have hc:=λb=>jhf hL b
 have e6:(2:Nat)^n<=512:=cu zQ h9
 have b8:∀b,(yp (colW L b)).length=cntP n p [] b:=λb=>by
  rw[jjy h9 (hc b).1]
  unfold cntP
  congr 1
  refine gQ λx _=>?_
  rw[(hc b).2,hp]
  simp
 have Z:∀a b,b∈yp (rowW L a) ↔ b<n/\p a b=true:=λa b=>by
  rw[jjy h9 (hr a).1,bu,aM,(hr a).2,hp]
 refine JI rfl zQ ?_
 show wpC E Yf S152.body _ (Jw S152.res _)
 conv in(occs:=*)S152=>all_goals cbv
 simp(disch:=try exact zD)[S152]
 refine jP (vs:=[.int .i64 n,v]) zS rfl (j7n zP O h9 (hv.up (λc _=>by simp) ?_) hL hl) ?_
 ·first|omega|(simp;done)|(simp;omega)
 rintro v1 b5 k7 N ⟨S,ut,uf,ue,tu,fu,T,rfl,hG,l6,l3,hT,q1,a0⟩
 simp only at hG q1 a0
 have l0:ub<=N:=by first|omega|(simp at q1;omega)
 have hG:=hG.wide (lo':=ub) zL
 have a0:∀c,Off ub c->b5 c=ob c:=λc H=>by
  rw[a0 c (H.up zL)]
  simp
 simp
 refine jk3 (n:=n) zS zS zO zO rfl zQ ?_
 rw[jrh]
 simp
 refine jg λG g=>?_
 obtain⟨w,u1,u2,g8,gA⟩:∃u,N<=u/\u<G.nx/\G.tm 8=.osl (2*u+1) u 0 n 1/\G.ob (2*u+1)=some ⟨u,.cells ((List.replicate n (0:Int)).flatMap yf)⟩:=by
  refine⟨N+512,zO,by rw[g];first|omega|(simp;done)|(simp;omega),by rw[g];simp[aI],?_⟩
  rw[g]
  simp[aI,yf,List.flatMap_replicate]
 have g0:G.tm 0=.int .i64 n:=by rw[g];simp
 have g6:G.tm 6=.ptr (2*S+1) S 0:=by rw[g];simp
 have g7:G.tm 7=.int .i64 0:=by rw[g];simp
 have g2:G.tm 25=.int .i64 n:=by rw[g];simp
 have f5:G.tm 26=.int .i64 0:=by rw[g];simp
 have gd:G.df=[]:=by rw[g];simp
 have gr:G.ro=ro:=by rw[g];simp
 have go:∀c,Off N c->G.ob c=b5 c:=λc H=>by
  have:=H.ne
  rw[g]
  simp(disch:=try exact zD)[this]
 clear g
 -- how many are ahead of each
 obtain⟨J,hJ⟩:∃J:Nat->St->Prop,J=λi s=>s.tm 26=.int .i64 i/\w<s.nx/\(∃A:List Int,s.ob (2*w+1)=some ⟨w,.cells (A.flatMap yf)⟩/\A.length=n/\∀b,b<i->A.getD b 0=cntP n p [] b)/\∀c,Off N c->s.ob c=b5 c:=⟨_,rfl⟩
 refine j9 [(9,9),(26,36)] n J rfl rfl ?_ ?_
 ·rw[hJ]
  exact⟨by simpa using f5,u2,⟨_,gA,zS,λb h=>by omega⟩,go⟩
 clear f5 gA go u2
 intro i s hi e2 f
 rw[hJ]at e2
 obtain⟨b0,sn,⟨A,sA,M,c3⟩,so⟩:=e2
 have s0:=(f.t 0 zS).trans g0
 have s6:=(f.t 6 zS).trans g6
 have s7:=(f.t 7 zS).trans g7
 have s8:=(f.t 8 zS).trans g8
 have d3:=(f.t 25 zS).trans g2
 have sd:=f.d.trans gd
 have sr:=f.r.trans gr
 clear f
 by_cases U:i<n
 ·have c4:=jb U zO
  have c1:=jp6 (l:=2*w+1) (u:=w) (kk:=.i64) U
  have I:=jaw j8 ((cntP n p [] i:Nat):Int) A i zO
  rw[bB,show yf ((cntP n p [] i:Nat):Int)=[.int .i64 ((cntP n p [] i:Nat):Int)] from rfl]at I
  have c8:=j4 j8 A
  generalize h8:A.flatMap yf=cs at sA I c8
  have k4:=b8 i
  have nA:∀m,s.nx<=m->¬w=m:=λm hm=>by omega
  simp(disch:=try exact zD)[b0,d3,s8,s6,U]
  refine jpv (vs:=[.ptr (2*S+1) S 0,.int .i64 i]) zS rfl rfl (evo180 (hG.keep (hi':=s.nx+448) (λx _ h=>?_) ?_) ?_ zO zO (aW (hc i).1 e6) _ _) λtt nl add=>?_
  ·simp
   exact so _ (Off.new h)
  ·first|omega|(simp;done)|(simp;omega)
  ·first|omega|(simp;done)|(simp;omega)
  rw[JY,k4]
  simp(disch:=try exact zD)[c1,j0,sA,I,V.cells,V.leaf]
  refine⟨zO,zO,?_⟩
  simp(disch:=try exact zD)[b0,c4,U]
  rw[hJ]
  refine⟨zS,zL,⟨A.set i ((cntP n p [] i:Nat):Int),zS,by simp[M],λb hb=>?_⟩,λc H=>?_⟩
  ·rw[je9 A zO]
   by_cases e:b=i
   ·subst e;simp
   ·rw[za e]
    exact c3 b zO
  ·have:¬c=2*w+1:=H w u1
   simp[this]
   exact so c H
 have e:i=n:=zO
 subst e
 have e3:AhOk i p [] A:=⟨M,λb _ h=>(by cases h),λb hb _=>c3 b hb,λb x h=>(by cases h)⟩
 clear c3 M b8 U hi
 simp(disch:=try exact zD)[b0,d3,s0]
 refine j3y (n:=i) zS zS zO zO rfl zQ ?_
 simp(disch:=try exact zD)[s0]
 refine jg λG g=>?_
 have g0:G.tm 0=.int .i64 i:=by rw[g];simp[s0]
 have g6:G.tm 6=.ptr (2*S+1) S 0:=by rw[g];simp[s6]
 have g7:G.tm 7=.int .i64 0:=by rw[g];simp[s7]
 have g8:G.tm 8=.osl (2*w+1) w 0 i 1:=by rw[g];simp[s8]
 have g5:G.tm 39=.int .i64 i:=by rw[g];simp
 have e9:G.tm 40=.int .i64 0:=by rw[g];simp
 have gd:G.df=[]:=by rw[g];simp[sd]
 have gr:G.ro=ro:=by rw[g];simp[sr]
 have gn:s.nx<=G.nx:=by rw[g];first|omega|(simp;done)|(simp;omega)
 have gI:IntL G.ob s.nx G.nx (G.tm 10) (yq []):=by
  refine⟨s.nx+128,by rw[g];simp[aI,yq],by rw[g];simp[aI,yq],zO,?_⟩
  rw[g]
  first|omega|(simp;done)|(simp;omega)
 have go:∀c,Off s.nx c->G.ob c=s.ob c:=λc H=>by
  have:=H.ne
  rw[g]
  simp(disch:=try exact zD)[this]
 clear g
 have i7:∀c,Off N c->s.ob c=b5 c:=so
 have e1:Gr ub s.nx S (some ut) (some uf) ue tu fu (rowW L) (colW L) T s.ob:=hG.keep (λx _ h=>so _ (Off.new h)) zO
 have d8:∀c,Off ub c->c≠2*w+1->Off s.nx c:=λc H _=>H.up zO
 obtain⟨n0,e4⟩:∃n0,n0=s.nx:=⟨_,rfl⟩
 obtain⟨b6,b9⟩:∃o,o=s.ob:=⟨_,rfl⟩
 rw[<- e4]at gn gI go sn e1
 rw[<- b9]at go e1 sA so
 clear e4 b9 i7 d8 s0 s6 s7 s8 d3 b0 sd sr hJ
 have gA:G.ob (2*w+1)=some ⟨w,.cells (A.flatMap yf)⟩:=(go _ (Off.new sn)).trans sA
 have X:∀c,Off ub c->b6 c=ob c:=λc H=>(so c (H.up zO)).trans (by
  rw[a0 c (H.up zO)]
  simp)
 have c0:∀D',jdh i L=D' ↔ WW i p i []=D':=λD'=>by unfold jdh;rw[hp]
 obtain⟨J2,c6⟩:∃J2:Nat->St->Prop,J2=λk s=>s.tm 40=.int .i64 k/\(∃(D:List Nat) (A:List Int),D.length=k/\AhOk i p D A/\s.ob (2*w+1)=some ⟨w,.cells (A.flatMap yf)⟩/\IntL s.ob n0 s.nx (s.tm 10) (yq D)/\WW i p (i-k) D=WW i p i [])/\n0<=s.nx/\∀c,Off n0 c->c≠2*w+1->s.ob c=b6 c:=⟨_,rfl⟩
 refine j9 [(4,5),(10,13),(40,68)] i J2 rfl rfl (by rw[c6];exact⟨by simpa using e9,⟨[],A,rfl,e3,gA,gI,rfl⟩,gn,λc h _=>go c h⟩) ?_
 clear e9 gI gn go gA e3
 intro k q H f2 f
 rw[c6]at f2
 obtain⟨c9,⟨D,A,h6,hA,qA,qI,hT⟩,qn,qo⟩:=f2
 have q0:=(f.t 0 zS).trans g0
 have q6:=(f.t 6 zS).trans g6
 have q7:=(f.t 7 zS).trans g7
 have q8:=(f.t 8 zS).trans g8
 have d0:=(f.t 39 zS).trans g5
 have qd:=f.d.trans gd
 have qr:=f.r.trans gr
 clear f
 have l8:Gr ub q.nx S (some ut) (some uf) ue tu fu (rowW L) (colW L) T q.ob:=by
  have k6:∀x,x<N->x≠w:=λx hx e=>by omega
  exact(hG.keep (ob':=q.ob) (hi':=q.nx) (λx _ h=>(qo _ (Off.new zO) zO).trans (so _ (Off.new h))) zO)
 by_cases c7:k<i
 ·have c4:=jb c7 zO
  have M:=hA.l
  have g4:=hA.find
  have c1:idxF A 0=(List.range i).find? (WK i p D):=by rw[g4];unfold idxF;rw[M]
  have K:WW i p (i-k) D=match (List.range i).find? (WK i p D) with
   |none=>none
   |some a=>WW i p (i-(k+1)) (D++[a]):=by rw[show i-k=(i-(k+1))+1 by omega];rfl
  simp(disch:=try exact zD)[c9,d0,q8,c7]
  refine jW (vs:=[.osl (2*w+1) w 0 A.length 1,.int .i64 0]) (by simp[M]) rfl rfl (evo148 (by simpa using qA) zL zO 0 _ _) ?_
  rw[c1]
  cases hf:(List.range i).find? (WK i p D) with
  |none=>
   rw[hf]at K
   simp
   refine jc3 (by simp[qd]) ⟨zL,λc H=>?_,?_⟩
   ·have O:¬c=2*w+1:=H w zO
    simp
    rw[qo c (H.up zO) O,X c H]
   ·rw[show jdh i L=none from(c0 none).2 (by rw[<- hT,K])]
    simp
  |some a=>
   rw[hf]at K
   have f6:=List.find?_some hf
   have ha:a<i:=aM.1 (fD hf)
   have d9:¬(a:Int)<0:=zO
   have h7:=jp6 (l:=2*w+1) (u:=w) (kk:=.i64) ha
   have I:=jaw j8 (-1:Int) A a zO
   rw[bB,show yf (-1)=[.int .i64 (-1)] from rfl]at I
   have c8:=j4 j8 A
   generalize h8:A.flatMap yf=cs at qA I c8
   have nA:∀m,q.nx<=m->¬w=m:=λm hm=>by omega
   simp(disch:=try exact zD)[d9,q8,h7,j0,qA,I]
   refine⟨zO,zO,?_⟩
   refine JL (cs:=[.int .i64 (a:Int)]) (by simp[j6]) rfl rfl ?_
   simp
   obtain⟨uo,o1,o2,o3,o4⟩:=qI
   have nO:∀m,q.nx<=m->¬uo=m:=λm hm=>by omega
   have k0:¬uo=w:=zO
   refine jgu (lo:=n0) (hi:=q.nx) (v:=q.tm 10) (T:=yq D) (p:=(a:Int)) zS (.inr ⟨uo,o1,?_,o3,o4⟩) ?_ (by simp[jF,j0,yf]) (by rw[JY];omega) λkl i9=>?_
   ·simp(disch:=try exact zD)[yj,nO,k0,o2]
   ·simp[qr];omega
   have e7:kl=[2*uo+1]\/kl=[]:=by
    rcases i9 with h|⟨u,hu,_,_,rfl⟩
    ·exact .inr h
    ·rw[o1]at hu
     have:uo=u:=by injection hu
     exact .inl (by rw[this])
   have c2:∀c,c≠2*uo+1->kl.any (Nat.beq c)=false:=λc H=>by
    rcases e7 with rfl|rfl
    ·simp only[bJ,ce,bI]
     exact Ju H
    ·rfl
   have i8:=c2 (2*w+1) zO
   have k2:yq D++[(a:Int)]=yq (D++[a]):=by simp[yq]
   have l4:=ja1 (rowW L a)
   have g9:∀x,x<N->kl.any (Nat.beq (2*x+1))=false:=λx hx=>c2 _ zO
   rw[k2]
   simp(disch:=try exact zD)[q6]
   refine jpv (vs:=[.ptr (2*S+1) S 0,.int .i64 a]) zS rfl rfl (j6s (hG.keep (λx _ h=>?_) ?_) zK zO (aW (hr a).1 e6) _ _) λtt nl add=>?_
   ·have O:∀m,q.nx<=m->¬x=m:=λm hm=>by omega
    have h2:¬x=w:=zO
    have h3:=g9 x h
    simp(disch:=try exact zD)[jK,yj,O,h2,h3]
    exact(qo _ (Off.new zO) zO).trans (so _ (Off.new h))
   ·first|omega|(simp;done)|(simp;omega)
   have f7:(yq (D++[a])).length=(yq D).length+1:=by simp[yq]
   generalize i2:yq (D++[a])=DD at *
   simp
   refine jg λp F=>?_
   have p0:p.tm 0=.int .i64 i:=by rw[F];simp[q0]
   have p6:p.tm 6=.ptr (2*S+1) S 0:=by rw[F];simp[q6]
   have p7:p.tm 7=.int .i64 0:=by rw[F];simp[q7]
   have p8:p.tm 8=.osl (2*w+1) w 0 i 1:=by rw[F];simp[q8]
   have k9:p.tm 39=.int .i64 i:=by rw[F];simp[d0]
   have f9:p.tm 40=.int .i64 k:=by rw[F];simp[c9]
   have i4:p.tm 55=.sl tt nl (yp (rowW L a)).length ((yq (yp (rowW L a))).flatMap yf):=by rw[F];simp[JY]
   have i5:p.tm 56=.int .i64 (yp (rowW L a)).length:=by rw[F];simp[JY]
   have d7:p.tm 57=.int .i64 0:=by rw[F];simp
   have pd:p.df=[]:=by rw[F];simp[qd]
   have pr:p.ro=ro:=by rw[F];simp[qr]
   have pn:q.nx<=p.nx:=by rw[F];first|omega|(simp;done)|(simp;omega)
   have j1:∀m,q.nx<=m->¬m=w:=λm hm=>by omega
   have pI:IntL p.ob n0 p.nx (p.tm 10) DD:=by
    refine⟨q.nx+832,by rw[F];simp[aI,f7],?_,zO,by rw[F];first|omega|(simp;done)|(simp;omega)⟩
    rw[F]
    simp(disch:=try exact zD)[jK,yj,aI,j1]
   have pA:p.ob (2*w+1)=some ⟨w,.cells ((A.set a (-1)).flatMap yf)⟩:=by
    rw[F]
    simp(disch:=try exact zD)[jK,yj,nA,i8]
   have po:∀c,Off n0 c->c≠2*w+1->p.ob c=b6 c:=λc O h2=>by
    have h3:=(O.up qn).ne
    have h4:=c2 c (O uo o3)
    rw[F]
    simp(disch:=try exact zD)[jK,h3,h4,h2]
    exact qo c O h2
   clear F
   have f4:∀b∈yp (rowW L a),b<i:=λb hb=>((Z a b).1 hb).1
   have f3:=jvs (rowW L a)
   have k3:=hA.next ha f6 (bs:=yp (rowW L a)) (Z a) f3
   have k1:=hA.rng
   generalize yp (rowW L a)=bs at *
   have g3:∀j b,-2<=(decL (A.set a (-1)) (bs.take j)).getD b 0/\(decL (A.set a (-1)) (bs.take j)).getD b 0<=100:=λj b=>by
    rw[j0r _ _ (f3.sublist (List.take_sublist _ _)) (λx hx=>by rw[dO,M];exact f4 x (da hx)),je9 A zO]
    have:=k1 b
    split<;>split<;>omega
   have i1:∀j,(decL (A.set a (-1)) (bs.take j)).length=i:=λj=>by rw[jsz,dO,M]
   obtain⟨J3,d1⟩:∃J3:Nat->St->Prop,J3=λj s=>s.tm 57=.int .i64 j/\s.ob (2*w+1)=some ⟨w,.cells ((decL (A.set a (-1)) (bs.take j)).flatMap yf)⟩/\IntL s.ob n0 s.nx (s.tm 10) DD/\q.nx<=s.nx/\∀c,Off n0 c->c≠2*w+1->s.ob c=b6 c:=⟨_,rfl⟩
   refine j9 [(13,13),(57,67)] bs.length J3 rfl rfl (by rw[d1];exact⟨by simpa using d7,by simpa[decL] using pA,pI,pn,po⟩) ?_
   clear d7 pA pI pn po
   intro j y hj f0 f
   rw[d1]at f0
   obtain⟨d2,yA,yI,yn,yo⟩:=f0
   have y8:=(f.t 8 zS).trans p8
   have k8:y.tm 10=p.tm 10:=f.t 10 zS
   have i0:=(f.t 40 zS).trans f9
   have g1:=(f.t 55 zS).trans i4
   have e5:=(f.t 56 zS).trans i5
   have yd:=f.d.trans pd
   have yr:=f.r.trans pr
   clear f
   by_cases Q:j<bs.length
   ·have e8:=jb Q zO
    have d5:j<(yq bs).length:=by rw[JY];exact Q
    have f1:=JS j8 tt nl (yq bs) .i64 d5
    rw[JY]at f1
    have d6:=jt (yq bs) d5
    rw[jz5]at d6
    have f8:=f4 _ (au Q)
    have j2:bs.take (j+1)=bs.take j++[bs[j]]:=ay Q
    have c5:=j0q (A.set a (-1)) (bs.take j) bs[j]
    rw[<- j2]at c5
    have l7:=g3 j bs[j]
    have l2:=i1 j
    generalize decL (A.set a (-1)) (bs.take j)=B at *
    generalize bs[j]=b at *
    have i6:=jp6 (l:=2*w+1) (u:=w) (kk:=.i64) f8
    have b7:=jt B (i:=b) zO
    have i3:B.getD b 0=B[b]' zO:=by simp[am,aa (show b<B.length by omega)]
    rw[<- i3]at b7
    have h0:IntKind.i64.wrap (B.getD b 0-1)=B.getD b 0-1:=jk zO zO
    have P:=jaw j8 (B.getD b 0-1) B b zO
    rw[bB,show yf (B.getD b 0-1)=[.int .i64 (B.getD b 0-1)] from rfl,<- c5]at P
    have e0:=j4 j8 B
    generalize k5:B.flatMap yf=cs2 at yA P e0 b7
    generalize B.getD b 0=bv at *
    have d4:b<cs2.length:=zO
    have h5:cs2[b]=.int .i64 bv:=by rw[aa d4]at b7;exact cm b7
    have l5:∀m,y.nx<=m->¬w=m:=λm hm=>by omega
    simp(disch:=try exact zD)[d2,e5,g1,y8,Q,f1,d6,i6,j0,yA,d4,h5,h0,P]
    refine⟨zO,zO,?_⟩
    simp(disch:=try exact zD)[d2,e8,Q]
    rw[d1]
    obtain⟨z,z1,z2,z3,z4⟩:=yI
    refine⟨zS,by simp[c5],⟨z,by simpa using z1,?_,z3,zL⟩,zL,λc O h2=>?_⟩
    ·have:¬z=w:=zO
     simp(disch:=try exact zD)[yj,this,z2]
    ·simp[h2]
     exact yo c O h2
   ·have:j=bs.length:=zO
    subst this
    rw[bk]at yA
    simp(disch:=try exact zD)[d2,e5,i0,c4,c7]
    rw[c6]
    refine⟨zS,⟨D++[a],decL (A.set a (-1)) bs,by simp[h6],k3,by simpa using yA,?_,by rw[<- hT,K]⟩,zL,λc O h2=>by simpa using yo c O h2⟩
    rw[i2]
    obtain⟨z,z1,z2,z3,z4⟩:=yI
    refine⟨z,by simpa using z1,by simpa using z2,z3,zL⟩
 ·have:k=i:=zO
  subst this
  rw[fU]at hT
  simp(disch:=try exact zD)[c9,d0,q7]
  refine jc3 (by simp[qd]) ⟨zL,λc H=>?_,?_⟩
  ·have O:¬c=2*w+1:=H w zO
   simp
   rw[qo c (H.up zO) O,X c H]
  ·rw[show jdh k L=some D from(c0 (some D)).2 (by rw[<- hT];rfl)]
   obtain⟨u,O,h2,h3,h4⟩:=qI
   exact⟨q.tm 10,zS,u,O,by simpa using h2,zO,zL⟩
end
section
variable {g:Hist'}{mv rv:V}{kX uX lo:Nat}{ob:ZO}{ub:Nat}
def sv115 {Yf:YF}(hs:Small g) (hw:jX g=true) (h8:g.ts.length<=8) {tk:Nat->Bool}{ro base:Nat}(hX:MkR g mv rv kX uX lo ob ub []) (Z:Off lo kX) (Q:lo<=ub) (g1:ro<=lo) (g4:ro<=uX) :
 ∃r,EvS E Yf.y 115 [.ptr kX uX 0] ob tk ro base ub r/\ub<=r.2.2.2/\MkR g mv rv kX uX lo r.2.1 r.2.2.2 (yE g (ym g).length)/\∀b,Off lo b->b≠kX->r.2.1 b=ob b:=by
 have g9:=YM g;obtain⟨vc,e4,c2⟩:=ev70 hs;rw[jhe hw]at c2;obtain⟨e3,c5,b9⟩:=hX;have oX:=(Z.up Q).ne;refine JI rfl zQ ?_;show wpC E Yf S115.body _ (Jw S115.res _);conv in(occs:=*)S115=>all_goals cbv
 simp(disch:=try exact zD)[S115,j0,c5,mkS,ya,oX];refine jL e4 zI rfl zI ?_;refine XB c2 λM add=>?_;simp;refine jg λH x=>?_;obtain⟨B,u1,u2,g2,gM⟩:∃u,ub<=u/\u<H.nx/\H.tm 2=.map (2*u+1) u/\H.ob (2*u+1)=some ⟨u,.mp 0 []⟩:=by refine⟨ub,zK,?_,by rw[x];simp,by rw[x];simp⟩;rw[x];simp;omega
 have g0:H.tm 0=.ptr kX uX 0:=by rw[x];simp
 have f2:H.tm 13=.sl M (ym g).isEmpty (ym g).length ((ym g).flatMap yf):=by rw[x];simp
 have d5:H.tm 14=.int .i64 (ym g).length:=by rw[x];simp
 have b5:H.tm 15=.int .i64 0:=by rw[x];simp
 have gd:H.df=[]:=by rw[x];simp
 have gr:H.ro=ro:=by rw[x];simp
 have go:∀b,Off ub b->H.ob b=ob b:=λb Z=>by have:=Z.ne;rw[x];simp(disch:=try exact zD)[this]
 clear x;have gJ:SesJ g mv rv kX uX lo (2*B+1) B ob H.ob H.nx [] 0 []:=by
  refine⟨⟨e3,(go _ (Z.up Q)).trans c5,b9.frame (λu _ h=>go _ (Off.new h)) zO,?_,λs u n h=>by simp[jx]at h⟩,⟨gM,λs _=>by simp[sesT],λs u n h=>by simp[jx]at h,λs s' u n n' h=>by simp[jx]at h⟩,λb k1 _=>go b (k1.up Q),⟨zO,u2,rfl⟩,Z⟩;rcases b9 with⟨rfl,_⟩|⟨w,rfl,_,_,w4⟩;exact λu hu=>by cases hu
  exact λu hu=>by
   have:w=u:=by injection hu
   omega
 obtain⟨J,hJ⟩:∃J:Nat->St->Prop,J=λi s=>s.tm 15=.int .i64 i/\∃m,SesJ g mv rv kX uX lo (2*B+1) B ob s.ob s.nx (yE g i) i m:=⟨_,rfl⟩;refine j9 [(4,7),(15,52)] (ym g).length J rfl rfl (by rw[hJ];exact⟨by simpa using b5,[],gJ⟩) ?_;clear gJ b5 go gM;intro i s hi c0 f;rw[hJ]at c0;obtain⟨S,m,sJ⟩:=c0;have s0:=(f.t 0 zS).trans g0;have s2:=(f.t 2 zS).trans g2;have c1:=(f.t 13 zS).trans f2;have O:=(f.t 14 zS).trans d5;have sd:=f.d.trans gd;have sr:=f.r.trans gr;clear f;by_cases z:i<(ym g).length
 ·have d3:=jb z zO;have c9:=JS j8 M (ym g).isEmpty (ym g) .i64 z;have b7:=jt (ym g) z;have e0:(ym g).getD i 0=(ym g)[i]:=by simp[am,aa z]
  obtain⟨c,hc,_,b0⟩:=js2 z;rw[e0]at hc;have f0:=je0 g 8 i zO;have f5:(yE g i).length<=72:=bL f0 (by have:i*(8+1)<=8*9:=bf 9 zO;omega);have hE:=sesE_T z;have d8:yE g (i+1)=yE g i++jv5 g i:=by unfold yE;rw[dN,cn];simp
  have b8:yD g (ym g)[i].toNat=yD g c:=by rw[hc,aX]
  have x1:=j7 jA g.tn g.ts .i64 b0;have x2:(g.ts.flatMap jl)[c*3]? = some (.int .i64 (yD g c)):=j76 b0;have f7:=j2k g i (yD g c);rw[b8]at hE;rw[hc]at b7;have d1:Jl g (-1)=g.ts.length:=rfl;have c8:Jl g (c:Int)=c:=by unfold Jl;rw[za zO]
  simp(disch:=try exact zD)[S,O,c1,s0,z,c9,b7];refine jP (vs:=[.ptr kX uX 0,.int .i64 (-1),.int .i64 (c:Int)]) zS rfl ((sJ.up zL).put (by first|omega|(simp[sr];done)|(simp[sr];omega)) (by first|omega|(simp[sr];done)|(simp[sr];omega)) zO _ _) ?_;rintro v1 d9 f6 g6 ⟨r1,X⟩;simp only at r1 X;rw[d1,c8]at X;obtain⟨g3,a0,_⟩:=id X.e;simp(disch:=try exact zD)[s0,j0,a0,mkS,ya,x1,x2,s2];have I:=X.q.look (yD g c);have F:=X.q.ls (yD g c);simp(disch:=try exact zD)[I,F.len];refine jg λp G=>?_;have p0:p.tm 0=.ptr kX uX 0:=by rw[G];simp[s0]
  have p2:p.tm 2=.map (2*B+1) B:=by rw[G];simp[s2]
  have p4:p.tm 4=.int .i64 c:=by rw[G];simp
  have p5:p.tm 5=.int .i64 (yD g c):=by rw[G];simp
  have f9:p.tm 13=.sl M (ym g).isEmpty (ym g).length ((ym g).flatMap yf):=by rw[G];simp[c1]
  have d7:p.tm 14=.int .i64 (ym g).length:=by rw[G];simp[O]
  have d0:p.tm 15=.int .i64 i:=by rw[G];simp[S]
  have f3:p.tm 33=lkV m (yD g c):=by rw[G];simp
  have d4:p.tm 34=.int .i64 (sesT g i (yD g c)).length:=by rw[G];simp
  have b6:p.tm 35=.int .i64 0:=by rw[G];simp
  have pd:p.df=[]:=by rw[G];simp[sd]
  have pr:p.ro=ro:=by rw[G];simp[sr]
  have pJ:SesJ g mv rv kX uX lo (2*B+1) B ob p.ob p.nx (yE g i++((g.ts.length:Int),(c:Int))::((sesT g i (yD g c)).take 0).map λa=>(a,(c:Int))) i m:=by
   have:=X.up (nx':=p.nx) (by rw[G];first|omega|(simp;done)|(simp;omega));have e:p.ob=d9:=by rw[G];simp
   rw[e];simpa using this
  clear G I F X a0;have e7:∀a∈sesT g i (yD g c),Jl g a=a:=λa ha=>by unfold sesT at ha;obtain⟨k,Z,_⟩:=comL_mem.1 (da (bu.1 ha).1);unfold Jl;rw[za zO]
  rw[hc]at hE;generalize K:sesT g i (yD g c)=T at *;obtain⟨J2,N⟩:∃J2:Nat->St->Prop,J2=λj q=>q.tm 35=.int .i64 j/\SesJ g mv rv kX uX lo (2*B+1) B ob q.ob q.nx (yE g i++((g.ts.length:Int),(c:Int))::(T.take j).map λa=>(a,(c:Int))) i m:=⟨_,rfl⟩;refine j9 [(7,7),(35,43)] T.length J2 rfl rfl (by rw[N];exact⟨by simpa using b6,pJ⟩) ?_;clear b6 pJ;intro j q hj c7 f;rw[N]at c7;obtain⟨L,P⟩:=c7;have q0:=(f.t 0 zS).trans p0;have q2:=(f.t 2 zS).trans p2;have q4:=(f.t 4 zS).trans p4;have q5:=(f.t 5 zS).trans p5;have e5:=(f.t 15 zS).trans d0;have f8:=(f.t 14 zS).trans d7;have f4:=(f.t 33 zS).trans f3;have c3:=(f.t 34 zS).trans d4;have qd:=f.d.trans pd;have qr:=f.r.trans pr;clear f;have F:=P.q.ls (yD g c);rw[K]at F;by_cases D:j<T.length
  ·have c4:=jb D zO;rcases F with⟨_,rfl⟩|⟨u,hv,ho,_,_⟩;simp at D;have d6:=jp6 (l:=2*u+1) (u:=u) (kk:=.i64) D;have c6:=jt T D;have e8:=e7 _ (au D);have f1:(T.take (j+1)).map (λa=>(a,(c:Int)))=(T.take j).map (λa=>(a,(c:Int)))++[(T[j],(c:Int))]:=by rw[ay D,bA];rfl
   simp(disch:=try exact zD)[L,c3,f4,q0,q4,D,hv,d6,j0,ho,c6];refine jP (vs:=[.ptr kX uX 0,.int .i64 T[j],.int .i64 (c:Int)]) zS rfl ((P.up zL).put (by first|omega|(simp[qr];done)|(simp[qr];omega)) (by first|omega|(simp[qr];done)|(simp[qr];omega)) zP _ _) ?_;rintro v2 d2 g7 e6 ⟨z1,z2⟩;simp only at z1 z2;rw[e8,c8,bj,de,<- f1]at z2;simp(disch:=try exact zD)[L,c4,D];rw[N];exact⟨zS,(by simpa using z2:SesJ g mv rv kX uX lo (2*B+1) B ob d2 e6 _ i m).up zL⟩
  have:j=T.length:=zO;subst this;rw[aJ zK,<- hE,<- d8]at P;have I:=P.q.look (yD g c);simp(disch:=try exact zD)[L,c3,q2,q4,q5,I];refine JL (cs:=[.int .i64 (c:Int)]) (by simp[j6]) rfl rfl ?_;simp;have g5:=F;refine jgu (lo:=B+1) (hi:=q.nx) (v:=lkV m (yD g c)) (T:=T) (p:=(c:Int)) zS ?_ (by simp[qr];omega) (by simp[jF,j0,yf]) zO λkl U=>?_;rcases F with h|⟨u,hv,ho,h3,h4⟩
  exact .inl h;refine .inr ⟨u,hv,?_,h3,h4⟩;have:∀m,q.nx<=m->¬u=m:=λm hm=>by omega
  simp(disch:=try exact zD)[yj,this,ho];have hq:=P.q.o;obtain⟨l1,l2,l3⟩:=P.h;have nM:∀m,q.nx<=m->¬B=m:=λm hm=>by omega
  have e9:kl.any (Nat.beq (2*B+1))=false:=by rcases U with rfl|⟨u,_,h1,_,rfl⟩;rfl;simp only[bJ,ce,bI];exact Ju zO
  have g8:∀m,q.nx<=m->kl.any (Nat.beq (2*m+1))=false:=λm hm=>by rcases U with rfl|⟨u,_,_,h2,rfl⟩;rfl;simp only[bJ,ce,bI];exact Ju zO
  simp(disch:=try exact zD);refine jcu (f:=osV) (a:=(q.nx+512,T.length+1)) (ver:=i) (l:=2*B+1) (u:=B) (k:=yD g c) m zS zS (by simp[osV,aI,V.strip]) (by simp(disch:=try exact zD)[jK,yj,nM,e9,hq]) (by simp[qr];omega) ?_;simp(disch:=try exact zD)[e5,d3,z];rw[hJ];rw[<- K];refine⟨zS,Wi m (yD g c) (q.nx+512,(sesT g i (yD g c)).length+1),P.next (kl:=kl) z b8.symm ?_ ?_ (by rw[K];exact U) (λb k1 k2 k3=>?_) zO zL⟩;simp;rw[K,hc];simp(disch:=try exact zD)[jK,yj,aI,dA (nM _ _)];have:=k1.ne;simp(disch:=try exact zD)[jK,this,k2,k3]
 have:i=(ym g).length:=zO;subst this;simp(disch:=try exact zD)[S,O];obtain⟨⟨lv,e1,e2,_⟩,_,w,h,_⟩:=sJ;exact jfe (.inl rfl) (by simp[sd]) ⟨zL,⟨lv,by simpa using e1,e2.frame (λ_ _ _=>by simp) zL⟩,λb h1 h2=>by simpa using w b h1 h2⟩
end
def revE (n:Nat) (L:List P2):List P2:=(L.filter λz=>decide (z.1<(n:Int))).map λz=>(z.2,z.1)
def jxj (n:Nat) (L:List P2) (z:P2):revE n (L++[z])=revE n L++if z.1<(n:Int) then [(z.2,z.1)] else []:=by unfold revE;rw[cl,bA];congr 1;by_cases h:z.1<(n:Int)<;>simp[h]
def jra (n:Nat) (L:List P2):(revE n L).length<=L.length:=by unfold revE;rw[bm];exact cg _ _
def EdV.toA {ob:ZO}{lo hi hi':Nat}{v:V}{L:List P2}(h:EdV ob lo hi v L) (c:hi<=hi'):EdA hi' ob v L:=by rcases h with⟨rfl,rfl⟩|⟨u,b,a,e,d⟩;exact .inl ⟨none,true,rfl⟩;exact .inr ⟨2*u+1,u,b,a,Off.new zO⟩
structure PastO (kX uX:Nat) (R:List P2) (u1 u3 hi:Nat) (ob:ZO):Prop where
 a:ob (2*u1+1)=some ⟨u1,.cells [.ptr kX uX 0]⟩
 b:∃lv,ob (2*u3+1)=some ⟨u3,.cells [lv]⟩/\EdV ob (u3+1) hi lv R
 h:u1<u3/\u3<hi
def PastO.keep {kX uX c e hi hi':Nat}{R:List P2}{ob ob':ZO}(h:PastO kX uX R c e hi ob) (d:∀u,c<=u->u<hi->ob' (2*u+1)=ob (2*u+1)) (i:hi<=hi'):PastO kX uX R c e hi' ob':=by obtain⟨k,b1,b2⟩:=h.b;have f:=h.h;exact⟨(d c zK zO).trans h.a,⟨k,(d e zO f.2).trans b1,b2.frame (λu l j=>d u zO j) i⟩,f.1,zO⟩
section
variable {g:Hist'}{mv rv:V}{kX uX lo:Nat}{ob:ZO}{ub:Nat}{L:List P2}
def sv170 {Yf:YF}{tk:Nat->Bool}{ro base:Nat}(hX:MkR g mv rv kX uX lo ob ub L) (k:Off lo kX) (S:lo<=ub) (c1:ro<=lo) (hl:L.length<=10000) :
 ∃r,EvS E Yf.y 170 [.ptr kX uX 0] ob tk ro base ub r/\∃l j,r.1=.fn (.func 221) [] [.ptr (2*l+1) l 0,.ptr (2*j+1) j 0]/\ub<=l/\PastO kX uX (revE g.ts.length L) l j r.2.2.2 r.2.1/\∀c,Off ub c->r.2.1 c=ob c:=by
 obtain⟨lv,K,hE⟩:=hX;have hA:=hE.toA zK;have O:=hA.len;have oX:=(k.up S).ne;have B:¬ub=ub+64+64:=zO;refine JI rfl zQ ?_;show wpC E Yf S170.body _ (Jw S170.res _);conv in(occs:=*)S170=>all_goals cbv
 simp(disch:=try exact zD)[S170,j0,K,mkS,ya,oX,V.cells,V.leaf,O,yj,B];refine jg λq e=>?_;obtain⟨l,j,a1,a2,a3,g1,g3,gA,gB⟩:∃l j,ub<=l/\l<j/\j<q.nx/\q.tm 1=.ptr (2*l+1) l 0/\q.tm 3=.ptr (2*j+1) j 0/\q.ob (2*l+1)=some ⟨l,.cells [.ptr kX uX 0]⟩/\q.ob (2*j+1)=some ⟨j,.cells [.sl none true 0 []]⟩ :=
  ⟨ub,ub+128,zO,zO,by rw[e];first|omega|(simp;done)|(simp;omega),by rw[e];simp,by rw[e];simp[aI],by rw[e];simp[yj,B],by rw[e];simp[aI]⟩
 have g9:q.tm 9=lv:=by rw[e];simp
 have b9:q.tm 10=.int .i64 L.length:=by rw[e];simp
 have N:q.tm 11=.int .i64 0:=by rw[e];simp
 have gd:q.df=[]:=by rw[e];simp
 have gr:q.ro=ro:=by rw[e];simp
 have go:∀c,Off ub c->q.ob c=ob c:=λc k=>by have:=k.ne;rw[e];simp(disch:=try exact zD)[this]
 clear e;obtain⟨J,hJ⟩:∃J:Nat->St->Prop,J=λi s=>s.tm 11=.int .i64 i/\PastO kX uX (revE g.ts.length (L.take i)) l j s.nx s.ob/\∀c,Off ub c->s.ob c=ob c:=⟨_,rfl⟩;refine j9 [(5,5),(11,32)] L.length J rfl rfl ?_ ?_;rw[hJ];exact⟨by simpa using N,⟨gA,⟨_,gB,.inl ⟨rfl,by simp[revE]⟩⟩,a2,a3⟩,go⟩;clear N gA gB go a3;intro i s hi Z f;rw[hJ]at Z;obtain⟨w,I,M⟩:=Z;have s1:=(f.t 1 zS).trans g1;have s3:=(f.t 3 zS).trans g3;have s9:=(f.t 9 zS).trans g9;have Q:=(f.t 10 zS).trans b9;have sd:=f.d.trans gd;have sr:=f.r.trans gr;clear f;have hh:=I.h;by_cases o:i<L.length;have P:=jb o zO;obtain⟨p,a0,G⟩:=hA.at o;have n:=jxj g.ts.length (L.take i) L[i];rw[<- ay o]at n;have U:s.ob kX=_:=(M kX (k.up S)).trans K;have X:=(k.up (show lo<=s.nx by omega)).ne;have H:=I.a;obtain⟨lw,T,b5⟩:=I.b;have n1:∀m,s.nx<=m->¬l=m:=λm hm=>by omega
 have n3:∀m,s.nx<=m->¬j=m:=λm hm=>by omega
 generalize L[i]=z at G n;obtain⟨x,y⟩:=z;simp only at G n;simp(disch:=try exact zD)[w,Q,s9,o,a0];rw[G _ λc k=>by simpa using M c k];have b8:=jra g.ts.length (L.take i);rw[ai]at b8;by_cases hc:x<(g.ts.length:Int);rw[zb hc]at n;simp(disch:=try exact zD)[s1,s3,j0,j6,yj,n1,n3,H,T,U,mkS,ya,X,yl,hc];refine⟨zO,?_⟩;refine JL (cs:=[.int .i64 y,.int .i64 x]) (by simp[j6]) rfl rfl ?_;simp;refine jpz (lo:=j+1) (hi:=s.nx) (v:=lw) (L:=revE g.ts.length (L.take i)) (p:=(y,x)) zS (b5.frame (λu h1 h2=>?_) zK) (by simp[sr];omega) (by simp[jF,j0,yR]) zO λkl b7=>?_;have:∀m,s.nx<=m->¬u=m:=λm hm=>by omega
 simp(disch:=try exact zD)[yj,this];have D:∀c,Off (j+1) c->kl.any (Nat.beq c)=false:=λc k=>by rcases b7 with rfl|⟨u,h1,_,rfl,_⟩;rfl;simp only[bJ,ce,bI];exact XJ (k u h1)
 have k3:=D (2*j+1) (Off.new zO);have k1:=D (2*l+1) (Off.new zO);have b0:¬l=j:=zO;rw[<- n];have F:(revE g.ts.length (L.take (i+1))).length=(revE g.ts.length (L.take i)).length+1:=by rw[n];simp
 generalize c0:revE g.ts.length (L.take (i+1))=R1 at *;simp(disch:=try exact zD)[s3,j0,j6,yj,n3,T,jK,k3,V.cells,V.leaf];refine⟨zO,?_⟩;simp(disch:=try exact zD)[w,P,o];rw[hJ];simp only[c0];have b6:∀m,s.nx<=m->¬m=j:=λm hm=>by omega
 refine⟨zS,⟨?_,⟨.osl (2*(s.nx+1344)+1) (s.nx+1344) 0 R1.length 2,?_,.inr ⟨s.nx+1344,rfl,?_,zO,zL⟩⟩,a2,zL⟩,λc k=>?_⟩;simp(disch:=try exact zD)[jK,yj,n1,b0,k1,H];simp(disch:=try exact zD)[aI,F];simp(disch:=try exact zD)[jK,yj,aI,b6];have h1:=D c (k.up zO);have h2:=(k.up (show ub<=s.nx by omega)).ne;have h3:¬c=2*j+1:=k j zO;simp(disch:=try exact zD)[jK,h1,h2,h3];exact M c k;rw[za hc,aP]at n;simp(disch:=try exact zD)[s1,j0,j6,yj,n1,H,U,mkS,ya,X,yl,hc];refine⟨zO,?_⟩;simp(disch:=try exact zD)[w,P,o];rw[hJ];have h2:∀c,Off ub c->∀m,s.nx<=m->¬c=2*m+1:=λc k=>(k.up (show ub<=s.nx by omega)).ne;refine⟨zS,?_,λc k=>?_⟩;rw[n];refine I.keep (λu h3 h4=>?_) zL;have:∀m,s.nx<=m->¬u=m:=λm hm=>by omega
 simp(disch:=try exact zD)[yj,this];have h3:=h2 c k;simp(disch:=try exact zD)[h3];exact M c k;have:i=L.length:=zO;subst this;rw[bk]at I;simp(disch:=try exact zD)[w,Q,s1,s3];exact Jj (by simp[sd]) ⟨l,j,zS,a1,I.keep (λu _ _=>by simp) zL,λc k=>by simpa using M c k⟩
end
def j3w {Yf:YF}{f:FuncId}{xs:List A}{st:St}{ub:Nat}{K:St->Nat->Prop}{d:Option Nat}{nm:Bool}{vs:List V}{P:V->Prop}(b:xs.map (ye E st.tm)=vs) (a:E.sh nm f=false) (hp:(vs.all λv=>v.strip.pureTop)=false)
 (h:∃v,EvO E f vs st.ob st.tk ((st.fb+d.getD 0+1)*1024) ub v/\P v) (c:∀v,P v->wpD (Xt ub v) (QW K st d ub)):jB E Yf ⟨d,.call f xs,none,nm⟩ st ub K:=by
 obtain⟨v,e,i⟩:=h;exact jW b a hp e (c v i)
def jsf {Yf:YF}{f:FuncId}{q:A}{xs:List A}{st:St}{ub:Nat}{K:St->Nat->Prop}{d:Option Nat}{nm:Bool}{first captured vs:List V}{P:V->Prop}(e:ye E st.tm q=.fn (.func f) first captured) (a:first++xs.map (ye E st.tm)++captured=vs) (b:E.sh nm f=false)
 (hp:(vs.all λv=>v.strip.pureTop)=false) (h:∃v,EvO E f vs st.ob st.tk ((st.fb+d.getD 0+1)*1024) ub v/\P v) (c:∀v,P v->wpD (Xt ub v) (QW K st d ub)):jB E Yf ⟨d,.callV q xs,none,nm⟩ st ub K:=by
 obtain⟨v,i,j⟩:=h;exact Wq e b (by rw[a];exact hp) (by rw[a];exact i) (c v j)
def Reach (n:Nat) (R:List P2) (t:Nat) (v:V):Prop:=∃w,(w<2^n/\∀a,a<n->w.testBit a=war (edB R) n t a)/\j1l (yq (yp w)) v
def ev222n {n:Nat}(H:0<n) (B:n<=9) {t:Nat}(F:t<n) :
 ∃q,Ev E 222 [.int .i64 (n:Int),.int .i64 (t:Int),.sl none true 0 []] q/\∃w,(w<2^n/\∀a,a<n->w.testBit a=war (edB []) n t a)/\FromR w q:=by
 have hp:(2:Nat)^n<=512:=cu zQ B;have D:¬(t:Int)<0:=zO;have m:¬(n:Int)<=t:=zO;have d:¬(n<=t):=zO;refine X6 rfl zQ ?_;conv in(occs:=*)F222=>all_goals cbv
 simp(disch:=try exact zD)[F222];refine jP (vs:=[.int .i64 n,.sl none true 0 []]) zS rfl (j7n (L:=[]) ?_ H B (.inl ⟨none,true,rfl⟩) (λz c=>by cases c) zS) ?_;simp;rintro v1 U K b0 ⟨G,ut,uf,ue,tu,fu,T,rfl,J,p,b5,hT,Q,v⟩;simp only at J Q v;simp(disch:=try exact zD)[D,m,d];refine jP (vs:=[.ptr (2*G+1) G 0]) zS rfl (sv273 (n:=n) (r:=edB []) (J.keep (λx _ _=>?_) ?_) ?_ p H B (λb _=>⟨(Yw (n:=n) (L:=[]) (λz c=>by cases c) b).1,λa _=>(Yw (n:=n) (L:=[]) (λz c=>by cases c) b).2 a⟩)) ?_;simp
 ·first|omega|(simp;done)|(simp;omega)
 ·first|omega|(simp;done)|(simp;omega)
 rintro v2 M O P ⟨I,j,W,rfl,a0,e,N⟩;simp only at e;have f:=e.o;rw[fe,aP]at f;have S:=e.r;have x1:=jp6 (l:=2*I+1) (u:=I) (kk:=.i64) F;have x2:=jkk (l:=j) (i:=t) zO;have X:=e.s t zO;have ls:=e.rs _ (au (show t<j.length by omega));have ws:=N t F;simp(disch:=try exact zD)[x1,x2,j0,f];obtain⟨y,k⟩:=numR_intsV (yq (yp (W t)));refine jW (vs:=[.ptr (2*j[t]+1) j[t] 0]) zS rfl rfl (jjp (w:=W t) (by simpa using X) (Off.new zL) zO _ _) ?_;refine XB k λZ add=>?_;simp;refine jor (ns:=[6,7]) (ls:=[.sl none y (yq (yp (W t))).length ((yq (yp (W t))).flatMap yf),.int .i64 0]) (λr h=>⟨W t,ws,y,h⟩) zS rfl zS zS ?_;simp;exact⟨YJ rfl (Xc _ Z y _ _),ja rfl,trivial⟩
section
variable {g:Hist'}{mv rv:V}{kX uX:Nat}{ob:ZO}{ub u1 u3 hi:Nat}{R:List P2}
def evo221 (p:PastO kX uX R u1 u3 hi ob) (J:hi<=ub) (j:∃z,ob kX=some ⟨uX,.cells (mkS g mv rv z)⟩) (D:Off ub kX) (u:0<g.ts.length) (P:g.ts.length<=8) (M:InG g.ts.length R) (I:R.length<=10000) {t:Nat}(y:t<g.ts.length) (tk:Nat->Bool) (base:Nat) :
 ∃v,EvO E 221 [.int .i64 (t:Int),.ptr (2*u1+1) u1 0,.ptr (2*u3+1) u3 0] ob tk base ub v/\Reach g.ts.length R t v:=by
 obtain⟨z,j⟩:=j;have N:=D.ne;have s:=p.a;obtain⟨O,o,c⟩:=p.b;have Q:=p.h;have L:∀m,ub<=m->¬u1=m:=λm K=>by omega
 have B:∀m,ub<=m->¬u3=m:=λm K=>by omega
 refine jhv rfl zQ ?_;conv in(occs:=*)S221=>all_goals cbv
 simp(disch:=try exact zD)[S221,j0,s,o,j,N,mkS,ya,yl,yj,L,B];have f:∀q w e add d,(w<2^g.ts.length/\∀a,a<g.ts.length->w.testBit a=war (edB R) g.ts.length t a)->d.df=[]->d.tm 4=.sl e q (yq (yp w)).length ((yq (yp w)).flatMap yf)->add=add->Ws [.t 4] (Reach g.ts.length R t) .ret d:=λq w e _ d i hd h4 (_:()=())=>
  slE (t:=e) (nl:=q) (k:=(yq (yp w)).length) (cs:=(yq (yp w)).flatMap yf) (λr h=>⟨w,i,q,h⟩) hd h4
 rcases c with⟨rfl,rfl⟩|c;obtain⟨q,n,w,i,nl,l⟩:=ev222n u zO y;refine jL n zS rfl zS ?_;refine jxk l λe add=>?_
 simp;exact f nl w e () _ i zS zS rfl
 ·have G:=EdV.toA (.inr c) J;obtain⟨x,rfl,_⟩:=c;refine j3w (vs:=[.int .i64 g.ts.length,.int .i64 t,.osl (2*x+1) x 0 R.length 2]) zS rfl rfl (evo222 u zO (G.up (λH _=>by simp) ?_) M I y _ _) λq F=>?_
  ·first|omega|(simp;done)|(simp;omega)
  obtain⟨w,i,nl,l⟩:=F;refine jxk l λe add=>?_;simp;exact f nl w e () _ i zS zS rfl
end
section
variable {g:Hist'}{M:List Int}{mn:Bool}{rt:Option (Nat × Nat)}{rn:Bool}{kX uX:Nat}{ob:ZO}{ub u1 u2 u3 u5 hi:Nat}{R:List P2}
def evo171 (I:PastO kX uX R u1 u3 hi ob) (D:hi<=ub) (s:ob (2*u5+1)=some ⟨u5,.cells [.fn (.func 221) [] [.ptr (2*u1+1) u1 0,.ptr (2*u3+1) u3 0]]⟩) (p:ob (2*u2+1)=some ⟨u2,.cells [.ptr kX uX 0]⟩) (L:u5<ub) (N:u2<ub)
 (q:∃n,ob kX=some ⟨uX,.cells (mkS g (yl mn yf M) (rdV rt rn (yi g)) n)⟩) (o:Off ub kX) (z:g.ts.length<=8) (J:InG g.ts.length R) (B:R.length<=10000) {i:Nat}(hi:i<(yi g).length) (tk:Nat->Bool) (base:Nat) :
 ∃v,EvO E 171 [.int .i64 (i:Int),.ptr (2*u5+1) u5 0,.ptr (2*u2+1) u2 0] ob tk base ub v/\Reach g.ts.length R ((yi g).getD i (0,0)).1.toNat v:=by
 obtain⟨n,c⟩:=id q;have O:=o.ne;have K:∀m,ub<=m->¬u5=m:=λm G=>by omega
 have P:∀m,ub<=m->¬u2=m:=λm G=>by omega
 have d:=JS jU rt rn (yi g) .i64 hi;obtain⟨a,l,_,j⟩:=jej hi;have b:((yi g).flatMap jE)[i*2]? = some (.int .i64 (a:Int)):=by
  have:=jZ jU (yi g) hi (by decide:0<2);rw[bp]at this;rw[this];have e:(yi g).getD i (0,0)=(yi g)[i]:=by simp[am,aa hi]
  rw[e]at l;simp[jE,l]
 rw[l,aX];refine jhv rfl zQ ?_;conv in(occs:=*)S171=>all_goals cbv
 simp(disch:=try exact zD)[S171,j0,s,p,c,mkS,ya,yl,rdV,d,b];refine jsf (f:=221) (first:=[]) (captured:=[.ptr (2*u1+1) u1 0,.ptr (2*u3+1) u3 0]) (vs:=[.int .i64 a,.ptr (2*u1+1) u1 0,.ptr (2*u3+1) u3 0]) zS zS rfl rfl (evo221 (mv:=yl mn yf M) (rv:=rdV rt rn (yi g)) (I.keep (λu _ _=>by simp) D) ?_ ?_ (o.up ?_) zO z J B j _ _) λv H=>?_
 ·first|omega|(simp;done)|(simp;omega)
 exact⟨n,by simpa using c⟩
 ·first|omega|(simp;done)|(simp;omega)
 obtain⟨w,x,nl,F⟩:=H;refine XB F λy add=>?_;simp;exact slE (t:=y) (nl:=nl) (k:=(yq (yp w)).length) (cs:=(yq (yp w)).flatMap yf) (λr h=>⟨w,x,nl,h⟩) zS zS
def rcQ (g:Hist') (M:List Int) (i k:Nat):Bool:=((yi g).getD k (0,0)).1==((yi g).getD i (0,0)).1&&(decide (((yi g).getD k (0,0)).2<((yi g).getD i (0,0)).2)&&decide (0<=M.getD k 0))
def rcS (g:Hist') (M:List Int) (i n:Nat):List Int:=((List.range n).filter (rcQ g M i)).map λk=>M.getD k 0
def j2s (g:Hist') (M:List Int) (i n:Nat):rcS g M i (n+1)=rcS g M i n++if rcQ g M i n then [M.getD n 0] else []:=by unfold rcS;rw[dN,cl,bA];congr 1;cases h:rcQ g M i n<;>simp[h]
def jxs (g:Hist') (M:List Int) (i n:Nat):(rcS g M i n).length<=n:=by unfold rcS;rw[bm];exact bL (cg _ _) zS
def evo172 (hm:Xl g M=true) (h2:ob (2*u2+1)=some ⟨u2,.cells [.ptr kX uX 0]⟩) (l2:u2<ub) (hX:∃lv,ob kX=some ⟨uX,.cells (mkS g (yl mn yf M) (rdV rt rn (yi g)) lv)⟩) (o:Off ub kX) (hR:(yi g).length<=1000) {i:Nat}(hi:i<(yi g).length) (tk:Nat->Bool) (base:Nat) :
 EvO E 172 [.int .i64 (i:Int),.ptr (2*u2+1) u2 0] ob tk base ub (jk7 (rcS g M i (yi g).length)):=by
 obtain⟨lv,hX⟩:=hX;have c9:=XE hm;have oX:=o.ne;have n2:∀m,ub<=m->¬u2=m:=λm hm=>by omega
 have Z:∀{k:Nat}(h:k<(yi g).length),((yi g).flatMap jE)[k*2]? = some (.int .i64 ((yi g).getD k (0,0)).1)/\((yi g).flatMap jE)[k*2+1]? = some (.int .i64 ((yi g).getD k (0,0)).2):=fun {k} h=>by
  have e:(yi g).getD k (0,0)=(yi g)[k]:=by simp[am,aa h]
  have a1:=jZ jU (yi g) h (by decide:0<2);have a2:=jZ jU (yi g) h (by decide:1<2);rw[bp]at a1;rw[a1,a2,e];exact⟨rfl,rfl⟩
 have B:=JS jU rt rn (yi g) .i64 hi;obtain⟨S,f2⟩:=Z hi;refine J1 rfl ?_;conv in(occs:=*)S172=>all_goals cbv
 simp(disch:=try exact zD)[S172,j0,h2,hX,mkS,ya,yl,rdV];refine jg λy c=>?_;have g0:y.tm 0=.int .i64 i:=by rw[c];simp
 have g1:y.tm 1=.ptr (2*u2+1) u2 0:=by rw[c];simp
 have g4:y.tm 4=.sl none true 0 []:=by rw[c];simp
 have c6:y.tm 10=rdV rt rn (yi g):=by rw[c];simp[rdV]
 have b7:y.tm 11=.int .i64 (yi g).length:=by rw[c];simp
 have b5:y.tm 12=.int .i64 0:=by rw[c];simp
 have gd:y.df=[]:=by rw[c];simp
 have gr:y.ro=ub:=by rw[c];simp
 have gn:ub<=y.nx:=by rw[c];first|omega|(simp;done)|(simp;omega)
 have go:∀a,Off ub a->y.ob a=ob a:=λa o=>by rw[c];simp
 clear c;obtain⟨P,N⟩:∃P:Nat->Nat->Prop,P=λhi u=>ub<=u/\u<hi:=⟨_,rfl⟩;obtain⟨J,hJ⟩:∃J:Nat->St->Prop,J=λk s=>s.tm 12=.int .i64 k/\IntsO s.ob (P s.nx) (rcS g M i k) (s.tm 4)/\ub<=s.nx/\∀a,Off ub a->s.ob a=ob a:=⟨_,rfl⟩;refine j9 [(4,6),(12,61)] (yi g).length J rfl rfl (by rw[hJ];exact⟨by simpa using b5,.inl ⟨by simp[rcS],g4⟩,gn,go⟩) ?_;clear b5 g4 gn go;intro k s c7 a0 f;rw[hJ]at a0;obtain⟨w,sI,sn,so⟩:=a0;have s0:=(f.t 0 zS).trans g0;have s1:=(f.t 1 zS).trans g1;have b9:=(f.t 10 zS).trans c6;have U:=(f.t 11 zS).trans b7;have sd:=f.d.trans gd;have sr:=f.r.trans gr;clear f;by_cases j:k<(yi g).length;have D:=jb j zO;have L:k<M.length:=zO;have b8:=JS jU rt rn (yi g) .i64 j;obtain⟨k1,k2⟩:=Z j;have b6:=λob=>WP (yi g) ob j;have T:=JS j8 none mn M .i64 L;have b0:=jt M L;have b:=j2s g M i k;have c8:=jxs g M i k;have F:s.ob (2*u2+1)=_:=(so _ (Off.new l2)).trans h2;have I:s.ob kX=_:=(so _ o).trans hX;have H:=(o.up sn).ne;have G:∀m,s.nx<=m->¬u2=m:=λm hm=>by omega
 have c5:M.getD k 0=M[k]:=by simp[am,aa L]
 have c0:(yi g).getD k (0,0)=(yi g)[k]:=by simp[am,aa j]
 unfold rcQ at b;rw[c5,c0]at b;generalize (yi g).getD i (0,0)=p at *;generalize (yi g)[k]=q at *;obtain⟨pa,pb⟩:=p;obtain⟨qa,qb⟩:=q;simp only at b6 b S f2;simp(disch:=try exact zD)[w,U,b9,s1,j,b8,b6,rdV,j0,j6,yj];refine⟨zO,?_⟩;have skip:rcS g M i (k+1)=rcS g M i k->∀Q:St,Q.tm 12=.int .i64 ((k:Int)+1)->Q.tm 4=s.tm 4->s.nx<=Q.nx->(∀a,Off s.nx a->Q.ob a=s.ob a)->J (k+1) Q:=λe Q h1 h2 h3 h4=>by rw[hJ];refine⟨by simpa using h1,?_,zO,λa o=>(h4 a (o.up sn)).trans (so a o)⟩;rw[e,h2];exact sI.frame (λu n=>by rw[N]at n;exact h4 _ (Off.new n.2)) λu n=>by rw[N]at n ⊢;exact⟨n.1,by have:=n.2;omega⟩
 cases K:(qa==pa);rw[K,bE,za zQ,aP]at b;simp(disch:=try exact zD)[w,s0,j0,F,I,mkS,ya,H,G,rdV,yl,B,S,K,D,j];exact skip b _ zS zS zL λa o=>by simp(disch:=try exact zD)[o.ne]
 by_cases O:qb<pb;by_cases c3:0<=M[k];rw[K,zi O,zi c3,bF,bF,zb rfl]at b;simp(disch:=try exact zD)[s1,s0,j0,yj,F,I,mkS,ya,H,G,rdV,yl,B,S,f2,K,O,c3,T,b0];refine JL (cs:=[.int .i64 M[k]]) (by simp[j6]) rfl rfl ?_;simp;refine jat (p:=P s.nx) (l:=rcS g M i k) (z:=M[k]) (v:=s.tm 4) (X:=2*(s.nx+3136)+1) (uX:=s.nx+3136) zS (sI.frame (λu n=>?_) λ_ h=>h) (by simp[aI]) (by simp[aI]) (λu n=>by rw[N]at n;simp[sr];exact n.1) zO λkl c4=>?_;rw[N]at n;have:∀m,s.nx<=m->¬u=m:=λm hm=>by omega
 simp(disch:=try exact zD)[yj,this];simp(disch:=try exact zD)[w,D,j];rw[hJ];refine⟨zS,.inr ⟨by rw[b];simp,s.nx+3200,by rw[b];simp[aI],by rw[b];simp[aI,jhq],?_⟩,zL,λa o=>?_⟩;rw[N];simp;omega;have h3:=(o.up sn).ne;have h4:kl.any (Nat.beq a)=false:=by rw[gU];intro x hx hb;obtain⟨u,n,rfl⟩:=c4 x hx;rw[N]at n;exact o u n.1 (bo hb)
 simp(disch:=try exact zD)[jhq,h3,h4];exact so a o;rw[K,zi O,decide_eq_false c3,bF,bF,za zQ,aP]at b;simp(disch:=try exact zD)[w,s1,s0,j0,yj,F,I,mkS,ya,H,G,rdV,yl,B,S,f2,K,O,c3,T,b0,D,j];exact skip b _ zS zS zL λa o=>by simp(disch:=try exact zD)[o.ne]
 rw[K,decide_eq_false O,bE,dz,za zQ,aP]at b;simp(disch:=try exact zD)[w,s1,s0,j0,yj,F,I,mkS,ya,H,G,rdV,yl,B,S,f2,K,O,D,j];exact skip b _ zS zS zL λa o=>by simp(disch:=try exact zD)[o.ne]
 have:k=(yi g).length:=zO;subst this;simp(disch:=try exact zD)[w,U];exact Wr (by simp[sd]) zS (sI.frame (λu n=>by simp) λu n=>n) (λu n=>by rw[N]at n;simp[sr];exact n.1)
end
end Go.Pv.T
