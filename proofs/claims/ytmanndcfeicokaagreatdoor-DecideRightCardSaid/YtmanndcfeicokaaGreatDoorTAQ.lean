/- Part. -/
import Derived.Test.YtmanndcfeicokaaGreatDoorTAP
set_option maxRecDepth 100000
set_option maxHeartbeats 8000000
set_option linter.all false
namespace Go.Pv.T
open Go Go.Pv
def OnP (c:OnC) (n:Nat):Prop:=∀(Yf:YF) (w:Nat) (done vis:List Nat) (ob:ZO) (tk:Nat->Bool) (ro base ub:Nat),OnS c w done vis false ob ub->done.length+n=(yB c.g).length->w<256->w ∉ vis->c.n1<=ub->ro<=c.n1->ro<=c.N.uF->ro<=c.N.uV->ro<=c.uS ->
 ∃r,EvS E Yf.y 150 [.ptr c.N.kF c.N.uF 0,.ptr (2*c.uS+1) c.uS 0] ob tk ro base ub r/\OnR c w done (onM (nxM c.g c.M) (yB c.g) c.most n w done vis) ob ub r
def jyb {nx:Nat->Nat->Bool}{C:List Nat}{most:Int}{w:Nat}{done vis:List Nat}(h:(vis.length:Int)=most):∀n,onM nx C most n w done vis=(none,true,vis)
 |0=>by rw[onM,zb h]
 |n+1=>by rw[onM,zb h]
def jnf {F:Env}{Yf:YF}{lo hi t ub:Nat}{ov:V}{done:List Nat}{s x:A}{st:St}{K:St->Nat->Prop}{d:Option Nat}(f:ye F st.tm s=ov) (l:OrdV st.ob lo hi ov done) (j:st.ro<=lo) (g:jF st.ob 1 (ye F st.tm x)=some [.int .i64 (t:Int)]) (m:done.length<=1000)
 (h:∀e:List Nat,(e=[]\/∃u,lo<=u/\u<hi/\e=[2*u+1])->QW K st d ub { v:=.osl (2*ub+1) ub 0 (done.length+1) 1,obs:=[(2*ub+1,⟨ub,.cells ((yq (done++[t])).flatMap yf)⟩)],kill:=e }):jB F Yf ⟨d,.append true 1 8 s x,none,true⟩ st ub K:=by
 rcases l with⟨rfl,rfl⟩|⟨u,cs,rfl,b,k,i⟩;refine X8 f g zS zQ rfl zS zS ?_;simpa[yf,jI,yq] using h [] (.inl rfl)
 ·have a:((yq done).flatMap yf).length=done.length:=by rw[j4 j8,JY];omega
  refine Xm (cs:=(yq done).flatMap yf++cs) f g b zS zO (by rw[aw];omega) zQ rfl zP zP ?_;have:=h [2*u+1] (.inr ⟨u,k,i,rfl⟩);rw[bB,dD a];simpa[yf,jI,yq] using this
section
variable {c:OnC}
def OnS.upd {w:Nat}{done vis b:List Nat}{sp:Bool}{ob ob':ZO}{ub g:Nat}(h:OnS c w done vis sp ob ub) (i:c.Ok) (t:c.n1<=ub) (n:ub<=g) (j:∀a,Off ub a->a≠c.N.kV->ob' a=ob a) (p:∃k,ob' c.N.kV=some ⟨c.N.uV,.mp k (MK .u64 jh1 (joi b))⟩):OnS c w done b sp ob' g:=by obtain⟨ov,r,q⟩:=h.f;have m:=i.s;refine⟨⟨ov,(j _ (i.f.up zO) i.fv).trans r,q.frame (λu x l=>j _ (Off.new l) λe=>i.v u zO e.symm) n⟩,h.d.keep λa h=>j _ (h.o.up zO) h.v,p,(j _ (Off.new zO) λe=>i.v c.uS m.1 e.symm).trans h.s⟩
def OnS.keep {w:Nat}{done vis:List Nat}{sp:Bool}{ob ob':ZO}{ub b:Nat}(h:OnS c w done vis sp ob ub) (e:c.Ok) (i:c.n1<=ub) (g:ub<=b) (f:∀a,Off ub a->ob' a=ob a):OnS c w done vis sp ob' b:=by obtain⟨d,j⟩:=h.v;have k:=e.s;exact h.upd e i g (λa h _=>f a h) ⟨d,(f _ (e.v.up zO)).trans j⟩
def jya (z:c.Ok) (n:Nat) (ih:∀k,n=k+1->OnP c k):OnP c n:=by
 intro Yf w done vis ob tk ro h7 ub hS i0 hw c8 c0 d1 b0 d4 g8;obtain⟨ov,Z,hO⟩:=hS.f;obtain⟨ver,hV⟩:=hS.v;have K:=hS.s;have gS:=z.s;have oF:=(z.f.up (show c.n0<=ub by omega)).ne;have oV:=(z.v.up (show c.n0<=ub by omega)).ne;have nS:∀m,ub<=m->¬c.uS=m:=λm hm=>by omega
 have fv:=z.fv;have fs:c.N.kF≠2*c.uS+1:=z.f c.uS gS.1;have vs:c.N.kV≠2*c.uS+1:=z.v c.uS gS.1;have g7:(joi vis).length=vis.length:=by simp[joi]
 refine JI rfl zQ ?_;show wpC E Yf S150.body _ (Jw S150.res _);conv in(occs:=*)S150=>all_goals cbv
 simp(disch:=try exact zD)[S150,j0,Z,fdC,jY,hV,g7];by_cases H:(vis.length:Int)=c.most
 ·simp(disch:=try exact zD)[H,j0,Z,fdC,j6];refine⟨b0,Jj zS ?_⟩;rw[jyb H];refine⟨zS,by simp;omega,λj p x B D=>by simp[x],w,done,⟨⟨ov,by simp[fdC],hO.frame (λu x B=>?_) zP⟩,hS.d.keep λj p=>by simp[p.f],⟨ver,by simp[dA fv,hV]⟩,by simp[dA fs,K]⟩,λl h=>(by cases h),λ_ h=>(by cases h)⟩;have:2*u+1≠c.N.kF:=λe=>z.f u zO e.symm;simp[this]
 have b5:((vis.length:Int)==c.most)=false:=by simpa using H
 have g3:vis.contains w=false:=by simpa using c8
 simp(disch:=try exact zD)[b5,j0,Z,fdC];refine jcw (vs:=[.ptr (2*c.uS+1) c.uS 0]) zS rfl rfl (j6r (w:=w) (zU K) (Off.new zL) zO _ _) (JT rfl) ?_;simp;rw[jqs (vis:=vis) (y:=w) (by simp[jY,hV]),g3,za zQ];simp[show IntKind.i64.wrap 1=1 from rfl];refine ju4 (q:=.u64) (f:=jh1) (a:=1) (ver:=ver) (k:=(w:Int)) (l:=c.N.kV) (u:=c.N.uV) (joi vis) zS zS (by simp[jh1,V.strip]) (by simp[hV]) (zU d4) ?_;rw[j7e c8];simp;have b7:∀i2:ZO,QV ov=some (.int .i64 (done.length:Nat)):=λ_=>by rcases hO with⟨rfl,rfl⟩|⟨u,cs,rfl,_⟩<;>rfl
 have i6:=jff c.g;simp(disch:=try exact zD)[j0,Z,fdC,OnC.al,fv,b7 ob];by_cases h0:n=0
 ·subst h0;have e0:(done.length:Int)=(ym c.g).length:=zO;simp[e0];refine Jj zS ?_;rw[onM,za H];refine⟨zS,zL,λj p x B D=>by simp[B],w,done,hS.upd z c0 zL (λj p h=>by simp[h]) ⟨ver+1,zS⟩,λl h=>by cases h;rfl,λh=>by cases h⟩
 ·obtain⟨k,rfl⟩:∃k,n=k+1:=⟨n-1,zO⟩;have e0:((done.length:Int)==(ym c.g).length)=false:=by simp;omega
  simp[e0];simp(disch:=try exact zD)[j0,Z,fdC,OnC.al,fv];refine jg λX F=>?_;have g0:X.tm 0=.ptr c.N.kF c.N.uF 0:=by rw[F];simp
  have g1:X.tm 1=.ptr (2*c.uS+1) c.uS 0:=by rw[F];simp
  have g9:X.tm 42=.sl c.tc (ym c.g).isEmpty (ym c.g).length ((ym c.g).flatMap yf):=by rw[F];simp
  have f0:X.tm 43=.int .i64 (ym c.g).length:=by rw[F];simp
  have f9:X.tm 44=.int .i64 0:=by rw[F];simp
  have gd:X.df=[]:=by rw[F];simp
  have gr:X.ro=ro:=by rw[F];simp
  have gn:ub<=X.nx:=by rw[F];simp;omega
  have gO:OnS c w done (vis++[w]) false X.ob X.nx:=hS.upd z c0 gn (λj p h=>by rw[F];simp[h]) ⟨ver+1,by rw[F];simp⟩;have gR:c.Rest ob X.ob:=λj p x B D=>by rw[F];simp[B]
  clear F;obtain⟨R,hR⟩:∃R,R=loopM (onM (nxM c.g c.M) (yB c.g) c.most k) (nxM c.g c.M) w done (yB c.g) (vis++[w]):=⟨_,rfl⟩;have c1:onM (nxM c.g c.M) (yB c.g) c.most (k+1) w done vis=R:=by rw[onM,za H,hR]
  rw[c1];obtain⟨J,hJ⟩:∃J:Nat->St->Prop,J=λi s=>s.tm 44=.int .i64 i/\(∃vis,OnS c w done vis false s.ob s.nx/\R=loopM (onM (nxM c.g c.M) (yB c.g) c.most k) (nxM c.g c.M) w done ((yB c.g).drop i) vis)/\c.Rest ob s.ob/\ub<=s.nx:=⟨_,rfl⟩;refine j9 [(4,4),(6,6),(44,108)] (ym c.g).length J rfl rfl (by rw[hJ];exact⟨zU f9,⟨_,gO,hR⟩,gR,gn⟩) ?_;clear gO gR gn Z hV hO hS K hR c1 b7;intro i s hi c5 f;rw[hJ]at c5;obtain⟨P,⟨vis,sS,sR⟩,sw,sn⟩:=c5;have s0:s.tm 0=.ptr c.N.kF c.N.uF 0:=by rw[f.t 0 zS];simp[g0]
  have s1:s.tm 1=.ptr (2*c.uS+1) c.uS 0:=by rw[f.t 1 zS];simp[g1]
  have e8:s.tm 42=.sl c.tc (ym c.g).isEmpty (ym c.g).length ((ym c.g).flatMap yf):=by rw[f.t 42 zS];simp[g9]
  have c3:s.tm 43=.int .i64 (ym c.g).length:=by rw[f.t 43 zS];simp[f0]
  have sd:s.df=[]:=by rw[f.d];simp[gd]
  have sr:s.ro=ro:=by rw[f.r];simp[gr]
  clear f;by_cases I:i<(ym c.g).length
  ·have T:i<(yB c.g).length:=zO;obtain⟨t,ht⟩:∃t,t=(yB c.g)[i]:=⟨_,rfl⟩;have d2:t∈yB c.g:=ht▸au T;have g2:=cl_lt z d2;have h4:(ym c.g)[i]=(t:Int):=by
    have x:(ym c.g)[i]? = (yq (yB c.g))[i]?:=by rw[jc4]
    rw[aa I]at x;unfold yq at x;rw[aV,aa T]at x;simpa[ht] using x
   have i4:=z.l;have h6:=YM c.g;have a0:=jb I zO;have d7:=JS j8 c.tc (ym c.g).isEmpty (ym c.g) .i64 I;have c4:=jt (ym c.g) I;rw[h4]at c4;rw[aR T,<- ht,loopM]at sR;obtain⟨ov,Z,hO⟩:=sS.f;obtain⟨ver,hV⟩:=sS.v;have K:=sS.s;simp(disch:=try exact zD)[P,c3,e8,s1,I,d7,c4];refine jcw (vs:=[.ptr (2*c.uS+1) c.uS 0,.int .i64 t]) zS rfl rfl (jg9 (w:=w) (n:=t) (zU K) (Off.new zL) zO zO _ _) (JT rfl) ?_;have b8:=j8x z.m z.l w t;have G:(w.testBit t||(!nxM c.g c.M w t||vis.contains (w|||1<<<t)))=true->R=loopM (onM (nxM c.g c.M) (yB c.g) c.most k) (nxM c.g c.M) w done ((yB c.g).drop (i+1)) vis:=λh=>by rw[sR,zb h]
   cases hb:w.testBit t
   ·simp(disch:=try exact zD)[s0,s1];refine jcw (vs:=[.ptr c.N.kF c.N.uF 0,.ptr (2*c.uS+1) c.uS 0,.int .i64 t]) zS rfl rfl (evo212 (g:=c.g) (rv:=c.rv) (al:=c.al) (ov:=ov) (most:=c.most) (sp:=false) (n0:=c.n0) (w:=w) (t:=t) (sS.d.keep λ_ _=>by simp) (zU Z) (z.f.up zL) (zU K) (Off.new zL) zL zO d2 (j5p z t) (jv8 z t) (rds_ok z.m) z.r _ _) (JT rfl) ?_;rw[b8];rw[show jku c.g c.M (λa=>w.testBit a) t=nxM c.g c.M w t from rfl];cases hx:nxM c.g c.M w t;simp(disch:=try exact zD)[P,a0,I];rw[hJ];exact⟨zS,⟨vis,sS.keep z zO zL λj _=>by simp,G (by simp[hx])⟩,λj p x B D=>by simpa using sw j p x B D,zL⟩
    ·simp(disch:=try exact zD)[s0,s1,j0,Z,fdC];refine jcw (vs:=[.ptr (2*c.uS+1) c.uS 0]) zS rfl rfl (j6r (w:=w) (zU K) (Off.new zL) zO _ _) (JT rfl) ?_;have e1:=jj6 (n:=t) zO;have e2:=jfm (a:=w) (b:=1<<<t) zO (jru zO);generalize g5:1<<<t=p1 at e1 e2 G sR;generalize f7:w|||p1=p2 at e2 G sR;simp(disch:=try exact zD)[e1,e2];rw[jqs (vis:=vis) (y:=p2) (by simp[jY,hV])];cases hv:vis.contains p2
     ·have c7:(∀l sp v,onM (nxM c.g c.M) (yB c.g) c.most k p2 (done++[t]) vis=(some l,sp,v)->R=(some l,sp,v))/\(∀v,onM (nxM c.g c.M) (yB c.g) c.most k p2 (done++[t]) vis=(none,true,v)->R=(none,true,v)) /\
       ∀v,onM (nxM c.g c.M) (yB c.g) c.most k p2 (done++[t]) vis=(none,false,v)->R=loopM (onM (nxM c.g c.M) (yB c.g) c.most k) (nxM c.g c.M) w done ((yB c.g).drop (i+1)) v:=by
       rw[sR,za (by rw[hb,hx,hv];simp)]
       exact⟨λl sp v h=>by rw[h],λv h=>by rw[h],λv h=>by rw[h]⟩
      have S:w|||1<<<t=p2:=by rw[g5];exact f7
      simp;refine jP (vs:=[.ptr (2*c.uS+1) c.uS 0,.int .i64 t]) (by simp[s1]) rfl (jts (w:=w) (zU K) (Off.new zL) (by first|omega|(simp[sr];omega)) zO zO) ?_;rintro v1 c6 h8 O ⟨r1,r2,r3⟩;simp only at r1 r2 r3;rw[S]at r2;have q1:s.nx<=O:=by first|omega|(simp at r3;omega)
      have q2:∀j,Off s.nx j->c6 j=if j=2*c.uS+1 then some ⟨c.uS,.cells (yu p2)⟩ else s.ob j:=λj p=>by rw[r2 j (p.up zL)];simp
      clear r1 r2 r3;have d0:c6 c.N.kF=some ⟨c.N.uF,.cells (fdC c.g c.N c.rv c.al ov c.most false)⟩:=by rw[q2 _ (z.f.up zO),za fs];exact Z
      simp(disch:=try exact zD)[s0,j0,d0,fdC];refine JL (cs:=[.int .i64 (t:Int)]) (by simp[j6]) rfl rfl ?_;simp;refine jnf (lo:=c.n1) (hi:=s.nx) (done:=done) (t:=t) (ov:=ov) zS (hO.frame (λu x B=>?_) zK) (by simpa[sr] using d1) (by simp[jF,j0]) zO λkl d3=>?_;have D:∀m,s.nx<=m->¬u=m:=λm hm=>by omega
      simp(disch:=try exact zD)[yj,D];rw[q2 _ (Off.new B),za zO];have e3:kl.any (Nat.beq c.N.kF)=false:=by rcases d3 with rfl|⟨u,x,B,rfl⟩;rfl;simp only[bJ,ce,bI];exact XJ (z.f u zO)
      have b6:∀j,Off c.n1 j->kl.any (Nat.beq j)=false:=λj p=>by rcases d3 with rfl|⟨u,x,B,rfl⟩;rfl;simp only[bJ,ce,bI];exact XJ (p u x)
      generalize e9:List.flatMap yf (yq (done++[t]))=cs9;simp(disch:=try exact zD)[j0,d0,fdC,e3,j6,jK,oF];refine⟨by simpa[sr] using b0,?_⟩;simp(disch:=try exact zD)[s0,s1];refine jP (vs:=[.ptr c.N.kF c.N.uF 0,.ptr (2*c.uS+1) c.uS 0]) zS rfl (ih k rfl Yf p2 (done++[t]) vis _ _ _ _ _ ?_ zP ?_ (zU hv) zL (by simpa[sr] using d1) (by simpa[sr] using b0) (by simpa[sr] using d4) (by simpa[sr] using g8)) ?_
      ·have e6:¬2*(O+448)+1=c.N.kF:=λe=>oF (O+448) zO e.symm;refine⟨⟨.osl (2*(O+448)+1) (O+448) 0 (done.length+1) 1,by simp[fdC,aI],.inr ⟨O+448,[],zS,?_,zO,zL⟩⟩,sS.d.keep λj p=>?_,⟨ver,?_⟩,?_⟩;simp(disch:=try exact zD)[jK,aI,e6,e9];obtain⟨Q,f2,f3,f4⟩:=z.fix p;have f5:=(Q.up (show c.n1<=ub by omega)).ne;simp(disch:=try exact zD)[jK,f2,f5,b6 j Q];rw[q2 j (Q.up zO),za f4];have Q:=z.v.up (show c.n0<=c.n1 by omega);have f5:=(Q.up (show c.n1<=ub by omega)).ne;simp(disch:=try exact zD)[jK,dA fv,f5,b6 _ Q];rw[q2 _ (Q.up zO),za vs];exact hV;have Q:Off c.n1 (2*c.uS+1):=Off.new gS.2;have f5:=(Q.up (show c.n1<=ub by omega)).ne;simp(disch:=try exact zD)[jK,dA fs,f5,b6 _ Q,yj,nS];rw[q2 _ (Q.up zO),zb rfl]
      have:w|||1<<<t<2^8:=dP hw (by rw[dj];exact em zQ g2);rw[S]at this;exact this
      ·rintro v2 c2 i5 b9 ⟨r1,r2,r3,w',U,r4,r5,r6⟩;simp only at r1 r2 r3 r4;have q3:O<=b9:=by first|omega|(simp at r2;omega)
       have L:c.Rest ob c2:=λj p x B D=>by rw[r3 j p x B D,<- sw j p x B D];have f5:=(p.up (show c.n1<=ub by omega)).ne;simp(disch:=try exact zD)[jK,x,f5,b6 j p];rw[q2 j (p.up zO),za D]
       clear r2 r3;rcases d5:onM (nxM c.g c.M) (yB c.g) c.most k p2 (done++[t]) vis with⟨o,sp,vv⟩;rw[d5]at r1 r4 r5 r6 c7;obtain⟨x,B,D⟩:=c7;obtain⟨i1,d6,d8⟩:=r4.f;cases o with
       |some l=>rw[r1];simp;refine Jj (by simp[sd]) ?_;rw[x l sp vv rfl];exact⟨zS,zL,λj p x B D=>by simpa using L j p x B D,w',U,r4.keep z zO zL λj _=>by simp,r5,λh=>by cases h⟩
       |none=>
        rw[r1];cases sp with
        |true=>simp(disch:=try exact zD)[s0,j0,d6,fdC];refine Jj (by simp[sd]) ?_;rw[B vv rfl];exact⟨zS,zL,λj p x B D=>by simpa using L j p x B D,w',U,r4.keep z zO zL λj _=>by simp,λl h=>(by cases h),λ_ h=>by cases h⟩
        |false=>
         obtain⟨rfl,rfl⟩:=r6 rfl rfl;rcases d8 with⟨_,h⟩|⟨u,cs,rfl,e5,g6,h9⟩;exact zf h zS;have g4:IntKind.i64.wrap (done.length:Int)=(done.length:Int):=jk zO zO;have e4:Y5 1 none (some (.int .i64 (done.length:Int))) (.osl (2*u+1) u 0 (done.length+1) 1)=some (.osl (2*u+1) u 0 done.length 1):=by have x:(done.length:Int)<=(done.length:Int)+1:=zO;simp[Y5,Js,x]
         simp(disch:=try exact zD)[s0,j0,d6,fdC,g4,e4,j6];refine⟨by simpa[sr] using b0,?_⟩;simp(disch:=try exact zD)[s1];have f8:=r4.s;refine jP (vs:=[.ptr (2*c.uS+1) c.uS 0,.int .i64 t]) zS rfl (sv213 (w:=w') (by simpa[dA fs] using f8) (Off.new zL) (by first|omega|(simp[sr];omega)) zO) ?_;rintro v3 e7 i3 h5 ⟨r7,r8,r9⟩;simp only at r7 r8 r9;have q4:b9<=h5:=by first|omega|(simp at r9;omega)
         have d9:jvj w' t=w:=by rw[<- S];exact j5b zO zO hb
         rw[d9]at r8;have q5:∀j,Off b9 j->e7 j=if j=2*c.uS+1 then some ⟨c.uS,.cells (yu w)⟩ else if j=c.N.kF then some ⟨c.N.uF,.cells (fdC c.g c.N c.rv c.al (.osl (2*u+1) u 0 done.length 1) c.most false)⟩ else c2 j:=λj p=>by rw[r8 j (p.up zL)];simp[fdC]
         clear r7 r8 r9;simp[P,a0,I];rw[hJ];obtain⟨c9,f6⟩:=r4.v;refine⟨zS,⟨vv,⟨⟨.osl (2*u+1) u 0 done.length 1,?_,.inr ⟨u,.int .i64 (t:Int)::cs,rfl,?_,g6,zL⟩⟩,r4.d.keep λj p=>?_,⟨c9,?_⟩,?_⟩,D vv rfl⟩,λj p x B D=>?_,zL⟩;simp;rw[q5 _ (z.f.up zO),za fs,zb rfl];simp;rw[q5 _ (Off.new zO),za zO,za (λe=>z.f u zO e.symm),e5];simp[yq,yf];obtain⟨Q,f2,f3,f4⟩:=z.fix p;simp;rw[q5 j (Q.up zO),za f4,za f2];simp;rw[q5 _ (z.v.up zO),za vs,za (dA fv)];exact f6;simp;rw[q5 _ (Off.new zO),zb rfl];simp;rw[q5 j (p.up zO),za D,za x];exact L j p x B D
     simp[P,a0,I];rw[hJ];exact⟨zS,⟨vis,sS.keep z zO zL λj _=>by simp,G (by rw[hv];simp)⟩,λj p x B D=>by simpa using sw j p x B D,zL⟩
   simp(disch:=try exact zD)[P,a0,I];rw[hJ];exact⟨zS,⟨vis,sS.keep z zO zL λj _=>by simp,G (by simp[hb])⟩,λj p x B D=>by simpa using sw j p x B D,zL⟩
  ·have:i=(ym c.g).length:=zO;subst this;rw[bM zO,loopM]at sR;simp[P,c3];refine Jj (by simp[sd]) ?_;rw[sR];exact⟨zS,zL,λj p x B D=>by simpa using sw j p x B D,w,done,sS.keep z zO zL λj _=>by simp,λl h=>(by cases h),λ_ _=>⟨rfl,rfl⟩⟩
def sv150 (a:c.Ok) (n:Nat):OnP c n:=by
 induction n with
 |zero=>exact jya a 0 λk h=>by omega
 |succ n b=>refine jya a (n+1) λk h=>?_;have:k=n:=zO;exact this▸b
end
def juv:List Int->List Int->Bool
 |a::l,b::m=>if a=b then juv l m else decide (a<b)
 |_,_=>false
def jjf:∀(a b:List Nat),juv (yq a) (yq b)=jy6 a b
 |[],_=>rfl
 |_::_,[]=>rfl
 |x::a,y::b=>by have:=jjf a b;unfold yq at this ⊢;simp only[bc,juv,jy6,this];by_cases h:x=y;simp[h];have:¬(x:Int)=y:=zO;rw[za h,za this];simp
def jit {nx:Nat->Nat->Bool}:∀{L:List Nat}{w:Nat},jhz nx w L=true->L.Nodup/\∀t∈L,w.testBit t=false
 |[],_,_=>⟨dH,λ_ h=>by cases h⟩
 |t::r,w,h=>by
  simp only[jhz,ab,bG]at h;obtain⟨f,_,d⟩:=h;obtain⟨e,i⟩:=jit d;have c:∀a∈r,w.testBit a=false/\¬t=a:=λa b=>by have:=i a b;rw[jjz]at this;simpa using this
  rw[cX];refine⟨⟨λh=>(c t h).2 rfl,e⟩,λa b=>?_⟩;rcases bt.1 b with h|h;exact h▸f;exact(c a h).1
def jlf (C:List Nat):cnt C 0=0:=by simp[cnt]
def jdz {L:List Nat}(h:L.Nodup):(yq L).Nodup:=eL.2 (List.Pairwise.imp (λh e=>h zO) h)
def jy (g:Hist') (M:List Int) (most:Int):R3:=onM (nxM g M) (yB g) most (yB g).length 0 [] []
section
variable {g:Hist'}{M:List Int}{most:Int}
def jvc (c:Xl g M=true) {L:List Nat}(h:Full (nxM g M) (yB g) 0 L):JC g (yq L)=true:=by obtain⟨f,e,i⟩:=h;rw[jcm (Xa c)];rw[jlf]at e;refine QE (jdz (jit i).1) (λx b=>?_) ?_;unfold yq at b;obtain⟨a,d,rfl⟩:=aE.1 b;exact comL_mem.2 ⟨a,rfl,comN_mem.1 (f a d)⟩;have:=jff g;simp only[yq,bm];omega
def QM (g:Hist') (M:List Int) (most:Int):Found (nxM g M) (yB g) 0 [] [] (jy g M most):=jrv (jvo g) (jlc g) _ 0 [] [] (by rw[jlf,bK]) λv h=>by cases h
def jd1 (a:Xl g M=true) {L:List Nat}(h:(jy g M most).1=some L):JC g (yq L)=true:=by obtain⟨_,c,e,b,_⟩:=(QM g M most).yes L h;rw[dq]at e;subst e;exact jvc a b
def jqb (a:Xl g M=true) (c:∀t∈ym g,badH g t=[]) {L:List Nat}(h:(jy g M most).1=some L):JX g 3 M (yq L)=true:=by rw[<- jiu a c (jd1 a h)];obtain⟨_,d,e,b,_⟩:=(QM g M most).yes L h;rw[dq]at e;subst e;exact b.2.2
def jqa (o:Xl g M=true) (m:∀t∈ym g,badH g t=[]) (n:(jy g M most).2.1=false) {O:List Int}(c:JC g O=true) (h:JX g 3 M O=true):∃L,(jy g M most).1=some L/\juv O (yq L)=false:=by
 have a:=Y7 c;have e:yq (O.map Int.toNat)=O:=by unfold yq;rw[dl];refine(dm λx b=>?_).trans (gh _);obtain⟨k,rfl,_⟩:=comL_mem.1 (a.mem_iff.1 b);simp
 have i:Full (nxM g M) (yB g) 0 (O.map Int.toNat):=by refine⟨λt l=>?_,?_,?_⟩;obtain⟨x,b,rfl⟩:=aE.1 l;obtain⟨k,rfl,p⟩:=comL_mem.1 (a.mem_iff.1 b);exact comN_mem.2 (zU p);rw[jlf,bK,bm,a.length_eq,jff];rw[jiu o m (by rw[e];exact c),e];exact h
 cases d:(jy g M most).1 with
 |none=>exact zf i (((QM g M most).no d n).1 _)
 |some L=>obtain⟨_,q,f,_,j⟩:=(QM g M most).yes L d;rw[dq]at f;subst f;refine⟨L,rfl,?_⟩;have:=j _ i;rw[<- jjf,e]at this;exact this
end
def Yy (hold:List Int->Bool) (found:List Int):Nat->List Int->List Int->Bool
 |0,head,_=>if found.isEmpty then !hold head else !hold head || !juv head found
 |n+1,head,left=>Qc (λi=>Yy hold found n (head++[left.getD i 0]) (left.eraseIdx i)) left.length
def QO:∀(l:List Int) (i:Nat) (h:i<l.length),(l[i]::l.eraseIdx i).Perm l
 |x::r,0,_=>by simp
 |x::r,i+1,h=>by have:=QO r i (zU h);simp only[eM,iz];exact(List.Perm.swap x _ _).trans (List.Perm.cons x this)
def jiz {c:List Int->Bool}{b C:List Int}(h:∀O,O.Perm C->c O=true->b≠[]/\juv O b=false):∀(n:Nat) (a left:List Int),left.length=n->(a++left).Perm C->Yy c b n a left=true
 |0,a,left,hl,hp=>by
  have:left=[]:=cz.1 hl;subst this;rw[aP]at hp;rw[Yy];cases j:c a;simp;obtain⟨k,f⟩:=h a hp j;have:b.isEmpty=false:=by cases b with
   |nil=>exact zf rfl k
   |cons=>rfl
  simp[this,f]
 |n+1,a,left,hl,hp=>by
  rw[Yy,andTo_iff];intro i d;have e:left.getD i 0=left[i]:=by simp[am,aa d]
  rw[e];refine jiz h n _ _ (by rw[ir d];omega) (List.Perm.trans ?_ hp);rw[bj];refine eP a ?_;exact QO left i d
def jbi (g:Hist') (M:List Int) (most:Int):List Int×Int×Int :=
 if !jX g then ([],0,4) else if !Xl g M||decide (most<0) then ([],0,2) else
  if (jy g M most).2.1 then ([],(jy g M most).2.2.length,13) else match (jy g M most).1 with
   |none=>([],(jy g M most).2.2.length,3)
   |some l=>(yq l,(jy g M most).2.2.length,0)
def j1f (r:List Int×Int×Int) (v:V):Prop:=∃nl,(nl=true->r.1=[])/\jvy [.sl none nl r.1.length (r.1.flatMap yf),.int .i64 r.2.1,.int .i64 r.2.2] v
def jx2 {st:St}{lo hi:Nat}{ov:V}{done:List Nat}(h:OrdV st.ob lo hi ov done) (j:st.ro<=lo):∃e,(e=true->done=[])/\j5r st ov (.sl none e done.length ((yq done).flatMap yf)):=by
 rcases h with⟨rfl,rfl⟩|⟨u,cs,rfl,d,k,_⟩;exact⟨true,λ_=>rfl,ja rfl⟩
 ·refine⟨false,λh=>(by cases h),YJ rfl λkeep i=>?_⟩;have b:((yq done).flatMap yf).length=done.length:=by rw[j4 j8,JY];omega
  have a:j0 st.ob (2*u+1) u=some ((yq done).flatMap yf++cs):=by simp[j0,d]
  have f:Ja st 6 (.osl (2*u+1) u 0 done.length 1)=some (.sl none false done.length ((yq done).flatMap yf)):=by show((j0 st.ob (2*u+1) u).bind λcs=>if Nat.ble st.ro u=true/\0+done.length*1<=cs.length then (((cs.drop 0).take (done.length*1)).mapM (Ja st 5)).map λc=>V.sl none false done.length c else none)=_;rw[a,ap,zb ⟨bY▸zO,by rw[aw];omega⟩,dy,bB,dD b,jdm];rfl
  simp only[jw,f,ap,a,aU];refine⟨_,rfl,?_⟩;split;exact .inr ⟨1,rfl⟩;exact .inl rfl
def jab {st:St}{n e:Int}(a:st.df=[]) (b:st.tm 6=.sl none true 0 []) (d:st.tm 7=.int .i64 n) (c:st.tm 8=.int .i64 e):Ws [.t 6,.t 7,.t 8] (j1f ([],n,e)) .ret st :=
 jor (ns:=[6,7,8]) (vs:=[.sl none true 0 [],.int .i64 n,.int .i64 e]) (ls:=[.sl none true 0 [],.int .i64 n,.int .i64 e]) (λr h=>⟨true,λ_=>rfl,h⟩) a (by simp[b,d,c]) zS zS ⟨ja rfl,ja rfl,ja rfl,trivial⟩
def j0c {st:St}{lo hi:Nat}{ov:V}{l:List Nat}{n e:Int}(c:st.df=[]) (i:st.tm 6=ov) (j:st.tm 7=.int .i64 n) (d:st.tm 8=.int .i64 e) (m:OrdV st.ob lo hi ov l) (a:st.ro<=lo):Ws [.t 6,.t 7,.t 8] (j1f (yq l,n,e)) .ret st:=by obtain⟨b,k,f⟩:=jx2 m a;refine jor (ns:=[6,7,8]) (vs:=[ov,.int .i64 n,.int .i64 e]) (ls:=[.sl none b l.length ((yq l).flatMap yf),.int .i64 n,.int .i64 e]) (λr h=>⟨b,λh=>by rw[k h];rfl,?_⟩) c (by simp[i,j,d]) zS zS ⟨f,ja rfl,ja rfl,trivial⟩;rw[JY];exact h
section
variable {g:Hist'}{M:List Int}
def ev101 (D:Small g) (h8:g.ts.length<=8) {mn:Bool}(hM:M.length<=1000000) (most:Int):∃v,Ev E 101 [.agg (ya g),yl mn yf M,.int .i64 most] v/\j1f (jbi g M most) v:=by
 have L:=ev30 D;have u:=ev114 D (b:=mn) M hM;rw[j4l]at u;refine X6 rfl zQ ?_;conv in(occs:=*)F101=>all_goals cbv
 simp(disch:=try exact zD)[F101,j0,ya];refine jL L zI rfl zI ?_;unfold jbi;cases hw:jX g;simp;exact jab zS zS zS zS;simp(disch:=try exact zD)[j0,yl];refine jL u zH rfl zH ?_;cases P:Xl g M;simp(disch:=try exact zD);exact jab zS zS zS zS;by_cases x:most<0;simp(disch:=try exact zD)[x];exact jab zS zS zS zS;simp(disch:=try exact zD)[x,j0];refine jP (vs:=[.agg (ya g),yl mn yf M]) zH rfl (sv149 D P zL) ?_;rintro v1 J c0 q ⟨b1,b2,N,rv,Z,b3,b4,S,X,B,G,b9,c1,b0⟩;simp only at b1 b2 b3 b4 S X B G;subst b3;simp(disch:=try exact zD)[j0,b4,fdC,j6];refine jP (vs:=[.sl none true 0 []]) zS rfl sv151n ?_;rintro v2 i I n ⟨m,m1,T,U,F⟩;simp only at m1 T U F;subst U;have j:q<=m:=by first|omega|(simp at m1;omega)
 have hR:=XZ D;have O:=XE P;obtain⟨c,p⟩:∃c:OnC,c=⟨g,M,N,rv,Z,most,q,n,m⟩:=⟨_,rfl⟩;have hc:c.Ok:=by rw[p];exact⟨P,h8,B,G,b9,⟨j,T⟩,by rw[jrk O];omega⟩
 have n1:N.kF≠2*m+1:=B m j;have n2:N.kV≠2*m+1:=G m j;have Q:∀a,Off q a->i a=if a=N.kF then some ⟨N.uF,.cells (fdC g N rv (.sl Z (ym g).isEmpty (ym g).length ((ym g).flatMap yf)) (.sl none true 0 []) most false)⟩ else J a:=λa y=>by rw[F a,za (y m j)];simp[fdC]
 have hS:OnS c 0 [] [] false i n:=by rw[p];refine⟨⟨.sl none true 0 [],by show i N.kF=_;rw[Q _ B,zb rfl];rfl,.inl ⟨rfl,rfl⟩⟩,S.keep λa y=>by rw[Q a y.o,za y.f],⟨0,by show i N.kV=_;rw[Q _ G,za (dA b9)];exact X⟩,by rw[F,zb rfl]⟩
 clear F;simp;refine jP (vs:=[.ptr N.kF N.uF 0,.ptr (2*m+1) m 0]) zS rfl (by
  have h:=sv150 hc (yB g).length YU 0 [] [] i I 0;rw[p]at h hS;exact h _ n hS zS zQ zS zK (ch _) (ch _) (ch _) (ch _)) ?_
 rintro v3 c2 c5 c4 ⟨r,r2,r3,w',K,s,z,H⟩;simp only at r r2 s;rw[show onM (nxM g M) (yB g) most (yB g).length 0 [] []=jy g M most from rfl]at r s z H;obtain⟨c3,d,t⟩:=s.f;obtain⟨a0,e⟩:=s.v;simp only at d e t;generalize jy g M most=R at r s z H d e ⊢;obtain⟨o,sp,w⟩:=R;simp only at r z H d e;have k:(joi w).length=w.length:=by simp[joi]
 rw[r];cases sp with
 |true=>simp(disch:=try exact zD)[j0,jY,d,e,fdC,k];exact jab zS zS zS zS
 |false=>
  cases o with
  |none=>simp(disch:=try exact zD)[j0,jY,d,e,fdC,k];exact jab zS zS zS zS
  |some l=>have:=z l rfl;subst this;simp(disch:=try exact zD)[j0,jY,d,e,fdC,k];exact j0c zS zS zS zS (t.frame (λ_ _ _=>by simp) zK) zS
end
abbrev P2:Type:=Int×Int
def pLt (x y:P2):Prop:=x.1<y.1\/x.1=y.1/\x.2<y.2
def pairLe_iff {x y:P2}:Qr x y=true ↔ pLt x y\/x=y:=by obtain⟨a,b⟩:=x;obtain⟨c,d⟩:=y;simp only[Qr,pLt,bq,ab,ze,bZ];omega
def Xj (x:P2):¬pLt x x:=by unfold pLt;omega
def YS {x y z:P2}(h:pLt x y) (a:pLt y z):pLt x z:=by unfold pLt at *;omega
def Qs (x y:P2):pLt x y\/x=y\/pLt y x:=by obtain⟨a,b⟩:=x;obtain⟨c,d⟩:=y;simp only[pLt,bZ];omega
def jgy (x:P2):∀l:List P2,(j6i x l).Perm (x::l)
 |[]=>dW _
 |y::r=>by unfold j6i;split;exact dW _;exact((jgy x r).cons y).trans (List.Perm.swap x y r)
def XN:∀l:List P2,(ja7 l).Perm l
 |[]=>dW _
 |x::r=>(jgy x (ja7 r)).trans ((XN r).cons x)
def jz6 (x:P2):∀{l:List P2},l.Pairwise (λa b=>Qr a b=true)->(j6i x l).Pairwise λa b=>Qr a b=true
 |[],_=>fN _ _
 |y::r,h=>by rw[bW]at h;unfold j6i;split;rename_i c;rw[bW];refine⟨λz d=>?_,bW.2 h⟩;rcases bt.1 d with rfl|d;exact c;rw[pairLe_iff]at c ⊢;have:=pairLe_iff.1 (h.1 z d);rcases c with c|rfl;rcases this with h2|rfl;exact .inl (YS c h2);exact .inl c;exact this;rename_i c;rw[bW];refine⟨λz d=>?_,jz6 x h.2⟩;rcases bt.1 ((jgy x r).mem_iff.1 d) with rfl|d;rw[pairLe_iff]at c ⊢;rcases Qs y z with h|h|h;exact .inl h;exact .inr h;exact zf (.inl h) c;exact h.1 z d
def jka:∀l:List P2,(ja7 l).Pairwise λa b=>Qr a b=true
 |[]=>List.Pairwise.nil
 |x::r=>jz6 x (jka r)
def jba:List P2->List P2
 |[]=>[]
 |x::r=>x::match jba r with
  |[]=>[]
  |y::s=>if x=y then s else y::s
def compP_mem {z:P2}:∀{l:List P2},z∈jba l ↔ z∈l
 |[]=>bR
 |x::r=>by
  have a:=compP_mem (z:=z) (l:=r);rw[jba];cases h:jba r with
  |nil=>rw[h]at a;simp only[cZ,false_iff]at a;simp[a]
  |cons y s=>rw[h]at a;simp only;split;rename_i e;subst e;simp only[bt]at a ⊢;constructor;exact λh=>h.elim .inl λh=>.inr (a.1 (.inr h));exact λh=>h.elim .inl λh=>a.2 h;simp only[bt]at a ⊢;rw[a]
def js0:∀{l:List P2},l.Pairwise (λa b=>Qr a b=true)->(jba l).Pairwise pLt
 |[],_=>List.Pairwise.nil
 |x::r,h=>by
  rw[bW]at h;have d:=js0 h.2;rw[jba];cases i:jba r with
  |nil=>exact fN _ _
  |cons y s=>rw[i]at d;rw[bW]at d;have j:y∈r:=compP_mem.1 (by rw[i];exact aK ..);have f:=pairLe_iff.1 (h.1 y j);simp only;split;rename_i e;subst e;exact bW.2 d;rename_i e;have c:pLt x y:=f.resolve_right e;rw[bW];refine⟨λz g=>?_,bW.2 d⟩;rcases bt.1 g with rfl|g;exact c;exact YS c (d.1 z g)
def jmh:∀{l m:List P2},l.Pairwise pLt->m.Pairwise pLt->(∀z,z∈l ↔ z∈m)->l=m
 |[],[],_,_,_=>rfl
 |[],y::m,_,_,h=>zf ((h y).2 (aK ..)) cZ
 |x::l,[],_,_,h=>zf ((h x).1 (aK ..)) cZ
 |x::l,y::m,h1,h2,h=>by
  rw[bW]at h1 h2;have c:=bt.1 ((h x).1 (aK ..));have b:=bt.1 ((h y).2 (aK ..));have e:x=y:=by rcases c with e|c;exact e;rcases b with e|b;exact e.symm;exact zf (YS (h1.1 y b) (h2.1 x c)) (Xj _)
  subst e;rw[jmh h1.2 h2.2 λz=>?_];constructor;intro a;rcases bt.1 ((h z).1 (aS _ a)) with e|h';subst e;exact zf (h1.1 z a) (Xj _);exact h';intro a;rcases bt.1 ((h z).2 (aS _ a)) with e|h';subst e;exact zf (h2.1 z a) (Xj _);exact h'
def J0 (N:Nat) (p:Nat->Nat->Bool):List P2:=(List.range N).flatMap λa=>((List.range N).filter (p a)).map λb:Nat=>((a:Int),(b:Int))
def edgesOf_mem {N:Nat}{p:Nat->Nat->Bool}{z:P2}:z∈J0 N p ↔ ∃a b:Nat,a<N/\b<N/\p a b=true/\z=((a:Int),(b:Int)):=by unfold J0;simp only[ci,aM,aE,bu];constructor;rintro⟨a,d,b,⟨e,c⟩,rfl⟩;exact⟨a,b,d,e,c,rfl⟩;rintro⟨a,b,d,e,c,rfl⟩;exact⟨a,d,b,⟨e,c⟩,rfl⟩
def jvi (N:Nat) (p:Nat->Nat->Bool):(J0 N p).Pairwise pLt:=by unfold J0;rw[List.pairwise_flatMap];refine⟨λa _=>?_,?_⟩;rw[eL];refine(iB.filter _).imp fun {b c} h=>?_;exact Or.inr ⟨rfl,iC.2 h⟩;refine iB.imp fun {a b} h x e y d=>?_;obtain⟨_,_,rfl⟩:=aE.1 e;obtain⟨_,_,rfl⟩:=aE.1 d;exact Or.inl (iC.2 h)
def j0t {N:Nat}{p:Nat->Nat->Bool}{l:List P2}(h:∀z,z∈l ↔ ∃a b:Nat,a<N/\b<N/\p a b=true/\z=((a:Int),(b:Int))):jba (ja7 l)=J0 N p :=
 jmh (js0 (jka l)) (jvi N p) λz=>by rw[compP_mem,(XN l).mem_iff,h,edgesOf_mem]
def WK (n:Nat) (p:Nat->Nat->Bool) (D:List Nat) (a:Nat):Bool:=!D.contains a&&(List.range n).all λx=>!p x a||D.contains x
def WW (n:Nat) (p:Nat->Nat->Bool):Nat->List Nat->Option (List Nat)
 |0,D=>some D
 |k+1,D=>match (List.range n).find? (WK n p D) with
  |none=>none
  |some a=>WW n p k (D++[a])
def cntP (n:Nat) (p:Nat->Nat->Bool) (D:List Nat) (b:Nat):Nat:=((List.range n).filter λx=>p x b && !D.contains x).length
structure AhOk (n:Nat) (p:Nat->Nat->Bool) (D:List Nat) (A:List Int):Prop where
 l:A.length=n
 d:∀b,b<n->b∈D->A.getD b 0 = -1
 c:∀b,b<n->b ∉ D->A.getD b 0=cntP n p D b
 k:∀b x,b∈D->x<n->p x b=true->x∈D
def j4v {n:Nat}{p:Nat->Nat->Bool}{D:List Nat}{a:Nat}(h:a ∉ D):WK n p D a=true ↔ cntP n p D a=0:=by
 unfold WK cntP;rw[cz,fX];have:D.contains a=false:=by simpa using h
 rw[this,cp,bF,av];constructor;intro b x c;have:=b x c;cases d:p x a<;>simp_all;intro b x c;have:=b x c;cases d:p x a<;>simp_all
def AhOk.free {n:Nat}{p:Nat->Nat->Bool}{D:List Nat}{A:List Int}(h:AhOk n p D A) {a:Nat}(e:a<n):WK n p D a=decide (A.getD a 0=0):=by
 rw[bz,ze];by_cases b:a∈D;have g:=h.d a e b;have:WK n p D a=false:=by simp[WK,b]
 rw[this];constructor;exact λh=>(by cases h);intro f;omega;rw[j4v b,h.c a e b];omega
def AhOk.find {n:Nat}{p:Nat->Nat->Bool}{D:List Nat}{A:List Int}(h:AhOk n p D A):(List.range n).find? (WK n p D)=(List.range n).find? λa=>decide (A.getD a 0=0):=by
 have:∀l:List Nat,(∀a∈l,a<n)->l.find? (WK n p D)=l.find? λa=>decide (A.getD a 0=0):=by
  intro l;induction l with
  |nil=>intro _;rfl
  |cons a l e=>intro c;rw[List.find?_cons,List.find?_cons,h.free (c a (aK ..)),e λb f=>c b (aS _ f)]
 exact this _ λa d=>aM.1 d
def decL (A:List Int) (bs:List Nat):List Int:=bs.foldl (λA b=>A.set b (A.getD b 0-1)) A
def j0q (A:List Int) (bs:List Nat) (b:Nat):decL A (bs++[b])=(decL A bs).set b ((decL A bs).getD b 0-1):=by simp[decL]
def jsz (A:List Int):∀a:List Nat,(decL A a).length=A.length:=by
 intro a;induction a generalizing A with
 |nil=>rfl
 |cons b a c=>rw[show decL A (b::a)=decL (A.set b (A.getD b 0-1)) a from rfl,c,dO]
def je9 (A:List Int) {b:Nat}(a:b<A.length) (x:Int) (c:Nat):(A.set b x).getD c 0=if c=b then x else A.getD c 0:=by rw[am,am,List.getElem?_set];by_cases h:b=c;subst h;simp[a];rw[za h,za (dA h)]
def j0r (A:List Int):∀(bs:List Nat),bs.Nodup->(∀b∈bs,b<A.length)->∀c,(decL A bs).getD c 0=A.getD c 0-if c∈bs then 1 else 0:=by
 intro bs;induction bs generalizing A with
 |nil=>intro _ _ c;simp[decL]
 |cons b bs g=>intro e f c;rw[cX]at e;have d:=f b (aK ..);rw[show decL A (b::bs)=decL (A.set b (A.getD b 0-1)) bs from rfl,g _ e.2 (λx i=>by rw[dO];exact f x (aS _ i)),je9 A d];by_cases h:c=b;subst h;rw[zb rfl,za e.1,zb (aK ..)];omega;rw[za h];by_cases a:c∈bs;rw[zb a,zb (aS _ a)];rw[za a,za (by simp[h,a])]
def cntP_le (n:Nat) (p:Nat->Nat->Bool) (D:List Nat) (b:Nat):cntP n p D b<=n:=bL (cg _ _) zS
def cnt_add {n:Nat}{p:Nat->Nat->Bool}{D:List Nat}{a:Nat}(j:a<n) (i:a ∉ D) (b:Nat):cntP n p D b=cntP n p (D++[a]) b+if p a b=true then 1 else 0:=by
 have d:∀l:List Nat,l.Nodup->(l.filter λx=>p x b && !D.contains x).length=(l.filter λx=>p x b && !(D++[a]).contains x).length+if a∈l/\p a b=true then 1 else 0:=by
  intro l;induction l with
  |nil=>intro _;simp
  |cons x l c=>
   intro f;rw[cX]at f;have c:=c f.2;by_cases e:x=a;subst e;have g:D.contains x=false:=by simpa using i
   have h:(D++[x]).contains x=true:=zS;rw[cE,cE,g,h];rw[za (by simp[f.1])]at c;cases k:p x b;simp only[bE,ah,zc,and_false];exact c;simp only[bF,cp,bN,zd,ah,zc,bh,c,bt,true_or,and_self,bp];have g:(D++[a]).contains x=D.contains x:=by rw[bz];simp[e]
   rw[cE,cE,g];have h:(a∈x::l/\p a b=true) ↔ (a∈l/\p a b=true):=by simp[dA e]
   simp only[h];split;simp only[bh,c];omega;exact c
 have:=d (List.range n) ib;unfold cntP;rw[this];simp[j]
def AhOk.rng {n:Nat}{p:Nat->Nat->Bool}{D:List Nat}{A:List Int}(h:AhOk n p D A) (b:Nat):-1<=A.getD b 0/\A.getD b 0<=n:=by by_cases e:b<n;by_cases a:b∈D;rw[h.d b e a];omega;rw[h.c b e a];have:=cntP_le n p D b;omega;rw[am,dJ (by rw[h.l];omega)];simp
def AhOk.next {n:Nat}{p:Nat->Nat->Bool}{D:List Nat}{A:List Int}(h:AhOk n p D A) {a:Nat}(s:a<n) (q:WK n p D a=true) {bs:List Nat}(j:∀b,b∈bs ↔ b<n/\p a b=true) (B:bs.Nodup):AhOk n p (D++[a]) (decL (A.set a (-1)) bs):=by
 unfold WK at q;simp only[ab,bG,av,aM]at q;have t:a ∉ D:=by simpa using q.1
 have m:∀x,x<n->p x a=true->x∈D:=λx r f=>by have:=q.2 x r;simpa[f] using this
 have v:∀b,b∈D->p a b=false:=λb g=>by cases f:p a b;rfl;exact zf (h.k b a g s f) t
 have w:p a a=false:=by cases f:p a a;rfl;exact zf (m a s f) t
 have z:(A.set a (-1)).length=n:=by rw[dO,h.l]
 have o:∀c,(decL (A.set a (-1)) bs).getD c 0=(if c=a then -1 else A.getD c 0)-if c∈bs then 1 else 0:=λc=>by rw[j0r _ bs B (λb g=>by rw[z];exact((j b).1 g).1),je9 A (by rw[h.l];exact s)]
 refine⟨by rw[jsz,z],λb g i=>?_,λb g i=>?_,λb x g r f=>?_⟩;rw[o];rw[aQ,ag]at i;have y:b ∉ bs:=λu=>by have:=((j b).1 u).2;rcases i with i|rfl;rw[v b i]at this;cases this;rw[w]at this;cases this
 rw[za y];by_cases e:b=a;rw[zb e];omega;rw[za e,h.d b g (i.resolve_right e)];omega;rw[aQ,ag,not_or]at i;rw[o,za i.2,h.c b g i.1,cnt_add s t b];by_cases f:p a b=true;rw[zb f,zb ((j b).2 ⟨g,f⟩)];omega;rw[za f,za λu=>f ((j b).1 u).2];omega;rw[aQ,ag]at g ⊢;rcases g with g|rfl;exact .inl (h.k b x g r f);exact .inl (m x r f)
section
end
section
end
section
end
def txt20:List UInt8:=[98,101,103,105,110,32,115,10,114,101,97,100,32,115,32,120,32,110,105,108,10,111,107,32,115]
def H20:Hist':=⟨false,[[115]],false,[[120]],false,[⟨0,1,false,[⟨false,0,⟨0,0⟩⟩]⟩]⟩
def k20:(yK E 100 noY).d 29 [.str txt20]=some (.tup [(.agg [(.sl (some (0,1)) false 1 [(.str [115])]),(.sl (some (1,1)) false 1 [(.str [120])]),(.sl (some (2,3)) false 1 [(.int .i64 0),(.int .i64 1),(.sl none false 1 [(.bool false),(.int .i64 0),(.int .i64 0),(.int .i64 0)])])]),(.int .i64 0),(.int .i64 0)]):=by kernel_rfl
end Go.Pv.T
namespace Go.Pv.T
open Go Go.Pv
end Go.Pv.T
namespace Go.Pv.T
open Go Go.Pv
end Go.Pv.T
namespace Go.Pv.T
open Go Go.Pv
end Go.Pv.T
