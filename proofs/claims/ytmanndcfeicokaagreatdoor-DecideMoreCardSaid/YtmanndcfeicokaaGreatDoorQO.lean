/- Part. -/
import Derived.Test.YtmanndcfeicokaaGreatDoorQN
set_option maxRecDepth 100000
set_option maxHeartbeats 8000000
set_option linter.all false
namespace Go.Pv.T
open Go Go.Pv
def OnP (c:OnC) (n:Nat):Prop:=∀(Yf:YF) (w:Nat) (done vis:List Nat) (ob:ZO) (tk:Nat->Bool) (ro base ub:Nat),OnS c w done vis false ob ub->done.length+n=(yz c.g).length->w<256->w ∉ vis->c.n1<=ub->ro<=c.n1->ro<=c.N.uF->ro<=c.N.uV->ro<=c.uS ->
 ∃r,EvS E Yf.y 150 [.ptr c.N.kF c.N.uF 0,.ptr (2*c.uS+1) c.uS 0] ob tk ro base ub r/\OnR c w done (onM (nxM c.g c.M) (yz c.g) c.most n w done vis) ob ub r
def jvl {nx:Nat->Nat->Bool}{C:List Nat}{most:Int}{w:Nat}{done vis:List Nat}(h:(vis.length:Int)=most):∀n,onM nx C most n w done vis=(none,true,vis)
 |0=>by rw[onM,zb h]
 |n+1=>by rw[onM,zb h]
def jle {F:Env}{Yf:YF}{lo hi t ub:Nat}{ov:V}{done:List Nat}{s x:A}{st:St}{K:St->Nat->Prop}{d:Option Nat}(f:yc F st.tm s=ov) (l:OrdV st.ob lo hi ov done) (j:st.ro<=lo) (g:jE st.ob 1 (yc F st.tm x)=some [.int .i64 (t:Int)]) (m:done.length<=1000)
 (h:∀e:List Nat,(e=[]\/∃u,lo<=u/\u<hi/\e=[2*u+1])->Q6 K st d ub { v:=.osl (2*ub+1) ub 0 (done.length+1) 1,obs:=[(2*ub+1,⟨ub,.cells ((yp (done++[t])).flatMap ye)⟩)],kill:=e }):j5 F Yf ⟨d,.append true 1 8 s x,none,true⟩ st ub K:=by
 rcases l with⟨rfl,rfl⟩|⟨u,cs,rfl,b,k,i⟩;refine Js f g zS zQ rfl zS zS ?_;simpa[ye,jF,yp] using h [] (.inl rfl)
 ·have a:((yp done).flatMap ye).length=done.length:=by rw[j3 jA,JV];omega
  refine XT (cs:=(yp done).flatMap ye++cs) f g b zS zO (by rw[au];omega) zQ rfl zP zP ?_;have:=h [2*u+1] (.inr ⟨u,k,i,rfl⟩);rw[bE,dJ a];simpa[ye,jF,yp] using this
section
variable {c:OnC}
def OnS.upd {w:Nat}{done vis b:List Nat}{sp:Bool}{ob ob':ZO}{ub g:Nat}(h:OnS c w done vis sp ob ub) (i:c.Ok) (t:c.n1<=ub) (n:ub<=g) (j:∀a,Off ub a->a≠c.N.kV->ob' a=ob a) (p:∃k,ob' c.N.kV=some ⟨c.N.uV,.mp k (MK .u64 jgh (jmb b))⟩):OnS c w done b sp ob' g:=by obtain⟨ov,r,q⟩:=h.f;have m:=i.s;refine⟨⟨ov,(j _ (i.f.up zO) i.fv).trans r,q.frame (λu x l=>j _ (Off.new l) λe=>i.v u zO e.symm) n⟩,h.d.keep λa h=>j _ (h.o.up zO) h.v,p,(j _ (Off.new zO) λe=>i.v c.uS m.1 e.symm).trans h.s⟩
def OnS.keep {w:Nat}{done vis:List Nat}{sp:Bool}{ob ob':ZO}{ub b:Nat}(h:OnS c w done vis sp ob ub) (e:c.Ok) (i:c.n1<=ub) (g:ub<=b) (f:∀a,Off ub a->ob' a=ob a):OnS c w done vis sp ob' b:=by obtain⟨d,j⟩:=h.v;have k:=e.s;exact h.upd e i g (λa h _=>f a h) ⟨d,(f _ (e.v.up zO)).trans j⟩
def jvk (z:c.Ok) (n:Nat) (ih:∀k,n=k+1->OnP c k):OnP c n:=by
 intro Yf w done vis ob tk ro h7 ub hS i0 hw c8 c0 d1 b0 d4 g8;obtain⟨ov,Z,hO⟩:=hS.f;obtain⟨ver,hV⟩:=hS.v;have K:=hS.s;have gS:=z.s;have oF:=(z.f.up (show c.n0<=ub by omega)).ne;have oV:=(z.v.up (show c.n0<=ub by omega)).ne;have nS:∀m,ub<=m->¬c.uS=m:=λm hm=>by omega
 have fv:=z.fv;have fs:c.N.kF≠2*c.uS+1:=z.f c.uS gS.1;have vs:c.N.kV≠2*c.uS+1:=z.v c.uS gS.1;have g7:(jmb vis).length=vis.length:=by simp[jmb]
 refine J7 rfl zQ ?_;show wpC E Yf S150.body _ (Jd S150.res _);conv in(occs:=*)S150=>all_goals cbv
 simp(disch:=try exact zD)[S150,j0,Z,fdC,jS,hV,g7];by_cases H:(vis.length:Int)=c.most
 ·simp(disch:=try exact zD)[H,j0,Z,fdC,j2];refine⟨b0,JQ zS ?_⟩;rw[jvl H];refine⟨zS,by simp;omega,λj p x B D=>by simp[x],w,done,⟨⟨ov,by simp[fdC],hO.frame (λu x B=>?_) zP⟩,hS.d.keep λj p=>by simp[p.f],⟨ver,by simp[dg fv,hV]⟩,by simp[dg fs,K]⟩,λl h=>(by cases h),λ_ h=>(by cases h)⟩;have:2*u+1≠c.N.kF:=λe=>z.f u zO e.symm;simp[this]
 have b5:((vis.length:Int)==c.most)=false:=by simpa using H
 have g3:vis.contains w=false:=by simpa using c8
 simp(disch:=try exact zD)[b5,j0,Z,fdC];refine jb4 (vs:=[.ptr (2*c.uS+1) c.uS 0]) zS rfl rfl (j3o (w:=w) (zU K) (Off.new zL) zO _ _) (JI rfl) ?_;simp;rw[joi (vis:=vis) (y:=w) (by simp[jS,hV]),g3,za zQ];simp[show IntKind.i64.wrap 1=1 from rfl];refine jsj (q:=.u64) (f:=jgh) (a:=1) (ver:=ver) (k:=(w:Int)) (l:=c.N.kV) (u:=c.N.uV) (jmb vis) zS zS (by simp[jgh,V.strip]) (by simp[hV]) (zU d4) ?_;rw[j4c c8];simp;have b7:∀i2:ZO,Ww ov=some (.int .i64 (done.length:Nat)):=λ_=>by rcases hO with⟨rfl,rfl⟩|⟨u,cs,rfl,_⟩<;>rfl
 have i6:=jjj c.g;simp(disch:=try exact zD)[j0,Z,fdC,OnC.al,fv,b7 ob];by_cases h0:n=0
 ·subst h0;have e0:(done.length:Int)=(yl c.g).length:=zO;simp[e0];refine JQ zS ?_;rw[onM,za H];refine⟨zS,zL,λj p x B D=>by simp[B],w,done,hS.upd z c0 zL (λj p h=>by simp[h]) ⟨ver+1,zS⟩,λl h=>by cases h;rfl,λh=>by cases h⟩
 ·obtain⟨k,rfl⟩:∃k,n=k+1:=⟨n-1,zO⟩;have e0:((done.length:Int)==(yl c.g).length)=false:=by simp;omega
  simp[e0];simp(disch:=try exact zD)[j0,Z,fdC,OnC.al,fv];refine jf λX F=>?_;have g0:X.tm 0=.ptr c.N.kF c.N.uF 0:=by rw[F];simp
  have g1:X.tm 1=.ptr (2*c.uS+1) c.uS 0:=by rw[F];simp
  have g9:X.tm 42=.sl c.tc (yl c.g).isEmpty (yl c.g).length ((yl c.g).flatMap ye):=by rw[F];simp
  have f0:X.tm 43=.int .i64 (yl c.g).length:=by rw[F];simp
  have f9:X.tm 44=.int .i64 0:=by rw[F];simp
  have gd:X.df=[]:=by rw[F];simp
  have gr:X.ro=ro:=by rw[F];simp
  have gn:ub<=X.nx:=by rw[F];simp;omega
  have gO:OnS c w done (vis++[w]) false X.ob X.nx:=hS.upd z c0 gn (λj p h=>by rw[F];simp[h]) ⟨ver+1,by rw[F];simp⟩;have gR:c.Rest ob X.ob:=λj p x B D=>by rw[F];simp[B]
  clear F;obtain⟨R,hR⟩:∃R,R=loopM (onM (nxM c.g c.M) (yz c.g) c.most k) (nxM c.g c.M) w done (yz c.g) (vis++[w]):=⟨_,rfl⟩;have c1:onM (nxM c.g c.M) (yz c.g) c.most (k+1) w done vis=R:=by rw[onM,za H,hR]
  rw[c1];obtain⟨J,hJ⟩:∃J:Nat->St->Prop,J=λi s=>s.tm 44=.int .i64 i/\(∃vis,OnS c w done vis false s.ob s.nx/\R=loopM (onM (nxM c.g c.M) (yz c.g) c.most k) (nxM c.g c.M) w done ((yz c.g).drop i) vis)/\c.Rest ob s.ob/\ub<=s.nx:=⟨_,rfl⟩;refine j7 [(4,4),(6,6),(44,108)] (yl c.g).length J rfl rfl (by rw[hJ];exact⟨zU f9,⟨_,gO,hR⟩,gR,gn⟩) ?_;clear gO gR gn Z hV hO hS K hR c1 b7;intro i s hi c5 f;rw[hJ]at c5;obtain⟨P,⟨vis,sS,sR⟩,sw,sn⟩:=c5;have s0:s.tm 0=.ptr c.N.kF c.N.uF 0:=by rw[f.t 0 zS];simp[g0]
  have s1:s.tm 1=.ptr (2*c.uS+1) c.uS 0:=by rw[f.t 1 zS];simp[g1]
  have e8:s.tm 42=.sl c.tc (yl c.g).isEmpty (yl c.g).length ((yl c.g).flatMap ye):=by rw[f.t 42 zS];simp[g9]
  have c3:s.tm 43=.int .i64 (yl c.g).length:=by rw[f.t 43 zS];simp[f0]
  have sd:s.df=[]:=by rw[f.d];simp[gd]
  have sr:s.ro=ro:=by rw[f.r];simp[gr]
  clear f;by_cases I:i<(yl c.g).length
  ·have T:i<(yz c.g).length:=zO;obtain⟨t,ht⟩:∃t,t=(yz c.g)[i]:=⟨_,rfl⟩;have d2:t∈yz c.g:=ht▸av T;have g2:=cl_lt z d2;have h4:(yl c.g)[i]=(t:Int):=by
    have x:(yl c.g)[i]? = (yp (yz c.g))[i]?:=by rw[jcb]
    rw[aa I]at x;unfold yp at x;rw[aR,aa T]at x;simpa[ht] using x
   have i4:=z.l;have h6:=Wt c.g;have a0:=jc I zO;have d7:=XA jA c.tc (yl c.g).isEmpty (yl c.g) .i64 I;have c4:=JL (yl c.g) I;rw[h4]at c4;rw[bj T,<- ht,loopM]at sR;obtain⟨ov,Z,hO⟩:=sS.f;obtain⟨ver,hV⟩:=sS.v;have K:=sS.s;simp(disch:=try exact zD)[P,c3,e8,s1,I,d7,c4];refine jb4 (vs:=[.ptr (2*c.uS+1) c.uS 0,.int .i64 t]) zS rfl rfl (jfv (w:=w) (n:=t) (zU K) (Off.new zL) zO zO _ _) (JI rfl) ?_;have b8:=j5t z.m z.l w t;have G:(w.testBit t||(!nxM c.g c.M w t||vis.contains (w|||1<<<t)))=true->R=loopM (onM (nxM c.g c.M) (yz c.g) c.most k) (nxM c.g c.M) w done ((yz c.g).drop (i+1)) vis:=λh=>by rw[sR,zb h]
   cases hb:w.testBit t
   ·simp(disch:=try exact zD)[s0,s1];refine jb4 (vs:=[.ptr c.N.kF c.N.uF 0,.ptr (2*c.uS+1) c.uS 0,.int .i64 t]) zS rfl rfl (evo212 (g:=c.g) (rv:=c.rv) (al:=c.al) (ov:=ov) (most:=c.most) (sp:=false) (n0:=c.n0) (w:=w) (t:=t) (sS.d.keep λ_ _=>by simp) (zU Z) (z.f.up zL) (zU K) (Off.new zL) zL zO d2 (j2n z t) (jto z t) (j99 z.m) z.r _ _) (JI rfl) ?_;rw[b8];rw[show j0m c.g c.M (λa=>w.testBit a) t=nxM c.g c.M w t from rfl];cases hx:nxM c.g c.M w t;simp(disch:=try exact zD)[P,a0,I];rw[hJ];exact⟨zS,⟨vis,sS.keep z zO zL λj _=>by simp,G (by simp[hx])⟩,λj p x B D=>by simpa using sw j p x B D,zL⟩
    ·simp(disch:=try exact zD)[s0,s1,j0,Z,fdC];refine jb4 (vs:=[.ptr (2*c.uS+1) c.uS 0]) zS rfl rfl (j3o (w:=w) (zU K) (Off.new zL) zO _ _) (JI rfl) ?_;have e1:=jie (n:=t) zO;have e2:=jei (a:=w) (b:=1<<<t) zO (jpk zO);generalize g5:1<<<t=p1 at e1 e2 G sR;generalize f7:w|||p1=p2 at e2 G sR;simp(disch:=try exact zD)[e1,e2];rw[joi (vis:=vis) (y:=p2) (by simp[jS,hV])];cases hv:vis.contains p2
     ·have c7:(∀l sp v,onM (nxM c.g c.M) (yz c.g) c.most k p2 (done++[t]) vis=(some l,sp,v)->R=(some l,sp,v))/\(∀v,onM (nxM c.g c.M) (yz c.g) c.most k p2 (done++[t]) vis=(none,true,v)->R=(none,true,v)) /\
       ∀v,onM (nxM c.g c.M) (yz c.g) c.most k p2 (done++[t]) vis=(none,false,v)->R=loopM (onM (nxM c.g c.M) (yz c.g) c.most k) (nxM c.g c.M) w done ((yz c.g).drop (i+1)) v:=by
       rw[sR,za (by rw[hb,hx,hv];simp)]
       exact⟨λl sp v h=>by rw[h],λv h=>by rw[h],λv h=>by rw[h]⟩
      have S:w|||1<<<t=p2:=by rw[g5];exact f7
      simp;refine jK (vs:=[.ptr (2*c.uS+1) c.uS 0,.int .i64 t]) (by simp[s1]) rfl (jra (w:=w) (zU K) (Off.new zL) (by first|omega|(simp[sr];omega)) zO zO) ?_;rintro v1 c6 h8 O ⟨r1,r2,r3⟩;simp only at r1 r2 r3;rw[S]at r2;have q1:s.nx<=O:=by first|omega|(simp at r3;omega)
      have q2:∀j,Off s.nx j->c6 j=if j=2*c.uS+1 then some ⟨c.uS,.cells (yt p2)⟩ else s.ob j:=λj p=>by rw[r2 j (p.up zL)];simp
      clear r1 r2 r3;have d0:c6 c.N.kF=some ⟨c.N.uF,.cells (fdC c.g c.N c.rv c.al ov c.most false)⟩:=by rw[q2 _ (z.f.up zO),za fs];exact Z
      simp(disch:=try exact zD)[s0,j0,d0,fdC];refine JB (cs:=[.int .i64 (t:Int)]) (by simp[j2]) rfl rfl ?_;simp;refine jle (lo:=c.n1) (hi:=s.nx) (done:=done) (t:=t) (ov:=ov) zS (hO.frame (λu x B=>?_) zK) (by simpa[sr] using d1) (by simp[jE,j0]) zO λkl d3=>?_;have D:∀m,s.nx<=m->¬u=m:=λm hm=>by omega
      simp(disch:=try exact zD)[yi,D];rw[q2 _ (Off.new B),za zO];have e3:kl.any (Nat.beq c.N.kF)=false:=by rcases d3 with rfl|⟨u,x,B,rfl⟩;rfl;simp only[bG,bP,bx];exact X2 (z.f u zO)
      have b6:∀j,Off c.n1 j->kl.any (Nat.beq j)=false:=λj p=>by rcases d3 with rfl|⟨u,x,B,rfl⟩;rfl;simp only[bG,bP,bx];exact X2 (p u x)
      generalize e9:List.flatMap ye (yp (done++[t]))=cs9;simp(disch:=try exact zD)[j0,d0,fdC,e3,j2,jG,oF];refine⟨by simpa[sr] using b0,?_⟩;simp(disch:=try exact zD)[s0,s1];refine jK (vs:=[.ptr c.N.kF c.N.uF 0,.ptr (2*c.uS+1) c.uS 0]) zS rfl (ih k rfl Yf p2 (done++[t]) vis _ _ _ _ _ ?_ zP ?_ (zU hv) zL (by simpa[sr] using d1) (by simpa[sr] using b0) (by simpa[sr] using d4) (by simpa[sr] using g8)) ?_
      ·have e6:¬2*(O+448)+1=c.N.kF:=λe=>oF (O+448) zO e.symm;refine⟨⟨.osl (2*(O+448)+1) (O+448) 0 (done.length+1) 1,by simp[fdC,aG],.inr ⟨O+448,[],zS,?_,zO,zL⟩⟩,sS.d.keep λj p=>?_,⟨ver,?_⟩,?_⟩;simp(disch:=try exact zD)[jG,aG,e6,e9];obtain⟨Q,f2,f3,f4⟩:=z.fix p;have f5:=(Q.up (show c.n1<=ub by omega)).ne;simp(disch:=try exact zD)[jG,f2,f5,b6 j Q];rw[q2 j (Q.up zO),za f4];have Q:=z.v.up (show c.n0<=c.n1 by omega);have f5:=(Q.up (show c.n1<=ub by omega)).ne;simp(disch:=try exact zD)[jG,dg fv,f5,b6 _ Q];rw[q2 _ (Q.up zO),za vs];exact hV;have Q:Off c.n1 (2*c.uS+1):=Off.new gS.2;have f5:=(Q.up (show c.n1<=ub by omega)).ne;simp(disch:=try exact zD)[jG,dg fs,f5,b6 _ Q,yi,nS];rw[q2 _ (Q.up zO),zb rfl]
      have:w|||1<<<t<2^8:=dw hw (by rw[cY];exact dP zQ g2);rw[S]at this;exact this
      ·rintro v2 c2 i5 b9 ⟨r1,r2,r3,w',U,r4,r5,r6⟩;simp only at r1 r2 r3 r4;have q3:O<=b9:=by first|omega|(simp at r2;omega)
       have L:c.Rest ob c2:=λj p x B D=>by rw[r3 j p x B D,<- sw j p x B D];have f5:=(p.up (show c.n1<=ub by omega)).ne;simp(disch:=try exact zD)[jG,x,f5,b6 j p];rw[q2 j (p.up zO),za D]
       clear r2 r3;rcases d5:onM (nxM c.g c.M) (yz c.g) c.most k p2 (done++[t]) vis with⟨o,sp,vv⟩;rw[d5]at r1 r4 r5 r6 c7;obtain⟨x,B,D⟩:=c7;obtain⟨i1,d6,d8⟩:=r4.f;cases o with
       |some l=>rw[r1];simp;refine JQ (by simp[sd]) ?_;rw[x l sp vv rfl];exact⟨zS,zL,λj p x B D=>by simpa using L j p x B D,w',U,r4.keep z zO zL λj _=>by simp,r5,λh=>by cases h⟩
       |none=>
        rw[r1];cases sp with
        |true=>simp(disch:=try exact zD)[s0,j0,d6,fdC];refine JQ (by simp[sd]) ?_;rw[B vv rfl];exact⟨zS,zL,λj p x B D=>by simpa using L j p x B D,w',U,r4.keep z zO zL λj _=>by simp,λl h=>(by cases h),λ_ h=>by cases h⟩
        |false=>
         obtain⟨rfl,rfl⟩:=r6 rfl rfl;rcases d8 with⟨_,h⟩|⟨u,cs,rfl,e5,g6,h9⟩;exact zf h zS;have g4:IntKind.i64.wrap (done.length:Int)=(done.length:Int):=ji zO zO;have e4:YY 1 none (some (.int .i64 (done.length:Int))) (.osl (2*u+1) u 0 (done.length+1) 1)=some (.osl (2*u+1) u 0 done.length 1):=by have x:(done.length:Int)<=(done.length:Int)+1:=zO;simp[YY,JT,x]
         simp(disch:=try exact zD)[s0,j0,d6,fdC,g4,e4,j2];refine⟨by simpa[sr] using b0,?_⟩;simp(disch:=try exact zD)[s1];have f8:=r4.s;refine jK (vs:=[.ptr (2*c.uS+1) c.uS 0,.int .i64 t]) zS rfl (sv213 (w:=w') (by simpa[dg fs] using f8) (Off.new zL) (by first|omega|(simp[sr];omega)) zO) ?_;rintro v3 e7 i3 h5 ⟨r7,r8,r9⟩;simp only at r7 r8 r9;have q4:b9<=h5:=by first|omega|(simp at r9;omega)
         have d9:jsz w' t=w:=by rw[<- S];exact j2a zO zO hb
         rw[d9]at r8;have q5:∀j,Off b9 j->e7 j=if j=2*c.uS+1 then some ⟨c.uS,.cells (yt w)⟩ else if j=c.N.kF then some ⟨c.N.uF,.cells (fdC c.g c.N c.rv c.al (.osl (2*u+1) u 0 done.length 1) c.most false)⟩ else c2 j:=λj p=>by rw[r8 j (p.up zL)];simp[fdC]
         clear r7 r8 r9;simp[P,a0,I];rw[hJ];obtain⟨c9,f6⟩:=r4.v;refine⟨zS,⟨vv,⟨⟨.osl (2*u+1) u 0 done.length 1,?_,.inr ⟨u,.int .i64 (t:Int)::cs,rfl,?_,g6,zL⟩⟩,r4.d.keep λj p=>?_,⟨c9,?_⟩,?_⟩,D vv rfl⟩,λj p x B D=>?_,zL⟩;simp;rw[q5 _ (z.f.up zO),za fs,zb rfl];simp;rw[q5 _ (Off.new zO),za zO,za (λe=>z.f u zO e.symm),e5];simp[yp,ye];obtain⟨Q,f2,f3,f4⟩:=z.fix p;simp;rw[q5 j (Q.up zO),za f4,za f2];simp;rw[q5 _ (z.v.up zO),za vs,za (dg fv)];exact f6;simp;rw[q5 _ (Off.new zO),zb rfl];simp;rw[q5 j (p.up zO),za D,za x];exact L j p x B D
     simp[P,a0,I];rw[hJ];exact⟨zS,⟨vis,sS.keep z zO zL λj _=>by simp,G (by rw[hv];simp)⟩,λj p x B D=>by simpa using sw j p x B D,zL⟩
   simp(disch:=try exact zD)[P,a0,I];rw[hJ];exact⟨zS,⟨vis,sS.keep z zO zL λj _=>by simp,G (by simp[hb])⟩,λj p x B D=>by simpa using sw j p x B D,zL⟩
  ·have:i=(yl c.g).length:=zO;subst this;rw[bB zO,loopM]at sR;simp[P,c3];refine JQ (by simp[sd]) ?_;rw[sR];exact⟨zS,zL,λj p x B D=>by simpa using sw j p x B D,w,done,sS.keep z zO zL λj _=>by simp,λl h=>(by cases h),λ_ _=>⟨rfl,rfl⟩⟩
def sv150 (a:c.Ok) (n:Nat):OnP c n:=by
 induction n with
 |zero=>exact jvk a 0 λk h=>by omega
 |succ n b=>refine jvk a (n+1) λk h=>?_;have:k=n:=zO;exact this▸b
end
def jg9 {nx:Nat->Nat->Bool}:∀{L:List Nat}{w:Nat},jrt nx w L=true->L.Nodup/\∀t∈L,w.testBit t=false
 |[],_,_=>⟨dQ,λ_ h=>by cases h⟩
 |t::r,w,h=>by
  simp only[jrt,aj,bS]at h;obtain⟨f,_,d⟩:=h;obtain⟨e,i⟩:=jg9 d;have c:∀a∈r,w.testBit a=false/\¬t=a:=λa b=>by have:=i a b;rw[jh9]at this;simpa using this
  rw[dj];refine⟨⟨λh=>(c t h).2 rfl,e⟩,λa b=>?_⟩;rcases bq.1 b with h|h;exact h▸f;exact(c a h).1
def jqn (C:List Nat):cnt C 0=0:=by simp[cnt]
def jsq {L:List Nat}(h:L.Nodup):(yp L).Nodup:=eY.2 (List.Pairwise.imp (λh e=>h zO) h)
def J1 (g:Hist') (M:List Int) (most:Int):R3:=onM (nxM g M) (yz g) most (yz g).length 0 [] []
section
variable {g:Hist'}{M:List Int}{most:Int}
def jst (c:WR g M=true) {L:List Nat}(h:Full (nxM g M) (yz g) 0 L):QP g (yp L)=true:=by obtain⟨f,e,i⟩:=h;rw[jvd (Yg c)];rw[jqn]at e;refine jay (jsq (jg9 i).1) (λx b=>?_) ?_;unfold yp at b;obtain⟨a,d,rfl⟩:=aI.1 b;exact comL_mem.2 ⟨a,rfl,comN_mem.1 (f a d)⟩;have:=jjj g;simp only[yp,bp];omega
def jny (g:Hist') (M:List Int) (most:Int):Found (nxM g M) (yz g) 0 [] [] (J1 g M most):=jpl (js3 g) (jji g) _ 0 [] [] (by rw[jqn,bN]) λv h=>by cases h
def jsu (a:WR g M=true) {L:List Nat}(h:(J1 g M most).1=some L):QP g (yp L)=true:=by obtain⟨_,c,e,b,_⟩:=(jny g M most).yes L h;rw[dK]at e;subst e;exact jst a b
end
def jam (g:Hist') (M:List Int) (most:Int):List Int×Int×Int :=
 if !jW g then ([],0,4) else if !WR g M||decide (most<0) then ([],0,2) else
  if (J1 g M most).2.1 then ([],(J1 g M most).2.2.length,13) else match (J1 g M most).1 with
   |none=>([],(J1 g M most).2.2.length,3)
   |some l=>(yp l,(J1 g M most).2.2.length,0)
def jyi (r:List Int×Int×Int) (v:V):Prop:=∃nl,(nl=true->r.1=[])/\jtg [.sl none nl r.1.length (r.1.flatMap ye),.int .i64 r.2.1,.int .i64 r.2.2] v
def jva {st:St}{lo hi:Nat}{ov:V}{done:List Nat}(h:OrdV st.ob lo hi ov done) (j:st.ro<=lo):∃e,(e=true->done=[])/\j2p st ov (.sl none e done.length ((yp done).flatMap ye)):=by
 rcases h with⟨rfl,rfl⟩|⟨u,cs,rfl,d,k,_⟩;exact⟨true,λ_=>rfl,jT rfl⟩
 ·refine⟨false,λh=>(by cases h),Xx rfl λkeep i=>?_⟩;have b:((yp done).flatMap ye).length=done.length:=by rw[j3 jA,JV];omega
  have a:j0 st.ob (2*u+1) u=some ((yp done).flatMap ye++cs):=by simp[j0,d]
  have f:JU st 6 (.osl (2*u+1) u 0 done.length 1)=some (.sl none false done.length ((yp done).flatMap ye)):=by show((j0 st.ob (2*u+1) u).bind λcs=>if Nat.ble st.ro u=true/\0+done.length*1<=cs.length then (((cs.drop 0).take (done.length*1)).mapM (JU st 5)).map λc=>V.sl none false done.length c else none)=_;rw[a,am,zb ⟨bT▸zO,by rw[au];omega⟩,dq,bE,dJ b,jcr];rfl
  simp only[jr,f,am,a,aO];refine⟨_,rfl,?_⟩;split;exact .inr ⟨1,rfl⟩;exact .inl rfl
def QW {st:St}{n e:Int}(a:st.df=[]) (b:st.tm 6=.sl none true 0 []) (d:st.tm 7=.int .i64 n) (c:st.tm 8=.int .i64 e):Q5 [.t 6,.t 7,.t 8] (jyi ([],n,e)) .ret st :=
 jmj (ns:=[6,7,8]) (vs:=[.sl none true 0 [],.int .i64 n,.int .i64 e]) (ls:=[.sl none true 0 [],.int .i64 n,.int .i64 e]) (λr h=>⟨true,λ_=>rfl,h⟩) a (by simp[b,d,c]) zS zS ⟨jT rfl,jT rfl,jT rfl,trivial⟩
def jxi {st:St}{lo hi:Nat}{ov:V}{l:List Nat}{n e:Int}(c:st.df=[]) (i:st.tm 6=ov) (j:st.tm 7=.int .i64 n) (d:st.tm 8=.int .i64 e) (m:OrdV st.ob lo hi ov l) (a:st.ro<=lo):Q5 [.t 6,.t 7,.t 8] (jyi (yp l,n,e)) .ret st:=by obtain⟨b,k,f⟩:=jva m a;refine jmj (ns:=[6,7,8]) (vs:=[ov,.int .i64 n,.int .i64 e]) (ls:=[.sl none b l.length ((yp l).flatMap ye),.int .i64 n,.int .i64 e]) (λr h=>⟨b,λh=>by rw[k h];rfl,?_⟩) c (by simp[i,j,d]) zS zS ⟨f,jT rfl,jT rfl,trivial⟩;rw[JV];exact h
section
variable {g:Hist'}{M:List Int}
def ev101 (D:Small g) (h8:g.ts.length<=8) {mn:Bool}(hM:M.length<=1000000) (most:Int):∃v,Ev E 101 [.agg (ya g),yj mn ye M,.int .i64 most] v/\jyi (jam g M most) v:=by
 have L:=j8x D;have u:=ev114 D (b:=mn) M hM;rw[j1o]at u;refine XI rfl zQ ?_;conv in(occs:=*)F101=>all_goals cbv
 simp(disch:=try exact zD)[F101,j0,ya];refine jQ L zI rfl zI ?_;unfold jam;cases hw:jW g;simp;exact QW zS zS zS zS;simp(disch:=try exact zD)[j0,yj];refine jQ u zH rfl zH ?_;cases P:WR g M;simp(disch:=try exact zD);exact QW zS zS zS zS;by_cases x:most<0;simp(disch:=try exact zD)[x];exact QW zS zS zS zS;simp(disch:=try exact zD)[x,j0];refine jK (vs:=[.agg (ya g),yj mn ye M]) zH rfl (sv149 D P zL) ?_;rintro v1 J c0 q ⟨b1,b2,N,rv,Z,b3,b4,S,X,B,G,b9,c1,b0⟩;simp only at b1 b2 b3 b4 S X B G;subst b3;simp(disch:=try exact zD)[j0,b4,fdC,j2];refine jK (vs:=[.sl none true 0 []]) zS rfl j9i ?_;rintro v2 i I n ⟨m,m1,T,U,F⟩;simp only at m1 T U F;subst U;have j:q<=m:=by first|omega|(simp at m1;omega)
 have hR:=QM D;have O:=Xm P;obtain⟨c,p⟩:∃c:OnC,c=⟨g,M,N,rv,Z,most,q,n,m⟩:=⟨_,rfl⟩;have hc:c.Ok:=by rw[p];exact⟨P,h8,B,G,b9,⟨j,T⟩,by rw[jpb O];omega⟩
 have n1:N.kF≠2*m+1:=B m j;have n2:N.kV≠2*m+1:=G m j;have Q:∀a,Off q a->i a=if a=N.kF then some ⟨N.uF,.cells (fdC g N rv (.sl Z (yl g).isEmpty (yl g).length ((yl g).flatMap ye)) (.sl none true 0 []) most false)⟩ else J a:=λa y=>by rw[F a,za (y m j)];simp[fdC]
 have hS:OnS c 0 [] [] false i n:=by rw[p];refine⟨⟨.sl none true 0 [],by show i N.kF=_;rw[Q _ B,zb rfl];rfl,.inl ⟨rfl,rfl⟩⟩,S.keep λa y=>by rw[Q a y.o,za y.f],⟨0,by show i N.kV=_;rw[Q _ G,za (dg b9)];exact X⟩,by rw[F,zb rfl]⟩
 clear F;simp;refine jK (vs:=[.ptr N.kF N.uF 0,.ptr (2*m+1) m 0]) zS rfl (by
  have h:=sv150 hc (yz g).length YO 0 [] [] i I 0;rw[p]at h hS;exact h _ n hS zS zQ zS zK (bY _) (bY _) (bY _) (bY _)) ?_
 rintro v3 c2 c5 c4 ⟨r,r2,r3,w',K,s,z,H⟩;simp only at r r2 s;rw[show onM (nxM g M) (yz g) most (yz g).length 0 [] []=J1 g M most from rfl]at r s z H;obtain⟨c3,d,t⟩:=s.f;obtain⟨a0,e⟩:=s.v;simp only at d e t;generalize J1 g M most=R at r s z H d e ⊢;obtain⟨o,sp,w⟩:=R;simp only at r z H d e;have k:(jmb w).length=w.length:=by simp[jmb]
 rw[r];cases sp with
 |true=>simp(disch:=try exact zD)[j0,jS,d,e,fdC,k];exact QW zS zS zS zS
 |false=>
  cases o with
  |none=>simp(disch:=try exact zD)[j0,jS,d,e,fdC,k];exact QW zS zS zS zS
  |some l=>have:=z l rfl;subst this;simp(disch:=try exact zD)[j0,jS,d,e,fdC,k];exact jxi zS zS zS zS (t.frame (λ_ _ _=>by simp) zK) zS
end
abbrev P2:Type:=Int×Int
def pLt (x y:P2):Prop:=x.1<y.1\/x.1=y.1/\x.2<y.2
def pairLe_iff {x y:P2}:QN x y=true ↔ pLt x y\/x=y:=by obtain⟨a,b⟩:=x;obtain⟨c,d⟩:=y;simp only[QN,pLt,bD,aj,ze,bC];omega
def XR (x:P2):¬pLt x x:=by unfold pLt;omega
def Y5 {x y z:P2}(h:pLt x y) (a:pLt y z):pLt x z:=by unfold pLt at *;omega
def QO (x y:P2):pLt x y\/x=y\/pLt y x:=by obtain⟨a,b⟩:=x;obtain⟨c,d⟩:=y;simp only[pLt,bC];omega
def jfo (x:P2):∀l:List P2,(j3g x l).Perm (x::l)
 |[]=>em _
 |y::r=>by unfold j3g;split;exact em _;exact((jfo x r).cons y).trans (List.Perm.swap x y r)
def XP:∀l:List P2,(jaa l).Perm l
 |[]=>em _
 |x::r=>(jfo x (jaa r)).trans ((XP r).cons x)
def jxe (x:P2):∀{l:List P2},l.Pairwise (λa b=>QN a b=true)->(j3g x l).Pairwise λa b=>QN a b=true
 |[],_=>ft _ _
 |y::r,h=>by rw[bO]at h;unfold j3g;split;rename_i c;rw[bO];refine⟨λz d=>?_,bO.2 h⟩;rcases bq.1 d with rfl|d;exact c;rw[pairLe_iff]at c ⊢;have:=pairLe_iff.1 (h.1 z d);rcases c with c|rfl;rcases this with h2|rfl;exact .inl (Y5 c h2);exact .inl c;exact this;rename_i c;rw[bO];refine⟨λz d=>?_,jxe x h.2⟩;rcases bq.1 ((jfo x r).mem_iff.1 d) with rfl|d;rw[pairLe_iff]at c ⊢;rcases QO y z with h|h|h;exact .inl h;exact .inr h;exact zf (.inl h) c;exact h.1 z d
def jii:∀l:List P2,(jaa l).Pairwise λa b=>QN a b=true
 |[]=>List.Pairwise.nil
 |x::r=>jxe x (jii r)
def jae:List P2->List P2
 |[]=>[]
 |x::r=>x::match jae r with
  |[]=>[]
  |y::s=>if x=y then s else y::s
def compP_mem {z:P2}:∀{l:List P2},z∈jae l ↔ z∈l
 |[]=>bI
 |x::r=>by
  have a:=compP_mem (z:=z) (l:=r);rw[jae];cases h:jae r with
  |nil=>rw[h]at a;simp only[cQ,false_iff]at a;simp[a]
  |cons y s=>rw[h]at a;simp only;split;rename_i e;subst e;simp only[bq]at a ⊢;constructor;exact λh=>h.elim .inl λh=>.inr (a.1 (.inr h));exact λh=>h.elim .inl λh=>a.2 h;simp only[bq]at a ⊢;rw[a]
def jql:∀{l:List P2},l.Pairwise (λa b=>QN a b=true)->(jae l).Pairwise pLt
 |[],_=>List.Pairwise.nil
 |x::r,h=>by
  rw[bO]at h;have d:=jql h.2;rw[jae];cases i:jae r with
  |nil=>exact ft _ _
  |cons y s=>rw[i]at d;rw[bO]at d;have j:y∈r:=compP_mem.1 (by rw[i];exact aJ ..);have f:=pairLe_iff.1 (h.1 y j);simp only;split;rename_i e;subst e;exact bO.2 d;rename_i e;have c:pLt x y:=f.resolve_right e;rw[bO];refine⟨λz g=>?_,bO.2 d⟩;rcases bq.1 g with rfl|g;exact c;exact Y5 c (d.1 z g)
def jki:∀{l m:List P2},l.Pairwise pLt->m.Pairwise pLt->(∀z,z∈l ↔ z∈m)->l=m
 |[],[],_,_,_=>rfl
 |[],y::m,_,_,h=>zf ((h y).2 (aJ ..)) cQ
 |x::l,[],_,_,h=>zf ((h x).1 (aJ ..)) cQ
 |x::l,y::m,h1,h2,h=>by
  rw[bO]at h1 h2;have c:=bq.1 ((h x).1 (aJ ..));have b:=bq.1 ((h y).2 (aJ ..));have e:x=y:=by rcases c with e|c;exact e;rcases b with e|b;exact e.symm;exact zf (Y5 (h1.1 y b) (h2.1 x c)) (XR _)
  subst e;rw[jki h1.2 h2.2 λz=>?_];constructor;intro a;rcases bq.1 ((h z).1 (aQ _ a)) with e|h';subst e;exact zf (h1.1 z a) (XR _);exact h';intro a;rcases bq.1 ((h z).2 (aQ _ a)) with e|h';subst e;exact zf (h2.1 z a) (XR _);exact h'
def Ja (N:Nat) (p:Nat->Nat->Bool):List P2:=(List.range N).flatMap λa=>((List.range N).filter (p a)).map λb:Nat=>((a:Int),(b:Int))
def edgesOf_mem {N:Nat}{p:Nat->Nat->Bool}{z:P2}:z∈Ja N p ↔ ∃a b:Nat,a<N/\b<N/\p a b=true/\z=((a:Int),(b:Int)):=by unfold Ja;simp only[ct,aX,aI,bA];constructor;rintro⟨a,d,b,⟨e,c⟩,rfl⟩;exact⟨a,b,d,e,c,rfl⟩;rintro⟨a,b,d,e,c,rfl⟩;exact⟨a,d,b,⟨e,c⟩,rfl⟩
def jsy (N:Nat) (p:Nat->Nat->Bool):(Ja N p).Pairwise pLt:=by unfold Ja;rw[List.pairwise_flatMap];refine⟨λa _=>?_,?_⟩;rw[eY];refine(gZ.filter _).imp fun {b c} h=>?_;exact Or.inr ⟨rfl,ib.2 h⟩;refine gZ.imp fun {a b} h x e y d=>?_;obtain⟨_,_,rfl⟩:=aI.1 e;obtain⟨_,_,rfl⟩:=aI.1 d;exact Or.inl (ib.2 h)
def jxz {N:Nat}{p:Nat->Nat->Bool}{l:List P2}(h:∀z,z∈l ↔ ∃a b:Nat,a<N/\b<N/\p a b=true/\z=((a:Int),(b:Int))):jae (jaa l)=Ja N p :=
 jki (jql (jii l)) (jsy N p) λz=>by rw[compP_mem,(XP l).mem_iff,h,edgesOf_mem]
def ja6 (n:Nat) (p:Nat->Nat->Bool) (D:List Nat) (a:Nat):Bool:=!D.contains a&&(List.range n).all λx=>!p x a||D.contains x
def jcm (n:Nat) (p:Nat->Nat->Bool):Nat->List Nat->Option (List Nat)
 |0,D=>some D
 |k+1,D=>match (List.range n).find? (ja6 n p D) with
  |none=>none
  |some a=>jcm n p k (D++[a])
def cntP (n:Nat) (p:Nat->Nat->Bool) (D:List Nat) (b:Nat):Nat:=((List.range n).filter λx=>p x b && !D.contains x).length
structure AhOk (n:Nat) (p:Nat->Nat->Bool) (D:List Nat) (A:List Int):Prop where
 l:A.length=n
 d:∀b,b<n->b∈D->A.getD b 0 = -1
 c:∀b,b<n->b ∉ D->A.getD b 0=cntP n p D b
 k:∀b x,b∈D->x<n->p x b=true->x∈D
def j1w {n:Nat}{p:Nat->Nat->Bool}{D:List Nat}{a:Nat}(h:a ∉ D):ja6 n p D a=true ↔ cntP n p D a=0:=by
 unfold ja6 cntP;rw[cG,fH];have:D.contains a=false:=by simpa using h
 rw[this,cu,cp,ap];constructor;intro b x c;have:=b x c;cases d:p x a<;>simp_all;intro b x c;have:=b x c;cases d:p x a<;>simp_all
def AhOk.free {n:Nat}{p:Nat->Nat->Bool}{D:List Nat}{A:List Int}(h:AhOk n p D A) {a:Nat}(e:a<n):ja6 n p D a=decide (A.getD a 0=0):=by
 rw[bu,ze];by_cases b:a∈D;have g:=h.d a e b;have:ja6 n p D a=false:=by simp[ja6,b]
 rw[this];constructor;exact λh=>(by cases h);intro f;omega;rw[j1w b,h.c a e b];omega
def AhOk.find {n:Nat}{p:Nat->Nat->Bool}{D:List Nat}{A:List Int}(h:AhOk n p D A):(List.range n).find? (ja6 n p D)=(List.range n).find? λa=>decide (A.getD a 0=0):=by
 have:∀l:List Nat,(∀a∈l,a<n)->l.find? (ja6 n p D)=l.find? λa=>decide (A.getD a 0=0):=by
  intro l;induction l with
  |nil=>intro _;rfl
  |cons a l e=>intro c;rw[List.find?_cons,List.find?_cons,h.free (c a (aJ ..)),e λb f=>c b (aQ _ f)]
 exact this _ λa d=>aX.1 d
def decL (A:List Int) (bs:List Nat):List Int:=bs.foldl (λA b=>A.set b (A.getD b 0-1)) A
def jxw (A:List Int) (bs:List Nat) (b:Nat):decL A (bs++[b])=(decL A bs).set b ((decL A bs).getD b 0-1):=by simp[decL]
def jqk (A:List Int):∀a:List Nat,(decL A a).length=A.length:=by
 intro a;induction a generalizing A with
 |nil=>rfl
 |cons b a c=>rw[show decL A (b::a)=decL (A.set b (A.getD b 0-1)) a from rfl,c,dv]
def jd7 (A:List Int) {b:Nat}(a:b<A.length) (x:Int) (c:Nat):(A.set b x).getD c 0=if c=b then x else A.getD c 0:=by rw[aC,aC,List.getElem?_set];by_cases h:b=c;subst h;simp[a];rw[za h,za (dg h)]
def jxx (A:List Int):∀(bs:List Nat),bs.Nodup->(∀b∈bs,b<A.length)->∀c,(decL A bs).getD c 0=A.getD c 0-if c∈bs then 1 else 0:=by
 intro bs;induction bs generalizing A with
 |nil=>intro _ _ c;simp[decL]
 |cons b bs g=>intro e f c;rw[dj]at e;have d:=f b (aJ ..);rw[show decL A (b::bs)=decL (A.set b (A.getD b 0-1)) bs from rfl,g _ e.2 (λx i=>by rw[dv];exact f x (aQ _ i)),jd7 A d];by_cases h:c=b;subst h;rw[zb rfl,za e.1,zb (aJ ..)];omega;rw[za h];by_cases a:c∈bs;rw[zb a,zb (aQ _ a)];rw[za a,za (by simp[h,a])]
def j7s (n:Nat) (p:Nat->Nat->Bool) (D:List Nat) (b:Nat):cntP n p D b<=n:=bH (bR _ _) zS
def j7r {n:Nat}{p:Nat->Nat->Bool}{D:List Nat}{a:Nat}(j:a<n) (i:a ∉ D) (b:Nat):cntP n p D b=cntP n p (D++[a]) b+if p a b=true then 1 else 0:=by
 have d:∀l:List Nat,l.Nodup->(l.filter λx=>p x b && !D.contains x).length=(l.filter λx=>p x b && !(D++[a]).contains x).length+if a∈l/\p a b=true then 1 else 0:=by
  intro l;induction l with
  |nil=>intro _;simp
  |cons x l c=>
   intro f;rw[dj]at f;have c:=c f.2;by_cases e:x=a;subst e;have g:D.contains x=false:=by simpa using i
   have h:(D++[x]).contains x=true:=zS;rw[cC,cC,g,h];rw[za (by simp[f.1])]at c;cases k:p x b;simp only[bZ,ak,zc,and_false];exact c;simp only[cp,cu,cl,zd,ak,zc,bg,c,bq,true_or,and_self,br];have g:(D++[a]).contains x=D.contains x:=by rw[bu];simp[e]
   rw[cC,cC,g];have h:(a∈x::l/\p a b=true) ↔ (a∈l/\p a b=true):=by simp[dg e]
   simp only[h];split;simp only[bg,c];omega;exact c
 have:=d (List.range n) List.nodup_range;unfold cntP;rw[this];simp[j]
def AhOk.rng {n:Nat}{p:Nat->Nat->Bool}{D:List Nat}{A:List Int}(h:AhOk n p D A) (b:Nat):-1<=A.getD b 0/\A.getD b 0<=n:=by by_cases e:b<n;by_cases a:b∈D;rw[h.d b e a];omega;rw[h.c b e a];have:=j7s n p D b;omega;rw[aC,dr (by rw[h.l];omega)];simp
def AhOk.next {n:Nat}{p:Nat->Nat->Bool}{D:List Nat}{A:List Int}(h:AhOk n p D A) {a:Nat}(s:a<n) (q:ja6 n p D a=true) {bs:List Nat}(j:∀b,b∈bs ↔ b<n/\p a b=true) (B:bs.Nodup):AhOk n p (D++[a]) (decL (A.set a (-1)) bs):=by
 unfold ja6 at q;simp only[aj,bS,ap,aX]at q;have t:a ∉ D:=by simpa using q.1
 have m:∀x,x<n->p x a=true->x∈D:=λx r f=>by have:=q.2 x r;simpa[f] using this
 have v:∀b,b∈D->p a b=false:=λb g=>by cases f:p a b;rfl;exact zf (h.k b a g s f) t
 have w:p a a=false:=by cases f:p a a;rfl;exact zf (m a s f) t
 have z:(A.set a (-1)).length=n:=by rw[dv,h.l]
 have o:∀c,(decL (A.set a (-1)) bs).getD c 0=(if c=a then -1 else A.getD c 0)-if c∈bs then 1 else 0:=λc=>by rw[jxx _ bs B (λb g=>by rw[z];exact((j b).1 g).1),jd7 A (by rw[h.l];exact s)]
 refine⟨by rw[jqk,z],λb g i=>?_,λb g i=>?_,λb x g r f=>?_⟩;rw[o];rw[aP,ae]at i;have y:b ∉ bs:=λu=>by have:=((j b).1 u).2;rcases i with i|rfl;rw[v b i]at this;cases this;rw[w]at this;cases this
 rw[za y];by_cases e:b=a;rw[zb e];omega;rw[za e,h.d b g (i.resolve_right e)];omega;rw[aP,ae,not_or]at i;rw[o,za i.2,h.c b g i.1,j7r s t b];by_cases f:p a b=true;rw[zb f,zb ((j b).2 ⟨g,f⟩)];omega;rw[za f,za λu=>f ((j b).1 u).2];omega;rw[aP,ae]at g ⊢;rcases g with g|rfl;exact .inl (h.k b x g r f);exact .inl (m x r f)
section
end
section
end
section
end
def j9a:List UInt8:=[98,101,103,105,110,32,115,10,114,101,97,100,32,115,32,120,32,110,105,108,10,111,107,32,115]
def H20:Hist':=⟨false,[[115]],false,[[120]],false,[⟨0,1,false,[⟨false,0,⟨0,0⟩⟩]⟩]⟩
def k20:(yJ E 100 noY).d 29 [.str j9a]=some (.tup [(.agg [(.sl (some (0,1)) false 1 [(.str [115])]),(.sl (some (1,1)) false 1 [(.str [120])]),(.sl (some (2,3)) false 1 [(.int .i64 0),(.int .i64 1),(.sl none false 1 [(.bool false),(.int .i64 0),(.int .i64 0),(.int .i64 0)])])]),(.int .i64 0),(.int .i64 0)]):=by kernel_rfl
end Go.Pv.T
namespace Go.Pv.T
open Go Go.Pv
end Go.Pv.T
namespace Go.Pv.T
open Go Go.Pv
end Go.Pv.T
namespace Go.Pv.T
open Go Go.Pv
end Go.Pv.T
namespace Go.Pv.T
open Go Go.Pv
def j11:few3S=.seq (hdC few3S) few4S:=rfl
def few3O {h:Hist'}{Yf:YF}{ob0:ZO}{ub ro:Nat}{s0:St}{Q:Ex->St->Prop}{N1 H:Nat}{S0 K0:V}(c4:ro<=ub) (hs:FewO h ob0 ub ro s0 25 45 N1 H S0 K0 (.sl none true 0 []) [])
 (w:∀s F P,P.map (·.1)=(h.ts.take 45).map fewT->FewO h ob0 ub ro s 25 45 N1 H S0 K0 F P->wpC E Yf few4S s Q):wpC E Yf few3S s0 Q:=by
 rw[j11];obtain⟨r,f2,G,fd,fr,S,o2,J,gS,gK,gT,n0,n1,n2,ff⟩:=hs;simp only[few3S,few2S,few1S];conv in(occs:=*)S27=>all_goals cbv
 simp[hdC,tlC];refine j7 [(6,7),(67,98)] 45 (λi s=>s.tm 6=.int .i64 i/\i<=h.ts.length/\∃F P,P.map (·.1)=(h.ts.take i).map fewT/\FewO h ob0 ub ro s 25 45 N1 H S0 K0 F P) rfl rfl ?_ ?_;refine⟨zS,zS,.sl none true 0 [],[],zS,⟨by simp[r],by simp[f2],by simp[G],by simp[fd],by simp[fr],by simp[S],by simp[o2],by simp[J],gS.frame (λ_ _ _=>by simp) zK zK,gK.frame (λ_ _ _=>by simp) zK zK,⟨zS,.inl ⟨rfl,rfl⟩⟩,n0,n1,by simp;omega,λa e=>by simp[ff a e]⟩⟩;rintro i s hi ⟨h4,b9,F,P,hP,r,f2,G,fd,fr,S,o2,J,gS,gK,gT,n0,n1,n2,ff⟩ f;clear f;have q:¬(i<h.ts.length/\i<45)->∀m:St,(m.tm 1=s.tm 1/\m.tm 2=s.tm 2/\m.tm 3=s.tm 3)->m.df=s.df->m.ro=s.ro->m.ob=s.ob->s.nx<=m.nx->wpC E Yf few4S m Q:=by intro hx m ⟨q1,q2,q3⟩ n e3 x e5;refine w m F P (hP.trans (j68 b9 hi hx)) ⟨q1.trans r,q2.trans f2,q3.trans G,by rw[n];exact fd,by rw[e3];exact fr,by rw[x];exact S,by rw[x];exact o2,by rw[x];exact J,by rw[x];exact gS,by rw[x];exact gK,?_,n0,n1,zO,λa e=>by rw[x];exact ff a e⟩;exact gT.frame (λ_ _ _=>by rw[x]) e5
 have D:s.ob (2*ub+1)=some ⟨ub,.cells [yj h.sn Jj h.ss,yj h.kn Jj h.ks,yj h.tn jt h.ts]⟩:=S;by_cases o:i<h.ts.length;by_cases O:i<45;have hw:=jc O zO;have j:(i:Int)<45:=zO;obtain⟨t,ht⟩:∃t,h.ts[i]=t:=⟨_,rfl⟩;have B:=ji2 t.ops.length 25;rw[show((25:Nat):Int)=25 from rfl]at B;have U:=jzi jH t.nl t.ops 25 .i64;have b7:min t.ops.length 25=(t.ops.take 25).length:=by rw[ai,Nat.min_comm]
 rw[b7]at U B;generalize hL:t.ops.take 25=L at *;have c7:L.length<=25:=by rw[<- hL,ai];omega
 have a0:(L.flatMap yP).all V.leaf=true:=by rw[fE,ap];intro _ _;rfl
 obtain⟨z,hz⟩:∃z,s.nx=z:=⟨_,rfl⟩;simp[h4,r,D,j0,o,j,j6 j9,jh j9,ht,jt,fr,j2,hz];refine⟨zO,?_⟩;refine JB (cs:=[]) rfl rfl rfl ?_;simp[j0];obtain⟨d,hB⟩:∃y,(z+64+64+64+64+64+64+64+64+64+64+64+64+64+64+64+64)=y:=⟨_,rfl⟩;obtain⟨b,hA⟩:∃y,(z+64+64+64+64+64+64+64+64+64+64+64+64+64+64)=y:=⟨_,rfl⟩;have c8:d=b+128:=zO;have c9:z+896=b:=zO;rw[hB,hA];have w1:¬2*b=2*d:=zO;have w2:¬2*d=2*b:=zO;simp[j0,w1,B,U];refine j07 (f:=yP) (l:=L) (z:=d) zS zS (by simp[fr];omega) (by simp[yj,jE,j3 jH]) jH zQ a0 zO zO ?_;intro s1 u hu c0 cf K cd cr cb ck;have c6:d<=u:=zO;have c1:u<=d+512:=zO;have cA:s1.ob (2*b+1)=some ⟨b,.cells [.int .i64 t.s,.int .i64 t.f,yj t.nl yP t.ops]⟩:=by rw[cf _ zO zO];simp[w1]
 have cO:∀a,a≠2*b+1->a≠2*d+1->a≠2*(d+512)+1->s1.ob a=s.ob a:=by intro a k1 k2 k3;rw[cf _ k2 zO];simp[k1,k2]
 have v1:¬2*b=2*(ub+192):=zO;have v2:¬2*(ub+192)=2*b:=zO;have c3:s1.ob (2*(ub+192)+1)=some ⟨ub+192,.cells [S0,K0,F]⟩:=(cO _ zO zO zO).trans J;have b5:ro<=b:=zO;simp[K,j0,cA,cr,fr,j2,G,c3,v2,b5];obtain⟨p,hp⟩:∃p,(fewT t,u)=p:=⟨_,rfl⟩;have X:txU p=[.int .i64 t.s,.int .i64 t.f,.osl (2*u+1) u 0 L.length 4]:=by rw[<- hp];simp[txU,fewT,<- hL]
 refine JB (cs:=txU p) (by rw[X];simp[j2]) rfl (by rw[X];rfl) ?_;simp;obtain⟨N,hE⟩:∃y,(d+64+64+64+64+64+64+64+64+64+64+64+64+64+64)=y:=⟨_,rfl⟩;have c5:d+896=N:=zO;rw[hE];have c2:P.length=i:=by have:=zg List.length hP;rw[bp,bp,ai]at this;omega
 have v:p.2=u:=by rw[<- hp]
 have M:p.1=fewT t:=by rw[<- hp]
 have b0:p.1.ops=L:=by rw[M];exact hL
 rw[hz]at gT n2;have g:∀y,y<z->s1.ob (2*y+1)=s.ob (2*y+1):=λy y2=>cO _ zO zO zO;refine jnm (lo:=H) (hi:=z) (P:=P) (p:=p) ?_ zO (by simp[cr,fr];omega) (by simp[jE,j0];rfl) ?_ n2 zO ?_;simp;refine gT.frame (λy y1 y2=>?_) zK;have c:¬2*y=2*N:=zO;have n:¬2*y=2*b:=zO;simp[c,n];exact g y y2;refine⟨by rw[M];rfl,by rw[v];omega,by rw[v];omega,L.flatMap yP,?_,?_,?_⟩;rw[v];have c:¬2*u=2*N:=zO;have n:¬2*u=2*b:=zO;simp[c,n];exact c0;rw[b0,j3 jH];exact dy _;rw[b0,<- j3 jH,bf];intro s4 v4 T x4 xt xd xr xb xk;obtain⟨I,b8⟩:=T.leaf;have Z:∀y,(y<H)->s4.ob (2*y+1)=s.ob (2*y+1):=by intro y hy;rw[x4 _ (λy y1 y2=>by omega) zO];have c:¬2*y=2*N:=zO;have n:¬2*y=2*b:=zO;simp[c,n];exact g y zO
 have x3:=(Z (ub+192) zO).trans J;have b6:(P++[p]).map (·.1)=(h.ts.take (i+1)).map fewT:=by rw[bw,hP,aw o,bw,ht,<- hp];rfl
 simp[xt,K,G,j0,x3,xr,cr,fr,j2,I,b8,h4,hw];have b1:¬2*ub=2*(ub+192):=zO;have b2:¬2*(ub+64)=2*(ub+192):=zO;refine⟨zO,O,zO,v4,P++[p],by rw[b6,fh],⟨by simp[xt,K,r],by simp[xt,K,f2],by simp[xt,K,G],by simp[xd,cd,fd],by simp[xr,cr,fr],by simp[b1];exact(Z ub zO).trans S,by simp[b2];exact(Z (ub+64) zO).trans o2,zS,
  gS.frame (λy h1 h2=>?_) zK zK,gK.frame (λy h1 h2=>?_) zK zK,T.frame (λy h1 h2=>?_) (by simp<;>omega),n0,n1,by simp<;>omega,λa e=>?_⟩⟩
 have c:¬2*y=2*(ub+192):=zO;simp[c];exact Z y zO;have c:¬2*y=2*(ub+192):=zO;simp[c];exact Z y zO;have c:¬2*y=2*(ub+192):=zO;simp[c];have c:=e (ub+192) zO;have n:=e N zO;have e3:=e b zO;simp[c];rw[x4 _ (λy y1 y2=>e y zO) (e _ zO)];simp[n,e3];exact(cO a e3 (e d zO) (e (d+512) zO)).trans (ff a e);have j:¬(i:Int)<45:=zO;simp[h4,r,D,j0,o,j];exact q zO _ ⟨zS,zS,zS⟩ zS zS (by funext k;simp) zP;simp[h4,r,D,j0,o];exact q zO _ ⟨zS,zS,zS⟩ zS zS (by funext k;simp) zP
def FewP (h:Hist') (ob:ZO) (ub:Nat) (r:V×(ZO)×(Nat->Bool)×Nat):Prop :=
 ∃Sv Kv Tv P N1 N2,r.1=.agg [Sv,Kv,Tv]/\StO r.2.1 (ub+256) N1 (WS 25 h.ss) Sv/\StO r.2.1 N1 N2 (WS 45 h.ks) Kv/\TsO r.2.1 N2 r.2.2.2 P Tv/\P.map (·.1)=(h.ts.take 45).map fewT/\ub+256<=N1/\N1<=N2/\N2<=r.2.2.2 /\
  ∀key,(∀m,ub<=m->key≠2*m+1)->r.2.1 key=ob key
def sv27 {Yf:YF}{h:Hist'}{ob:ZO}{tk:Nat->Bool}{ro base ub:Nat}(a:ro<=ub):∃r,EvS E Yf.y 27 [.agg (ya h)] ob tk ro base ub r/\FewP h ob ub r:=by
 refine J7 rfl zQ ?_;show wpC E Yf S27.body _ (Jd S27.res _);refine few0S a λN d=>?_;refine few1O a d λL m c=>?_;refine few2O a c λO p z=>?_;refine few3O a z λH k P D t=>?_;obtain⟨K,o,F,q,fr,M,v,x,i,j,n,w,G,T,u⟩:=t;obtain⟨lS,I⟩:=i.leaf;obtain⟨B,J⟩:=j.leaf;obtain⟨s,S⟩:=n.leaf;have b1:¬2*(ub+192)=2*(ub+64):=zO;have g:S27.res=[.cell 2 (some 3)]:=rfl;rw[g];generalize e:Jd [.cell 2 (some 3)] (FewP h ob ub)=Q;simp only[few4S,few3S,few2S,few1S];conv in(occs:=*)S27=>all_goals cbv
 simp[tlC,o,F,v,x,j0,fr,j2,lS,B,s];refine⟨zO,?_⟩;rw[<- e];refine⟨(.agg [m,p,k],_,_,_),by simp[endS,q,jy,o,j0];exact⟨rfl,rfl,rfl⟩,m,p,k,P,_,_,rfl,i.frame (λy d c=>?_) zK zK,j.frame (λy d c=>?_) zK zK,n.frame (λy d c=>?_) ?_,D,w,G,?_,λf l=>?_⟩;have b:¬2*y=2*(ub+64):=zO;simp[b];have b:¬2*y=2*(ub+64):=zO;simp[b];have b:¬2*y=2*(ub+64):=zO;simp[b];simp;omega;simp;omega;have b:=l (ub+64) zO;simp[b];exact u f l
end Go.Pv.T
