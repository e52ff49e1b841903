/- Part. -/
import Derived.Test.YtmanndcfeicokaaGreatDoorRK
set_option maxRecDepth 100000
set_option maxHeartbeats 8000000
set_option linter.all false
namespace Go.Pv.T
open Go Go.Pv
def OnP (c:OnC) (n:Nat):Prop:=∀(Yf:YF) (w:Nat) (done vis:List Nat) (ob:ZO) (tk:Nat->Bool) (ro base ub:Nat),OnS c w done vis false ob ub->done.length+n=(yC c.g).length->w<256->w ∉ vis->c.n1<=ub->ro<=c.n1->ro<=c.N.uF->ro<=c.N.uV->ro<=c.uS ->
 ∃r,EvS E Yf.y 150 [.ptr c.N.kF c.N.uF 0,.ptr (2*c.uS+1) c.uS 0] ob tk ro base ub r/\OnR c w done (onM (nxM c.g c.M) (yC c.g) c.most n w done vis) ob ub r
def jmj {nx:Nat->Nat->Bool}{C:List Nat}{most:Int}{w:Nat}{done vis:List Nat}(h:(vis.length:Int)=most):∀n,onM nx C most n w done vis=(none,true,vis)
 |0=>by rw[onM,zb h]
 |n+1=>by rw[onM,zb h]
def jm8 {F:Env}{Yf:YF}{lo hi t ub:Nat}{ov:V}{done:List Nat}{s x:A}{st:St}{K:St->Nat->Prop}{d:Option Nat}(f:ye F st.tm s=ov) (l:OrdV st.ob lo hi ov done) (j:st.ro<=lo) (g:yp st.ob 1 (ye F st.tm x)=some [.int .i64 (t:Int)]) (m:done.length<=1000)
 (h:∀e:List Nat,(e=[]\/∃u,lo<=u/\u<hi/\e=[2*u+1])->QP K st d ub { v:=.osl (2*ub+1) ub 0 (done.length+1) 1,obs:=[(2*ub+1,⟨ub,.cells ((yt (done++[t])).flatMap yf)⟩)],kill:=e }):j8 F Yf ⟨d,.append true 1 8 s x,none,true⟩ st ub K:=by
 rcases l with⟨rfl,rfl⟩|⟨u,cs,rfl,b,k,i⟩;refine X9 f g zS zQ rfl zS zS ?_;simpa[yf,jI,yt] using h [] (.inl rfl)
 ·have a:((yt done).flatMap yf).length=done.length:=by rw[j1 j6,JA];omega
  refine JL (cs:=(yt done).flatMap yf++cs) f g b zS zO (by rw[ap];omega) zQ rfl zP zP ?_;have:=h [2*u+1] (.inr ⟨u,k,i,rfl⟩);rw[bx,ee a];simpa[yf,jI,yt] using this
section
variable {c:OnC}
def OnS.upd {w:Nat}{done vis b:List Nat}{sp:Bool}{ob ob':ZO}{ub g:Nat}(h:OnS c w done vis sp ob ub) (i:c.Ok) (t:c.n1<=ub) (n:ub<=g) (j:∀a,Off ub a->a≠c.N.kV->ob' a=ob a) (p:∃k,ob' c.N.kV=some ⟨c.N.uV,.mp k (MK .u64 jht (jod b))⟩):OnS c w done b sp ob' g:=by obtain⟨ov,r,q⟩:=h.f;have m:=i.s;refine⟨⟨ov,(j _ (i.f.up zO) i.fv).trans r,q.frame (λu x l=>j _ (Off.new l) λe=>i.v u zO e.symm) n⟩,h.d.keep λa h=>j _ (h.o.up zO) h.v,p,(j _ (Off.new zO) λe=>i.v c.uS m.1 e.symm).trans h.s⟩
def OnS.keep {w:Nat}{done vis:List Nat}{sp:Bool}{ob ob':ZO}{ub b:Nat}(h:OnS c w done vis sp ob ub) (e:c.Ok) (i:c.n1<=ub) (g:ub<=b) (f:∀a,Off ub a->ob' a=ob a):OnS c w done vis sp ob' b:=by obtain⟨d,j⟩:=h.v;have k:=e.s;exact h.upd e i g (λa h _=>f a h) ⟨d,(f _ (e.v.up zO)).trans j⟩
def jxz (z:c.Ok) (n:Nat) (ih:∀k,n=k+1->OnP c k):OnP c n:=by
 intro Yf w done vis ob tk ro h7 ub hS i0 hw c8 c0 d1 b0 d4 g8;obtain⟨ov,Z,hO⟩:=hS.f;obtain⟨ver,hV⟩:=hS.v;have K:=hS.s;have gS:=z.s;have oF:=(z.f.up (show c.n0<=ub by omega)).ne;have oV:=(z.v.up (show c.n0<=ub by omega)).ne;have nS:∀m,ub<=m->¬c.uS=m:=λm hm=>by omega
 have fv:=z.fv;have fs:c.N.kF≠2*c.uS+1:=z.f c.uS gS.1;have vs:c.N.kV≠2*c.uS+1:=z.v c.uS gS.1;have g7:(jod vis).length=vis.length:=by simp[jod]
 refine J6 rfl zQ ?_;show wpC E Yf S150.body _ (Jh S150.res _);conv in(occs:=*)S150=>all_goals cbv
 simp(disch:=try exact zD)[S150,ya,Z,fdC,jY,hV,g7];by_cases H:(vis.length:Int)=c.most
 ·simp(disch:=try exact zD)[H,ya,Z,fdC,j2];refine⟨b0,JN zS ?_⟩;rw[jmj H];refine⟨zS,by simp;omega,λj p x B D=>by simp[x],w,done,⟨⟨ov,by simp[fdC],hO.frame (λu x B=>?_) zP⟩,hS.d.keep λj p=>by simp[p.f],⟨ver,by simp[dz fv,hV]⟩,by simp[dz fs,K]⟩,λl h=>(by cases h),λ_ h=>(by cases h)⟩;have:2*u+1≠c.N.kF:=λe=>z.f u zO e.symm;simp[this]
 have b5:((vis.length:Int)==c.most)=false:=by simpa using H
 have g3:vis.contains w=false:=by simpa using c8
 simp(disch:=try exact zD)[b5,ya,Z,fdC];refine jcy (vs:=[.ptr (2*c.uS+1) c.uS 0]) zS rfl rfl (j6h (w:=w) (zU K) (Off.new zL) zO _ _) (JZ rfl) ?_;simp;rw[jqt (vis:=vis) (y:=w) (by simp[jY,hV]),g3,za zQ];simp[show IntKind.i64.wrap 1=1 from rfl];refine ju4 (q:=.u64) (f:=jht) (a:=1) (ver:=ver) (k:=(w:Int)) (l:=c.N.kV) (u:=c.N.uV) (jod vis) zS zS (by simp[jht,V.strip]) (by simp[hV]) (zU d4) ?_;rw[j66 c8];simp;have b7:∀i2:ZO,WZ ov=some (.int .i64 (done.length:Nat)):=λ_=>by rcases hO with⟨rfl,rfl⟩|⟨u,cs,rfl,_⟩<;>rfl
 have i6:=jaz c.g;simp(disch:=try exact zD)[ya,Z,fdC,OnC.al,fv,b7 ob];by_cases h0:n=0
 ·subst h0;have e0:(done.length:Int)=(ym c.g).length:=zO;simp[e0];refine JN zS ?_;rw[onM,za H];refine⟨zS,zL,λj p x B D=>by simp[B],w,done,hS.upd z c0 zL (λj p h=>by simp[h]) ⟨ver+1,zS⟩,λl h=>by cases h;rfl,λh=>by cases h⟩
 ·obtain⟨k,rfl⟩:∃k,n=k+1:=⟨n-1,zO⟩;have e0:((done.length:Int)==(ym c.g).length)=false:=by simp;omega
  simp[e0];simp(disch:=try exact zD)[ya,Z,fdC,OnC.al,fv];refine jQ λX F=>?_;have g0:X.tm 0=.ptr c.N.kF c.N.uF 0:=by rw[F];simp
  have g1:X.tm 1=.ptr (2*c.uS+1) c.uS 0:=by rw[F];simp
  have g9:X.tm 42=.sl c.tc (ym c.g).isEmpty (ym c.g).length ((ym c.g).flatMap yf):=by rw[F];simp
  have f0:X.tm 43=.int .i64 (ym c.g).length:=by rw[F];simp
  have f9:X.tm 44=.int .i64 0:=by rw[F];simp
  have gd:X.df=[]:=by rw[F];simp
  have gr:X.ro=ro:=by rw[F];simp
  have gn:ub<=X.nx:=by rw[F];simp;omega
  have gO:OnS c w done (vis++[w]) false X.ob X.nx:=hS.upd z c0 gn (λj p h=>by rw[F];simp[h]) ⟨ver+1,by rw[F];simp⟩;have gR:c.Rest ob X.ob:=λj p x B D=>by rw[F];simp[B]
  clear F;obtain⟨R,hR⟩:∃R,R=loopM (onM (nxM c.g c.M) (yC c.g) c.most k) (nxM c.g c.M) w done (yC c.g) (vis++[w]):=⟨_,rfl⟩;have c1:onM (nxM c.g c.M) (yC c.g) c.most (k+1) w done vis=R:=by rw[onM,za H,hR]
  rw[c1];obtain⟨J,hJ⟩:∃J:Nat->St->Prop,J=λi s=>s.tm 44=.int .i64 i/\(∃vis,OnS c w done vis false s.ob s.nx/\R=loopM (onM (nxM c.g c.M) (yC c.g) c.most k) (nxM c.g c.M) w done ((yC c.g).drop i) vis)/\c.Rest ob s.ob/\ub<=s.nx:=⟨_,rfl⟩;refine j5 [(4,4),(6,6),(44,108)] (ym c.g).length J rfl rfl (by rw[hJ];exact⟨zU f9,⟨_,gO,hR⟩,gR,gn⟩) ?_;clear gO gR gn Z hV hO hS K hR c1 b7;intro i s hi c5 f;rw[hJ]at c5;obtain⟨P,⟨vis,sS,sR⟩,sw,sn⟩:=c5;have s0:s.tm 0=.ptr c.N.kF c.N.uF 0:=by rw[f.t 0 zS];simp[g0]
  have s1:s.tm 1=.ptr (2*c.uS+1) c.uS 0:=by rw[f.t 1 zS];simp[g1]
  have e8:s.tm 42=.sl c.tc (ym c.g).isEmpty (ym c.g).length ((ym c.g).flatMap yf):=by rw[f.t 42 zS];simp[g9]
  have c3:s.tm 43=.int .i64 (ym c.g).length:=by rw[f.t 43 zS];simp[f0]
  have sd:s.df=[]:=by rw[f.d];simp[gd]
  have sr:s.ro=ro:=by rw[f.r];simp[gr]
  clear f;by_cases I:i<(ym c.g).length
  ·have T:i<(yC c.g).length:=zO;obtain⟨t,ht⟩:∃t,t=(yC c.g)[i]:=⟨_,rfl⟩;have d2:t∈yC c.g:=ht▸au T;have g2:=cl_lt z d2;have h4:(ym c.g)[i]=(t:Int):=by
    have x:(ym c.g)[i]? = (yt (yC c.g))[i]?:=by rw[jc5]
    rw[aa I]at x;unfold yt at x;rw[aW,aa T]at x;simpa[ht] using x
   have i4:=z.l;have h6:=Xe c.g;have a0:=jR I zO;have d7:=JD j6 c.tc (ym c.g).isEmpty (ym c.g) .i64 I;have c4:=jn (ym c.g) I;rw[h4]at c4;rw[aP T,<- ht,loopM]at sR;obtain⟨ov,Z,hO⟩:=sS.f;obtain⟨ver,hV⟩:=sS.v;have K:=sS.s;simp(disch:=try exact zD)[P,c3,e8,s1,I,d7,c4];refine jcy (vs:=[.ptr (2*c.uS+1) c.uS 0,.int .i64 t]) zS rfl rfl (jg5 (w:=w) (n:=t) (zU K) (Off.new zL) zO zO _ _) (JZ rfl) ?_;have b8:=j8m z.m z.l w t;have G:(w.testBit t||(!nxM c.g c.M w t||vis.contains (w|||1<<<t)))=true->R=loopM (onM (nxM c.g c.M) (yC c.g) c.most k) (nxM c.g c.M) w done ((yC c.g).drop (i+1)) vis:=λh=>by rw[sR,zb h]
   cases hb:w.testBit t
   ·simp(disch:=try exact zD)[s0,s1];refine jcy (vs:=[.ptr c.N.kF c.N.uF 0,.ptr (2*c.uS+1) c.uS 0,.int .i64 t]) zS rfl rfl (evo212 (g:=c.g) (rv:=c.rv) (al:=c.al) (ov:=ov) (most:=c.most) (sp:=false) (n0:=c.n0) (w:=w) (t:=t) (sS.d.keep λ_ _=>by simp) (zU Z) (z.f.up zL) (zU K) (Off.new zL) zL zO d2 (j5h z t) (jv2 z t) (rds_ok z.m) z.r _ _) (JZ rfl) ?_;rw[b8];rw[show jpf c.g c.M (λa=>w.testBit a) t=nxM c.g c.M w t from rfl];cases hx:nxM c.g c.M w t;simp(disch:=try exact zD)[P,a0,I];rw[hJ];exact⟨zS,⟨vis,sS.keep z zO zL λj _=>by simp,G (by simp[hx])⟩,λj p x B D=>by simpa using sw j p x B D,zL⟩
    ·simp(disch:=try exact zD)[s0,s1,ya,Z,fdC];refine jcy (vs:=[.ptr (2*c.uS+1) c.uS 0]) zS rfl rfl (j6h (w:=w) (zU K) (Off.new zL) zO _ _) (JZ rfl) ?_;have e1:=jjq (n:=t) zO;have e2:=jfm (a:=w) (b:=1<<<t) zO (jrx zO);generalize g5:1<<<t=p1 at e1 e2 G sR;generalize f7:w|||p1=p2 at e2 G sR;simp(disch:=try exact zD)[e1,e2];rw[jqt (vis:=vis) (y:=p2) (by simp[jY,hV])];cases hv:vis.contains p2
     ·have c7:(∀l sp v,onM (nxM c.g c.M) (yC c.g) c.most k p2 (done++[t]) vis=(some l,sp,v)->R=(some l,sp,v))/\(∀v,onM (nxM c.g c.M) (yC c.g) c.most k p2 (done++[t]) vis=(none,true,v)->R=(none,true,v)) /\
       ∀v,onM (nxM c.g c.M) (yC c.g) c.most k p2 (done++[t]) vis=(none,false,v)->R=loopM (onM (nxM c.g c.M) (yC c.g) c.most k) (nxM c.g c.M) w done ((yC c.g).drop (i+1)) v:=by
       rw[sR,za (by rw[hb,hx,hv];simp)]
       exact⟨λl sp v h=>by rw[h],λv h=>by rw[h],λv h=>by rw[h]⟩
      have S:w|||1<<<t=p2:=by rw[g5];exact f7
      simp;refine jJ (vs:=[.ptr (2*c.uS+1) c.uS 0,.int .i64 t]) (by simp[s1]) rfl (jtu (w:=w) (zU K) (Off.new zL) (by first|omega|(simp[sr];omega)) zO zO) ?_;rintro v1 c6 h8 O ⟨r1,r2,r3⟩;simp only at r1 r2 r3;rw[S]at r2;have q1:s.nx<=O:=by first|omega|(simp at r3;omega)
      have q2:∀j,Off s.nx j->c6 j=if j=2*c.uS+1 then some ⟨c.uS,.cells (yv p2)⟩ else s.ob j:=λj p=>by rw[r2 j (p.up zL)];simp
      clear r1 r2 r3;have d0:c6 c.N.kF=some ⟨c.N.uF,.cells (fdC c.g c.N c.rv c.al ov c.most false)⟩:=by rw[q2 _ (z.f.up zO),za fs];exact Z
      simp(disch:=try exact zD)[s0,ya,d0,fdC];refine jZ (cs:=[.int .i64 (t:Int)]) (by simp[j2]) rfl rfl ?_;simp;refine jm8 (lo:=c.n1) (hi:=s.nx) (done:=done) (t:=t) (ov:=ov) zS (hO.frame (λu x B=>?_) zK) (by simpa[sr] using d1) (by simp[yp,ya]) zO λkl d3=>?_;have D:∀m,s.nx<=m->¬u=m:=λm hm=>by omega
      simp(disch:=try exact zD)[yj,D];rw[q2 _ (Off.new B),za zO];have e3:kl.any (Nat.beq c.N.kF)=false:=by rcases d3 with rfl|⟨u,x,B,rfl⟩;rfl;simp only[bp,bC,bm];exact JF (z.f u zO)
      have b6:∀j,Off c.n1 j->kl.any (Nat.beq j)=false:=λj p=>by rcases d3 with rfl|⟨u,x,B,rfl⟩;rfl;simp only[bp,bC,bm];exact JF (p u x)
      generalize e9:List.flatMap yf (yt (done++[t]))=cs9;simp(disch:=try exact zD)[ya,d0,fdC,e3,j2,j9,oF];refine⟨by simpa[sr] using b0,?_⟩;simp(disch:=try exact zD)[s0,s1];refine jJ (vs:=[.ptr c.N.kF c.N.uF 0,.ptr (2*c.uS+1) c.uS 0]) zS rfl (ih k rfl Yf p2 (done++[t]) vis _ _ _ _ _ ?_ zP ?_ (zU hv) zL (by simpa[sr] using d1) (by simpa[sr] using b0) (by simpa[sr] using d4) (by simpa[sr] using g8)) ?_
      ·have e6:¬2*(O+448)+1=c.N.kF:=λe=>oF (O+448) zO e.symm;refine⟨⟨.osl (2*(O+448)+1) (O+448) 0 (done.length+1) 1,by simp[fdC,aA],.inr ⟨O+448,[],zS,?_,zO,zL⟩⟩,sS.d.keep λj p=>?_,⟨ver,?_⟩,?_⟩;simp(disch:=try exact zD)[j9,aA,e6,e9];obtain⟨Q,f2,f3,f4⟩:=z.fix p;have f5:=(Q.up (show c.n1<=ub by omega)).ne;simp(disch:=try exact zD)[j9,f2,f5,b6 j Q];rw[q2 j (Q.up zO),za f4];have Q:=z.v.up (show c.n0<=c.n1 by omega);have f5:=(Q.up (show c.n1<=ub by omega)).ne;simp(disch:=try exact zD)[j9,dz fv,f5,b6 _ Q];rw[q2 _ (Q.up zO),za vs];exact hV;have Q:Off c.n1 (2*c.uS+1):=Off.new gS.2;have f5:=(Q.up (show c.n1<=ub by omega)).ne;simp(disch:=try exact zD)[j9,dz fs,f5,b6 _ Q,yj,nS];rw[q2 _ (Q.up zO),zb rfl]
      have:w|||1<<<t<2^8:=dJ hw (by rw[da];exact dU zQ g2);rw[S]at this;exact this
      ·rintro v2 c2 i5 b9 ⟨r1,r2,r3,w',U,r4,r5,r6⟩;simp only at r1 r2 r3 r4;have q3:O<=b9:=by first|omega|(simp at r2;omega)
       have L:c.Rest ob c2:=λj p x B D=>by rw[r3 j p x B D,<- sw j p x B D];have f5:=(p.up (show c.n1<=ub by omega)).ne;simp(disch:=try exact zD)[j9,x,f5,b6 j p];rw[q2 j (p.up zO),za D]
       clear r2 r3;rcases d5:onM (nxM c.g c.M) (yC c.g) c.most k p2 (done++[t]) vis with⟨o,sp,vv⟩;rw[d5]at r1 r4 r5 r6 c7;obtain⟨x,B,D⟩:=c7;obtain⟨i1,d6,d8⟩:=r4.f;cases o with
       |some l=>rw[r1];simp;refine JN (by simp[sd]) ?_;rw[x l sp vv rfl];exact⟨zS,zL,λj p x B D=>by simpa using L j p x B D,w',U,r4.keep z zO zL λj _=>by simp,r5,λh=>by cases h⟩
       |none=>
        rw[r1];cases sp with
        |true=>simp(disch:=try exact zD)[s0,ya,d6,fdC];refine JN (by simp[sd]) ?_;rw[B vv rfl];exact⟨zS,zL,λj p x B D=>by simpa using L j p x B D,w',U,r4.keep z zO zL λj _=>by simp,λl h=>(by cases h),λ_ h=>by cases h⟩
        |false=>
         obtain⟨rfl,rfl⟩:=r6 rfl rfl;rcases d8 with⟨_,h⟩|⟨u,cs,rfl,e5,g6,h9⟩;exact zf h zS;have g4:IntKind.i64.wrap (done.length:Int)=(done.length:Int):=jg zO zO;have e4:W1 1 none (some (.int .i64 (done.length:Int))) (.osl (2*u+1) u 0 (done.length+1) 1)=some (.osl (2*u+1) u 0 done.length 1):=by have x:(done.length:Int)<=(done.length:Int)+1:=zO;simp[W1,X0,x]
         simp(disch:=try exact zD)[s0,ya,d6,fdC,g4,e4,j2];refine⟨by simpa[sr] using b0,?_⟩;simp(disch:=try exact zD)[s1];have f8:=r4.s;refine jJ (vs:=[.ptr (2*c.uS+1) c.uS 0,.int .i64 t]) zS rfl (sv213 (w:=w') (by simpa[dz fs] using f8) (Off.new zL) (by first|omega|(simp[sr];omega)) zO) ?_;rintro v3 e7 i3 h5 ⟨r7,r8,r9⟩;simp only at r7 r8 r9;have q4:b9<=h5:=by first|omega|(simp at r9;omega)
         have d9:jvg w' t=w:=by rw[<- S];exact j44 zO zO hb
         rw[d9]at r8;have q5:∀j,Off b9 j->e7 j=if j=2*c.uS+1 then some ⟨c.uS,.cells (yv w)⟩ else if j=c.N.kF then some ⟨c.N.uF,.cells (fdC c.g c.N c.rv c.al (.osl (2*u+1) u 0 done.length 1) c.most false)⟩ else c2 j:=λj p=>by rw[r8 j (p.up zL)];simp[fdC]
         clear r7 r8 r9;simp[P,a0,I];rw[hJ];obtain⟨c9,f6⟩:=r4.v;refine⟨zS,⟨vv,⟨⟨.osl (2*u+1) u 0 done.length 1,?_,.inr ⟨u,.int .i64 (t:Int)::cs,rfl,?_,g6,zL⟩⟩,r4.d.keep λj p=>?_,⟨c9,?_⟩,?_⟩,D vv rfl⟩,λj p x B D=>?_,zL⟩;simp;rw[q5 _ (z.f.up zO),za fs,zb rfl];simp;rw[q5 _ (Off.new zO),za zO,za (λe=>z.f u zO e.symm),e5];simp[yt,yf];obtain⟨Q,f2,f3,f4⟩:=z.fix p;simp;rw[q5 j (Q.up zO),za f4,za f2];simp;rw[q5 _ (z.v.up zO),za vs,za (dz fv)];exact f6;simp;rw[q5 _ (Off.new zO),zb rfl];simp;rw[q5 j (p.up zO),za D,za x];exact L j p x B D
     simp[P,a0,I];rw[hJ];exact⟨zS,⟨vis,sS.keep z zO zL λj _=>by simp,G (by rw[hv];simp)⟩,λj p x B D=>by simpa using sw j p x B D,zL⟩
   simp(disch:=try exact zD)[P,a0,I];rw[hJ];exact⟨zS,⟨vis,sS.keep z zO zL λj _=>by simp,G (by simp[hb])⟩,λj p x B D=>by simpa using sw j p x B D,zL⟩
  ·have:i=(ym c.g).length:=zO;subst this;rw[bB zO,loopM]at sR;simp[P,c3];refine JN (by simp[sd]) ?_;rw[sR];exact⟨zS,zL,λj p x B D=>by simpa using sw j p x B D,w,done,sS.keep z zO zL λj _=>by simp,λl h=>(by cases h),λ_ _=>⟨rfl,rfl⟩⟩
def sv150 (a:c.Ok) (n:Nat):OnP c n:=by
 induction n with
 |zero=>exact jxz a 0 λk h=>by omega
 |succ n b=>refine jxz a (n+1) λk h=>?_;have:k=n:=zO;exact this▸b
end
def JK (g:Hist') (M:List Int) (most:Int):R3:=onM (nxM g M) (yC g) most (yC g).length 0 [] []
section
variable {g:Hist'}{M:List Int}{most:Int}
def jz2 (g:Hist') (M:List Int) (most:Int):(JK g M most).2.2.length<=2^(ym g).length:=by rw[<- jaz];exact j3h (jjg g) (jx0 (jjg g) _ 0 [] [] (λt h=>by simp at h) zS ⟨ey,λ_ h=>by cases h⟩)
end
def Yp (g:Hist') (M:List Int) (most:Int):List Int×Int×Int :=
 if !jP g then ([],0,4) else if !WM g M||decide (most<0) then ([],0,2) else
  if (JK g M most).2.1 then ([],(JK g M most).2.2.length,13) else match (JK g M most).1 with
   |none=>([],(JK g M most).2.2.length,3)
   |some l=>(yt l,(JK g M most).2.2.length,0)
def jtg (r:List Int×Int×Int) (v:V):Prop:=∃nl,(nl=true->r.1=[])/\TupS [.sl none nl r.1.length (r.1.flatMap yf),.int .i64 r.2.1,.int .i64 r.2.2] v
def jxr {st:St}{lo hi:Nat}{ov:V}{done:List Nat}(h:OrdV st.ob lo hi ov done) (j:st.ro<=lo):∃e,(e=true->done=[])/\j5j st ov (.sl none e done.length ((yt done).flatMap yf)):=by
 rcases h with⟨rfl,rfl⟩|⟨u,cs,rfl,d,k,_⟩;exact⟨true,λ_=>rfl,jM rfl⟩
 ·refine⟨false,λh=>(by cases h),XP rfl λkeep i=>?_⟩;have b:((yt done).flatMap yf).length=done.length:=by rw[j1 j6,JA];omega
  have a:ya st.ob (2*u+1) u=some ((yt done).flatMap yf++cs):=by simp[ya,d]
  have f:JY st 6 (.osl (2*u+1) u 0 done.length 1)=some (.sl none false done.length ((yt done).flatMap yf)):=by show((ya st.ob (2*u+1) u).bind λcs=>if Nat.ble st.ro u=true/\0+done.length*1<=cs.length then (((cs.drop 0).take (done.length*1)).mapM (JY st 5)).map λc=>V.sl none false done.length c else none)=_;rw[a,ah,zb ⟨bT▸zO,by rw[ap];omega⟩,dt,bx,ee b,jdl];rfl
  simp only[jt,f,ah,a,aU];refine⟨_,rfl,?_⟩;split;exact .inr ⟨1,rfl⟩;exact .inl rfl
def Xc {st:St}{n e:Int}(a:st.df=[]) (b:st.tm 6=.sl none true 0 []) (d:st.tm 7=.int .i64 n) (c:st.tm 8=.int .i64 e):WQ [.t 6,.t 7,.t 8] (jtg ([],n,e)) .ret st :=
 jhy (ns:=[6,7,8]) (vs:=[.sl none true 0 [],.int .i64 n,.int .i64 e]) (ls:=[.sl none true 0 [],.int .i64 n,.int .i64 e]) (λr h=>⟨true,λ_=>rfl,h⟩) a (by simp[b,d,c]) zS zS ⟨jM rfl,jM rfl,jM rfl,trivial⟩
def jng {st:St}{lo hi:Nat}{ov:V}{l:List Nat}{n e:Int}(c:st.df=[]) (i:st.tm 6=ov) (j:st.tm 7=.int .i64 n) (d:st.tm 8=.int .i64 e) (m:OrdV st.ob lo hi ov l) (a:st.ro<=lo):WQ [.t 6,.t 7,.t 8] (jtg (yt l,n,e)) .ret st:=by obtain⟨b,k,f⟩:=jxr m a;refine jhy (ns:=[6,7,8]) (vs:=[ov,.int .i64 n,.int .i64 e]) (ls:=[.sl none b l.length ((yt l).flatMap yf),.int .i64 n,.int .i64 e]) (λr h=>⟨b,λh=>by rw[k h];rfl,?_⟩) c (by simp[i,j,d]) zS zS ⟨f,jM rfl,jM rfl,trivial⟩;rw[JA];exact h
section
variable {g:Hist'}{M:List Int}
def ev101 (D:Small g) (h8:g.ts.length<=8) {mn:Bool}(hM:M.length<=1000000) (most:Int):∃v,Ev E 101 [.agg (yb g),yl mn yf M,.int .i64 most] v/\jtg (Yp g M most) v:=by
 have L:=ev30 D;have u:=ev114 D (b:=mn) M hM;rw[jzu]at u;refine JX rfl zQ ?_;conv in(occs:=*)F101=>all_goals cbv
 simp(disch:=try exact zD)[F101,ya,yb];refine jH L zI rfl zI ?_;unfold Yp;cases hw:jP g;simp;exact Xc zS zS zS zS;simp(disch:=try exact zD)[ya,yl];refine jH u zH rfl zH ?_;cases P:WM g M;simp(disch:=try exact zD);exact Xc zS zS zS zS;by_cases x:most<0;simp(disch:=try exact zD)[x];exact Xc zS zS zS zS;simp(disch:=try exact zD)[x,ya];refine jJ (vs:=[.agg (yb g),yl mn yf M]) zH rfl (sv149 D P zL) ?_;rintro v1 J c0 q ⟨b1,b2,N,rv,Z,b3,b4,S,X,B,G,b9,c1,b0⟩;simp only at b1 b2 b3 b4 S X B G;subst b3;simp(disch:=try exact zD)[ya,b4,fdC,j2];refine jJ (vs:=[.sl none true 0 []]) zS rfl sv151n ?_;rintro v2 i I n ⟨m,m1,T,U,F⟩;simp only at m1 T U F;subst U;have j:q<=m:=by first|omega|(simp at m1;omega)
 have hR:=YP D;have O:=Xi P;obtain⟨c,p⟩:∃c:OnC,c=⟨g,M,N,rv,Z,most,q,n,m⟩:=⟨_,rfl⟩;have hc:c.Ok:=by rw[p];exact⟨P,h8,B,G,b9,⟨j,T⟩,by rw[jrn O];omega⟩
 have n1:N.kF≠2*m+1:=B m j;have n2:N.kV≠2*m+1:=G m j;have Q:∀a,Off q a->i a=if a=N.kF then some ⟨N.uF,.cells (fdC g N rv (.sl Z (ym g).isEmpty (ym g).length ((ym g).flatMap yf)) (.sl none true 0 []) most false)⟩ else J a:=λa y=>by rw[F a,za (y m j)];simp[fdC]
 have hS:OnS c 0 [] [] false i n:=by rw[p];refine⟨⟨.sl none true 0 [],by show i N.kF=_;rw[Q _ B,zb rfl];rfl,.inl ⟨rfl,rfl⟩⟩,S.keep λa y=>by rw[Q a y.o,za y.f],⟨0,by show i N.kV=_;rw[Q _ G,za (dz b9)];exact X⟩,by rw[F,zb rfl]⟩
 clear F;simp;refine jJ (vs:=[.ptr N.kF N.uF 0,.ptr (2*m+1) m 0]) zS rfl (by
  have h:=sv150 hc (yC g).length YT 0 [] [] i I 0;rw[p]at h hS;exact h _ n hS zS zQ zS zK (cw _) (cw _) (cw _) (cw _)) ?_
 rintro v3 c2 c5 c4 ⟨r,r2,r3,w',K,s,z,H⟩;simp only at r r2 s;rw[show onM (nxM g M) (yC g) most (yC g).length 0 [] []=JK g M most from rfl]at r s z H;obtain⟨c3,d,t⟩:=s.f;obtain⟨a0,e⟩:=s.v;simp only at d e t;generalize JK g M most=R at r s z H d e ⊢;obtain⟨o,sp,w⟩:=R;simp only at r z H d e;have k:(jod w).length=w.length:=by simp[jod]
 rw[r];cases sp with
 |true=>simp(disch:=try exact zD)[ya,jY,d,e,fdC,k];exact Xc zS zS zS zS
 |false=>
  cases o with
  |none=>simp(disch:=try exact zD)[ya,jY,d,e,fdC,k];exact Xc zS zS zS zS
  |some l=>have:=z l rfl;subst this;simp(disch:=try exact zD)[ya,jY,d,e,fdC,k];exact jng zS zS zS zS (t.frame (λ_ _ _=>by simp) zK) zS
end
abbrev P2:Type:=Int×Int
def pLt (x y:P2):Prop:=x.1<y.1\/x.1=y.1/\x.2<y.2
def pairLe_iff {x y:P2}:Qn x y=true ↔ pLt x y\/x=y:=by obtain⟨a,b⟩:=x;obtain⟨c,d⟩:=y;simp only[Qn,pLt,bG,aj,ze,bM];omega
def Xm (x:P2):¬pLt x x:=by unfold pLt;omega
def YR {x y z:P2}(h:pLt x y) (a:pLt y z):pLt x z:=by unfold pLt at *;omega
def Qo (x y:P2):pLt x y\/x=y\/pLt y x:=by obtain⟨a,b⟩:=x;obtain⟨c,d⟩:=y;simp only[pLt,bM];omega
def jgv (x:P2):∀l:List P2,(j58 x l).Perm (x::l)
 |[]=>eQ _
 |y::r=>by unfold j58;split;exact eQ _;exact((jgv x r).cons y).trans (List.Perm.swap x y r)
def XO:∀l:List P2,(ja5 l).Perm l
 |[]=>eQ _
 |x::r=>(jgv x (ja5 r)).trans ((XO r).cons x)
def jzy (x:P2):∀{l:List P2},l.Pairwise (λa b=>Qn a b=true)->(j58 x l).Pairwise λa b=>Qn a b=true
 |[],_=>fP _ _
 |y::r,h=>by rw[cl]at h;unfold j58;split;rename_i c;rw[cl];refine⟨λz d=>?_,cl.2 h⟩;rcases bD.1 d with rfl|d;exact c;rw[pairLe_iff]at c ⊢;have:=pairLe_iff.1 (h.1 z d);rcases c with c|rfl;rcases this with h2|rfl;exact .inl (YR c h2);exact .inl c;exact this;rename_i c;rw[cl];refine⟨λz d=>?_,jzy x h.2⟩;rcases bD.1 ((jgv x r).mem_iff.1 d) with rfl|d;rw[pairLe_iff]at c ⊢;rcases Qo y z with h|h|h;exact .inl h;exact .inr h;exact zf (.inl h) c;exact h.1 z d
def jjv:∀l:List P2,(ja5 l).Pairwise λa b=>Qn a b=true
 |[]=>List.Pairwise.nil
 |x::r=>jzy x (jjv r)
def ja7:List P2->List P2
 |[]=>[]
 |x::r=>x::match ja7 r with
  |[]=>[]
  |y::s=>if x=y then s else y::s
def compP_mem {z:P2}:∀{l:List P2},z∈ja7 l ↔ z∈l
 |[]=>bU
 |x::r=>by
  have a:=compP_mem (z:=z) (l:=r);rw[ja7];cases h:ja7 r with
  |nil=>rw[h]at a;simp only[dh,false_iff]at a;simp[a]
  |cons y s=>rw[h]at a;simp only;split;rename_i e;subst e;simp only[bD]at a ⊢;constructor;exact λh=>h.elim .inl λh=>.inr (a.1 (.inr h));exact λh=>h.elim .inl λh=>a.2 h;simp only[bD]at a ⊢;rw[a]
def js0:∀{l:List P2},l.Pairwise (λa b=>Qn a b=true)->(ja7 l).Pairwise pLt
 |[],_=>List.Pairwise.nil
 |x::r,h=>by
  rw[cl]at h;have d:=js0 h.2;rw[ja7];cases i:ja7 r with
  |nil=>exact fP _ _
  |cons y s=>rw[i]at d;rw[cl]at d;have j:y∈r:=compP_mem.1 (by rw[i];exact aM ..);have f:=pairLe_iff.1 (h.1 y j);simp only;split;rename_i e;subst e;exact cl.2 d;rename_i e;have c:pLt x y:=f.resolve_right e;rw[cl];refine⟨λz g=>?_,cl.2 d⟩;rcases bD.1 g with rfl|g;exact c;exact YR c (d.1 z g)
def jf8:∀{l m:List P2},l.Pairwise pLt->m.Pairwise pLt->(∀z,z∈l ↔ z∈m)->l=m
 |[],[],_,_,_=>rfl
 |[],y::m,_,_,h=>zf ((h y).2 (aM ..)) dh
 |x::l,[],_,_,h=>zf ((h x).1 (aM ..)) dh
 |x::l,y::m,h1,h2,h=>by
  rw[cl]at h1 h2;have c:=bD.1 ((h x).1 (aM ..));have b:=bD.1 ((h y).2 (aM ..));have e:x=y:=by rcases c with e|c;exact e;rcases b with e|b;exact e.symm;exact zf (YR (h1.1 y b) (h2.1 x c)) (Xm _)
  subst e;rw[jf8 h1.2 h2.2 λz=>?_];constructor;intro a;rcases bD.1 ((h z).1 (aV _ a)) with e|h';subst e;exact zf (h1.1 z a) (Xm _);exact h';intro a;rcases bD.1 ((h z).2 (aV _ a)) with e|h';subst e;exact zf (h2.1 z a) (Xm _);exact h'
def jp (N:Nat) (p:Nat->Nat->Bool):List P2:=(List.range N).flatMap λa=>((List.range N).filter (p a)).map λb:Nat=>((a:Int),(b:Int))
def edgesOf_mem {N:Nat}{p:Nat->Nat->Bool}{z:P2}:z∈jp N p ↔ ∃a b:Nat,a<N/\b<N/\p a b=true/\z=((a:Int),(b:Int)):=by unfold jp;simp only[cq,bf,aI,bK];constructor;rintro⟨a,d,b,⟨e,c⟩,rfl⟩;exact⟨a,b,d,e,c,rfl⟩;rintro⟨a,b,d,e,c,rfl⟩;exact⟨a,d,b,⟨e,c⟩,rfl⟩
def jd6 (N:Nat) (p:Nat->Nat->Bool):(jp N p).Pairwise pLt:=by unfold jp;rw[List.pairwise_flatMap];refine⟨λa _=>?_,?_⟩;rw[gF];refine(iw.filter _).imp fun {b c} h=>?_;exact Or.inr ⟨rfl,iz.2 h⟩;refine iw.imp fun {a b} h x e y d=>?_;obtain⟨_,_,rfl⟩:=aI.1 e;obtain⟨_,_,rfl⟩:=aI.1 d;exact Or.inl (iz.2 h)
def j0k {N:Nat}{p:Nat->Nat->Bool}{l:List P2}(h:∀z,z∈l ↔ ∃a b:Nat,a<N/\b<N/\p a b=true/\z=((a:Int),(b:Int))):ja7 (ja5 l)=jp N p :=
 jf8 (js0 (jjv l)) (jd6 N p) λz=>by rw[compP_mem,(XO l).mem_iff,h,edgesOf_mem]
def WD (n:Nat) (p:Nat->Nat->Bool) (D:List Nat) (a:Nat):Bool:=!D.contains a&&(List.range n).all λx=>!p x a||D.contains x
def QZ (n:Nat) (p:Nat->Nat->Bool):Nat->List Nat->Option (List Nat)
 |0,D=>some D
 |k+1,D=>match (List.range n).find? (WD n p D) with
  |none=>none
  |some a=>QZ n p k (D++[a])
def cntP (n:Nat) (p:Nat->Nat->Bool) (D:List Nat) (b:Nat):Nat:=((List.range n).filter λx=>p x b && !D.contains x).length
structure AhOk (n:Nat) (p:Nat->Nat->Bool) (D:List Nat) (A:List Int):Prop where
 l:A.length=n
 d:∀b,b<n->b∈D->A.getD b 0 = -1
 c:∀b,b<n->b ∉ D->A.getD b 0=cntP n p D b
 k:∀b x,b∈D->x<n->p x b=true->x∈D
def j4o {n:Nat}{p:Nat->Nat->Bool}{D:List Nat}{a:Nat}(h:a ∉ D):WD n p D a=true ↔ cntP n p D a=0:=by
 unfold WD cntP;rw[cD,fX];have:D.contains a=false:=by simpa using h
 rw[this,co,bO,aw];constructor;intro b x c;have:=b x c;cases d:p x a<;>simp_all;intro b x c;have:=b x c;cases d:p x a<;>simp_all
def AhOk.free {n:Nat}{p:Nat->Nat->Bool}{D:List Nat}{A:List Int}(h:AhOk n p D A) {a:Nat}(e:a<n):WD n p D a=decide (A.getD a 0=0):=by
 rw[bz,ze];by_cases b:a∈D;have g:=h.d a e b;have:WD n p D a=false:=by simp[WD,b]
 rw[this];constructor;exact λh=>(by cases h);intro f;omega;rw[j4o b,h.c a e b];omega
def AhOk.find {n:Nat}{p:Nat->Nat->Bool}{D:List Nat}{A:List Int}(h:AhOk n p D A):(List.range n).find? (WD n p D)=(List.range n).find? λa=>decide (A.getD a 0=0):=by
 have:∀l:List Nat,(∀a∈l,a<n)->l.find? (WD n p D)=l.find? λa=>decide (A.getD a 0=0):=by
  intro l;induction l with
  |nil=>intro _;rfl
  |cons a l e=>intro c;rw[List.find?_cons,List.find?_cons,h.free (c a (aM ..)),e λb f=>c b (aV _ f)]
 exact this _ λa d=>bf.1 d
def decL (A:List Int) (bs:List Nat):List Int:=bs.foldl (λA b=>A.set b (A.getD b 0-1)) A
def j0h (A:List Int) (bs:List Nat) (b:Nat):decL A (bs++[b])=(decL A bs).set b ((decL A bs).getD b 0-1):=by simp[decL]
def jsz (A:List Int):∀a:List Nat,(decL A a).length=A.length:=by
 intro a;induction a generalizing A with
 |nil=>rfl
 |cons b a c=>rw[show decL A (b::a)=decL (A.set b (A.getD b 0-1)) a from rfl,c,dL]
def jfb (A:List Int) {b:Nat}(a:b<A.length) (x:Int) (c:Nat):(A.set b x).getD c 0=if c=b then x else A.getD c 0:=by rw[ay,ay,List.getElem?_set];by_cases h:b=c;subst h;simp[a];rw[za h,za (dz h)]
def j0i (A:List Int):∀(bs:List Nat),bs.Nodup->(∀b∈bs,b<A.length)->∀c,(decL A bs).getD c 0=A.getD c 0-if c∈bs then 1 else 0:=by
 intro bs;induction bs generalizing A with
 |nil=>intro _ _ c;simp[decL]
 |cons b bs g=>intro e f c;rw[eH]at e;have d:=f b (aM ..);rw[show decL A (b::bs)=decL (A.set b (A.getD b 0-1)) bs from rfl,g _ e.2 (λx i=>by rw[dL];exact f x (aV _ i)),jfb A d];by_cases h:c=b;subst h;rw[zb rfl,za e.1,zb (aM ..)];omega;rw[za h];by_cases a:c∈bs;rw[zb a,zb (aV _ a)];rw[za a,za (by simp[h,a])]
def cntP_le (n:Nat) (p:Nat->Nat->Bool) (D:List Nat) (b:Nat):cntP n p D b<=n:=bI (ch _ _) zS
def cnt_add {n:Nat}{p:Nat->Nat->Bool}{D:List Nat}{a:Nat}(j:a<n) (i:a ∉ D) (b:Nat):cntP n p D b=cntP n p (D++[a]) b+if p a b=true then 1 else 0:=by
 have d:∀l:List Nat,l.Nodup->(l.filter λx=>p x b && !D.contains x).length=(l.filter λx=>p x b && !(D++[a]).contains x).length+if a∈l/\p a b=true then 1 else 0:=by
  intro l;induction l with
  |nil=>intro _;simp
  |cons x l c=>
   intro f;rw[eH]at f;have c:=c f.2;by_cases e:x=a;subst e;have g:D.contains x=false:=by simpa using i
   have h:(D++[x]).contains x=true:=zS;rw[ct,ct,g,h];rw[za (by simp[f.1])]at c;cases k:p x b;simp only[bH,ag,zc,and_false];exact c;simp only[bO,co,bV,zd,ag,zc,bg,c,bD,true_or,and_self,bl];have g:(D++[a]).contains x=D.contains x:=by rw[bz];simp[e]
   rw[ct,ct,g];have h:(a∈x::l/\p a b=true) ↔ (a∈l/\p a b=true):=by simp[dz e]
   simp only[h];split;simp only[bg,c];omega;exact c
 have:=d (List.range n) List.nodup_range;unfold cntP;rw[this];simp[j]
def AhOk.rng {n:Nat}{p:Nat->Nat->Bool}{D:List Nat}{A:List Int}(h:AhOk n p D A) (b:Nat):-1<=A.getD b 0/\A.getD b 0<=n:=by by_cases e:b<n;by_cases a:b∈D;rw[h.d b e a];omega;rw[h.c b e a];have:=cntP_le n p D b;omega;rw[ay,cG (by rw[h.l];omega)];simp
def AhOk.next {n:Nat}{p:Nat->Nat->Bool}{D:List Nat}{A:List Int}(h:AhOk n p D A) {a:Nat}(s:a<n) (q:WD n p D a=true) {bs:List Nat}(j:∀b,b∈bs ↔ b<n/\p a b=true) (B:bs.Nodup):AhOk n p (D++[a]) (decL (A.set a (-1)) bs):=by
 unfold WD at q;simp only[aj,cp,aw,bf]at q;have t:a ∉ D:=by simpa using q.1
 have m:∀x,x<n->p x a=true->x∈D:=λx r f=>by have:=q.2 x r;simpa[f] using this
 have v:∀b,b∈D->p a b=false:=λb g=>by cases f:p a b;rfl;exact zf (h.k b a g s f) t
 have w:p a a=false:=by cases f:p a a;rfl;exact zf (m a s f) t
 have z:(A.set a (-1)).length=n:=by rw[dL,h.l]
 have o:∀c,(decL (A.set a (-1)) bs).getD c 0=(if c=a then -1 else A.getD c 0)-if c∈bs then 1 else 0:=λc=>by rw[j0i _ bs B (λb g=>by rw[z];exact((j b).1 g).1),jfb A (by rw[h.l];exact s)]
 refine⟨by rw[jsz,z],λb g i=>?_,λb g i=>?_,λb x g r f=>?_⟩;rw[o];rw[aQ,ae]at i;have y:b ∉ bs:=λu=>by have:=((j b).1 u).2;rcases i with i|rfl;rw[v b i]at this;cases this;rw[w]at this;cases this
 rw[za y];by_cases e:b=a;rw[zb e];omega;rw[za e,h.d b g (i.resolve_right e)];omega;rw[aQ,ae,not_or]at i;rw[o,za i.2,h.c b g i.1,cnt_add s t b];by_cases f:p a b=true;rw[zb f,zb ((j b).2 ⟨g,f⟩)];omega;rw[za f,za λu=>f ((j b).1 u).2];omega;rw[aQ,ae]at g ⊢;rcases g with g|rfl;exact .inl (h.k b x g r f);exact .inl (m x r f)
section
end
def juv {g:Hist'}(a:Yt g=true) {t:Nat}(c:t<g.ts.length) (key:Int):Jp g t key=(g.ts[t]).ops.any (wkB key):=by unfold Jp;rw[jyz];have b:(t:Int)<g.ts.length:=zO;simp[Js,a,b,ay,c]
def ev214 (t:Txn') (F:t.ops.length<=1000000) (key:Int):Ev E 214 [.agg (jf t),.int .i64 key] (.bool (t.ops.any (wkB key))):=by
 refine jT rfl ?_;conv in(occs:=*)F214=>all_goals cbv
 simp[jf,ya];refine j5 [(4,28)] t.ops.length (λi s=>s.tm 5=.int .i64 i/\s.ob 4=some ⟨0,.cells (jf t)⟩/\∀j (e:j<t.ops.length),j<i->wkB key t.ops[j]=false) rfl rfl ⟨zS,by simp[jf],λ_ _ h=>by omega⟩ ?_;rintro i s G ⟨o,n,r⟩ f;have y:s.tm 1=.int .i64 key:=by rw[f.t 1 zS];simp
 have p:s.tm 2=.ptr 4 0 0:=by rw[f.t 2 zS];simp
 have z:s.df=[]:=by rw[f.d];simp
 clear f;by_cases a:i<t.ops.length;have m:=jR a zO;have B:(t.ops.flatMap yS)[i*4]? = some (.bool (t.ops[i]).w):=by have:=jO jD t.ops a (by decide:0<4);rw[bl]at this;rw[this];rfl
 have v:(t.ops.flatMap yS)[i*4+1]? = some (.int .i64 (t.ops[i]).key):=by rw[jO jD t.ops a (by decide:1<4)];rfl
 have q:wkB key t.ops[i]=((t.ops[i]).w&&(t.ops[i]).key==key):=rfl;simp(disch:=try exact zD)[o,p,y,ya,n,jf,a,j4 jD,B,v];cases c:(t.ops[i]).w;simp[o,m,a];refine⟨by simp[n,jf],λj e l=>?_⟩;rcases bj.1 l with h|rfl;exact r j e h;rw[q,c];rfl;cases b:((t.ops[i]).key==key);simp(disch:=try exact zD)[o,p,y,ya,n,jf,a,j4 jD,v,b,m];intro j e l;rcases bj.1 l with h|rfl;exact r j e h;rw[q,c,b];rfl;simp(disch:=try exact zD)[o,p,y,ya,n,jf,a,j4 jD,v,b];refine j3 (by simp[z]) ?_ rfl;have:t.ops.any (wkB key)=true:=ce.2 ⟨_,au a,by rw[q,c,b];rfl⟩;simp[this];have:i=t.ops.length:=zO;subst this;simp(disch:=try exact zD)[o,p,ya,n,jf,yl];refine j3 (by simp[z]) ?_ rfl;have:t.ops.any (wkB key)=false:=by rw[eO];intro x D;obtain⟨j,e,rfl⟩:=bA D;simp[r j e e]
 simp[this]
def yM (n:Nat) (s:Nat->Bool):List V:=(List.range n).map λa=>V.bool (s a)
def Qr {n:Nat}{s:Nat->Bool}{a:Nat}(h:a<n):(yM n s)[a]? = some (.bool (s a)):=by simp[yM,h]
def Xh (n:Nat) (s:Nat->Bool):(yM n s).length=n:=by simp[yM]
section
variable {g:Hist'}{M:List Int}{ob:ZO}{ub k u:Nat}{st:Nat->Bool}
def seB (g:Hist') (s:Nat->Bool) (t a:Nat):Bool:=!Ju g a||(!(yE g a==yE g t)||s a)
def rdsB (g:Hist') (s:Nat->Bool) (t:Nat) (x:(Int×Int)×Int):Bool:=if x.1.1=(t:Int) then decide (x.2<0)||s x.2.toNat else s x.1.1.toNat||(!(decide (x.2<0)||s x.2.toNat) || !Jp g t (Wx g x.1))
def jyi (s:Nat->Bool) (t:Nat):jpf g M s t=(jec (seB g s t) t&&((yi g).zip M).all (rdsB g s t)):=rfl
def evo155 (hs:Small g) (hm:WM g M=true) {mn:Bool}(hk:ob k=some ⟨u,.cells (yM g.ts.length st)⟩) (ho:Off ub k) {t:Nat}(ht:t<g.ts.length) (tk:Nat->Bool) (base:Nat) :
 EvO E 155 [.agg (yb g),yl mn yf M,.osl k u 0 g.ts.length 1,.int .i64 (t:Int)] ob tk base ub (.bool (jpf g M st t)):=by
 refine jr rfl ?_;have gk:=ho.ne;have a0:=Yz (YV hm);have e9:=Xi hm;have hR:=YP hs;have e8:=hs.ts;have c4:∀{x:Nat}(h:x<g.ts.length),(g.ts.flatMap jf)[x*3]? = some (.int .i64 (yE g x)):=fun {x} h=>by have:=jO j7 g.ts h (by decide:0<3);rw[bl]at this;rw[this];simp[jf,yE,h]
 have d2:∀{x:Nat}(h:x<g.ts.length),(g.ts.flatMap jf)[x*3+1]? = some (.int .i64 (g.ts[x]).f):=fun {x} h=>by rw[jO j7 g.ts h (by decide:1<3)];rfl
 simp only[S155,cfc,cf,Proofs.Tryz.f155,je0,ah];conv in (occs := *) j5b _ _ _ _=>all_goals cbv
 simp only[ah,aU];conv in (occs := *) Option.getD _ _=>all_goals cbv
 simp(disch:=try exact zD)[S155,yb,V.cells];refine jQ λv c=>?_;have g0:v.tm 1=yl mn yf M:=by rw[c];simp
 have g2:v.tm 2=.osl k u 0 g.ts.length 1:=by rw[c];simp
 have g3:v.tm 3=.int .i64 t:=by rw[c];simp
 have g4:v.tm 4=.ptr (2*ub+1) ub 0:=by rw[c];simp
 have g9:v.tm 9=.int .i64 0:=by rw[c];simp
 have gd:v.df=[]:=by rw[c];simp
 have gr:v.ro=ub:=by rw[c];simp
 have gB:v.ob (2*ub+1)=some ⟨ub,.cells (yb g)⟩:=by rw[c];simp[yb]
 have gK:v.ob k=some ⟨u,.cells (yM g.ts.length st)⟩:=by rw[c];simp(disch:=try exact zD)[gk,hk]
 have gn:ub<v.nx:=by rw[c];simp;omega
 clear c;rw[jyi];refine j5 [(8,9),(14,47)] t (λi s=>s.tm 9=.int .i64 i/\s.ob=v.ob/\v.nx<=s.nx/\jec (seB g st t) i=true) rfl rfl ⟨zU g9,rfl,zK,rfl⟩ ?_;rintro i s hi ⟨s9,so,sn,X⟩ f;have s1:s.tm 1=yl mn yf M:=by rw[f.t 1 zS];simp[g0]
 have s2:s.tm 2=.osl k u 0 g.ts.length 1:=by rw[f.t 2 zS];simp[g2]
 have s3:s.tm 3=.int .i64 t:=by rw[f.t 3 zS];simp[g3]
 have s4:s.tm 4=.ptr (2*ub+1) ub 0:=by rw[f.t 4 zS];simp[g4]
 have sd:s.df=[]:=by rw[f.d];simp[gd]
 have sr:s.ro=ub:=by rw[f.r];simp[gr]
 clear f;by_cases p:i<t;have B:=jR p zO;have O:i<g.ts.length:=zO;have f1:=d2 O;have f2:=c4 O;have f3:=c4 ht;have f4:=Qr (s:=st) O;have b8:Ju g i=((g.ts[i]).f==1):=by simp[Ju,O,Jq]
 have n:jec (seB g st t) (i+1)=seB g st t i:=by rw[jec,X,bO]
 have P:=jvz (l:=k) (u:=u) (sz:=1) (kk:=.i64) O;unfold seB at n;rw[b8]at n;simp(disch:=try exact zD)[s9,s3,s4,ya,so,gB,yb,p,j4 j7,f1];cases H:((g.ts[i]).f==1);rw[H]at n;simp(disch:=try exact zD)[s9,B,p,so];exact⟨zO,n⟩;cases F:(yE g i==yE g t);rw[H,F]at n;simp(disch:=try exact zD)[s9,s3,s4,ya,so,gB,yb,p,j4 j7,f2,f3,F,B];exact⟨zO,n⟩;cases c3:st i;rw[H,F,c3]at n;simp(disch:=try exact zD)[s9,s3,s4,s2,ya,so,gB,gK,yb,p,j4 j7,f2,f3,F,P,f4,c3];refine j3 (by simp[sd]) ?_ rfl;have:jec (seB g st t) t=false:=jqm p (by unfold seB;rw[b8,H,F,c3];rfl);simp[this];rw[H,F,c3]at n;simp(disch:=try exact zD)[s9,s3,s4,s2,ya,so,gB,gK,yb,p,j4 j7,f2,f3,F,P,f4,c3,B];exact⟨zO,n⟩
 ·have e:t=i:=zO;subst e;rw[X,bO];obtain⟨vr,d6,d9⟩:=ev64 hs;simp(disch:=try exact zD)[s9,s3,s4,ya,so,gB,yb];refine jH d6 zH rfl zH ?_;refine Jw d9 λtr e6=>?_;simp;refine jQ λst2 c=>?_;have g1:st2.tm 1=yl mn yf M:=by rw[c];simp[s1]
  have g2:st2.tm 2=.osl k u 0 g.ts.length 1:=by rw[c];simp[s2]
  have g3:st2.tm 3=.int .i64 t:=by rw[c];simp[s3]
  have g4:st2.tm 4=.ptr (2*ub+1) ub 0:=by rw[c];simp[s4]
  have e4:st2.tm 10=.sl tr false (yi g).length ((yi g).flatMap jC):=by rw[c];simp
  have d4:st2.tm 11=.int .i64 0:=by rw[c];simp
  have gd:st2.df=[]:=by rw[c];simp[sd]
  have gr:st2.ro=ub:=by rw[c];simp[sr]
  have go:st2.ob=v.ob:=by rw[c];simp[so]
  have e1:v.nx<=st2.nx:=by rw[c];simp;omega
  clear c;obtain⟨J,hJ⟩:∃J:Nat->St->Prop,J=λj s=>s.tm 11=.int .i64 j/\s.ob (2*ub+1)=some ⟨ub,.cells (yb g)⟩/\s.ob k=some ⟨u,.cells (yM g.ts.length st)⟩/\v.nx<=s.nx/\∀x∈((yi g).zip M).take j,rdsB g st t x=true:=⟨_,rfl⟩;refine j5 [(8,8),(11,13),(50,116)] (yi g).length J rfl rfl (by rw[hJ];exact⟨zU d4,by rw[go];exact gB,by rw[go];exact gK,e1,λx h=>by simp at h⟩) ?_;intro j q hj c7 f;rw[hJ]at c7;obtain⟨I,qB,Z,qn,T⟩:=c7;have q1:q.tm 1=yl mn yf M:=by rw[f.t 1 zS];simp[g1]
  have q2:q.tm 2=.osl k u 0 g.ts.length 1:=by rw[f.t 2 zS];simp[g2]
  have q3:q.tm 3=.int .i64 t:=by rw[f.t 3 zS];simp[g3]
  have q4:q.tm 4=.ptr (2*ub+1) ub 0:=by rw[f.t 4 zS];simp[g4]
  have d1:q.tm 10=.sl tr false (yi g).length ((yi g).flatMap jC):=by rw[f.t 10 zS];simp[e4]
  have qd:q.df=[]:=by rw[f.d];simp[gd]
  have qr:q.ro=ub:=by rw[f.r];simp[gr]
  clear f;have nB:∀m,q.nx<=m->¬ub=m:=λm hm=>by omega
  by_cases p:j<(yi g).length
  ·have B:=jR p zO;have b9:j<M.length:=zO;obtain⟨a,kk,ha,d3,e,S,hc⟩:=jf4 a0 p;have P:=JD jS tr false (yi g) .i64 p;have c9:=λob=>Ys (yi g) ob p;have b0:=jn M b9;have c5:j<((yi g).zip M).length:=by simp;omega
   have hx:((yi g).zip M)[j]=((yi g)[j],M[j]):=zS;simp only[e]at c9 hx;rw[e]at S;have e2:(g.ts.flatMap jf)[a*3+2]? = some (yl (g.ts[a]).nl yS (g.ts[a]).ops):=by rw[jO j7 g.ts ha (by decide:2<3)];rfl
   have d5:((g.ts[a]).ops.flatMap yS)[kk*4+1]? = some (.int .i64 ((g.ts[a]).ops[kk]).key):=by rw[jO jD (g.ts[a]).ops d3 (by decide:1<4)];rfl
   have b5:=jvz (l:=k) (u:=u) (sz:=1) (kk:=.i64) ha;have K:=Qr (s:=st) ha;have U:=λm (hm:ub<=m)=>gk m hm;have w:rdsB g st t (((a:Int),(kk:Int)),M[j])=true->∀x∈((yi g).zip M).take (j+1),rdsB g st t x=true:=λh x c8=>by rw[av c5,aQ,ae,hx]at c8;rcases c8 with h1|rfl;exact T x h1;exact h
   have N:rdsB g st t (((a:Int),(kk:Int)),M[j])=false->((yi g).zip M).all (rdsB g st t)=false:=λh=>by rw[eP];exact⟨_,au c5,by rw[hx,h];simp⟩
   simp(disch:=try exact zD)[I,d1,q1,p,P,c9,ya,j2,j4 j6,b0];refine⟨by first|omega|(simp[qr];done)|(simp[qr];omega),?_⟩;have d7:∀L,Jp g t L=(g.ts[t]).ops.any (wkB L):=λL=>juv a0 ht L;have b7:=λL=>ev214 g.ts[t] (by have:=hs.os _ (au ht);omega) L;have e3:=XS j7 g.ts t ht;have o:∀b,(decide (M[j]<0)||st (M[j]).toNat)=b->rdsB g st t (((a:Int),(kk:Int)),M[j])=if (a:Int)=t then b else st a||(!b || !(g.ts[t]).ops.any (wkB ((g.ts[a]).ops[kk]).key)):=λb hb=>by unfold rdsB;simp only[hb,ba,S,d7]
   obtain⟨b,hb⟩:∃b,(decide (M[j]<0)||st (M[j]).toNat)=b:=⟨_,rfl⟩;have o:=o b hb;have b6:(M[j]<0/\b=true)\/∃y:Nat,M[j]=y/\y<g.ts.length/\st y=b:=by by_cases Q:M[j]<0;exact .inl ⟨Q,by rw[<- hb];simp[Q]⟩;obtain⟨y,hy⟩:∃y:Nat,M[j]=y:=⟨(M[j]).toNat,zO⟩;refine .inr ⟨y,hy,?_,?_⟩;rcases jpl hm (au b9) with h|h;omega;obtain⟨z,ez,hz⟩:=comL_mem.1 h;have:=XG hz;omega;have:¬(y:Int)<0:=zO;rw[<- hb,hy];simp[this]
   have e5:((List.take (j+1) ((yi g).zip M)))=((yi g).zip M).take (j+1):=rfl;rcases b6 with⟨Q,e7⟩|⟨y,hy,c6,e0⟩;case' inl=>simp(disch:=try exact zD)[Q,q3,ya]
   case' inr=>have d8:=jvz (l:=k) (u:=u) (sz:=1) (kk:=.i64) c6;have c0:=Qr (s:=st) c6;rw[e0]at c0;have d0:((y:Int)<0)=False:=zS;rw[hy]at b0;simp(disch:=try exact zD)[hy,d0,I,p,q1,q2,q3,ya,j4 j6,b0,d8,Z,c0,U]
   all_goals cases b
   all_goals try contradiction
   case inr.false=>
    cases H:((a:Int)==(t:Int))
    ·have G:¬(a:Int)=t:=by simpa using H
     have D:((a:Int) != (t:Int))=true:=by simpa using H
     rw[za G]at o;cases F:st a;all_goals
      rw[F]at K
      rw[F]at o
      simp only[co,fo,iA]at o
      simp(disch:=try exact zD)[D,q2,q3,ya,b5,Z,K,U,I,B,p]
      rw[hJ]
      exact⟨zS,by simp(disch:=try exact zD)[qB,yj,nB],by simp(disch:=try exact zD)[Z,U],zL,w o⟩
    have G:(a:Int)=t:=by simpa using H
    have D:((a:Int) != (t:Int))=false:=by simpa using H
    rw[zb G]at o;simp(disch:=try exact zD)[D,ya];refine j3 (by simp[qd]) ?_ rfl;simp[N o]
   all_goals
    cases H:((a:Int)==(t:Int))
    ·have G:¬(a:Int)=t:=by simpa using H
     have D:((a:Int) != (t:Int))=true:=by simpa using H
     rw[za G]at o;cases F:st a;rw[F]at K;rw[F,bS,bV,bS]at o;simp(disch:=try exact zD)[D,q2,q3,q4,ya,b5,Z,K,U,qB,yj,nB,yb,e2,d5,j4 j7,j4 jD,e3];refine⟨by simp[List.map_const'];omega,?_⟩;refine jH (b7 ((g.ts[a]).ops[kk]).key) (by simp[jf]) rfl (by simp[jf]) ?_;cases c3:(g.ts[t]).ops.any (wkB ((g.ts[a]).ops[kk]).key);rw[c3]at o;simp(disch:=try exact zD)[I,B,p];rw[hJ];exact⟨zS,by simp(disch:=try exact zD)[qB,yj,nB],by simp(disch:=try exact zD)[Z,U],zL,w o⟩;rw[c3]at o;simp(disch:=try exact zD);refine j3 (by simp[qd]) ?_ rfl;simp[N o];rw[F]at K;rw[F,fo]at o;simp(disch:=try exact zD)[D,q2,q3,ya,b5,Z,K,U,I,B,p];rw[hJ];exact⟨zS,by simp(disch:=try exact zD)[qB,yj,nB],by simp(disch:=try exact zD)[Z,U],zL,w o⟩
    ·have G:(a:Int)=t:=by simpa using H
     have D:((a:Int) != (t:Int))=false:=by simpa using H
     rw[zb G]at o;simp(disch:=try exact zD)[D,q3,ya,I,B,p];rw[hJ];exact⟨zS,by simp(disch:=try exact zD)[qB,yj,nB],by simp(disch:=try exact zD)[Z,U],zL,w o⟩
  have:j=(yi g).length:=zO;subst this;simp[I,d1];refine j3 (by simp[qd]) ?_ rfl;have:((yi g).zip M).all (rdsB g st t)=true:=by rw[aw];intro x hx;refine T x ?_;rw[aH zP];exact hx
  simp[this]
end
section
end
def txt20:List UInt8:=[98,101,103,105,110,32,115,10,114,101,97,100,32,115,32,120,32,110,105,108,10,111,107,32,115]
def H20:Hist':=⟨false,[[115]],false,[[120]],false,[⟨0,1,false,[⟨false,0,⟨0,0⟩⟩]⟩]⟩
def k20:(yL E 100 noY).d 29 [.str txt20]=some (.tup [(.agg [(.sl (some (0,1)) false 1 [(.str [115])]),(.sl (some (1,1)) false 1 [(.str [120])]),(.sl (some (2,3)) false 1 [(.int .i64 0),(.int .i64 1),(.sl none false 1 [(.bool false),(.int .i64 0),(.int .i64 0),(.int .i64 0)])])]),(.int .i64 0),(.int .i64 0)]):=by kernel_rfl
end Go.Pv.T
namespace Go.Pv.T
open Go Go.Pv
end Go.Pv.T
namespace Go.Pv.T
open Go Go.Pv
end Go.Pv.T
namespace Go.Pv.T
open Go Go.Pv
end Go.Pv.T
namespace Go.Pv.T
open Go Go.Pv
def j4u:few3S=.seq (hdC few3S) few4S:=rfl
def few3O {h:Hist'}{Yf:YF}{ob0:ZO}{ub ro:Nat}{s0:St}{Q:Ex->St->Prop}{N1 H:Nat}{S0 K0:V}(c4:ro<=ub) (hs:FewO h ob0 ub ro s0 25 45 N1 H S0 K0 (.sl none true 0 []) [])
 (w:∀s F P,P.map (·.1)=(h.ts.take 45).map fewT->FewO h ob0 ub ro s 25 45 N1 H S0 K0 F P->wpC E Yf few4S s Q):wpC E Yf few3S s0 Q:=by
 rw[j4u];obtain⟨r,f2,G,fd,fr,S,o2,J,gS,gK,gT,n0,n1,n2,ff⟩:=hs;simp only[few3S,few2S,few1S];conv in(occs:=*)S27=>all_goals cbv
 simp[hdC,tlC];refine j5 [(6,7),(67,98)] 45 (λi s=>s.tm 6=.int .i64 i/\i<=h.ts.length/\∃F P,P.map (·.1)=(h.ts.take i).map fewT/\FewO h ob0 ub ro s 25 45 N1 H S0 K0 F P) rfl rfl ?_ ?_;refine⟨zS,zS,.sl none true 0 [],[],zS,⟨by simp[r],by simp[f2],by simp[G],by simp[fd],by simp[fr],by simp[S],by simp[o2],by simp[J],gS.frame (λ_ _ _=>by simp) zK zK,gK.frame (λ_ _ _=>by simp) zK zK,⟨zS,.inl ⟨rfl,rfl⟩⟩,n0,n1,by simp;omega,λa e=>by simp[ff a e]⟩⟩;rintro i s hi ⟨h4,b9,F,P,hP,r,f2,G,fd,fr,S,o2,J,gS,gK,gT,n0,n1,n2,ff⟩ f;clear f;have q:¬(i<h.ts.length/\i<45)->∀m:St,(m.tm 1=s.tm 1/\m.tm 2=s.tm 2/\m.tm 3=s.tm 3)->m.df=s.df->m.ro=s.ro->m.ob=s.ob->s.nx<=m.nx->wpC E Yf few4S m Q:=by intro hx m ⟨q1,q2,q3⟩ n e3 x e5;refine w m F P (hP.trans (j93 b9 hi hx)) ⟨q1.trans r,q2.trans f2,q3.trans G,by rw[n];exact fd,by rw[e3];exact fr,by rw[x];exact S,by rw[x];exact o2,by rw[x];exact J,by rw[x];exact gS,by rw[x];exact gK,?_,n0,n1,zO,λa e=>by rw[x];exact ff a e⟩;exact gT.frame (λ_ _ _=>by rw[x]) e5
 have D:s.ob (2*ub+1)=some ⟨ub,.cells [yl h.sn X2 h.ss,yl h.kn X2 h.ks,yl h.tn jf h.ts]⟩:=S;by_cases o:i<h.ts.length;by_cases O:i<45;have hw:=jR O zO;have j:(i:Int)<45:=zO;obtain⟨t,ht⟩:∃t,h.ts[i]=t:=⟨_,rfl⟩;have B:=jki t.ops.length 25;rw[show((25:Nat):Int)=25 from rfl]at B;have U:=j11 jD t.nl t.ops 25 .i64;have b7:min t.ops.length 25=(t.ops.take 25).length:=by rw[ai,Nat.min_comm]
 rw[b7]at U B;generalize hL:t.ops.take 25=L at *;have c7:L.length<=25:=by rw[<- hL,ai];omega
 have a0:(L.flatMap yS).all V.leaf=true:=by rw[eS,aw];intro _ _;rfl
 obtain⟨z,hz⟩:∃z,s.nx=z:=⟨_,rfl⟩;simp[h4,r,D,ya,o,j,j4 j7,jd j7,ht,jf,fr,j2,hz];refine⟨zO,?_⟩;refine jZ (cs:=[]) rfl rfl rfl ?_;simp[ya];obtain⟨d,hB⟩:∃y,(z+64+64+64+64+64+64+64+64+64+64+64+64+64+64+64+64)=y:=⟨_,rfl⟩;obtain⟨b,hA⟩:∃y,(z+64+64+64+64+64+64+64+64+64+64+64+64+64+64)=y:=⟨_,rfl⟩;have c8:d=b+128:=zO;have c9:z+896=b:=zO;rw[hB,hA];have w1:¬2*b=2*d:=zO;have w2:¬2*d=2*b:=zO;simp[ya,w1,B,U];refine j3y (f:=yS) (l:=L) (z:=d) zS zS (by simp[fr];omega) (by simp[yl,yp,j1 jD]) jD zQ a0 zO zO ?_;intro s1 u hu c0 cf K cd cr cb ck;have c6:d<=u:=zO;have c1:u<=d+512:=zO;have cA:s1.ob (2*b+1)=some ⟨b,.cells [.int .i64 t.s,.int .i64 t.f,yl t.nl yS t.ops]⟩:=by rw[cf _ zO zO];simp[w1]
 have cO:∀a,a≠2*b+1->a≠2*d+1->a≠2*(d+512)+1->s1.ob a=s.ob a:=by intro a k1 k2 k3;rw[cf _ k2 zO];simp[k1,k2]
 have v1:¬2*b=2*(ub+192):=zO;have v2:¬2*(ub+192)=2*b:=zO;have c3:s1.ob (2*(ub+192)+1)=some ⟨ub+192,.cells [S0,K0,F]⟩:=(cO _ zO zO zO).trans J;have b5:ro<=b:=zO;simp[K,ya,cA,cr,fr,j2,G,c3,v2,b5];obtain⟨p,hp⟩:∃p,(fewT t,u)=p:=⟨_,rfl⟩;have X:txU p=[.int .i64 t.s,.int .i64 t.f,.osl (2*u+1) u 0 L.length 4]:=by rw[<- hp];simp[txU,fewT,<- hL]
 refine jZ (cs:=txU p) (by rw[X];simp[j2]) rfl (by rw[X];rfl) ?_;simp;obtain⟨N,hE⟩:∃y,(d+64+64+64+64+64+64+64+64+64+64+64+64+64+64)=y:=⟨_,rfl⟩;have c5:d+896=N:=zO;rw[hE];have c2:P.length=i:=by have:=zg List.length hP;rw[bt,bt,ai]at this;omega
 have v:p.2=u:=by rw[<- hp]
 have M:p.1=fewT t:=by rw[<- hp]
 have b0:p.1.ops=L:=by rw[M];exact hL
 rw[hz]at gT n2;have g:∀y,y<z->s1.ob (2*y+1)=s.ob (2*y+1):=λy y2=>cO _ zO zO zO;refine jpw (lo:=H) (hi:=z) (P:=P) (p:=p) ?_ zO (by simp[cr,fr];omega) (by simp[yp,ya];rfl) ?_ n2 zO ?_;simp;refine gT.frame (λy y1 y2=>?_) zK;have c:¬2*y=2*N:=zO;have n:¬2*y=2*b:=zO;simp[c,n];exact g y y2;refine⟨by rw[M];rfl,by rw[v];omega,by rw[v];omega,L.flatMap yS,?_,?_,?_⟩;rw[v];have c:¬2*u=2*N:=zO;have n:¬2*u=2*b:=zO;simp[c,n];exact c0;rw[b0,j1 jD];exact dG _;rw[b0,<- j1 jD,bh];intro s4 v4 T x4 xt xd xr xb xk;obtain⟨I,b8⟩:=T.leaf;have Z:∀y,(y<H)->s4.ob (2*y+1)=s.ob (2*y+1):=by intro y hy;rw[x4 _ (λy y1 y2=>by omega) zO];have c:¬2*y=2*N:=zO;have n:¬2*y=2*b:=zO;simp[c,n];exact g y zO
 have x3:=(Z (ub+192) zO).trans J;have b6:(P++[p]).map (·.1)=(h.ts.take (i+1)).map fewT:=by rw[bE,hP,av o,bE,ht,<- hp];rfl
 simp[xt,K,G,ya,x3,xr,cr,fr,j2,I,b8,h4,hw];have b1:¬2*ub=2*(ub+192):=zO;have b2:¬2*(ub+64)=2*(ub+192):=zO;refine⟨zO,O,zO,v4,P++[p],by rw[b6,List.map_take],⟨by simp[xt,K,r],by simp[xt,K,f2],by simp[xt,K,G],by simp[xd,cd,fd],by simp[xr,cr,fr],by simp[b1];exact(Z ub zO).trans S,by simp[b2];exact(Z (ub+64) zO).trans o2,zS,
  gS.frame (λy h1 h2=>?_) zK zK,gK.frame (λy h1 h2=>?_) zK zK,T.frame (λy h1 h2=>?_) (by simp<;>omega),n0,n1,by simp<;>omega,λa e=>?_⟩⟩
 have c:¬2*y=2*(ub+192):=zO;simp[c];exact Z y zO;have c:¬2*y=2*(ub+192):=zO;simp[c];exact Z y zO;have c:¬2*y=2*(ub+192):=zO;simp[c];have c:=e (ub+192) zO;have n:=e N zO;have e3:=e b zO;simp[c];rw[x4 _ (λy y1 y2=>e y zO) (e _ zO)];simp[n,e3];exact(cO a e3 (e d zO) (e (d+512) zO)).trans (ff a e);have j:¬(i:Int)<45:=zO;simp[h4,r,D,ya,o,j];exact q zO _ ⟨zS,zS,zS⟩ zS zS (by funext k;simp) zP;simp[h4,r,D,ya,o];exact q zO _ ⟨zS,zS,zS⟩ zS zS (by funext k;simp) zP
def FewP (h:Hist') (ob:ZO) (ub:Nat) (r:V×(ZO)×(Nat->Bool)×Nat):Prop :=
 ∃Sv Kv Tv P N1 N2,r.1=.agg [Sv,Kv,Tv]/\StO r.2.1 (ub+256) N1 (WO 25 h.ss) Sv/\StO r.2.1 N1 N2 (WO 45 h.ks) Kv/\TsO r.2.1 N2 r.2.2.2 P Tv/\P.map (·.1)=(h.ts.take 45).map fewT/\ub+256<=N1/\N1<=N2/\N2<=r.2.2.2 /\
  ∀key,(∀m,ub<=m->key≠2*m+1)->r.2.1 key=ob key
def sv27 {Yf:YF}{h:Hist'}{ob:ZO}{tk:Nat->Bool}{ro base ub:Nat}(a:ro<=ub):∃r,EvS E Yf.y 27 [.agg (yb h)] ob tk ro base ub r/\FewP h ob ub r:=by
 refine J6 rfl zQ ?_;show wpC E Yf S27.body _ (Jh S27.res _);refine few0S a λN d=>?_;refine few1O a d λL m c=>?_;refine few2O a c λO p z=>?_;refine few3O a z λH k P D t=>?_;obtain⟨K,o,F,q,fr,M,v,x,i,j,n,w,G,T,u⟩:=t;obtain⟨lS,I⟩:=i.leaf;obtain⟨B,J⟩:=j.leaf;obtain⟨s,S⟩:=n.leaf;have b1:¬2*(ub+192)=2*(ub+64):=zO;have g:S27.res=[.cell 2 (some 3)]:=rfl;rw[g];generalize e:Jh [.cell 2 (some 3)] (FewP h ob ub)=Q;simp only[few4S,few3S,few2S,few1S];conv in(occs:=*)S27=>all_goals cbv
 simp[tlC,o,F,v,x,ya,fr,j2,lS,B,s];refine⟨zO,?_⟩;rw[<- e];refine⟨(.agg [m,p,k],_,_,_),by simp[endS,q,ju,o,ya];exact⟨rfl,rfl,rfl⟩,m,p,k,P,_,_,rfl,i.frame (λy d c=>?_) zK zK,j.frame (λy d c=>?_) zK zK,n.frame (λy d c=>?_) ?_,D,w,G,?_,λf l=>?_⟩;have b:¬2*y=2*(ub+64):=zO;simp[b];have b:¬2*y=2*(ub+64):=zO;simp[b];have b:¬2*y=2*(ub+64):=zO;simp[b];simp;omega;simp;omega;have b:=l (ub+64) zO;simp[b];exact u f l
def jde (t:Txn'):Txn':={ t with ops:=t.ops.take 6 }
def yD (h:Hist'):Hist':=if 8<(jeq h).ts.length then { jeq h with tn:=true,ts:=[] } else { jeq h with ts:=(jeq h).ts.map jde }
def mixT (P:List (Txn'×Nat)) (i:Nat):List (Txn'×Nat):=P.mapIdx λj p=>if j<i then (jde p.1,p.2) else p
def QM {P:List (Txn'×Nat)}{i:Nat}:(mixT P i).length=P.length:=by simp[mixT]
def jyn {P:List (Txn'×Nat)}:mixT P 0=P:=by apply de;intro n;simp[mixT]
def j3c {P:List (Txn'×Nat)}:(mixT P P.length).map (·.1)=(P.map (·.1)).map jde:=by
 apply de;intro n;simp only[mixT,aW,List.getElem?_mapIdx];cases h:P[n]? with
 |none=>rfl
 |some o=>have:=(ak.1 h).1;simp[this]
def jpj {P:List (Txn'×Nat)}{i:Nat}(h:i<P.length):(mixT P i)[i]'(by rw[QM];exact h)=P[i]:=by simp[mixT]
def jmx {P:List (Txn'×Nat)}{i:Nat}(_:i<P.length):mixT P (i+1)=(mixT P i).modify i λp=>(jde p.1,p.2):=by
 apply de;intro n;simp only[mixT,List.getElem?_mapIdx,List.getElem?_modify];cases c:P[n]? with
 |none=>simp
 |some o=>simp only[aU,Option.map_eq_map];by_cases b:i=n;subst b;simp;simp only[za b];by_cases a:n<i;rw[zb a,zb zO];rw[za zO,za a]
def jwh:∀{P:List (Txn'×Nat)}{i:Nat}(h:i<P.length),j2 (P.flatMap txU) (i*3+2) [.osl (2*(P[i]).2+1) (P[i]).2 0 (jde (P[i]).1).ops.length 4]=(P.modify i λp=>(jde p.1,p.2)).flatMap txU
 |[],_,h=>by simp at h
 |p::P,0,_=>by simp[fR,j2,txU,jde]
 |p::P,i+1,h=>by
  have a:=jwh (P:=P) (i:=i) (zU h);simp only[fR,Nat.add_one_ne_zero,zc,ft,bk,iy];rw[<- a];have:(i+1)*3+2=(txU p).length+(i*3+2):=by simp;omega
  rw[this];simp only[j2,aA];rw[fm,ie];simp only[aY]
def InO.six {ob:ZO}{lo hi:Nat}{p:Txn'×Nat}(h:InO ob lo hi p):InO ob lo hi (jde p.1,p.2):=by
 obtain⟨X,a,c,b⟩:=h.ob;refine⟨h.nl,h.lo,h.hi,X,a,?_,?_⟩;simp only[jde,ai];omega;have e:X.take ((jde p.1).ops.length*4)=(X.take (p.1.ops.length*4)).take ((jde p.1).ops.length*4):=by rw[ew];congr 1;simp only[jde,ai];omega
 rw[e,b,j1s];congr 1;simp only[jde,ai];rcases iv p.1.ops.length 6 with h'|h';rw[fN h',bh,aH h'];rw[cE h']
def j13 {L u n i:Nat}(h:i<=n):W1 4 none (some (.int .i64 (i:Int))) (.osl L u 0 n 4)=some (.osl L u 0 i 4):=by simp[W1,X0,h]
def TsO.len {ob:ZO}{lo hi:Nat}{P:List (Txn'×Nat)}{v:V}(h:TsO ob lo hi P v):WZ v=some (.int .i64 P.length):=by rcases h.2 with⟨rfl,rfl⟩|⟨_,u,_,_,_,rfl,_⟩<;>rfl
def ev9 (h:Hist'):∃v,Ev E 9 [.agg (yb h)] v/\jvw v (yD h):=by
 refine JX rfl zQ ?_;generalize b0:(WQ [.cell 2 (some 3)] λr=>jvw r (yD h))=PP;conv in(occs:=*)F9=>all_goals cbv
 simp[yb,ya,b0];refine jJ (vs:=[.agg (yb h)]) zI rfl (sv27 (h:=h) (cw _)) ?_;rintro v b8 d0 B ⟨Sv,Kv,Tv,P,X,M,hv,D,F,T,hP,n0,n1,n2,ff⟩;simp only at hv D F T hP n0 n1 n2 ff;subst hv;obtain⟨lS,cS⟩:=D.leaf;obtain⟨lK,cK⟩:=F.leaf;obtain⟨lT,cT⟩:=T.leaf;have c1:=T.len;have b1:b8 1=some ⟨0,.cells (yb h)⟩:=by rw[ff 1 (λm hm=>by omega)];simp[yb]
 have b2:b8 129=some ⟨64,.cells [.sl none true 0 [],.sl none true 0 [],.sl none true 0 []]⟩:=by rw[ff 129 (λm hm=>by omega)];simp
 have e1:(yD h).ss=WO 25 h.ss:=by unfold yD;split<;>rfl
 have e2:(yD h).sn=(WO 25 h.ss).isEmpty:=by unfold yD;split<;>rfl
 have e3:(yD h).ks=WO 45 h.ks:=by unfold yD;split<;>rfl
 have e4:(yD h).kn=(WO 45 h.ks).isEmpty:=by unfold yD;split<;>rfl
 have G:(jeq h).ts.length=P.length:=by show((h.ts.take 45).map fewT).length=P.length;rw[<- hP,bt]
 simp[b1,ya,yb,j2];generalize hK:jvy E YT _ PP=K;have H:∀(s:St) (c:List (Txn'×Nat)) (o:V),c.length<=8->(yD h).ts=(c.map (·.1)).map jde->(yD h).tn=c.isEmpty->s.tm 1=.ptr 1 0 0->s.tm 2=.ptr 129 64 0->s.df=[]->s.ro=0->s.fb=0->B<=s.nx ->
  s.ob 1=some ⟨0,.cells [Sv,Kv,o]⟩->s.ob 129=some ⟨64,.cells [.sl none true 0 [],.sl none true 0 [],.sl none true 0 []]⟩->StO s.ob (192+256) X (WO 25 h.ss) Sv->StO s.ob X M (WO 45 h.ks) Kv->TsO s.ob M B c o->K .nrm s:=by
  intro s c o d1 b6 c0 g1 g2 gd gr gb gn p1 p2 D F T
  rw[<- hK,jko]
  clear hK
  have c3:=T.leaf
  simp
  refine j5 [(3,3),(11,37)] c.length (λi s=>s.tm 3=.int .i64 i/\s.ob 1=some ⟨0,.cells [Sv,Kv,o]⟩/\s.ob 129=some ⟨64,.cells [.sl none true 0 [],.sl none true 0 [],.sl none true 0 []]⟩/\StO s.ob (192+256) X (WO 25 h.ss) Sv/\StO s.ob X M (WO 45 h.ks) Kv/\TsO s.ob M B (mixT c i) o) rfl rfl
   ⟨zS,by simp[p1],by simp[p2],D.frame (λ_ _ _=>by simp) zK zK,F.frame (λ_ _ _=>by simp) zK zK,by rw[jyn];exact T.frame (λ_ _ _=>by simp) zK⟩ ?_
  clear D F
  rintro i Z hi ⟨h3,o1,o2,D,F,gX⟩ f
  have f1:Z.tm 1=.ptr 1 0 0:=by rw[f.t 1 zS];simp[g1]
  have f2:Z.tm 2=.ptr 129 64 0:=by rw[f.t 2 zS];simp[g2]
  have fd:Z.df=[]:=by rw[f.d];simp[gd]
  have fb:Z.fb=0:=by rw[f.b];simp[gb]
  have fr:Z.ro=0:=by rw[f.r];simp[gr]
  clear f
  have Q:=gX.len
  rw[QM]at Q
  by_cases j:i<c.length
  ·have hw:=jR j zO;have p:i<(mixT c i).length:=by rw[QM];exact j
   rcases gX.2 with⟨he,_⟩|⟨c9,u,h1,h2,h4,rfl,h5⟩;rw[he]at p;simp at p;have d2:=gX.1 (c[i]) (by rw[<- jpj j];exact au p);have b7:jv 3 (.osl (2*u+1) u 0 (mixT c i).length 3) (.int .i64 (i:Int))=some (.ptr (2*u+1) u (i*3)):=by simp[jv,p]
   have S:((mixT c i).flatMap txU)[i*3+2]? = some (.osl (2*(c[i]).2+1) (c[i]).2 0 (c[i]).1.ops.length 4):=by rw[jO QE _ p (by decide:2<3),jpj j];rfl
   have k:=jwh (P:=mixT c i) (i:=i) p;rw[<- jmx j]at k;simp only[jpj j]at k;have b9:=jki (c[i]).1.ops.length 6;rw[show((6:Nat):Int)=6 from rfl]at b9;have c6:=λL u=>j13 (L:=L) (u:=u) (n:=(c[i]).1.ops.length) (i:=min (c[i]).1.ops.length 6) (eX _ _);have c2:(jde (c[i]).1).ops.length=min (c[i]).1.ops.length 6:=by simp only[jde,ai,Nat.min_comm]
   rw[c2]at k;have c4:¬2*u=0:=zO;have c5:¬2*u=128:=zO;have b5:i*3+2+1<=((mixT c i).flatMap txU).length:=by rw[j1 QE];omega
   simp[h3,f1,o1,ya,Q,j,b7,h5,S,b9,c6,fr,c4,c5,k];have I:∀q∈mixT c (i+1),InO Z.ob M B q/\q.2≠u:=by intro q I;rw[jmx j]at I;rcases jiw I with I|⟨x,hx,rfl⟩;exact⟨gX.1 q I,h4 q I⟩;have a0:=aJ hx;exact⟨(gX.1 x a0).six,h4 x a0⟩
   have O:(mixT c (i+1)).length=(mixT c i).length:=by rw[QM,QM]
   refine⟨by have:=b5;simp only[List.length_flatMap,QE]at this;exact this,hw,o2,D.frame (λy y1 y2=>?_) zK zK,F.frame (λy y1 y2=>?_) zK zK,λq N=>?_,.inr ⟨?_,u,h1,h2,λq N=>(I q N).2,by rw[O],zS⟩⟩;have w:¬2*y=2*u:=zO;simp[w];have w:¬2*y=2*u:=zO;simp[w];obtain⟨a,b⟩:=I q N;have w:¬2*q.2=2*u:=zO;exact a.frame (by simp[w]) zK;intro e;rw[e]at O;simp at O;omega
  ·have:i=c.length:=zO;subst this;simp[h3,f1,o1,ya,Q,f2,o2,j2,fr,D.leaf.1,F.leaf.1,c3.1];rw[<- b0];have c7:(mixT c c.length).isEmpty=(yD h).tn:=by rw[c0];exact jgu QM
   refine kE1 (g:=yD h) (l:=129) (u:=64) (x:=Sv) (y:=Kv) (z:=o) (by simp[fd]) (by simp[f2]) zS ?_ ?_ ?_;rw[e1,e2];refine StO.out (lo:=192+256) (hi:=X) (D.frame (λy J q2=>?_) zK zK) (by simp[fr]);have w:¬2*y=128:=zO;simp[w];rw[e3,e4];refine StO.out (lo:=X) (hi:=M) (F.frame (λy J q2=>?_) zK zK) (by simp[fr]);have w:¬2*y=128:=zO;simp[w];have c8:(yD h).ts.length=(mixT c c.length).length:=by rw[b6,QM];simp
   rw[c8,<- c7,b6,<- j3c];refine TsO.out (lo:=M) (hi:=B) (gX.frame (λy J q2=>?_) zK) (by simp[fr]);have w:¬2*y=128:=zO;simp[w]
 refine⟨⟨lS,lK,lT⟩,?_⟩;simp[c1];have J:∀y,192<=y->¬2*y=0:=λy hy=>by omega
 by_cases h8:8<P.length;have U:(8:Int)<(P.length:Int):=zO;simp[U,ya,j2];exact H _ [] (.sl none true 0 []) zS (by unfold yD;rw[zb (by rw[G];exact h8)];rfl) (by unfold yD;rw[zb (by rw[G];exact h8)];rfl) zS zS zS zS zS (by simp<;>omega) zS (by simp[b2])
  (D.frame (λy y1 y2=>by simp[J y zO]) zK zK) (F.frame (λy y1 y2=>by simp[J y zO]) zK zK) ⟨zS,.inl ⟨rfl,rfl⟩⟩
 have U:¬(8:Int)<(P.length:Int):=zO;simp[U];exact H _ P Tv zO (by unfold yD;rw[za (by rw[G];exact h8),hP];rfl) (by unfold yD;rw[za (by rw[G];exact h8)];show((h.ts.take 45).map fewT).isEmpty=_;rw[<- hP];exact jgu zS) zS zS zS zS zS (by simp<;>omega) zS (by simp[b2])
  (D.frame (λy y1 y2=>by simp[J y zO]) zK zK) (F.frame (λy y1 y2=>by simp[J y zO]) zK zK) (T.frame (λy y1 y2=>by simp[J y zO]) zK)
def small8 (h:Hist'):Small (yD h):=by have a:=jww h;unfold yD;split;exact⟨a.ss,a.sl,a.ks,a.kl,zS,zS⟩;refine⟨a.ss,a.sl,a.ks,a.kl,zU a.ts,λt c=>?_⟩;simp only[aI]at c;obtain⟨d,b,rfl⟩:=c;have:=a.os d b;simp only[jde,ai];omega
def j4t (h:Hist'):yD (yD h)=yD h:=by
 have b:WO 25 (jeq h).ss=(jeq h).ss:=jsv 25 h.ss;have d:WO 45 (jeq h).ks=(jeq h).ks:=jsv 45 h.ks;by_cases c:8<(jeq h).ts.length;have e:yD h={ jeq h with tn:=true,ts:=[] }:=by unfold yD;rw[zb c]
 have a:jeq { jeq h with tn:=true,ts:=[] }={ jeq h with tn:=true,ts:=[] }:=by show Hist'.mk _ _ _ _ _ _=_;simp only[b,d];rfl
 rw[e];unfold yD;rw[a];rfl;have e:yD h={ jeq h with ts:=(jeq h).ts.map jde }:=by unfold yD;rw[za c]
 have f:(((jeq h).ts.map jde).take 45).map fewT=(jeq h).ts.map jde:=by show((((h.ts.take 45).map fewT).map jde).take 45).map fewT=((h.ts.take 45).map fewT).map jde;rw[<- List.map_take,<- List.map_take,ew,cM,cM,cM];refine dw λt _=>?_;simp[fewT,jde,ew]
 have a:jeq { jeq h with ts:=(jeq h).ts.map jde }={ jeq h with ts:=(jeq h).ts.map jde }:=by show Hist'.mk _ _ _ _ _ _=_;simp only[b,d,f];simp[jeq];cases h.ts<;>simp
 rw[e];unfold yD;rw[a];have g:¬8<((jeq h).ts.map jde).length:=by simpa using c
 simp only;rw[za g,cM];congr 1;refine dw λt _=>?_;simp[jde,ew]
end Go.Pv.T
namespace Go.Pv.T
open Go Go.Pv
end Go.Pv.T
namespace Go.Pv.T
open Go Go.Pv
def f20:Small H20:=⟨zQ,zQ,zQ,zQ,zQ,zQ⟩
def jz7 (h:Hist'):(yD h).ts.length<=8:=by unfold yD;split;simp;rename_i a;simp only[bt];omega
def ev38t (b:Bool) (l:List Int) (d:l.length<=1000000000):Ev E 38 [yl b yf l] (.sl (some (0,1)) false l.length (l.flatMap yf)):=by
 refine jT rfl ?_;conv in(occs:=*)F38=>all_goals cbv
 simp;refine jF (cs:=[]) rfl rfl rfl ?_;simp;cases l with
 |nil=>rw[jU _ rfl rfl];simp[yU,yl,yp,Wc];exact jab (u:=64) zS zS (by simp[jb])
 |cons a l=>
  refine Jm (u:=64) (nl:=false) (n:=0) (cs:=[]) (ys:=(a::l).flatMap yf) zS (by simp[jb]) (by simp[Qh j6]) (by simp[yf]) zS zQ (by simp[yf,V.pureLeaf]) (by rw[j1 j6];omega) (by rw[j1 j6];omega) ?_;have c:((a::l).flatMap yf).length/1=(a::l).length:=by rw[j1 j6];simp
  rw[c,bL,dK];simp;exact jab (u:=192) zS zS (by simp[jb])
section
variable {E:Env}{st:St}{ub:Nat}{K:List FP->St->Prop}{d:Option Nat}{nm:Bool}{r:List AOpr}
def JG {a b:Nat}(h:a≠b):Nat.beq a b=false:=by cases c:Nat.beq a b;rfl;exact zf (br c) h
def j55 {f:FuncId}{xs:List A}{args:List V}{n:Nat}{cs:List V}(a:Ev E f args (.sl (some (0,1)) false n cs)) (c:(xs.map λx=>(ye E st.tm x).strip)=args) (b:E.sh nm f=false) (hp:args.all V.pureTop=true)
 (h:∀u,u=ub->YW E r K (ye E st.tm) (.call f xs) st d ub { v:=.sl (some (u,1)) false n cs,add:=[u] }):jE E (⟨d,.call f xs,none,nm⟩::r) st ub K:=by
 refine X5 a c b hp ?_;rw[jj4];rw[jG];exact h ub rfl
end
section
end
end Go.Pv.T
