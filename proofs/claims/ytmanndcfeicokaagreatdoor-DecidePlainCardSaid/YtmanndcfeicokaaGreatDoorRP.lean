/- Part. -/
import Derived.Test.YtmanndcfeicokaaGreatDoorRO
set_option maxRecDepth 100000
set_option maxHeartbeats 8000000
set_option linter.all false
namespace Go.Pv.T
open Go Go.Pv
section
variable {g:Hist'}{M:List Int}{lvl:Int}{mn rn:Bool}{rt:Option (Nat × Nat)}{kX uX lo:Nat}{ob:ZO}{ub:Nat}{lv:V}{Z:List P2}
structure AskJ (g:Hist') (mv rv:V) (kX uX lo ub:Nat) (K:Nat->Prop) (ob0:ZO) (L:List P2) (ob:ZO) (nx:Nat):Prop where
 e:∃lv',ob kX=some ⟨uX,.cells (mkS g mv rv lv')⟩/\EdV ob lo nx lv' L/\∀key,K key->ob key=ob0 key/\j5k lv' L key
 w:∀key,Off lo key->key≠kX->ob key=ob0 key
 h:lo<=ub/\ub<=nx
 x:Off lo kX
 k:∀key,K key->Off ub key/\key≠kX
def AskJ.up {mv rv:V}{K:Nat->Prop}{ob0:ZO}{L:List P2}{nx nx':Nat}{ob':ZO}(h:AskJ g mv rv kX uX lo ub K ob0 L ob nx) (c:∀a,Off nx a->ob' a=ob a) (j:nx<=nx'):AskJ g mv rv kX uX lo ub K ob0 L ob' nx':=by obtain⟨⟨d,l,i,e⟩,w,⟨n,f⟩,x,k⟩:=h;exact⟨⟨d,(c _ (x.up zO)).trans l,i.frame (λu _ h=>c _ (Off.new h)) j,λa b=>⟨(c _ ((k a b).1.up f)).trans (e a b).1,(e a b).2⟩⟩,λa b m=>(c _ (b.up zO)).trans (w a b m),⟨n,zO⟩,x,k⟩
def AskJ.put {Yf:YF}{mv rv:V}{K:Nat->Prop}{ob0:ZO}{L:List P2}{nx:Nat}{tk:Nat->Bool}{ro base:Nat}(h:AskJ g mv rv kX uX lo ub K ob0 L ob nx) (f:ro<=lo) (i:ro<=uX) (G:L.length<=100000) (a b:Int) :
 ∃r,EvS E Yf.y 168 [.ptr kX uX 0,.int .i64 a,.int .i64 b] ob tk ro base nx r/\nx<=r.2.2.2/\AskJ g mv rv kX uX lo ub K ob0 (L++[(Jg g a,Jg g b)]) r.2.1 r.2.2.2:=by
 obtain⟨⟨v,I,l,o⟩,w,⟨D,s⟩,x,k⟩:=h;obtain⟨r,t,H,⟨B,q,u,j,F,J,z⟩,p⟩:=jwn (Yf:=Yf) (tk:=tk) (ro:=ro) (base:=base) I l x zO f i G a b;refine⟨r,t,H,⟨⟨B,q,.inr ⟨u,j,F,zO,z⟩,λc d=>⟨?_,λw m e=>?_⟩⟩,λc d n=>(p c (d.up zO) n (l.off d)).trans (w c d n),⟨D,zO⟩,x,k⟩⟩;exact(p c ((k c d).1.up s) (k c d).2 (o c d).2).trans (o c d).1;rw[j]at m;have:u=w:=by injection m
 exact(k c d).1 w zO e
def askT (g:Hist') (M:List Int) (l:List Int) (i j:Nat):List P2:=askE g M (l.take j) i
def j0w {l:List Int}{j:Nat}(h:j<l.length) (i:Nat):askT g M l i (j+1)=askT g M l i j++if Jp g l[j] (Wx g ((yi g).getD i (0,0)))&&(l[j] != M.getD i 0) then [(l[j],Jg g (M.getD i 0))] else []:=by unfold askT askE;rw[av h,bP,bE];congr 1;cases a:Jp g l[j] (Wx g ((yi g).getD i (0,0)))&&(l[j] != M.getD i 0)<;>simp only[ct,dy,a,zd,ag,zc,aZ,cm]
def js6 (l:List Int) (i j:Nat):(askT g M l i j).length<=l.length:=by unfold askT askE;rw[bt];refine bI (ch _ _) ?_;rw[ai];omega
def AskR (g:Hist') (lvl:Int) (M:List Int) (mv rv:V) (kX uX lo:Nat) (ob:ZO) (ub:Nat) (Z:List P2) (r:V×(ZO)×(Nat->Bool)×Nat):Prop :=
 ub<=r.2.2.2/\(∃A,(∀z,z∈A ↔ ∃i,i<(yi g).length/\z∈askE g M (XA g lvl M i) i)/\A.length<=10000/\MkR g mv rv kX uX lo r.2.1 r.2.2.2 (Z++A))/\∀key,Off lo key->key≠kX->r.2.1 key=ob key
def sv117 {Yf:YF}{tk:Nat->Bool}{ro base:Nat}{f:FuncId}{cap:List V}(hs:Small g) (hm:WM g M=true) (hR:(yi g).length<=100) (hS:SeenF g lvl M (yl mn yf M) (rdV rt rn (yi g)) kX uX ub (jvv ub kX lv Z) ob f cap)
 (hX:ob kX=some ⟨uX,.cells (mkS g (yl mn yf M) (rdV rt rn (yi g)) lv)⟩) (hE:EdV ob lo ub lv Z) (F:Off lo kX) (c7:lo<=ub) (g5:ro<=lo) (g9:ro<=uX) (hZ:Z.length<=10000) :
 ∃r,EvS E Yf.y 117 [.ptr kX uX 0,.fn (.func f) [] cap] ob tk ro base ub r/\AskR g lvl M (yl mn yf M) (rdV rt rn (yi g)) kX uX lo ob ub Z r:=by
 have g7:=Xi hm;have c0:=Yz (YV hm);refine J6 rfl zQ ?_;show wpC E Yf S117.body _ (Jh S117.res _);conv in(occs:=*)S117=>all_goals cbv
 simp(disch:=try exact zD)[S117,ya,hX,mkS,yb,rdV];refine jQ λL o=>?_;have g0:L.tm 0=.ptr kX uX 0:=by rw[o];simp
 have g1:L.tm 1=.fn (.func f) [] cap:=by rw[o];simp
 have f7:L.tm 13=rdV rt rn (yi g):=by rw[o];simp[rdV]
 have e4:L.tm 14=.int .i64 (yi g).length:=by rw[o];simp
 have b5:L.tm 15=.int .i64 0:=by rw[o];simp
 have gd:L.df=[]:=by rw[o];simp
 have gr:L.ro=ro:=by rw[o];simp
 have gJ:AskJ g (yl mn yf M) (rdV rt rn (yi g)) kX uX lo ub (jvv ub kX lv Z) ob Z L.ob L.nx:=by
  have e:L.ob=ob:=by rw[o];simp
  have hn:ub<=L.nx:=by rw[o];first|omega|(simp;done)|(simp;omega)
  rw[e];exact⟨⟨lv,hX,hE.frame (λ_ _ _=>rfl) hn,λc h=>⟨rfl,h.2.2⟩⟩,λ_ _ _=>rfl,⟨c7,hn⟩,F,λc h=>⟨h.1,h.2.1⟩⟩
 clear o;obtain⟨J,hJ⟩:∃J:Nat->St->Prop,J=λi s=>s.tm 15=.int .i64 i/\∃A,(∀z,z∈A ↔ ∃k,k<i/\z∈askE g M (XA g lvl M k) k)/\A.length<=i*100/\AskJ g (yl mn yf M) (rdV rt rn (yi g)) kX uX lo ub (jvv ub kX lv Z) ob (Z++A) s.ob s.nx:=⟨_,rfl⟩;refine j5 [(4,9),(15,75)] (yi g).length J rfl rfl (by rw[hJ];exact⟨by simpa using b5,[],λz=>by simp,zS,by simpa using gJ⟩) ?_;clear gJ b5;intro i s hi b8 fr;rw[hJ]at b8;obtain⟨b0,A,hA,g6,sJ⟩:=b8;have s0:=(fr.t 0 zS).trans g0;have s1:=(fr.t 1 zS).trans g1;have b9:=(fr.t 13 zS).trans f7;have X:=(fr.t 14 zS).trans e4;have sd:=fr.d.trans gd;have sr:=fr.r.trans gr;clear fr;by_cases D:i<(yi g).length
 ·have d9:=jR D zO;have a0:i<M.length:=zO;have d6:=JD jS rt rn (yi g) .i64 D;have d4:=λob=>Ys (yi g) ob D;have c5:=j4 j6 mn M .i64 a0;have c9:=jn M a0;obtain⟨a,b,ha,hb,hp,c4,_⟩:=jf4 c0 D;have f2:(yi g).getD i (0,0)=((a:Int),(b:Int)):=by simp[ay,aa D,hp]
  have e7:M.getD i 0=M[i]:=by simp[ay,aa a0]
  simp only[hp]at d4;obtain⟨O,e1,e2,e3⟩:=sJ.e;have f1:=sJ.h;simp(disch:=try exact zD)[b0,X,b9,D,rdV,d6,d4,ya,j2];refine⟨by first|omega|(simp[sr];omega),?_⟩;simp(disch:=try exact zD)[s1];refine jse (f:=f) (first:=[]) (captured:=cap) (vs:=.int .i64 (i:Int)::cap) zS zS hS.sh (by simp only[bN,hS.np,du]) (hS.ev i D _ _ _ _ ?_ ⟨O,?_⟩ λc H=>?_) λv hv=>?_
  ·first|omega|(simp;done)|(simp;omega)
  have:=(F.up (show lo<=s.nx by omega)).ne;simp(disch:=try exact zD)[this,e1];have:=(H.1.up f1.2).ne;simp(disch:=try exact zD)[this];exact(e3 c H).1;obtain⟨l,hl,h5,nl,e5⟩:=hv;refine Jw e5 λc6 f3=>?_;simp;refine jQ λp n=>?_;obtain⟨z,z1,z2,p5,pZ⟩:∃z,s.nx<=z/\z<p.nx/\p.tm 5=.ptr (2*z+1) z 0/\p.ob (2*z+1)=some ⟨z,.cells [.int .i64 (a:Int),.int .i64 (b:Int)]⟩:=by refine⟨s.nx+256,zO,by rw[n];first|omega|(simp;done)|(simp;omega),by rw[n];simp[aA],by rw[n];simp[aA]⟩
  have p0:p.tm 0=.ptr kX uX 0:=by rw[n];simp[s0]
  have p1:p.tm 1=.fn (.func f) [] cap:=by rw[n];simp[s1]
  have p4:p.tm 4=.int .i64 i:=by rw[n];simp
  have g3:p.tm 13=rdV rt rn (yi g):=by rw[n];simp[b9]
  have g4:p.tm 14=.int .i64 (yi g).length:=by rw[n];simp[X]
  have d7:p.tm 15=.int .i64 i:=by rw[n];simp[b0]
  have d8:p.tm 22=.sl c6 nl l.length (l.flatMap yf):=by rw[n];simp
  have f4:p.tm 23=.int .i64 l.length:=by rw[n];simp
  have b6:p.tm 24=.int .i64 0:=by rw[n];simp
  have pd:p.df=[]:=by rw[n];simp[sd]
  have pr:p.ro=ro:=by rw[n];simp[sr]
  have pw:∀c,Off s.nx c->p.ob c=s.ob c:=λc F=>by have:=F.ne;rw[n];simp(disch:=try exact zD)[this]
  clear n;have pJ:=sJ.up (nx':=p.nx) (ob':=p.ob) pw zO;obtain⟨K2,S⟩:∃K2:Nat->Prop,K2=λc=>jvv ub kX lv Z c\/c=2*z+1:=⟨_,rfl⟩;have d3:AskJ g (yl mn yf M) (rdV rt rn (yi g)) kX uX lo p.nx K2 p.ob (Z++A) p.ob p.nx:=by
   refine⟨⟨O,(pw _ (F.up zO)).trans e1,e2.frame (λu _ h=>pw _ (Off.new h)) zO,λc H=>⟨rfl,?_⟩⟩,λ_ _ _=>rfl,⟨zO,zK⟩,F,λc H=>?_⟩;rw[S]at H;rcases H with H|rfl;exact(e3 c H).2;intro w hw;rcases e2 with⟨rfl,_⟩|⟨w',rfl,_,_,h4⟩;cases hw;have:w'=w:=by injection hw
   omega;rw[S]at H;rcases H with H|rfl;exact⟨H.1.up zO,H.2.1⟩;exact⟨Off.new z2,λe=>F z zO e.symm⟩
  have b7:(g.ts.flatMap jf)[a*3+2]? = some (yl (g.ts[a]).nl yS (g.ts[a]).ops):=by rw[jO j7 g.ts ha (by decide:2<3)];rfl
  have e0:((g.ts[a]).ops.flatMap yS)[b*4+1]? = some (.int .i64 ((g.ts[a]).ops[b]).key):=by rw[jO jD (g.ts[a]).ops hb (by decide:1<4)];rfl
  have f5:Wx g ((yi g).getD i (0,0))=((g.ts[a]).ops[b]).key:=by rw[f2,<- hp];exact c4
  have e6:∀t∈l,∃k:Nat,t=k/\k<g.ts.length:=λt ht=>jou ((hl t).1 ht);obtain⟨J2,N⟩:∃J2:Nat->St->Prop,J2=λj q=>q.tm 24=.int .i64 j/\AskJ g (yl mn yf M) (rdV rt rn (yi g)) kX uX lo p.nx K2 p.ob (Z++A++askT g M l i j) q.ob q.nx:=⟨_,rfl⟩;refine j5 [(7,9),(24,74)] l.length J2 rfl rfl (by rw[N];exact⟨by simpa using b6,by simpa[askT,askE] using d3⟩) ?_;clear b6 d3;intro j q hj d0 fr;rw[N]at d0;obtain⟨I,qJ⟩:=d0;have q0:=(fr.t 0 zS).trans p0;have q4:=(fr.t 4 zS).trans p4;have q5:=(fr.t 5 zS).trans p5;have e8:=(fr.t 15 zS).trans d7;have f6:=(fr.t 22 zS).trans d8;have c8:=(fr.t 23 zS).trans f4;have qd:=fr.d.trans pd;have qr:=fr.r.trans pr;clear fr;obtain⟨f0,c1,c2,c3⟩:=qJ.e;have h0:=qJ.h;by_cases B:j<l.length
  ·have K:=jR B zO;have d5:=JD j6 c6 nl l .i64 B;have T:=jn l B;obtain⟨t,et,f9⟩:=e6 _ (au B);have G:=j0w (g:=g) (M:=M) B i;rw[e7,et,f5]at G;rw[et]at T;have el:=ev169 hs (t:Int) ((g.ts[a]).ops[b]).key;have ez:(Yu (Js g (t:Int)).2 ((g.ts[a]).ops[b]).key).2=Jp g t ((g.ts[a]).ops[b]).key:=rfl;rw[ez]at el;have g2:=js6 (g:=g) (M:=M) l i j;have qZ:q.ob (2*z+1)=_:=(c3 _ (by rw[S];exact .inr rfl)).1.trans pZ;have U:=(F.up (show lo<=q.nx by omega)).ne;have nz:∀m,q.nx<=m->¬z=m:=λm hm=>by omega
   simp(disch:=try exact zD)[I,c8,f6,q0,q5,B,d5,T,c1,qZ,ya,mkS,yb,j4 j7,j4 jD,b7,e0];refine X5 el zI rfl zI ?_;rw[Jc (by simp[V.plain,J7])];generalize (Yu (Js g (t:Int)).2 ((g.ts[a]).ops[b]).key).1=rv9 at *;generalize Jp g t ((g.ts[a]).ops[b]).key=rb at *;simp(disch:=try exact zD)[J7,j2,ya];have bX:∀m,q.nx<=m->Nat.beq kX (2*m+1)=false:=λm hm=>JG (U m hm);refine⟨by first|omega|(simp[qr];omega),?_,?_⟩;simp(disch:=try exact zD)[JR,YY,Wn,QS,yz,yB,yR,Delta.wo,Delta.wt,bX];exact JG zO;have keep:askT g M l i (j+1)=askT g M l i j->∀s':St,s'.tm 24=.int .i64 ((j:Int)+1)->q.nx<=s'.nx->(∀c,Off q.nx c->s'.ob c=q.ob c)->J2 (j+1) s':=λe s' Q h2 h3=>by rw[N];refine⟨by simpa using Q,?_⟩;rw[e];exact qJ.up h3 h2
   cases P:((t:Int) != M[i])
   ·rw[P,du,za zQ,aL]at G;cases rb;all_goals
     simp(disch:=try exact zD)[I,q0,q4,c5,c9,P,ya,c1,U,mkS,yb,K,B]
     exact keep G _ zS zL λc F=>by simp(disch:=try exact zD)[F.ne]
   ·rw[P,ek]at G;cases rb;rw[za zQ,aL]at G;simp(disch:=try exact zD)[I,K,B];exact keep G _ zS zL λc F=>by simp(disch:=try exact zD)[F.ne]
    ·rw[zb rfl]at G;simp(disch:=try exact zD)[q0,q4,c5,c9,P,ya,c1,U,mkS,yb];refine jJ (vs:=[.ptr kX uX 0,.int .i64 (t:Int),.int .i64 M[i]]) zS rfl ((qJ.up (λc F=>?_) ?_).put ?_ ?_ ?_ _ _) ?_;simp(disch:=try exact zD)[F.ne]
     ·first|omega|(simp;done)|(simp;omega)
     first|omega|(simp[qr];omega)
     first|omega|(simp[qr];omega)
     rw[ap,ap];have:i*100<=100*100:=bi 100 zO;omega;rintro v9 h7 f8 h8 ⟨r1,r2⟩;simp only at r1 r2;have e9:Jg g (t:Int)=t:=by unfold Jg;rw[za zO]
     rw[e9,aY,<- G]at r2;simp(disch:=try exact zD)[I,K,B];rw[N];exact⟨zS,r2.up (λc _=>by simp) zL⟩
  have:j=l.length:=zO;subst this;simp(disch:=try exact zD)[I,c8,e8,d9,D];rw[hJ];have h6:=js6 (g:=g) (M:=M) l i l.length;have hT:∀x,x∈askT g M l i l.length ↔ x∈askE g M (XA g lvl M i) i:=λx=>by unfold askT;rw[bh];exact jeb hl i x
  rw[aY]at qJ;refine⟨zS,A++askT g M l i l.length,λx=>?_,?_,?_⟩;rw[aQ,hA,hT];constructor;rintro(⟨k,F,h⟩|h);exact⟨k,zO,h⟩;exact⟨i,zO,h⟩;rintro⟨k,F,h⟩;rcases cJ k i with Q|Q;exact .inl ⟨k,Q,h⟩;rw[show k=i by omega]at h;exact .inr h;rw[ap,cW];omega;have g8:=qJ.h;refine AskJ.up (ob:=q.ob) (nx:=q.nx) ⟨⟨f0,c1,by rw[<- aY];exact c2,λc H=>?_⟩,λc Q h2=>?_,⟨c7,zO⟩,F,λc h=>⟨h.1,h.2.1⟩⟩ (λc _=>by simp) zL;obtain⟨d1,d2⟩:=c3 c (by rw[S];exact .inl H);rw[<- aY];exact⟨d1.trans (pJ.e.choose_spec.2.2 c H).1,d2⟩;exact(qJ.w c Q h2).trans (pJ.w c Q h2)
 have:i=(yi g).length:=zO;subst this;simp(disch:=try exact zD)[b0,X];obtain⟨⟨O,e1,e2,_⟩,w,h,_,_⟩:=sJ;exact jfg (.inl rfl) (by simp[sd]) ⟨zL,⟨A,hA,zO,O,by simpa[rdV] using e1,e2.frame (λ_ _ _=>by simp) zL⟩,λc Q h2=>by simpa using w c Q h2⟩
end
def sv121v {Yf:YF}{l u:Nat}{T:List Val'}(hT:T.length<=100000) {ob:ZO}{tk:Nat->Bool}{ro base ub:Nat}(ho:ob l=some ⟨u,.cells (T.flatMap J7)⟩) (c0:ro<=u) :
 ∃r,EvS E Yf.y 121 [.osl l u 0 T.length 2] ob tk ro base ub r/\CompP l u T.length (Jf T T.length) ob tk ub r:=by
 refine J6 rfl zQ ?_;show wpC E Yf S121.body _ (Jh S121.res _);have b7:=j1 jaf T;by_cases h2:T.length<2
 ·have hc:Jf T T.length=T:=by
   match T,h2 with
   |[],_=>rfl
   |[x],_=>rfl
   |_::_::_,h=>simp at h;omega
  have Z:(T.length:Int)<2:=zO;rw[hc];conv in(occs:=*)S121=>all_goals cbv
  simp[Z];exact JN zS ⟨zS,⟨_,by simpa using ho,b7,zK,aH zO⟩,λa h=>by simp,zS,by simp;omega⟩
 have Z:¬(T.length:Int)<2:=zO;conv in(occs:=*)S121=>all_goals cbv
 simp[Z];refine j5 [(2,5),(10,59)] (T.length-1) (λk s=>s.tm 3=.int .i64 ((1+k:Nat):Int)/\Jf T (1+k)=T.take (1+k)/\s.ob=ob/\s.tk=tk/\ub<=s.nx) rfl rfl ⟨zS,?_,zS,zS,by simp;omega⟩ ?_;rw[bl,jg8 (T:=T) (j:=0) zO (λh=>zf h zO),av zO];rfl;rintro k s hk ⟨Q,c,b,J,d4⟩ f;have f0:s.tm 0=.osl l u 0 T.length 2:=by rw[f.t 0 zS];simp
 have fd:s.df=[]:=by rw[f.d];simp
 have fr:s.ro=ro:=by rw[f.r];simp
 clear f;obtain⟨q,hq⟩:∃q,1+k=q:=⟨_,rfl⟩;rw[hq]at Q c;by_cases o:q<T.length;have c4:(q:Int)<T.length:=zO;have hw:=jR o zO;have b8:IntKind.i64.wrap ((q:Int)-1)=((q-1:Nat):Int):=by rw[wrapN zO zO];omega
 have i1:=idx2 (l:=l) (u:=u) (off:=0) (n:=T.length) (kk:=.i64) (X:=(q:Int)) rfl o;have i0:=idx2 (l:=l) (u:=u) (off:=0) (n:=T.length) (kk:=.i64) (X:=((q-1:Nat):Int)) rfl zO;have l1:=ld2 ho o;have l0:=ld2 ho (show q-1<T.length by omega);have b0:T[q]=T[q-1]->Jf T (q+1)=Jf T q:=jns zO o;have c9:T[q]≠T[q-1]->Jf T (q+1)=Jf T q++[T[q]]:=λh=>jg8 o λ_=>h;have d1:T.take (q+1)=T.take q++[T[q]]:=av o;have I:=j5p T[q] (T[q-1]' zO);rw[bL]at i1 i0;generalize hx:T[q]=x at *;generalize hy:T[q-1]' zO=y at *;generalize e6:((q-1:Nat):Int)=Q1 at *;cases K:(x==y);have c8:x≠y:=by simpa using K
 rw[K]at I;simp[Q,f0,c4,b8,i1,i0,b,l1,l0];simp[J7,<- I,Q,hw];refine⟨zO,zO,?_,b,J,zO⟩;rw[show 1+(k+1)=q+1 by omega,c9 c8,c,d1];have he:x=y:=by simpa using K
 rw[K]at I;simp[Q,f0,c4,b8,i1,i0,b,l1,l0];have d7:=jh7 (L:=l) (u:=u) (n:=T.length) (i:=q) zO;simp[J7,<- I,Q,f0,d7];refine j5 [(3,3),(5,5),(29,53)] (T.length-q-1) (λj s=>s.tm 5=.int .i64 ((1+j:Nat):Int)/\∃w:Nat,s.tm 3=.int .i64 (w:Int)/\w=(Jf T (q+1+j)).length /\
  (∃M:List Val',s.ob l=some ⟨u,.cells (M.flatMap J7)⟩/\M.length=T.length/\M.take w=Jf T (q+1+j)/\∀m,q+j<=m->M[m]? = T[m]?)/\(∀a,a≠l->s.ob a=ob a)/\s.tk=tk/\ub<=s.nx) rfl rfl
  ⟨zS,q,by simp[Q],?_,⟨T,by simp[b,ho],rfl,?_,λ_ _=>rfl⟩,λa h=>by simp[b],by simp[J],by simp;omega⟩ ?_
 rw[bl,b0 he,c,ai];omega;rw[bl,b0 he,c];clear d4 J b Q;rintro j s1 hj ⟨g5,w,g3,v,⟨M,gM,b5,B,G⟩,D,a0,e5⟩ f;have g0:s1.tm 0=.osl l u 0 T.length 2:=by rw[f.t 0 zS];simp[f0]
 have g4:s1.tm 4=.osl l u (q*2) (T.length-q) 2:=by rw[f.t 4 zS];simp
 have gd:s1.df=[]:=by rw[f.d];simp[fd]
 have gr:s1.ro=ro:=by rw[f.r];simp[fr]
 clear f;obtain⟨p,hp⟩:∃p,1+j=p:=⟨_,rfl⟩;rw[hp]at g5;rw[show q+1+j=q+p by omega]at v B;have d9:=jjf T (q+p) zO;have e0:w<=q+j:=by
  have e1:Jf T (q+1)=T.take q:=by rw[b0 he,c]
  have a:∀j,q+1+j<=T.length->(Jf T (q+1+j)).length<=q+j:=by
   intro j;induction j with
   |zero=>intro _;rw[bl,e1,ai];omega
   |succ j ih=>intro h;have:=ih zO;rw[<- aA];simp only[Jf,ap,aa (show q+1+j<T.length by omega)];split<;>simp<;>omega
  have:=a j zO;rw[show q+1+j=q+p by omega]at this;omega
 by_cases c6:p<T.length-q;have b6:q+p<T.length:=zO;have F:(p:Int)<((T.length-q:Nat):Int):=zO;have c7:=jR (i:=p) (N:=T.length) zO zO;have S:IntKind.i64.wrap ((p:Int)-1)=((p-1:Nat):Int):=by rw[wrapN zO zO];omega
 have d3:=jR (i:=w) (N:=T.length) zO zO;have k1:=idx2 (l:=l) (u:=u) (off:=q*2) (n:=T.length-q) (kk:=.i64) (X:=(p:Int)) rfl c6;have k0:=idx2 (l:=l) (u:=u) (off:=q*2) (n:=T.length-q) (kk:=.i64) (X:=((p-1:Nat):Int)) rfl zO;have kw:=idx2 (l:=l) (u:=u) (off:=0) (n:=T.length) (kk:=.i64) (X:=(w:Int)) rfl zO;rw[show q*2+p*2=(q+p)*2 by omega]at k1;rw[show q*2+(p-1)*2=(q+p-1)*2 by omega]at k0;rw[bL]at kw;have d0:M[q+p]' zO=T[q+p]:=by have:=G (q+p) zO;rw[aa zO,aa b6]at this;exact cu this
 have d5:M[q+p-1]' zO=T[q+p-1]' zO:=by have:=G (q+p-1) zO;rw[aa zO,aa zO]at this;exact cu this
 have m1:=ld2 gM (show q+p<M.length by omega);have m0:=ld2 gM (show q+p-1<M.length by omega);rw[d0]at m1;rw[d5]at m0;have z:=j1 jaf M;have c2:=st2 (M:=M) (x:=w) zO T[q+p];have P:T[q+p]=T[q+p-1]' zO->Jf T (q+p+1)=Jf T (q+p):=jns zO b6;have O:T[q+p]≠T[q+p-1]' zO->Jf T (q+p+1)=Jf T (q+p)++[T[q+p]]:=λh=>jg8 b6 λ_=>h;have e:=j5p T[q+p] (T[q+p-1]' zO);have d8:w*2+2<=T.length*2:=zO;generalize e2:T[q+p]=x2 at *;generalize e4:T[q+p-1]' zO=y2 at *;generalize e3:((p-1:Nat):Int)=Q2 at *;generalize H:((T.length-q:Nat):Int)=Q3 at *;cases g:(x2==y2);have U:x2≠y2:=by simpa using g
 rw[g]at e;simp[g5,g4,H,F,S,k1,k0,m1,m0];simp[J7]at c2;simp[J7,<- e,g5,g4,g3,g0,c7,d3,k1,m1,kw,ya,gM,z,b5,d8,gr,c0,c2];refine⟨zO,zO,w+1,rfl,?_,⟨M.set w x2,rfl,by simp[b5],?_,λm hm=>?_⟩,λa h=>by simp[h,D],by simp[jk,a0],zO⟩;rw[show q+1+(j+1)=q+p+1 by omega,O U,ap,<- v];rfl;rw[show q+1+(j+1)=q+p+1 by omega,O U,<- B];rw[List.take_set,av (show w<M.length by omega),List.set_append_right _ _ (by rw[ai];omega),ai,cE zO,fU];rfl;rw[cU zO];exact G m zO;have c3:x2=y2:=by simpa using g
 rw[g]at e;simp[g5,g4,H,F,S,k1,k0,m1,m0];simp[J7,<- e,g5,c7];exact⟨zO,zO,w,g3,by rw[show q+1+(j+1)=q+p+1 by omega,P c3];exact v,⟨M,gM,b5,by rw[show q+1+(j+1)=q+p+1 by omega,P c3];exact B,λm hm=>G m zO⟩,D,a0,zO⟩;have d2:q+p=T.length:=zO;rw[d2]at v B;have F:¬(p:Int)<((T.length-q:Nat):Int):=zO;generalize H:((T.length-q:Nat):Int)=Q3 at *;have b9:w<=T.length:=zO;have c1:=jh7 (L:=l) (u:=u) b9;have c5:=j14 (L:=l) (u:=u) b9;have z:=j1 jaf M;simp[g5,g4,H,F,g0,g3,c1];refine jsg (l:=l) (u:=u) (off:=w*2) (n:=T.length-w) (cs:=M.flatMap J7) zS (by simp[gM]) (by simp[gr,c0]) rfl (by rw[z];omega) ?_;simp[g0,g3,c5];refine JN (by simp[gd]) ⟨by simp[v],⟨_,by simp;rfl,?_,zO,?_⟩,λa h=>by simp[h,D],by simp[jk,a0],by simp;omega⟩;unfold j2;have d6:(ja6 (T.length-w) [V.int .i64 0,V.int .i64 0]).length=(T.length-w)*2:=by simp[ja6]
 simp only[ap,ai,bc,z,d6];omega;rw[<- v,<- B];unfold j2;rw[aY,eV (by rw[ai,z];omega),ew,Nat.min_self];exact jca jaf M w;have:q=T.length:=zO;subst this;simp[Q,f0];rw[bh]at c;rw[c];exact JN (by simp[fd]) ⟨zS,⟨_,by simp[b,ho],b7,zK,aH zO⟩,λa h=>by simp[b],by simp[J],by simp;omega⟩
def toV (p:P2):Val':=⟨p.1,p.2⟩
def toV_inj {p q:P2}:toV p=toV q ↔ p=q:=by obtain⟨a,b⟩:=p;obtain⟨c,d⟩:=q;simp[toV]
def j6l (L:List P2):L.flatMap yT=(L.map toV).flatMap J7:=by rw[List.flatMap_map];rfl
def cF:P2->List P2->List P2
 |_,[]=>[]
 |x,y::s=>if x=y then cF y s else y::cF y s
def j0t (z:P2):∀(r:List P2) (x:P2),cF x (r++[z])=cF x r++if (x::r).getLast? = some z then [] else [z]
 |[],x=>by by_cases h:x=z<;>simp[cF,h]
 |y::s,x=>by rw[cZ,cF,cF,j0t z s y,show(x::y::s).getLast? = (y::s).getLast? from by simp[List.getLast?_cons_cons]];by_cases h:x=y;rw[zb h,zb h];rw[za h,za h,cZ]
def js1:∀(r:List P2) (x:P2),ja7 (x::r)=x::cF x r
 |[],x=>rfl
 |y::s,x=>by have a:=js1 s y;rw[ja7,a,cF]
def jnt (x:P2) (r:List P2):∀j,j<=r.length->Jf ((x::r).map toV) (j+1)=(x::cF x (r.take j)).map toV
 |0,_=>by simp[Jf,cF]
 |j+1,h=>by
  rw[Jf,jnt x r j zO,av zO,j0t,<- cZ,bE];congr 1;have e:((x::r).map toV)[j+1]? = some (toV r[j]):=by rw[aW,bZ,aa zO];rfl
  have f:((x::r).map toV)[j+1-1]? = ((x::r.take j).getLast?).map toV:=by
   rw[ft,aW];congr 1;rw[List.getLast?_eq_getElem?];cases j with
   |zero=>simp
   |succ j=>simp[ai,cE (show j+1<=r.length by omega)]
  rw[e,f];by_cases b:(x::r.take j).getLast? = some r[j];rw[zb b,zb ⟨zO,by rw[b];rfl⟩];rfl;rw[za b,za λd=>b ?_];rfl;obtain⟨_,a⟩:=d;cases c:(x::r.take j).getLast? with
  |none=>rw[c]at a;cases a
  |some w=>rw[c]at a;simp only[aU,ab]at a;rw[toV_inj.1 a]
def j49 (L:List P2):Jf (L.map toV) L.length=(ja7 L).map toV:=by
 cases L with
 |nil=>rfl
 |cons x r=>have:=jnt x r r.length zK;rw[bh]at this;rw[js1];exact this
def sv121 {Yf:YF}{l u:Nat}{L:List P2}(i:L.length<=100000) {ob:ZO}{tk:Nat->Bool}{ro base ub:Nat}(g:ob l=some ⟨u,.cells (L.flatMap yT)⟩) (d:ro<=u) :
 ∃r,EvS E Yf.y 121 [.osl l u 0 L.length 2] ob tk ro base ub r/\r.1=.osl l u 0 (ja7 L).length 2/\∃cs,r.2.1 l=some ⟨u,.cells cs⟩/\(ja7 L).length*2<=cs.length/\cs.take ((ja7 L).length*2)=(ja7 L).flatMap yT:=by
 have a:(L.map toV).length=L.length:=bt ..;obtain⟨r,f,b,⟨cs,h,j,e,c⟩,_⟩:=sv121v (Yf:=Yf) (l:=l) (u:=u) (T:=L.map toV) (by rw[a];exact i) (ob:=ob) (tk:=tk) (ro:=ro) (base:=base) (ub:=ub) (by rw[<- j6l];exact g) d;rw[a]at f b j e c;rw[j49]at b e c;rw[bt]at b e c;refine⟨r,f,b,cs,h,zO,?_⟩;rw[c,j6l]
def j0e:∀L:List P2,(L.flatMap yT).mapM int64? = some (Wk L)
 |[]=>rfl
 |x::L=>by rw[bk];show(V.int .i64 x.1::V.int .i64 x.2::L.flatMap yT).mapM int64? = _;simp only[bR,j0e L];rfl
def jik:∀L:List P2,pairsI (Wk L)=L
 |[]=>rfl
 |(a,b)::L=>by simp only[Wk,pairsI,jik L]
def jss:∀L:List P2,(Wk L).map (V.int .i64)=L.flatMap yT
 |[]=>rfl
 |(a,b)::L=>by simp only[Wk,aZ,jss L,bk,yT];rfl
def jh6:∀{L:List P2},(∀z∈L,Yo z.1=true/\Yo z.2=true)->(Wk L).all Yo=true
 |[],_=>rfl
 |(a,b)::L,h=>by have c:=h (a,b) (aM ..);simp only[Wk,bN,c.1,c.2,jh6 λz d=>h z (aV _ d),dp]
def sv119 {Yf:YF}{l u:Nat}{L:List P2}(i:L.length<=100000) (c:∀z∈L,Yo z.1=true/\Yo z.2=true) {ob:ZO}{tk:Nat->Bool}{ro base ub:Nat}(f:ob l=some ⟨u,.cells (L.flatMap yT)⟩) (d:ro<=u) :
 ∃r,EvS E Yf.y 119 [.osl l u 0 L.length 2,.fn (.func 120) [] []] ob tk ro base ub r/\ub<=r.2.2.2/\∀a,r.2.1 a=if a=l then some ⟨u,.cells ((ja5 L).flatMap yT)⟩ else ob a:=by
 have e:=j1 XD L;refine⟨(.tup [],upd ob l (some ⟨u,.cells ((ja5 L).flatMap yT)⟩),tk,ub),jld (m:=some 120) rfl ?_ rfl,zK,λa=>by simp[yg]⟩;have h:ya ob l u=some (L.flatMap yT):=by simp[ya,f]
 have b:jq7 (some 120) (Wk L)=true:=jh6 c;simp only[jty,jlr,jhp,Qb,h,ah,zd];rw[zb ⟨bT▸d,trivial,zO,zO⟩,dt,aH zO,j0e,ah,zb b,jik,jss];have:((ja5 L).flatMap yT).length=(L.flatMap yT).length:=by rw[j1 XD,j1 XD,(XO L).length_eq]
 rw[j2,dP,dK,bB zO,aL]
def sv119n {Yf:YF}{ob:ZO}{tk:Nat->Bool}{ro base ub:Nat}:∃r,EvS E Yf.y 119 [.sl none true 0 [],.fn (.func 120) [] []] ob tk ro base ub r/\r.2.1=ob/\ub<=r.2.2.2 :=
 ⟨(.tup [],ob,tk,ub),jld (m:=some 120) rfl rfl rfl,rfl,zK⟩
def sv121n {Yf:YF}{ob:ZO}{tk:Nat->Bool}{ro base ub:Nat}:∃r,EvS E Yf.y 121 [.sl none true 0 []] ob tk ro base ub r/\r.1=.sl none true 0 []/\ub<=r.2.2.2:=by
 refine J6 rfl zQ ?_;show wpC E Yf S121.body _ (Jh S121.res _);conv in(occs:=*)S121=>all_goals cbv
 simp;exact JN zS ⟨zS,zL⟩
def joi {F:Env}{Yf:YF}{o:AOpr}{st:St}{ub:Nat}{K:St->Nat->Prop}(h:∀s u,s=st->u=ub->j8 F Yf o s u K):j8 F Yf o st ub K:=h st ub rfl rfl
def jt2 (g:Hist') (lvl:Int) (M:List Int):List P2×Int:=if jnp g lvl M=0 then (jp (g.ts.length+1) (jdo g lvl M),0) else ([],jnp g lvl M)
def SatR (r:List P2×Int) (v:V):Prop:=∃nl,(nl=true->r.1=[])/\TupS [.sl none nl r.1.length (r.1.flatMap yT),.int .i64 r.2] v
section
variable {g:Hist'}{M:List Int}
def ev74 (hs:Small g) (h8:g.ts.length<=8) {mn:Bool}(lvl:Int) (hM:M.length<=100):∃v,Ev E 74 [.int .i64 lvl,.agg (yb g),yl mn yf M] v/\SatR (jt2 g lvl M) v:=by
 have c3:=ev30 hs;have S:=ev114 hs (b:=mn) M zO;rw[jzu]at S;have j:∀{k:St}{e:Int},k.df=[]->k.tm 6=.sl none true 0 []->k.tm 7=.int .i64 e->jt2 g lvl M=([],e)->WQ [.t 6,.t 7] (SatR (jt2 g lvl M)) .ret k:=fun {k e} hd h6 h7 he=>by rw[he];exact jhy (ns:=[6,7]) (vs:=[.sl none true 0 [],.int .i64 e]) (ls:=[.sl none true 0 [],.int .i64 e]) (λr h=>⟨true,λ_=>rfl,h⟩) hd (by simp[h6,h7]) zS zS ⟨jM rfl,jM rfl,trivial⟩
 refine JX rfl zQ ?_;conv in(occs:=*)F74=>all_goals cbv
 simp[ya,yb,yl,V.cells,V.leaf];refine jH c3 zH rfl zH ?_;cases G:jP g;simp;exact j (e:=4) zS zS zS (by simp[jt2,jnp,G]);by_cases H:lvl<1;simp[H];exact j (e:=2) zS zS zS (by simp[jt2,jnp,G,H]);by_cases L:2<lvl;simp[H,L];exact j (e:=2) zS zS zS (by simp[jt2,jnp,G,H,L]);simp[H,L,ya];refine jH S zH rfl zH ?_;cases y:WM g M;simp;exact j (e:=2) zS zS zS (by simp[jt2,jnp,G,H,L,y]);have d5:lvl=1\/lvl=2:=zO;have hE:jt2 g lvl M=(jp (g.ts.length+1) (jdo g lvl M),0):=by simp[jt2,jnp,G,H,L,y]
 rw[hE];obtain⟨vr,c5,b0⟩:=ev72 hs;rw[show jbq g=yi g by simp[jbq,G]]at b0;have f2:=Xi y;have hR:(yi g).length<=100:=zO;simp[ya,j2];refine X5 c5 zH rfl zH ?_;refine Jw b0 λrt add=>?_;generalize c0:(yi g).isEmpty=rn;clear c0;simp[j2,V.cells,V.leaf];refine joi λk nx i b6=>?_;obtain⟨c,u1,I,gX⟩:∃c,c<nx/\k.tm 8=.ptr (2*c+1) c 0/\k.ob (2*c+1)=some ⟨c,.cells (mkS g (yl mn yf M) (rdV rt rn (yi g)) (.sl none true 0 []))⟩:=by refine⟨1600,by rw[b6];simp,by rw[i];simp,by rw[i];simp[mkS,yb,yl,rdV]⟩
 have g0:k.tm 0=.int .i64 lvl:=by rw[i];simp
 have gd:k.df=[]:=by rw[i];simp
 have n:k.ro=0:=by rw[i];simp
 have c6:k.tm 32=.ptr (2*c+1) c 0:=by rw[<- I,i];simp
 clear i b6;have X:MkR g (yl mn yf M) (rdV rt rn (yi g)) (2*c+1) c (c+1) k.ob nx []:=⟨_,gX,.inl ⟨rfl,rfl⟩⟩;have J:Off (c+1) (2*c+1):=Off.new (cX _);have f5:=Xe g;have d2:=jai g 8 (ym g).length zO;have d6:(yF g (ym g).length).length<=72:=bI d2 (by have:(ym g).length*(8+1)<=8*9:=bi 9 zO;omega);refine jJ (vs:=[.ptr (2*c+1) c 0]) (by simp[c6]) rfl (sv115 hs G h8 (lo:=c+1) X J zO ?_ ?_) ?_;simp[n];simp[n];rintro v1 f1 d9 U ⟨q1,D,T⟩;simp only at q1 D T;have e7:nx<=U:=by first|omega|(simp at q1;omega)
 clear X gX;simp[I];refine jJ (vs:=[.ptr (2*c+1) c 0]) zS rfl (sv116 (rt:=rt) (rn:=rn) (lo:=c+1) (D.keep (λf0 _=>by simp) (J.up ?_) ?_) y J ?_ ?_ ?_ zO zO) ?_;omega
 ·first|omega|(simp;done)|(simp;omega)
 ·first|omega|(simp;done)|(simp;omega)
 simp[n];simp[n];rintro v2 e3 e8 F ⟨q2,a0,O⟩;simp only at q2 a0 O;have f3:U<=F:=by first|omega|(simp at q2;omega)
 clear D;have d7:=jju g M (yi g).length;obtain⟨lv,l,m⟩:=a0;simp[I,g0];refine jJ (vs:=[.ptr (2*c+1) c 0,.int .i64 lvl]) zS rfl (sv118 (rt:=rt) (rn:=rn) (mn:=mn) (lo:=c+1) (lv:=lv) ?_ (m.frame (λu _ _=>by simp) ?_) J ?_ ?_ y h8 hR d5) ?_;simpa using l
 ·first|omega|(simp;done)|(simp;omega)
 ·first|omega|(simp;done)|(simp;omega)
 simp[n];rintro v3 b7 e5 b9 ⟨q3,p,f,d3,rfl,hS⟩;simp only at q3 p hS;have e0:F<=b9:=by first|omega|(simp at q3;omega)
 have x:b7 (2*c+1)=some ⟨c,.cells (mkS g (yl mn yf M) (rdV rt rn (yi g)) lv)⟩:=by rw[p _ (J.up zL)];simpa using l
 have w:EdV b7 (c+1) F lv (yF g (ym g).length++srcL g M (yi g).length):=m.frame (λu _ h=>by
  rw[p _ (Off.new zL)];simp) zK
 clear l m;simp;refine jJ (vs:=[.ptr (2*c+1) c 0,.fn (.func f) [] d3]) zS rfl (sv117 (lvl:=lvl) (rt:=rt) (rn:=rn) (mn:=mn) (lo:=c+1) (lv:=lv) (Z:=yF g (ym g).length++srcL g M (yi g).length) hs y hR hS (by simpa using x) (w.frame (λu _ _=>by simp) zO) J zO ?_ ?_ (by rw[ap];omega)) ?_;simp[n];simp[n];rintro v4 d8 e4 d4 ⟨q4,⟨A,hA,e9,e6,d,s⟩,N⟩;simp only at q4 d s N;have f4:b9<=d4:=by first|omega|(simp at q4;omega)
 have q:=j7y hA;have P:=jov y q;have Q:(yF g (ym g).length++srcL g M (yi g).length++A).length<=100000:=by rw[ap,ap];omega
 have b5:=Qj y q;have b8:=(XO (yF g (ym g).length++srcL g M (yi g).length++A)).length_eq;generalize yF g (ym g).length++srcL g M (yi g).length++A=Z at *;have c4:∀z∈Z,Yo z.1=true/\Yo z.2=true:=λz hz=>by obtain⟨a,b,rfl,ha,hb⟩:=P z hz;simp only[Yo,aj,ze];omega
 clear x w hS p O T N hA;rcases s with⟨rfl,rfl⟩|⟨u,rfl,c8,e2,e1⟩;simp(disch:=try exact zD)[I,ya,d,mkS,yb];refine jJ (vs:=[.sl none true 0 [],.fn (.func 120) [] []]) zS rfl sv119n ?_;rintro v5 o c2 d0 ⟨K,q5⟩;simp only at K q5;have B:o (2*c+1)=some ⟨c,.cells (mkS g (yl mn yf M) (rdV rt rn (yi g)) (.sl none true 0 []))⟩:=by rw[K];simpa using d
 simp(disch:=try exact zD)[I,ya,B,mkS,yb];refine jJ (vs:=[.sl none true 0 []]) zS rfl sv121n ?_;rintro v6 c1 d1 c7 ⟨rfl,q6⟩;simp;have he:jp (g.ts.length+1) (jdo g lvl M)=[]:=b5.symm;rw[he];refine jhy (ns:=[6,7]) (vs:=[.sl none true 0 [],.int .i64 0]) (ls:=[.sl none true 0 [],.int .i64 0]) (λr h=>⟨true,λ_=>rfl,h⟩) (by simp[gd]) zS zS zS ⟨jM rfl,jM rfl,trivial⟩;simp(disch:=try exact zD)[I,ya,d,mkS,yb];refine jJ (vs:=[.osl (2*u+1) u 0 Z.length 2,.fn (.func 120) [] []]) zS rfl (sv119 Q c4 (by simpa using c8) ?_) ?_;simp[n];rintro v5 o c2 d0 ⟨q5,K⟩;simp only at K q5;have B:o (2*c+1)=some ⟨c,.cells (mkS g (yl mn yf M) (rdV rt rn (yi g)) (.osl (2*u+1) u 0 Z.length 2))⟩:=by rw[K,za zO];simpa using d
 have c9:o (2*u+1)=some ⟨u,.cells ((ja5 Z).flatMap yT)⟩:=by rw[K,zb rfl]
 simp(disch:=try exact zD)[I,ya,B,mkS,yb];refine jJ (vs:=[.osl (2*u+1) u 0 (ja5 Z).length 2]) (by simp[b8]) rfl (sv121 zO (by simpa using c9) ?_) ?_;simp[n];rintro v6 c1 d1 c7 ⟨rfl,cs,h6,l6,t6⟩;simp only at h6;rw[b5]at l6 t6 ⊢;simp;refine jhy (ns:=[6,7]) (vs:=[.osl (2*u+1) u 0 (jp (g.ts.length+1) (jdo g lvl M)).length 2,.int .i64 0]) (ls:=[.sl none false (jp (g.ts.length+1) (jdo g lvl M)).length ((jp (g.ts.length+1) (jdo g lvl M)).flatMap yT),.int .i64 0]) (λr h=>⟨false,λh=>(by cases h),h⟩) (by simp[gd]) zS zS zS ⟨XP rfl (jh8 (cs:=cs) (by simpa using h6) ?_ l6 t6 (j0f _)),jM rfl,trivial⟩;simp[n]
end
end Go.Pv.T
namespace Go.Pv.T
open Go Go.Pv
end Go.Pv.T
namespace Go.Pv.T
open Go Go.Pv
end Go.Pv.T
namespace Go.Pv.T
open Go Go.Pv
def NumE (r:List Int×Int) (v:V):Prop:=∃nl,(nl=true->r.1=[])/\TupS [.sl none nl r.1.length (r.1.flatMap yf),.int .i64 r.2] v
def jke {st:St}{a b:Nat}{r:List Int×Int}{t:Option (Nat×Nat)}{nl:Bool}(c:st.df=[]) (d:st.tm a=.sl t nl r.1.length (r.1.flatMap yf)) (f:st.tm b=.int .i64 r.2) (e:nl=true->r.1=[]):WQ [.t a,.t b] (NumE r) .ret st :=
 jhy (ns:=[a,b]) (vs:=[.sl t nl r.1.length (r.1.flatMap yf),.int .i64 r.2]) (ls:=[.sl none nl r.1.length (r.1.flatMap yf),.int .i64 r.2]) (λ_ h=>⟨nl,e,h⟩) c (by simp[d,f]) zS zS ⟨XP rfl (ja _ t nl _ _),jM rfl,trivial⟩
section
end
def jte (l:List Int) (g:FuncId) (cap:V) (p:Int->Bool) (ob:ZO):Prop:=∀(Yf:YF) (x:Int),x∈l->∀(tk:Nat->Bool) (ro base ub:Nat),∃r,EvS E Yf.y g [.int .i64 x,cap] ob tk ro base ub r/\(r.1=.bool (p x)/\r.2.1=ob/\r.2.2.1=tk/\ub<=r.2.2.2)
def jeo {Yf:YF}{q x:A}{st:St}{ub:Nat}{K:St->Nat->Prop}{d:Option Nat}{nm:Bool}{l:List Int}{g:FuncId}{cap:V}{p:Int->Bool}{ob0:ZO}{k:Int}(hp:jte l g cap p ob0) (t:k∈l) (b:st.ob=ob0) (u:ye E st.tm q=.fn (.func g) [] [cap]) (s:ye E st.tm x=.int .i64 k)
 (r:E.sh nm g=true) (h:∀a,ub<=a->K (jt7 st d (.bool (p k)) ob0 st.tk) a):j8 E Yf ⟨d,.callV q [x],none,nm⟩ st ub K:=by
 refine jzc (f:=g) (first:=[]) (captured:=[cap]) (vs:=[.int .i64 k,cap]) u (by simp[s]) r (by rw[b];exact hp Yf k t st.tk st.ro _ ub) ?_;rintro v n o c ⟨m,e,i,j⟩;simp only at m e i j;subst m e i;exact h c j
def j98 {p:Int->Bool}{l:List Int}{g:FuncId}{cap:V}{ob:ZO}(B:E.sh true g=true) (hp:jte l g cap p ob) {L u:Nat}{cs:List V}(x:ob L=some ⟨u,.cells cs⟩) (z:cs.take l.length=l.flatMap yf) (F:l.length<=1000000) (tk:Nat->Bool) (base ub:Nat) :
 EvO E 147 [.osl L u 0 l.length 1,.fn (.func g) [] [cap]] ob tk base ub (.int .i64 (WG p l)):=by
 refine jr rfl ?_;conv in(occs:=*)S147=>all_goals cbv
 simp;refine Yq (n:=l.length) (λk s=>∃i,k=l.length-i/\i<=l.length/\s.df=[]/\s.ob=ob/\s.tm 0=.osl L u 0 l.length 1/\s.tm 1=.fn (.func g) [] [cap]/\s.tm 7=.int .i64 l.length/\s.tm 8=.int .i64 i/\∀j (c:j<l.length),j<i->p l[j]=false)
  ⟨0,zS⟩ ?_
 rintro k s ⟨i,rfl,G,e,d,v,w,r,f,o⟩;by_cases a:i<l.length;have m:=j4j (l:=L) (u:=u) (n:=l.length) (kk:=.i64) (X:=(i:Int)) rfl a;have q:=OwnI.at z a;simp[v,w,r,f,a,m,ya,d,x,q];refine jeo hp (au a) (by simpa using d) zS (k:=l[i]) zS B λD y=>?_;cases b:p l[i];simp[v,w,r,f,e];refine⟨l.length-(i+1),zO,i+1,rfl,zO,by rw[jg zO zO];simp,?_⟩;intro j c t;rcases bj.1 t with h|rfl
 exact o j c h;exact b;simp;refine j3 (by simpa using e) ?_ rfl;simp;rw[Ya a b o];have:i=l.length:=zO;subst this;simp[r,f];refine j3 (by simpa using e) ?_ rfl;simp[WE (λj c=>o j c c)]
def sv153b {Yf:YF}{g:FuncId}{a b c:Nat}{p:Int->Bool}(hg:E.sh true g=true) {ob:ZO}{tk:Nat->Bool}{ro base ub L u:Nat}{l:List Int}(hl:l.length<=1000000) (ho:ob L=some ⟨u,.cells (l.flatMap yf)⟩) (b0:ro<=u)
 (hp:∀U:ZO,(∀q,q≠L->U q=ob q)->jte l g (.ptr a b c) p U) :
 ∃r,EvS E Yf.y 153 [.osl L u 0 l.length 1,.fn (.func g) [] [.ptr a b c]] ob tk ro base ub r/\DelP L u (l.filter λx=>!p x) ob tk ub r:=by
 refine J6 rfl zQ ?_;show wpC E Yf S153.body _ (Jh S153.res _);have Q:=λtk base ub=>j98 (g:=g) (cap:=.ptr a b c) hg (hp ob λ_ _=>rfl) ho (by rw[aH (by rw[j1 j6];omega)]) hl tk base ub;conv in(occs:=*)S153=>all_goals cbv
 simp;refine jN (vs:=[.osl L u 0 l.length 1,.fn (.func g) [] [.ptr a b c]]) zS rfl rfl (by simpa using Q _ _ _) ?_;cases O:l.findIdx? p with
 |none=>
  have J:WG p l = -1:=by unfold WG;rw[O]
  rw[J];simp;refine JN zS ⟨.inr ⟨L,u,l.flatMap yf,by simp[jd4 O],by simpa using ho,?_,?_⟩,λq h=>by simp,zS,by simp;omega,.inr ⟨_,by simp;rfl⟩⟩;rw[jd4 O,j1 j6];omega;rw[jd4 O,aH (by rw[j1 j6];omega)]
 |some v=>
  have J:WG p l=(v:Int):=by unfold WG;rw[O]
  rw[J];obtain⟨Z,c3,b7⟩:=eK.1 O;have c2:((v:Int) == -1)=false:=zS;have c6:=jR Z zO;have b6:jcu p l (v+1)=l.take v:=by rw[ji2 Z,c3];simp only[zd,aL];unfold jcu;rw[fh];intro x hx;obtain⟨j,G,rfl⟩:=di.1 hx;rw[ai]at G;rw[eN];have:=b7 j zO;simpa using this
  simp[c2,c6];refine j5 [(5,7),(16,35)] (l.length-(v+1)) (λk s=>s.tm 6=.int .i64 ((v+1+k:Nat):Int)/\s.tm 5=.int .i64 ((jcu p l (v+1+k)).length:Int)/\(∃cs,s.ob L=some ⟨u,.cells cs⟩/\cs.length=l.length/\cs.take (jcu p l (v+1+k)).length=(jcu p l (v+1+k)).flatMap yf/\∀j,v+1+k<=j->cs[j]? = (l.flatMap yf)[j]?)/\(∀q,q≠L->s.ob q=ob q)/\s.tk=tk/\ub<=s.nx) rfl rfl ⟨zS,by simp[b6];omega,⟨l.flatMap yf,by simpa using ho,by rw[j1 j6];omega,?_,λ_ _=>rfl⟩,λq h=>by simp,zS,by simp;omega⟩ ?_;rw[bl,b6];rw[ai,cE zO,jh0];rintro k s hk ⟨P,H,⟨cs,F,D,w,o⟩,z,K,d5⟩ f;have f0:s.tm 0=.osl L u 0 l.length 1:=by rw[f.t 0 zS];simp
  have f1:s.tm 1=.fn (.func g) [] [.ptr a b c]:=by rw[f.t 1 zS];simp
  have fd:s.df=[]:=by rw[f.d];simp
  have fr:s.ro=ro:=by rw[f.r];simp
  clear f;have B:=j3l p l (v+1+k);by_cases d4:k<l.length-(v+1);have G:v+1+k<l.length:=zO;obtain⟨j,c9⟩:∃j,v+1+k=j:=⟨_,rfl⟩;rw[c9]at P H w o G B;have S:v+1+(k+1)=j+1:=zO;have a0:=jR (i:=j) (N:=l.length) G zO;have e:=ji2 (p:=p) G;have c4:cs[j]? = some (.int .i64 l[j]):=by rw[o j zK,jn l G]
  have c7:=j4j (l:=L) (u:=u) (n:=l.length) (kk:=.i64) (X:=(j:Int)) rfl G;have c5:(j:Int)<l.length:=zO;simp[P,f0,f1,c5,c7,ya,F,c4];refine jeo (hp s.ob z) (au G) zS zS (k:=l[j]) zS hg λd3 d2=>?_;cases T:p l[j];rw[T]at e;simp only[ag,zc]at e;obtain⟨i,b8⟩:∃i,(jcu p l j).length=i:=⟨_,rfl⟩;rw[b8]at H w B;have M:i<l.length:=zO;have c1:=jR (i:=i) (N:=l.length) M zO;have c0:=j4j (l:=L) (u:=u) (n:=l.length) (kk:=.i64) (X:=(i:Int)) rfl M;have d0:i+1<=l.length:=M;have b5:(jcu p l (j+1)).length=i+1:=by rw[e,ap,b8];rfl
  simp[P,H,f0,c0,ya,F,fr,b0,D,d0,a0,c1];rw[S];refine⟨zO,zO,by rw[b5];omega,⟨?_,?_,λm hm=>?_⟩,λq h=>by simp[h,z],by simp[jk,K],zO⟩;unfold j2;simp only[ap,ai,bc,em,D];omega;have I:(cs.take i++[V.int .i64 l[j]]).length=i+1:=by rw[ap,ai];simp;omega
  rw[b5,e,bJ,<- w];unfold j2;exact ee I;have hs:j2 cs i [.int .i64 l[j]]=cs.set i (.int .i64 l[j]):=by unfold j2;rw[cN,zb zO,aY];rfl
  rw[hs,cU zO];exact o m zO;rw[T]at e;simp only[zd,aL]at e;simp[P,H,a0];rw[S,e];exact⟨zO,zO,rfl,⟨cs,F,D,w,λm hm=>o m zO⟩,z,by simp[K],zO⟩;have c8:v+1+k=l.length:=zO;rw[c8]at P H w o B;have b9:jcu p l l.length=l.filter λx=>!p x:=by unfold jcu;rw[bh]
  rw[b9]at H w B;generalize (l.filter λx=>!p x)=R at *;have d1:(R.length:Int)<=l.length:=zO;simp[P,H,f0,jt0 B];refine jsg (l:=L) (u:=u) (off:=R.length) (n:=l.length-R.length) (cs:=cs) zS (by simpa using F) (by simp[fr,b0]) rfl zO ?_;simp[H,f0,j12 B];have I:(cs.take R.length).length=R.length:=by rw[ai];omega
  refine JN (by simp[fd]) ⟨.inr ⟨L,u,_,zS,by simp;rfl,?_,?_⟩,λq h=>by simp[h,z],?_,?_,.inr ⟨_,by simp;rfl⟩⟩;unfold j2;simp only[ap,ai];omega;unfold j2;rw[aY];rw[ee I];exact w;simp[jk,K];simp;omega
def sv154 {g:Hist'}{u:Nat}{ob:ZO}(e:ob (2*u+1)=some ⟨u,.cells (yb g)⟩) {l:List Int}(n:∀x∈l,0<=x/\x<=g.ts.length):jte l 154 (.ptr (2*u+1) u 0) (λx=>!(ym g).contains x) ob:=by
 intro r x q z t i w;obtain⟨v,D⟩:=n x q;obtain⟨k,rfl⟩:∃k:Nat,x=k:=⟨x.toNat,zO⟩;have y:k<=g.ts.length:=zO;have s:(ym g).contains (k:Int)=Ju g k:=by rw[bz,cB,comL_mem];constructor;rintro⟨j,B,h⟩;have:j=k:=zO;subst this;exact h;exact λh=>⟨k,rfl,h⟩
 simp only[];rw[s];refine J6 rfl zQ ?_;show wpC E r S154.body _ (Jh S154.res _);by_cases b:k=g.ts.length
 ·have d:Ju g k=false:=by cases h:Ju g k;rfl;exact zf (XG h) zO
  conv in(occs:=*)S154=>all_goals cbv
  simp[ya,e,yb,b];refine JN zS ⟨by rw[<- b,d];simp,by funext key;simp,zS,zL⟩
 ·have a:k<g.ts.length:=zO;have p:=j4 j7 g.tn g.ts .i64 a;have c:Ju g k=(g.ts[k].f==1):=by unfold Ju;rw[aa a];rfl
  have m:=jO (f:=jf) j7 g.ts a (by decide:1<3);have o:((k:Int)==(g.ts.length:Int))=false:=by rw[zk];omega
  conv in(occs:=*)S154=>all_goals cbv
  simp[ya,e,yb,o,p,m,show(jf g.ts[k])[1]? = some (.int .i64 g.ts[k].f) from rfl];refine JN zS ⟨by rw[c];simp[bne],by funext key;simp,zS,zL⟩
def jqw {n:Nat}{p:Nat->Nat->Bool}:∀(k:Nat) (D:List Nat),(∀x∈D,x<n)->∀b,QZ n p k D=some b->∀x∈b,x<n
 |0,D,h,b,e=>by
  have:D=b:=by simpa[QZ] using e
  subst this;exact h
 |k+1,D,h,b,e=>by
  unfold QZ at e;cases d:(List.range n).find? (WD n p D) with
  |none=>rw[d]at e;cases e
  |some a=>rw[d]at e;refine jqw k (D++[a]) (λx c=>?_) b e;rcases aQ.1 c with c|c;exact h x c;have:=bf.1 (io d);rw[ae.1 c];exact this
def jfn {n:Nat}{p:Nat->Nat->Bool}:∀(k:Nat) (D:List Nat) (b:List Nat),QZ n p k D=some b->b.length=D.length+k
 |0,D,b,e=>by
  have:D=b:=by simpa[QZ] using e
  subst this;rfl
 |k+1,D,b,e=>by
  unfold QZ at e;cases c:(List.range n).find? (WD n p D) with
  |none=>rw[c]at e;cases e
  |some a=>rw[c]at e;rw[jfn k (D++[a]) b e];simp;omega
def jnq (N:Nat) (p:Nat->Nat->Bool):(jp N p).length<=N*N:=by
 unfold jp;rw[List.length_flatMap];have:∀l:List Nat,(l.map λa=>(((List.range N).filter (p a)).map λb:Nat=>((a:Int),(b:Int))).length).sum<=l.length*N:=by
  intro l;induction l with
  |nil=>simp
  |cons x l c=>have d:((List.range N).filter (p x)).length<=N:=bI (ch _ _) zS;simp only[aZ,List.sum_cons,bt,bg,cW];simp only[bt]at c;omega
 simpa using this (List.range N)
def jsy (N:Nat) (p:Nat->Nat->Bool):InG N (jp N p):=λz f=>by obtain⟨a,b,c,d,_,e⟩:=edgesOf_mem.1 f;exact⟨a,b,e,c,d⟩
def jru (g:Hist') (lvl:Int) (M:List Int):List Int×Int :=
 if jnp g lvl M=0 then match jbl (g.ts.length+1) (jp (g.ts.length+1) (jdo g lvl M)) with
  |none=>([],3)
  |some D=>((yt D).filter λx=>(ym g).contains x,0)
 else ([],jnp g lvl M)
section
variable {g:Hist'}{M:List Int}
def ev102 (hs:Small g) (h8:g.ts.length<=8) {mn:Bool}(lvl:Int) (I:M.length<=100) :
 ∃v,Ev E 102 [.int .i64 lvl,.agg (yb g),yl mn yf M] v/\NumE (jru g lvl M) v:=by
 obtain⟨N,q,f,hn,hv⟩:=ev74 hs h8 (mn:=mn) lvl I;have hw:=jg (n:=((g.ts.length:Int)+1)) zO zO;refine JX rfl zQ ?_;conv in(occs:=*)F102=>all_goals cbv
 simp[ya,yb,yl,V.cells,V.leaf];refine jH q zH rfl zH ?_;refine jw6 hv λH G=>?_;by_cases m:jnp g lvl M=0;have B:jt2 g lvl M=(jp (g.ts.length+1) (jdo g lvl M),0):=by simp[jt2,m]
 rw[B]at hn ⊢;simp[ya,hw];generalize F:jp (g.ts.length+1) (jdo g lvl M)=L at *;have z:InG (g.ts.length+1) L:=by rw[<- F];exact jsy _ _
 have y:L.length<=10000:=by have X:=jnq (g.ts.length+1) (jdo g lvl M);have:(g.ts.length+1)*(g.ts.length+1)<=9*9:=ii zO zO;rw[F]at X;omega
 have b:jru g lvl M=match jbl (g.ts.length+1) L with
  |none=>([],3)
  |some D=>((yt D).filter λx=>(ym g).contains x,0):=by rw[jru,zb m,F]
 refine jJ (vs:=[.int .i64 ((g.ts.length+1:Nat):Int),.sl H f L.length (L.flatMap yT)]) zS rfl (sv152 zS zO zO (.inl ⟨H,f,rfl⟩) z y) ?_;rintro v1 a0 J b5 ⟨U,i,d⟩;simp only at U i d;cases o:jbl (g.ts.length+1) L with
 |none=>rw[o]at d b;simp only at d;subst d;simp;rw[b];exact jke (r:=([],3)) (t:=none) (nl:=true) zS zS zS (λ_=>rfl)
 |some D=>
  rw[o]at d b;obtain⟨v,rfl,u,rfl,Z,o2,o3⟩:=d;have s:=jqw _ _ (λx h=>by cases h) D o;have e:∀x∈yt D,0<=x/\x<=g.ts.length:=λx hx=>by obtain⟨a,ha,rfl⟩:=aI.1 hx;have:=s a ha;omega
  simp;refine jJ (vs:=[.osl (2*u+1) u 0 (yt D).length 1,.fn (.func 154) [] [.ptr (2*0+1) 0 0]]) zS rfl (sv153b (l:=yt D) (p:=λx=>!(ym g).contains x) rfl ?_ (by simpa using Z) zS λb0 h=>sv154 (g:=g) ?_ e) ?_;have:=jfn _ _ D o;simp at this;rw[JA];omega;rw[h _ zO];simp;rw[i 1 (show Off _ (2*0+1) from Off.new zO)];simp[yb,yl];rintro v2 P Q S ⟨c,w,_,q2,_⟩;simp only at c w q2;have k:((yt D).filter λx=>!!(ym g).contains x)=(yt D).filter λx=>(ym g).contains x:=zS;rw[k]at c;have j:jru g lvl M=((yt D).filter λx=>(ym g).contains x,0):=b;rw[j];clear b j k;generalize ((yt D).filter λx=>(ym g).contains x)=R at *;rcases c with⟨rfl,rfl⟩|⟨L2,T,cs,rfl,h6,l6,O⟩
  simp;exact jke (r:=([],0)) (t:=none) (nl:=true) zS zS zS (λ_=>rfl);simp;refine jhy (ns:=[6,7]) (vs:=[.osl L2 T 0 R.length 1,.int .i64 0]) (ls:=[.sl none false R.length (R.flatMap yf),.int .i64 0]) (λr h=>⟨false,λh=>(by cases h),h⟩) zS zS zS zS ⟨XP rfl (jh8 (cs:=cs) (by simpa using h6) ?_ zO (by simpa using O) (ju9 _)),jM rfl,trivial⟩;simp
 have B:jt2 g lvl M=([],jnp g lvl M):=by simp[jt2,m]
 have b:jru g lvl M=([],jnp g lvl M):=by simp[jru,m]
 rw[B,b];have K:(jnp g lvl M != 0)=true:=by simpa using m
 simp[K];exact jke (r:=([],jnp g lvl M)) (t:=none) (nl:=true) zS zS zS (λ_=>rfl)
end
section
variable {nx:Nat->Nat->Bool}{C:List Nat}{most most':Int}
def Qt {rec:Nat->List Nat->List Nat->R3}(h:∀w d v,v.length<=(rec w d v).2.2.length) (w:Nat) (done:List Nat):∀(r vis:List Nat),vis.length<=(loopM rec nx w done r vis).2.2.length
 |[],vis=>dG _
 |t::r,vis=>by
  rw[loopM];split
  ·exact Qt h w done r vis
  ·have a:=h (w|||1<<<t) (done++[t]) vis;rcases c:rec (w|||1<<<t) (done++[t]) vis with⟨o,b,v⟩;rw[c]at a;cases o with
   |some l=>exact a
   |none=>cases b with
    |true=>exact a
    |false=>exact bI a (Qt h w done r v)
def jo7:∀(n w:Nat) (done vis:List Nat),vis.length<=(onM nx C most n w done vis).2.2.length
 |0,w,done,vis=>by rw[onM];split<;>simp
 |n+1,w,done,vis=>by
  rw[onM];split;exact dG _
  ·exact bI zS (Qt (λw d v=>jo7 n w d v) w done C (vis++[w]))
structure More (most:Int) (a b:R3):Prop where
 le:(a.2.2.length:Int)<=most
 sp:a.2.1=true->(a.2.2.length:Int)=most/\a.1=none/\(b.2.1=true\/most<b.2.2.length)
 same:a.2.1=false->b=a
def jgo {n:Nat}(f:∀w d v,(v.length:Int)<=most->More most (onM nx C most n w d v) (onM nx C most' n w d v)) (w:Nat) (done:List Nat) :
 ∀(r vis:List Nat),(vis.length:Int)<=most->More most (loopM (onM nx C most n) nx w done r vis) (loopM (onM nx C most' n) nx w done r vis)
 |[],vis,h=>⟨h,λe=>(by cases e),λ_=>rfl⟩
 |t::r,vis,h=>by
  rw[loopM,loopM];split
  ·exact jgo f w done r vis h
  ·have a:=f (w|||1<<<t) (done++[t]) vis h;rcases q:onM nx C most n (w|||1<<<t) (done++[t]) vis with⟨o,p,v⟩;rcases b:onM nx C most' n (w|||1<<<t) (done++[t]) vis with⟨s,i,j⟩;rw[q,b]at a;cases p with
   |false=>
    have e:=a.same rfl;cases e;cases o with
    |some l=>exact⟨a.le,λe=>(by cases e),λ_=>rfl⟩
    |none=>exact jgo f w done r v a.le
   |true=>
    obtain⟨k,m,c⟩:=a.sp rfl;simp only at k m c;subst m;refine⟨a.le,λ_=>⟨k,rfl,?_⟩,λe=>(by cases e)⟩;cases s with
    |some x=>exact c
    |none=>cases i with
     |true=>exact .inl rfl
     |false=>
      have u:=Qt (nx:=nx) (λw d v=>jo7 (nx:=nx) (C:=C) (most:=most') n w d v) w done r j;rcases c with h|h;cases h
      ·exact .inr (show most<((loopM _ nx w done r j).2.2.length:Int) by omega)
def jo6 (b:most<=most'):∀(n w:Nat) (done vis:List Nat),(vis.length:Int)<=most->More most (onM nx C most n w done vis) (onM nx C most' n w done vis)
 |0,w,done,vis,h=>by rw[onM,onM];by_cases e:(vis.length:Int)=most;rw[zb e];refine⟨h,λ_=>⟨e,rfl,?_⟩,λe=>(by cases e)⟩;by_cases a:(vis.length:Int)=most';rw[zb a];exact .inl rfl;rw[za a];exact .inr zP;rw[za e,za zO];exact⟨by simp;omega,λe=>(by cases e),λ_=>rfl⟩
 |n+1,w,done,vis,h=>by
  rw[onM,onM];by_cases e:(vis.length:Int)=most
  ·rw[zb e];refine⟨h,λ_=>⟨e,rfl,?_⟩,λe=>(by cases e)⟩;by_cases a:(vis.length:Int)=most';rw[zb a];exact .inl rfl
   ·rw[za a];have c:=Qt (nx:=nx) (λw d v=>jo7 (nx:=nx) (C:=C) (most:=most') n w d v) w done C (vis++[w]);simp only[ap,em]at c;exact .inr (show most<((loopM _ nx w done C (vis++[w])).2.2.length:Int) by omega)
  ·rw[za e,za zO];exact jgo (λw d v h=>jo6 b n w d v h) w done C (vis++[w]) zP
end
def Wh (g:Hist') (lvl:Int) (M:List Int) (left:Int):List Int×Int×Int :=
 if lvl=3 then Yp g M left else if left=0 then ([],0,13) else ((jru g lvl M).1,1,(jru g lvl M).2)
def Xa (g:Hist') (lvl:Int):List (List Int)->Int->(List Int×List Int)×Bool×Int×Int
 |[],left=>(([],[]),false,left,0)
 |M::r,left=>if (Wh g lvl M left).2.2=0 then ((M,(Wh g lvl M left).1),true,left-(Wh g lvl M left).2.1,0)
  else if (Wh g lvl M left).2.2=13 then (([],[]),false,left-(Wh g lvl M left).2.1,13) else Xa g lvl r (left-(Wh g lvl M left).2.1)
def Wa (g:Hist'):Bool:=(ym g).any λt=>!(badH g t).isEmpty
def Xf (g:Hist') (lvl left:Int):(List Int×List Int)×Bool×Int×Int :=
 if Wa g=true\/jh (yx g)=false then (if left=0 then (([],[]),false,left,13) else (([],[]),false,left-1,0)) else Xa g lvl (yG (yx g)) left
def jy (g:Hist') (lvl most:Int):(List Int×List Int)×Bool×Int×Int :=
 if jP g=false then (([],[]),false,0,4) else if lvl<1\/3<lvl\/most<0 then (([],[]),false,0,2) else
  ((Xf g lvl most).1,(Xf g lvl most).2.1,most-(Xf g lvl most).2.2.1,(Xf g lvl most).2.2.2)
section
variable {g:Hist'}{lvl left left':Int}{M:List Int}
def jd2 (a:jP g=true) (b:WM g M=true) (c:0<=left):Yp g M left=if (JK g M left).2.1 then (([]:List Int),((JK g M left).2.2.length:Int),(13:Int)) else match (JK g M left).1 with
 |none=>(([]:List Int),((JK g M left).2.2.length:Int),(3:Int))
 |some l=>(yt l,((JK g M left).2.2.length:Int),(0:Int)):=by
 unfold Yp
 simp only[a,b,bV,bS,ag,zc,ze]
 rw[za zO]
 cases (JK g M left).2.1<;>cases (JK g M left).1<;>rfl
def jao (i:jP g=true) (m:WM g M=true) (j:0<=left) (n:left<=left') :
 0<=(Wh g lvl M left).2.1/\(Wh g lvl M left).2.1<=left/\0<=(Wh g lvl M left').2.1/\(Wh g lvl M left').2.1<=left' /\
 ((Wh g lvl M left).2.2≠13->Wh g lvl M left'=Wh g lvl M left) /\
 ((Wh g lvl M left).2.2=13->(Wh g lvl M left).2.1=left/\((Wh g lvl M left').2.2=13\/left<(Wh g lvl M left').2.1)):=by
 unfold Wh;by_cases k:lvl=3;simp only[k,zd];have d:=jo6 (nx:=nxM g M) (C:=yC g) n (yC g).length 0 [] [] (by simpa using j);have b:=jo6 (nx:=nxM g M) (C:=yC g) (dI left') (yC g).length 0 [] [] zP;rw[show onM (nxM g M) (yC g) left (yC g).length 0 [] []=JK g M left from rfl,show onM (nxM g M) (yC g) left' (yC g).length 0 [] []=JK g M left' from rfl]at d;rw[show onM (nxM g M) (yC g) left' (yC g).length 0 [] []=JK g M left' from rfl]at b;rw[jd2 i m j,jd2 i m zO];have a1:=d.le;have a2:=b.le;have b1:(if (JK g M left).2.1=true then ([],((JK g M left).2.2.length:Int),(13:Int)) else match (JK g M left).1 with
  |none=>(([]:List Int),((JK g M left).2.2.length:Int),(3:Int))
  |some l=>(yt l,((JK g M left).2.2.length:Int),0)).2.1=(JK g M left).2.2.length:=by
  split
  ·rfl
  ·split<;>rfl
 have b2:(if (JK g M left').2.1=true then ([],((JK g M left').2.2.length:Int),(13:Int)) else match (JK g M left').1 with
  |none=>(([]:List Int),((JK g M left').2.2.length:Int),(3:Int))
  |some l=>(yt l,((JK g M left').2.2.length:Int),0)).2.1=(JK g M left').2.2.length:=by
  split
  ·rfl
  ·split<;>rfl
 refine⟨by rw[b1];omega,by rw[b1];exact a1,by rw[b2];omega,by rw[b2];exact a2,λh=>?_,λh=>?_⟩;cases a:(JK g M left).2.1 with
 |true=>rw[a]at h;exact zf rfl h
 |false=>rw[d.same a,a]
 cases a:(JK g M left).2.1 with
 |false=>rw[a]at h;simp only[ag,zc]at h;split at h<;>cases h
 |true=>obtain⟨o,_,c⟩:=d.sp a;rw[a]at b1;refine⟨by rw[b1];exact o,?_⟩;rcases c with c|c;left;rw[zb c];right;rw[b2];exact c
 simp only[k,zc];by_cases e:left=0;subst e;simp only[zd];by_cases f:left'=0;simp[f];simp only[f,zc];exact⟨dI _,dI _,zO,zO,λh=>zf rfl h,λ_=>⟨zS,.inr zO⟩⟩;have f:left'≠0:=zO;simp only[e,f,zc];refine⟨zO,zO,zO,zO,λ_=>by simp,λh=>?_⟩;exfalso;unfold jru at h;split at h;split at h<;>cases h;rename_i p;simp only at h;unfold jnp at h;rw[i]at h;simp only[bV,ag,zc]at h;split at h<;>cases h
def jpk (a:jP g=true):∀(L:List (List Int)) (left:Int),(∀M∈L,WM g M=true)->0<=left->0<=(Xa g lvl L left).2.2.1/\(Xa g lvl L left).2.2.1<=left
 |[],left,_,h0=>⟨h0,dI _⟩
 |M::r,left,hm,h0=>by obtain⟨a1,a2,_⟩:=jao (lvl:=lvl) a (hm M (aM ..)) h0 (dI left);rw[Xa];split;simp only;omega;split;simp only;omega;have:=jpk a r (left-(Wh g lvl M left).2.1) (λM h=>hm M (aV _ h)) zO;omega
def jm1 (f:jP g=true):∀(L:List (List Int)) (left left':Int),(∀M∈L,WM g M=true)->0<=left->left<=left' ->
 ((Xa g lvl L left).2.2.2=0->Xa g lvl L left'=((Xa g lvl L left).1,(Xa g lvl L left).2.1,(Xa g lvl L left).2.2.1+(left'-left),0)) /\
 ((Xa g lvl L left).2.2.2=0\/(Xa g lvl L left).2.2.2=13/\(Xa g lvl L left).2.2.1=0/\((Xa g lvl L left').2.2.2=13\/(Xa g lvl L left').2.2.1<left'-left))
 |[],left,left',_,_,_=>⟨λ_=>by simp only[Xa,bM,true_and,and_true];omega,.inl rfl⟩
 |M::r,left,left',hm,h0,hl=>by
  have c:∀M∈r,WM g M=true:=λM h=>hm M (aV _ h);obtain⟨a1,a2,a3,a4,a5,a6⟩:=jao (lvl:=lvl) f (hm M (aM ..)) h0 hl;rw[Xa,Xa];by_cases a:(Wh g lvl M left).2.2=13;obtain⟨b1,b2⟩:=a6 a;rw[za (by rw[a];decide),zb a];refine⟨λh=>(by cases h),.inr ⟨rfl,by simp only;omega,?_⟩⟩;rcases b2 with b2|b2
  left;rw[za (by rw[b2];decide),zb b2];by_cases b:(Wh g lvl M left').2.2=0;right;rw[zb b];simp only;omega;rw[za b];by_cases d:(Wh g lvl M left').2.2=13;left;rw[zb d];right;rw[za d];have:=(jpk (lvl:=lvl) f r (left'-(Wh g lvl M left').2.1) c zO).2;omega;rw[a5 a];by_cases b:(Wh g lvl M left).2.2=0;rw[zb b,zb b];refine⟨λ_=>?_,.inl rfl⟩;simp only[bM,true_and,and_true];omega;rw[za b,za b,za a,za a];obtain⟨d,i⟩:=jm1 f r (left-(Wh g lvl M left).2.1) (left'-(Wh g lvl M left).2.1) c zO zO;have e:left'-(Wh g lvl M left).2.1-(left-(Wh g lvl M left).2.1)=left'-left:=zO;rw[e]at d i;exact⟨d,i⟩
def jr7 (b:jP g=true) (f:g.ts.length<=8):∀(L:List (List Int)) (left:Int),(∀M∈L,WM g M=true)->(257*L.length:Int)<=left->(Xa g lvl L left).2.2.2=0
 |[],left,_,_=>rfl
 |M::r,left,hm,hl=>by
  simp only[bg]at hl;have e:0<=left:=zO;have d:=hm M (aM ..);have a:(Wh g lvl M left).2.2≠13/\(Wh g lvl M left).2.1<=257:=by
   obtain⟨a1,a2,_,_,_,a6⟩:=jao (lvl:=lvl) b d e (dI left);have j:(Wh g lvl M left).2.1<=256:=by unfold Wh;by_cases c:lvl=3;simp only[c,zd];rw[jd2 b d e];have l:=jz2 g M left;have i:=Xe g;have c:2^(ym g).length<=2^8:=bY zQ zO;have k:(2:Nat)^8=256:=rfl;split;simp only;omega;split<;>(simp only;omega);simp only[c,zc];split;simp;simp
   refine⟨λh=>?_,zO⟩;have:=(a6 h).1;omega
  rw[Xa];split;rfl;rw[za a.1];exact jr7 b f r _ (λM h=>hm M (aV _ h)) zO
def jam (d:Small g) (b:jP g=true):∀M∈yG (yx g),WM g M=true:=by intro M h;rw[<- jzu];unfold XB;obtain⟨a,c⟩:=jrr h;rw[b,a,c];simp
end
end Go.Pv.T
