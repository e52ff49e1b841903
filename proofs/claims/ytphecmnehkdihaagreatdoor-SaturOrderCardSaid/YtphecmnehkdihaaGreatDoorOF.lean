/- Satur's maker: what reads ask. -/
import Derived.Test.YtphecmnehkdihaaGreatDoorOE
import Derived.Shelf.Sort.Plain
import Derived.Shelf.Slices.In.SortNone
import Derived.Test.YtphecmnehkdihaaGreatDoorRows
import Derived.Shelf.SlSortCmp.NoneTotal
import Derived.WalkKit
import Derived.Test.YtphecmnehkdihaaGreatDoorTie
import Derived.ProofKit
import Derived.LaidMore
import Derived.OpenShut
import Derived.Stop.Joined
import Derived.SizedLaws
import Derived.Carry
import Derived.Handed
import Derived.ChangeSame
set_option maxRecDepth 100000
set_option maxHeartbeats 8000000
set_option linter.all false
namespace Go.Pv.T
open Go Go.Pv
section
variable {g:Hist'}{M:List Int}{lvl:Int}{mn rn:Bool}{rt:Option (Nat × Nat)}{kX uX lo:Nat}{ob:ZO}{ub:Nat}{lv:V}{Z:List P2}
structure AskJ (g:Hist') (mv rv:V) (kX uX lo ub:Nat) (K:Nat->Prop) (ob0:ZO) (L:List P2) (ob:ZO) (nx:Nat):Prop where
 e:∃lv',ob kX=some ⟨uX,.cells (mkS g mv rv lv')⟩/\EdV ob lo nx lv' L/\∀key,K key->ob key=ob0 key/\j1i lv' L key
 w:∀key,Off lo key->key≠kX->ob key=ob0 key
 h:lo<=ub/\ub<=nx
 x:Off lo kX
 k:∀key,K key->Off ub key/\key≠kX
theorem AskJ.up {mv rv:V}{K:Nat->Prop}{ob0:ZO}{L:List P2}{nx nx':Nat}{ob':ZO}(h:AskJ g mv rv kX uX lo ub K ob0 L ob nx) (c:∀a,Off nx a->ob' a=ob a) (j:nx<=nx'):AskJ g mv rv kX uX lo ub K ob0 L ob' nx':=by obtain⟨⟨d,l,i,e⟩,w,⟨n,f⟩,x,k⟩:=h;exact⟨⟨d,(c _ (x.up zO)).trans l,i.frame (λu _ h=>c _ (Off.new h)) j,λa b=>⟨(c _ ((k a b).1.up f)).trans (e a b).1,(e a b).2⟩⟩,λa b m=>(c _ (b.up zO)).trans (w a b m),⟨n,zO⟩,x,k⟩
theorem AskJ.put {Yf:YF}{mv rv:V}{K:Nat->Prop}{ob0:ZO}{L:List P2}{nx:Nat}{tk:Nat->Bool}{ro base:Nat}(h:AskJ g mv rv kX uX lo ub K ob0 L ob nx) (f:ro<=lo) (i:ro<=uX) (H:L.length<=100000) (a b:Int) :
 ∃r,EvS E Yf.y 137 [.ptr kX uX 0,.int .i64 a,.int .i64 b] ob tk ro base nx r/\nx<=r.2.2.2/\AskJ g mv rv kX uX lo ub K ob0 (L++[(JO g a,JO g b)]) r.2.1 r.2.2.2:=by
 obtain⟨⟨z,J,l,o⟩,w,⟨F,s⟩,x,k⟩:=h;obtain⟨r,t,I,⟨D,q,u,j,G,N,B⟩,p⟩:=jsw (Yf:=Yf) (tk:=tk) (ro:=ro) (base:=base) J l x zO f i H a b;refine⟨r,t,I,⟨⟨D,q,.inr ⟨u,j,G,zO,B⟩,λc d=>⟨?_,λw m e=>?_⟩⟩,λc d n=>(p c (d.up zO) n (l.off d)).trans (w c d n),⟨F,zO⟩,x,k⟩⟩;exact(p c ((k c d).1.up s) (k c d).2 (o c d).2).trans (o c d).1;rw[j]at m;have:u=w:=by injection m
 exact(k c d).1 w zO e
def askT (g:Hist') (M:List Int) (l:List Int) (i j:Nat):List P2:=askE g M (l.take j) i
theorem jwy {l:List Int}{j:Nat}(h:j<l.length) (i:Nat):askT g M l i (j+1)=askT g M l i j++if W3 g l[j] (jgn g ((readH g).getD i (0,0))) && (l[j] != M.getD i 0) then [(l[j],JO g (M.getD i 0))] else []:=by unfold askT askE;rw[ay h,ch,bF];congr 1;cases a:W3 g l[j] (jgn g ((readH g).getD i (0,0))) && (l[j] != M.getD i 0) <;> simp only[cq,dw,a,if_true,aj,if_false,bt,cm]
theorem jp0 (l:List Int) (i j:Nat):(askT g M l i j).length<=l.length:=by unfold askT askE;rw[bC];refine bG (bD _ _) ?_;rw[ap];omega
def AskR (g:Hist') (lvl:Int) (M:List Int) (mv rv:V) (kX uX lo:Nat) (ob:ZO) (ub:Nat) (Z:List P2) (r:V × (ZO) × (Nat->Bool) × Nat):Prop :=
 ub<=r.2.2.2/\(∃A,(∀z,z∈A ↔ ∃i,i<(readH g).length/\z∈askE g M (Jw g lvl M i) i)/\A.length<=10000/\MkR g mv rv kX uX lo r.2.1 r.2.2.2 (Z++A))/\∀key,Off lo key->key≠kX->r.2.1 key=ob key
theorem sv89 {Yf:YF}{tk:Nat->Bool}{ro base:Nat}{f:FuncId}{cap:List V}(hs:Small g) (hm:jaj g M=true) (hR:(readH g).length<=100) (hS:SeenF g lvl M (slOf mn intC M) (rdV rt rn (readH g)) kX uX ub (jr7 ub kX lv Z) ob f cap)
 (hX:ob kX=some ⟨uX,.cells (mkS g (slOf mn intC M) (rdV rt rn (readH g)) lv)⟩) (hE:EdV ob lo ub lv Z) (F:Off lo kX) (c7:lo<=ub) (g5:ro<=lo) (g9:ro<=uX) (hZ:Z.length<=10000) :
 ∃r,EvS E Yf.y 89 [.ptr kX uX 0,.fn (.func f) [] cap] ob tk ro base ub r/\AskR g lvl M (slOf mn intC M) (rdV rt rn (readH g)) kX uX lo ob ub Z r:=by
 have g7:=W2 hm;have c0:=jjv (jfh hm);refine Ja (af:=S89) rfl zQ ?_;show wpC E Yf S89.body _ (XD S89.res _);simp(disch:=first|(simp;done)|omega) [S89,objCells,hX,mkS,histC,rdV];refine jQ λL o=>?_;have g0:L.tm 0=.ptr kX uX 0:=by rw[o];simp
 have g1:L.tm 1=.fn (.func f) [] cap:=by rw[o];simp
 have f7:L.tm 13=rdV rt rn (readH g):=by rw[o];simp[rdV]
 have e4:L.tm 14=.int .i64 (readH g).length:=by rw[o];simp
 have b5:L.tm 15=.int .i64 0:=by rw[o];simp
 have gd:L.df=[]:=by rw[o];simp
 have gr:L.ro=ro:=by rw[o];simp
 have gJ:AskJ g (slOf mn intC M) (rdV rt rn (readH g)) kX uX lo ub (jr7 ub kX lv Z) ob Z L.ob L.nx:=by
  have e:L.ob=ob:=by rw[o];simp
  have hn:ub<=L.nx:=by rw[o];first|omega|(simp;done)|(simp;omega)
  rw[e];exact⟨⟨lv,hX,hE.frame (λ_ _ _=>rfl) hn,λc h=>⟨rfl,h.2.2⟩⟩,λ_ _ _=>rfl,⟨c7,hn⟩,F,λc h=>⟨h.1,h.2.1⟩⟩
 clear o;obtain⟨J,hJ⟩:∃J:Nat->St->Prop,J=λi s=>s.tm 15=.int .i64 i/\∃A,(∀z,z∈A ↔ ∃k,k<i/\z∈askE g M (Jw g lvl M k) k)/\A.length<=i*100/\AskJ g (slOf mn intC M) (rdV rt rn (readH g)) kX uX lo ub (jr7 ub kX lv Z) ob (Z++A) s.ob s.nx:=⟨_,rfl⟩;refine j6 [(4,9),(15,75)] (readH g).length J rfl rfl (by rw[hJ];exact⟨by simpa using b5,[],λz=>by simp,zS,by simpa using gJ⟩) ?_;clear gJ b5;intro i s hi b8 fr;rw[hJ]at b8;obtain⟨b0,A,hA,g6,sJ⟩:=b8;have s0:=(fr.t 0 zS).trans g0;have s1:=(fr.t 1 zS).trans g1;have b9:=(fr.t 13 zS).trans f7;have X:=(fr.t 14 zS).trans e4;have sd:=fr.d.trans gd;have sr:=fr.r.trans gr;clear fr;by_cases D:i<(readH g).length
 ·have d9:=jZ D zO;have a0:i<M.length:=zO;have d6:=jv jT rt rn (readH g) .i64 D;have d4:=λob=>Wf (readH g) ob D;have c5:=j7 j9 mn M .i64 a0;have c9:=jr M a0;obtain⟨a,b,ha,hb,hp,c4,_⟩:=jtn c0 D;have f2:(readH g).getD i (0,0)=((a:Int),(b:Int)):=by simp[ag,aa D,hp]
  have e7:M.getD i 0=M[i]:=by simp[ag,aa a0]
  simp only[hp]at d4;obtain⟨O,e1,e2,e3⟩:=sJ.e;have f1:=sJ.h;simp(disch:=first|(simp;done)|omega) [b0,X,b9,D,rdV,d6,d4,objCells,j2];refine⟨by first|omega|(simp[sr];omega),?_⟩;simp(disch:=first|(simp;done)|omega) [s1];refine jpa (f:=f) (first:=[]) (captured:=cap) (vs:=.int .i64 (i:Int)::cap) zS zS hS.sh (by simp only[cQ,hS.np,dC]) (hS.ev i D _ _ _ _ ?_ ⟨O,?_⟩ λc H=>?_) λv hv=>?_
  ·first|omega|(simp;done)|(simp;omega)
  have:=(F.up (show lo<=s.nx by omega)).ne;simp(disch:=first|(simp;done)|omega) [this,e1];have:=(H.1.up f1.2).ne;simp(disch:=first|(simp;done)|omega) [this];exact(e3 c H).1;obtain⟨l,hl,h5,nl,e5⟩:=hv;refine Ji e5 λc6 f3=>?_;simp;refine jQ λp n=>?_;obtain⟨z,z1,z2,p5,pZ⟩:∃z,s.nx<=z/\z<p.nx/\p.tm 5=.ptr (2*z+1) z 0/\p.ob (2*z+1)=some ⟨z,.cells [.int .i64 (a:Int),.int .i64 (b:Int)]⟩:=by refine⟨s.nx+256,zO,by rw[n];first|omega|(simp;done)|(simp;omega),by rw[n];simp[aG],by rw[n];simp[aG]⟩
  have p0:p.tm 0=.ptr kX uX 0:=by rw[n];simp[s0]
  have p1:p.tm 1=.fn (.func f) [] cap:=by rw[n];simp[s1]
  have p4:p.tm 4=.int .i64 i:=by rw[n];simp
  have g3:p.tm 13=rdV rt rn (readH g):=by rw[n];simp[b9]
  have g4:p.tm 14=.int .i64 (readH g).length:=by rw[n];simp[X]
  have d7:p.tm 15=.int .i64 i:=by rw[n];simp[b0]
  have d8:p.tm 22=.sl c6 nl l.length (l.flatMap intC):=by rw[n];simp
  have f4:p.tm 23=.int .i64 l.length:=by rw[n];simp
  have b6:p.tm 24=.int .i64 0:=by rw[n];simp
  have pd:p.df=[]:=by rw[n];simp[sd]
  have pr:p.ro=ro:=by rw[n];simp[sr]
  have pw:∀c,Off s.nx c->p.ob c=s.ob c:=λc F=>by have:=F.ne;rw[n];simp(disch:=first|(simp;done)|omega) [this]
  clear n;have pJ:=sJ.up (nx':=p.nx) (ob':=p.ob) pw zO;obtain⟨K2,S⟩:∃K2:Nat->Prop,K2=λc=>jr7 ub kX lv Z c\/c=2*z+1:=⟨_,rfl⟩;have d3:AskJ g (slOf mn intC M) (rdV rt rn (readH g)) kX uX lo p.nx K2 p.ob (Z++A) p.ob p.nx:=by
   refine⟨⟨O,(pw _ (F.up zO)).trans e1,e2.frame (λu _ h=>pw _ (Off.new h)) zO,λc H=>⟨rfl,?_⟩⟩,λ_ _ _=>rfl,⟨zO,zK⟩,F,λc H=>?_⟩;rw[S]at H;rcases H with H|rfl;exact(e3 c H).2;intro w hw;rcases e2 with⟨rfl,_⟩|⟨w',rfl,_,_,h4⟩;cases hw;have:w'=w:=by injection hw
   omega;rw[S]at H;rcases H with H|rfl;exact⟨H.1.up zO,H.2.1⟩;exact⟨Off.new z2,λe=>F z zO e.symm⟩
  have b7:(g.ts.flatMap js)[a*3+2]? = some (slOf (g.ts[a]).nl opC (g.ts[a]).ops):=by rw[jU jA g.ts ha (by decide:2<3)];rfl
  have e0:((g.ts[a]).ops.flatMap opC)[b*4+1]? = some (.int .i64 ((g.ts[a]).ops[b]).key):=by rw[jU jL (g.ts[a]).ops hb (by decide:1<4)];rfl
  have f5:jgn g ((readH g).getD i (0,0))=((g.ts[a]).ops[b]).key:=by rw[f2,<- hp];exact c4
  have e6:∀t∈l,∃k:Nat,t=k/\k<g.ts.length:=λt ht=>jmn ((hl t).1 ht);obtain⟨J2,N⟩:∃J2:Nat->St->Prop,J2=λj q=>q.tm 24=.int .i64 j/\AskJ g (slOf mn intC M) (rdV rt rn (readH g)) kX uX lo p.nx K2 p.ob (Z++A++askT g M l i j) q.ob q.nx:=⟨_,rfl⟩;refine j6 [(7,9),(24,74)] l.length J2 rfl rfl (by rw[N];exact⟨by simpa using b6,by simpa[askT,askE] using d3⟩) ?_;clear b6 d3;intro j q hj d0 fr;rw[N]at d0;obtain⟨I,qJ⟩:=d0;have q0:=(fr.t 0 zS).trans p0;have q4:=(fr.t 4 zS).trans p4;have q5:=(fr.t 5 zS).trans p5;have e8:=(fr.t 15 zS).trans d7;have f6:=(fr.t 22 zS).trans d8;have c8:=(fr.t 23 zS).trans f4;have qd:=fr.d.trans pd;have qr:=fr.r.trans pr;clear fr;obtain⟨f0,c1,c2,c3⟩:=qJ.e;have h0:=qJ.h;by_cases B:j<l.length
  ·have K:=jZ B zO;have d5:=jv j9 c6 nl l .i64 B;have T:=jr l B;obtain⟨t,et,f9⟩:=e6 _ (av B);have G:=jwy (g:=g) (M:=M) B i;rw[e7,et,f5]at G;rw[et]at T;have el:=ev116 hs (t:Int) ((g.ts[a]).ops[b]).key;have ez:(WH (Jz g (t:Int)).2 ((g.ts[a]).ops[b]).key).2=W3 g t ((g.ts[a]).ops[b]).key:=rfl;rw[ez]at el;have g2:=jp0 (g:=g) (M:=M) l i j;have qZ:q.ob (2*z+1)=_:=(c3 _ (by rw[S];exact .inr rfl)).1.trans pZ;have U:=(F.up (show lo<=q.nx by omega)).ne;have nz:∀m,q.nx<=m->¬ z=m:=λm hm=>by omega
   simp(disch:=first|(simp;done)|omega) [I,c8,f6,q0,q5,B,d5,T,c1,qZ,objCells,mkS,histC,j7 jA,j7 jL,b7,e0];refine Js el (by simp[histC]) rfl (by simp[histC]) ?_;rw[Jr (by simp[V.plain,J0])];generalize (WH (Jz g (t:Int)).2 ((g.ts[a]).ops[b]).key).1=rv9 at *;generalize W3 g t ((g.ts[a]).ops[b]).key=rb at *;simp(disch:=first|(simp;done)|omega) [J0,j2,objCells];have bX:∀m,q.nx<=m->Nat.beq kX (2*m+1)=false:=λm hm=>JN (U m hm);refine⟨by first|omega|(simp[qr];omega),?_,?_⟩;simp(disch:=first|(simp;done)|omega) [X5,Qn,jap,jb6,rdOb,rdTk,lOf,Delta.wo,Delta.wt,bX];exact JN zO;have keep:askT g M l i (j+1)=askT g M l i j->∀s':St,s'.tm 24=.int .i64 ((j:Int)+1)->q.nx<=s'.nx->(∀c,Off q.nx c->s'.ob c=q.ob c)->J2 (j+1) s':=λe s' Q h2 h3=>by rw[N];refine⟨by simpa using Q,?_⟩;rw[e];exact qJ.up h3 h2
   cases P:((t:Int) != M[i])
   ·rw[P,dC,if_neg zQ,aS]at G;cases rb;all_goals
     simp(disch:=first|(simp;done)|omega) [I,q0,q4,c5,c9,P,objCells,c1,U,mkS,histC,K,B]
     exact keep G _ zS zL λc F=>by simp(disch:=first|(simp;done)|omega) [F.ne]
   ·rw[P,ec]at G;cases rb;rw[if_neg zQ,aS]at G;simp(disch:=first|(simp;done)|omega) [I,K,B];exact keep G _ zS zL λc F=>by simp(disch:=first|(simp;done)|omega) [F.ne]
    ·rw[if_pos rfl]at G;simp(disch:=first|(simp;done)|omega) [q0,q4,c5,c9,P,objCells,c1,U,mkS,histC];refine jV (vs:=[.ptr kX uX 0,.int .i64 (t:Int),.int .i64 M[i]]) zS rfl ((qJ.up (λc F=>?_) ?_).put ?_ ?_ ?_ _ _) ?_;simp(disch:=first|(simp;done)|omega) [F.ne]
     ·first|omega|(simp;done)|(simp;omega)
     first|omega|(simp[qr];omega)
     first|omega|(simp[qr];omega)
     rw[au,au];have:i*100<=100*100:=bc 100 zO;omega;rintro v9 h7 f8 h8 ⟨r1,r2⟩;simp only at r1 r2;have e9:JO g (t:Int)=t:=by unfold JO;rw[if_neg zO]
     rw[e9,aY,<- G]at r2;simp(disch:=first|(simp;done)|omega) [I,K,B];rw[N];exact⟨zS,r2.up (λc _=>by simp) zL⟩
  have:j=l.length:=zO;subst this;simp(disch:=first|(simp;done)|omega) [I,c8,e8,d9,D];rw[hJ];have h6:=jp0 (g:=g) (M:=M) l i l.length;have hT:∀x,x∈askT g M l i l.length ↔ x∈askE g M (Jw g lvl M i) i:=λx=>by unfold askT;rw[bh];exact jc1 hl i x
  rw[aY]at qJ;refine⟨zS,A++askT g M l i l.length,λx=>?_,?_,?_⟩;rw[aO,hA,hT];constructor;rintro(⟨k,F,h⟩|h);exact⟨k,zO,h⟩;exact⟨i,zO,h⟩;rintro⟨k,F,h⟩;rcases cu k i with Q|Q;exact .inl ⟨k,Q,h⟩;rw[show k=i by omega]at h;exact .inr h;rw[au,da];omega;have g8:=qJ.h;refine AskJ.up (ob:=q.ob) (nx:=q.nx) ⟨⟨f0,c1,by rw[<- aY];exact c2,λc H=>?_⟩,λc Q h2=>?_,⟨c7,zO⟩,F,λc h=>⟨h.1,h.2.1⟩⟩ (λc _=>by simp) zL;obtain⟨d1,d2⟩:=c3 c (by rw[S];exact .inl H);rw[<- aY];exact⟨d1.trans (pJ.e.choose_spec.2.2 c H).1,d2⟩;exact(qJ.w c Q h2).trans (pJ.w c Q h2)
 have:i=(readH g).length:=zO;subst this;simp(disch:=first|(simp;done)|omega) [b0,X];obtain⟨⟨O,e1,e2,_⟩,w,h,_,_⟩:=sJ;exact jec (.inl rfl) (by simp[sd]) ⟨zL,⟨A,hA,zO,O,by simpa[rdV] using e1,e2.frame (λ_ _ _=>by simp) zL⟩,λc Q h2=>by simpa using w c Q h2⟩
end
theorem sv93v {Yf:YF}{l u:Nat}{T:List Val'}(hT:T.length<=100000) {ob:ZO}{tk:Nat->Bool}{ro base ub:Nat}(ho:ob l=some ⟨u,.cells (T.flatMap J0)⟩) (c1:ro<=u) :
 ∃r,EvS E Yf.y 93 [.osl l u 0 T.length 2] ob tk ro base ub r/\CompP l u T.length (JM T T.length) ob tk ub r:=by
 refine Ja (af:=S93) rfl zQ ?_;show wpC E Yf S93.body _ (XD S93.res _);have b8:=j3 QS T;by_cases h2:T.length<2;have hc:JM T T.length=T:=by
  match T,h2 with
  | [],_=>rfl
  | [x],_=>rfl
  | _::_::_,h=>simp at h;omega
 have a0:(T.length:Int)<2:=zO;rw[hc];simp[S93,a0];exact Xc zS ⟨zS,⟨_,by simpa using ho,b8,zK,aK zO⟩,λa h=>by simp,zS,by simp;omega⟩;have a0:¬ (T.length:Int)<2:=zO;simp[S93,a0];refine j6 [(2,5),(10,59)] (T.length - 1) (λk s=>s.tm 3=.int .i64 ((1+k:Nat):Int)/\JM T (1+k)=T.take (1+k)/\s.ob=ob/\s.tk=tk/\ub<=s.nx) rfl rfl ⟨zS,?_,zS,zS,by simp;omega⟩ ?_;rw[bj,jf6 (T:=T) (j:=0) zO (λh=>absurd h zO),ay zO];rfl;rintro k s hk ⟨S,c,b,K,d5⟩ f;have f0:s.tm 0=.osl l u 0 T.length 2:=by rw[f.t 0 zS];simp
 have fd:s.df=[]:=by rw[f.d];simp
 have fr:s.ro=ro:=by rw[f.r];simp
 clear f;obtain⟨q,hq⟩:∃q,1+k=q:=⟨_,rfl⟩;rw[hq]at S c;by_cases o:q<T.length;have c5:(q:Int)<T.length:=zO;have hw:=jZ o zO;have b9:IntKind.i64.wrap ((q:Int) - 1)=((q - 1:Nat):Int):=by rw[j7l zO zO];omega
 have i1:=idx2 (l:=l) (u:=u) (off:=0) (n:=T.length) (kk:=.i64) (X:=(q:Int)) rfl o;have i0:=idx2 (l:=l) (u:=u) (off:=0) (n:=T.length) (kk:=.i64) (X:=((q - 1:Nat):Int)) rfl zO;have l1:=ld2 ho o;have l0:=ld2 ho (show q - 1<T.length by omega);have b5:T[q]=T[q - 1]->JM T (q+1)=JM T q:=jlo zO o;have d0:T[q]≠T[q - 1]->JM T (q+1)=JM T q++[T[q]]:=λh=>jf6 o λ_=>h;have d2:T.take (q+1)=T.take q++[T[q]]:=ay o;have J:=j1o T[q] (T[q - 1]' zO);rw[bM]at i1 i0;generalize hx:T[q]=x at *;generalize hy:T[q - 1]' zO=y at *;generalize e7:((q - 1:Nat):Int)=Q1 at *;cases O:(x == y);have c9:x≠y:=by simpa using O
 rw[O]at J;simp[S,f0,c5,b9,i1,i0,b,l1,l0];simp[J0,<- J,S,hw];refine⟨zO,zO,?_,b,K,zO⟩;rw[show 1+(k+1)=q+1 by omega,d0 c9,c,d2];have he:x=y:=by simpa using O
 rw[O]at J;simp[S,f0,c5,b9,i1,i0,b,l1,l0];have d8:=jg3 (L:=l) (u:=u) (n:=T.length) (i:=q) zO;simp[J0,<- J,S,f0,d8];refine j6 [(3,3),(5,5),(29,53)] (T.length - q - 1) (λj s=>s.tm 5=.int .i64 ((1+j:Nat):Int)/\∃w:Nat,s.tm 3=.int .i64 (w:Int)/\w=(JM T (q+1+j)).length /\
  (∃M:List Val',s.ob l=some ⟨u,.cells (M.flatMap J0)⟩/\M.length=T.length/\M.take w=JM T (q+1+j)/\∀m,q+j<=m->M[m]? = T[m]?)/\(∀a,a≠l->s.ob a=ob a)/\s.tk=tk/\ub<=s.nx) rfl rfl
  ⟨zS,q,by simp[S],?_,⟨T,by simp[b,ho],rfl,?_,λ_ _=>rfl⟩,λa h=>by simp[b],by simp[K],by simp;omega⟩ ?_
 rw[bj,b5 he,c,ap];omega;rw[bj,b5 he,c];clear d5 K b S;rintro j s1 hj ⟨g5,w,g3,z,⟨M,gM,b6,D,H⟩,F,b0,e6⟩ f;have g0:s1.tm 0=.osl l u 0 T.length 2:=by rw[f.t 0 zS];simp[f0]
 have g4:s1.tm 4=.osl l u (q*2) (T.length - q) 2:=by rw[f.t 4 zS];simp
 have gd:s1.df=[]:=by rw[f.d];simp[fd]
 have gr:s1.ro=ro:=by rw[f.r];simp[fr]
 clear f;obtain⟨p,hp⟩:∃p,1+j=p:=⟨_,rfl⟩;rw[hp]at g5;rw[show q+1+j=q+p by omega]at z D;have e0:=jh4 T (q+p) zO;have e2:w<=q+j:=by
  have e1:JM T (q+1)=T.take q:=by rw[b5 he,c]
  have a:∀j,q+1+j<=T.length->(JM T (q+1+j)).length<=q+j:=by
   intro j;induction j with
   | zero=>intro _;rw[bj,e1,ap];omega
   | succ j ih=>intro h;have:=ih zO;rw[<- aG];simp only[JM,au,aa (show q+1+j<T.length by omega)];split <;> simp <;> omega
  have:=a j zO;rw[show q+1+j=q+p by omega]at this;omega
 by_cases c7:p<T.length - q;have b7:q+p<T.length:=zO;have G:(p:Int)<((T.length - q:Nat):Int):=zO;have c8:=jZ (i:=p) (N:=T.length) zO zO;have U:IntKind.i64.wrap ((p:Int) - 1)=((p - 1:Nat):Int):=by rw[j7l zO zO];omega
 have d4:=jZ (i:=w) (N:=T.length) zO zO;have k1:=idx2 (l:=l) (u:=u) (off:=q*2) (n:=T.length - q) (kk:=.i64) (X:=(p:Int)) rfl c7;have k0:=idx2 (l:=l) (u:=u) (off:=q*2) (n:=T.length - q) (kk:=.i64) (X:=((p - 1:Nat):Int)) rfl zO;have kw:=idx2 (l:=l) (u:=u) (off:=0) (n:=T.length) (kk:=.i64) (X:=(w:Int)) rfl zO;rw[show q*2+p*2=(q+p)*2 by omega]at k1;rw[show q*2+(p - 1)*2=(q+p - 1)*2 by omega]at k0;rw[bM]at kw;have d1:M[q+p]' zO=T[q+p]:=by have:=H (q+p) zO;rw[aa zO,aa b7]at this;exact bU this
 have d6:M[q+p - 1]' zO=T[q+p - 1]' zO:=by have:=H (q+p - 1) zO;rw[aa zO,aa zO]at this;exact bU this
 have m1:=ld2 gM (show q+p<M.length by omega);have m0:=ld2 gM (show q+p - 1<M.length by omega);rw[d1]at m1;rw[d6]at m0;have B:=j3 QS M;have c3:=st2 (M:=M) (x:=w) zO T[q+p];have Q:T[q+p]=T[q+p - 1]' zO->JM T (q+p+1)=JM T (q+p):=jlo zO b7;have P:T[q+p]≠T[q+p - 1]' zO->JM T (q+p+1)=JM T (q+p)++[T[q+p]]:=λh=>jf6 b7 λ_=>h;have e:=j1o T[q+p] (T[q+p - 1]' zO);have d9:w*2+2<=T.length*2:=zO;generalize e3:T[q+p]=x2 at *;generalize e5:T[q+p - 1]' zO=y2 at *;generalize e4:((p - 1:Nat):Int)=Q2 at *;generalize I:((T.length - q:Nat):Int)=Q3 at *;cases g:(x2 == y2);have Z:x2≠y2:=by simpa using g
 rw[g]at e;simp[g5,g4,I,G,U,k1,k0,m1,m0];simp[J0]at c3;simp[J0,<- e,g5,g4,g3,g0,c8,d4,k1,m1,kw,objCells,gM,B,b6,d9,gr,c1,c3];refine⟨zO,zO,w+1,rfl,?_,⟨M.set w x2,rfl,by simp[b6],?_,λm hm=>?_⟩,λa h=>by simp[h,F],by simp[JD,b0],zO⟩;rw[show q+1+(j+1)=q+p+1 by omega,P Z,au,<- z];rfl;rw[show q+1+(j+1)=q+p+1 by omega,P Z,<- D];rw[List.take_set,ay (show w<M.length by omega),List.set_append_right _ _ (by rw[ap];omega),ap,cP zO,eQ];rfl;rw[cN zO];exact H m zO;have c4:x2=y2:=by simpa using g
 rw[g]at e;simp[g5,g4,I,G,U,k1,k0,m1,m0];simp[J0,<- e,g5,c8];exact⟨zO,zO,w,g3,by rw[show q+1+(j+1)=q+p+1 by omega,Q c4];exact z,⟨M,gM,b6,by rw[show q+1+(j+1)=q+p+1 by omega,Q c4];exact D,λm hm=>H m zO⟩,F,b0,zO⟩;have d3:q+p=T.length:=zO;rw[d3]at z D;have G:¬ (p:Int)<((T.length - q:Nat):Int):=zO;generalize I:((T.length - q:Nat):Int)=Q3 at *;have c0:w<=T.length:=zO;have c2:=jg3 (L:=l) (u:=u) c0;have c6:=jx7 (L:=l) (u:=u) c0;have B:=j3 QS M;simp[g5,g4,I,G,g0,g3,c2];refine jpc (l:=l) (u:=u) (off:=w*2) (n:=T.length - w) (cs:=M.flatMap J0) zS (by simp[gM]) (by simp[gr,c1]) rfl (by rw[B];omega) ?_;simp[g0,g3,c6];refine Xc (by simp[gd]) ⟨by simp[z],⟨_,by simp;rfl,?_,zO,?_⟩,λa h=>by simp[h,F],by simp[JD,b0],by simp;omega⟩;unfold j2;have d7:(repl (T.length - w) [V.int .i64 0,V.int .i64 0]).length=(T.length - w)*2:=by simp[repl]
 simp only[au,ap,ba,B,d7];omega;rw[<- z,<- D];unfold j2;rw[aY,eJ (by rw[ap,B];omega),eC,Nat.min_self];exact jax QS M w;have:q=T.length:=zO;subst this;simp[S,f0];rw[bh]at c;rw[c];exact Xc (by simp[fd]) ⟨zS,⟨_,by simp[b,ho],b8,zK,aK zO⟩,λa h=>by simp[b],by simp[K],by simp;omega⟩
def toV (p:P2):Val':=⟨p.1,p.2⟩
theorem toV_inj {p q:P2}:toV p=toV q ↔ p=q:=by obtain⟨a,b⟩:=p;obtain⟨c,d⟩:=q;simp[toV]
theorem j2t (L:List P2):L.flatMap edC=(L.map toV).flatMap J0:=by rw[List.flatMap_map];rfl
def cF:P2->List P2->List P2
 | _,[]=>[]
 | x,y::s=>if x=y then cF y s else y::cF y s
theorem jwv (z:P2):∀ (r:List P2) (x:P2),cF x (r++[z])=cF x r++if (x::r).getLast? = some z then [] else [z]
 | [],x=>by by_cases h:x=z <;> simp[cF,h]
 | y::s,x=>by rw[dB,cF,cF,jwv z s y,show(x::y::s).getLast? = (y::s).getLast? from by simp[List.getLast?_cons_cons]];by_cases h:x=y;rw[if_pos h,if_pos h];rw[if_neg h,if_neg h,dB]
theorem jpx:∀ (r:List P2) (x:P2),Qp (x::r)=x::cF x r
 | [],x=>rfl
 | y::s,x=>by have a:=jpx s y;rw[Qp,a,cF]
theorem jlp (x:P2) (r:List P2):∀j,j<=r.length->JM ((x::r).map toV) (j+1)=(x::cF x (r.take j)).map toV
 | 0,_=>by simp[JM,cF]
 | j+1,h=>by
  rw[JM,jlp x r j zO,ay zO,jwv,<- dB,bF];congr 1;have e:((x::r).map toV)[j+1]? = some (toV r[j]):=by rw[aX,bO,aa zO];rfl
  have f:((x::r).map toV)[j+1 - 1]? = ((x::r.take j).getLast?).map toV:=by
   rw[eV,aX];congr 1;rw[List.getLast?_eq_getElem?];cases j with
   | zero=>simp
   | succ j=>simp[ap,cP (show j+1<=r.length by omega)]
  rw[e,f];by_cases b:(x::r.take j).getLast? = some r[j];rw[if_pos b,if_pos ⟨zO,by rw[b];rfl⟩];rfl;rw[if_neg b,if_neg λd=>b ?_];rfl;obtain⟨_,a⟩:=d;cases c:(x::r.take j).getLast? with
  | none=>rw[c]at a;cases a
  | some w=>rw[c]at a;simp only[aU,ab]at a;rw[toV_inj.1 a]
theorem j08 (L:List P2):JM (L.map toV) L.length=(Qp L).map toV:=by
 cases L with
 | nil=>rfl
 | cons x r=>have:=jlp x r r.length zK;rw[bh]at this;rw[jpx];exact this
theorem sv93 {Yf:YF}{l u:Nat}{L:List P2}(i:L.length<=100000) {ob:ZO}{tk:Nat->Bool}{ro base ub:Nat}(g:ob l=some ⟨u,.cells (L.flatMap edC)⟩) (d:ro<=u) :
 ∃r,EvS E Yf.y 93 [.osl l u 0 L.length 2] ob tk ro base ub r/\r.1=.osl l u 0 (Qp L).length 2/\∃cs,r.2.1 l=some ⟨u,.cells cs⟩/\(Qp L).length*2<=cs.length/\cs.take ((Qp L).length*2)=(Qp L).flatMap edC:=by
 have a:(L.map toV).length=L.length:=bC ..;obtain⟨r,f,b,⟨cs,h,j,e,c⟩,_⟩:=sv93v (Yf:=Yf) (l:=l) (u:=u) (T:=L.map toV) (by rw[a];exact i) (ob:=ob) (tk:=tk) (ro:=ro) (base:=base) (ub:=ub) (by rw[<- j2t];exact g) d;rw[a]at f b j e c;rw[j08]at b e c;rw[bC]at b e c;refine⟨r,f,b,cs,h,zO,?_⟩;rw[c,j2t]
theorem jwh:∀L:List P2,(L.flatMap edC).mapM int64? = some (W5 L)
 | []=>rfl
 | x::L=>by rw[bl];show(V.int .i64 x.1::V.int .i64 x.2::L.flatMap edC).mapM int64? = _;simp only[bL,jwh L];rfl
theorem jhe:∀L:List P2,pairsI (W5 L)=L
 | []=>rfl
 | (a,b)::L=>by simp only[W5,pairsI,jhe L]
theorem jpm:∀L:List P2,(W5 L).map (V.int .i64)=L.flatMap edC
 | []=>rfl
 | (a,b)::L=>by simp only[W5,bt,jpm L,bl,edC];rfl
theorem jg2:∀ {L:List P2},(∀z∈L,YK z.1=true/\YK z.2=true)->(W5 L).all YK=true
 | [],_=>rfl
 | (a,b)::L,h=>by have c:=h (a,b) (aP ..);simp only[W5,cQ,c.1,c.2,jg2 λz d=>h z (bf _ d),cB]
theorem sv91 {Yf:YF}{l u:Nat}{L:List P2}(i:L.length<=100000) (c:∀z∈L,YK z.1=true/\YK z.2=true) {ob:ZO}{tk:Nat->Bool}{ro base ub:Nat}(f:ob l=some ⟨u,.cells (L.flatMap edC)⟩) (d:ro<=u) :
 ∃r,EvS E Yf.y 91 [.osl l u 0 L.length 2,.fn (.func 92) [] []] ob tk ro base ub r/\ub<=r.2.2.2/\∀a,r.2.1 a=if a=l then some ⟨u,.cells ((Qk L).flatMap edC)⟩ else ob a:=by
 have e:=j3 JW L;refine⟨(.tup [],upd ob l (some ⟨u,.cells ((Qk L).flatMap edC)⟩),tk,ub),jjn (m:=some 92) rfl ?_ rfl,zK,λa=>by simp[j5]⟩;have h:objCells ob l u=some (L.flatMap edC):=by simp[objCells,f]
 have b:jof (some 92) (W5 L)=true:=jg2 c;simp only[jql,jj1,jgl,Wx,h,am,if_true];rw[if_pos ⟨ce▸d,trivial,zO,zO⟩,dt,aK zO,jwh,am,if_pos b,jhe,jpm];have:((Qk L).flatMap edC).length=(L.flatMap edC).length:=by rw[j3 JW,j3 JW,(X8 L).length_eq]
 rw[j2,eB,dl,bS zO,aS]
theorem sv91n {Yf:YF}{ob:ZO}{tk:Nat->Bool}{ro base ub:Nat}:∃r,EvS E Yf.y 91 [.sl none true 0 [],.fn (.func 92) [] []] ob tk ro base ub r/\r.2.1=ob/\ub<=r.2.2.2 :=
 ⟨(.tup [],ob,tk,ub),jjn (m:=some 92) rfl rfl rfl,rfl,zK⟩
theorem sv93n {Yf:YF}{ob:ZO}{tk:Nat->Bool}{ro base ub:Nat}:∃r,EvS E Yf.y 93 [.sl none true 0 []] ob tk ro base ub r/\r.1=.sl none true 0 []/\ub<=r.2.2.2:=by refine Ja (af:=S93) rfl zQ ?_;show wpC E Yf S93.body _ (XD S93.res _);simp[S93];exact Xc zS ⟨zS,zL⟩
theorem jei {F:Env}{Yf:YF}{o:AOpr}{st:St}{ub:Nat}{K:St->Nat->Prop}(h:∀s u,s=st->u=ub->j8 F Yf o s u K):j8 F Yf o st ub K:=h st ub rfl rfl
def jkd (g:Hist') (lvl:Int) (M:List Int):List P2 × Int:=if jbw g lvl M=0 then (jY (g.ts.length+1) (satB g lvl M),0) else ([],jbw g lvl M)
def SatR (r:List P2 × Int) (v:V):Prop:=∃nl,(nl=true->r.1=[])/\TupS [.sl none nl r.1.length (r.1.flatMap edC),.int .i64 r.2] v
section
variable {g:Hist'}{M:List Int}
theorem ev42 (hs:Small g) (h8:g.ts.length<=8) {mn:Bool}(lvl:Int) (hM:M.length<=100):∃v,Ev E 42 [.int .i64 lvl,.agg (histC g),slOf mn intC M] v/\SatR (jkd g lvl M) v:=by
 have c3:=ev52 hs;have S:=ev53 hs (b:=mn) M zO;rw[is_eq]at S;have j:∀ {k:St}{e:Int},k.df=[]->k.tm 6=.sl none true 0 []->k.tm 7=.int .i64 e->jkd g lvl M=([],e)->Qm [.t 6,.t 7] (SatR (jkd g lvl M)) .ret k:=fun {k e} hd h6 h7 he=>by rw[he];exact jsa (ns:=[6,7]) (vs:=[.sl none true 0 [],.int .i64 e]) (ls:=[.sl none true 0 [],.int .i64 e]) (λr h=>⟨true,λ_=>rfl,h⟩) hd (by simp[h6,h7]) zS zS ⟨jp rfl,jp rfl,trivial⟩
 refine JZ (af:=F42) rfl zQ ?_;conv in (occs := *) F42=> all_goals cbv
 simp[F42,objCells,histC,slOf,V.cells,V.leaf];refine jJ c3 (by simp[histC,slOf]) rfl (by simp[histC,slOf]) ?_;cases G:Jb g;simp;exact j (e:=4) zS zS zS (by simp[jkd,jbw,G]);by_cases H:lvl<1;simp[H];exact j (e:=2) zS zS zS (by simp[jkd,jbw,G,H]);by_cases L:2<lvl;simp[H,L];exact j (e:=2) zS zS zS (by simp[jkd,jbw,G,H,L]);simp[H,L,objCells];refine jJ S (by simp[histC,slOf]) rfl (by simp[histC,slOf]) ?_;cases y:jaj g M;simp;exact j (e:=2) zS zS zS (by simp[jkd,jbw,G,H,L,y]);have d5:lvl=1\/lvl=2:=zO;have hE:jkd g lvl M=(jY (g.ts.length+1) (satB g lvl M),0):=by simp[jkd,jbw,G,H,L,y]
 rw[hE];obtain⟨vr,c5,b0⟩:=ev86 hs;rw[show jcg g=readH g by simp[jcg,G]]at b0;have f2:=W2 y;have hR:(readH g).length<=100:=zO;simp[objCells,j2];refine Js c5 (by simp[histC,slOf]) rfl (by simp[histC,slOf]) ?_;refine Ji b0 λrt add=>?_;generalize c0:(readH g).isEmpty=rn;clear c0;simp[j2,V.cells,V.leaf];refine jei λk nx i b6=>?_;obtain⟨c,u1,I,gX⟩:∃c,c<nx/\k.tm 8=.ptr (2*c+1) c 0/\k.ob (2*c+1)=some ⟨c,.cells (mkS g (slOf mn intC M) (rdV rt rn (readH g)) (.sl none true 0 []))⟩:=by refine⟨1600,by rw[b6];simp,by rw[i];simp,by rw[i];simp[mkS,histC,slOf,rdV]⟩
 have g0:k.tm 0=.int .i64 lvl:=by rw[i];simp
 have gd:k.df=[]:=by rw[i];simp
 have n:k.ro=0:=by rw[i];simp
 have c6:k.tm 32=.ptr (2*c+1) c 0:=by rw[<- I,i];simp
 clear i b6;have X:MkR g (slOf mn intC M) (rdV rt rn (readH g)) (2*c+1) c (c+1) k.ob nx []:=⟨_,gX,.inl ⟨rfl,rfl⟩⟩;have J:Off (c+1) (2*c+1):=Off.new (cR _);have f5:=jby g;have d2:=QU g 8 (comL g).length zO;have d6:(sesL g (comL g).length).length<=72:=bG d2 (by have:(comL g).length*(8+1)<=8*9:=bc 9 zO;omega);refine jV (vs:=[.ptr (2*c+1) c 0]) (by simp[c6]) rfl (sv87 hs G h8 (lo:=c+1) X J zO ?_ ?_) ?_;simp[n];simp[n];rintro v1 f1 d9 U ⟨q1,D,T⟩;simp only at q1 D T;have e7:nx<=U:=by first|omega|(simp at q1;omega)
 clear X gX;simp[I];refine jV (vs:=[.ptr (2*c+1) c 0]) zS rfl (sv88 (rt:=rt) (rn:=rn) (lo:=c+1) (D.keep (λf0 _=>by simp) (J.up ?_) ?_) y J ?_ ?_ ?_ zO zO) ?_;omega
 ·first|omega|(simp;done)|(simp;omega)
 ·first|omega|(simp;done)|(simp;omega)
 simp[n];simp[n];rintro v2 e3 e8 F ⟨q2,a0,O⟩;simp only at q2 a0 O;have f3:U<=F:=by first|omega|(simp at q2;omega)
 clear D;have d7:=jif g M (readH g).length;obtain⟨lv,l,m⟩:=a0;simp[I,g0];refine jV (vs:=[.ptr (2*c+1) c 0,.int .i64 lvl]) zS rfl (sv90 (rt:=rt) (rn:=rn) (mn:=mn) (lo:=c+1) (lv:=lv) ?_ (m.frame (λu _ _=>by simp) ?_) J ?_ ?_ y h8 hR d5) ?_;simpa using l
 ·first|omega|(simp;done)|(simp;omega)
 ·first|omega|(simp;done)|(simp;omega)
 simp[n];rintro v3 b7 e5 b9 ⟨q3,p,f,d3,rfl,hS⟩;simp only at q3 p hS;have e0:F<=b9:=by first|omega|(simp at q3;omega)
 have x:b7 (2*c+1)=some ⟨c,.cells (mkS g (slOf mn intC M) (rdV rt rn (readH g)) lv)⟩:=by rw[p _ (J.up zL)];simpa using l
 have w:EdV b7 (c+1) F lv (sesL g (comL g).length++srcL g M (readH g).length):=m.frame (λu _ h=>by
  rw[p _ (Off.new zL)];simp) zK
 clear l m;simp;refine jV (vs:=[.ptr (2*c+1) c 0,.fn (.func f) [] d3]) zS rfl (sv89 (lvl:=lvl) (rt:=rt) (rn:=rn) (mn:=mn) (lo:=c+1) (lv:=lv) (Z:=sesL g (comL g).length++srcL g M (readH g).length) hs y hR hS (by simpa using x) (w.frame (λu _ _=>by simp) zO) J zO ?_ ?_ (by rw[au];omega)) ?_;simp[n];simp[n];rintro v4 d8 e4 d4 ⟨q4,⟨A,hA,e9,e6,d,s⟩,N⟩;simp only at q4 d s N;have f4:b9<=d4:=by first|omega|(simp at q4;omega)
 have q:=j3y hA;have P:=jmo y q;have Q:(sesL g (comL g).length++srcL g M (readH g).length++A).length<=100000:=by rw[au,au];omega
 have b5:=Q7 y q;have b8:=(X8 (sesL g (comL g).length++srcL g M (readH g).length++A)).length_eq;generalize sesL g (comL g).length++srcL g M (readH g).length++A=Z at *;have c4:∀z∈Z,YK z.1=true/\YK z.2=true:=λz hz=>by obtain⟨a,b,rfl,ha,hb⟩:=P z hz;simp only[YK,ai,decide_eq_true_eq];omega
 clear x w hS p O T N hA;rcases s with⟨rfl,rfl⟩|⟨u,rfl,c8,e2,e1⟩;simp(disch:=first|(simp;done)|omega) [I,objCells,d,mkS,histC];refine jV (vs:=[.sl none true 0 [],.fn (.func 92) [] []]) zS rfl sv91n ?_;rintro v5 o c2 d0 ⟨K,q5⟩;simp only at K q5;have B:o (2*c+1)=some ⟨c,.cells (mkS g (slOf mn intC M) (rdV rt rn (readH g)) (.sl none true 0 []))⟩:=by rw[K];simpa using d
 simp(disch:=first|(simp;done)|omega) [I,objCells,B,mkS,histC];refine jV (vs:=[.sl none true 0 []]) zS rfl sv93n ?_;rintro v6 c1 d1 c7 ⟨rfl,q6⟩;simp;have he:jY (g.ts.length+1) (satB g lvl M)=[]:=b5.symm;rw[he];refine jsa (ns:=[6,7]) (vs:=[.sl none true 0 [],.int .i64 0]) (ls:=[.sl none true 0 [],.int .i64 0]) (λr h=>⟨true,λ_=>rfl,h⟩) (by simp[gd]) zS zS zS ⟨jp rfl,jp rfl,trivial⟩;simp(disch:=first|(simp;done)|omega) [I,objCells,d,mkS,histC];refine jV (vs:=[.osl (2*u+1) u 0 Z.length 2,.fn (.func 92) [] []]) zS rfl (sv91 Q c4 (by simpa using c8) ?_) ?_;simp[n];rintro v5 o c2 d0 ⟨q5,K⟩;simp only at K q5;have B:o (2*c+1)=some ⟨c,.cells (mkS g (slOf mn intC M) (rdV rt rn (readH g)) (.osl (2*u+1) u 0 Z.length 2))⟩:=by rw[K,if_neg zO];simpa using d
 have c9:o (2*u+1)=some ⟨u,.cells ((Qk Z).flatMap edC)⟩:=by rw[K,if_pos rfl]
 simp(disch:=first|(simp;done)|omega) [I,objCells,B,mkS,histC];refine jV (vs:=[.osl (2*u+1) u 0 (Qk Z).length 2]) (by simp[b8]) rfl (sv93 zO (by simpa using c9) ?_) ?_;simp[n];rintro v6 c1 d1 c7 ⟨rfl,cs,h6,l6,t6⟩;simp only at h6;rw[b5]at l6 t6 ⊢;simp;refine jsa (ns:=[6,7]) (vs:=[.osl (2*u+1) u 0 (jY (g.ts.length+1) (satB g lvl M)).length 2,.int .i64 0]) (ls:=[.sl none false (jY (g.ts.length+1) (satB g lvl M)).length ((jY (g.ts.length+1) (satB g lvl M)).flatMap edC),.int .i64 0]) (λr h=>⟨false,λh=>(by cases h),h⟩) (by simp[gd]) zS zS zS ⟨YP rfl (jg4 (cs:=cs) (by simpa using h6) ?_ l6 t6 (jns _)),jp rfl,trivial⟩;simp[n]
end
theorem sv207 {Yf:YF}{ob:ZO}{tk:Nat->Bool}{ro base ub k1 F c:Nat}{x:Int}(b5:ro<=ub) (P:ob k1=some ⟨F,.cells [.int .i64 x]⟩) (T:Off ub k1) (b6:0<c) (hc:c<=1000000) :
 ∃r,EvS E Yf.y 207 [.osl k1 F 0 1 1,.int .i64 (c:Int)] ob tk ro base ub r/\ub<=r.2.2.2/\(∀a,Off ub a->r.2.1 a=ob a)/\IntL r.2.1 ub r.2.2.2 r.1 (List.replicate c x):=by
 have hn:¬ (c:Int)<0:=zO;have w1:IntKind.u64.wrap 1=1:=by decide
 have w2:=w64 c zO;have w3:IntKind.i64.wrap (c:Int)=c:=jX zO zO;have hb:¬ (9223372036854775807:Int)<c:=zO;have nk:=T.ne;refine Ja (af:=S207) rfl zQ ?_;show wpC E Yf S207.body _ (XD S207.res _);simp[S207,hn,XN,w1,w2];refine jJ (ev250 c zO) zS rfl rfl ?_;simp[jtj,hb,XN,w3];refine jd5 (n:=c) zS zS zO zO rfl zQ ?_;simp;refine jei λq nx g N=>?_;obtain⟨u,e1,e2,w,qO⟩:∃u,ub<=u/\u<nx/\q.tm 31=.osl (2*u+1) u 0 c 1/\q.ob (2*u+1)=some ⟨u,.cells (repl c [.int .i64 0])⟩:=by refine⟨ub+1408,zO,by rw[N];omega,by rw[g];simp[aG],by rw[g];simp[aG]⟩
 have q7:q.tm 7=.osl (2*u+1) u 0 c 1:=by rw[<- w,g];simp
 have L:q.tm 32=.osl k1 F 0 1 1:=by rw[g];simp
 have Q:q.ob k1=some ⟨F,.cells [.int .i64 x]⟩:=by rw[g];simp(disch:=first|(simp;done)|omega) [nk];exact P
 have qo:∀a,Off ub a->q.ob a=ob a:=λa G=>by have:=G.ne;rw[g];simp(disch:=first|(simp;done)|omega) [this]
 have qd:q.df=[]:=by rw[g];simp
 have qr:q.ro=ro:=by rw[g];simp
 clear g;refine jz1 (l:=2*u+1) (u:=u) (off:=0) (n:=c) (ys:=[.int .i64 x]) (cs:=repl c [.int .i64 0]) (by simp[w]) (by simp[L,slCells,objCells,Q]) qO zO zQ rfl (by simp[repl]) ?_;have z:(repl c [V.int .i64 0]).length=c:=by simp[repl]
 have p:Nat.min 1 c=1:=cP zO;have S:j2 (repl c [.int .i64 0]) 0 [.int .i64 x]=(repl c [.int .i64 0]).set 0 (.int .i64 x):=by unfold j2;rw[cH,if_pos zO];rfl
 simp[p,S];have G:∀a,Off ub a->¬ a=2*u+1:=λa h=>h u e1;refine Xs (n:=c - 1) [(8,8),(34,46)] (λk s=>∃ (j:Nat) (cs:List V),k=c - j/\1<=j/\j<=c/\s.tm 8=.int .i64 (j:Nat)/\s.ob (2*u+1)=some ⟨u,.cells cs⟩/\cs.length=c/\(∀i,i<j->cs[i]? = some (.int .i64 x))/\nx<=s.nx/\∀a,Off ub a->s.ob a=ob a) rfl rfl ?_ ?_;refine⟨1,(repl c [.int .i64 0]).set 0 (.int .i64 x),rfl,zO,zO,zS,zS,by simp[z],λi H=>?_,zL,λa h=>?_⟩;have:i=0:=zO;subst this;rw[dz (by rw[z];omega)];simp[G a h];exact qo a h
 ·rintro k s ⟨j,cs,rfl,b0,B,h8,I,Z,e,sn,so⟩ f;have f7:s.tm 7=.osl (2*u+1) u 0 c 1:=by rw[f.t 7 zS];simp[q7]
  have fd:s.df=[]:=by rw[f.d];simp[qd]
  have fr:s.ro=ro:=by rw[f.r];simp[qr]
  clear f;by_cases K:j<c
  ·have O:YZ 1 (some (.int .i64 (j:Int))) none (.osl (2*u+1) u 0 c 1)=some (.osl (2*u+1) u (0+j*1) (c - j) 1):=by simp[YZ,Jg,B]
   have X:YZ 1 none (some (.int .i64 (j:Int))) (.osl (2*u+1) u 0 c 1)=some (.osl (2*u+1) u (0+0*1) (j - 0) 1):=by simp[YZ,Jg,B]
   have J:slCells s.ob 1 (.osl (2*u+1) u (0+0*1) (j - 0) 1)=some (cs.take j):=by simp only[slCells,if_true,objCells,I,am];rw[if_pos zO];simp
   have b:(cs.take j).length=j:=by rw[ap];omega
   have m:(cs.take j).all V.leaf=true:=by rw[aw];intro y hy;obtain⟨i,H,rfl⟩:=bH hy;rw[b]at H;have:=e i H;rw[fm];rw[aa zO,ab]at this;rw[this];rfl
   obtain⟨M,hM⟩:∃M,Nat.min ((cs.take j).length / 1) (c - j)=M:=⟨_,rfl⟩;have a0:M=min j (c - j):=by rw[<- hM,b,Nat.div_one]
   simp[h8,f7,K,O,X];refine j0e (l:=2*u+1) (u:=u) (off:=0+j*1) (n:=c - j) (ys:=cs.take j) (cs:=cs) zS (by simpa using J) (by simp[I]) (by simp[fr];omega) zQ m zO ?_;rw[hM];have hw:IntKind.i64.wrap ((j:Int)+(M:Int))=((j+M:Nat):Int):=by rw[jX zO zO];try simp
   have D:((cs.take j).take M).length=M:=by rw[ap,b];omega
   simp[hw];refine⟨c - (j+M),zO,j+M,rfl,zO,zO,zS,?_,?_,zL,λa h=>?_⟩;unfold j2;rw[au,au,D,b,ba];omega;intro i H;unfold j2;by_cases U:i<j;rw[aV (by rw[au,b];omega),aV (by rw[b];exact U),ct,if_pos U];exact e i U;rw[aV (by rw[au,b,D];omega),bp (by rw[b];omega),b,ct,if_pos zO,ct,if_pos zO];exact e _ zO;simp[G a h];exact so a h
  have:j=c:=zO;subst this;simp[h8,f7];have o:=j1b Z e;refine Xc (by simp[fd]) ⟨zL,λa h=>by simp[so a h],u,zS,by simp[I,o],e1,zL⟩
def j7s:List UInt8:=[98,101,103,105,110,32,115,10,114,101,97,100,32,115,32,121,32,50,10,119,114,105,116,101,32,115,32,120,32,49,10,111,107,32,115,10,98,101,103,105,110,32,116,10,114,101,97,100,32,116,32,120,32,49,10,119,114,105,116,101,32,116,32,121,32,50,10,111,107,32,116]
def H44:Hist':=⟨false,[[115],[116]],false,[[120],[121]],false,[⟨0,1,false,[⟨false,1,⟨1,2⟩⟩,⟨true,0,⟨1,1⟩⟩]⟩,⟨1,1,false,[⟨false,0,⟨1,1⟩⟩,⟨true,1,⟨1,2⟩⟩]⟩]⟩
theorem k44:(callers E 100 noY).d 57 [.str j7s]=some (.tup [(.agg [(.sl (some (0,1)) false 2 [(.str [115]),(.str [116])]),(.sl (some (1,1)) false 2 [(.str [120]),(.str [121])]),(.sl (some (2,3)) false 2 [(.int .i64 0),(.int .i64 1),(.sl none false 2 [(.bool false),(.int .i64 1),(.int .i64 1),(.int .i64 2),(.bool true),(.int .i64 0),(.int .i64 1),(.int .i64 1)]),(.int .i64 1),(.int .i64 1),(.sl none false 2 [(.bool false),(.int .i64 0),(.int .i64 1),(.int .i64 1),(.bool true),(.int .i64 1),(.int .i64 1),(.int .i64 2)])])]),(.int .i64 0),(.int .i64 0)]):=by kernel_rfl
def ed44:List V:=[.int .i64 0,.int .i64 1,.int .i64 1,.int .i64 0,.int .i64 2,.int .i64 0,.int .i64 2,.int .i64 1]
theorem k100:(callers E 100 noY).d 100 [.int .i64 3,.sl none false 4 ed44]=some (.tup [.sl (some (0,1)) false 2 [.int .i64 0,.int .i64 1],.int .i64 0]):=by kernel_rfl
def j7j (r:List Int × Int) (v:V):Prop:=∃nl,(nl=true->r.1=[])/\TupS [.sl none nl r.1.length (r.1.flatMap intC),.int .i64 r.2] v
theorem je3 {ub:Nat}{v:V}{r:List Int × Int}{K:Delta->Prop}(b:j7j r v) (h:∀t a add,(a=true->r.1=[])->K { v:=.tup [.sl t a r.1.length (r.1.flatMap intC),.int .i64 r.2],add:=add }):wpD (Xf ub v) K:=by obtain⟨a,d,c⟩:=b;exact jti c λt add=>h t a add d
theorem Wi {st:St}{a b:Nat}{r:List Int × Int}{t:Option (Nat × Nat)}{nl:Bool}(c:st.df=[]) (d:st.tm a=.sl t nl r.1.length (r.1.flatMap intC)) (f:st.tm b=.int .i64 r.2) (e:nl=true->r.1=[]):Qm [.t a,.t b] (j7j r) .ret st :=
 jsa (ns:=[a,b]) (vs:=[.sl t nl r.1.length (r.1.flatMap intC),.int .i64 r.2]) (ls:=[.sl none nl r.1.length (r.1.flatMap intC),.int .i64 r.2]) (λ_ h=>⟨nl,e,h⟩) c (by simp[d,f]) zS zS ⟨YP rfl (JR _ t nl _ _),jp rfl,trivial⟩
section
variable {g:Hist'}{M:List Int}
theorem ev48 (u:Small g) (m:g.ts.length<=8) {mn:Bool}(lvl:Int) (p:M.length<=100) (R:List Int × Int)
 (c:jbw g lvl M=0->∀nl,(nl=true->jY (g.ts.length+1) (satB g lvl M)=[])->∃v,Ev E 100 [.int .i64 ((g.ts.length+1:Nat):Int),.sl none nl (jY (g.ts.length+1) (satB g lvl M)).length ((jY (g.ts.length+1) (satB g lvl M)).flatMap edC)] v/\j7j R v) :
 ∃v,Ev E 48 [.int .i64 lvl,.agg (histC g),slOf mn intC M] v/\j7j (if jbw g lvl M=0 then R else ([],jbw g lvl M)) v:=by
 obtain⟨s,e,f,j,w⟩:=ev42 u m (mn:=mn) lvl p;have l:=jX (n:=((g.ts.length:Int)+1)) zO zO;refine JZ (af:=F48) rfl zQ ?_;conv in (occs := *) F48=> all_goals cbv
 simp[F48,objCells,histC,slOf,V.cells,V.leaf];refine jJ e (by simp[histC,slOf]) rfl (by simp[histC,slOf]) ?_;refine jti w λz i=>?_;by_cases a:jbw g lvl M=0;have d:jkd g lvl M=(jY (g.ts.length+1) (satB g lvl M),0):=by simp[jkd,a]
 rw[d]at j ⊢;obtain⟨v,b,o⟩:=c a f j;rw[if_pos a];simp[objCells,l];refine jJ b (by simp[V.strip,V.strip1]) rfl (by simp[jns]) ?_;refine je3 o λy x k h=>?_;simp;exact Wi zS (by simp;rfl) zS h;have d:jkd g lvl M=([],jbw g lvl M):=by simp[jkd,a]
 rw[d,if_neg a];have q:(jbw g lvl M != 0)=true:=by simpa using a
 simp[q];exact Wi (r:=([],jbw g lvl M)) (t:=none) (nl:=true) zS zS zS (λ_=>rfl)
end
def jp3 (l:List Int) (g:FuncId) (cap:V) (p:Int->Bool) (ob:ZO):Prop:=∀ (Yf:YF) (x:Int),x∈l->∀ (tk:Nat->Bool) (ro base ub:Nat),∃r,EvS E Yf.y g [.int .i64 x,cap] ob tk ro base ub r/\(r.1=.bool (p x)/\r.2.1=ob/\r.2.2.1=tk/\ub<=r.2.2.2)
theorem jde {Yf:YF}{q x:A}{st:St}{ub:Nat}{K:St->Nat->Prop}{d:Option Nat}{nm:Bool}{l:List Int}{g:FuncId}{cap:V}{p:Int->Bool}{ob0:ZO}{k:Int}(hp:jp3 l g cap p ob0) (t:k∈l) (b:st.ob=ob0) (u:eval E st.tm q=.fn (.func g) [] [cap]) (s:eval E st.tm x=.int .i64 k)
 (r:E.sh nm g=true) (h:∀a,ub<=a->K (jsb st d (.bool (p k)) ob0 st.tk) a):j8 E Yf ⟨d,.callV q [x],none,nm⟩ st ub K:=by
 refine jvi (f:=g) (first:=[]) (captured:=[cap]) (vs:=[.int .i64 k,cap]) u (by simp[s]) r (by rw[b];exact hp Yf k t st.tk st.ro _ ub) ?_;rintro v n o c ⟨m,e,i,j⟩;simp only at m e i j;subst m e i;exact h c j
theorem j51 {p:Int->Bool}{l:List Int}{g:FuncId}{cap:V}{ob:ZO}(D:E.sh true g=true) (hp:jp3 l g cap p ob) {L u:Nat}{cs:List V}(y:ob L=some ⟨u,.cells cs⟩) (B:cs.take l.length=l.flatMap intC) (G:l.length<=1000000) (tk:Nat->Bool) (base ub:Nat) :
 EvO E 147 [.osl L u 0 l.length 1,.fn (.func g) [] [cap]] ob tk base ub (.int .i64 (Yi p l)):=by
 refine JL (af:=S147) rfl ?_;conv in (occs := *) S147=> all_goals cbv
 simp[S147];refine YN (n:=l.length) (λk s=>∃i,k=l.length - i/\i<=l.length/\s.df=[]/\s.ob=ob/\s.tm 0=.osl L u 0 l.length 1/\s.tm 1=.fn (.func g) [] [cap]/\s.tm 7=.int .i64 l.length/\s.tm 8=.int .i64 i/\∀j (c:j<l.length),j<i->p l[j]=false)
  ⟨0,zS⟩ ?_
 rintro k s ⟨i,rfl,H,e,d,w,x,r,f,o⟩;by_cases a:i<l.length;have m:=j5p (l:=L) (u:=u) (n:=l.length) (kk:=.i64) (X:=(i:Int)) rfl a;have q:=OwnI.at B a;simp[w,x,r,f,a,m,objCells,d,y,q];refine jde hp (av a) (by simpa using d) zS (k:=l[i]) zS D λF z=>?_;cases b:p l[i];simp[w,x,r,f,e];refine⟨l.length - (i+1),zO,i+1,rfl,zO,by rw[jX zO zO];simp,?_⟩;intro j c t;rcases aQ.1 t with h|rfl
 exact o j c h;exact b;simp;refine j4 (by simpa using e) ?_ rfl;simp;rw[Y6 a b o];have:i=l.length:=zO;subst this;simp[r,f];refine j4 (by simpa using e) ?_ rfl;simp[Wn (λj c=>o j c c)]
theorem sv98b {Yf:YF}{g:FuncId}{a b c:Nat}{p:Int->Bool}(hg:E.sh true g=true) {ob:ZO}{tk:Nat->Bool}{ro base ub L u:Nat}{l:List Int}(hl:l.length<=1000000) (ho:ob L=some ⟨u,.cells (l.flatMap intC)⟩) (b5:ro<=u)
 (hp:∀Z:ZO,(∀q,q≠L->Z q=ob q)->jp3 l g (.ptr a b c) p Z) :
 ∃r,EvS E Yf.y 98 [.osl L u 0 l.length 1,.fn (.func g) [] [.ptr a b c]] ob tk ro base ub r/\DelP L u (l.filter λx=>!p x) ob tk ub r:=by
 refine Ja (af:=S98) rfl zQ ?_;show wpC E Yf S98.body _ (XD S98.res _);have S:=λtk base ub=>j51 (g:=g) (cap:=.ptr a b c) hg (hp ob λ_ _=>rfl) ho (by rw[aK (by rw[j3 j9];omega)]) hl tk base ub;conv in (occs := *) S98=> all_goals cbv
 simp[S98];refine jb (vs:=[.osl L u 0 l.length 1,.fn (.func g) [] [.ptr a b c]]) zS rfl rfl (by simpa using S _ _ _) ?_;cases P:l.findIdx? p with
 | none=>
  have K:Yi p l = -1:=by unfold Yi;rw[P]
  rw[K];simp;refine Xc zS ⟨.inr ⟨L,u,l.flatMap intC,by simp[jcu P],by simpa using ho,?_,?_⟩,λq h=>by simp,zS,by simp;omega,.inr ⟨_,by simp;rfl⟩⟩;rw[jcu P,j3 j9];omega;rw[jcu P,aK (by rw[j3 j9];omega)]
 | some w=>
  have K:Yi p l=(w:Int):=by unfold Yi;rw[P]
  rw[K];obtain⟨a0,c4,b8⟩:=eu.1 P;have c3:((w:Int) == -1)=false:=zS;have c7:=jZ a0 zO;have b7:jbn p l (w+1)=l.take w:=by rw[jht a0,c4];simp only[if_true,aS];unfold jbn;rw[eP];intro x hx;obtain⟨j,H,rfl⟩:=cy.1 hx;rw[ap]at H;rw[fm];have:=b8 j zO;simpa using this
  simp[c3,c7];refine j6 [(5,7),(16,35)] (l.length - (w+1)) (λk s=>s.tm 6=.int .i64 ((w+1+k:Nat):Int)/\s.tm 5=.int .i64 ((jbn p l (w+1+k)).length:Int)/\(∃cs,s.ob L=some ⟨u,.cells cs⟩/\cs.length=l.length/\cs.take (jbn p l (w+1+k)).length=(jbn p l (w+1+k)).flatMap intC/\∀j,w+1+k<=j->cs[j]? = (l.flatMap intC)[j]?)/\(∀q,q≠L->s.ob q=ob q)/\s.tk=tk/\ub<=s.nx) rfl rfl ⟨zS,by simp[b7];omega,⟨l.flatMap intC,by simpa using ho,by rw[j3 j9];omega,?_,λ_ _=>rfl⟩,λq h=>by simp,zS,by simp;omega⟩ ?_;rw[bj,b7];rw[ap,cP zO,jgw];rintro k s hk ⟨Q,I,⟨cs,G,F,z,o⟩,B,M,d6⟩ f;have f0:s.tm 0=.osl L u 0 l.length 1:=by rw[f.t 0 zS];simp
  have f1:s.tm 1=.fn (.func g) [] [.ptr a b c]:=by rw[f.t 1 zS];simp
  have fd:s.df=[]:=by rw[f.d];simp
  have fr:s.ro=ro:=by rw[f.r];simp
  clear f;have D:=jzo p l (w+1+k);by_cases d5:k<l.length - (w+1);have H:w+1+k<l.length:=zO;obtain⟨j,d0⟩:∃j,w+1+k=j:=⟨_,rfl⟩;rw[d0]at Q I z o H D;have T:w+1+(k+1)=j+1:=zO;have b0:=jZ (i:=j) (N:=l.length) H zO;have e:=jht (p:=p) H;have c5:cs[j]? = some (.int .i64 l[j]):=by rw[o j zK,jr l H]
  have c8:=j5p (l:=L) (u:=u) (n:=l.length) (kk:=.i64) (X:=(j:Int)) rfl H;have c6:(j:Int)<l.length:=zO;simp[Q,f0,f1,c6,c8,objCells,G,c5];refine jde (hp s.ob B) (av H) zS zS (k:=l[j]) zS hg λd4 d3=>?_;cases U:p l[j];rw[U]at e;simp only[aj,if_false]at e;obtain⟨i,b9⟩:∃i,(jbn p l j).length=i:=⟨_,rfl⟩;rw[b9]at I z D;have O:i<l.length:=zO;have c2:=jZ (i:=i) (N:=l.length) O zO;have c1:=j5p (l:=L) (u:=u) (n:=l.length) (kk:=.i64) (X:=(i:Int)) rfl O;have d1:i+1<=l.length:=O;have b6:(jbn p l (j+1)).length=i+1:=by rw[e,au,b9];rfl
  simp[Q,I,f0,c1,objCells,G,fr,b5,F,d1,b0,c2];rw[T];refine⟨zO,zO,by rw[b6];omega,⟨?_,?_,λm hm=>?_⟩,λq h=>by simp[h,B],by simp[JD,M],zO⟩;unfold j2;simp only[au,ap,ba,eG,F];omega;have J:(cs.take i++[V.int .i64 l[j]]).length=i+1:=by rw[au,ap];simp;omega
  rw[b6,e,bT,<- z];unfold j2;exact eM J;have hs:j2 cs i [.int .i64 l[j]]=cs.set i (.int .i64 l[j]):=by unfold j2;rw[cH,if_pos zO,aY];rfl
  rw[hs,cN zO];exact o m zO;rw[U]at e;simp only[if_true,aS]at e;simp[Q,I,b0];rw[T,e];exact⟨zO,zO,rfl,⟨cs,G,F,z,λm hm=>o m zO⟩,B,by simp[M],zO⟩;have c9:w+1+k=l.length:=zO;rw[c9]at Q I z o D;have c0:jbn p l l.length=l.filter λx=>!p x:=by unfold jbn;rw[bh]
  rw[c0]at I z D;generalize (l.filter λx=>!p x)=R at *;have d2:(R.length:Int)<=l.length:=zO;simp[Q,I,f0,jqn D];refine jpc (l:=L) (u:=u) (off:=R.length) (n:=l.length - R.length) (cs:=cs) zS (by simpa using G) (by simp[fr,b5]) rfl zO ?_;simp[I,f0,jx5 D];have J:(cs.take R.length).length=R.length:=by rw[ap];omega
  refine Xc (by simp[fd]) ⟨.inr ⟨L,u,_,zS,by simp;rfl,?_,?_⟩,λq h=>by simp[h,B],?_,?_,.inr ⟨_,by simp;rfl⟩⟩;unfold j2;simp only[au,ap];omega;unfold j2;rw[aY];rw[eM J];exact z;simp[JD,M];simp;omega
theorem sv99 {g:Hist'}{u:Nat}{ob:ZO}(e:ob (2*u+1)=some ⟨u,.cells (histC g)⟩) {l:List Int}(n:∀x∈l,0<=x/\x<=g.ts.length):jp3 l 99 (.ptr (2*u+1) u 0) (λx=>!(comL g).contains x) ob:=by
 intro r x q B t i y;obtain⟨w,F⟩:=n x q;obtain⟨k,rfl⟩:∃k:Nat,x=k:=⟨x.toNat,zO⟩;have z:k<=g.ts.length:=zO;have s:(comL g).contains (k:Int)=XP g k:=by rw[bB,bE,comL_mem];constructor;rintro⟨j,D,h⟩;have:j=k:=zO;subst this;exact h;exact λh=>⟨k,rfl,h⟩
 simp only[];rw[s];refine Ja (af:=S99) rfl zQ ?_;show wpC E r S99.body _ (XD S99.res _);by_cases b:k=g.ts.length
 ·have d:XP g k=false:=by cases h:XP g k;rfl;exact absurd (Yu h) zO
  conv in (occs := *) S99=> all_goals cbv
  simp[S99,objCells,e,histC,b];refine Xc zS ⟨by rw[<- b,d];simp,by funext key;simp,zS,zL⟩
 ·have a:k<g.ts.length:=zO;have p:=j7 jA g.tn g.ts .i64 a;have c:XP g k=(g.ts[k].f == 1):=by unfold XP;rw[aa a];rfl
  have m:=jU (f:=js) jA g.ts a (by decide:1<3);have o:((k:Int) == (g.ts.length:Int))=false:=by rw[beq_eq_false_iff_ne];omega
  conv in (occs := *) S99=> all_goals cbv
  simp[S99,objCells,e,histC,o,p,m,show(js g.ts[k])[1]? = some (.int .i64 g.ts[k].f) from rfl];refine Xc zS ⟨by rw[c];simp[bne],by funext key;simp,zS,zL⟩
theorem jn5 {n:Nat}{p:Nat->Nat->Bool}:∀ (k:Nat) (D:List Nat),(∀x∈D,x<n)->∀b,XY n p k D=some b->∀x∈b,x<n
 | 0,D,h,b,e=>by
  have:D=b:=by simpa[XY] using e
  subst this;exact h
 | k+1,D,h,b,e=>by
  unfold XY at e;cases d:(List.range n).find? (XX n p D) with
  | none=>rw[d]at e;cases e
  | some a=>rw[d]at e;refine jn5 k (D++[a]) (λx c=>?_) b e;rcases aO.1 c with c|c;exact h x c;have:=aH.1 (dD d);rw[ae.1 c];exact this
theorem Q4 {n:Nat}{p:Nat->Nat->Bool}:∀ (k:Nat) (D:List Nat) (b:List Nat),XY n p k D=some b->b.length=D.length+k
 | 0,D,b,e=>by
  have:D=b:=by simpa[XY] using e
  subst this;rfl
 | k+1,D,b,e=>by
  unfold XY at e;cases c:(List.range n).find? (XX n p D) with
  | none=>rw[c]at e;cases e
  | some a=>rw[c]at e;rw[Q4 k (D++[a]) b e];simp;omega
theorem jbx (N:Nat) (p:Nat->Nat->Bool):(jY N p).length<=N*N:=by
 unfold jY;rw[List.length_flatMap];have:∀l:List Nat,(l.map λa=>(((List.range N).filter (p a)).map λb:Nat=>((a:Int),(b:Int))).length).sum<=l.length*N:=by
  intro l;induction l with
  | nil=>simp
  | cons x l c=>have d:((List.range N).filter (p x)).length<=N:=bG (bD _ _) zS;simp only[bt,List.sum_cons,bC,bo,da];simp only[bC]at c;omega
 simpa using this (List.range N)
theorem jed (N:Nat) (p:Nat->Nat->Bool):InG N (jY N p):=λz f=>by obtain⟨a,b,c,d,_,e⟩:=edgesOf_mem.1 f;exact⟨a,b,e,c,d⟩
def jt2 (g:Hist') (lvl:Int) (M:List Int):List Int × Int :=
 if jbw g lvl M=0 then match Wv (g.ts.length+1) (jY (g.ts.length+1) (satB g lvl M)) with
  | none=>([],3)
  | some D=>((ints D).filter λx=>(comL g).contains x,0)
 else ([],jbw g lvl M)
section
variable {g:Hist'}{M:List Int}
theorem ev47 (hs:Small g) (h8:g.ts.length<=8) {mn:Bool}(lvl:Int) (I:M.length<=100) :
 ∃v,Ev E 47 [.int .i64 lvl,.agg (histC g),slOf mn intC M] v/\j7j (jt2 g lvl M) v:=by
 obtain⟨N,q,f,hn,hv⟩:=ev42 hs h8 (mn:=mn) lvl I;have hw:=jX (n:=((g.ts.length:Int)+1)) zO zO;refine JZ (af:=F47) rfl zQ ?_;conv in (occs := *) F47=> all_goals cbv
 simp[F47,objCells,histC,slOf,V.cells,V.leaf];refine jJ q (by simp[histC,slOf]) rfl (by simp[histC,slOf]) ?_;refine jti hv λH G=>?_;by_cases m:jbw g lvl M=0;have B:jkd g lvl M=(jY (g.ts.length+1) (satB g lvl M),0):=by simp[jkd,m]
 rw[B]at hn ⊢;simp[objCells,hw];generalize F:jY (g.ts.length+1) (satB g lvl M)=L at *;have z:InG (g.ts.length+1) L:=by rw[<- F];exact jed _ _
 have y:L.length<=10000:=by have X:=jbx (g.ts.length+1) (satB g lvl M);have:(g.ts.length+1)*(g.ts.length+1)<=9*9:=eU zO zO;rw[F]at X;omega
 have b:jt2 g lvl M=match Wv (g.ts.length+1) L with
  | none=>([],3)
  | some D=>((ints D).filter λx=>(comL g).contains x,0):=by rw[jt2,if_pos m,F]
 refine jV (vs:=[.int .i64 ((g.ts.length+1:Nat):Int),.sl H f L.length (L.flatMap edC)]) zS rfl (sv97 zS zO zO (.inl ⟨H,f,rfl⟩) z y) ?_;rintro v1 a0 J b5 ⟨U,i,d⟩;simp only at U i d;cases o:Wv (g.ts.length+1) L with
 | none=>rw[o]at d b;simp only at d;subst d;simp;rw[b];exact Wi (r:=([],3)) (t:=none) (nl:=true) zS zS zS (λ_=>rfl)
 | some D=>
  rw[o]at d b;obtain⟨v,rfl,u,rfl,Z,o2,o3⟩:=d;have s:=jn5 _ _ (λx h=>by cases h) D o;have e:∀x∈ints D,0<=x/\x<=g.ts.length:=λx hx=>by obtain⟨a,ha,rfl⟩:=aJ.1 hx;have:=s a ha;omega
  simp;refine jV (vs:=[.osl (2*u+1) u 0 (ints D).length 1,.fn (.func 99) [] [.ptr (2*0+1) 0 0]]) zS rfl (sv98b (l:=ints D) (p:=λx=>!(comL g).contains x) rfl ?_ (by simpa using Z) zS λb0 h=>sv99 (g:=g) ?_ e) ?_;have:=Q4 _ _ D o;simp at this;rw[jW];omega;rw[h _ zO];simp;rw[i 1 (show Off _ (2*0+1) from Off.new zO)];simp[histC,slOf];rintro v2 P Q S ⟨c,w,_,q2,_⟩;simp only at c w q2;have k:((ints D).filter λx=>!!(comL g).contains x)=(ints D).filter λx=>(comL g).contains x:=zS;rw[k]at c;have j:jt2 g lvl M=((ints D).filter λx=>(comL g).contains x,0):=b;rw[j];clear b j k;generalize ((ints D).filter λx=>(comL g).contains x)=R at *;rcases c with⟨rfl,rfl⟩|⟨L2,T,cs,rfl,h6,l6,O⟩
  simp;exact Wi (r:=([],0)) (t:=none) (nl:=true) zS zS zS (λ_=>rfl);simp;refine jsa (ns:=[6,7]) (vs:=[.osl L2 T 0 R.length 1,.int .i64 0]) (ls:=[.sl none false R.length (R.flatMap intC),.int .i64 0]) (λr h=>⟨false,λh=>(by cases h),h⟩) zS zS zS zS ⟨YP rfl (jg4 (cs:=cs) (by simpa using h6) ?_ zO (by simpa using O) (jcp _)),jp rfl,trivial⟩;simp
 have B:jkd g lvl M=([],jbw g lvl M):=by simp[jkd,m]
 have b:jt2 g lvl M=([],jbw g lvl M):=by simp[jt2,m]
 rw[B,b];have K:(jbw g lvl M != 0)=true:=by simpa using m
 simp[K];exact Wi (r:=([],jbw g lvl M)) (t:=none) (nl:=true) zS zS zS (λ_=>rfl)
end
def okE (dn:Nat->Bool) (a:Nat) (z:P2):Bool:=!(z.2 == (a:Int) && !dn z.1.toNat)
theorem jv8 {n:Nat}{L:List P2}(i:InG n L) (D:List Nat) (a:Nat):XX n (λ(x b:Nat)=>L.contains ((x:Int),(b:Int))) D a=(!D.contains a && L.all (okE D.contains a)):=by
 unfold XX;congr 1;rw[bB,aw,aw];constructor;intro h z f;obtain⟨x,b,rfl,d,j⟩:=i z f;have c:(!L.contains ((x:Int),(a:Int)) || D.contains x)=true:=h x (aH.2 d);simp only[okE,aZ];by_cases e:b=a;subst e;have:L.contains ((x:Int),(b:Int))=true:=by simpa using f
 rw[this]at c;simpa using c;have:((b:Int) == (a:Int))=false:=by rw[beq_eq_false_iff_ne];omega
 simp[this];intro h x d;show(!L.contains ((x:Int),(a:Int)) || D.contains x)=true;by_cases e:L.contains ((x:Int),(a:Int))=true;have:=h ((x:Int),(a:Int)) (by simpa using e);simp only[okE,aZ]at this;simp at this;simp[this];have g:L.contains ((x:Int),(a:Int))=false:=by simpa using e
 rw[g];rfl
theorem evo150 {n a key u:Nat}{L:List P2}{t:Option (Nat × Nat)}{nl:Bool}{dn:Nat->Bool}{ob:ZO}(T:InG n L) (hl:L.length<=1000000) (S:a<n) (K:ob key=some ⟨u,.cells (mrkC n dn)⟩) (tk:Nat->Bool) (base ub:Nat) :
 EvO E 150 [.int .i64 (a:Int),.osl key u 0 n 1,.sl t nl L.length (L.flatMap edC)] ob tk base ub (.bool (!dn a && L.all (okE dn a))):=by
 have M:=jgp (l:=key) (u:=u) (kk:=.i64) S;have H:=j17 (s:=dn) S;refine JL (af:=S150) rfl ?_;conv in (occs := *) S150=> all_goals cbv
 simp[S150,M,objCells,K,H];cases Z:dn a;simp;refine j6 [(6,7),(12,35)] L.length (λi s=>s.tm 7=.int .i64 i/\s.ob=ob/\∀j (o:j<L.length),j<i->okE dn a L[j]=true) rfl rfl ⟨zS,zS,λ_ _ h=>by omega⟩ ?_;rintro i s hi ⟨y,F,G⟩ f;have I:s.tm 0=.int .i64 (a:Int):=by rw[f.t 0 zS];simp
 have P:s.tm 1=.osl key u 0 n 1:=by rw[f.t 1 zS];simp
 have B:s.tm 2=.sl t nl L.length (L.flatMap edC):=by rw[f.t 2 zS];simp
 have N:s.df=[]:=by rw[f.d];simp
 clear f;by_cases c:i<L.length;have q:=jZ c zO;obtain⟨x,b,J,Q,X⟩:=T L[i] (av c);have k:=jv JW t nl L .i64 c;have O:(L.flatMap edC)[i*2]? = some (.int .i64 (x:Int)):=by have:=jU JW L c (by decide:0<2);rw[bj]at this;rw[this,J];rfl
 have D:(L.flatMap edC)[i*2+1]? = some (.int .i64 (b:Int)):=by rw[jU JW L c (by decide:1<2),J];rfl
 have r:=jgp (l:=key) (u:=u) (kk:=.i64) Q;have p:=j17 (s:=dn) Q;have e:okE dn a L[i] = !(((b:Int) == (a:Int)) && !dn x):=by rw[J];rfl
 cases w:((b:Int) == (a:Int));rw[w]at e;simp[y,B,I,c,k,D,w,q];refine⟨F,λj o m=>?_⟩;rcases aQ.1 m with h|rfl;exact G j o h;rw[e];rfl;rw[w]at e;cases g:dn x;rw[g]at e;simp[y,B,P,I,c,k,D,O,w,r,objCells,F,K,p,g];refine j4 (by simp[N]) ?_ rfl;have:L.all (okE dn a)=false:=by rw[eD];exact⟨L[i],av c,by rw[e];decide⟩
 simp[this];rw[g]at e;simp[y,B,P,I,c,k,D,O,w,r,objCells,F,K,p,g,q];refine λj o m=>?_;rcases aQ.1 m with h|rfl
 exact G j o h;rw[e];rfl;have:i=L.length:=zO;subst this;have:L.all (okE dn a)=true:=by rw[aw];intro z U;obtain⟨j,o,rfl⟩:=cy.1 U;exact G j o o
 rw[this];simp[y,B];exact j4 (by simp[N]) zS rfl;simp;exact j4 rfl zS rfl
def TopD (r:Option (List Nat)) (v:V):Prop:=match r with
 | none=>TupS [.sl none true 0 [],.bool false] v
 | some D=>TupS [.sl none false D.length ((ints D).flatMap intC),.bool true] v
theorem j4k (n:Nat):mrkC n ([]:List Nat).contains=(List.replicate n false).map V.bool:=by apply dJ;simp[mrkC];intro i a b;simp[mrkC]
theorem jze {n a:Nat}(D:List Nat) (h:a<n):(mrkC n D.contains).set a (.bool true)=mrkC n (D++[a]).contains:=by apply dJ;simp[mrkC];intro j d c;rw[gt];by_cases b:a=j;subst b;simp[mrkC];have:¬ j=a:=λe=>b e.symm;simp[mrkC,b,this]
theorem ev101 {n:Nat}{L:List P2}{nl:Bool}(h1:0<n) (h9:n<=100) (hL:InG n L) (hl:L.length<=1000000):∃v,Ev E 101 [.int .i64 (n:Int),.sl none nl L.length (L.flatMap edC)] v/\TopD (Wv n L) v:=by
 obtain⟨p,hp⟩:∃p:Nat->Nat->Bool,p=λ(a b:Nat)=>L.contains ((a:Int),(b:Int)):=⟨_,rfl⟩;have a0:∀D a,XX n p D a=(!D.contains a && L.all (okE D.contains a)):=λD a=>by rw[hp];exact jv8 hL D a
 have U:Wv n L=XY n p n []:=by rw[hp];rfl
 rw[U];refine JZ (af:=F101) rfl zQ ?_;conv in (occs := *) F101=> all_goals cbv
 simp[F101];refine jpb (n:=n) zS zS zO zO zO rfl zQ ?_;rw[jcf,<- j4k];simp;refine jG (cs:=[]) rfl rfl rfl ?_;simp;refine jQ λo c=>?_;obtain⟨u,g6,gA⟩:∃u,o.tm 6=.osl 20 u 0 n 1/\o.ob 20=some ⟨u,.cells (mrkC n ([]:List Nat).contains)⟩:=⟨_,by rw[c];simp;rfl,by rw[c];simp⟩;obtain⟨w,g7,gw⟩:∃w,o.tm 7=.sl (some (w,1)) false 0 ((ints []).flatMap intC)/\o.tk w=true:=⟨_,by rw[c];simp[ints];rfl,by rw[c];simp[ji]⟩;have g0:o.tm 0=.int .i64 n:=by rw[c];simp
 have g1:o.tm 1=.sl none nl L.length (L.flatMap edC):=by rw[c];simp
 have gd:o.df=[]:=by rw[c];simp
 have gr:o.ro=0:=by rw[c];simp
 have gf:o.fb=0:=by rw[c];simp
 clear c;obtain⟨J,S⟩:∃J:Nat->St->Prop,J=λi s=>∃ (D:List Nat) (w:Nat),D.length=i/\s.ob 20=some ⟨u,.cells (mrkC n D.contains)⟩/\s.tm 7=.sl (some (w,1)) false i ((ints D).flatMap intC)/\s.tk w=true/\XY n p (n - i) D=XY n p n []:=⟨_,rfl⟩;refine j6 [(4,5),(7,8),(12,37)] n J rfl rfl (by rw[S];exact⟨[],w,rfl,gA,g7,gw,rfl⟩) ?_;clear g7 gw gA;intro i s hi H f;rw[S]at H;obtain⟨D,w,B,sA,s7,sw,M⟩:=H;have s0:=(f.t 0 zS).trans g0;have s1:=(f.t 1 zS).trans g1;have s6:=(f.t 6 zS).trans g6;have sd:=f.d.trans gd;have sr:=f.r.trans gr;clear f;by_cases Z:i<n;have e:XY n p (n - i) D=match (List.range n).find? (XX n p D) with
  | none=>none
  | some a=>XY n p (n - (i+1)) (D++[a]):=by rw[show n - i=(n - (i+1))+1 by omega];rfl
 simp[s7,s0,Z];refine jQ λq m=>?_;have q0:q.tm 0=.int .i64 n:=by rw[m];simp[s0]
 have q1:q.tm 1=.sl none nl L.length (L.flatMap edC):=by rw[m];simp[s1]
 have q6:q.tm 6=.osl 20 u 0 n 1:=by rw[m];simp[s6]
 have q7:q.tm 7=.sl (some (w,1)) false i ((ints D).flatMap intC):=by rw[m];simp[s7]
 have q8:q.tm 8=.int .i64 0:=by rw[m];simp
 have qA:q.ob 20=some ⟨u,.cells (mrkC n D.contains)⟩:=by rw[m];simpa using sA
 have qw:q.tk w=true:=by rw[m];simpa using sw
 have qd:q.df=[]:=by rw[m];simp[sd]
 have qr:q.ro=0:=by rw[m];simp[sr]
 clear m;obtain⟨Q,z⟩:∃Q:Nat->St->Prop,Q=λa s=>s.tm 8=.int .i64 a/\s.ob 20=some ⟨u,.cells (mrkC n D.contains)⟩/\s.tk w=true/\∀j,j<a->XX n p D j=false:=⟨_,rfl⟩;refine j6 [(8,8),(16,27)] n Q rfl rfl (by rw[z];exact⟨by simpa using q8,qA,qw,λj h=>by omega⟩) ?_;clear q8 qA qw;intro a y ha G f;rw[z]at G;obtain⟨K,X,yw,O⟩:=G;have T:=(f.t 0 zS).trans q0;have y1:=(f.t 1 zS).trans q1;have y6:=(f.t 6 zS).trans q6;have y7:=(f.t 7 zS).trans q7;have yd:=f.d.trans qd;have yr:=f.r.trans qr;clear f;by_cases g:a<n;have P:=jZ g zO;simp[K,T,g,y6,y1];refine jb (vs:=[.int .i64 (a:Int),.osl 20 u 0 n 1,.sl none nl L.length (L.flatMap edC)]) zS rfl (by simp[V.strip,V.strip1,V.pureTop,V.pureLeaf]) (evo150 (dn:=D.contains) hL hl g (by simpa using X) _ _ _) ?_;rw[<- a0 D a];cases F:XX n p D a;simp[K,P];rw[z];refine⟨zO,zS,by simpa using X,by simpa using yw,λj hj=>?_⟩;rcases aQ.1 hj with h|rfl
 exact O j h;exact F;have N:((a:Int) == (n:Int))=false:=by rw[beq_eq_false_iff_ne];omega
 have b0:=jgp (l:=20) (u:=u) (kk:=.i64) g;have k:(List.range n).find? (XX n p D)=some a:=jh0 g F O;rw[k]at e;have I:=jze D g;simp[K,T,N,y6,b0,objCells,X,yr,juu,g];refine⟨zO,?_⟩;refine jG (cs:=[.int .i64 (a:Int)]) (by simp[j2]) rfl rfl ?_;simp;refine J1 (u:=w) (nl:=false) (n:=i) (cs:=(ints D).flatMap intC) (ys:=[.int .i64 (a:Int)]) (by simp[y7]) (by simp[ji,yw]) (by simp[slCells]) zS (by rw[j3 j9,jW,B]) zQ rfl (by simp;omega) (by simp;omega) ?_;simp;rw[S];refine⟨zO,D++[a],_,by simp[B],by simp[j2];rw[<- I,cH,if_pos (by rw[juu];exact g)],by simp[ints,intC];rfl,by simp[ji],by rw[<- M,e]⟩;have:a=n:=zO;subst this;have k:(List.range a).find? (XX a p D)=none:=by rw[ej];intro x hx;rw[O x (aH.1 hx)];simp
 rw[k]at e;simp[K,T];rw[<- M,e];exact jsa (ns:=[4,5]) (vs:=[.sl none true 0 [],.bool false]) (ls:=[.sl none true 0 [],.bool false]) (λr h=>h) (by simp[yd]) zS zS zS ⟨jp rfl,jp rfl,trivial⟩;have:i=n:=zO;subst this;rw[eQ]at M;simp[s7,s0];rw[<- M];show Qm _ (TopD (some D)) _ _;exact jsa (ns:=[4,5]) (vs:=[.sl (some (w,1)) false D.length ((ints D).flatMap intC),.bool true]) (ls:=[.sl none false D.length ((ints D).flatMap intC),.bool true]) (λr h=>h) (by simp[sd]) (by simp[B]) zS zS ⟨YP rfl (JR _ _ false _ _),jp rfl,trivial⟩
theorem s44:Small H44:=⟨zQ,zQ,zQ,zQ,zQ,zQ⟩
theorem s44e:jbw H44 1 [1,0]=0:=by decide +kernel
theorem s44d:jY (H44.ts.length+1) (satB H44 1 [1,0])=[(0,1),(1,0),(2,0),(2,1)]:=by decide +kernel
theorem s44o:jt2 H44 1 [1,0]=([],3):=by decide +kernel
theorem ev44:Ev E 44 [] (.bool true):=by
 obtain⟨u,o,i⟩:=ev48 s44 zQ (mn:=false) (M:=[1,0]) 1 zQ ([0,1],0) λ_ c g=>by
  rw[s44d]at g ⊢;obtain rfl:c=false:=by cases c;rfl;cases g rfl
  exact⟨_,⟨100,k100⟩,false,λh=>(by cases h),[.sl (some (0,1)) false 2 [.int .i64 0,.int .i64 1],.int .i64 0],rfl,rfl,zQ⟩
 rw[if_pos s44e]at i;obtain⟨t,q,f⟩:=ev47 s44 zQ (mn:=false) (M:=[1,0]) 1 zQ;rw[s44o]at f;have d:Ev E 57 [.str j7s] _:=⟨100,k44⟩;have p:∀c,Ev E 32 [slOf c intC [0,1],slOf false intC [0,1]] (.bool true):=λc=>by have:=ev32 (a:=c) (b:=false) [0,1] [0,1] zQ zQ;rwa [show(([0,1]:List Int) == [0,1])=true from rfl]at this
 refine jS (af:=F44) rfl ?_;conv in (occs := *) F44=> all_goals cbv
 simp[F44];refine jJ d rfl rfl rfl ?_;simp[Xf,toksRes,V.toks,V.tok,jcr,jcq,YL,Nat.blt,objCells,j2];refine jG (cs:=[.int .i64 1,.int .i64 0]) (by simp[j2]) rfl rfl ?_;simp;refine jJ o (by simp[slOf,intC,histC,H44,Jv,js,opC,V.strip,V.strip1]) rfl (by simp[slOf,intC,histC]) ?_;refine je3 i λr e k n=>?_;simp[objCells];refine jG (cs:=[.int .i64 1,.int .i64 0]) (by simp[j2]) rfl rfl ?_;simp;refine jJ q (by simp[slOf,intC,histC,H44,Jv,js,opC,V.strip,V.strip1]) rfl (by simp[slOf,intC,histC]) ?_;refine je3 f λs m j l=>?_;simp;refine jG (cs:=[.int .i64 0,.int .i64 1]) (by simp[j2]) rfl rfl ?_;simp;refine jJ (p e) (by simp[slOf,intC,V.strip,V.strip1]) rfl (by simp[slOf,intC]) ?_;simp;exact j4 rfl zS rfl
theorem jjc {N:Nat}{p q:Nat->Nat->Bool}(h:∀a b,a<N->b<N->p a b=q a b):jY N p=jY N q :=
 je7 (jcw N p) (jcw N q) λz=>by rw[edgesOf_mem,edgesOf_mem];constructor;rintro⟨a,b,c,d,f,e⟩;exact⟨a,b,c,d,by rw[<- h a b c d];exact f,e⟩;rintro⟨a,b,c,d,f,e⟩;exact⟨a,b,c,d,by rw[h a b c d];exact f,e⟩
theorem js9 {g:Hist'}{lvl:Int}{M:List Int}(c:jaj g M=true) {l:List P2}(h:jjm g lvl M l):jY (g.ts.length+1) (λa b=>l.contains ((a:Int),(b:Int)))=jY (g.ts.length+1) (satB g lvl M):=by refine jjc λa b d f=>?_;rw[bB,bE,<- (X8 l).mem_iff,<- compP_mem,Q7 c h,edgesOf_mem];constructor;rintro⟨x,y,_,_,h,e⟩;have j:(a:Int)=x:=congrArg Prod.fst e;have i:(b:Int)=y:=congrArg Prod.snd e;rw[show a=x by omega,show b=y by omega];exact h;exact λh=>⟨a,b,d,f,h,rfl⟩
def OrdD (g:Hist') (r:Option (List Nat)) (v:V):Prop:=match r with
 | none=>TupS [.sl none false 0 [],.bool false] v
 | some D=>TupS [.sl none false ((ints D).filter λx=>(comL g).contains x).length (((ints D).filter λx=>(comL g).contains x).flatMap intC),.bool true] v
def jbo (g:Hist') (X:List Int) (j:Nat):List Int:=(X.take j).filter λx=>(comL g).contains x
theorem jri {g:Hist'}{X:List Int}{j:Nat}(h:j<X.length):jbo g X (j+1)=jbo g X j++if (comL g).contains X[j] then [X[j]] else []:=by unfold jbo;rw[ay h,ch];congr 1;rw[cq,dw]
theorem jzp (g:Hist') (X:List Int) (j:Nat):(jbo g X j).length<=j:=by unfold jbo;exact bG (bD _ _) (by simp;omega)
section
variable {g:Hist'}{M:List Int}
theorem ev49 (hs:Small g) (h8:g.ts.length<=8) (hR:(readH g).length<=1000) {mn:Bool}(lvl:Int) (b6:lvl≠3) (hm:jaj g M=true) :
 ∃v,Ev E 49 [.int .i64 lvl,.agg (histC g),slOf mn intC M] v/\OrdD g (Wv (g.ts.length+1) (jY (g.ts.length+1) (satB g lvl M))) v:=by
 obtain⟨c3,b7,l,hl,q⟩:=ev46 hs h8 hR (mn:=mn) lvl b6 hm;rw[js9 hm hl]at q;have B:=ev39 g zO;rw[show numsTo Jt g.ts g.ts.length=comL g from rfl]at B;generalize hB:jY (g.ts.length+1) (satB g lvl M)=L at *;have U:InG (g.ts.length+1) L:=by rw[<- hB];exact jed _ _
 have T:L.length<=1000000:=by have h1:=jbx (g.ts.length+1) (satB g lvl M);have:(g.ts.length+1)*(g.ts.length+1)<=9*9:=eU zO zO;rw[hB]at h1;omega
 obtain⟨G,I,e⟩:=ev101 (n:=g.ts.length+1) (L:=L) (nl:=false) zO zO U T;have hw:=jX (n:=((g.ts.length:Int)+1)) zO zO;have a0:=λx=>ev62 (a:=false) (comL g) (by have:=jby g;omega) x;obtain⟨X,b,o,b5,hP,c2⟩:∃ (X:List Int) (b o:Bool),TupS [.sl none o X.length (X.flatMap intC),.bool b] G/\(∀v,TupS [.sl none false (X.filter λx=>(comL g).contains x).length ((X.filter λx=>(comL g).contains x).flatMap intC),.bool b] v->OrdD g (Wv (g.ts.length+1) L) v)/\X.length<=1000:=by
  cases Z:Wv (g.ts.length+1) L with
  | none=>rw[Z]at e;exact⟨[],false,true,e,λv h=>h,zS⟩
  | some D=>rw[Z]at e;have:=Q4 _ _ D Z;refine⟨ints D,true,false,?_,λv h=>h,?_⟩;rw[jW];exact e;rw[jW,this];simp;omega
 generalize Wv (g.ts.length+1) L=r at *;clear e;refine JZ (af:=F49) rfl zQ ?_;simp[F49,objCells,histC,hw];refine Js b7 (by simp[histC,slOf]) rfl (by simp[histC,slOf]) ?_;refine Ji q λc4 b0=>?_;simp;refine Js I (by simp[V.strip,V.strip1]) rfl zS ?_;refine j30 b5 λt1 c0=>?_;simp[objCells];refine jJ B (by simp[histC]) rfl (by simp[histC]) ?_;rw[jdy];simp;refine jG (cs:=[]) rfl rfl rfl ?_;simp;refine jQ λz j=>?_;obtain⟨tc,b9⟩:∃tc,z.tm 10=.sl tc false (comL g).length ((comL g).flatMap intC):=⟨_,by rw[j];simp;rfl⟩;obtain⟨w,H,gw⟩:∃w,z.tm 11=.sl (some (w,1)) false (jbo g X 0).length ((jbo g X 0).flatMap intC)/\z.tk w=true:=⟨_,by rw[j];simp[jbo];rfl,by rw[j];simp[ji]⟩;have g8:z.tm 8=.sl t1 o X.length (X.flatMap intC):=by rw[j];simp
 have g9:z.tm 9=.bool b:=by rw[j];simp
 have N:z.tm 12=.int .i64 0:=by rw[j];simp
 have gd:z.df=[]:=by rw[j];simp
 clear j;obtain⟨J,Q⟩:∃J:Nat->St->Prop,J=λi s=>s.tm 12=.int .i64 i/\∃w:Nat,s.tm 11=.sl (some (w,1)) false (jbo g X i).length ((jbo g X i).flatMap intC)/\s.tk w=true:=⟨_,rfl⟩;refine j6 [(11,12),(28,46)] X.length J rfl rfl (by rw[Q];exact⟨by simpa using N,w,H,gw⟩) ?_;clear H N gw;intro i s hi F f;rw[Q]at F;obtain⟨m,w,p,sw⟩:=F;have S:=(f.t 8 zS).trans g8;have s9:=(f.t 9 zS).trans g9;have b8:=(f.t 10 zS).trans b9;have sd:=f.d.trans gd;clear f;have c1:=jzp g X i;by_cases k:i<X.length;have K:=jZ k zO;have y:=jv j9 t1 o X .i64 k;have P:=jr X k;have c:=jri (g:=g) k;rw[bz]at y;simp[m,S,b8,k,y,P];refine jJ (a0 X[i]) (by simp[slOf,V.strip,V.strip1]) rfl (by simp[slOf]) ?_;cases hc:(comL g).contains X[i];rw[hc]at c;simp only[aj,if_false,aS]at c;simp[m,K];rw[Q];exact⟨zO,zS,w,by rw[c];simpa using p,by simpa using sw⟩;rw[hc]at c;simp only[if_true]at c;simp[m,S,y,P];refine jG (cs:=[.int .i64 X[i]]) (by simp[j2]) rfl rfl ?_;simp;refine J1 (u:=w) (nl:=false) (n:=(jbo g X i).length) (cs:=(jbo g X i).flatMap intC) (ys:=[.int .i64 X[i]]) (by simp[p]) (by simp[ji,sw]) (by simp[slCells]) zS (by rw[j3 j9]) zQ rfl (by simp;omega) (by simp;omega) ?_;simp[m,K];rw[Q];refine⟨zO,zS,_,by rw[c];simp[intC];rfl,by simp[ji]⟩;have:i=X.length:=zO;subst this;have O:jbo g X X.length=X.filter λx=>(comL g).contains x:=by unfold jbo;rw[bh]
 rw[O]at p;simp[m,S];generalize (X.filter λx=>(comL g).contains x)=R at *;exact jsa (ns:=[6,7]) (vs:=[.sl (some (w,1)) false R.length (R.flatMap intC),.bool b]) (ls:=[.sl none false R.length (R.flatMap intC),.bool b]) (λv h=>hP v h) (by simp[sd]) (by simp[p,s9]) zS zS ⟨YP rfl (JR _ _ false _ _),jp rfl,trivial⟩
end
theorem ev211 {L:List P2}{nl:Bool}(K:L.length<=1000000) (a b:Int):Ev E 211 [.sl none nl L.length (L.flatMap edC),.int .i64 a,.int .i64 b] (.bool (L.contains (a,b))):=by
 refine jS (af:=F211) rfl ?_;conv in (occs := *) F211=> all_goals cbv
 simp[F211];refine j6 [(6,7),(8,29)] L.length (λi s=>s.tm 7=.int .i64 i/\∀j (m:j<L.length),j<i->L[j]≠(a,b)) rfl rfl ⟨zS,λ_ _ h=>by omega⟩ ?_;rintro i s M ⟨u,I⟩ f;have z:s.tm 0=.sl none nl L.length (L.flatMap edC):=by rw[f.t 0 zS];simp
 have D:s.tm 1=.int .i64 a:=by rw[f.t 1 zS];simp
 have J:s.tm 2=.int .i64 b:=by rw[f.t 2 zS];simp
 have G:s.df=[]:=by rw[f.d];simp
 clear f;by_cases c:i<L.length;have q:=jZ c zO;obtain⟨x,y,p⟩:∃x y,L[i]=(x,y):=⟨L[i].1,L[i].2,rfl⟩;have n:=jv JW none nl L .i64 c;have F:(L.flatMap edC)[i*2]? = some (.int .i64 x):=by have:=jU JW L c (by decide:0<2);rw[bj]at this;rw[this,p];rfl
 have H:(L.flatMap edC)[i*2+1]? = some (.int .i64 y):=by rw[jU JW L c (by decide:1<2),p];rfl
 have l:L[i]≠(a,b)->∀j (m:j<L.length),j<i+1->L[j]≠(a,b):=λr j m k=>by rcases aQ.1 k with h|rfl;exact I j m h;exact r
 cases o:(x == a);have r:L[i]≠(a,b):=λe=>by rw[p]at e;injection e with w B;rw[w]at o;simp at o
 simp[u,z,D,c,n,F,o,q];exact λj m k=>l r j m k;cases g:(y == b);have r:L[i]≠(a,b):=λe=>by rw[p]at e;injection e with w B;rw[B]at g;simp at g
 simp[u,z,D,J,c,n,F,H,o,g,q];exact λj m k=>l r j m k;simp[u,z,D,J,c,n,F,H,o,g];refine j4 (by simp[G]) ?_ rfl;have w:x=a:=by simpa using o
 have B:y=b:=by simpa using g
 subst w B;have:(x,y)∈L:=by rw[<- p];exact av c
 simp[this];have:i=L.length:=zO;subst this;have:(a,b) ∉ L:=λh=>by obtain⟨j,m,e⟩:=cy.1 h;exact I j m m e
 simp[u,z];exact j4 (by simp[G]) (by simp[this]) rfl
def onR (n:Nat) (p:Nat->Nat->Bool):Nat->List Nat->Option (List Nat)
 | 0,H=>if p (H.getD (H.length - 1) 0) (H.getD 0 0) then some H else none
 | k+1,H=>(List.range n).findSome? λb=>if decide (H.getD 0 0<b) && (p (H.getD (H.length - 1) 0) b && !H.contains b) then onR n p k (H++[b]) else none
def OnD (r:Option (List Nat)) (v:V):Prop:=match r with
 | none=>SlR v true 0 []
 | some R=>SlR v false R.length ((ints R).flatMap intC)
theorem Xp {a:Type}{n:Nat}{f:Nat->Option a}(h:∀j,j<n->f j=none):(List.range n).findSome? f=none:=by rw[List.findSome?_eq_none_iff];exact λx b=>h x (aH.1 b)
theorem Xo {c:Type}{f:Nat->Option c}{a:c}{b:Nat}:∀ {n:Nat},b<n->f b=some a->(∀j,j<b->f j=none)->(List.range n).findSome? f=some a
 | n+1,hb,h,h0=>by rw[db,List.findSome?_append];rcases aQ.1 hb with h1|rfl;rw[Xo h1 h h0];rfl;rw[Xp h0];simp[h]
theorem jff {n:Nat}{p:Nat->Nat->Bool}:∀ {k:Nat}{H R:List Nat},0<H.length->onR n p k H=some R->R.length=H.length+k
 | 0,H,R,h0,h=>by unfold onR at h;split at h;injection h with h;rw[h];rfl;cases h
 | k+1,H,R,h0,h=>by unfold onR at h;obtain⟨b,_,a⟩:=cz h;split at a;rw[jff zS a];simp;omega;cases a
theorem Wm {H:List Nat}{i:Nat}(h:i<H.length):((ints H).flatMap intC)[i]? = some (.int .i64 ((H.getD i 0:Nat):Int)):=by rw[jr (ints H) (i:=i) (by rw[jW];exact h),ji7];simp[ag,aa h]
theorem ji6 (H:List Nat) (b:Nat):(ints H).contains (b:Int)=H.contains b:=by rw[bB,bE,bE];constructor;intro h;obtain⟨a,c,e⟩:=aJ.1 h;have:a=b:=zO;rw[<- this];exact c;exact λh=>aJ.2 ⟨b,h,rfl⟩
section
variable {n:Nat}{L:List P2}{nl:Bool}
theorem ev151 (h9:n<=1000) (hL:InG n L) (hl:L.length<=1000000) {p:Nat->Nat->Bool}(hp:p=λ(a b:Nat)=>L.contains ((a:Int),(b:Int))):∀ (k:Nat) (H:List Nat),0<H.length->H.length+k<=1000->(∀x∈H,x<n) ->
 ∃v,Ev E 151 [.int .i64 (n:Int),.sl none nl L.length (L.flatMap edC),.sl none false (ints H).length ((ints H).flatMap intC),.int .i64 ((H.length+k:Nat):Int)] v/\OnD (onR n p k H) v:=by
 intro k;induction k with
 | zero=>
  intro H h0 hk hH;have y:=jW H;have hm:IntKind.i64.wrap ((H.length:Int) - 1)=((H.length - 1:Nat):Int):=by rw[jX zO zO];omega
  have z:=jv j9 none false (ints H) .i64 (i:=H.length - 1) zO;have q:=jfx j9 none false (ints H) .i64 zO;have ha:=Wm (H:=H) (i:=H.length - 1) zO;have P:=Wm (H:=H) (i:=0) h0;rw[bz]at z;have l:=ev211 (nl:=nl) hl ((H.getD (H.length - 1) 0:Nat):Int) ((H.getD 0 0:Nat):Int);have K:L.contains (((H.getD (H.length - 1) 0:Nat):Int),((H.getD 0 0:Nat):Int))=p (H.getD (H.length - 1) 0) (H.getD 0 0):=by rw[hp]
  rw[K]at l;rw[y]at z q ⊢;unfold onR;generalize H.getD (H.length - 1) 0=la at *;generalize H.getD 0 0=o at *;generalize b7:(ints H).flatMap intC=cs at *;refine JZ (af:=F151) rfl zQ ?_;conv in (occs := *) F151=> all_goals cbv
  simp[F151,hm,z,ha,q,P];refine jJ l zS rfl zS ?_;cases p la o;simp;exact Yw (n:=8) (λr h=>h) zS zS rfl (JR _ none true 0 []);simp;refine Yw (n:=8) (λr h=>?_) zS zS rfl (JR _ none false H.length cs);show SlR r false H.length ((ints H).flatMap intC);rw[b7];exact h
 | succ k ih=>
  intro H h0 hk hH;have y:=jW H;have hm:IntKind.i64.wrap ((H.length:Int) - 1)=((H.length - 1:Nat):Int):=by rw[jX zO zO];omega
  have z:=jv j9 none false (ints H) .i64 (i:=H.length - 1) zO;have q:=jfx j9 none false (ints H) .i64 zO;have ha:=Wm (H:=H) (i:=H.length - 1) zO;have P:=Wm (H:=H) (i:=0) h0;rw[bz]at z;have c9:H.getD 0 0<n:=by
   have:H.getD 0 0=H[0]:=by simp[ag,aa h0]
   rw[this];exact hH _ (av h0)
  have Q:=ev25t false (ints H) zO;have G:=λb:Nat=>ev62 (a:=false) (ints H) zO (b:Int);have c0:∀b:Nat,(ints H).contains (b:Int)=H.contains b:=λb=>ji6 H b;have l:=λb:Nat=>ev211 (nl:=nl) hl ((H.getD (H.length - 1) 0:Nat):Int) (b:Int);have K:∀b:Nat,L.contains (((H.getD (H.length - 1) 0:Nat):Int),(b:Int))=p (H.getD (H.length - 1) 0) b:=λb=>by rw[hp]
  obtain⟨F,hF⟩:∃F:Nat->Option (List Nat),F=λb=>if decide (H.getD 0 0<b) && (p (H.getD (H.length - 1) 0) b && !H.contains b) then onR n p k (H++[b]) else none:=⟨_,rfl⟩
  have c1:onR n p (k+1) H=(List.range n).findSome? F:=by rw[hF];rfl
  rw[c1];obtain⟨m,c4⟩:∃m,m=H.length+(k+1):=⟨_,rfl⟩;rw[<- c4];have he:((H.length:Int) == (m:Int))=false:=by rw[beq_eq_false_iff_ne];omega
  have N:∀b:Nat,b<n->_:=λb hb=>ih (H++[b]) zS (by simp;omega) (λx z=>by
   rcases aO.1 z with h|h;exact hH x h;rw[ae.1 h];exact hb)
  have c8:∀b:Nat,(H++[b]).length+k=m:=λb=>by simp;omega
  simp only[c8]at N;have Z:∀b:Nat,(ints (H++[b])).length=H.length+1:=λb=>by rw[jW];simp
  have X:∀b:Nat,(ints (H++[b])).flatMap intC=(ints H).flatMap intC++[.int .i64 (b:Int)]:=λb=>by simp[ints,intC]
  simp only[Z,X]at N;have d0:((ints H).flatMap intC).length=H.length:=by rw[j3 j9,y];omega
  simp only[slOf]at Q G;rw[y]at z q Q ⊢;simp only[y]at G;generalize H.getD (H.length - 1) 0=la at *;generalize H.getD 0 0=o at *;generalize b7:(ints H).flatMap intC=cs at *;have c2:IntKind.i64.wrap ((o:Int)+1)=((o+1:Nat):Int):=by rw[jX zO zO];omega
  refine JZ (af:=F151) rfl zQ ?_;conv in (occs := *) F151=> all_goals cbv
  simp[F151,hm,z,ha,q,P,he,c2];refine jQ λI g=>?_;have g0:I.tm 0=.int .i64 n:=by rw[g];simp
  have g1:I.tm 1=.sl none nl L.length (L.flatMap edC):=by rw[g];simp
  have g2:I.tm 2=.sl none false H.length cs:=by rw[g];simp
  have g3:I.tm 3=.int .i64 m:=by rw[g];simp
  have g9:I.tm 9=.int .i64 la:=by rw[g];simp
  have b8:I.tm 10=.int .i64 ((o+1:Nat):Int):=by rw[g];simp
  have gd:I.df=[]:=by rw[g];simp
  clear g;have U:∀b,b<o+1->F b=none:=λb hb=>by
   rw[hF];have:decide (o<b)=false:=by simp;omega
   simp[this]
  obtain⟨J,hJ⟩:∃J:Nat->St->Prop,J=λi s=>s.tm 10=.int .i64 ((o+1+i:Nat):Int)/\∀b,b<o+1+i->F b=none:=⟨_,rfl⟩;refine j6 [(8,8),(10,11),(33,60)] (n - (o+1)) J rfl rfl (by rw[hJ];exact⟨b8,U⟩) ?_;clear b8 U;intro i s hi b6 f;rw[hJ]at b6;obtain⟨c,D⟩:=b6;have s0:=(f.t 0 zS).trans g0;have s1:=(f.t 1 zS).trans g1;have s2:=(f.t 2 zS).trans g2;have s3:=(f.t 3 zS).trans g3;have s9:=(f.t 9 zS).trans g9;have sd:=f.d.trans gd;clear f;obtain⟨b,a0⟩:∃b,b=o+1+i:=⟨_,rfl⟩;rw[<- a0]at c D;by_cases B:b<n;have M:IntKind.i64.wrap ((b:Int)+1)=((b+1:Nat):Int):=by rw[jX zO zO];omega
  have c6:F b=none->∀S,S<o+1+(i+1)->F S=none:=λh S d1=>by rcases cu S b with h1|h1;exact D S h1;have:S=b:=zO;rw[this];exact h
  have w:i<n - (o+1):=zO;have O:∀s':St,F b=none->s'.tm 10=.int .i64 ((b+1:Nat):Int)->J (i+1) s':=λs' h h'=>by rw[hJ];exact⟨by rw[h',a0];rfl,c6 h⟩
  have c3:decide (o<b)=true:=by simp;omega
  have e2:=l b;rw[K]at e2;simp[c,s0,B,s1,s9];refine jJ e2 zS rfl zS ?_;cases T:p la b;have e:F b=none:=by rw[hF];simp[T]
  simp[c,M];exact⟨w,O _ e zS⟩;simp[c,s2];refine jJ (G b) zS rfl zS ?_;rw[c0];cases b5:H.contains b;have e:F b=onR n p k (H++[b]):=by rw[hF];simp only[c3,T,b5];rfl
  obtain⟨v,b0,hv⟩:=N b B;simp[c,s0,s1,s2,s3];refine jJ Q zS rfl zS ?_;rw[jdy];simp;refine jG (cs:=[.int .i64 (b:Int)]) (by simp[j2,c]) rfl rfl ?_;simp;refine J1 (u:=s.nx+1024) (nl:=false) (n:=H.length) (cs:=cs) (ys:=[.int .i64 (b:Int)]) zS (by simp[ji]) (by simp[slCells]) zS zO zQ rfl (by simp;omega) (by simp;omega) ?_;simp[s3];refine jJ b0 (by simp[V.strip,V.strip1]) rfl zS ?_;cases hR:onR n p k (H++[b]) with
  | none=>rw[hR]at hv e;refine Ji hv λt add=>?_;simp[c,M];exact⟨w,O _ e zS⟩
  | some R=>
   rw[hR]at hv e;have b9:=jff zS hR;have c7:0<R.length:=by rw[b9];simp;omega
   refine Ji hv λt add=>?_;simp[c7];refine Yw (n:=8) (λr h=>?_) (by simp[sd]) zS rfl (JR _ t false R.length ((ints R).flatMap intC));rw[Xo B e λj hj=>D j hj];exact h
  have e:F b=none:=by rw[hF];simp only[b5];simp
  simp[c,M];exact⟨w,O _ e zS⟩;have d2:b=n:=zO;have c5:(List.range n).findSome? F=none:=Xp λj hj=>D j zO;rw[c5];simp[c,s0,B];exact Yw (n:=8) (λr h=>h) (by simp[sd]) zS rfl (JR _ none true 0 [])
end
def ja7 (n:Nat) (p:Nat->Nat->Bool):Option (List Nat):=(List.range n).findSome? λk=>(List.range n).findSome? λa=>onR n p k [a]
section
variable {n:Nat}{L:List P2}{nl:Bool}
theorem ev102 (h9:n<=100) (hL:InG n L) (hl:L.length<=1000000) {p:Nat->Nat->Bool}(hp:p=λ(a b:Nat)=>L.contains ((a:Int),(b:Int))) :
 ∃v,Ev E 102 [.int .i64 (n:Int),.sl none nl L.length (L.flatMap edC)] v/\OnD (ja7 n p) v:=by
 have l:=λ(k a:Nat) (hk:k<n) (ha:a<n)=>ev151 (nl:=nl) (n:=n) zO hL hl hp k [a] zS (by simp;omega) (λx hx=>by rw[ae.1 hx];exact ha);have b0:∀k a:Nat,([a]:List Nat).length+k=k+1:=λk a=>by simp;omega
 simp only[b0]at l;obtain⟨G,hG⟩:∃G:Nat->Option (List Nat),G=λk=>(List.range n).findSome? λa=>onR n p k [a]:=⟨_,rfl⟩;have hr:ja7 n p=(List.range n).findSome? G:=by rw[hG];rfl
 rw[hr];refine JZ (af:=F102) rfl zQ ?_;conv in (occs := *) F102=> all_goals cbv
 simp[F102];obtain⟨J,hJ⟩:∃J:Nat->St->Prop,J=λi s=>s.tm 5=.int .i64 ((i+1:Nat):Int)/\∀k,k<i->G k=none:=⟨_,rfl⟩;refine j6 [(4,27)] n J rfl rfl (by rw[hJ];exact⟨zS,λk h=>by omega⟩) ?_;intro i s hi B f;rw[hJ]at B;obtain⟨s5,u⟩:=B;have S:s.tm 0=.int .i64 n:=by rw[f.t 0 zS];simp
 have s1:s.tm 1=.sl none nl L.length (L.flatMap edC):=by rw[f.t 1 zS];simp
 have sd:s.df=[]:=by rw[f.d];simp
 clear f;by_cases m:i<n;have b5:IntKind.i64.wrap (((i+1:Nat):Int)+1)=((i+1+1:Nat):Int):=by rw[jX zO zO];omega
 have I:((i+1:Nat):Int)<=(n:Int):=zO;have F:(i:Int)+1<=(n:Int):=zO;have D:IntKind.i64.wrap ((i:Int)+1+1)=(i:Int)+1+1:=by rw[jX zO zO]
 simp[s5,S,F];refine jQ λq z=>?_;have q0:q.tm 0=.int .i64 n:=by rw[z];simp[S]
 have q1:q.tm 1=.sl none nl L.length (L.flatMap edC):=by rw[z];simp[s1]
 have q5:q.tm 5=.int .i64 ((i:Int)+1):=by rw[z];simp[s5]
 have q6:q.tm 6=.int .i64 0:=by rw[z];simp
 have qd:q.df=[]:=by rw[z];simp[sd]
 clear z;obtain⟨Z,o⟩:∃Z:Nat->St->Prop,Z=λa s=>s.tm 6=.int .i64 a/\∀j,j<a->onR n p i [j]=none:=⟨_,rfl⟩;refine j6 [(4,4),(6,7),(13,27)] n Z rfl rfl (by rw[o];exact⟨q6,λk h=>by omega⟩) ?_;clear q6;intro a y ha H f;rw[o]at H;obtain⟨U,Q⟩:=H;have y0:=(f.t 0 zS).trans q0;have y1:=(f.t 1 zS).trans q1;have T:=(f.t 5 zS).trans q5;have yd:=f.d.trans qd;clear f;by_cases c:a<n;have X:=jZ c zO;obtain⟨v,e,N⟩:=l i a m c;simp[U,y0,y1,T,c];refine jG (cs:=[.int .i64 (a:Int)]) (by simp[j2]) rfl rfl ?_;simp[T];refine jJ e (by simp[V.strip,V.strip1,ints,intC]) rfl (by simp[ints]) ?_;cases K:onR n p i [a] with
 | none=>
  rw[K]at N;refine Ji N λt add=>?_;simp[U,X,c];rw[o];refine⟨zS,λj O=>?_⟩;rcases aQ.1 O with h|rfl
  exact Q j h;exact K
 | some R=>
  rw[K]at N;have P:=jff zS K;have a0:0<R.length:=by rw[P];simp;omega
  have w:G i=some R:=by rw[hG];exact Xo c K Q
  refine Ji N λt add=>?_;simp[a0];refine Yw (n:=4) (λr h=>?_) (by simp[yd]) zS rfl (JR _ t false R.length ((ints R).flatMap intC));rw[Xo m w u];exact h
 have:a=n:=zO;subst this;have w:G i=none:=by rw[hG];exact Xp Q
 simp[U,y0,T,D,m];rw[hJ];refine⟨zS,λj O=>?_⟩;rcases aQ.1 O with h|rfl;exact u j h;exact w;have:i=n:=zO;subst this;have I:¬ (i:Int)+1<=(i:Int):=zO;rw[Xp u];simp[s5,S,I];exact Yw (n:=4) (λr h=>h) (by simp[sd]) zS rfl (JR _ none true 0 [])
end
section
variable {g:Hist'}{M:List Int}
theorem ev50 (D:Small g) (y:g.ts.length<=8) (G:(readH g).length<=1000) {mn:Bool}(lvl:Int) (m:lvl≠3) (u:jaj g M=true) :
 ∃v,Ev E 50 [.int .i64 lvl,.agg (histC g),slOf mn intC M] v/\OnD (ja7 (g.ts.length+1) (λ(a b:Nat)=>(jY (g.ts.length+1) (satB g lvl M)).contains ((a:Int),(b:Int)))) v:=by
 obtain⟨F,o,l,z,d⟩:=ev46 D y G (mn:=mn) lvl m u;rw[js9 u z]at d;generalize w:jY (g.ts.length+1) (satB g lvl M)=L at *;have k:InG (g.ts.length+1) L:=by rw[<- w];exact jed _ _
 have j:L.length<=1000000:=by have H:=jbx (g.ts.length+1) (satB g lvl M);have:(g.ts.length+1)*(g.ts.length+1)<=9*9:=eU zO zO;rw[w]at H;omega
 obtain⟨p,s⟩:∃p:Nat->Nat->Bool,p=λ(a b:Nat)=>L.contains ((a:Int),(b:Int)):=⟨_,rfl⟩;rw[<- s];obtain⟨t,f,c⟩:=ev102 (n:=g.ts.length+1) (L:=L) (nl:=false) zO k j s;generalize ja7 (g.ts.length+1) p=r at *;have x:=jX (n:=((g.ts.length:Int)+1)) zO zO;refine JZ (af:=F50) rfl zQ ?_;conv in (occs := *) F50=> all_goals cbv
 simp[F50,objCells,histC,x];refine Js o (by simp[histC,slOf]) rfl (by simp[histC,slOf]) ?_;refine Ji d λB q=>?_;simp;refine Js f (by simp[V.strip,V.strip1]) rfl zS ?_;cases r with
 | none=>refine Ji c λi e=>?_;simp;exact Yw (n:=6) (λr h=>h) zS zS rfl (JR _ i true 0 [])
 | some R=>refine Ji c λi e=>?_;simp;exact Yw (n:=6) (λr h=>h) zS zS rfl (JR _ i false R.length ((ints R).flatMap intC))
end
def wk (n:Nat) (p:Nat->Nat->Bool) (a:Nat):Nat->Nat->Bool
 | 0,x=>p x a
 | k+1,x=>(List.range n).any λb=>decide (a<b) && (p x b && wk n p a k b)
structure DistTo (n:Nat) (p:Nat->Nat->Bool) (a s:Nat) (d:List Int):Prop where
 l:d.length=n
 lo:∀x,x<n->x<a->d.getD x 0 = -1
 hi:∀x,x<n->a<=x->(d.getD x 0 = -1/\∀k,k<s->wk n p a k x=false)\/∃k,k<s/\d.getD x 0=((k+1:Nat):Int)/\wk n p a k x=true/\∀j,j<k->wk n p a j x=false
def jl2 (n:Nat) (p:Nat->Nat->Bool) (a:Nat):Nat->List Nat->Prop
 | 0,w=>w=[a]
 | s+1,w=>∀b,b∈w ↔ a<b/\b<n/\wk n p a s b=true/\∀j,j<s->wk n p a j b=false
def Ql (a:Nat) (s:Int) (t:List Int × List Nat) (x:Nat):List Int × List Nat :=
 if a<=x/\t.1.getD x 0<0 then (t.1.set x s,if x=a then t.2 else t.2++[x]) else t
theorem jv7 (A:List Int) (v:Int) {x y:Nat}(h:x<A.length):(A.set x v).getD y 0=if y=x then v else A.getD y 0:=by rw[ag,ag,List.getElem?_set];by_cases e:x=y;subst e;simp[h];have:¬ y=x:=λh=>e h.symm;simp[e,this]
structure RInv (n a:Nat) (s:Int) (d:List Int) (xs:List Nat) (t:List Int × List Nat):Prop where
 l:t.1.length=n
 v:∀x,x<n->t.1.getD x 0=if a<=x/\d.getD x 0<0/\x∈xs then s else d.getD x 0
 w:∀x,x∈t.2 ↔ a<x/\d.getD x 0<0/\x∈xs
 nd:t.2.Nodup
 lt:∀x∈t.2,x<n
theorem RInv.step {n a:Nat}{s:Int}(F:0<s) {d:List Int}{xs:List Nat}{t:List Int × List Nat}(h:RInv n a s d xs t) {x:Nat}(q:x<n):RInv n a s d (xs++[x]) (Ql a s t x):=by
 have o:=h.v x q;unfold Ql;by_cases m:a<=x/\t.1.getD x 0<0;rw[if_pos m];have k:¬ (a<=x/\d.getD x 0<0/\x∈xs):=λe=>by rw[if_pos e]at o;omega
 rw[if_neg k]at o;have j:d.getD x 0<0:=zO;have p:x ∉ xs:=λe=>k ⟨m.1,j,e⟩;have B:=h.l;refine⟨by simp[B],λy g=>?_,λy=>?_,?_,λy g=>?_⟩;rw[jv7 _ _ zO];by_cases e:y=x;subst e;rw[if_pos rfl,if_pos ⟨m.1,j,zS⟩];rw[if_neg e,h.v y g];have:y∈xs++[x] ↔ y∈xs:=by simp[e]
 simp only[this];by_cases e:x=a;subst e;simp only[if_true];rw[h.w y];constructor;exact λ⟨b,c,f⟩=>⟨b,c,by simp[f]⟩;rintro⟨b,c,f⟩;refine⟨b,c,?_⟩;rcases aO.1 f with h|h
 exact h;have:=ae.1 h;omega;simp only[if_neg e];rw[aO,h.w y];constructor;rintro(⟨b,c,f⟩|b);exact⟨b,c,by simp[f]⟩;have:=ae.1 b;subst this;exact⟨zO,j,zS⟩;rintro⟨b,c,f⟩;rcases aO.1 f with h|h;exact .inl ⟨b,c,h⟩;exact .inr h;by_cases e:x=a;simp only[if_pos e];exact h.nd;simp only[if_neg e];rw[di];refine⟨h.nd,zS,λy g z D u=>?_⟩;rw[ae.1 D]at u;subst u;exact p ((h.w _).1 g).2.2;by_cases e:x=a;simp only[if_pos e]at g;exact h.lt y g;simp only[if_neg e]at g;rcases aO.1 g with b|b;exact h.lt y b;rw[ae.1 b];exact q;rw[if_neg m];have i:∀y,(a<=y/\d.getD y 0<0/\y∈xs++[x]) ↔ (a<=y/\d.getD y 0<0/\y∈xs):=λy=>by constructor;rintro⟨b,c,f⟩;refine⟨b,c,?_⟩;rcases aO.1 f with h'|h';exact h';have e:=ae.1 h';subst e;by_cases r:y∈xs;exact r;rw[if_neg (λe=>r e.2.2)]at o;exact absurd ⟨b,zO⟩ m;exact λ⟨b,c,f⟩=>⟨b,c,by simp[f]⟩
 refine⟨h.l,λy g=>?_,λy=>?_,h.nd,h.lt⟩;rw[h.v y g];simp only[i y];rw[h.w y];constructor;exact λ⟨b,c,f⟩=>⟨b,((i y).2 ⟨zO,c,f⟩).2⟩;exact λ⟨b,c,f⟩=>⟨b,((i y).1 ⟨zO,c,f⟩).2⟩
theorem RInv.start {n:Nat}(a:Nat) (s:Int) {d:List Int}(h:d.length=n):RInv n a s d [] (d,[]) :=
 ⟨h,λx _=>by simp,λx=>by simp,dS,λx b=>by cases b⟩
theorem RInv.fold {n a:Nat}{s:Int}(b:0<s) {d:List Int}:∀ (ys xs:List Nat) (t:List Int × List Nat),RInv n a s d xs t->(∀y∈ys,y<n)->RInv n a s d (xs++ys) (ys.foldl (Ql a s) t)
 | [],xs,t,h,_=>by simpa using h
 | y::ys,xs,t,h,hy=>by have:=RInv.fold b ys (xs++[y]) _ (h.step b (hy y (aP ..))) λz c=>hy z (bf _ c);simpa using this
def negs (d:List Int):Nat:=d.countP λx=>decide (x<0)
theorem jqw {a:Nat}{s:Int}(j:0<s) (t:List Int × List Nat) (x:Nat) (c:x<t.1.length):negs (Ql a s t x).1+(Ql a s t x).2.length<=negs t.1+t.2.length:=by
 unfold Ql;by_cases b:a<=x/\t.1.getD x 0<0;rw[if_pos b];have d:t.1.getD x 0=t.1[x]:=by simp[ag,aa c]
 have f:negs (t.1.set x s)=negs t.1 - 1:=by
  unfold negs;rw[List.countP_set c];have e:decide (t.1[x]<0)=true:=by rw[<- d];simpa using b.2
  have g:decide (s<0)=false:=by simp;omega
  simp[e,g]
 have h:0<negs t.1:=by unfold negs;rw[List.countP_pos_iff];exact⟨t.1[x],av c,by rw[<- d];simpa using b.2⟩
 have i:(if x=a then t.2 else t.2++[x]).length<=t.2.length+1:=by split <;> simp
 simp only[f];omega;rw[if_neg b];exact dr _
theorem jts (a:Nat) (s:Int) (t:List Int × List Nat) (x:Nat):(Ql a s t x).1.length=t.1.length:=by unfold Ql;split <;> simp
theorem jlk {a:Nat}{s:Int}(b:0<s):∀ (ys:List Nat) (t:List Int × List Nat),(∀y∈ys,y<t.1.length)->negs (ys.foldl (Ql a s) t).1+(ys.foldl (Ql a s) t).2.length<=negs t.1+t.2.length
 | [],t,_=>dr _
 | y::ys,t,h=>by rw[dO];refine bG (jlk b ys _ λz c=>?_) (jqw b t y (h y (aP ..)));rw[jts];exact h z (bf _ c)
section
variable {n a:Nat}{p:Nat->Nat->Bool}{bk:Nat->List Nat}
def round (bk:Nat->List Nat) (a s:Nat) (d:List Int) (w:List Nat):List Int × List Nat:=(w.flatMap bk).foldl (Ql a ((s+1:Nat):Int)) (d,[])
theorem joj (U:a<n) (H:∀b x,x∈bk b ↔ x<n/\p x b=true) {s:Nat}{d:List Int}{w:List Nat}(u:DistTo n p a s d) (O:jl2 n p a s w) :
 DistTo n p a (s+1) (round bk a s d w).1/\jl2 n p a (s+1) (round bk a s d w).2/\negs (round bk a s d w).1+(round bk a s d w).2.length<=negs d/\∀x∈(round bk a s d w).2,x<n:=by
 have t:∀y∈w.flatMap bk,y<n:=λy M=>by obtain⟨b,_,h⟩:=cg.1 M;exact((H b y).1 h).1
 have B:=RInv.fold (n:=n) (a:=a) (s:=((s+1:Nat):Int)) zO (w.flatMap bk) [] (d,[]) (RInv.start a _ u.l) t;rw[dl]at B;have S:=jlk (a:=a) (s:=((s+1:Nat):Int)) zO (w.flatMap bk) (d,[]) λy M=>by rw[show(d,([]:List Nat)).1=d from rfl,u.l];exact t y M
 have g:∀x,x<n->(∀k,k<s->wk n p a k x=false)->(x∈w.flatMap bk ↔ wk n p a s x=true):=by
  intro x i q;rw[cg];cases s with
  | zero=>have:w=[a]:=O;subst this;simp only[ae,exists_eq_left,H,wk];exact⟨λh=>h.2,λh=>⟨i,h⟩⟩
  | succ s=>have F:∀b,b∈w ↔ a<b/\b<n/\wk n p a s b=true/\∀j,j<s->wk n p a j b=false:=O;rw[wk,bx];constructor;rintro⟨b,o,c⟩;obtain⟨G,I,z,_⟩:=(F b).1 o;refine⟨b,aH.2 I,?_⟩;rw[z,((H b x).1 c).2];simpa using G;rintro⟨b,o,c⟩;have f:=aH.1 o;simp only[ai,decide_eq_true_eq]at c;obtain⟨G,I,z⟩:=c;refine⟨b,(F b).2 ⟨G,f,z,λj T=>?_⟩,(H b x).2 ⟨i,I⟩⟩;cases L:wk n p a j b;rfl;have m:=q (j+1) zO;rw[wk,dQ]at m;exact absurd (by simp[G,I,L]) (m b o)
 have D:∀x,x<n->a<=x->d.getD x 0<0->∀k,k<s->wk n p a k x=false:=λx i r h=>by rcases u.hi x i r with⟨_,c⟩|⟨k,_,c,_⟩;exact c;omega
 refine⟨⟨B.l,λx i N=>?_,λx i r=>?_⟩,?_,by simpa[round] using S,B.lt⟩;rw[round,B.v x i,if_neg (λe=>by omega)];exact u.lo x i N;rw[round,B.v x i];rcases u.hi x i r with⟨o,c⟩|⟨k,J,c,m,P⟩;by_cases K:x∈w.flatMap bk;rw[if_pos ⟨r,zO,K⟩];exact .inr ⟨s,zO,rfl,(g x i c).1 K,c⟩;rw[if_neg (λe=>K e.2.2)];refine .inl ⟨o,λk J=>?_⟩;rcases aQ.1 J with h|rfl;exact c k h;cases Q:wk n p a k x;rfl;exact absurd ((g x i c).2 Q) K;rw[if_neg (λe=>by omega)];exact .inr ⟨k,zO,c,m,P⟩;show ∀b,b∈(round bk a s d w).2 ↔ _;intro b;rw[round,B.w b];constructor;rintro⟨o,c,m⟩;have f:=t b m;have q:=D b f zO c;exact⟨o,f,(g b f q).1 m,q⟩;rintro⟨o,f,c,m⟩;refine⟨o,?_,(g b f m).2 c⟩;rcases u.hi b f zO with⟨G,_⟩|⟨k,J,_,z,_⟩;omega;rw[m k J]at z;cases z
structure DistOk (n:Nat) (p:Nat->Nat->Bool) (a:Nat) (d:List Int):Prop where
 l:d.length=n
 lo:∀x,x<n->x<a->d.getD x 0 = -1
 hi:∀x,x<n->a<=x->(d.getD x 0 = -1/\∀k,wk n p a k x=false)\/∃k,d.getD x 0=((k+1:Nat):Int)/\wk n p a k x=true/\∀j,j<k->wk n p a j x=false
theorem jzm {k x:Nat}(h:wk n p a k x=true):∃j,j<=k/\wk n p a j x=true/\∀i,i<j->wk n p a i x=false:=by
 induction k using Nat.strongRecOn with
 | _ k d=>by_cases b:∃i,i<k/\wk n p a i x=true;obtain⟨i,e,c⟩:=b;obtain⟨j,m,f⟩:=d i e c;exact⟨j,zO,f⟩;refine⟨k,zK,h,λi l=>?_⟩;cases g:wk n p a i x;rfl;exact absurd ⟨i,l,g⟩ b
theorem jpu {s:Nat}{d:List Int}(m:DistTo n p a s d) (t:jl2 n p a s []):DistOk n p a d:=by
 cases s with
 | zero=>have:([]:List Nat)=[a]:=t;cases this
 | succ s=>
  have o:∀b,b∈([]:List Nat) ↔ a<b/\b<n/\wk n p a s b=true/\∀j,j<s->wk n p a j b=false:=t;have f:∀k x,wk n p a k x=true->∃j,j<=s/\wk n p a j x=true:=by
   intro k;induction k with
   | zero=>exact λx h=>⟨0,zO,h⟩
   | succ k I=>intro x h;have u:=h;rw[wk,bx]at u;obtain⟨b,i,c⟩:=u;have q:=aH.1 i;simp only[ai,decide_eq_true_eq]at c;obtain⟨z,B,D⟩:=c;obtain⟨j,H,g⟩:=I b D;obtain⟨w,G,y,J⟩:=jzm g;by_cases e:w=s;subst e;exact absurd ((o b).2 ⟨z,q,y,J⟩) zS;refine⟨w+1,zO,?_⟩;rw[wk,bx];exact⟨b,i,by simp[z,B,y]⟩
  refine⟨m.l,m.lo,λx F r=>?_⟩;rcases m.hi x F r with⟨i,c⟩|⟨k,_,c⟩;refine .inl ⟨i,λk=>?_⟩;cases K:wk n p a k x;rfl;obtain⟨j,H,g⟩:=f k x K;rw[c j zO]at g;cases g;exact .inr ⟨k,c⟩
theorem jh2 (d:a<n):DistTo n p a 0 (List.replicate n (-1)):=by refine⟨zS,λx b _=>?_,λx b _=>.inl ⟨?_,λk c=>by omega⟩⟩;all_goals simp[ag,b]
end
section
variable {n a:Nat}{p:Nat->Nat->Bool}{d:List Int}
def wlk (n:Nat) (p:Nat->Nat->Bool) (a:Nat) (d:List Int):Nat->Nat->List Nat
 | 0,_=>[]
 | k+1,la=>match (List.range n).find? λb=>p la b && (decide (a<b) && d.getD b 0 == ((k+1:Nat):Int)) with
  | none=>[]
  | some b=>b::wlk n p a d k b
theorem jbm (H:List Nat) (b:Nat):(H++[b]).getD ((H++[b]).length - 1) 0=b:=by simp[ag]
theorem jfy {H:List Nat}(h:0<H.length) (b:Nat):(H++[b]).getD 0 0=H.getD 0 0:=by rw[ag,ag,aV h]
theorem joy:∀ {k:Nat}{H R:List Nat},0<H.length->onR n p k H=some R->wk n p (H.getD 0 0) k (H.getD (H.length - 1) 0)=true
 | 0,H,R,h0,h=>by unfold onR at h;split at h;assumption;cases h
 | k+1,H,R,h0,h=>by unfold onR at h;obtain⟨b,f,c⟩:=cz h;split at c;rename_i e;simp only[ai,decide_eq_true_eq]at e;have:=joy zS c;rw[jbm,jfy h0]at this;rw[wk,bx];exact⟨b,f,by simp only[e.1,e.2.1,this,decide_true,cB]⟩;cases c
theorem jks:∀ {k:Nat}{H R:List Nat},H.Nodup->(∀x∈H,x<n)->onR n p k H=some R->R.Nodup/\∀x∈R,x<n
 | 0,H,R,i,f,h=>by unfold onR at h;split at h;injection h with h;subst h;exact⟨i,f⟩;cases h
 | k+1,H,R,i,f,h=>by unfold onR at h;obtain⟨b,m,c⟩:=cz h;split at c;rename_i j;simp only[ai,decide_eq_true_eq,bJ,List.contains_eq_mem]at j;refine jks ?_ ?_ c;rw[di];refine⟨i,zS,λx g y l e=>?_⟩;rw[ae.1 l]at e;subst e;have:=j.2.2;simp at this;exact this g;intro x g;rcases aO.1 g with h|h;exact f x h;rw[ae.1 h];exact aH.1 m;cases c
theorem DistOk.of (e:DistOk n p a d) {x k:Nat}(g:x<n) (c:a<=x) (b:wk n p a k x=true):0<d.getD x 0/\d.getD x 0<=((k+1:Nat):Int):=by
 rcases e.hi x g c with⟨_,h⟩|⟨j,l,i,f⟩;rw[h k]at b;cases b;have:j<=k:=by rcases cu k j with h|h;rw[f k h]at b;cases b;exact h
 omega
theorem DistOk.at (c:DistOk n p a d) {x k:Nat}(f:x<n) (b:a<=x) (g:d.getD x 0=((k+1:Nat):Int)):wk n p a k x=true/\∀j,j<k->wk n p a j x=false:=by rcases c.hi x f b with⟨h,_⟩|⟨j,i,e⟩;omega;have:j=k:=zO;subst this;exact e
theorem j13 (s:DistOk n p a d):∀ (k:Nat) (H:List Nat),0<H.length->H.getD 0 0=a->(∀x∈H,x<n/\a<=x/\((k+1:Nat):Int)<=d.getD x 0)->d.getD (H.getD (H.length - 1) 0) 0=((k+1:Nat):Int) ->
 onR n p k H=some (H++wlk n p a d k (H.getD (H.length - 1) 0))
 | 0,H,h0,ha,hH,hl=>by
  have r:H.getD (H.length - 1) 0∈H:=by
   rw[ag,aa zO]
   exact av _
  have B:=(s.at (hH _ r).1 (hH _ r).2.1 hl).1
  rw[onR,wlk,aS,ha,if_pos (show p _ a=true from B)]
 | k+1,H,h0,ha,hH,hl=>by
  have r:H.getD (H.length - 1) 0∈H:=by
   rw[ag,aa zO]
   exact av _
  obtain⟨B,O⟩:=s.at (hH _ r).1 (hH _ r).2.1 hl
  have K:=(hH _ r).1
  obtain⟨q,m⟩:∃q,q=H.getD (H.length - 1) 0:=⟨_,rfl⟩
  rw[<- m]at B O hl K ⊢
  -- whoever the walk may go on by is asg near asg that
  have e:∀b,b<n->a<b->p q b=true->wk n p a k b=true->d.getD b 0=((k+1:Nat):Int):=λb J f I D=>by
   obtain⟨P,Q⟩:=s.of J zO D
   rcases s.hi b J zO with⟨h,_⟩|⟨j,e1,e2,_⟩
   ·omega
   ·rcases cu j k with h|h
    ·have S:=O (j+1) zO
     rw[wk,dQ]at S
     exact absurd (by simp[f,I,e2]) (S b (aH.2 J))
    ·omega
  have u:=B
  rw[wk,bx]at u
  obtain⟨b1,y,c⟩:=u
  simp only[ai,decide_eq_true_eq]at c
  have l:∃b,(List.range n).find? (λb=>p q b && (decide (a<b) && d.getD b 0 == ((k+1:Nat):Int)))=some b:=by
   cases g:(List.range n).find? (λb=>p q b && (decide (a<b) && d.getD b 0 == ((k+1:Nat):Int))) with
   | some b=>exact⟨b,rfl⟩
   | none=>
    rw[ej]at g
    have:=g b1 y
    rw[e b1 (aH.1 y) c.1 c.2.1 c.2.2]at this
    simp[c.1,c.2.1]at this
  obtain⟨b,g⟩:=l
  rw[wlk,g]
  have z:=fJ g
  simp only[ai,decide_eq_true_eq,beq_iff_eq]at z
  obtain⟨G,f,N⟩:=z
  have w:=aH.1 (dD g)
  have F:H.contains b=false:=by
   cases Z:H.contains b
   ·rfl
   ·have:=(hH b (by simpa using Z)).2.2
    omega
  have T:=j13 s k (H++[b]) zS (by rw[jfy h0,ha]) (λx hx=>by
   rcases aO.1 hx with h|h
   ·obtain⟨P,Q,c3⟩:=hH x h
    exact⟨P,Q,zO⟩
   ·rw[ae.1 h]
    exact⟨w,zO,zO⟩) (by rw[jbm,N])
  rw[jbm,aY]at T
  rw[onR]
  refine Xo (b:=b) w ?_ λj hj=>?_
  ·rw[<- m,ha,G,F]
   simp only[f,decide_true,cG,cB,if_true]
   exact T
  ·split
   ·rename_i o
    rw[<- m,ha]at o
    simp only[ai,decide_eq_true_eq]at o
    cases hr:onR n p k (H++[j]) with
    | none=>rfl
    | some R=>
     have D:=joy zS hr
     rw[jbm,jfy h0,ha]at D
     have M:=e j zO o.1 o.2.1 D
     have:=gx.1 g
     obtain⟨_,i,hi,he,t⟩:=this
     have U:i=b:=by simpa using he
     have L:=t j zO
     have X:(p q j && (decide (a<j) && d.getD j 0 == ((k+1:Nat):Int)))=true:=by simp only[o.1,o.2.1,M,decide_true,beq_self_eq_true,cB]
     simp only[List.getElem_range]at L
     rw[X]at L
     cases L
   ·rfl
end
section
variable {n a:Nat}{p:Nat->Nat->Bool}{d:List Int}
theorem jo5 {R:List Nat}(c:R.Nodup) (h:∀x∈R,x<n):R.length<=n:=by have:R.length<=(List.range n).length:=jnc c λx b=>aH.2 (h x b);simpa using this
def YA (n:Nat) (p:Nat->Nat->Bool) (a:Nat) (d:List Int):List Nat:=a::wlk n p a d ((d.getD a 0).toNat - 1) a
theorem jd1 (i:DistOk n p a d) (g:a<n) {k:Nat}(e:d.getD a 0=((k+1:Nat):Int)):onR n p k [a]=some (YA n p a d)/\(YA n p a d).length=k+1/\k<n:=by
 have h:=j13 i k [a] zS rfl (λx c=>by
  rw[ae.1 c];exact⟨g,zK,zO⟩) (by simpa using e)
 have j:YA n p a d=[a]++wlk n p a d k ([a].getD ([a].length - 1) 0):=by unfold YA;rw[e];simp
 rw[<- j]at h;have f:=jff zS h;have b:=jks zS (λx c=>by rw[ae.1 c];exact g) h;have:=jo5 b.1 b.2;refine⟨h,by rw[f];simp;omega,?_⟩;rw[f]at this;simp at this;omega
theorem jm0 (b:DistOk n p a d) (e:a<n) {k:Nat}(g:d.getD a 0<=0\/((k+1:Nat):Int)<d.getD a 0):onR n p k [a]=none:=by
 cases f:onR n p k [a] with
 | none=>rfl
 | some R=>have c:wk n p a k a=true:=joy (H:=[a]) zS f;obtain⟨i,h⟩:=b.of e zK c;omega
end
section
variable {n:Nat}{p:Nat->Nat->Bool}{D:Nat->List Int}
def jc0 (n:Nat) (p:Nat->Nat->Bool) (D:Nat->List Int):Nat->List Nat
 | 0=>[]
 | a+1=>if decide (0<(D a).getD a 0) && ((jc0 n p D a).isEmpty || decide ((D a).getD a 0<(jc0 n p D a).length)) then YA n p a (D a) else jc0 n p D a
theorem jjf (q:∀a,a<n->DistOk n p a (D a)):∀m,m<=n->(jc0 n p D m=[]/\∀a,a<m->(D a).getD a 0<=0) \/
 ∃a k,a<m/\(D a).getD a 0=((k+1:Nat):Int)/\jc0 n p D m=YA n p a (D a)/\(∀b,b<a->(D b).getD b 0<=0\/((k+1:Nat):Int)<(D b).getD b 0)/\∀b,b<m->(D b).getD b 0<=0\/((k+1:Nat):Int)<=(D b).getD b 0
 | 0,_=>.inl ⟨rfl,λa h=>by omega⟩
 | m+1,hm=>by
  have s:m<n:=zO;rcases jjf q m zO with⟨l,g⟩|⟨a,k,l,g,r,t,o⟩;by_cases f:0<(D m).getD m 0;refine .inr ⟨m,((D m).getD m 0).toNat - 1,zO,zO,?_,λb c=>.inl (g b c),λb c=>?_⟩;rw[jc0,l];simp only[f,decide_true,List.isEmpty_nil,gi,cB,if_true];rcases aQ.1 c with h|rfl;exact .inl (g b h);exact .inr zO;refine .inl ⟨?_,λb c=>?_⟩;rw[jc0,l];simp only[f,decide_false,bZ,aj,if_false];rcases aQ.1 c with h|rfl;exact g b h;omega;have e:=(jd1 (q a zO) zO g).2.1;have j:(YA n p a (D a)).isEmpty=false:=rfl;by_cases f:0<(D m).getD m 0/\(D m).getD m 0<((k+1:Nat):Int);refine .inr ⟨m,((D m).getD m 0).toNat - 1,zO,zO,?_,λb c=>?_,λb c=>?_⟩;rw[jc0,r,j,e];simp only[f.1,f.2,decide_true,ie,cB,if_true];rcases o b c with h|h;exact .inl h;exact .inr zO;rcases aQ.1 c with h|rfl;rcases o b h with h'|h';exact .inl h';exact .inr zO;exact .inr zO;refine .inr ⟨a,k,zO,g,?_,t,λb c=>?_⟩;rw[jc0,r,j,e];by_cases i:0<(D m).getD m 0;have:¬ (D m).getD m 0<((k+1:Nat):Int):=λh=>f ⟨i,h⟩
  simp only[this,decide_false,bq,dC,aj,if_false];simp only[i,decide_false,bZ,aj,if_false];rcases aQ.1 c with h|rfl;exact o b h;omega
theorem jlv (c:∀a,a<n->DistOk n p a (D a)):(jc0 n p D n=[]/\ja7 n p=none)\/(jc0 n p D n≠[]/\ja7 n p=some (jc0 n p D n)):=by
 rcases jjf c n zK with⟨f,g⟩|⟨a,k,f,g,l,q,r⟩;refine .inl ⟨f,Xp λk t=>Xp λa i=>jm0 (c a i) i (.inl (g a i))⟩;obtain⟨m,s,o⟩:=jd1 (c a f) f g;refine .inr ⟨by rw[l];simp[YA],?_⟩;rw[l];refine Xo o (Xo f m λb e=>jm0 (c b zO) zO (q b e)) λj u=>Xp λb e=>jm0 (c b e) e ?_
 rcases r b e with h|h;exact .inl h;exact .inr zO
def jl6 (n:Nat) (p:Nat->Nat->Bool):Prop:=∃a,a<n/\∃k,wk n p a k a=true
theorem jtf (f:∀a,a<n->DistOk n p a (D a)):(∃R,ja7 n p=some R) ↔ jl6 n p:=by constructor;rintro⟨R,h⟩;obtain⟨k,_,l⟩:=cz h;obtain⟨a,c,m⟩:=cz l;exact⟨a,aH.1 c,k,joy (H:=[a]) zS m⟩;rintro⟨a,c,k,h⟩;rcases jlv f with⟨o,g⟩|⟨_,g⟩;obtain⟨s,_⟩:=(f a c).of c zK h;rcases jjf f n zK with⟨_,e⟩|⟨b,j,q,r,i,_⟩;have:=e a c;omega;rw[o]at i;cases i;exact⟨_,g⟩
theorem jge:∀ (j m:Nat),n - m=j->∀U:Nat->Prop,(∀x,U x->m<=x/\x<n)->(∃x,U x)->(∀x,U x->∃y,U y/\p y x=true)->jl6 n p
 | 0,m,hj,U,hU,⟨x,l⟩,_=>by have:=hU x l;omega
 | j+1,m,hj,U,hU,hne,hpr=>by
  by_cases o:U m;by_cases i:∃k,wk n p m k m=true;exact⟨m,(hU m o).2,i⟩;have c:∀x k,x<n->m<x->wk n p m k x=true->∀y,p y x=true->wk n p m (k+1) y=true:=λx k l r g y b=>by rw[wk,bx];exact⟨x,aH.2 l,by simp only[r,b,g,decide_true,cB]⟩
  refine jge j (m+1) zO (λx=>U x/\m<x/\∃k,wk n p m k x=true) (λx h=>⟨h.2.1,(hU x h.1).2⟩) ?_ λx h=>?_;obtain⟨y,b,f⟩:=hpr m o;have q:y≠m:=λe=>i ⟨0,by rw[e]at f;exact f⟩;exact⟨y,b,by have:=(hU y b).1;omega,0,f⟩;obtain⟨s,t,k,u⟩:=h;obtain⟨y,b,f⟩:=hpr x s;have g:=c x k (hU x s).2 t u y f;have q:y≠m:=λe=>i ⟨k+1,by rw[e]at g;exact g⟩;exact⟨y,⟨b,by have:=(hU y b).1;omega,k+1,g⟩,f⟩;exact jge j (m+1) zO U (λx h=>⟨by have:=(hU x h).1;have:x≠m:=λe=>o (by rw[<- e];exact h);omega,(hU x h).2⟩) hne hpr
end
section
variable {n:Nat}{p:Nat->Nat->Bool}
def jl4 (n:Nat) (p:Nat->Nat->Bool) (D:List Nat):Prop:=D.Nodup/\(∀x∈D,x<n)/\∀i (h:i<D.length) x,x<n->p x D[i]=true->x∈D.take i
theorem jmh {D:List Nat}{a:Nat}(h:jl4 n p D) (q:a<n) (f:XX n p D a=true):jl4 n p (D++[a]):=by
 obtain⟨r,j,l⟩:=h;unfold XX at f;simp only[ai,bJ,aw,aH,bA]at f;obtain⟨g,o⟩:=f;have d:a ∉ D:=λe=>by rw[bE.2 e]at g;cases g
 refine⟨?_,λx b=>?_,λi m x b c=>?_⟩;rw[di];refine⟨r,zS,λx b y k e=>?_⟩;rw[ae.1 k]at e;subst e;exact d b;rcases aO.1 b with h|h;exact j x h;rw[ae.1 h];exact q;by_cases e:i<D.length;rw[dZ e]at c;rw[eJ zO];exact l i e x b c;have:i=D.length:=by simp at m;omega
 subst this;rw[List.getElem_concat_length rfl]at c;rw[eM rfl];rcases o x b with h|h;rw[c]at h;cases h;exact bE.1 h
theorem jc4:∀ (k:Nat) (D:List Nat),jl4 n p D->∀b,XY n p k D=some b->jl4 n p b
 | 0,D,h,b,e=>by
  have:D=b:=by simpa[XY] using e
  subst this;exact h
 | k+1,D,h,b,e=>by
  unfold XY at e;cases c:(List.range n).find? (XX n p D) with
  | none=>rw[c]at e;cases e
  | some a=>rw[c]at e;exact jc4 k (D++[a]) (jmh h (aH.1 (dD c)) (fJ c)) b e
theorem jmg {D:List Nat}(h:jl4 n p D) (l:∀x,x<n->x∈D):¬ jl6 n p:=by
 rintro⟨a,r,k,H⟩;obtain⟨J,_,G⟩:=h;have c:∀x,x<n->∀y,p y x=true->y<n->∀i (g:i<D.length),D[i]=x->∃j,∃f:j<D.length,D[j]=y/\j<i:=λx _ y z F i g e=>by have:=G i g y F (by rw[e];exact z);obtain⟨j,f,t⟩:=cy.1 this;rw[ap]at f;refine⟨j,zO,?_,zO⟩;rw[<- t,fm]
 obtain⟨i,g,w⟩:=cy.1 (l a r);have d:∀k x,x<n->wk n p a k x=true->∃j,∃f:j<D.length,D[j]=x/\j<i:=by
  intro k;induction k with
  | zero=>exact λx q h=>c a r x h q i g w
  | succ k I=>intro x q h;rw[wk,bx]at h;obtain⟨b,u,o⟩:=h;simp only[ai,decide_eq_true_eq]at o;obtain⟨j,f,e,s⟩:=I b (aH.1 u) o.2.2;obtain⟨B,m,t,K⟩:=c b (aH.1 u) x o.2.1 q j f e;exact⟨B,m,t,zO⟩
 obtain⟨j,f,e,s⟩:=d k a r H;have:j=i:=jd2 J f g (by rw[e,w]);omega
theorem jgu:∀ (k:Nat) (D:List Nat),XY n p k D=none->∃b,(∀a,a<n->XX n p b a=false)/\b.length<D.length+k
 | 0,D,e=>by simp[XY]at e
 | k+1,D,e=>by
  unfold XY at e;cases c:(List.range n).find? (XX n p D) with
  | none=>refine⟨D,λa d=>?_,zO⟩;rw[ej]at c;have:=c a (aH.2 d);simpa using this
  | some a=>rw[c]at e;obtain⟨b,g,f⟩:=jgu k (D++[a]) e;exact⟨b,g,by simp at f;omega⟩
theorem jqh {D:List Nat}(h:∀a,a<n->XX n p D a=false) (o:D.length<n):jl6 n p:=by
 have i:∃a,a<n/\a ∉ D:=by refine dm λf=>?_;have m:∀x∈List.range n,x∈D:=λx c=>dm λh=>f ⟨x,aH.1 c,h⟩;have:=jnc gp m;simp at this;omega
 refine jge n 0 zO (λx=>x<n/\x ∉ D) (λx h=>⟨cL _,h.1⟩) i λx c=>?_;have d:=h x c.1;unfold XX at d;have j:D.contains x=false:=by cases j:D.contains x;rfl;exact absurd (bE.1 j) c.2
 rw[j,cG,co,eD]at d;obtain⟨y,l,k⟩:=d;have b:¬ (p y x=false\/D.contains y=true):=by simpa using k
 refine⟨y,⟨aH.1 l,λe=>b (.inr (bE.2 e))⟩,?_⟩;cases g:p y x;exact absurd (.inl g) b;rfl
theorem jsu:(∃D,XY n p n []=some D) ↔ ¬ jl6 n p:=by
 constructor;rintro⟨D,h⟩;have b:=jc4 n [] ⟨dS,λx h=>(by cases h),λi h=>(by simp at h)⟩ D h;have d:=Q4 n [] D h;refine jmg b λx l=>dm λa=>?_;have c:(x::D).Nodup:=dN.2 ⟨a,b.1⟩;have:=jo5 c λy g=>by rcases br.1 g with e|h;rw[e];exact l;exact b.2.1 y h
 simp at this d;omega;intro k;cases h:XY n p n [] with
 | some D=>exact⟨D,rfl⟩
 | none=>obtain⟨m,j,f⟩:=jgu n [] h;exact absurd (jqh j (by simpa using f)) k
end
theorem evo209 {n a x k3 u3 k5 u5 kD uD:Nat}{d:List Int}{ob:ZO}(f:ob k3=some ⟨u3,.cells [.int .i64 (a:Int)]⟩) (g:ob k5=some ⟨u5,.cells [.osl kD uD 0 n 1]⟩) (c:ob kD=some ⟨uD,.cells (d.flatMap intC)⟩) (q:d.length=n) (o:x<n) (tk:Nat->Bool) (base ub:Nat) :
 EvO E 209 [.int .i64 (x:Int),.ptr k3 u3 0,.ptr k5 u5 0] ob tk base ub (.bool (decide (a<=x) && (decide (d.getD x 0<0) && !(x == a)))):=by
 have e:=jgp (l:=kD) (u:=uD) (kk:=.i64) o;have b:=jr d (i:=x) zO;have m:d[x]' zO=d.getD x 0:=by simp[ag,aa (show x<d.length by omega)]
 rw[m]at b;generalize d.flatMap intC=cs at b c;generalize d.getD x 0=v at *;refine JL (af:=S209) rfl ?_;by_cases k:a<=x
 ·have j:((a:Int)<=(x:Int)):=zO;by_cases h:v<0
  ·have p:((x:Int) != (a:Int)) = !(x == a):=by simp only[bne];congr 1;rw[bB,beq_iff_eq,beq_iff_eq];omega
   conv in (occs := *) S209=> all_goals cbv
   simp[S209,objCells,f,g,c,j,e,b,h];exact j4 rfl (by simp[k,h,p]) rfl
  ·conv in (occs := *) S209=> all_goals cbv
   simp[S209,objCells,f,g,c,j,e,b,h];exact j4 rfl (by simp[k,h]) rfl
 ·have j:¬ ((a:Int)<=(x:Int)):=zO;conv in (occs := *) S209=> all_goals cbv
  simp[S209,objCells,f,g,c,j,e,b];exact j4 rfl (by simp[k]) rfl
theorem LsV.mono' {ob:ZO}{lo hi hi':Nat}{v:V}{T:List Int}(h:LsV ob lo hi v T) (d:hi<=hi'):LsV ob lo hi' v T:=by rcases h with h|⟨u,b,a,c,e⟩;exact .inl h;exact .inr ⟨u,b,a,c,zO⟩
section
variable {lo hi uG:Nat}{ut uf:Nat}{ue:Option Nat}{tu fu:List Nat}{T:List P2}{ob:ZO}{ub n:Nat}{L:List P2}
theorem j2o (hG:Gr lo hi uG (some ut) (some uf) ue tu fu (rowW L) (colW L) T ob) (hu:hi<=ub) (p1:tu.length=n) (t0:fu.length=n) (h1:0<n) (h9:n<=9) (hL:InG n L) {p:Nat->Nat->Bool}(hp:p=λ(a b:Nat)=>L.contains ((a:Int),(b:Int))) {a:Nat}(ha:a<n) (tk:Nat->Bool) (base:Nat) :
 ∃v,EvO E 148 [.ptr (2*uG+1) uG 0,.int .i64 (a:Int)] ob tk base ub v/\∃d,DistOk n p a d/\SlR v false n (d.flatMap intC):=by
 have hc:=λb=>jbz hL b;have o2:(2:Nat) ^ n<=512:=ci zQ h9;obtain⟨bk,f2⟩:∃bk:Nat->List Nat,bk=λb=>bitsUp (colW L b):=⟨_,rfl⟩;have hb:∀b x,x∈bk b ↔ x<n/\p x b=true:=λb x=>by rw[f2];simp only;rw[WP h9 (hc b).1,bV,aH,(hc b).2,hp]
 refine Wr (af:=S148) rfl zQ ?_;conv in (occs := *) S148=> all_goals cbv
 simp[S148];refine ja (cs:=[.int .i64 (-1)]) (by simp[j2]) rfl rfl ?_;simp;refine jb (vs:=[.ptr (2*uG+1) uG 0]) zS rfl rfl (j2k (hG.keep (hi':=ub) (λx _ h=>?_) hu) zO _ _) ?_;have U:∀m,ub<=m->¬ x=m:=λm hm=>by omega
 simp(disch:=first|(simp;done)|omega) [two_inj,U];simp;refine jV (vs:=[.osl (2*(ub+64+64)+1) (ub+64+64) 0 1 1,.int .i64 (n:Int)]) (by simp[p1]) rfl (sv207 (x:=-1) (c:=n) (by simp;omega) zS (Off.new zO) h1 zO) ?_;rintro v1 i5 s5 B ⟨q1,w1,uD,rfl,hD,n7,m4⟩;simp only at q1 w1 hD n7 m4;have s7:ub+320<=B:=by first|omega|(simp at q1;omega)
 have d5:i5 (2*ub+1)=some ⟨ub,.cells [.int .i64 (a:Int)]⟩:=by rw[w1 _ (Off.new zO)];simp(disch:=first|(simp;done)|omega) [two_inj];omega
 have n5:∀g,Off ub g->i5 g=ob g:=λg hk=>by have:=hk.ne;rw[w1 _ (hk.up zO)];simp(disch:=first|(simp;done)|omega) [this]
 have nD:∀m,B<=m->¬ uD=m:=λm hm=>by omega
 have nb:¬ ub=B:=zO;simp(disch:=first|(simp;done)|omega) [objCells,d5,two_inj,j2,nb];refine⟨zO,?_⟩;refine ja (cs:=[.int .i64 (a:Int)]) (by simp[j2]) rfl rfl ?_;simp;refine jQ λst G=>?_;obtain⟨L0,s6⟩:∃L0,L0=B+64:=⟨_,rfl⟩;obtain⟨u6,c1,c2,g6,gW⟩:∃u,L0<=u/\u<st.nx/\st.tm 6=.osl (2*u+1) u 0 1 1/\st.ob (2*u+1)=some ⟨u,.cells [.int .i64 (a:Int)]⟩:=by refine⟨B+192,zO,by rw[G];first|omega|(simp;done)|(simp;omega),by rw[G];simp[aG],by rw[G];simp[aG]⟩
 have g0:st.tm 0=.ptr (2*uG+1) uG 0:=by rw[G];simp
 have g3:st.tm 3=.ptr (2*ub+1) ub 0:=by rw[G];simp
 have g5:st.tm 5=.ptr (2*B+1) B 0:=by rw[G];simp
 have g7:st.tm 7=.fn (.func 209) [] [.ptr (2*ub+1) ub 0,.ptr (2*B+1) B 0]:=by rw[G];simp
 have g8:st.tm 8=.int .i64 ((0+1:Nat):Int):=by rw[G];simp
 have gd:st.df=[]:=by rw[G];simp
 have gr:st.ro=ub:=by rw[G];simp
 have o3:st.ob (2*ub+1)=some ⟨ub,.cells [.int .i64 (a:Int)]⟩:=by rw[G];simp(disch:=first|(simp;done)|omega) [two_inj,nb,d5];intro h;omega
 have o5:st.ob (2*B+1)=some ⟨B,.cells [.osl (2*uD+1) uD 0 n 1]⟩:=by rw[G];simp(disch:=first|(simp;done)|omega) [two_inj];omega
 have oD:st.ob (2*uD+1)=some ⟨uD,.cells ((List.replicate n (-1:Int)).flatMap intC)⟩:=by rw[G];simp(disch:=first|(simp;done)|omega) [two_inj,nD];simpa using hD
 have oE:∀g,Off ub g->st.ob g=ob g:=λg hk=>by have S:=(hk.up (show ub<=B by omega)).ne;rw[G];simp(disch:=first|(simp;done)|omega) [S];exact n5 g hk
 clear G;obtain⟨o7,Z⟩:∃o,o=st.ob:=⟨_,rfl⟩;rw[<- Z]at gW o3 o5 oD oE;have c0:∀u,u<L0->Off L0 (2*u+1):=λu h=>Off.new h;have t7:∀u,L0<=u->¬ u=uD:=λu h=>by omega
 obtain⟨I,hI⟩:∃I:Nat->St->Prop,I=λk s=>∃ (K:Nat) (d:List Int) (w:List Nat),k=negs d+(if w=[] then 0 else 1)/\k+K<=n+1/\DistTo n p a K d/\jl2 n p a K w/\(∀x∈w,x<n)/\w.length<=n/\s.tm 8=.int .i64 ((K+1:Nat):Int)/\s.ob (2*uD+1)=some ⟨uD,.cells (d.flatMap intC)⟩/\LsV s.ob L0 s.nx (s.tm 6) (ints w)/\L0<=s.nx/\∀g,Off L0 g->g≠2*uD+1->s.ob g=o7 g:=⟨_,rfl⟩;refine Xs (n:=n+1) [(6,6),(8,9),(11,11),(13,13),(21,67)] I rfl rfl ?_ ?_;rw[hI];refine⟨0,List.replicate n (-1),[a],by simp[negs,List.countP_replicate],zO,jh2 ha,rfl,λx hx=>by rw[ae.1 hx];exact ha,by simp;omega,g8,by rw[<- Z];exact oD,.inr ⟨u6,by rw[g6];simp[ints],by rw[<- Z,gW];simp[ints,intC],c1,c2⟩,zO,λg _ _=>by rw[Z]⟩;clear g6 gW g8 oD Z;intro k q g9 f;rw[hI]at g9;obtain⟨K,d,w,hk,t6,hd,hw,n4,t5,q8,qD,q6,qn,qo⟩:=g9;have q0:=(f.t 0 zS).trans g0;have q3:=(f.t 3 zS).trans g3;have q5:=(f.t 5 zS).trans g5;have q7:=(f.t 7 zS).trans g7;have qd:=f.d.trans gd;have qr:=f.r.trans gr;clear f;have c8:=q6.len;rw[jW]at c8;by_cases e7:w=[];subst e7;have p5:q.ob (2*B+1)=some ⟨B,.cells [.osl (2*uD+1) uD 0 n 1]⟩:=(qo _ (c0 _ zO) zO).trans o5;simp at c8;simp(disch:=first|(simp;done)|omega) [c8,q5,objCells,p5];refine Yw (n:=4) (v:=.osl (2*uD+1) uD 0 n 1) (λr h=>⟨d,jpu hd hw,h⟩) (by simp[qd]) zS rfl (ja2 (cs:=d.flatMap intC) (by simpa using qD) ?_ ?_ (jcp d));rw[j3 j9,hd.l];omega;simp[qr];omega
 ·have s1:0<w.length:=dy.2 e7;simp(disch:=first|(simp;done)|omega) [c8,s1];rcases q6 with⟨_,e⟩|⟨uw,w6,wO,wl,wh⟩;have:w.length=0:=by rw[<- jW,e];rfl
  omega;rw[w6];refine jQ λy0 H=>?_;obtain⟨U,m1⟩:∃U,U=y0.nx:=⟨_,rfl⟩;have s3:q.nx<=U:=by rw[m1,H];first|omega|(simp;done)|(simp;omega)
  obtain⟨X,b5⟩:∃o,o=y0.ob:=⟨_,rfl⟩;have M:X=q.ob:=by rw[b5,H];funext g;simp
  have m2:y0.tm 0=.ptr (2*uG+1) uG 0:=by rw[H];simp[q0]
  have r6:y0.tm 3=.ptr (2*ub+1) ub 0:=by rw[H];simp[q3]
  have n9:y0.tm 5=.ptr (2*B+1) B 0:=by rw[H];simp[q5]
  have p8:y0.tm 7=.fn (.func 209) [] [.ptr (2*ub+1) ub 0,.ptr (2*B+1) B 0]:=by rw[H];simp[q7]
  have q2:y0.tm 8=.int .i64 ((K+1:Nat):Int):=by rw[H];simp[q8]
  have g2:y0.tm 9=.sl none true 0 []:=by rw[H];simp
  have f9:y0.tm 26=.osl (2*uw+1) uw 0 (ints w).length 1:=by rw[H];simp[w6]
  have k0:y0.tm 27=.int .i64 w.length:=by rw[H];simp
  have d8:y0.tm 28=.int .i64 0:=by rw[H];simp
  have m9:y0.df=[]:=by rw[H];simp[qd]
  have n0:y0.ro=ub:=by rw[H];simp[qr]
  clear H;rw[<- M]at qD wO qo;have t4:w.length<=1000:=zO;obtain⟨tI,c9⟩:∃tI:Nat->List Int × List Nat,tI=λi=>((w.take i).flatMap bk).foldl (Ql a ((K+1:Nat):Int)) (d,[]):=⟨_,rfl⟩;have d3:tI 0=(d,[]):=by rw[c9];rfl
  have g1:∀i (h:i<w.length),tI (i+1)=(bk w[i]).foldl (Ql a ((K+1:Nat):Int)) (tI i):=λi h=>by rw[c9];simp only;rw[ay h,bT,fo];simp
  have d2:tI w.length=round bk a K d w:=by rw[c9];simp only[bh];rfl
  have h8:∀i,RInv n a ((K+1:Nat):Int) d ((w.take i).flatMap bk) (tI i):=λi=>by
   have:=RInv.fold (n:=n) (a:=a) (s:=((K+1:Nat):Int)) zO ((w.take i).flatMap bk) [] (d,[]) (RInv.start a _ hd.l) λy hy=>by obtain⟨b,_,h⟩:=cg.1 hy;exact((hb b y).1 h).1
   rw[dl]at this;rw[c9];exact this
  obtain⟨J,hJ⟩:∃J:Nat->St->Prop,J=λi s=>s.tm 28=.int .i64 i/\s.ob (2*uD+1)=some ⟨uD,.cells ((tI i).1.flatMap intC)⟩/\LsV s.ob U s.nx (s.tm 9) (ints (tI i).2)/\U<=s.nx/\∀g,Off U g->g≠2*uD+1->s.ob g=X g:=⟨_,rfl⟩;refine j6 [(9,9),(11,11),(13,13),(28,66)] w.length J rfl rfl (by rw[hJ];exact⟨d8,by rw[d3,<- b5];exact qD,.inl ⟨g2,by rw[d3];rfl⟩,zO,λg _ _=>by rw[b5]⟩) ?_;clear d8 g2;intro i y hi l0 f;rw[hJ]at l0;obtain⟨f3,yD,y9,yn,yo⟩:=l0;have k4:=(f.t 0 zS).trans m2;have s2:=(f.t 3 zS).trans r6;have n8:=(f.t 5 zS).trans n9;have s0:=(f.t 7 zS).trans p8;have h0:=(f.t 8 zS).trans q2;have i7:=(f.t 26 zS).trans f9;have d6:=(f.t 27 zS).trans k0;have yd:=f.d.trans m9;have yr:=f.r.trans n0;clear f;by_cases a0:i<w.length
  ·have m5:=jZ a0 zO;have l8:=jgp (l:=2*uw+1) (u:=uw) (n:=(ints w).length) (kk:=.i64) (x:=i) (by rw[jW];exact a0);have g4:=Wm a0;have n3:w.getD i 0=w[i]:=by simp[ag,aa a0]
   rw[n3]at g4;have t8:=n4 _ (av a0);have p7:=g1 i a0;have l1:y.ob (2*uw+1)=some ⟨uw,.cells ((ints w).flatMap intC)⟩:=(yo _ (Off.new zO) zO).trans wO;generalize w[i]=b at *;simp(disch:=first|(simp;done)|omega) [f3,d6,i7,a0,l8,objCells,l1,g4,k4];have p6:Gr lo (y.nx+384) uG (some ut) (some uf) ue tu fu (rowW L) (colW L) T y.ob:=hG.keep (λx _ h=>by
    have e6:Off ub (2*x+1):=Off.new zO;rw[yo _ (e6.up zO) zO,qo _ (e6.up zO) zO,oE _ e6]) zO
   refine jfo (l:=ints (bk b)) (vs:=[.ptr (2*uG+1) uG 0,.int .i64 (b:Int)]) zS rfl rfl ?_ λtt nl add=>?_;rw[f2];exact j2p (p6.keep (λx _ _=>by simp) zK) zL zO zO (aR (hc b).1 o2) _ _;rw[jW];simp;refine jQ λQ F=>?_;have m7:Q.tm 0=.ptr (2*uG+1) uG 0:=by rw[F];simp[k4]
   have p0:Q.tm 3=.ptr (2*ub+1) ub 0:=by rw[F];simp[s2]
   have m0:Q.tm 5=.ptr (2*B+1) B 0:=by rw[F];simp[n8]
   have r0:Q.tm 7=.fn (.func 209) [] [.ptr (2*ub+1) ub 0,.ptr (2*B+1) B 0]:=by rw[F];simp[s0]
   have p2:Q.tm 8=.int .i64 ((K+1:Nat):Int):=by rw[F];simp[h0]
   have l6:LsV Q.ob U Q.nx (Q.tm 9) (ints (tI i).2):=by
    rcases y9 with⟨h1,S⟩|⟨u,h1,S,h3,h4⟩;exact .inl ⟨by rw[F];simpa using h1,S⟩
    ·exact .inr ⟨u,by rw[F];simpa using h1,by rw[F];simpa using S,h3,by rw[F];first|omega|(simp;done)|(simp;omega)⟩
   have k7:Q.tm 28=.int .i64 i:=by rw[F];simp[f3]
   have f4:Q.tm 34=.sl tt nl (bk b).length ((ints (bk b)).flatMap intC):=by rw[F];simp[jW]
   have j0:Q.tm 35=.int .i64 (bk b).length:=by rw[F];simp[jW]
   have d1:Q.tm 36=.int .i64 0:=by rw[F];simp
   have k8:Q.ob (2*uD+1)=some ⟨uD,.cells ((tI i).1.flatMap intC)⟩:=by rw[F];simpa using yD
   have k9:∀g,Off U g->g≠2*uD+1->Q.ob g=X g:=λg h1 S=>by rw[F];simpa using yo g h1 S
   have s8:y.nx<=Q.nx:=by rw[F];first|omega|(simp;done)|(simp;omega)
   have n6:Q.df=[]:=by rw[F];simp[yd]
   have o9:Q.ro=ub:=by rw[F];simp[yr]
   clear F y9 yD yo l1;have t1:(bk b).length<=1000:=by
    have S:bk b=(List.range n).filter λx=>(colW L b).testBit x:=by rw[f2];exact WP h9 (hc b).1
    rw[S];exact bG (bD _ _) (by simp;omega)
   obtain⟨tJ,c7⟩:∃tJ:Nat->List Int × List Nat,tJ=λj=>((bk b).take j).foldl (Ql a ((K+1:Nat):Int)) (tI i):=⟨_,rfl⟩;have d9:tJ 0=tI i:=by rw[c7];rfl
   have l5:∀j (h:j<(bk b).length),tJ (j+1)=Ql a ((K+1:Nat):Int) (tJ j) (bk b)[j]:=λj h=>by rw[c7];simp only;rw[ay h,fo];rfl
   have i0:tJ (bk b).length=tI (i+1):=by rw[c7,p7];simp only[bh]
   have o1:∀j,RInv n a ((K+1:Nat):Int) d ((w.take i).flatMap bk++(bk b).take j) (tJ j):=λj=>by have:=RInv.fold (n:=n) (a:=a) (s:=((K+1:Nat):Int)) zO ((bk b).take j) _ _ (h8 i) λy hy=>((hb b y).1 (dT hy)).1;rw[c7];exact this
   obtain⟨J2,e8⟩:∃J2:Nat->St->Prop,J2=λj s=>s.tm 36=.int .i64 j/\s.ob (2*uD+1)=some ⟨uD,.cells ((tJ j).1.flatMap intC)⟩/\LsV s.ob U s.nx (s.tm 9) (ints (tJ j).2)/\Q.nx<=s.nx/\∀g,Off U g->g≠2*uD+1->s.ob g=X g:=⟨_,rfl⟩;refine j6 [(9,9),(13,13),(36,65)] (bk b).length J2 rfl rfl (by rw[e8];exact⟨d1,by rw[d9];exact k8,by rw[d9];exact l6,zK,k9⟩) ?_;clear d1 l6 k8 k9;intro j z hj i9 f;rw[e8]at i9;obtain⟨b0,zD,z9,zn,zo⟩:=i9;have s9:=(f.t 0 zS).trans m7;have z3:=(f.t 3 zS).trans p0;have z5:=(f.t 5 zS).trans m0;have z7:=(f.t 7 zS).trans r0;have z8:=(f.t 8 zS).trans p2;have o0:=(f.t 28 zS).trans k7;have o4:=(f.t 34 zS).trans f4;have i1:=(f.t 35 zS).trans j0;have zd:=f.d.trans n6;have zr:=f.r.trans o9;clear f;have p3:z.ob (2*ub+1)=some ⟨ub,.cells [.int .i64 (a:Int)]⟩:=by rw[zo _ (Off.new zO) zO,qo _ (c0 _ zO) zO];exact o3
   have p5:z.ob (2*B+1)=some ⟨B,.cells [.osl (2*uD+1) uD 0 n 1]⟩:=by rw[zo _ (Off.new zO) zO,qo _ (c0 _ zO) zO];exact o5
   by_cases O:j<(bk b).length
   ·have b7:=jZ O zO;have l4:=jv j9 tt nl (ints (bk b)) .i64 (i:=j) (by rw[jW];exact O);rw[jW,bz]at l4;have f8:=Wm O;have m6:(bk b).getD j 0=(bk b)[j]:=by simp[ag,aa O]
    rw[m6]at f8;have i2:(bk b)[j]<n:=((hb b _).1 (av O)).1;have q4:=l5 j O;have e9:=o1 j;have l2:=e9.l;generalize (bk b)[j]=x at *;generalize tJ j=t at *;have l3:=λtk base r9=>evo209 (n:=n) (a:=a) (x:=x) (k3:=2*ub+1) (u3:=ub) (k5:=2*B+1) (u5:=B) (kD:=2*uD+1) (uD:=uD) (d:=t.1) (ob:=z.ob) p3 p5 zD l2 i2 tk base r9;obtain⟨cb,d0⟩:∃cb,cb=(decide (a<=x) && (decide (t.1.getD x 0<0) && !(x == a))):=⟨_,rfl⟩;rw[<- d0]at l3;have d4:=jgp (l:=2*uD+1) (u:=uD) (n:=n) (kk:=.i64) i2;have k6:(t.1.flatMap intC)[x]? = some (.int .i64 (t.1.getD x 0)):=by rw[jr t.1 (i:=x) zO];simp[ag,aa (show x<t.1.length by omega)]
    have b6:=Qd j9 ((K+1:Nat):Int) t.1 x zO;rw[bz,show intC ((K+1:Nat):Int)=[.int .i64 ((K+1:Nat):Int)] from rfl]at b6;have i4:(t.1.flatMap intC).length=n:=by rw[j3 j9,l2];omega
    have r5:Ql a ((K+1:Nat):Int) t x=if a<=x/\t.1.getD x 0<0 then (t.1.set x ((K+1:Nat):Int),if x=a then t.2 else t.2++[x]) else t:=rfl
    generalize ((K+1:Nat):Int)=sv at *;generalize t3:t.1.getD x 0=dv at *;generalize i6:t.1.flatMap intC=cs at *;simp(disch:=first|(simp;done)|omega) [b0,i1,o4,O,l4,f8,z7];refine WI (f:=209) (first:=[]) (captured:=[.ptr (2*ub+1) ub 0,.ptr (2*B+1) B 0]) zS rfl (by simp[V.strip,V.pureTop,V.pureLeaf]) (v:=.bool cb) (by simpa using l3 _ _ _) ?_;have d7:ub<=uD:=zO;have D:∀s':St,s'.tm 36=.int .i64 ((j+1:Nat):Int)->s'.ob (2*uD+1)=some ⟨uD,.cells ((tJ (j+1)).1.flatMap intC)⟩->LsV s'.ob U s'.nx (s'.tm 9) (ints (tJ (j+1)).2)->Q.nx<=s'.nx->(∀g,Off U g->g≠2*uD+1->s'.ob g=X g)->J2 (j+1) s':=λs' M N e3 e4 e5=>by rw[e8];exact⟨M,N,e3,e4,e5⟩
    rw[q4,r5]at D;have f1:∀s':St,(∀g,g≠2*uD+1->s'.ob g=z.ob g)->s'.tm 9=z.tm 9->z.nx<=s'.nx->LsV s'.ob U s'.nx (s'.tm 9) (ints t.2):=λs' M N e3=>by rcases z9 with⟨h1,S⟩|⟨u,h1,S,h3,h4⟩;exact .inl ⟨by rw[N];exact h1,S⟩;exact .inr ⟨u,by rw[N];exact h1,by rw[M _ zO];exact S,h3,zO⟩
    cases cb;by_cases b8:x=a;have b9:((x:Int) == (a:Int))=true:=by rw[b8];simp
    have c4:=d4;have c3:=k6;rw[b8]at c4 c3;have f0:a<cs.length:=zO;have f7:cs[a]=.int .i64 dv:=by rw[aa f0]at c3;exact bU c3
    by_cases c6:dv<0;rw[if_pos ⟨zO,c6⟩,if_pos b8]at D;simp only at D;rw[b8]at b6 D;simp(disch:=first|(simp;done)|omega) [objCells,z3,z5,p3,p5,zD,b9,c4,f0,f7,c6,b0,z8,zr,i4,b6,b7,O];refine⟨d7,zO,D _ zS (by simp[b8]) (f1 _ (λg h=>by simp[h]) zS zL) zL (λg M N=>?_)⟩;simp[N];exact zo g M N;rw[if_neg (λe=>c6 e.2)]at D;simp(disch:=first|(simp;done)|omega) [objCells,z3,z5,p3,p5,zD,b9,c4,f0,f7,c6,b0,z8,b7,O];exact D _ zS (by rw[i6];simpa using zD) (f1 _ (λg _=>by simp) zS zL) zL (λg M N=>by simpa using zo g M N);have b9:((x:Int) == (a:Int))=false:=by rw[beq_eq_false_iff_ne];omega
    have n2:¬ (a<=x/\dv<0):=λe=>by
     have h1:decide (a<=x)=true:=by simpa using e.1
     have S:decide (dv<0)=true:=by simpa using e.2
     have h3:(x == a)=false:=by simpa using b8
     rw[h1,S,h3]at d0;cases d0
    rw[if_neg n2]at D;simp(disch:=first|(simp;done)|omega) [objCells,z3,z5,p3,p5,zD,b9,b0,z8,b7,O];exact D _ zS (by rw[i6];simpa using zD) (f1 _ (λg _=>by simp) zS zL) zL (λg M N=>by simpa using zo g M N)
    ·have e0:=d0.symm;simp only[ai,decide_eq_true_eq,bJ,beq_eq_false_iff_ne]at e0;obtain⟨k1,k2,k3⟩:=e0;have b9:((x:Int) == (a:Int))=false:=by rw[beq_eq_false_iff_ne];omega
     rw[if_pos ⟨k1,k2⟩,if_neg k3]at D;simp only at D;simp(disch:=first|(simp;done)|omega) [objCells,z3,z5,p3,p5,zD,d4,k6,b0,z8,zr,i4,b6];refine⟨d7,zO,?_⟩;refine ja (cs:=[.int .i64 (x:Int)]) (by simp[j2]) rfl rfl ?_;simp;have P:∀u,u<z.nx->∀m,z.nx<=m->¬ u=m:=λu h m hm=>by omega
     refine Wk (lo:=U) (hi:=z.nx) (v:=z.tm 9) (T:=ints t.2) (p:=(x:Int)) zS ?_ ?_ (by simp[slCells,objCells,intC]) ?_ λkl p9=>?_;rcases z9 with⟨h1,S⟩|⟨u,h1,S,h3,h4⟩
     exact .inl ⟨h1,S⟩;have h5:=P u h4;have h6:¬ u=uD:=zO;refine .inr ⟨u,h1,?_,h3,h4⟩;simp(disch:=first|(simp;done)|omega) [two_inj,h5,h6];exact S;simp[zr];omega;rw[jW];exact bG (jo5 e9.nd e9.lt) zO;have c5:∀g,Off U g->kl.any (Nat.beq g)=false:=λg hk=>by rcases p9 with rfl|⟨u,_,h3,_,rfl⟩;rfl;simp only[bu,bI,bq];exact JN (hk u h3)
     have p4:=c5 (2*ub+1) (Off.new zO);have o8:=c5 (2*B+1) (Off.new zO);have i8:=c5 (2*uD+1) (Off.new zO);have o6:=P ub zO;have q9:=P B zO;have i3:=P uD zO;have f6:¬ ub=uD:=zO;have h7:¬ B=uD:=zO;have r7:ints t.2++[(x:Int)]=ints (t.2++[x]):=by simp[ints]
     have m8:(ints t.2).length+1=(ints (t.2++[x])).length:=by simp[ints]
     rw[r7,m8];generalize t2:ints (t.2++[x])=TT at *;simp(disch:=first|(simp;done)|omega) [objCells,z3,z5,p3,p5,b9,b0,b7,O,jD,two_inj,p4,o8,i8,o6,q9,i3,f6,h7];refine D _ zS ?_ (.inr ⟨_,by simp;exact⟨rfl,rfl⟩,?_,?_,?_⟩) ?_ λg M N=>?_;simp(disch:=first|(simp;done)|omega) [jD,two_inj,i8,i3];simp(disch:=first|(simp;done)|omega) [jD,two_inj]
     ·first|omega|(simp;done)|(simp;omega)
     ·first|omega|(simp;done)|(simp;omega)
     ·first|omega|(simp;done)|(simp;omega)
     have h3:=(M.up (show U<=z.nx by omega)).ne;simp(disch:=first|(simp;done)|omega) [jD,two_inj,c5 g M,h3,N];exact zo g M N
   have:j=(bk b).length:=zO;subst this;rw[i0]at zD z9;simp(disch:=first|(simp;done)|omega) [b0,i1,o0,m5,a0];rw[hJ];exact⟨zS,by simpa using zD,by simpa using z9.mono' zL,zL,λg M N=>by simpa using zo g M N⟩
  have:i=w.length:=zO;subst this;rw[d2]at yD y9;obtain⟨r1,r2,r3,r4⟩:=joj (bk:=bk) ha hb hd hw;have f5:=h8 w.length;rw[d2]at f5;have r8:=f5.nd;generalize round bk a K d w=t at *;have l9:IntKind.i64.wrap (((K+1:Nat):Int)+1)=((K+1+1:Nat):Int):=by rw[jX zO zO];omega
  have s4:k=negs d+1:=by rw[hk,if_neg e7]
  simp(disch:=first|(simp;done)|omega) [f3,d6,h0];rw[hI];have m3:negs t.1+(if t.2=[] then 0 else 1)<k:=by by_cases e:t.2=[];rw[if_pos e];omega;have:=dy.2 e;rw[if_neg e];omega
  have l7:IntKind.i64.wrap ((K:Int)+1+1)=((K+1+1:Nat):Int):=l9;refine⟨_,m3,K+1,t.1,t.2,rfl,zO,r1,r2,r4,jo5 r8 r4,by simp[l7],by simpa using yD,?_,zL,λg M N=>?_⟩;rcases y9 with⟨M,N⟩|⟨u,M,N,e3,e4⟩;exact .inl ⟨by simpa using M,N⟩;exact .inr ⟨u,by simpa using M,by simpa using N,zO,zL⟩;simp;rw[yo g (M.up zO) N];exact qo g M N
end
theorem j50 {ob:ZO}{ub:Nat}{p:Int->Bool}{c:FuncId}{cap:List V}(F:E.sh true c=false) (l:(cap.all λv=>v.strip.pureTop)=false) {t:Option (Nat × Nat)}{nl:Bool}{L:List Int}(D:L.length<=1000000000)
 (hp:∀r∈L,∀ (tk:Nat->Bool) (base e:Nat),ub<=e->EvO E c (.int .i64 r::cap) ob tk base e (.bool (p r))) (tk:Nat->Bool) (base:Nat):EvO E 147 [.sl t nl L.length (L.flatMap intC),.fn (.func c) [] cap] ob tk base ub (.int .i64 (Yi p L)):=by
 refine JL (af:=S147) rfl ?_;conv in (occs := *) S147=> all_goals cbv
 simp[S147];refine j6 [(4,5),(8,18)] L.length (λi s=>s.tm 8=.int .i64 i/\s.ob=ob/\ub<=s.nx/\∀j (g:j<L.length),j<i->p L[j]=false) rfl rfl ⟨zS,zS,by simp;omega,λ_ _ h=>by omega⟩ ?_;rintro i s G ⟨o,x,H,m⟩ f;have y:s.tm 0=.sl t nl L.length (L.flatMap intC):=by rw[f.t 0 zS];simp
 have z:s.tm 1=.fn (.func c) [] cap:=by rw[f.t 1 zS];simp
 have w:s.tm 7=.int .i64 L.length:=by rw[f.t 7 zS];simp
 have u:s.df=[]:=by rw[f.d];simp
 clear f;by_cases a:i<L.length;have B:=jZ a D;have k:=jv j9 t nl L .i64 a;have q:=jr L a;simp[y,z,w,o,a,k,q];refine WI (f:=c) (first:=[]) (captured:=cap) zS F (by simpa[V.strip,V.pureTop,V.pureLeaf] using l) (v:=.bool (p L[i])) (by simpa[x] using hp L[i] (av a) _ _ _ zO) ?_;cases b:p L[i];simp[o,B];refine⟨a,x,zO,?_⟩;intro j g n;rcases aQ.1 n with h|rfl;exact m j g h;exact b;simp;refine j4 (by simpa using u) ?_ rfl;simp;rw[Y6 a b m];have:i=L.length:=zO;subst this;simp[w,o];refine j4 (by simpa using u) ?_ rfl;simp[Wn (λj g=>m j g g)]
theorem evo210 {n a x k1 o l u2 k3 u3 k:Nat}{j:Option (Nat × Nat)}{d:List Int}{ob:ZO}(f:ob k1=some ⟨o,.cells [.int .i64 (a:Int)]⟩) (e:ob l=some ⟨u2,.cells [.sl j false n (d.flatMap intC)]⟩) (g:ob k3=some ⟨u3,.cells [.int .i64 (k:Int)]⟩) (p:d.length=n) (r:x<n) (tk:Nat->Bool) (base ub:Nat) :
 EvO E 210 [.int .i64 (x:Int),.ptr k1 o 0,.ptr l u2 0,.ptr k3 u3 0] ob tk base ub (.bool (decide (a<x) && d.getD x 0 == (k:Int))):=by
 have b:=jv j9 j false d .i64 (i:=x) zO;rw[p,bz]at b;have c:=jr d (i:=x) zO;have q:d[x]' zO=d.getD x 0:=by simp[ag,aa (show x<d.length by omega)]
 rw[q]at c;generalize d.flatMap intC=cs at c e b;generalize d.getD x 0=v at *;refine JL (af:=S210) rfl ?_;by_cases m:a<x;have h:((a:Int)<(x:Int)):=zO;simp[S210,objCells,f,e,g,h,b,c];exact j4 rfl (by simp[m]) rfl;have h:¬ ((a:Int)<(x:Int)):=zO;simp[S210,objCells,f,e,g,h,b,c];exact j4 rfl (by simp[m]) rfl
theorem jus {n a f k:Nat}{p:Nat->Nat->Bool}{d:List Int}(l:DistOk n p a d) (u:f<n) (m:a<=f) (x:d.getD f 0=((k+1+1:Nat):Int)):∃b,(List.range n).find? (λb=>p f b && (decide (a<b) && d.getD b 0 == ((k+1:Nat):Int)))=some b:=by
 obtain⟨y,w⟩:=l.at u m x;have g:=y;rw[wk,bx]at g;obtain⟨b1,c,e⟩:=g;simp only[ai,decide_eq_true_eq]at e;obtain⟨r,t,B⟩:=e;have i:=aH.1 c;have o:d.getD b1 0=((k+1:Nat):Int):=by obtain⟨G,D⟩:=l.of i zO B;rcases l.hi b1 i zO with⟨h,_⟩|⟨j,F,z,_⟩;omega;rcases cu j k with h|h;have s:=w (j+1) zO;rw[wk,dQ]at s;exact absurd (by simp only[r,t,z,decide_true,cB]) (s b1 c);omega
 cases q:(List.range n).find? (λb=>p f b && (decide (a<b) && d.getD b 0 == ((k+1:Nat):Int))) with
 | some b=>exact⟨b,rfl⟩
 | none=>rw[ej]at q;have:=q b1 c;rw[o,t]at this;simp[r]at this
theorem jno {q:Int->Bool}{l:List Nat}{b:Nat}(h:l.find? (λx:Nat=>q (x:Int))=some b):∃i,∃hi:i<l.length,Yi q (ints l)=(i:Int)/\l[i]=b:=by obtain⟨e,i,hi,d,a⟩:=gx.1 h;refine⟨i,hi,?_,d⟩;refine Y6 (by rw[jW];exact hi) (by rw[ji7,d];exact e) λj f c=>?_;rw[ji7];simpa using a j c
section
variable {lo hi uG:Nat}{ut uf:Nat}{ue:Option Nat}{tu fu:List Nat}{T:List P2}{ob:ZO}{ub n:Nat}{L:List P2}
theorem j2n (hG:Gr lo hi uG (some ut) (some uf) ue tu fu (rowW L) (colW L) T ob) (hu:hi<=ub) (f4:tu.length=n) (h9:n<=9) (hL:InG n L) {p:Nat->Nat->Bool}(hp:p=λ(a b:Nat)=>L.contains ((a:Int),(b:Int))) {a:Nat}(ha:a<n) {d:List Int}(U:DistOk n p a d) {m:Nat}(hm:d.getD a 0=((m+1:Nat):Int)) (f6:m<n) {td:Option (Nat × Nat)}(tk:Nat->Bool) (base:Nat) :
 ∃v,EvO E 149 [.ptr (2*uG+1) uG 0,.sl td false n (d.flatMap intC),.int .i64 (a:Int)] ob tk base ub v/\SlR v false (YA n p a d).length ((ints (YA n p a d)).flatMap intC):=by
 have hr:=λa=>Xy hL a;have c9:(2:Nat) ^ n<=512:=ci zQ h9;have e5:∀b,bitsUp (rowW L b)=(List.range n).filter λx=>p b x:=λb=>by rw[WP h9 (hr b).1];refine gg λx _=>?_;rw[(hr b).2,hp]
 have b0:=jv j9 td false d .i64 (i:=a) (by rw[U.l];exact ha);rw[U.l,bz]at b0;have Z:=jr d (i:=a) (by rw[U.l];exact ha);have hg:d[a]'(by rw[U.l];exact ha)=d.getD a 0:=by simp[ag,aa (show a<d.length by rw[U.l];exact ha)]
 rw[hg,hm]at Z;have b9:IntKind.i64.wrap (((m+1:Nat):Int) - 1)=(m:Int):=by rw[jX zO zO];omega
 have a0:YA n p a d=a::wlk n p a d m a:=by unfold YA;rw[hm];simp
 generalize hM:((m+1:Nat):Int)=M at Z b9;refine Wr (af:=S149) rfl zQ ?_;conv in (occs := *) S149=> all_goals cbv
 simp[S149,objCells];refine ja (cs:=[.int .i64 (a:Int)]) (by simp[j2]) rfl rfl ?_;have hA:∀x,ub<=x->¬ ub=x+64:=λx hx=>by omega
 have hC:∀x,ub<=x->¬ ub+64=x+64+64:=λx hx=>by omega
 simp(disch:=first|(simp;done)|omega) [objCells,two_inj,b0,Z,b9,j2,hA,hC];refine⟨zO,?_⟩;refine jQ λy e=>?_;obtain⟨O,f5⟩:∃O,O=ub+128:=⟨_,rfl⟩;obtain⟨j,b1,b2,g7,gO⟩:∃u,O<=u/\u<ub+832/\y.tm 7=.osl (2*u+1) u 0 1 1/\y.ob (2*u+1)=some ⟨u,.cells [.int .i64 (a:Int)]⟩:=by refine⟨ub+256,zO,zO,by rw[e];simp[aG],?_⟩;rw[e];simp(disch:=first|(simp;done)|omega) [two_inj,aG]
 obtain⟨w,b3,g9,gL⟩:∃u,u=ub+832/\y.tm 9=.ptr (2*u+1) u 0/\y.ob (2*u+1)=some ⟨u,.cells [.int .i64 (m:Int)]⟩:=by refine⟨ub+832,rfl,by rw[e];simp[aG],by rw[e];simp[aG]⟩
 have gn:w<y.nx:=by rw[e];first|omega|(simp;done)|(simp;omega)
 have g0:y.tm 0=.ptr (2*uG+1) uG 0:=by rw[e];simp
 have g4:y.tm 4=.ptr (2*ub+1) ub 0:=by rw[e];simp
 have g5:y.tm 5=.ptr (2*(ub+64)+1) (ub+64) 0:=by rw[e];simp
 have g8:y.tm 8=.int .i64 (a:Int):=by rw[e];simp
 have gd:y.df=[]:=by rw[e];simp
 have gr:y.ro=ub:=by rw[e];simp
 have o4:y.ob (2*ub+1)=some ⟨ub,.cells [.sl td false n (d.flatMap intC)]⟩:=by rw[e];simp(disch:=first|(simp;done)|omega) [two_inj,hA]
 have o5:y.ob (2*(ub+64)+1)=some ⟨ub+64,.cells [.int .i64 (a:Int)]⟩:=by rw[e];simp(disch:=first|(simp;done)|omega) [two_inj,hC]
 have oE:∀c,Off ub c->y.ob c=ob c:=λc P=>by have h2:=P.ne;rw[e];simp(disch:=first|(simp;done)|omega) [h2]
 clear e;obtain⟨d0,N⟩:∃o,o=y.ob:=⟨_,rfl⟩;rw[<- N]at o4 o5 oE;obtain⟨J,hJ⟩:∃J:Nat->St->Prop,J=λi s=>∃ (D:Nat) (out:List Nat) (j w:Nat),out++wlk n p a d (m - i) D=YA n p a d/\out.length=i+1/\D<n/\a<=D/\d.getD D 0=((m - i+1:Nat):Int)/\s.tm 8=.int .i64 (D:Int)/\s.tm 7=.osl (2*j+1) j 0 (i+1) 1/\s.ob (2*j+1)=some ⟨j,.cells ((ints out).flatMap intC)⟩/\s.tm 9=.ptr (2*w+1) w 0/\s.ob (2*w+1)=some ⟨w,.cells [.int .i64 ((m - i:Nat):Int)]⟩/\O<=j/\j<s.nx/\O<=w/\w<s.nx/\j≠w/\∀c,Off O c->s.ob c=d0 c:=⟨_,rfl⟩;refine j6 [(7,11),(20,38)] m J rfl rfl (by rw[hJ];exact⟨a,[a],j,w,by rw[a0];rfl,rfl,ha,zK,by rw[hm];rfl,g8,g7,by rw[gO];simp[ints,intC],g9,gL,b1,zO,zO,gn,zO,λc _=>by rw[N]⟩) ?_;clear g7 gO g9 gL g8 gn b1 b2 b3;intro i s hi c2 f;rw[hJ]at c2;obtain⟨D,out,j,w,z,g,d2,d3,c5,s8,s7,sO,s9,sL,b1,b2,b3,b4,b5,so⟩:=c2;have s0:=(f.t 0 zS).trans g0;have s4:=(f.t 4 zS).trans g4;have s5:=(f.t 5 zS).trans g5;have sd:=f.d.trans gd;have sr:=f.r.trans gr;clear f;by_cases b8:i<m
 ·obtain⟨k,P⟩:∃k,m - i=k+1:=⟨m - i - 1,zO⟩;have X:m - (i+1)=k:=zO;rw[P]at z c5 sL;obtain⟨b,H⟩:=jus U d2 d3 c5;have f0:(0:Int)<((k+1:Nat):Int):=zO;simp(disch:=first|(simp;done)|omega) [s9,objCells,sL,s0,s8];have c3:=fJ H;simp only[ai,decide_eq_true_eq,beq_iff_eq]at c3;obtain⟨f1,f2,f3⟩:=c3;have e7:=aH.1 (dD H);have d8:wlk n p a d (k+1) D=b::wlk n p a d k b:=by rw[wlk,H]
  obtain⟨B,K⟩:∃B,B=bitsUp (rowW L D):=⟨_,rfl⟩;have G:B=(List.range n).filter λx=>p D x:=by rw[K,e5]
  have c6:∀x∈B,x<n:=λx hx=>by rw[G]at hx;exact aH.1 (bV.1 hx).1
  have e8:B.length<=1000:=by rw[G];exact bG (bD _ _) (by simp;omega)
  obtain⟨q,hq⟩:∃q:Int->Bool,q=λx=>decide ((a:Int)<x) && d.getD x.toNat 0 == ((k+1:Nat):Int):=⟨_,rfl⟩;have c1:∀x:Nat,q (x:Int)=(decide (a<x) && d.getD x 0 == ((k+1:Nat):Int)):=λx=>by rw[hq];simp only[aZ];congr 1;rw[decide_eq_decide];omega
  have d6:B.find? (λx:Nat=>q (x:Int))=some b:=by rw[G,List.find?_filter,<- H];congr 1;funext x;rw[c1];simp only[Bool.decide_and,Bool.decide_eq_true]
  obtain⟨i0,S,d4,d5⟩:=jno d6;have d1:Gr lo (s.nx+256) uG (some ut) (some uf) ue tu fu (rowW L) (colW L) T s.ob:=hG.keep (λx _ h=>by
   have c0:Off ub (2*x+1):=Off.new zO;rw[so _ (c0.up zO),oE _ c0]) zO
  refine jfo (l:=ints B) (vs:=[.ptr (2*uG+1) uG 0,.int .i64 (D:Int)]) zS rfl rfl ?_ λtt nl add=>?_;rw[K];exact jwf (d1.keep (λx _ _=>by simp) zK) zL zO (aR (hr D).1 c9) _ _;simp;have p4:s.ob (2*ub+1)=some ⟨ub,.cells [.sl td false n (d.flatMap intC)]⟩:=(so _ (Off.new zO)).trans o4;have p5:s.ob (2*(ub+64)+1)=some ⟨ub+64,.cells [.int .i64 (a:Int)]⟩:=(so _ (Off.new zO)).trans o5;have d9:∀ (r:Int),r∈ints B->∀ (tk:Nat->Bool) (base F:Nat),EvO E 210 [.int .i64 r,.ptr (2*(ub+64)+1) (ub+64) 0,.ptr (2*ub+1) ub 0,.ptr (2*w+1) w 0] s.ob tk base F (.bool (q r)):=λr Q tk base F=>by obtain⟨x,hx,rfl⟩:=aJ.1 Q;have:=evo210 (n:=n) (a:=a) (x:=x) (k:=k+1) p5 p4 sL U.l (c6 x hx) tk base F;rwa [<- c1 x]at this
  refine jb (vs:=[.sl tt nl (ints B).length ((ints B).flatMap intC),.fn (.func 210) [] [.ptr (2*(ub+64)+1) (ub+64) 0,.ptr (2*ub+1) ub 0,.ptr (2*w+1) w 0]]) (by simp[s5,s4,s9]) rfl (by rw[cQ,Bool.and_eq_false_iff];exact .inr rfl) (j50 (p:=q) rfl rfl (by rw[jW];omega) (λr Q tk base F _=>by simpa using d9 r Q tk base F) _ _) ?_;rw[d4];have I:=jv j9 tt nl (ints B) .i64 (i:=i0) (by rw[jW];exact S);have b6:=Wm S;have c7:B.getD i0 0=b:=by rw[<- d5];simp[ag,aa S]
  rw[c7]at b6;rw[bz]at I;generalize (ints B).flatMap intC=cn at *;simp(disch:=first|(simp;done)|omega) [I,b6];refine ja (cs:=[.int .i64 (b:Int)]) (by simp[j2]) rfl rfl ?_;simp;have nk:∀u,u<s.nx->∀m,s.nx<=m->¬ u=m:=λu h m hm=>by omega
  have n7:=nk j b2;have n9:=nk w b4;refine Wk (lo:=O) (hi:=s.nx) (v:=.osl (2*j+1) j 0 (i+1) 1) (T:=ints out) (p:=(b:Int)) (by simp[s7]) (.inr ⟨j,by rw[jW,g],?_,b1,b2⟩) ?_ (by simp[slCells,objCells,intC]) (by rw[jW];omega) λkl d7=>?_;simp(disch:=first|(simp;done)|omega) [two_inj,n7];exact sO;simp[sr];omega;have b7:∀c,c≠2*j+1->kl.any (Nat.beq c)=false:=λc P=>by rcases d7 with rfl|⟨u,hu,_,_,rfl⟩;rfl;injection hu with e1 e2;simp only[bu,bI,bq];exact JN zO
  have e0:=b7 (2*w+1) zO;have e4:ints out++[(b:Int)]=ints (out++[b]):=by simp[ints]
  have e6:(ints out).length+1=i+1+1:=by rw[jW,g]
  rw[e4,e6];have c4:IntKind.i64.wrap (((k+1:Nat):Int) - 1)=(k:Int):=by rw[jX zO zO];omega
  have e9:=jZ b8 zO;generalize e3:((k+1:Nat):Int)=KK at *;generalize c8:(ints (out++[b])).flatMap intC=TT at *;simp(disch:=first|(simp;done)|omega) [objCells,s9,sL,jD,two_inj,e0,n7,n9,j2,c4,b8];refine⟨zO,?_⟩;rw[hJ];refine⟨b,out++[b],_,_,by rw[X,<- z,d8];simp,by simp[g],e7,zO,by rw[X,f3,<- e3],zS,by simp;exact⟨rfl,rfl⟩,?_,by simp;exact⟨rfl,rfl⟩,?_,?_,?_,?_,?_,?_,λc P=>?_⟩;simp(disch:=first|(simp;done)|omega) [jD,two_inj,c8];simp(disch:=first|(simp;done)|omega) [jD,two_inj,X]
  ·first|omega|(simp;done)|(simp;omega)
  ·first|omega|(simp;done)|(simp;omega)
  ·first|omega|(simp;done)|(simp;omega)
  ·first|omega|(simp;done)|(simp;omega)
  ·first|omega|(simp;done)|(simp;omega)
  have h3:=(P.up (show O<=s.nx by omega)).ne;have h4:=b7 c (P j b1);simp(disch:=first|(simp;done)|omega) [jD,two_inj,h3,h4];exact so c P
 have:i=m:=zO;subst this;rw[eQ]at sL z;have he:YA n p a d=out:=by rw[<- z];simp[wlk]
 rw[he];simp(disch:=first|(simp;done)|omega) [s9,objCells,sL,s7];refine Yw (n:=6) (v:=.osl (2*j+1) j 0 (i+1) 1) (k:=i+1) (λr h=>by rw[g];exact h) (by simp[sd]) zS rfl (ja2 (cs:=(ints out).flatMap intC) (by simpa using sO) ?_ ?_ (jcp _));rw[j3 j9,jW,g];omega;simp[sr];omega
end
theorem DistOk.uniq {n a:Nat}{p:Nat->Nat->Bool}{d e:List Int}(o:DistOk n p a d) (q:DistOk n p a e):d=e:=by
 have w:∀x,x<n->d.getD x 0=e.getD x 0:=λx m=>by
  by_cases g:x<a;rw[o.lo x m g,q.lo x m g];rcases o.hi x m zO with⟨t,b⟩|⟨k,t,b,u⟩ <;> rcases q.hi x m zO with⟨s,c⟩|⟨j,s,c,y⟩;rw[t,s];rw[b j]at c;cases c;rw[c k]at b;cases b;have:k=j:=by rcases du k j with h|h|h;rw[y k h]at b;cases b;exact h;rw[u j h]at c;cases c
  rw[t,s,this]
 apply dJ;rw[o.l,q.l];intro i f r;have:=w i (by rw[<- o.l];exact f);simpa[ag,aa f,aa r] using this
def jyg (r:Option (List Nat)):List Int × Int:=match r with
 | none=>([],3)
 | some R=>(ints R,0)
section
variable {n:Nat}{L:List P2}{nl:Bool}
theorem ev100 (h1:0<n) (h9:n<=9) (hL:InG n L) (hl:L.length<=10000) {p:Nat->Nat->Bool}(hp:p=λ(a b:Nat)=>L.contains ((a:Int),(b:Int))) :
 ∃v,Ev E 100 [.int .i64 (n:Int),.sl none nl L.length (L.flatMap edC)] v/\j7j (jyg (ja7 n p)) v:=by
 refine JZ (af:=F100) rfl zQ ?_;conv in (occs := *) F100=> all_goals cbv
 simp[F100];refine jV (vs:=[.int .i64 n,.sl none nl L.length (L.flatMap edC)]) zS rfl (jxv zS h1 h9 (.inl ⟨none,nl,rfl⟩) hL hl) ?_;rintro v1 b0 c6 I ⟨N,ut,uf,ue,tu,fu,T,rfl,hG,G,c1,hT,q1,c3⟩;simp only at hG q1 c3;have c8:1<=I:=by have:=hG.rG;omega
 have c0:∀a,a<n->∃d,DistOk n p a d:=λa ha=>by obtain⟨_,_,d,z,_⟩:=j2o hG zK G c1 h1 h9 hL hp ha (λ_=>false) 0;exact⟨d,z⟩
 obtain⟨D,hD⟩:∃D:Nat->List Int,∀a,a<n->DistOk n p a (D a):=⟨λa=>if h:a<n then Classical.choose (c0 a h) else [],λa ha=>by simp only[ha,dif_pos];exact Classical.choose_spec (c0 a ha)⟩;simp;refine jQ λS m=>?_;have g6:S.tm 6=.ptr (2*N+1) N 0:=by rw[m];simp
 have g7:S.tm 7=.int .i64 0:=by rw[m];simp
 have g8:S.tm 8=.sl none true 0 []:=by rw[m];simp
 have c4:S.tm 20=.int .i64 n:=by rw[m];simp
 have b7:S.tm 21=.int .i64 0:=by rw[m];simp
 have gd:S.df=[]:=by rw[m];simp
 have go:∀g,S.ob g=b0 g:=λg=>by rw[m];simp
 have gn:I<=S.nx:=by rw[m];first|omega|(simp;done)|(simp;omega)
 clear m;obtain⟨B,hB⟩:∃B:Nat->List Nat,B=jc0 n p D:=⟨_,rfl⟩;have c7:∀i,i<=n->(B i).length<=n:=λi hi=>by rw[hB];rcases jjf hD i hi with⟨e,_⟩|⟨a,k,U,Q,e3,_⟩;rw[e];simp;obtain⟨_,f2,f3⟩:=jd1 (hD a zO) zO Q;rw[e3,f2];omega
 obtain⟨J,hJ⟩:∃J:Nat->St->Prop,J=λi s=>s.tm 21=.int .i64 i/\(∃t,s.tm 8=.sl t (B i).isEmpty (B i).length ((ints (B i)).flatMap intC))/\I<=s.nx/\∀g,s.ob g=b0 g:=⟨_,rfl⟩;refine j6 [(8,10),(21,49)] n J rfl rfl (by rw[hJ];exact⟨b7,⟨none,by rw[g8,hB];rfl⟩,gn,go⟩) ?_;clear g8 b7 go gn;intro a s ha b9 f;rw[hJ]at b9;obtain⟨o,⟨t,M⟩,sn,so⟩:=b9;have s6:=(f.t 6 zS).trans g6;have s7:=(f.t 7 zS).trans g7;have X:=(f.t 20 zS).trans c4;have sd:=f.d.trans gd;clear f;by_cases j:a<n;have F:=jZ j zO;have a0:Gr 256 (s.nx+256) N (some ut) (some uf) ue tu fu (rowW L) (colW L) T s.ob:=hG.keep (λx _ h=>so _) zO;simp(disch:=first|(simp;done)|omega) [o,X,j,s6];refine jd4 (P:=λv=>∃d,DistOk n p a d/\SlR v false n (d.flatMap intC)) (vs:=[.ptr (2*N+1) N 0,.int .i64 (a:Int)]) zS rfl rfl ?_ ?_;exact j2o (a0.keep (λx _ _=>by simp) zK) zL G c1 h1 h9 hL hp j _ _;rintro v ⟨d,z,hv⟩;refine Ji hv λtd add=>?_;have c5:d=D a:=z.uniq (hD a j);have w:=jv j9 td false d .i64 (i:=a) (by rw[z.l];exact j);rw[z.l,bz]at w;have y:=jr d (i:=a) (by rw[z.l];exact j);have hg:d[a]'(by rw[z.l];exact j)=d.getD a 0:=by simp[ag,aa (show a<d.length by rw[z.l];exact j)]
 rw[hg]at y;have O:B (a+1)=if decide (0<d.getD a 0) && ((B a).isEmpty || decide (d.getD a 0<(B a).length)) then YA n p a d else B a:=by rw[hB,c5];rfl
 have c:∀s':St,s'.tm 21=.int .i64 ((a+1:Nat):Int)->(∃t,s'.tm 8=.sl t (B (a+1)).isEmpty (B (a+1)).length ((ints (B (a+1))).flatMap intC))->I<=s'.nx->(∀g,s'.ob g=b0 g)->J (a+1) s':=λs' U Q e3 e4=>by rw[hJ];exact⟨U,Q,e3,e4⟩
 obtain⟨cs,b5⟩:∃cs,cs=d.flatMap intC:=⟨_,rfl⟩;rw[<- b5]at w y ⊢;generalize c2:d.getD a 0=dv at *;by_cases u:0<dv;have hm:d.getD a 0=((dv.toNat - 1+1:Nat):Int):=by rw[c2];omega
 obtain⟨f1,f2,f3⟩:=jd1 z j hm;cases H:(B a).isEmpty;by_cases K:dv<(B a).length;simp(disch:=first|(simp;done)|omega) [o,s6,w,y,u,M,H,K];refine jd4 (P:=λv=>SlR v false (YA n p a d).length ((ints (YA n p a d)).flatMap intC)) (vs:=[.ptr (2*N+1) N 0,.sl td false n cs,.int .i64 (a:Int)]) zS rfl rfl ?_ ?_;rw[b5];exact j2n (a0.keep (λx _ _=>by simp) zK) zL G h9 hL hp j z hm f3 _ _;intro v2 Z;refine Ji Z λt2 b8=>?_;have q:B (a+1)=YA n p a d:=by rw[O,if_pos (by simp[u,K])]
 have b6:(YA n p a d).isEmpty=false:=rfl;rw[q,b6]at c;generalize YA n p a d=R at *;simp(disch:=first|(simp;done)|omega) [o,F,j];exact c _ zS ⟨t2,zS⟩ zL (λg=>by simpa using so g);simp(disch:=first|(simp;done)|omega) [o,s6,w,y,u,M,H,K,F,j];have q:B (a+1)=B a:=by rw[O,if_neg (by simp[H,K])]
 rw[q,H]at c;exact c _ zS ⟨t,by simp[M,H]⟩ zL (λg=>by simpa using so g);simp(disch:=first|(simp;done)|omega) [o,s6,w,y,u,M,H];refine jd4 (P:=λv=>SlR v false (YA n p a d).length ((ints (YA n p a d)).flatMap intC)) (vs:=[.ptr (2*N+1) N 0,.sl td false n cs,.int .i64 (a:Int)]) zS rfl rfl ?_ ?_;rw[b5];exact j2n (a0.keep (λx _ _=>by simp) zK) zL G h9 hL hp j z hm f3 _ _;intro v2 Z;refine Ji Z λt2 b8=>?_;have q:B (a+1)=YA n p a d:=by rw[O,if_pos (by simp[u,H])]
 have b6:(YA n p a d).isEmpty=false:=rfl;rw[q,b6]at c;generalize YA n p a d=R at *;simp(disch:=first|(simp;done)|omega) [o,F,j];exact c _ zS ⟨t2,zS⟩ zL (λg=>by simpa using so g);simp(disch:=first|(simp;done)|omega) [o,s6,w,y,u,F,j];have q:B (a+1)=B a:=by rw[O,if_neg (by simp[u])]
 rw[q]at c;exact c _ zS ⟨t,by simpa using M⟩ zL (λg=>by simpa using so g);have:a=n:=zO;subst this;rcases jlv hD with⟨U,Q⟩|⟨U,Q⟩;rw[<- hB]at U;rw[U]at M;rw[Q];simp(disch:=first|(simp;done)|omega) [o,X,M];exact Wi (r:=([],3)) (t:=none) (nl:=true) (by simp[sd]) zS zS (λ_=>rfl);rw[<- hB]at U Q;have H:(B a).isEmpty=false:=by cases h:(B a).isEmpty;rfl;exact absurd (gq.1 h) U
 rw[H]at M;rw[Q];simp(disch:=first|(simp;done)|omega) [o,X,M,s7];refine Wi (r:=(ints (B a),0)) (t:=t) (nl:=false) (by simp[sd]) (by simp[jW]) zS (λh=>by cases h)
end
section
variable {n a:Nat}{p:Nat->Nat->Bool}
theorem jpt (e:a<n):∀ (k s:Nat) (d:List Int) (w:List Nat),DistTo n p a s d->jl2 n p a s w->negs d+(if w=[] then 0 else 1)<=k->∃i,DistOk n p a i
 | k,s,d,w,hd,hw,hk=>by
  by_cases c:w=[];subst c;exact⟨d,jpu hd hw⟩;rw[if_neg c]at hk;obtain⟨g,f,j,_⟩:=joj (bk:=λb=>(List.range n).filter λx=>p x b) e (λb x=>by simp) hd hw;cases k with
  | zero=>omega
  | succ k=>refine jpt e k (s+1) _ _ g f ?_;split;omega;rename_i h;have:=dy.2 h;omega
theorem jwi (b:a<n):∃d,DistOk n p a d :=
 jpt b (n+1) 0 (List.replicate n (-1)) [a] (jh2 b) rfl (by simp[negs,List.countP_replicate])
theorem jis (n:Nat) (p:Nat->Nat->Bool):(∃D,XY n p n []=some D) ↔ ja7 n p=none:=by
 obtain⟨D,c⟩:∃D:Nat->List Int,∀a,a<n->DistOk n p a (D a):=⟨λa=>if h:a<n then Classical.choose (jwi (p:=p) h) else [],λa b=>by simp only[b,dif_pos];exact Classical.choose_spec (jwi b)⟩;rw[jsu,<- jtf c];cases ja7 n p with
 | none=>simp
 | some R=>simp
end
theorem ev13 (h:Hist') (lvl:Int) {nl:Bool}(M:List Int):Ev E 13 [.int .i64 lvl,.agg (histC h),slOf nl intC M] (.bool true):=by
 obtain⟨r,ev,hr⟩:=ev15 h;obtain⟨r2,y,s⟩:=ev15 (Qe h);rw[j0v]at s;have K:=j73 h;have N:=j5w h;generalize Qe h=g at *;have b9:jcj false [.int .i64 (M.length:Int),.int .i64 60]=some (.int .i64 ((min M.length 60:Nat):Int)):=jfg M.length 60;have b5:min M.length 60<=M.length:=eh _ _;have X:min M.length 60<=60:=Nat.min_le_right _ _;generalize min M.length 60=k1 at *;have U:=j3m j9 none nl M b5;have l1:(M.take k1).length<=60:=by rw[ap];omega
 generalize M.take k1=M' at *;obtain⟨vm,T,b8⟩:=ev25 nl M' zO;obtain⟨d5,q,o⟩:=ev25 false M' zO;obtain⟨p,hp⟩:∃p:Nat->Nat->Bool,p=λ(a b:Nat)=>(jY (g.ts.length+1) (satB g lvl M')).contains ((a:Int),(b:Int)):=⟨_,rfl⟩;obtain⟨d8,b6,I⟩:=ev47 K N (mn:=false) (M:=M') lvl zO;obtain⟨d7,c5,H⟩:=ev48 K N (mn:=false) (M:=M') lvl zO (jyg (ja7 (g.ts.length+1) p)) λ_ nl hn=>ev100 zO zO (jed _ _) (by
  have h1:=jbx (g.ts.length+1) (satB g lvl M');have:(g.ts.length+1)*(g.ts.length+1)<=9*9:=eU zO zO;omega) hp
 have a0:=ev43 K lvl (mn:=false) (M:=M') zO;refine jS (af:=F13) rfl ?_;conv in (occs := *) F13=> all_goals cbv
 simp[F13,histC,objCells];refine Js ev (by simp[histC,slOf]) rfl (by simp[histC,slOf]) ?_;refine jmq hr λa1 b1 c1 c8=>?_;simp[b9,U,slOf];refine Js T (by simp[slOf]) rfl (by simp[slOf]) ?_;refine Ji b8 λa2 c9=>?_;simp[objCells,j2];refine jJ y (by simp[histC,slOf]) rfl (by simp[histC,slOf]) ?_;refine jmq s λa4 b4 c4 w=>?_;simp;refine jJ q (by simp[slOf]) rfl (by simp[slOf]) ?_;refine Ji o λa5 d3=>?_;simp;refine jJ b6 (by simp[histC,slOf]) rfl (by simp[histC,slOf]) ?_;refine je3 I λt1 n1 d4 d6=>?_;simp[objCells];refine jJ y (by simp[histC,slOf]) rfl (by simp[histC,slOf]) ?_;refine jmq s λa7 b7 c7 d2=>?_;simp;refine jJ q (by simp[slOf]) rfl (by simp[slOf]) ?_;refine Ji o λa8 d0=>?_;simp;refine jJ c5 (by simp[histC,slOf]) rfl (by simp[histC,slOf]) ?_;refine je3 H λt2 n2 d1 e0=>?_;simp[objCells];refine jJ a0 (by simp[histC,slOf]) rfl (by simp[histC,slOf]) ?_;by_cases d:jbw g lvl M'=0;have L:jaj g M'=true:=by cases L:jaj g M';unfold jbw at d;split at d;cases d;rw[if_pos (.inr (.inr L))]at d;cases d;rfl
 have J:lvl≠3:=by intro e;unfold jbw at d;split at d;cases d;rw[if_pos (.inr (.inl zO))]at d;cases d
 have d9:=W2 L;obtain⟨G,F,c⟩:=ev49 K N zO (mn:=false) lvl J L;obtain⟨P,c6,l⟩:=ev50 K N zO (mn:=false) lvl J L;rw[<- hp]at l;have hT:Wv (g.ts.length+1) (jY (g.ts.length+1) (satB g lvl M'))=XY (g.ts.length+1) p (g.ts.length+1) []:=by unfold Wv;rw[hp]
 have i:=jis (g.ts.length+1) p;rw[<- hT]at i;have z:jt2 g lvl M'=match Wv (g.ts.length+1) (jY (g.ts.length+1) (satB g lvl M')) with
  | none=>([],3)
  | some D=>((ints D).filter λx=>(comL g).contains x,0):=by
  rw[jt2,if_pos d]
  try cases Wv (g.ts.length+1) (jY (g.ts.length+1) (satB g lvl M')) <;> rfl
 have c0:=λD h=>Q4 (n:=g.ts.length+1) (p:=p) (g.ts.length+1) [] D h;rw[hT]at i z c;rw[z,if_pos d,d];clear z;cases t:XY (g.ts.length+1) p (g.ts.length+1) [] with
 | some D=>rw[t]at c i;have O:ja7 (g.ts.length+1) p=none:=i.1 ⟨D,rfl⟩;rw[O];have S:=c0 D t;have f:TupS [.sl none false ((ints D).filter λx=>(comL g).contains x).length (((ints D).filter λx=>(comL g).contains x).flatMap intC),.bool true] G:=c;have Q:((ints D).filter λx=>(comL g).contains x).length<=1000:=bG (bD _ _) (by rw[jW,S];simp;omega);have u:jyg none=([],3):=rfl;rw[u];simp only;generalize ((ints D).filter λx=>(comL g).contains x)=R at *;have j:=ev32 (a:=n1) (b:=false) R R zO zO;rw[beq_self_eq_true]at j;simp[objCells];refine jJ F (by simp[histC,slOf]) rfl (by simp[histC,slOf]) ?_;refine j30 f λt3 B=>?_;simp;refine jJ j (by simp[slOf]) rfl (by simp[slOf]) ?_;simp;refine jJ ev44 zS rfl zS ?_;simp;exact j4 rfl zS rfl
 | none=>
  rw[t]at c i;obtain⟨R,hR⟩:∃R,ja7 (g.ts.length+1) p=some R:=by
   cases hr:ja7 (g.ts.length+1) p with
   | some R=>exact⟨R,rfl⟩
   | none=>obtain⟨_,h⟩:=i.2 hr;cases h
  rw[hR]at l ⊢;have f:TupS [.sl none false 0 [],.bool false] G:=c;have m:SlR P false R.length ((ints R).flatMap intC):=l;have u:jyg (some R)=(ints R,0):=rfl;have Q:(ints R).length<=1000:=by obtain⟨k,hk,b0⟩:=cz hR;obtain⟨a,ha,c3⟩:=cz b0;have:=jff zS c3;have X:=aH.1 hk;rw[jW,this];simp;omega
  have c2:=jW R;rw[u];rw[<- c2]at m;simp only;generalize ints R=R' at *;have j:=ev32 (a:=n2) (b:=false) R' R' zO zO;rw[beq_self_eq_true]at j;simp[objCells];refine jJ F (by simp[histC,slOf]) rfl (by simp[histC,slOf]) ?_;refine j30 f λt3 B=>?_;simp[objCells];refine jJ c6 (by simp[histC,slOf]) rfl (by simp[histC,slOf]) ?_;refine Ji m λt4 w=>?_;simp;refine jJ j (by simp[slOf]) rfl (by simp[slOf]) ?_;simp;refine jJ ev44 zS rfl zS ?_;simp;exact j4 rfl zS rfl
 have z:jt2 g lvl M'=([],jbw g lvl M'):=by simp[jt2,d]
 rw[z,if_neg d];have hb:(jbw g lvl M' != 0)=true:=by simpa using d
 have Z:IntKind.i64.wrap 0=0:=by decide
 simp[hb,Z];refine jJ ev44 zS rfl zS ?_;simp;exact j4 rfl zS rfl
end Go.Pv.T
namespace Go.Pv.T
open Go Go.Pv Go.Proofs Go.Shelf
def renS:Ren where
 f:=λx=>match x with
  | 189=>69
  | 125=>118
  | 257=>117
  | 128=>187
  | 129=>188
  | 294=>178
  | 295=>179
  | 296=>180
  | 297=>181
  | 298=>182
  | 299=>183
  | 216=>184
  | 300=>185
  | 301=>186
  | 328=>238
  | 329=>239
  | 330=>240
  | 331=>241
  | 332=>242
  | 215=>243
  | 343=>275
  | n=>n
 t:=λx=>match x with
  | 28=>26
  | 3=>3
  | 46=>160
  | 0=>0
  | 51=>236
  | 53=>165
  | 4=>4
  | 183=>230
  | 182=>229
  | 131=>157
  | 5=>5
  | 9=>9
  | 218=>275
  | 222=>279
  | 228=>307
  | 229=>304
  | n=>n
 g:=λx=>x
theorem laysS:Lays.n189 Tryz.prog renS where
 mixed:=by kernel_rfl
 f125:=Tryz.func118.trans (congrArg some (by kernel_rfl))
 f128:=Tryz.func187.trans (congrArg some (by kernel_rfl))
 f129:=Tryz.func188.trans (congrArg some (by kernel_rfl))
 f189:=Tryz.func69.trans (congrArg some (by kernel_rfl))
 f215:=Tryz.func243.trans (congrArg some (by kernel_rfl))
 f216:=Tryz.func184.trans (congrArg some (by kernel_rfl))
 f257:=Tryz.func117.trans (congrArg some (by kernel_rfl))
 f294:=Tryz.func178.trans (congrArg some (by kernel_rfl))
 f295:=Tryz.func179.trans (congrArg some (by kernel_rfl))
 f296:=Tryz.func180.trans (congrArg some (by kernel_rfl))
 f297:=Tryz.func181.trans (congrArg some (by kernel_rfl))
 f298:=Tryz.func182.trans (congrArg some (by kernel_rfl))
 f299:=Tryz.func183.trans (congrArg some (by kernel_rfl))
 f300:=Tryz.func185.trans (congrArg some (by kernel_rfl))
 f301:=Tryz.func186.trans (congrArg some (by kernel_rfl))
 f328:=Tryz.func238.trans (congrArg some (by kernel_rfl))
 f329:=Tryz.func239.trans (congrArg some (by kernel_rfl))
 f330:=Tryz.func240.trans (congrArg some (by kernel_rfl))
 f331:=Tryz.func241.trans (congrArg some (by kernel_rfl))
 f332:=Tryz.func242.trans (congrArg some (by kernel_rfl))
 f343:=Tryz.func275.trans (congrArg some (by kernel_rfl))
 t0:=Tryz.underlying0
 a0:=Tryz.isAgg0
 z0:=Tryz.sizeOf0
 v0:=Tryz.zeroValue0
 t3:=Tryz.underlying3
 a3:=Tryz.isAgg3
 z3:=Tryz.sizeOf3
 v3:=Tryz.zeroValue3
 t4:=Tryz.underlying4
 a4:=Tryz.isAgg4
 z4:=Tryz.sizeOf4
 v4:=Tryz.zeroValue4
 t5:=Tryz.underlying5
 a5:=Tryz.isAgg5
 z5:=Tryz.sizeOf5
 v5:=Tryz.zeroValue5
 t9:=Tryz.underlying9
 a9:=Tryz.isAgg9
 z9:=Tryz.sizeOf9
 v9:=Tryz.zeroValue9
 t28:=Tryz.underlying26
 a28:=Tryz.isAgg26
 z28:=Tryz.sizeOf26
 v28:=Tryz.zeroValue26
 t46:=Tryz.underlying160
 a46:=Tryz.isAgg160
 z46:=Tryz.sizeOf160
 v46:=Tryz.zeroValue160
 t51:=Tryz.underlying236
 a51:=Tryz.isAgg236
 z51:=Tryz.sizeOf236
 v51:=Tryz.zeroValue236
 t53:=Tryz.underlying165
 a53:=Tryz.isAgg165
 z53:=Tryz.sizeOf165
 v53:=Tryz.zeroValue165
 t131:=Tryz.underlying157
 a131:=Tryz.isAgg157
 z131:=Tryz.sizeOf157
 v131:=Tryz.zeroValue157
 t182:=Tryz.underlying229
 a182:=Tryz.isAgg229
 z182:=Tryz.sizeOf229
 v182:=Tryz.zeroValue229
 t183:=Tryz.underlying230
 a183:=Tryz.isAgg230
 z183:=Tryz.sizeOf230
 v183:=Tryz.zeroValue230
 t218:=Tryz.underlying275
 a218:=Tryz.isAgg275
 z218:=Tryz.sizeOf275
 v218:=Tryz.zeroValue275
 t222:=Tryz.underlying279
 a222:=Tryz.isAgg279
 z222:=Tryz.sizeOf279
 v222:=Tryz.zeroValue279
 t228:=Tryz.underlying307
 a228:=Tryz.isAgg307
 z228:=Tryz.sizeOf307
 v228:=Tryz.zeroValue307
 t229:=Tryz.underlying304
 a229:=Tryz.isAgg304
 z229:=Tryz.sizeOf304
 v229:=Tryz.zeroValue304
theorem js2:jjk Tryz.prog 69 none:=by
 refine⟨⟨Tryz.f69,_,Tryz.func69,rfl,by kernel_rfl⟩,λp cap w=>?_,λblk off cap n zs w hlen _ h1 h2 h3=>?_⟩
 ·exact Any.slices_Sort_int_none laysS p cap w
 ·obtain rfl:zs.length=n:=by simpa[jgl] using hlen
  have:=Any.slices_Sort_int laysS blk off cap zs w h1 h2 h3
  rwa [jmi]at this
end Go.Pv.T
namespace Go.Pv.T
open Go Go.Pv Go.Proofs Go.Shelf Go.Sort Go.Lib
def renF:Ren where
 f:=λx=>match x with
  | 6=>91
  | 14=>141
  | 15=>118
  | 20=>195
  | 21=>196
  | 22=>197
  | 23=>198
  | 24=>199
  | 25=>200
  | 26=>201
  | 27=>202
  | 28=>187
  | 29=>188
  | 46=>245
  | 47=>239
  | 48=>240
  | 49=>246
  | 50=>247
  | 57=>277
  | n=>n
 t:=λx=>match x with
  | 0=>0
  | 3=>3
  | 4=>4
  | 5=>5
  | 9=>9
  | 22=>58
  | 25=>130
  | 39=>160
  | 45=>229
  | 46=>230
  | 50=>157
  | 53=>236
  | 55=>165
  | 66=>275
  | 70=>279
  | 76=>307
  | 77=>304
  | 24=>70
  | n=>n
 g:=λx=>x
theorem laysF:SlLaysF0.n6 Tryz.prog renF where
 mixed:=by kernel_rfl
 f6:=⟨Tryz.f91.name,by kernel_rfl,Tryz.func91.trans (congrArg some (by kernel_rfl))⟩
 f14:=⟨Tryz.f141.name,by kernel_rfl,Tryz.func141.trans (congrArg some (by kernel_rfl))⟩
 f15:=Tryz.func118.trans (congrArg some (by kernel_rfl))
 f20:=⟨Tryz.f195.name,by kernel_rfl,Tryz.func195.trans (congrArg some (by kernel_rfl))⟩
 f21:=⟨Tryz.f196.name,by kernel_rfl,Tryz.func196.trans (congrArg some (by kernel_rfl))⟩
 f22:=⟨Tryz.f197.name,by kernel_rfl,Tryz.func197.trans (congrArg some (by kernel_rfl))⟩
 f23:=⟨Tryz.f198.name,by kernel_rfl,Tryz.func198.trans (congrArg some (by kernel_rfl))⟩
 f24:=⟨Tryz.f199.name,by kernel_rfl,Tryz.func199.trans (congrArg some (by kernel_rfl))⟩
 f25:=⟨Tryz.f200.name,by kernel_rfl,Tryz.func200.trans (congrArg some (by kernel_rfl))⟩
 f26:=⟨Tryz.f201.name,by kernel_rfl,Tryz.func201.trans (congrArg some (by kernel_rfl))⟩
 f27:=⟨Tryz.f202.name,by kernel_rfl,Tryz.func202.trans (congrArg some (by kernel_rfl))⟩
 f28:=Tryz.func187.trans (congrArg some (by kernel_rfl))
 f29:=Tryz.func188.trans (congrArg some (by kernel_rfl))
 f46:=⟨Tryz.f245.name,by kernel_rfl,Tryz.func245.trans (congrArg some (by kernel_rfl))⟩
 f47:=Tryz.func239.trans (congrArg some (by kernel_rfl))
 f48:=Tryz.func240.trans (congrArg some (by kernel_rfl))
 f49:=⟨Tryz.f246.name,by kernel_rfl,Tryz.func246.trans (congrArg some (by kernel_rfl))⟩
 f50:=⟨Tryz.f247.name,by kernel_rfl,Tryz.func247.trans (congrArg some (by kernel_rfl))⟩
 f57:=⟨Tryz.f277.name,by kernel_rfl,Tryz.func277.trans (congrArg some (by kernel_rfl))⟩
 t0:=Tryz.underlying0
 a0:=Tryz.isAgg0
 z0:=Tryz.sizeOf0
 v0:=Tryz.zeroValue0
 t3:=Tryz.underlying3
 a3:=Tryz.isAgg3
 z3:=Tryz.sizeOf3
 v3:=Tryz.zeroValue3
 t4:=Tryz.underlying4
 a4:=Tryz.isAgg4
 z4:=Tryz.sizeOf4
 v4:=Tryz.zeroValue4
 t5:=Tryz.underlying5
 a5:=Tryz.isAgg5
 z5:=Tryz.sizeOf5
 v5:=Tryz.zeroValue5
 t9:=Tryz.underlying9
 a9:=Tryz.isAgg9
 z9:=Tryz.sizeOf9
 v9:=Tryz.zeroValue9
 t22:=Tryz.underlying58
 a22:=Tryz.isAgg58
 z22:=Tryz.sizeOf58
 v22:=Tryz.zeroValue58
 t25:=Tryz.underlying130
 a25:=Tryz.isAgg130
 z25:=Tryz.sizeOf130
 v25:=Tryz.zeroValue130
 t39:=Tryz.underlying160
 a39:=Tryz.isAgg160
 z39:=Tryz.sizeOf160
 v39:=Tryz.zeroValue160
 t45:=Tryz.underlying229
 a45:=Tryz.isAgg229
 z45:=Tryz.sizeOf229
 v45:=Tryz.zeroValue229
 t46:=Tryz.underlying230
 a46:=Tryz.isAgg230
 z46:=Tryz.sizeOf230
 v46:=Tryz.zeroValue230
 t50:=Tryz.underlying157
 a50:=Tryz.isAgg157
 z50:=Tryz.sizeOf157
 v50:=Tryz.zeroValue157
 t53:=Tryz.underlying236
 a53:=Tryz.isAgg236
 z53:=Tryz.sizeOf236
 v53:=Tryz.zeroValue236
 t55:=Tryz.underlying165
 a55:=Tryz.isAgg165
 z55:=Tryz.sizeOf165
 v55:=Tryz.zeroValue165
 t66:=Tryz.underlying275
 a66:=Tryz.isAgg275
 z66:=Tryz.sizeOf275
 v66:=Tryz.zeroValue275
 t70:=Tryz.underlying279
 a70:=Tryz.isAgg279
 z70:=Tryz.sizeOf279
 v70:=Tryz.zeroValue279
 t76:=Tryz.underlying307
 a76:=Tryz.isAgg307
 z76:=Tryz.sizeOf307
 v76:=Tryz.zeroValue307
 t77:=Tryz.underlying304
 a77:=Tryz.isAgg304
 z77:=Tryz.sizeOf304
 v77:=Tryz.zeroValue304
abbrev SP:Type:={ p:P2 // YK p.1=true/\YK p.2=true }
instance:Inhabited SP:=⟨⟨(0,0),zQ⟩⟩
def j7g (x:SP):List Value:=[.int .i64 x.1.1,.int .i64 x.1.2]
def cfP (x y:SP):Int:=if x.1.1=y.1.1 then x.1.2 - y.1.2 else x.1.1 - y.1.1
theorem jdw {z:Int}(h:YK z=true):-1000000000000<=z/\z<=1000000000000:=by simpa[YK] using h
theorem j6j (x y:SP) (W:World):Calls Tryz.prog 92 #[.agg #[.int .i64 x.1.1,.int .i64 x.1.2],.agg #[.int .i64 y.1.1,.int .i64 y.1.2]] W λe w'=>e=.returned (.int .i64 (cfP x y))/\∃q os',w'=grow (W.drewN q) os':=by
 obtain⟨⟨a,b⟩,h1,h2⟩:=x
 obtain⟨⟨c,d⟩,h3,h4⟩:=y
 have:=jdw h1
 have:=jdw h2
 have:=jdw h3
 have:=jdw h4
 have w1:IntKind.i64.wrap (a - c)=a - c:=jX zO zO
 have w2:IntKind.i64.wrap (b - d)=b - d:=jX zO zO
 unfold cfP
 simp only
 by_cases h:a=c
 ·rw[if_pos h]
  have hb:(a != c)=false:=by simpa using h
  go_enter Tryz.func92,Tryz.ntmps92
  go_wp2
  go_ret
  exact⟨rfl,0,_,by rw[alloc_eq_grow,alloc_eq_grow,grow_grow];rfl⟩
 ·rw[if_neg h]
  have hb:(a != c)=true:=by simpa using h
  go_enter Tryz.func92,Tryz.ntmps92
  go_wp2
  go_ret
  exact⟨rfl,0,_,by rw[alloc_eq_grow,alloc_eq_grow,grow_grow];rfl⟩
theorem jo4 (x y:SP):ltOf cfP x y=true ↔ pLt x.1 y.1:=by
 unfold ltOf cfP pLt
 rw[decide_eq_true_eq]
 split <;> omega
theorem jbj (x y:SP):ltOf cfP x y=false ↔ ¬ pLt x.1 y.1:=by rw[<- jo4];simp
theorem swoP:SWO (ltOf cfP) where
 irrefl x:=(jbj x x).2 (XR _)
 trans x y z h1 h2:=(jo4 x z).2 (Y1 ((jo4 x y).1 h1) ((jo4 y z).1 h2))
 ntrans x y z h1 h2:=by
  rw[jbj]at *
  intro h
  rcases QB x.1 y.1 with h3|h3|h3
  ·exact h1 h3
  ·rw[h3]at h
   exact h2 h
  ·exact h2 (Y1 h3 h)
theorem totP (x y:SP) (h1:ltOf cfP x y=false) (h2:ltOf cfP y x=false):x=y:=by
 rw[jbj]at h1 h2
 rcases QB x.1 y.1 with h|h|h
 ·exact absurd h h1
 ·exact Subtype.ext h
 ·exact absurd h h2
theorem jmy {x y:P2}(h:QA x y=true) (h':QA y x=true):x=y:=by
 rw[pairLe_iff]at h h'
 rcases h with h|h
 ·rcases h' with h'|h'
  ·exact absurd (Y1 h h') (XR _)
  ·exact h'.symm
 ·exact h
theorem jj2:∀ {l m:List P2},l.Perm m->l.Pairwise (λa b=>QA a b=true)->m.Pairwise (λa b=>QA a b=true)->l=m
 | [],m,h,_,_=>(List.nil_perm.1 h).symm
 | x::r,m,h,hs,hm=>by
  cases m with
  | nil=>exact absurd h.length_eq zS
  | cons y q=>
   rw[bR]at hs hm
   have hx:x∈y::q:=h.mem_iff.1 zS
   have hy:y∈x::r:=h.mem_iff.2 zS
   have e:x=y:=by
    rcases br.1 hx with h1|h1
    ·exact h1
    ·rcases br.1 hy with h2|h2
     ·exact h2.symm
     ·exact jmy (hs.1 y h2) (hm.1 x h1)
   subst e
   rw[jj2 ((List.perm_cons x).1 h) hs.2 hm.2]
theorem jrf (l:List SP):(l.mergeSort λx y=>!(ltOf cfP) y x).map (·.1)=Qk (l.map (·.1)):=by
 refine jj2 (((List.mergeSort_perm l _).map _).trans (X8 _).symm) ?_ (jig _)
 rw[List.pairwise_map]
 refine(gQ (λa b c h1 h2=>?_) (λa b=>?_) l).imp fun {a b} h=>?_
 ·simp only[bJ]at *
  exact swoP.ntrans c b a h2 h1
 ·simp only[bA,bJ,jbj]
  rcases QB a.1 b.1 with h|h|h
  ·exact .inl λh'=>XR _ (Y1 h h')
  ·rw[h];exact .inl (XR _)
  ·exact .inr λh'=>XR _ (Y1 h h')
 ·simp only[bJ,jbj]at h
  rw[pairLe_iff]
  rcases QB a.1 b.1 with h1|h1|h1
  ·exact .inl h1
  ·exact .inr h1
  ·exact absurd h1 h
theorem jhy:∀ {n:Nat}{zs:List Int},zs.length=n*2->W5 (pairsI zs)=zs/\(pairsI zs).length=n
 | 0,zs,h=>by
  have:zs=[]:=dI.1 zO
  subst this
  exact⟨rfl,rfl⟩
 | n+1,[],h=>by simp at h
 | n+1,[_],h=>by simp at h;omega
 | n+1,a::b::r,h=>by
  obtain⟨h1,h2⟩:=jhy (n:=n) (zs:=r) (by simp at h;omega)
  exact⟨by simp only[pairsI,W5,h1],by simp only[pairsI,bo,h2]⟩
theorem jer:∀ {zs:List Int},zs.all YK=true->∀z∈pairsI zs,YK z.1=true/\YK z.2=true
 | [],_,z,hz=>by simp[pairsI]at hz
 | [_],_,z,hz=>by simp[pairsI]at hz
 | a::b::r,h,z,hz=>by
  simp only[cQ,ai]at h
  rcases br.1 hz with rfl|hz
  ·exact⟨h.1,h.2.1⟩
  ·exact jer h.2.2 z hz
theorem jwc:∀L:List P2,(W5 L).length=L.length*2
 | []=>rfl
 | _::L=>by simp only[W5,bo,jwc L];omega
theorem j2h:∀ (L:List SP) (t:Nat),t<L.length*2->(j7g L[t / 2]!)[t % 2]! = .int .i64 (W5 (L.map (·.1)))[t]!
 | [],t,h=>by simp at h
 | x::L,0,_=>rfl
 | x::L,1,_=>rfl
 | x::L,t+2,h=>by
  have ih:=j2h L t (by simp at h;omega)
  have e1:(t+2) / 2=t / 2+1:=zO
  have e2:(t+2) % 2=t % 2:=zO
  rw[e1,e2]
  simpa[W5] using ih
theorem jf1 (L:List SP):flatK j7g 2 L.toArray=((W5 (L.map (·.1))).map (Value.int .i64)).toArray:=by
 apply gz
 ·simp[jwc]
 ·intro t h1 h2
  have ht:t<L.length*2:=by simpa using h1
  have:=j2h L t ht
  have h3:=get_flatK j7g 2 L.toArray t (by simpa using ht)
  rw[getElem!_pos _ t h1]at h3
  rw[h3]
  have e:L.toArray[t / 2]! = L[t / 2]!:=zS
  rw[e,this,getElem!_pos _ t (by rw[jwc];simpa using ht)]
  simp
theorem jkj (off:Nat) (L:List Int) (c:Array Value):putCells id off (L.map (Value.int .i64)).toArray c=putCells (Value.int .i64) off L.toArray c:=by
 unfold putCells
 congr 1
 funext k x
 simp only[cW,bC]
 split
 ·rename_i h
  rw[getElem!_pos _ _ (by simp;omega),getElem!_pos _ _ (by simp;omega)]
  simp
 ·rfl
theorem jog:jjk Tryz.prog 91 (some 92):=by
 refine⟨⟨Tryz.f91,_,Tryz.func91,rfl,by kernel_rfl⟩,λp cap w=>?_,λblk off cap n zs w hlen hmay hH hblk hn=>?_⟩
 ·exact AnyF.slices_SortFunc_none laysF p cap _ w
 ·obtain⟨h1,h2⟩:=jhy (n:=n) (zs:=zs) hlen
  have hsm:=jer hmay
  obtain⟨L,hL⟩:∃L:List SP,L.map (·.1)=pairsI zs:=⟨(pairsI zs).pmap (λp h=>⟨p,h⟩) hsm,by rw[List.map_pmap];simp⟩
  have hLl:L.length=n:=by rw[<- h2,<- hL,bC]
  have eg:∀args w,(callFunc 92 args).run Tryz.prog w=.ok (.enter 92 args) w:=enters_of Tryz.func92 (by kernel_rfl) rfl
  have hz:zs=W5 (L.map (·.1)):=by rw[hL,h1]
  have hHK:HoldsK j7g 2 w blk off L.toArray:=by
   unfold HoldsK
   rw[jf1,<- hz]
   intro j hj
   have hj':j<zs.length:=by simpa using hj
   have:=hH j (by simpa using hj')
   rw[getElem!_pos _ _ (by simpa using hj')]at this ⊢
   simpa using this
  have key:=AnyQ.slices_SortFunc_total laysF 2 Tryz.isAgg70 Tryz.sizeOf70 j7g (λ_=>rfl) (λx v hv=>by simp[j7g]at hv;rcases hv with rfl|rfl <;> rfl) cfP swoP 92 #[] blk off cap L.toArray w eg
   (λ_ _ _ _ x y=>j6j x y _) hHK hblk (by simpa[hLl] using hn) totP
  rw[show L.toArray.size=n by simpa using hLl]at key
  refine key.mono ?_
  rintro e w' ⟨rfl,m,os,rfl⟩
  refine⟨rfl,m,os,?_⟩
  unfold sortWorldK putRowK
  rw[jf1,jrf,show L.toArray.toList.map (·.1)=pairsI zs from hL]
  unfold putRow
  congr 1
  congr 1
  funext c
  exact jkj off _ c
end Go.Pv.T
namespace Go.Pv.T
open Go Go.Pv Go.Proofs
theorem j4j (p:Option Addr) (cap:Nat) (w:World):Calls Tryz.prog 78 #[.slice p 0 cap] w λe a=>e=.returned (.pointer (some ⟨w.heap.size,0,none⟩))/\∃t,a=w.alloc (.cells #[.int .u64 0,.int .u64 0,.int .u64 0,.int .u64 0,.int .u64 0,.int .u64 0,.int .u64 0,.int .u64 0] t):=by
 go_enter Tryz.func78,Tryz.ntmps78
 go_wp2
 refine wp_loop_rounds 1 ?_
 rw[rounds_succ]
 go_wp2
 go_ret
 exact⟨rfl,_,rfl⟩
theorem mkLaw:j62 Tryz.prog 78 j79:=by
 refine⟨⟨_,_,Tryz.func78,rfl,by kernel_rfl⟩,λp b w=>(j4j p b w).mono ?_⟩
 rintro e d ⟨rfl,t,rfl⟩
 refine⟨rfl,_,t,rfl,rfl,λj x v c a=>?_⟩
 match j with
 | 0|1|2|3|4|5|6|7=>
  simp[j79]at c a
  subst c a
  exact⟨rfl,λI=>.int _ _⟩
 | j+8=>simp[j79]at a
abbrev Jzz:=jK Tryz.prog false
theorem j1 {P:Program} {r:Bool} {f:FuncId} {fn:Func} {af:AF} (h1:P.funcs[f]? = some fn) (m:Bool:=false) (h2:j6b P m r fn=some af:=by kernel_rfl) (h3:(fn.name == "runtime.NumGoroutine")=false:=by kernel_rfl) (h4:af.body.dstOk fn.ntmps=true:=by kernel_rfl):jK P r f af:=by
 unfold j6b at h2
 cases hb:fn.body with
 | none=>rw[hb]at h2;cases h2
 | some c=>
  rw[hb,am]at h2
  cases hc:comp P m r c with
  | none=>rw[hc]at h2;cases h2
  | some b=>
   rw[hc,am]at h2
   cases hr:fn.results.toList.mapM (Yl P) with
   | none=>rw[hr]at h2;cases h2
   | some res=>
    rw[hr]at h2
    cases h2
    exact⟨m,fn,c,h1,hb,hc,hr,h3,h4⟩
theorem okc236:Jzz 236 F236:=j1 Tryz.func236
theorem okc248:Jzz 248 F248:=j1 Tryz.func248
theorem okc249:Jzz 249 F249:=j1 Tryz.func249
theorem okc250:Jzz 250 F250:=j1 Tryz.func250
theorem okc251:Jzz 251 F251:=j1 Tryz.func251
theorem okc252:Jzz 252 F252:=j1 Tryz.func252
theorem okc253:Jzz 253 F253:=j1 Tryz.func253
theorem okc254:Jzz 254 F254:=j1 Tryz.func254
theorem okc258:Jzz 258 F258:=j1 Tryz.func258
theorem okc259:Jzz 259 F259:=j1 Tryz.func259
theorem okc261:Jzz 261 F261:=j1 Tryz.func261
theorem okc262:Jzz 262 F262:=j1 Tryz.func262
theorem okc263:Jzz 263 F263:=j1 Tryz.func263
theorem okc264:Jzz 264 F264:=j1 Tryz.func264
theorem okc265:Jzz 265 F265:=j1 Tryz.func265
theorem okc266:Jzz 266 F266:=j1 Tryz.func266
theorem okc267:Jzz 267 F267:=j1 Tryz.func267
theorem okc268:Jzz 268 F268:=j1 Tryz.func268
theorem okc269:Jzz 269 F269:=j1 Tryz.func269
theorem okc273:Jzz 273 F273:=j1 Tryz.func273
theorem okc278:Jzz 278 F278:=j1 Tryz.func278
theorem okc279:Jzz 279 F279:=j1 Tryz.func279
theorem okc280:Jzz 280 F280:=j1 Tryz.func280
theorem okc281:Jzz 281 F281:=j1 Tryz.func281
theorem okc284:Jzz 284 F284:=j1 Tryz.func284
theorem okc285:Jzz 285 F285:=j1 Tryz.func285
theorem okc286:Jzz 286 F286:=j1 Tryz.func286
theorem okc287:Jzz 287 F287:=j1 Tryz.func287
theorem okc288:Jzz 288 F288:=j1 Tryz.func288
theorem okc289:Jzz 289 F289:=j1 Tryz.func289
theorem okc290:Jzz 290 F290:=j1 Tryz.func290
theorem okc293:Jzz 293 F293:=j1 Tryz.func293
theorem okc300:Jzz 300 F300:=j1 Tryz.func300
theorem okc301:Jzz 301 F301:=j1 Tryz.func301
theorem okc302:Jzz 302 F302:=j1 Tryz.func302
theorem okc304:Jzz 304 F304:=j1 Tryz.func304
theorem okc307:Jzz 307 F307:=j1 Tryz.func307
theorem okc311:Jzz 311 F311:=j1 Tryz.func311
theorem okc320:Jzz 320 F320:=j1 Tryz.func320
theorem okc127:Jzz 127 F127:=j1 Tryz.func127
theorem okc128:Jzz 128 F128:=j1 Tryz.func128
theorem okc130:Jzz 130 F130:=j1 Tryz.func130
theorem okc136:Jzz 136 F136:=j1 Tryz.func136
theorem okc145:Jzz 145 F145:=j1 Tryz.func145
theorem okc146:Jzz 146 F146:=j1 Tryz.func146
theorem okc147:Jzz 147 F147:=j1 Tryz.func147
theorem okc148:Jzz 148 F148:=j1 Tryz.func148
theorem okc149:Jzz 149 F149:=j1 Tryz.func149
theorem okc151:Jzz 151 F151:=j1 Tryz.func151
theorem okc152:Jzz 152 F152:=j1 Tryz.func152
theorem okc155:Jzz 155 F155:=j1 Tryz.func155
theorem okc157:Jzz 157 F157:=j1 Tryz.func157
theorem okc158:Jzz 158 F158:=j1 Tryz.func158
theorem okc159:Jzz 159 F159:=j1 Tryz.func159
theorem okc160:Jzz 160 F160:=j1 Tryz.func160
theorem okc161:Jzz 161 F161:=j1 Tryz.func161
theorem okc166:Jzz 166 F166:=j1 Tryz.func166
theorem okc167:Jzz 167 F167:=j1 Tryz.func167
theorem okc170:Jzz 170 F170:=j1 Tryz.func170
theorem okc172:Jzz 172 F172:=j1 Tryz.func172
theorem okc173:Jzz 173 F173:=j1 Tryz.func173
theorem okc174:Jzz 174 F174:=j1 Tryz.func174
theorem okc175:Jzz 175 F175:=j1 Tryz.func175
theorem okc176:Jzz 176 F176:=j1 Tryz.func176
theorem okc177:Jzz 177 F177:=j1 Tryz.func177
theorem okc188:Jzz 188 F188:=j1 Tryz.func188
theorem okc189:Jzz 189 F189:=j1 Tryz.func189
theorem okc190:Jzz 190 F190:=j1 Tryz.func190
theorem okc194:Jzz 194 F194:=j1 Tryz.func194
theorem okc206:Jzz 206 F206:=j1 Tryz.func206
theorem okc208:Jzz 208 F208:=j1 Tryz.func208
theorem okc209:Jzz 209 F209:=j1 Tryz.func209
theorem okc210:Jzz 210 F210:=j1 Tryz.func210
theorem okc211:Jzz 211 F211:=j1 Tryz.func211
theorem okc212:Jzz 212 F212:=j1 Tryz.func212
theorem okc214:Jzz 214 F214:=j1 Tryz.func214
theorem okc216:Jzz 216 F216:=j1 Tryz.func216
theorem okc217:Jzz 217 F217:=j1 (m:=true) Tryz.func217
theorem okc223:Jzz 223 F223:=j1 Tryz.func223
theorem okc224:Jzz 224 F224:=j1 Tryz.func224
theorem okc225:Jzz 225 F225:=j1 Tryz.func225
theorem okc226:Jzz 226 F226:=j1 Tryz.func226
theorem okc227:Jzz 227 F227:=j1 Tryz.func227
theorem okc228:Jzz 228 F228:=j1 Tryz.func228
theorem okc229:Jzz 229 F229:=j1 Tryz.func229
theorem okc230:Jzz 230 F230:=j1 Tryz.func230
theorem okc233:Jzz 233 F233:=j1 Tryz.func233
theorem okc234:Jzz 234 F234:=j1 Tryz.func234
theorem okc235:Jzz 235 F235:=j1 Tryz.func235
theorem okc13:Jzz 13 F13:=j1 Tryz.func13
theorem okc15:Jzz 15 F15:=j1 (m:=true) Tryz.func15
theorem okc21:Jzz 21 F21:=j1 Tryz.func21
theorem okc22:Jzz 22 F22:=j1 Tryz.func22
theorem okc25:Jzz 25 F25:=j1 Tryz.func25
theorem okc31:Jzz 31 F31:=j1 Tryz.func31
theorem okc32:Jzz 32 F32:=j1 Tryz.func32
theorem okc33:Jzz 33 F33:=j1 Tryz.func33
theorem okc39:Jzz 39 F39:=j1 Tryz.func39
theorem okc42:Jzz 42 F42:=j1 (m:=true) Tryz.func42
theorem okc43:Jzz 43 F43:=j1 Tryz.func43
theorem okc44:Jzz 44 F44:=j1 Tryz.func44
theorem okc46:Jzz 46 F46:=j1 (m:=true) Tryz.func46
theorem okc47:Jzz 47 F47:=j1 (m:=true) Tryz.func47
theorem okc48:Jzz 48 F48:=j1 (m:=true) Tryz.func48
theorem okc49:Jzz 49 F49:=j1 Tryz.func49
theorem okc50:Jzz 50 F50:=j1 Tryz.func50
theorem okc52:Jzz 52 F52:=j1 Tryz.func52
theorem okc53:Jzz 53 F53:=j1 Tryz.func53
theorem okc57:Jzz 57 F57:=j1 Tryz.func57
theorem okc58:Jzz 58 F58:=j1 (m:=true) Tryz.func58
theorem okc59:Jzz 59 F59:=j1 Tryz.func59
theorem okc60:Jzz 60 F60:=j1 Tryz.func60
theorem okc61:Jzz 61 F61:=j1 Tryz.func61
theorem okc62:Jzz 62 F62:=j1 Tryz.func62
theorem okc63:Jzz 63 F63:=j1 Tryz.func63
theorem okc64:Jzz 64 F64:=j1 Tryz.func64
theorem okc71:Jzz 71 F71:=j1 Tryz.func71
theorem okc74:Jzz 74 F74:=j1 Tryz.func74
theorem okc75:Jzz 75 F75:=j1 Tryz.func75
theorem okc84:Jzz 84 F84:=j1 Tryz.func84
theorem okc86:Jzz 86 F86:=j1 Tryz.func86
theorem okc94:Jzz 94 F94:=j1 Tryz.func94
theorem okc100:Jzz 100 F100:=j1 (m:=true) Tryz.func100
theorem okc101:Jzz 101 F101:=j1 Tryz.func101
theorem okc102:Jzz 102 F102:=j1 Tryz.func102
theorem okc103:Jzz 103 F103:=j1 Tryz.func103
theorem okc104:Jzz 104 F104:=j1 Tryz.func104
theorem okc105:Jzz 105 F105:=j1 Tryz.func105
theorem okc106:Jzz 106 F106:=j1 (m:=true) Tryz.func106
theorem okc108:Jzz 108 F108:=j1 Tryz.func108
theorem okc109:Jzz 109 F109:=j1 (m:=true) Tryz.func109
theorem okc110:Jzz 110 F110:=j1 Tryz.func110
theorem okc112:Jzz 112 F112:=j1 Tryz.func112
theorem okc116:Jzz 116 F116:=j1 Tryz.func116
theorem okc118:Jzz 118 F118:=j1 Tryz.func118
theorem okc120:Jzz 120 F120:=j1 Tryz.func120
theorem okc121:Jzz 121 F121:=j1 Tryz.func121
theorem okc122:Jzz 122 F122:=j1 Tryz.func122
theorem okc124:Jzz 124 F124:=j1 Tryz.func124
theorem fc_2Ok {f:FuncId}{af:AF}(h:fc_2 f=some af):Jzz f af:=by
 unfold fc_2 at h
 split at h
 ·cases h;exact okc236
 ·cases h;exact okc248
 ·cases h;exact okc249
 ·cases h;exact okc250
 ·cases h;exact okc251
 ·cases h;exact okc252
 ·cases h;exact okc253
 ·cases h;exact okc254
 ·cases h;exact okc258
 ·cases h;exact okc259
 ·cases h;exact okc261
 ·cases h;exact okc262
 ·cases h;exact okc263
 ·cases h;exact okc264
 ·cases h;exact okc265
 ·cases h;exact okc266
 ·cases h;exact okc267
 ·cases h;exact okc268
 ·cases h;exact okc269
 ·cases h;exact okc273
 ·cases h;exact okc278
 ·cases h;exact okc279
 ·cases h;exact okc280
 ·cases h;exact okc281
 ·cases h;exact okc284
 ·cases h;exact okc285
 ·cases h;exact okc286
 ·cases h;exact okc287
 ·cases h;exact okc288
 ·cases h;exact okc289
 ·cases h;exact okc290
 ·cases h;exact okc293
 ·cases h;exact okc300
 ·cases h;exact okc301
 ·cases h;exact okc302
 ·cases h;exact okc304
 ·cases h;exact okc307
 ·cases h;exact okc311
 ·cases h;exact okc320
 ·cases h
theorem fc_1Ok {f:FuncId}{af:AF}(h:fc_1 f=some af):Jzz f af:=by
 unfold fc_1 at h
 split at h
 ·cases h;exact okc127
 ·cases h;exact okc128
 ·cases h;exact okc130
 ·cases h;exact okc136
 ·cases h;exact okc145
 ·cases h;exact okc146
 ·cases h;exact okc147
 ·cases h;exact okc148
 ·cases h;exact okc149
 ·cases h;exact okc151
 ·cases h;exact okc152
 ·cases h;exact okc155
 ·cases h;exact okc157
 ·cases h;exact okc158
 ·cases h;exact okc159
 ·cases h;exact okc160
 ·cases h;exact okc161
 ·cases h;exact okc166
 ·cases h;exact okc167
 ·cases h;exact okc170
 ·cases h;exact okc172
 ·cases h;exact okc173
 ·cases h;exact okc174
 ·cases h;exact okc175
 ·cases h;exact okc176
 ·cases h;exact okc177
 ·cases h;exact okc188
 ·cases h;exact okc189
 ·cases h;exact okc190
 ·cases h;exact okc194
 ·cases h;exact okc206
 ·cases h;exact okc208
 ·cases h;exact okc209
 ·cases h;exact okc210
 ·cases h;exact okc211
 ·cases h;exact okc212
 ·cases h;exact okc214
 ·cases h;exact okc216
 ·cases h;exact okc217
 ·cases h;exact okc223
 ·cases h;exact okc224
 ·cases h;exact okc225
 ·cases h;exact okc226
 ·cases h;exact okc227
 ·cases h;exact okc228
 ·cases h;exact okc229
 ·cases h;exact okc230
 ·cases h;exact okc233
 ·cases h;exact okc234
 ·cases h;exact okc235
 ·exact fc_2Ok h
theorem fcOk {f:FuncId}{af:AF}(h:fc f=some af):Jzz f af:=by
 unfold fc at h
 split at h
 ·cases h;exact okc13
 ·cases h;exact okc15
 ·cases h;exact okc21
 ·cases h;exact okc22
 ·cases h;exact okc25
 ·cases h;exact okc31
 ·cases h;exact okc32
 ·cases h;exact okc33
 ·cases h;exact okc39
 ·cases h;exact okc42
 ·cases h;exact okc43
 ·cases h;exact okc44
 ·cases h;exact okc46
 ·cases h;exact okc47
 ·cases h;exact okc48
 ·cases h;exact okc49
 ·cases h;exact okc50
 ·cases h;exact okc52
 ·cases h;exact okc53
 ·cases h;exact okc57
 ·cases h;exact okc58
 ·cases h;exact okc59
 ·cases h;exact okc60
 ·cases h;exact okc61
 ·cases h;exact okc62
 ·cases h;exact okc63
 ·cases h;exact okc64
 ·cases h;exact okc71
 ·cases h;exact okc74
 ·cases h;exact okc75
 ·cases h;exact okc84
 ·cases h;exact okc86
 ·cases h;exact okc94
 ·cases h;exact okc100
 ·cases h;exact okc101
 ·cases h;exact okc102
 ·cases h;exact okc103
 ·cases h;exact okc104
 ·cases h;exact okc105
 ·cases h;exact okc106
 ·cases h;exact okc108
 ·cases h;exact okc109
 ·cases h;exact okc110
 ·cases h;exact okc112
 ·cases h;exact okc116
 ·cases h;exact okc118
 ·cases h;exact okc120
 ·cases h;exact okc121
 ·cases h;exact okc122
 ·cases h;exact okc124
 ·exact fc_1Ok h
theorem j88:jK Tryz.prog true 215 S215:=j1 (m:=true) Tryz.func215
theorem j87:jK Tryz.prog true 231 S231:=j1 (m:=true) Tryz.func231
theorem j86:jK Tryz.prog true 232 S232:=j1 (m:=true) Tryz.func232
theorem j85:jK Tryz.prog true 237 S237:=j1 (m:=true) Tryz.func237
theorem j84:jK Tryz.prog true 244 S244:=j1 (m:=true) Tryz.func244
theorem j83:jK Tryz.prog true 248 S248:=j1 (m:=true) Tryz.func248
theorem j82:jK Tryz.prog true 249 S249:=j1 (m:=true) Tryz.func249
theorem j81:jK Tryz.prog true 255 S255:=j1 (m:=true) Tryz.func255
theorem j80:jK Tryz.prog true 270 S270:=j1 (m:=true) Tryz.func270
theorem j8z:jK Tryz.prog true 271 S271:=j1 (m:=true) Tryz.func271
theorem j8y:jK Tryz.prog true 272 S272:=j1 (m:=true) Tryz.func272
theorem j8x:jK Tryz.prog true 274 S274:=j1 (m:=true) Tryz.func274
theorem j8w:jK Tryz.prog true 276 S276:=j1 (m:=true) Tryz.func276
theorem j8v:jK Tryz.prog true 291 S291:=j1 (m:=true) Tryz.func291
theorem j8u:jK Tryz.prog true 292 S292:=j1 (m:=true) Tryz.func292
theorem j8t:jK Tryz.prog true 294 S294:=j1 (m:=true) Tryz.func294
theorem j8s:jK Tryz.prog true 295 S295:=j1 (m:=true) Tryz.func295
theorem j8r:jK Tryz.prog true 296 S296:=j1 (m:=true) Tryz.func296
theorem j8q:jK Tryz.prog true 303 S303:=j1 (m:=true) Tryz.func303
theorem j8p:jK Tryz.prog true 305 S305:=j1 (m:=true) Tryz.func305
theorem j8o:jK Tryz.prog true 312 S312:=j1 (m:=true) Tryz.func312
theorem oks51:jK Tryz.prog true 51 S51:=j1 (m:=true) Tryz.func51
theorem oks78:jK Tryz.prog true 78 S78:=j1 (m:=true) Tryz.func78
theorem oks81:jK Tryz.prog true 81 S81:=j1 (m:=true) Tryz.func81
theorem oks87:jK Tryz.prog true 87 S87:=j1 (m:=true) Tryz.func87
theorem oks88:jK Tryz.prog true 88 S88:=j1 (m:=true) Tryz.func88
theorem oks89:jK Tryz.prog true 89 S89:=j1 (m:=true) Tryz.func89
theorem oks90:jK Tryz.prog true 90 S90:=j1 (m:=true) Tryz.func90
theorem oks93:jK Tryz.prog true 93 S93:=j1 (m:=true) Tryz.func93
theorem oks95:jK Tryz.prog true 95 S95:=j1 (m:=true) Tryz.func95
theorem oks96:jK Tryz.prog true 96 S96:=j1 (m:=true) Tryz.func96
theorem oks97:jK Tryz.prog true 97 S97:=j1 (m:=true) Tryz.func97
theorem oks98:jK Tryz.prog true 98 S98:=j1 (m:=true) Tryz.func98
theorem oks99:jK Tryz.prog true 99 S99:=j1 (m:=true) Tryz.func99
theorem j99:jK Tryz.prog true 111 S111:=j1 (m:=true) Tryz.func111
theorem j98:jK Tryz.prog true 124 S124:=j1 (m:=true) Tryz.func124
theorem j97:jK Tryz.prog true 127 S127:=j1 (m:=true) Tryz.func127
theorem j96:jK Tryz.prog true 128 S128:=j1 (m:=true) Tryz.func128
theorem j95:jK Tryz.prog true 130 S130:=j1 (m:=true) Tryz.func130
theorem j94:jK Tryz.prog true 137 S137:=j1 (m:=true) Tryz.func137
theorem j93:jK Tryz.prog true 138 S138:=j1 (m:=true) Tryz.func138
theorem j92:jK Tryz.prog true 139 S139:=j1 (m:=true) Tryz.func139
theorem j91:jK Tryz.prog true 140 S140:=j1 (m:=true) Tryz.func140
theorem j90:jK Tryz.prog true 142 S142:=j1 (m:=true) Tryz.func142
theorem j9z:jK Tryz.prog true 143 S143:=j1 (m:=true) Tryz.func143
theorem j9y:jK Tryz.prog true 144 S144:=j1 (m:=true) Tryz.func144
theorem j9x:jK Tryz.prog true 145 S145:=j1 (m:=true) Tryz.func145
theorem j9w:jK Tryz.prog true 146 S146:=j1 (m:=true) Tryz.func146
theorem j9v:jK Tryz.prog true 147 S147:=j1 (m:=true) Tryz.func147
theorem j9u:jK Tryz.prog true 148 S148:=j1 (m:=true) Tryz.func148
theorem j9t:jK Tryz.prog true 149 S149:=j1 (m:=true) Tryz.func149
theorem j9s:jK Tryz.prog true 150 S150:=j1 (m:=true) Tryz.func150
theorem j9r:jK Tryz.prog true 153 S153:=j1 (m:=true) Tryz.func153
theorem j9q:jK Tryz.prog true 154 S154:=j1 (m:=true) Tryz.func154
theorem j9p:jK Tryz.prog true 156 S156:=j1 (m:=true) Tryz.func156
theorem j9o:jK Tryz.prog true 168 S168:=j1 (m:=true) Tryz.func168
theorem j9n:jK Tryz.prog true 169 S169:=j1 (m:=true) Tryz.func169
theorem j9m:jK Tryz.prog true 171 S171:=j1 (m:=true) Tryz.func171
theorem j9l:jK Tryz.prog true 189 S189:=j1 (m:=true) Tryz.func189
theorem j9k:jK Tryz.prog true 192 S192:=j1 (m:=true) Tryz.func192
theorem j9j:jK Tryz.prog true 193 S193:=j1 (m:=true) Tryz.func193
theorem j9i:jK Tryz.prog true 194 S194:=j1 (m:=true) Tryz.func194
theorem j9h:jK Tryz.prog true 203 S203:=j1 (m:=true) Tryz.func203
theorem j9g:jK Tryz.prog true 204 S204:=j1 (m:=true) Tryz.func204
theorem j9f:jK Tryz.prog true 205 S205:=j1 (m:=true) Tryz.func205
theorem j9e:jK Tryz.prog true 206 S206:=j1 (m:=true) Tryz.func206
theorem j9d:jK Tryz.prog true 207 S207:=j1 (m:=true) Tryz.func207
theorem j9c:jK Tryz.prog true 208 S208:=j1 (m:=true) Tryz.func208
theorem j9b:jK Tryz.prog true 209 S209:=j1 (m:=true) Tryz.func209
theorem j9a:jK Tryz.prog true 210 S210:=j1 (m:=true) Tryz.func210
theorem j89:jK Tryz.prog true 213 S213:=j1 (m:=true) Tryz.func213
theorem fs_1Ok {f:FuncId}{af:AF}(h:fs_1 f=some af):jK Tryz.prog true f af:=by
 unfold fs_1 at h
 split at h
 ·cases h;exact j88
 ·cases h;exact j87
 ·cases h;exact j86
 ·cases h;exact j85
 ·cases h;exact j84
 ·cases h;exact j83
 ·cases h;exact j82
 ·cases h;exact j81
 ·cases h;exact j80
 ·cases h;exact j8z
 ·cases h;exact j8y
 ·cases h;exact j8x
 ·cases h;exact j8w
 ·cases h;exact j8v
 ·cases h;exact j8u
 ·cases h;exact j8t
 ·cases h;exact j8s
 ·cases h;exact j8r
 ·cases h;exact j8q
 ·cases h;exact j8p
 ·cases h;exact j8o
 ·cases h
theorem fsOk {f:FuncId}{af:AF}(h:fs f=some af):jK Tryz.prog true f af:=by
 unfold fs at h
 split at h
 ·cases h;exact oks51
 ·cases h;exact oks78
 ·cases h;exact oks81
 ·cases h;exact oks87
 ·cases h;exact oks88
 ·cases h;exact oks89
 ·cases h;exact oks90
 ·cases h;exact oks93
 ·cases h;exact oks95
 ·cases h;exact oks96
 ·cases h;exact oks97
 ·cases h;exact oks98
 ·cases h;exact oks99
 ·cases h;exact j99
 ·cases h;exact j98
 ·cases h;exact j97
 ·cases h;exact j96
 ·cases h;exact j95
 ·cases h;exact j94
 ·cases h;exact j93
 ·cases h;exact j92
 ·cases h;exact j91
 ·cases h;exact j90
 ·cases h;exact j9z
 ·cases h;exact j9y
 ·cases h;exact j9x
 ·cases h;exact j9w
 ·cases h;exact j9v
 ·cases h;exact j9u
 ·cases h;exact j9t
 ·cases h;exact j9s
 ·cases h;exact j9r
 ·cases h;exact j9q
 ·cases h;exact j9p
 ·cases h;exact j9o
 ·cases h;exact j9n
 ·cases h;exact j9m
 ·cases h;exact j9l
 ·cases h;exact j9k
 ·cases h;exact j9j
 ·cases h;exact j9i
 ·cases h;exact j9h
 ·cases h;exact j9g
 ·cases h;exact j9f
 ·cases h;exact j9e
 ·cases h;exact j9d
 ·cases h;exact j9c
 ·cases h;exact j9b
 ·cases h;exact j9a
 ·cases h;exact j89
 ·exact fs_1Ok h
theorem envOk:EnvOk Tryz.prog E:=⟨λ_ _ h=>fcOk h,λ_ _ h=>fsOk h,(λf m h=>by
 simp only[E]at h
 split at h
 ·cases h;exact js2
 ·cases h;exact jog
 ·cases h),(λf cs h=>by
 simp only[E]at h
 split at h
 ·cases h;exact mkLaw
 ·cases h)⟩
end Go.Pv.T
namespace Go.Pv.T
open Go Go.Pv Go.Proofs Go.ChangeShapes Go.WideShapes Go.ChangeAt Go.RowKit Go.Proofs.YtphecmnehkdihaaGreatDoor
theorem own:ownKnob Tryz.prog.godebug=none:=by kernel_rfl
theorem ju6:laidOutB Tryz.prog=true:=by kernel_rfl
theorem mixed:Tryz.prog.follows .mixedOrders=true:=by kernel_rfl
def jrh:List (String × DataW Unit):=[("math/bits.deBruijn64tab",Rows.laid_math_bits_deBruijn64tab),("unicode/utf8.acceptRanges",Rows.laid_unicode_utf8_acceptRanges),("deemster/event.words",Rows.laid_deemster_event_words),("unicode/utf8.first",Rows.laid_unicode_utf8_first)]
def ju4:V->Value
 | .int k n=>.int k n
 | .str s=>.string ⟨s.toArray⟩
 | _=>.nilFunc
def putCells (h:Array Obj) (g:Nat) (cs:Array Value):Array Obj:=h.modify g fun
 | .cells _ t frozen=>.cells cs t frozen
 | o=>o
def jn0:Array Value:=#[.int .u8 128,.int .u8 191,.int .u8 160,.int .u8 191,.int .u8 128,.int .u8 159,.int .u8 144,.int .u8 191,.int .u8 128,.int .u8 143,.int .u8 0,.int .u8 0,.int .u8 0,.int .u8 0,.int .u8 0,.int .u8 0,.int .u8 0,.int .u8 0,.int .u8 0,.int .u8 0,.int .u8 0,.int .u8 0,.int .u8 0,.int .u8 0,.int .u8 0,.int .u8 0,.int .u8 0,.int .u8 0,.int .u8 0,.int .u8 0,.int .u8 0,.int .u8 0]
noncomputable def laidWorld (os:Os):World :=
 let w0:=World.holding Tryz.prog os ⟨#[],#[],[]⟩
 { w0 with heap:=putCells (putCells (putCells (putCells w0.heap 0 (bruij.map ju4).toArray) 1 (words.map ju4).toArray) 2 (utf8first.map ju4).toArray) 3 jn0 }
theorem j04 (os:Os) (args:Array Value):laidMetH Tryz.prog jrh ((laidWorld os).forCall (λ_ _=>0) ⟨#[],args,[]⟩).memory:=by
 rw[MakeChecks.laidMetH_plain _ _ _ (by kernel_rfl)]
 exact laidMet_of_run' 8 (by kernel_rfl) (by kernel_rfl)
theorem gWords:Tryz.prog.globalNamed "deemster/event.words" = some 1:=by kernel_rfl
theorem gFirst:Tryz.prog.globalNamed "unicode/utf8.first" = some 2:=by kernel_rfl
theorem gBruij:Tryz.prog.globalNamed "math/bits.deBruijn64tab" = some 0:=by kernel_rfl
theorem tBruij:(Tryz.prog.globals[0]?).map (·.type)=some 281:=by kernel_rfl
theorem tWords:(Tryz.prog.globals[1]?).map (·.type)=some 300:=by kernel_rfl
theorem tFirst:(Tryz.prog.globals[2]?).map (·.type)=some 319:=by kernel_rfl
def Y9 (W:World):IMap:=λb o=>W.cell? ⟨b,o,none⟩
theorem jws (W:World):jl7 (Y9 W) W:=λ_ _ _ h=>h
def jma:DataW Unit->V
 | .lit (.int k n)=>.int k n
 | .lit (.string s)=>.str s
 | _=>.undef
theorem jny {W:World}{t e:TypeId}{n fuel:Nat}{cs:List Value}{ds:List (DataW Unit)}{p:List MemPlace}(ht:Tryz.prog.underlying t=some (.array n e)) (hc:Tryz.prog.cellsOf e=1)
 (he:Tryz.prog.underlying e=some .string\/∃k,Tryz.prog.underlying e=some (.int k)) (h:DataW.trod (λ_=>()) Tryz.prog W 0 (λ_=>true) false fuel t cs=some (.agg ds,p)) (I:IMap) :
 ∀ (j:Nat) (d:DataW Unit),ds[j]? = some d->∃x,cs[j]? = some x/\RepP I x (jma d):=by
 obtain⟨xs,m,rfl,hx,hlen,hn,hel⟩:=DataW.trod_array ht h
 intro j d hd
 simp only[bW,DataW.agg.injEq]at hx
 rw[hx.1,aX]at hd
 cases hy:xs[j]? with
 | none=>simp[hy]at hd
 | some y=>
  rw[hy]at hd
  simp only[aU,ab]at hd
  have hj:j<n:=by rw[<- hn];exact(ak.1 hy).1
  have:=hel j hj
  rw[hc,bz,hy]at this
  have one:∀c,(cs.drop j).take 1=[c]->cs[j]? = some c:=by
   intro c hcc
   have:=congrArg List.head? hcc
   simpa[List.head?_take,List.head?_drop] using this
  rcases he with he|⟨k,he⟩
  ·obtain⟨s,e1,e2,_⟩:=DataW.trod_string he this
   refine⟨_,one _ e1,?_⟩
   rw[<- hd,e2]
   exact RepP.str s
  ·obtain⟨s,e1,e2,_⟩:=DataW.trod_int he this
   refine⟨_,one _ e1,?_⟩
   rw[<- hd,e2]
   exact RepP.int k s
theorem jpi {W:World}{nm:String}{g:Nat}{cs:Array Value}{ds:List (DataW Unit)}(hg:Tryz.prog.globalNamed nm=some g) (hv:W.var? Tryz.prog nm=some cs) (hp:(ds.map jma).all V.pureLeaf=true)
 (h:∀ (j:Nat) (d:DataW Unit),ds[j]? = some d->∃x,cs.toList[j]? = some x/\RepP (Y9 W) x (jma d)):RepP (Y9 W) (.pointer (some ⟨g,0,none⟩)) (.eptr (ds.map jma) 0):=by
 have hc:=World.var?_cell hg hv
 refine RepP.eptr g 0 0 (ds.map jma) (λj=>(cs[j]?).getD .nilFunc) (λj hj=>?_) (λj v hj=>?_) (λj v hj=>?_)
 ·rw[bC]at hj
  obtain⟨x,hx,_⟩:=h j ds[j] (aa hj)
  have hx':cs[j]? = some x:=by simpa using hx
  show W.cell? ⟨g,0+j,none⟩=_
  rw[bM,hc j,hx']
  rfl
 ·exact aw.1 hp v (aI hj)
 ·rw[aX]at hj
  cases hd:ds[j]? with
  | none=>rw[hd]at hj;cases hj
  | some d=>
   rw[hd]at hj
   cases hj
   obtain⟨x,hx,hr⟩:=h j d hd
   have hx':cs[j]? = some x:=by simpa using hx
   rw[hx']
   exact hr
def aggOf:DataW Unit->List (DataW Unit)
 | .agg l=>l
 | _=>[]
theorem jxq:(aggOf Rows.laid_deemster_event_words).map jma=words:=by kernel_rfl
theorem j1d:(aggOf Rows.laid_math_bits_deBruijn64tab).map jma=bruij:=by kernel_rfl
theorem jwx:Rows.laid_math_bits_deBruijn64tab=.agg (aggOf Rows.laid_math_bits_deBruijn64tab):=by kernel_rfl
theorem jr1:((aggOf Rows.laid_math_bits_deBruijn64tab).map jma).all V.pureLeaf=true:=by kernel_rfl
theorem j0t:(aggOf Rows.laid_unicode_utf8_first).map jma=utf8first:=by kernel_rfl
theorem jv9:Rows.laid_unicode_utf8_first=.agg (aggOf Rows.laid_unicode_utf8_first):=by kernel_rfl
theorem jqd:((aggOf Rows.laid_deemster_event_words).map jma).all V.pureLeaf=true:=by kernel_rfl
theorem jrt:((aggOf Rows.laid_unicode_utf8_first).map jma).all V.pureLeaf=true:=by kernel_rfl
theorem jly {H:Type}{enc:TypeId × Value->H}{W W':World}(hb:Below W.heap.size W W'):∀ {ts:List TypeId}{vs:List Value}{ds:List (DataW H)}{ps:List MemPlace},
 (∀t∈ts,Tryz.prog.readableRec t=true/\t<Tryz.prog.types.size)->(∀x∈ps,x.block<W.heap.size) ->
 DataW.TrodAll enc Tryz.prog W 0 (λ_=>true) true ts vs ds ps->DataW.TrodAll enc Tryz.prog W' 0 (λb=>decide (b<W.heap.size)) true ts vs ds ps
 | [],[],[],_,_,_,h=>h
 | t::ts,v::vs,d::ds,_,ht,hlt,⟨p,q,h1,h2,e⟩=>by
  subst e
  exact⟨p,q,Below.trod ju6 (ht t (aP ..)).1 (ht t (aP ..)).2 h1 hb (λx hx=>hlt x (cD _ hx)),
   jly hb (λt' h'=>ht t' (bf _ h')) (λx hx=>hlt x (bY _ hx)) h2,rfl⟩
 | [],_::_,_,_,_,_,h=>h.elim
 | [],[],_::_,_,_,_,h=>h.elim
 | _::_,[],_,_,_,_,h=>h.elim
 | _::_,_::_,[],_,_,_,h=>h.elim
theorem jtv {H:Type}{enc:TypeId × Value->H}{fn:Func}{s:ChangeSpec}{W W':World}{args:Array Value}{ds gs:List (DataW H)}{before:List MemPlace}(hW:DataW.Whole enc Tryz.prog fn.params.toList s.vars false W args.toList ds gs before)
 (hv:s.vars=[]) (hr:fn.resultTypes = #[4]) (hs:(s.fn H ds).results=[.lit (.bool true)]) (ha:(s.fn H ds).args=ds) (hvs:(s.fn H ds).vars=[])
 (ht:∀t∈fn.params.toList,Tryz.prog.readableRec t=true/\t<Tryz.prog.types.size) (hg:W.grownBy W' none):s.post enc Tryz.prog fn false true false false W args (.bool true) W':=by
 have hb:Below W.heap.size W W':=(Below.refl _ W).grown hg zK (λ_ h=>by cases h)
 have hW':=hW
 obtain⟨p,q,hA,hV,rfl,_,_⟩:=hW
 rw[hv]at hV
 obtain⟨rfl,rfl⟩:=trodVars_none hV
 have hlt:∀x∈p,x.block<W.heap.size:=λx hx=>by simpa using hW'.lt x (cD _ hx)
 refine⟨ds,[],_,[],p,[],hW',?_,?_,?_,hb.frame _,λh=>by cases h⟩
 ·rw[aS,hs,hr]
  exact trodAll_mk1 (shut_bool Tryz.underlying4 _)
 ·rw[aS,ha]
  exact jly hb ht hlt hA
 ·rw[aS,hvs,hv]
  rfl
end Go.Pv.T
namespace Go.Pv.T
open Go Go.Pv Go.Proofs Go.ChangeShapes Go.WideShapes Go.ChangeAt Go.RowKit
inductive Ty where
 | bool
 | int (k:IntKind)
 | str
 | unit
 | pair (a b:Ty)
 | slice (t:Ty)
def Ty.cells:Ty->Nat
 | .unit=>0
 | .pair a b=>a.cells+b.cells
 | _=>1
inductive Sh:Ty->List V->Prop where
 | bool (b:Bool):Sh .bool [.bool b]
 | int (k:IntKind) (n:Int):Sh (.int k) [.int k n]
 | str (s:List UInt8):Sh .str [.str s]
 | unit:Sh .unit []
 | pair {a b:Ty}{va vb:List V}(ha:Sh a va) (hb:Sh b vb):Sh (.pair a b) (va++vb)
 | nil {t:Ty}:Sh (.slice t) [.sl none true 0 []]
 | slice {t:Ty}(es:List (List V)) (hn:es.length<=maxLen) (h:∀e∈es,Sh t e):Sh (.slice t) [.sl none false es.length es.flatten]
def Wo (P:Program) (g:TypeId->Option Ty):List Field->Nat->Option Ty
 | [],_=>some .unit
 | f::r,off=>if f.offset=off then (g f.type).bind λa=>if P.cellsOf f.type=a.cells then (Wo P g r (off+a.cells)).map (.pair a) else none else none
def j1p (P:Program):Nat->TypeId->Option Ty
 | 0,_=>none
 | n+1,t=>match P.underlying t with
  | some .bool=>some .bool
  | some (.int k)=>some (.int k)
  | some .string=>some .str
  | some (.slice e)=>(j1p P n e).bind λty=>if P.cellsOf e=ty.cells then some (.slice ty) else none
  | some (.struct fs)=>(Wo P (j1p P n) fs.toList 0).bind λty=>if P.cellsOf t=ty.cells then some ty else none
  | _=>none
theorem Sh.len {t:Ty}{vs:List V}(h:Sh t vs):vs.length=t.cells:=by
 induction h with
 | pair _ _ a b=>simp[Ty.cells,a,b]
 | _=>rfl
theorem Sh.pure {t:Ty}{vs:List V}(h:Sh t vs):∀v∈vs,v.pureLeaf=true:=by
 induction h with
 | pair _ _ b c=>intro v a;rcases aO.1 a with h|h;exact b v h;exact c v h
 | unit=>intro v a;cases a
 | _=>intro v a;rw[ae]at a;subst a;rfl
def Reps (I:IMap) (cs:List Value) (vs:List V):Prop:=cs.length=vs.length/\∀ (j:Nat) (x:Value) (v:V),cs[j]? = some x->vs[j]? = some v->RepP I x v
theorem Reps.one {I:IMap}{x:Value}{v:V}(h:RepP I x v):Reps I [x] [v] :=
 ⟨rfl,λj y u a b=>by
  match j,a,b with
  | 0,a,b=>cases a;cases b;exact h
  | j+1,a,_=>simp at a⟩
theorem jja {g:Type}{sz:Nat}(c:0<sz):∀ (es:List (List g)),(∀e∈es,e.length=sz)->∀j,es.flatten[j]? = (es[j / sz]?).bind λe=>e[j % sz]?
 | [],_,j=>by simp
 | e::es,h,j=>by
  have b:=h e (aP ..);rw[List.flatten_cons,fS,b];split;rename_i a;rw[Nat.div_eq_of_lt a,eI a];rfl
  ·rename_i d;have f:j=(j - sz)+sz:=zO;rw[jja c es (λe b=>h e (bf _ b)) (j - sz)];conv=>rhs;rw[f,Nat.add_div_right _ c,Nat.add_mod_right]
   rfl
theorem jpn {a:Type}{sz:Nat}:∀ (es:List (List a)),(∀e∈es,e.length=sz)->es.flatten.length=es.length*sz
 | [],_=>by simp
 | e::es,h=>by rw[List.flatten_cons,au,h e (aP ..),jpn es (λe b=>h e (bf _ b)),bo,da];omega
section
variable {H:Type}{enc:TypeId × Value->H}{W:World}{P:Program}
theorem jkn {e:Type}{p:Nat->e->Prop}:∀ (n:Nat),(∀i,i<n->∃a,p i a)->∃l:List e,l.length=n/\∀i a,l[i]? = some a->p i a
 | 0,_=>⟨[],rfl,λi a h=>by simp at h⟩
 | n+1,h=>by
  obtain⟨l,d,j⟩:=jkn n (λi k=>h i zO);obtain⟨a,g⟩:=h n zO;refine⟨l++[a],by simp[d],λi b c=>?_⟩;rw[fS]at c;split at c;exact j i b c;rename_i f;have:i=n:=by have:=(ak.1 c).1;simp at this;omega
  subst this;simp[d]at c;subst c;exact g
theorem jh1 {g:TypeId->Option Ty}{n:Nat}{cs:List Value}(z:∀t ty,g t=some ty->∀cs x,DataW.trod enc P W 0 (λ_=>true) true n t cs=some x->∃e,Sh ty e/\Reps (Y9 W) cs e) :
 ∀ (fs:List Field) (off:Nat) (ty:Ty),Wo P g fs off=some ty->(∀f∈fs,∃x,DataW.trod enc P W 0 (λ_=>true) true n f.type ((cs.drop f.offset).take (P.cellsOf f.type))=some x)->cs.length=off+ty.cells ->
  ∃e,Sh ty e/\Reps (Y9 W) (cs.drop off) e
 | [],off,ty,h,_,hl=>by simp only[Wo,ab]at h;subst h;simp only[Ty.cells,bj]at hl;exact⟨[],.unit,by simp[hl],λj x v _ J=>by simp at J⟩
 | f::r,off,ty,h,hx,hl=>by
  simp only[Wo]at h;split at h;rename_i i;cases m:g f.type with
  | none=>rw[m]at h;cases h
  | some a=>
   rw[m,am]at h;split at h;rename_i K;cases l:Wo P g r (off+a.cells) with
   | none=>rw[l]at h;cases h
   | some b=>rw[l]at h;cases h;simp only[Ty.cells]at hl;obtain⟨x,o⟩:=hx f (aP ..);obtain⟨F,p,d⟩:=z f.type a m _ _ o;obtain⟨I,w,s⟩:=jh1 z r (off+a.cells) b l (λG D=>hx G (bf _ D)) zO;refine⟨F++I,.pair p w,?_,λj y u q c=>?_⟩;have:=p.len;have:=w.len;simp only[ba,au];omega;rw[i,K]at d;rw[fS]at c;rw[p.len]at c;rw[bw]at q;split at c;rename_i k;exact d.2 j y u (by rw[ct,if_pos k,bw];exact q) c;rename_i B;exact s.2 (j - a.cells) y u (by rw[bw,show off+a.cells+(j - a.cells)=off+j from by omega];exact q) c
   cases h
  cases h
theorem jop:∀ (n:Nat) (t:TypeId) (ty:Ty),j1p P n t=some ty->∀ (D:Nat) (cs:List Value) (x:DataW H × List MemPlace),DataW.trod enc P W 0 (λ_=>true) true D t cs=some x->∃G,Sh ty G/\Reps (Y9 W) cs G
 | 0,_,_,h,_,_,_,_=>by cases h
 | n+1,t,ty,h,D,cs,x,K=>by
  simp only[j1p]at h;split at h;rename_i r;cases h;obtain⟨b,rfl,_⟩:=DataW.trod_bool r K;exact⟨_,.bool b,Reps.one (.bool b)⟩;rename_i k r;cases h;obtain⟨b,rfl,_⟩:=DataW.trod_int r K;exact⟨_,.int k b,Reps.one (.int k b)⟩;rename_i r;cases h;obtain⟨s,rfl,_⟩:=DataW.trod_string r K;exact⟨_,.str s.data.toList,Reps.one (.str s)⟩;rename_i e r;cases L:j1p P n e with
  | none=>rw[L]at h;cases h
  | some g=>
   rw[L,am]at h;split at h;rename_i hc;cases h;rcases DataW.trod_slice r K with⟨rfl,_⟩|⟨a,len,b8,b6,c4,m,_,rfl,_,_,M,hm,c3,I,_,_⟩;exact⟨_,.nil,Reps.one .slnil⟩;have T:∀i,i<len->∃G,Sh g G/\∃c,W.cells? 0 (a.add (i*g.cells)) g.cells=some c/\Reps (Y9 W) c G:=by intro i Z;have w:=I i Z;rw[aa zO,hc]at w;obtain⟨c,c2,c0⟩:=dH.1 w;obtain⟨G,h3,h4⟩:=jop n e g L m c _ c0;exact⟨G,h3,c,c2,h4⟩
   obtain⟨p,w,h2⟩:=jkn len T;have a0:∀e∈p,Sh g e:=λe L=>by obtain⟨i,Z⟩:=fR L;exact(h2 i e Z).1
   have S:∀e∈p,e.length=g.cells:=λe L=>(a0 e L).len;have J:∀ (j:Nat) (v:V),p.flatten[j]? = some v->0<g.cells/\j / g.cells<len/\∃y,W.cell? ((a.add (j / g.cells*g.cells)).add (j % g.cells))=some y/\RepP (Y9 W) y v/\v.pureLeaf=true:=by
    intro j v d;have N:0<g.cells:=by rcases cM g.cells with h|h;have:=jpn p S;rw[h,Nat.mul_zero]at this;rw[dI.1 this]at d;simp at d;exact h
    rw[jja N p S]at d;cases u:p[j / g.cells]? with
    | none=>rw[u]at d;cases d
    | some e=>
     rw[u,am]at d;have F:j / g.cells<len:=by rw[<- w];exact(ak.1 u).1
     obtain⟨O,c,b7,X⟩:=h2 _ e u;have b9:=Nat.mod_lt j N;have q:=(World.cells?_some b7).2.2 _ b9;have c1:c.length=g.cells:=by rw[X.1,O.len]
     rw[aa zO]at q;exact⟨N,F,_,q,X.2 _ _ v (aa zO) d,O.pure v (aI d)⟩
   have B:p.flatten≠[]->a.spot=none:=by
    intro b5;obtain⟨v,hv⟩:∃v,p.flatten[0]? = some v:=by
     cases U:p.flatten with
     | nil=>exact absurd U b5
     | cons v l=>exact⟨v,rfl⟩
    obtain⟨N,_,y,z,_⟩:=J 0 v hv;rw[Nat.zero_div,Nat.zero_mod,dq]at z;simpa[Addr.add] using World.cell?_spot z
   have o:∀ (j:Nat) (v:V),p.flatten[j]? = some v->∃y,W.cell? ⟨a.block,a.off+j,none⟩=some y/\RepP (Y9 W) y v:=by intro j v d;obtain⟨N,_,y,z,hr,_⟩:=J j v d;have hs:=B (λh=>by rw[h]at d;simp at d);obtain⟨b,off,sp⟩:=a;simp only at hs;subst hs;rw[add_plain,add_plain]at z;refine⟨y,?_,hr⟩;rw[<- z,aG,Nat.div_add_mod']
   rw[<- w]at M;refine⟨_,.slice p (bG M hm) a0,Reps.one ?_⟩;rw[w]at M ⊢;refine RepP.sl a len b8 p.flatten (λj=>(W.cell? ⟨a.block,a.off+j,none⟩).getD .nilFunc) B M hm (λj d=>?_) (λj v d=>?_) (λj v d=>?_);obtain⟨y,z,_⟩:=o j _ (aa d);show W.cell? _=some ((W.cell? _).getD _);rw[z];rfl;exact(J j v d).2.2.choose_spec.2.2;obtain⟨y,z,hr⟩:=o j v d;show RepP _ ((W.cell? _).getD _) v;rw[z];exact hr;cases h
  rename_i fs r;cases U:Wo P (j1p P n) fs.toList 0 with
  | none=>rw[U]at h;cases h
  | some b=>
   rw[U,am]at h;split at h;rename_i hc;cases h;obtain⟨xs,m,rfl,_,M,hn,I⟩:=DataW.trod_struct r K;have:=jh1 (n:=m) (cs:=cs) (λt ty h cs x K=>jop n t ty h m cs x K) fs.toList 0 ty U (λf b0=>by
    obtain⟨i,Z⟩:=fR b0;have Q:fs[i]? = some f:=by simpa using Z
    have w:=I i f Q;have F:i<xs.length:=by rw[hn];exact(aM.1 Q).1
    rw[aa F]at w;exact⟨_,w⟩) (by rw[bM,M,hc])
   simpa using this;cases h
  cases h
end
end Go.Pv.T
namespace Go.Pv.T
open Go Go.Pv Go.Proofs Go.ChangeShapes Go.WideShapes Go.ChangeAt Go.RowKit Go.Proofs.YtphecmnehkdihaaGreatDoor
theorem j1f {W:World}{t e:TypeId}{n fuel:Nat}{cs:List Value}{ds:List (DataW Unit)}{p:List MemPlace}{f0 f1:Field}{k0 k1:IntKind}(ht:Tryz.prog.underlying t=some (.array n e)) (hc:Tryz.prog.cellsOf e=2)
 (he:Tryz.prog.underlying e=some (.struct #[f0,f1])) (o0:f0.offset=0) (o1:f1.offset=1) (c0:Tryz.prog.cellsOf f0.type=1) (c1:Tryz.prog.cellsOf f1.type=1)
 (u0:Tryz.prog.underlying f0.type=some (.int k0)) (u1:Tryz.prog.underlying f1.type=some (.int k1)) (h:DataW.trod (λ_=>()) Tryz.prog W 0 (λ_=>true) false fuel t cs=some (.agg ds,p)) (I:IMap) :
 ∀ (j:Nat) (d:DataW Unit),(ds.map aggOf).flatten[j]? = some d->∃x,cs[j]? = some x/\RepP I x (jma d):=by
 obtain⟨xs,m,rfl,hx,hlen,hn,hel⟩:=DataW.trod_array ht h
 simp only[bW,DataW.agg.injEq]at hx
 have one:∀ (l:List Value) (j:Nat) c,(l.drop j).take 1=[c]->l[j]? = some c:=by
  intro l j c hcc
  have:=congrArg List.head? hcc
  simpa[List.head?_take,List.head?_drop] using this
 have each:∀ (j:Nat) (y:DataW Unit × List MemPlace),xs[j]? = some y->∃d0 d1 x0 x1,y.1=.agg [d0,d1]/\cs[j*2]? = some x0/\RepP I x0 (jma d0)/\cs[j*2+1]? = some x1/\RepP I x1 (jma d1):=by
  intro j y hy
  have hj:j<n:=by rw[<- hn];exact(ak.1 hy).1
  have h2:=hel j hj
  rw[hc,hy]at h2
  obtain⟨y0,y1,m',e1,hl2,g0,g1⟩:=trod_struct2 he h2
  rw[o0,c0]at g0
  rw[o1,c1]at g1
  obtain⟨z0,a0,b0,_⟩:=DataW.trod_int u0 g0
  obtain⟨z1,a1,b1,_⟩:=DataW.trod_int u1 g1
  have q0:=one _ _ _ a0
  have q1:=one _ _ _ a1
  rw[ct,if_pos zO,bw]at q0 q1
  refine⟨y0.1,y1.1,_,_,by rw[e1],by simpa using q0,?_,q1,?_⟩
  ·rw[b0];exact RepP.int k0 z0
  ·rw[b1];exact RepP.int k1 z1
 have hds:ds=xs.map (·.1):=hx.1
 have len2:∀e∈ds.map aggOf,e.length=2:=by
  intro e he
  rw[hds,cU]at he
  obtain⟨y,hy,rfl⟩:=aJ.1 he
  obtain⟨j,hj⟩:=fR hy
  obtain⟨d0,d1,x0,x1,e,_⟩:=each j y hj
  simp only[Function.comp,e,aggOf,bo,cC]
 intro k d hd
 rw[jja zQ _ len2]at hd
 rw[hds,cU,aX]at hd
 cases hy:xs[k / 2]? with
 | none=>rw[hy]at hd;cases hd
 | some y=>
  rw[hy]at hd
  obtain⟨d0,d1,x0,x1,e,g0,r0,g1,r1⟩:=each _ y hy
  simp only[aU,am,Function.comp,e,aggOf]at hd
  rcases gF k with hk|hk
  ·rw[hk]at hd
   cases hd
   rw[show k / 2*2=k from by omega]at g0
   exact⟨x0,g0,r0⟩
  ·rw[hk]at hd
   cases hd
   rw[show k / 2*2+1=k from by omega]at g1
   exact⟨x1,g1,r1⟩
def accD:List (DataW Unit):=((aggOf Rows.laid_unicode_utf8_acceptRanges).map aggOf).flatten
theorem gAcc:Tryz.prog.globalNamed "unicode/utf8.acceptRanges" = some 3:=by kernel_rfl
theorem acc_eq:accD.map jma=accR:=by kernel_rfl
theorem j6u:Rows.laid_unicode_utf8_acceptRanges=.agg (aggOf Rows.laid_unicode_utf8_acceptRanges):=by kernel_rfl
theorem j1h:(accD.map jma).all V.pureLeaf=true:=by kernel_rfl
theorem tAcc:(Tryz.prog.globals[3]?).map (·.type)=some 322:=by kernel_rfl
theorem glOk {W:World}(h:laidMetH Tryz.prog jrh W):GlOk E (Y9 W):=by
 rw[MakeChecks.laidMetH_plain _ _ _ (by kernel_rfl)]at h
 obtain⟨ps,⟨g3,t3,cs3,f3,p3,q3,hg3,ht3,hv3,hd3,⟨g2,t2,cs2,f2,p2,q2,hg2,ht2,hv2,hd2,⟨g0,t0,cs0,f0,p0,q0,hg0,ht0,hv0,hd0,⟨g1,t1,cs1,f1,p1,q1,hg1,ht1,hv1,hd1,_,_⟩,_⟩,_⟩,_⟩,_,_⟩:=h
 obtain rfl:=bU (gWords.symm.trans hg0)
 obtain rfl:=bU (gFirst.symm.trans hg1)
 obtain rfl:=bU (tWords.symm.trans ht0)
 obtain rfl:=bU (tFirst.symm.trans ht1)
 obtain rfl:=bU (gBruij.symm.trans hg3)
 obtain rfl:=bU (tBruij.symm.trans ht3)
 obtain rfl:=bU (gAcc.symm.trans hg2)
 obtain rfl:=bU (tAcc.symm.trans ht2)
 intro g cs hcs
 simp only[E]at hcs
 split at hcs
 ·cases hcs
  rw[<- j1d]
  rw[jwx]at hd3
  exact jpi gBruij hv3 jr1 (jny Tryz.underlying281 (by kernel_rfl) (Or.inr ⟨.u8,by kernel_rfl⟩) hd3 _)
 ·cases hcs
  rw[<- jxq]
  exact jpi gWords hv0 jqd (jny Tryz.underlying300 (by kernel_rfl) (Or.inl (by kernel_rfl)) hd0 _)
 ·cases hcs
  rw[<- j0t]
  rw[jv9]at hd1
  exact jpi gFirst hv1 jrt (jny Tryz.underlying319 (by kernel_rfl) (Or.inr ⟨.u8,by kernel_rfl⟩) hd1 _)
 ·cases hcs
  rw[<- acc_eq]
  rw[j6u]at hd2
  exact jpi gAcc hv2 j1h (j1f (k0:=.u8) (k1:=.u8) Tryz.underlying322 (by kernel_rfl) Tryz.underlying321 rfl rfl (by kernel_rfl) (by kernel_rfl) (by kernel_rfl) (by kernel_rfl) hd2 _)
 ·cases hcs
theorem jr0 {f:FuncId}{W:World}{args:Array Value}{vs:List V}(hL:laidMetH Tryz.prog jrh W) (hlen:args.size=vs.length) (hr:∀ (j:Nat) (x:Value) (v:V),args[j]? = some x->vs[j]? = some v->RepP (Y9 W) x v)
 (he:Ev E f vs (.bool true)):Calls Tryz.prog f args W λe w'=>e=.returned (.bool true)/\W.grownBy w' none:=by
 refine(Ev.sound mixed envOk he W (Y9 W) args (jws W) (glOk hL) hlen hr).mono λe W' ⟨x,τ,I',h1,h2,_,_,_,h3,_⟩=>⟨?_,h2⟩
 rw[h1]
 have h4:RepP I' x (.bool true):=h3
 cases h4
 rfl
abbrev j7q:Ty:=.pair (.int .i64) (.pair (.int .i64) .unit)
abbrev opTy:Ty:=.pair .bool (.pair (.int .i64) (.pair j7q .unit))
abbrev j7t:Ty:=.pair (.int .i64) (.pair (.int .i64) (.pair (.slice opTy) .unit))
abbrev j2f:Ty:=.pair (.slice .str) (.pair (.slice .str) (.pair (.slice j7t) .unit))
theorem ja3 {α:Type}{t:Ty}{f:α->List V}(hf:∀e,Sh t e->∃a,e=f a) {vs:List V}(h:Sh (.slice t) vs):∃nl l,vs=[slOf nl f l]:=by
 cases h with
 | nil=>exact⟨true,[],rfl⟩
 | slice es hn h=>
  have all:∀es:List (List V),(∀e∈es,Sh t e)->∃l:List α,es=l.map f:=by
   intro es
   induction es with
   | nil=>intro _;exact⟨[],rfl⟩
   | cons e es ih=>
    intro h
    obtain⟨a,rfl⟩:=hf e (h e (aP ..))
    obtain⟨l,rfl⟩:=ih (λe he=>h e (bf _ he))
    exact⟨a::l,rfl⟩
  obtain⟨l,rfl⟩:=all es h
  exact⟨false,l,by simp[slOf,List.flatMap]⟩
theorem j77 {vs:List V}(h:Sh j7q vs):∃v:Val',vs=J0 v:=by
 cases h with
 | pair ha hb=>cases ha with
  | int _ k=>cases hb with
   | pair hc hd=>cases hc with
    | int _ n=>cases hd;exact⟨⟨k,n⟩,rfl⟩
theorem sh_op {vs:List V}(h:Sh opTy vs):∃o:Op',vs=opC o:=by
 cases h with
 | pair ha hb=>cases ha with
  | bool w=>cases hb with
   | pair hc hd=>cases hc with
    | int _ k=>cases hd with
     | pair he hf=>
      obtain⟨v,rfl⟩:=j77 he
      cases hf
      exact⟨⟨w,k,v⟩,rfl⟩
theorem j78 {vs:List V}(h:Sh j7t vs):∃t:Txn',vs=js t:=by
 cases h with
 | pair ha hb=>cases ha with
  | int _ s=>cases hb with
   | pair hc hd=>cases hc with
    | int _ f=>cases hd with
     | pair he hf=>
      obtain⟨nl,l,rfl⟩:=ja3 (f:=opC) (λe=>sh_op) he
      cases hf
      exact⟨⟨s,f,nl,l⟩,rfl⟩
theorem j1v {vs:List V}(h:Sh .str vs):∃s:List UInt8,vs=Jv s:=by
 cases h with
 | str s=>exact⟨s,rfl⟩
theorem j3o {vs:List V}(h:Sh j2f vs):∃g:Hist',vs=histC g:=by
 cases h with
 | pair ha hb=>cases hb with
  | pair hc hd=>cases hd with
   | pair he hf=>
    obtain⟨n0,l0,rfl⟩:=ja3 (f:=Jv) (λe=>j1v) ha
    obtain⟨n1,l1,rfl⟩:=ja3 (f:=Jv) (λe=>j1v) hc
    obtain⟨n2,l2,rfl⟩:=ja3 (f:=js) (λe=>j78) he
    cases hf
    exact⟨⟨n0,l0,n1,l1,n2,l2⟩,rfl⟩
theorem jk9 {v:V}(h:v.pureLeaf=true):v.leaf=true:=by cases v <;> first|rfl|cases h
section
variable {H:Type}{enc:TypeId × Value->H}{W:World}{v:Value}{d:DataW H}{p:List MemPlace}{base:Nat}
theorem jqi {t:TypeId}{fs:Array Field}{n:Nat}{ty:Ty}(ht:Tryz.prog.underlying t=some (.struct fs)) (hty:j1p Tryz.prog n t=some ty) (hval:Value.okWide Tryz.prog W .any base t v)
 (h:DataW.Trod enc Tryz.prog W 0 (λ_=>true) true t v d p):∃vs,Sh ty vs/\RepP (Y9 W) v (.agg vs):=by
 obtain⟨cs,rfl,_⟩:=okWide_struct ht hval
 obtain⟨fuel,hf⟩:=h
 obtain⟨vs,hs,hr⟩:=jop n t ty hty fuel _ _ hf
 refine⟨vs,hs,RepP.agg cs vs (by simpa[Value.cells] using hr.1) (λj v hj=>jk9 (hs.pure v (aI hj))) (λj x v hx hv=>hr.2 j x v (by simpa[Value.cells] using hx) hv)⟩
theorem j1c {t:TypeId}{n:Nat}{ty:Ty}(hc:v.cells.toList=[v]) (hty:j1p Tryz.prog n t=some ty)
 (h:DataW.Trod enc Tryz.prog W 0 (λ_=>true) true t v d p):∃vs,Sh ty vs/\Reps (Y9 W) [v] vs:=by
 obtain⟨fuel,hf⟩:=h
 rw[hc]at hf
 exact jop n t ty hty fuel _ _ hf
theorem j33 (ts:List TypeId) (h:(ts.all λt=>Tryz.prog.readableRec t && decide (t<Tryz.prog.types.size))=true) (t:TypeId) (ht:t∈ts):Tryz.prog.readableRec t=true/\t<Tryz.prog.types.size:=by
 have:=aw.1 h t ht
 simpa using this
theorem j0n (hval:Value.okWide Tryz.prog W .any base 25 v) (h:DataW.Trod enc Tryz.prog W 0 (λ_=>true) true 25 v d p):∃g:Hist',RepP (Y9 W) v (.agg (histC g)):=by
 obtain⟨vs,hs,hr⟩:=jqi (n:=8) (ty:=j2f) Tryz.underlying25 (by kernel_rfl) hval h
 obtain⟨g,rfl⟩:=j3o hs
 exact⟨g,hr⟩
theorem j0k (hval:Value.okWide Tryz.prog W .any base 26 v) (h:DataW.Trod enc Tryz.prog W 0 (λ_=>true) true 26 v d p):∃ (nl:Bool) (l:List Int),RepP (Y9 W) v (slOf nl intC l):=by
 obtain⟨a0,len,cap,rfl⟩:=okWide_slice Tryz.underlying26 hval
 obtain⟨vs,hs,hr⟩:=j1c (n:=4) (ty:=.slice (.int .i64)) rfl (by kernel_rfl) h
 obtain⟨nl,l,rfl⟩:=ja3 (f:=intC) (λe he=>by cases he with|int _ k=>exact⟨k,rfl⟩) hs
 exact⟨nl,l,hr.2 0 _ _ rfl rfl⟩
theorem j5n (hval:Value.okWide Tryz.prog W .any base 3 v):∃n:Int,RepP (Y9 W) v (.int .i64 n):=by
 obtain⟨n,rfl⟩:=okWide_int Tryz.underlying3 hval
 exact⟨n,RepP.int .i64 n⟩
end
section
end
end Go.Pv.T
