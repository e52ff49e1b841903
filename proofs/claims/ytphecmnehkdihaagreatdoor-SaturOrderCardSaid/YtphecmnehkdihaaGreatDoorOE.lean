/- Axioms: the reference's walk: who is seen. -/
import Derived.Test.YtphecmnehkdihaaGreatDoorOD
set_option maxRecDepth 100000
set_option maxHeartbeats 8000000
set_option linter.all false
namespace Go.Pv.T
open Go Go.Pv
theorem ev33 {g:Hist'}(hs:Small g) {nl on:Bool}{M O:List Int}(hM:M.length=(readH g).length) (hO:O.length<=1000000) (lvl:Int) {q:Nat}(hq:q<(readH g).length) {t:Nat}(ht:t<g.ts.length) (j:((readH g)[q]).1=t) :
 ∃v,Ev E 33 [.int .i64 lvl,.agg (histC g),slOf nl intC M,slOf on intC O,.int .i64 (q:Int)] v/\SlR v false (jcd g lvl M O (readH g)[q]).length ((jcd g lvl M O (readH g)[q]).flatMap intC):=by
 have f5:=hs.ts;have f2:=ja8 hs;obtain⟨vr,d3,d9⟩:=ev31 hs;obtain⟨vp,d7,b7⟩:=ev75 hs (nl:=nl) hM ht;refine JZ (af:=F33) rfl zQ ?_;obtain⟨p,hp⟩:∃p,(readH g)[q]=p:=⟨_,rfl⟩;have b9:=jtw (readH g) hq;have f4:=jh jT (λ_=>none) (readH g) hq;rw[hp]at j b9 ⊢;obtain⟨F,hF⟩:∃F,(λi=>jcc g lvl M O p i)=F:=⟨_,rfl⟩;have m:∀i,jcc g lvl M O p i=F i:=λi=>congrFun hF i;have hL:jcd g lvl M O p=YH F g.ts.length:=by unfold jcd;rw[<- hF]
 rw[hL];have e8:lvl=1->∀i:Nat,F i=rcB (readH g) M p i:=λh i=>by rw[<- m];simp[jcc,h]
 have e7:lvl=2->∀i,F i=farB g M t i:=λh i=>by rw[<- m];simp[jcc,h,j]
 have c9:lvl=3->∀i:Nat,F i=(XP g i && decide (atO O i<atO O t)):=λh i=>by rw[<- m];simp[jcc,h,j]
 have e0:lvl≠1->lvl≠2->lvl≠3->∀i,F i=false:=λh1 h2 h3 i=>by rw[<- m];simp[jcc,h1,h2,h3]
 clear m hF;obtain⟨B,hB⟩:∃B,(List.range g.ts.length).map (farB g M t)=B:=⟨_,rfl⟩;rw[hB]at b7;have d6:B.length=g.ts.length:=by rw[<- hB];simp
 have e6:∀i (h:i<B.length),B[i]=farB g M t i:=λi h=>by simp[<- hB]
 clear hL;generalize readH g=R at *;simp[F33,histC,objCells];refine jJ d3 (by simp[histC]) rfl (by simp[histC]) ?_;refine Ji d9 λtr f1=>?_;simp;refine jG (cs:=[]) rfl rfl rfl ?_;have b6:=λob=>Wf R ob hq;simp only[hp]at b6;simp[objCells,hq,jv jT,b6,j2];simp only[j]at b6 b9;simp[j];refine jJ d7 (by simp[histC,slOf]) rfl (by simp[histC]) ?_;rw[<- d6]at b7;refine Ji b7 λtp f0=>?_;simp;refine jQ λH e=>?_;have g0:H.tm 0=.int .i64 lvl:=by rw[e];simp
 have g2:H.tm 2=slOf nl intC M:=by rw[e];simp
 have g3:H.tm 3=slOf on intC O:=by rw[e];simp
 have g6:H.tm 6=.ptr 12 0 0:=by rw[e];simp
 have d0:H.tm 11=.sl tr false R.length (R.flatMap jE):=by rw[e];simp
 have e4:H.tm 13=.ptr 26 704 0:=by rw[e];simp
 have d5:H.tm 14=.sl tp false B.length (B.flatMap blC):=by rw[e];simp
 have d1:H.tm 15=.int .i64 0:=by rw[e];simp
 have d8:H.ob 12=some ⟨0,.cells (histC g)⟩:=by rw[e];simp[histC]
 have d2:H.ob 26=some ⟨704,.cells [.int .i64 (t:Int),.int .i64 p.2]⟩:=by rw[e];simp
 have gG:GrowT H.tk H.nx intC 1 (YH F 0) (H.tm 12):=by rw[e];exact⟨_,by simp[YH];rfl,by simp[ji],zS⟩
 have gd:H.df=[]:=by rw[e];simp
 have gr:H.ro=0:=by rw[e];simp
 have gb:H.fb=0:=by rw[e];simp
 clear e;obtain⟨I,hI⟩:∃I:Nat->St->Prop,I=λi s=>s.tm 15=.int .i64 i/\s.ob 12=some ⟨0,.cells (histC g)⟩/\s.ob 26=some ⟨704,.cells [.int .i64 (t:Int),.int .i64 p.2]⟩/\GrowT s.tk s.nx intC 1 (YH F i) (s.tm 12):=⟨_,rfl⟩;refine j6 [(12,12),(15,17),(31,105)] g.ts.length I rfl rfl (by
  rw[hI];exact⟨by simpa using d1,d8,d2,gG⟩) ?_
 intro i s hi c4 f;rw[hI]at c4;obtain⟨w,L,b5,hG⟩:=c4;have s0:s.tm 0=.int .i64 lvl:=by rw[f.t 0 zS];simp[g0]
 have s2:s.tm 2=slOf nl intC M:=by rw[f.t 2 zS];simp[g2]
 have s3:s.tm 3=slOf on intC O:=by rw[f.t 3 zS];simp[g3]
 have s6:s.tm 6=.ptr 12 0 0:=by rw[f.t 6 zS];simp[g6]
 have d4:s.tm 11=.sl tr false R.length (R.flatMap jE):=by rw[f.t 11 zS];simp[d0]
 have c8:s.tm 13=.ptr 26 704 0:=by rw[f.t 13 zS];simp[e4]
 have e5:s.tm 14=.sl tp false B.length (B.flatMap blC):=by rw[f.t 14 zS];simp[d5]
 have sd:s.df=[]:=by rw[f.d];simp[gd]
 have sr:s.ro=0:=by rw[f.r];simp[gr]
 have sb:s.fb=0:=by rw[f.b];simp[gb]
 clear f;by_cases D:i<g.ts.length;have hw:=jZ D zO;have f3:=jf3 F i;simp[w,s6,L,objCells,histC,D,s0];generalize c6:jsc E YC _ _=KK;have z:∀x:St,x.tm 16=.bool (F i)->x.tm 15=.int .i64 i->x.ob=s.ob->x.tk=s.tk->s.nx<=x.nx->x.tm 12=s.tm 12->KK .nrm x:=by
  intro x o J S xk xn b0;rw[<- c6];clear c6;have n:YH F (i+1)=YH F i++(if F i then [(i:Int)] else []):=rfl;cases hf:F i;rw[hf]at o n;simp only[aj,if_false,aS]at n;simp[o,J,hw,D];rw[hI];refine⟨zS,by simp[S,L],by simp[S,b5],?_⟩;rw[n];simpa[b0,xk] using hG.mono (nx':=x.nx+64+64+64+64) (λ_ _ h=>h) zO;rw[hf]at o n;simp only[if_true]at n;simp[o,J];refine jG (cs:=intC i) (by simp[j2,intC]) rfl rfl ?_;simp[intC];refine YT (hi:=s.nx) (f:=intC) (l:=YH F i) (a:=(i:Int)) (v:=s.tm 12) (hG.mono (λu _ h=>by simp[ji,xk,h]) zK) (by simp[b0]) (by simp[slCells,intC]) j9 zQ (by simp[intC,V.pureLeaf]) zO zO (λf6 e9=>?_);rw[<- n];have c0:(YH F i).length+1=(YH F (i+1)).length:=by rw[n];simp
  rw[c0];obtain⟨Q,hQ⟩:∃Q,YH F (i+1)=Q:=⟨_,rfl⟩;rw[hQ];simp[J,hw,D];rw[hI];refine⟨zS,by simp[S,L],by simp[S,b5],?_⟩;rw[hQ];exact⟨_,by simp;rfl,by simp[ji],zS⟩
 by_cases e1:lvl=1;simp[e1];have hc:=e8 e1 i;unfold rcB at hc;refine j6 [(16,17),(41,75)] R.length (λk x=>x.tm 17=.int .i64 k/\(∃X,x.tm 16=.bool X/\(X || ((R.drop k).zip (M.drop k)).any λy=>y.1.1 == p.1 && (decide (y.1.2<p.2) && y.2 == (i:Int)))=F i)/\x.ob=s.ob/\x.tk=s.tk/\s.nx<=x.nx) rfl rfl ⟨zS,⟨false,zS,by simpa using hc.symm⟩,zS,zS,by simp;omega⟩ ?_;rintro k x hk ⟨K,⟨X,o,c⟩,S,xk,xn⟩ f;have J:x.tm 15=.int .i64 i:=by rw[f.t 15 zS];simp[w]
 have x2:x.tm 2=slOf nl intC M:=by rw[f.t 2 zS];simp[s2]
 have N:x.tm 11=.sl tr false R.length (R.flatMap jE):=by rw[f.t 11 zS];simp[d4]
 have Z:x.tm 13=.ptr 26 704 0:=by rw[f.t 13 zS];simp[c8]
 have b0:x.tm 12=s.tm 12:=by rw[f.t 12 zS];simp
 clear f;have U:x.ob 26=some ⟨704,.cells [.int .i64 (t:Int),.int .i64 p.2]⟩:=by rw[S];exact b5
 by_cases G:k<R.length;have T:=jZ G zO;have a0:k<M.length:=zO;have h1:=jr M a0;have h2:=jtw R G;rw[aW G,aW a0,fZ,bu,<- Bool.or_assoc]at c;rw[j]at c;cases X;cases P:((R[k]).1 == (t:Int));rw[P]at c;simp[K,o,N,Z,U,objCells,G,jv jT,h2,P,T];exact⟨by simpa[j] using c,S,xk,zO⟩;by_cases c2:(R[k]).2<p.2;cases c3:(M[k] == (i:Int));rw[P,c3,decide_eq_true c2]at c;simp[K,o,N,Z,U,x2,J,objCells,G,a0,jv jT,j7 j9,h1,h2,P,c2,c3,T];exact⟨by simpa[j] using c,S,xk,zO⟩;rw[P,c3,decide_eq_true c2]at c;simp[K,o,N,Z,U,x2,J,objCells,G,a0,jv jT,j7 j9,h1,h2,P,c2,c3,T];exact⟨by simpa[j] using c,S,xk,zO⟩;rw[P,decide_eq_false c2]at c;simp[K,o,N,Z,U,objCells,G,jv jT,h2,P,c2,T];exact⟨by simpa[j] using c,S,xk,zO⟩;simp[K,o,N,G,T];exact⟨by simpa[j] using c,S,xk,zO⟩;have:k=R.length:=zO;subst this;rw[dA]at c;simp at c;simp[K,N];exact z _ (by simp[o,c]) (by simp[J]) (by simp[S]) (by simp[xk]) (by simp;omega) (by simp[b0]);have b1:(lvl == 1)=false:=by simpa using e1
 by_cases e2:lvl=2;have c5:=bl_at B (i:=i) zO;rw[e6 i zO,<- e7 e2 i]at c5;have b8:=jv jnw tp false B .i64 (i:=i) zO;rw[bz]at b8;simp[e2,e5,w,b8,c5];exact z _ zS (by simp[w]) zS zS (by simp;omega) zS;have b2:(lvl == 2)=false:=by simpa using e2
 by_cases e3:lvl=3;have c7:(g.ts.flatMap js)[i*3+1]? = some (.int .i64 (g.ts[i]).f):=by rw[jU jA g.ts D (by decide:1<3)];rfl
 have m:=c9 e3 i;rw[jjd D]at m;have ea:=ev63 (a:=on) O zO (i:Int);have eb:=ev63 (a:=on) O zO (t:Int);cases P:((g.ts[i]).f == 1);rw[P,bZ]at m;simp[e3,s6,L,objCells,histC,w,D,j7 jA,c7,P];exact z _ (by simp[m]) (by simp[w]) zS zS (by simp;omega) zS;rw[P,co]at m;simp[e3,s6,L,objCells,histC,w,D,j7 jA,c7,P,s3];refine Js ea zS rfl zS ?_;simp[c8,b5,objCells,s3];refine Js eb zS rfl zS ?_;simp;exact z _ (by simp[m]) (by simp[w]) zS zS (by simp;omega) zS;have b3:(lvl == 3)=false:=by simpa using e3
 simp[b1,b2,b3];exact z _ (by simp[e0 e1 e2 e3]) (by simp[w]) zS zS (by simp;omega) zS;have:i=g.ts.length:=zO;subst this;obtain⟨u,hu,_,_⟩:=hG;simp[w,s6,L,objCells,histC];exact slE (t:=some (u,1)) (nl:=false) (k:=(YH F g.ts.length).length) (cs:=(YH F g.ts.length).flatMap intC) (λr h=>h) (by simp[sd]) (by simp[hu])
theorem jby (g:Hist'):(comL g).length<=g.ts.length:=JQ Jt g.ts g.ts.length
theorem jtn {g:Hist'}(b:WG g=true) {q:Nat}(c:q<(readH g).length):∃ (i k:Nat) (hi:i<g.ts.length) (a:k<(g.ts[i]).ops.length),(readH g)[q]=((i:Int),(k:Int))/\jgn g (readH g)[q]=((g.ts[i]).ops[k]).key/\XP g i=true:=by
 obtain⟨i,k,t,e,d,f,a,_⟩:=je5 (av c);obtain⟨hi,rfl⟩:=ak.1 d;refine⟨i,k,hi,a,e,?_,by simpa[XP,hi] using f⟩;rw[e];have:opAt g (i:Int) (k:Int)=some (g.ts[i]).ops[k]:=by unfold opAt;simp[b,hi,a,ag]
 unfold jgn;simp only[this]
theorem jjv {g:Hist'}(h:Jb g=true):WG g=true:=by unfold Jb at h;simp only[ai]at h;exact h.1
def Off (ub key:Nat):Prop:=∀m,ub<=m->¬ key=2*m+1
theorem Off.up {ub a key:Nat}(h:Off ub key) (c:ub<=a):Off a key:=λm b=>h m (bG c b)
theorem Off.new {ub m:Nat}(h:m<ub):Off ub (2*m+1):=λk a e=>by omega
theorem idx0 {l u n x sz:Nat}{kk:IntKind}(a:x<n):JX sz (.osl l u 0 n sz) (.int kk (x:Int))=some (.ptr l u (x*sz)):=by simp[JX,a]
theorem W7 {a b:Nat}(h:¬ a=b):Nat.beq a b=false:=by cases e:Nat.beq a b;rfl;exact absurd (bm e) h
end Go.Pv.T
namespace Go.Pv.T
open Go Go.Pv
end Go.Pv.T
namespace Go.Pv.T
open Go Go.Pv
theorem two_inj {a b:Nat}:(2*a=2*b)=(a=b):=propext ⟨λh=>by omega,λh=>by rw[h]⟩
structure WN where
 kW:Nat
 uW:Nat
 kR:Nat
 uR:Nat
 kA:Nat
 uA:Nat
 kL:Nat
 uL:Nat
 kS:Nat
 uS:Nat
 kP:Nat
 uP:Nat
section
variable {g:Hist'}{lvl:Int}{M:List Int}{N:WN}{A L S:List (Int × Int)}{P:Int->List Int}{ob ob':ZO}{ub ub':Nat}
theorem Off.ne {key:Nat}(h:Off ub key):∀m,ub<=m->¬ key=2*m+1:=h
end
def setC (w:Nat):List V:=[.int .u64 w,.int .u64 0,.int .u64 0,.int .u64 0,.int .u64 0,.int .u64 0,.int .u64 0,.int .u64 0]
theorem jj6:setC 0=j79:=rfl
theorem jv5 {n:Nat}(h:n<64):IntKind.i64.wrap ((n:Int) / 64)=0:=by rw[show(n:Int) / 64=0 by omega];rfl
theorem jv4 {n:Nat}(h:n<64):(n:Int).tmod 64=n:=Int.tmod_eq_of_lt zO zO
theorem j3d {w n:Nat}(a:n<64):Xd .shr (.int .u64 (w:Int)) (.int .i64 (n:Int))=some (.int .u64 ((w >>> n:Nat):Int)):=by simp only[Xd,Wc];rw[if_neg zO];congr 2;rw[aZ,show IntKind.u64.bits=64 from rfl,cP (gc a),gN,eX _ (Int.le_of_lt (Int.pow_pos zQ))];simp
theorem j3e {n:Nat}(h:n<64):Xd .shl (.int .u64 1) (.int .i64 (n:Int))=some (.int .u64 ((1 <<< n:Nat):Int)):=by have b:2 ^ n<2 ^ 64:=fP zQ h;have:=jsq (a:=1) (k:=n) rfl zO zO;rw[dP];rw[Nat.one_mul]at this;exact this
theorem j6o (w n:Nat):((((w >>> n) &&& 1:Nat):Int) == 1)=w.testBit n:=by rw[Nat.testBit,Nat.and_comm 1,Nat.and_one_is_mod];rcases gF (w >>> n) with h|h <;> rw[h] <;> rfl
theorem j7r {w n:Nat}(a:w<2 ^ 64):w >>> n<2 ^ 64:=by rw[gN];exact Nat.lt_of_le_of_lt (Nat.div_le_self _ _) a
theorem j11 {n:Nat}(h:n<64):1 <<< n<2 ^ 64:=by rw[dP];exact fP zQ h
theorem or_lt {w n:Nat}(a:w<2 ^ 64) (h:n<64):w ||| 1 <<< n<2 ^ 64:=eA a (j11 h)
@[simp] theorem eqVV_pn (ob:ZO) (neg:Bool) (l u o:Nat):jxa ob neg .ptr (.ptr l u o) .nilptr=some (.bool (xor neg false)):=rfl
@[simp] theorem idxArr0 (k u:Nat):W4 8 1 (.ptr k u 0) (.int .i64 0)=some (.ptr k u 0):=rfl
section
variable {ob:ZO}{ub k u w n:Nat}
theorem ev189 (a:n<500):Ev E 189 [.int .i64 (n:Int)] (.bool true):=by
 refine jS (af:=F189) rfl ?_;conv in (occs := *) F189=> all_goals cbv
 simp[F189];exact j4 zS (by simp;omega) rfl
theorem j2q (a:n<500) (tk:Nat->Bool) (base:Nat):EvO E 128 [.ptr k u 0,.int .i64 (n:Int)] ob tk base ub (.int .i64 0):=by
 refine JL (af:=S128) rfl ?_;conv in (occs := *) S128=> all_goals cbv
 simp[S128];refine jJ (ev189 a) zS rfl zS ?_;simp;exact j4 zS zS rfl
theorem j2r (h:ob k=some ⟨u,.cells (setC w)⟩) (i:Off ub k) (c:n<64) (f:w<2 ^ 64) (tk:Nat->Bool) (base:Nat):EvO E 124 [.ptr k u 0,.int .i64 (n:Int)] ob tk base ub (.bool (w.testBit n)):=by
 refine JL (af:=S124) rfl ?_;have g:=i.ne;conv in (occs := *) S124=> all_goals cbv
 simp[S124];refine jb (vs:=[.ptr k u 0,.int .i64 n]) zS rfl rfl (j2q zO _ _) ?_;have d:=j3d (w:=w) c;have a:=jb9 (m:=1) (b:=1) rfl (j7r (n:=n) f) zQ;have e:=j6o w n;generalize w >>> n &&& 1=z at a e;generalize w >>> n=q at d a;simp(disch:=first|(simp;done)|omega) [jv5 c,jv4 c,objCells,g,h,setC,d,a,e];exact j4 zS zS rfl
def PutR (ob:ZO) (ub k u w:Nat) (r:V × (ZO) × (Nat->Bool) × Nat):Prop :=
 r.1=.int .i64 0/\(∀key,Off ub key->r.2.1 key=if key=k then some ⟨u,.cells (setC w)⟩ else ob key)/\ub<=r.2.2.2
theorem sv81 {Yf:YF}{tk:Nat->Bool}{ro base:Nat}(b:ob k=some ⟨u,.cells (setC w)⟩) (i:Off ub k) (d:ro<=u) (a:n<64) (h:w<2 ^ 64) :
 ∃r,EvS E Yf.y 81 [.ptr k u 0,.int .i64 (n:Int)] ob tk ro base ub r/\PutR ob ub k u (w ||| 1 <<< n) r:=by
 refine Ja (af:=S81) rfl zQ ?_;show wpC E Yf S81.body _ (XD S81.res _);have g:=i.ne;simp[S81];refine jb (vs:=[.ptr k u 0,.int .i64 n]) zS rfl rfl (j2q zO _ _) ?_;have e:=j3e a;have c:=jjx h (j11 a);generalize w ||| 1 <<< n=z at c ⊢;generalize 1 <<< n=q at e c;simp(disch:=first|(simp;done)|omega) [jv5 a,jv4 a,objCells,g,b,setC,e,c,j2];refine⟨d,Xc zS ⟨zS,λf b=>?_,by simp;omega⟩⟩;have g:=b.ne;simp(disch:=first|(simp;done)|omega) [g,j5,setC]
end
def bitsUp (w:Nat):List Nat:=(List.range 9).filter λi=>w.testBit i
def ju3 (w:Nat):Nat:=(bitsUp w).headD 0
theorem bitsUp_mem {w a:Nat}:a∈bitsUp w ↔ a<9/\w.testBit a=true:=by simp[bitsUp]
theorem jgc:bitsUp 0=[]:=rfl
theorem k_bits:((List.range 512).all λw=>w == 0 || (bitsUp w == ju3 w::bitsUp (w &&& (w - 1)) && decide (w &&& (w - 1)<512)))=true:=by kernel_rfl
theorem jlu {w:Nat}(a:w<512) (h:w≠0):bitsUp w=ju3 w::bitsUp (w &&& (w - 1))/\w &&& (w - 1)<512:=by have:=aw.1 k_bits w (aH.2 a);simpa[h] using this
theorem k190:((List.range 512).all λw=>w == 0 || (match (callers E 2 noY).d 190 [.int .u64 (w:Nat)] with|some r=>V.eqb r (.int .i64 (ju3 w:Nat))|none=>false))=true:=by kernel_rfl
theorem ev190 {w:Nat}(a:w<512) (h:w≠0):Ev E 190 [.int .u64 (w:Nat)] (.int .i64 (ju3 w:Nat)):=by have:=aw.1 k190 w (aH.2 a);simp only[beq_iff_eq,bA,h,false_or]at this;split at this;rename_i r b;exact⟨2,by rw[b,QN _ _ this]⟩;cases this
theorem low_lt {w:Nat}(a:w<512) (h:w≠0):ju3 w<9:=by
 have:ju3 w∈bitsUp w:=by rw[(jlu a h).1];exact aP ..
 exact(bitsUp_mem.1 this).1
theorem jee (w:Nat):(bitsUp w).length<=9:=by unfold bitsUp;exact bG (bD _ _) zS
theorem jmm {w i:Nat}(h:i<8):(setC w)[i]? = some (.int .u64 (if i=0 then w else 0:Nat)):=by
 match i,h with
 | 0,_=>rfl
 | 1,_=>rfl
 | 2,_=>rfl
 | 3,_=>rfl
 | 4,_=>rfl
 | 5,_=>rfl
 | 6,_=>rfl
 | 7,_=>rfl
section
variable {ob:ZO}{ub k u w:Nat}
theorem jps (hk:ob k=some ⟨u,.cells (setC w)⟩) (ho:Off ub k) (hw:w<512) (tk:Nat->Bool) (base:Nat):EvO E 130 [.ptr k u 0] ob tk base ub (ji8 (ints (bitsUp w))):=by
 refine JL (af:=S130) rfl ?_;have g:=ho.ne;have Z:(setC w).length=8:=rfl;conv in (occs := *) S130=> all_goals cbv
 simp[S130,objCells,hk,Z];refine jQ λo c=>?_;have g3:o.tm 3=.sl none true 0 []:=by rw[c];simp
 have a0:o.tm 11=.agg (setC w):=by rw[c];simp[setC]
 have b8:o.tm 12=.int .i64 0:=by rw[c];simp
 have gd:o.df=[]:=by rw[c];simp
 have gr:o.ro=ub:=by rw[c];simp
 have gn:ub<=o.nx:=by rw[c];simp;omega
 clear c;obtain⟨n0,c3⟩:∃n,n=o.nx:=⟨_,rfl⟩;obtain⟨P,H⟩:∃P:Nat->Nat->Prop,P=λhi u=>ub<=u/\u<hi:=⟨_,rfl⟩;obtain⟨J,hJ⟩:∃J:Nat->St->Prop,J=λi s=>s.tm 12=.int .i64 i/\IntsO s.ob (P s.nx) (if i=0 then [] else ints (bitsUp w)) (s.tm 3)/\ub<=s.nx:=⟨_,rfl⟩;refine j6 [(3,5),(12,30)] 8 J rfl rfl (by rw[hJ];exact⟨by simpa using b8,.inl ⟨rfl,g3⟩,gn⟩) ?_;intro i s hi S f;rw[hJ]at S;obtain⟨G,N,sn⟩:=S;have b7:s.tm 11=.agg (setC w):=by rw[f.t 11 zS];simp[a0]
 have sd:s.df=[]:=by rw[f.d];simp[gd]
 have sr:s.ro=ub:=by rw[f.r];simp[gr]
 clear f;by_cases I:i<8;have b5:=jZ I zQ;have M:jam none 8 1 (.agg (setC w)) (.int .i64 (i:Int))=some (.int .u64 (if i=0 then w else 0:Nat)):=by have:=jmm (w:=w) I;have T:(i:Int)<8:=zO;simp[jam,T,Xi,this]
 have T:(i:Int)<8:=zO;generalize F:(if i=0 then w else 0:Nat)=x0 at M;simp[G,b7,T,M];refine jQ λo c=>?_;have t3:o.tm 3=s.tm 3:=by rw[c];simp
 have t4:o.tm 4=.int .i64 i:=by rw[c];simp[G]
 have t5:o.tm 5=.int .u64 x0:=by rw[c];simp
 have b6:o.tm 12=.int .i64 i:=by rw[c];simp[G]
 have td:o.df=[]:=by rw[c];simp[sd]
 have tr:o.ro=ub:=by rw[c];simp[sr]
 have to:o.ob=s.ob:=by rw[c];simp
 have tn:s.nx<=o.nx:=by rw[c];simp;omega
 clear c;obtain⟨J2,K⟩:∃J2:Nat->St->Prop,J2=λn s=>∃x L,n=(bitsUp x).length/\x<512/\(x=0\/i=0)/\s.tm 5=.int .u64 (x:Nat)/\L++ints (bitsUp x)=ints (bitsUp w)/\IntsO s.ob (P s.nx) L (s.tm 3)/\ub<=s.nx:=⟨_,rfl⟩;refine Xs (n:=(bitsUp x0).length) [(3,3),(5,5),(16,29)] J2 rfl rfl ?_ ?_;rw[K];by_cases B:i=0;rw[if_pos B]at F N;subst F;refine⟨w,[],rfl,hw,.inr B,t5,rfl,?_,zO⟩;rw[to,t3];exact N.frame (λ_ _=>rfl) λu j=>by rw[H]at j ⊢;exact⟨j.1,by have:=j.2;omega⟩
 rw[if_neg B]at F N;subst F;refine⟨0,ints (bitsUp w),rfl,zQ,.inl rfl,t5,by simp[jgc,ints],?_,zO⟩;rw[to,t3];exact N.frame (λ_ _=>rfl) λu j=>by rw[H]at j ⊢;exact⟨j.1,by have:=j.2;omega⟩
 intro n q hq f;rw[K]at hq;obtain⟨x,L,rfl,hx,b9,q5,U,qI,qn⟩:=hq;have q4:q.tm 4=.int .i64 i:=by rw[f.t 4 zS];simp[t4]
 have b0:q.tm 12=.int .i64 i:=by rw[f.t 12 zS];simp[b6]
 have qd:q.df=[]:=by rw[f.d];simp[td]
 have qr:q.ro=ub:=by rw[f.r];simp[tr]
 clear f;by_cases Q:x=0;subst Q;simp[q5,b0,b5,I];rw[hJ];rw[jgc,show ints []=[] from rfl,aS]at U;subst U;refine⟨zS,?_,by simp;omega⟩;simp;exact qI.frame (λ_ _=>rfl) λu j=>by rw[H]at j ⊢;exact⟨j.1,by have:=j.2;simp at this ⊢;omega⟩
 have B:i=0:=b9.resolve_left Q;subst B;obtain⟨e1,e2⟩:=jlu hx Q;have ex:((x:Int) != 0)=true:=by simp;omega
 have c0:=low_lt hx Q;have O:IntKind.u64.wrap ((x:Int) - 1)=((x - 1:Nat):Int):=by rw[IntKind.wrap_u64];omega
 have D:=jb9 (a:=x) (b:=x - 1) (m:=((x - 1:Nat):Int)) rfl zO zO;generalize x &&& (x - 1)=y at D e1 e2;rw[<- O]at D;have hz:IntKind.i64.wrap ((ju3 x:Nat):Int)=((ju3 x:Nat):Int):=jX zO zO;have c1:L.length<=9:=by have h1:=congrArg List.length U;have T:=jee w;simp[ints]at h1;omega
 simp[q5,q4,ex];refine jJ (ev190 hx Q) zS rfl zS ?_;simp[hz,show IntKind.i64.wrap 0=0 from rfl];refine ja (cs:=[.int .i64 ((ju3 x:Nat):Int)]) (by simp[j2]) rfl rfl ?_;simp;refine Qb (p:=P q.nx) (l:=L) (z:=((ju3 x:Nat):Int)) (X:=2*(q.nx+512)+1) (uX:=q.nx+512) zS (qI.frame (λu j=>?_) λ_ h=>h) (by simp[aG]) (by simp[aG]) (λu j=>by rw[H]at j;simp[qr];exact j.1) zO λkl c2=>?_;rw[H]at j;have:=j.2;simp(disch:=first|(simp;done)|omega) [two_inj];intro e;omega;simp[q5,D];refine⟨(bitsUp y).length,by rw[e1];simp,?_⟩;rw[K];refine⟨y,L++[((ju3 x:Nat):Int)],rfl,e2,.inr rfl,zS,by rw[<- U,e1];simp[ints],.inr ⟨zS,q.nx+576,by simp[aG],by simp[aG,jgf],?_⟩,by simp;omega⟩;rw[H];simp;omega;have:i=8:=zO;subst this;simp[G];exact WJ (by simp[sd]) zS N (λu j=>by rw[H]at j;simp[sr];exact j.1)
end
section
end
section
end
theorem jW (L:List Nat):(ints L).length=L.length:=by simp[ints]
theorem ji7 (L:List Nat) {i:Nat}(h:i<(ints L).length):(ints L)[i]=((L[i]'(by simpa[ints] using h):Nat):Int):=by simp[ints]
section
end
end Go.Pv.T
namespace Go.Pv.T
open Go Go.Pv
end Go.Pv.T
namespace Go.Pv.T
open Go Go.Pv
/-! What goes before,by loops. -/
def sB (g:Hist') (a b:Nat):Bool:=XP g a && (XP g b && (decide (a<b) && sesAt g a == sesAt g b))
def fD2 (r:Nat->Nat->Bool) (k b0 b a:Nat):Bool:=if b<b0 then war r (k+1) b a else war r k b a
theorem jxr (r:Nat->Nat->Bool) (k a:Nat):war r (k+1) k a=war r k k a:=by rw[war];cases war r k k a <;> simp
theorem j2i (r:Nat->Nat->Bool) (k b a:Nat):fD2 r k b b a=war r k b a:=by simp[fD2]
theorem j01 {r:Nat->Nat->Bool}{k c:Nat}(h:war r k c k=false) (b a:Nat):fD2 r k c b a=fD2 r k (c+1) b a:=by unfold fD2;rcases du b c with h1|h1|h1;rw[if_pos h1,if_pos zO];subst h1;rw[if_neg zO,if_pos zO,war,h,bZ,bq];rw[if_neg zO,if_neg zO]
theorem j00 (r:Nat->Nat->Bool) (k b a:Nat):fD2 r k 0 b a=war r k b a:=by simp[fD2]
theorem j5y {r:Nat->Nat->Bool}{k n b:Nat}(c:b<n) (a:Nat):fD2 r k n b a=war r (k+1) b a:=by simp[fD2,c]
section
end
theorem jgp {l u n x:Nat}{kk:IntKind}(a:x<n):JX 1 (.osl l u 0 n 1) (.int kk (x:Int))=some (.ptr l u x):=j5p rfl a
theorem j3x {g:Hist'}{t:Nat}(a:t<g.ts.length):(g.ts.flatMap js)[t*3]? = some (.int .i64 (sesAt g t)):=by have:=jU jA g.ts a (by decide:0<3);rw[bj]at this;rw[this];simp[js,sesAt,a]
theorem joo (n:Nat) (v:V):repl n [v]=List.replicate n v:=by unfold repl;refine dJ zS λi a b=>?_;simp[Nat.mod_one]
@[simp] theorem eqVV_sl (ob:ZO) (neg nl:Bool) (t a:Option (Nat × Nat)) (n:Nat) (cs:List V):jxa ob neg .sl (.sl t nl n cs) (.sl a true 0 [])=some (.bool (xor neg nl)):=rfl
end Go.Pv.T
namespace Go.Pv.T
open Go Go.Pv
end Go.Pv.T
namespace Go.Pv.T
open Go Go.Pv
end Go.Pv.T
namespace Go.Pv.T
open Go Go.Pv
end Go.Pv.T
namespace Go.Pv.T
open Go Go.Pv
end Go.Pv.T
namespace Go.Pv.T
open Go Go.Pv
section
end
theorem jx4 {c:Type}{f:c->List V}{k:Nat}(b:∀a,(f a).length=k) (nl:Bool) (l:List c) (n:Nat) (kk:IntKind):YZ k none (some (.int kk ((min l.length n:Nat):Int))) (slOf nl f l)=some (.sl none nl (min l.length n) ((l.take n).flatMap f)):=by have d:=js5 (kk:=kk) (t:=none) (nl:=nl) (sz:=k) (cs:=l.flatMap f) (n:=l.length) (k:=min l.length n) (eh _ _) (j3 b _);refine Eq.trans d ?_;rw[jax b];congr 2;rcases gV l.length n with h|h;rw[cP h,bh,aK h];rw[fw h]
theorem jqm {st:St}{k:Nat}{v:V}(h:v.pureLeaf=true):JH st (k+1) v=some v:=by
 cases v with
 | sl t b n cs=>cases t with
  | none=>rfl
  | some t=>cases h
 | osl l u a n s=>cases h
 | _=>simp[JH,h]
theorem jab {st:St}{k:Nat}:∀ {l:List V},l.all V.pureLeaf=true->l.mapM (JH st (k+1))=some l
 | [],_=>rfl
 | v::l,h=>by rw[cQ,ai]at h;rw[bL,jqm h.1,jab h.2];rfl
theorem jzn (l:List Op'):(l.flatMap opC).all V.pureLeaf=true:=by rw[fF,aw];intro t _;rfl
theorem jo3 {f:V->Option V}:∀ {l m l' a:List V},l.mapM f=some l'->m.mapM f=some a->(l++m).mapM f=some (l'++a)
 | [],m,l',a,h,h'=>by cases (show some []=some l' from h);exact h'
 | v::l,m,l',a,h,h'=>by
  rw[bL]at h;rw[dB,bL];cases c:f v with
  | none=>rw[c]at h;cases h
  | some e=>
   rw[c]at h;cases b:l.mapM f with
   | none=>rw[b]at h;cases h
   | some r=>rw[b]at h;cases (show some (e::r)=some l' from h);rw[jo3 b h'];rfl
def txU (p:Txn' × Nat):List V:=[.int .i64 p.1.s,.int .i64 p.1.f,.osl (2*p.2+1) p.2 0 p.1.ops.length 4]
@[simp] theorem WZ (p:Txn' × Nat):(txU p).length=3:=rfl
structure InO (ob:ZO) (lo hi:Nat) (p:Txn' × Nat):Prop where
 nl:p.1.nl=false
 lo:lo<=p.2
 hi:p.2<hi
 ob:∃X,ob (2*p.2+1)=some ⟨p.2,.cells X⟩/\p.1.ops.length*4<=X.length/\X.take (p.1.ops.length*4)=p.1.ops.flatMap opC
theorem InO.frame {ob ob':ZO}{lo hi hi':Nat}{p:Txn' × Nat}(h:InO ob lo hi p) (a:ob' (2*p.2+1)=ob (2*p.2+1)) (b:hi<=hi'):InO ob' lo hi' p :=
 ⟨h.nl,h.lo,by have:=h.hi;omega,by rw[a];exact h.ob⟩
def TsO (ob:ZO) (lo hi:Nat) (P:List (Txn' × Nat)) (v:V):Prop :=
 (∀p∈P,InO ob lo hi p)/\((P=[]/\v=.sl none true 0 [])\/(P≠[]/\∃u,lo<=u/\u<hi/\(∀p∈P,p.2≠u)/\v=.osl (2*u+1) u 0 P.length 3/\ob (2*u+1)=some ⟨u,.cells (P.flatMap txU)⟩))
theorem TsO.frame {ob ob':ZO}{lo hi hi':Nat}{P:List (Txn' × Nat)}{v:V}(h:TsO ob lo hi P v) (e:∀u,lo<=u->u<hi->ob' (2*u+1)=ob (2*u+1)) (g:hi<=hi'):TsO ob' lo hi' P v:=by refine⟨λp a=>(h.1 p a).frame (e _ (h.1 p a).lo (h.1 p a).hi) g,?_⟩;rcases h.2 with c|⟨b,u,f,c,i,j,k⟩;exact .inl c;exact .inr ⟨b,u,f,zO,i,j,by rw[e u f c];exact k⟩
theorem jx3 {st:St}{lo hi:Nat}{p:Txn' × Nat}(h:InO st.ob lo hi p) (i:st.ro<=lo):JH st 5 (.osl (2*p.2+1) p.2 0 p.1.ops.length 4)=some (slOf p.1.nl opC p.1.ops):=by
 obtain⟨X,e,g,f⟩:=h.ob;have c:=h.lo;have a:objCells st.ob (2*p.2+1) p.2=some X:=by simp[objCells,e]
 show((objCells st.ob (2*p.2+1) p.2).bind λcs=>if Nat.ble st.ro p.2=true/\0+p.1.ops.length*4<=cs.length then (((cs.drop 0).take (p.1.ops.length*4)).mapM (JH st 4)).map λb=>V.sl none false p.1.ops.length b else none)=_;rw[a,am,if_pos ⟨ce▸zO,zO⟩,dt,f,jab (jzn _),h.nl];rfl
theorem jj4 {st:St}{lo hi:Nat}(a:st.ro<=lo):∀ {P:List (Txn' × Nat)},(∀p∈P,InO st.ob lo hi p)->(P.flatMap txU).mapM (JH st 5)=some ((P.map (·.1)).flatMap js)
 | [],_=>rfl
 | p::P,h=>by rw[bl,bt,bl];refine jo3 ?_ (jj4 a λq b=>h q (bf _ b));have:=jx3 (h p (aP ..)) a;show[V.int .i64 p.1.s,.int .i64 p.1.f,.osl (2*p.2+1) p.2 0 p.1.ops.length 4].mapM (JH st 5)=_;rw[bL,bL,bL,this];rfl
theorem TsO.out {st:St}{lo hi:Nat}{P:List (Txn' × Nat)}{v:V}(h:TsO st.ob lo hi P v) (e:st.ro<=lo):jc2 st v P.isEmpty P.length ((P.map (·.1)).flatMap js):=by
 rcases h.2 with⟨rfl,rfl⟩|⟨c,u,m,k,l,rfl,j⟩;exact JR _ none true 0 [];intro keep i;have a:objCells st.ob (2*u+1) u=some (P.flatMap txU):=by simp[objCells,j]
 have f:JH st 6 (.osl (2*u+1) u 0 P.length 3)=some (.sl none false P.length ((P.map (·.1)).flatMap js)):=by show((objCells st.ob (2*u+1) u).bind λcs=>if Nat.ble st.ro u=true/\0+P.length*3<=cs.length then (((cs.drop 0).take (P.length*3)).mapM (JH st 5)).map λb=>V.sl none false P.length b else none)=_;rw[a,am,if_pos ⟨ce▸zO,by rw[j3 WZ];omega⟩,dt,<- j3 WZ P,bh,jj4 e h.1];rfl
 have g:P.isEmpty=false:=by cases P <;> simp_all
 rw[g];refine⟨_,by simp only[jm,f,am,a,aU];rfl,?_⟩;split;exact .inr ⟨_,rfl⟩;exact .inl rfl
section
variable {Yf:YF}{st:St}{ub:Nat}{K:St->Nat->Prop}{d:Nat}
theorem jz0 {w:Type}{f:w->List V}{l:List w}{z sz c:Nat}{s x:A}(y:eval E st.tm s=.osl (2*z+1) z 0 0 sz) (j:st.ob (2*z+1)=some ⟨z,.cells []⟩) (p:st.ro<=z)
 (B:slCells st.ob sz (eval E st.tm x)=some (l.flatMap f)) (r:∀a,(f a).length=sz) (m:0<sz) (hp:(l.flatMap f).all V.leaf=true) (F:l.length*c<=140737488355328) (o:l.length<=140737488355328)
 (h:∀ (g:St) (u:Nat),(u=z\/u=ub)->g.ob (2*u+1)=some ⟨u,.cells (l.flatMap f)⟩->(∀b,b≠2*z+1->b≠2*ub+1->g.ob b=st.ob b)->(∀t,g.tm t=if t=d then .osl (2*u+1) u 0 l.length sz else st.tm t)->g.df=st.df->g.ro=st.ro->g.fb=st.fb->g.tk=st.tk->K g (ub+64)) :
 j8 E Yf ⟨some d,.append true sz c s x,none,true⟩ st ub K:=by
 cases l with
 | nil=>
  rw[jN _ rfl rfl];simp only[aop,y,B,am,gu,if_true];have i:objCells st.ob (2*z+1) z=some []:=by simp[objCells,j]
  rw[i,am,WU];show WR K st (some d) ub _;rw[jbr];exact h _ z (.inl rfl) (by simpa using j) (λb _ _=>by simp) (λt=>by rw[jlw];rfl) rfl rfl rfl zS
 | cons a l=>
  have q:((a::l).flatMap f).length / sz=(a::l).length:=by rw[j3 r];exact ei _ m
  have k:(a::l).flatMap f≠[]:=λe=>by have:=congrArg List.length e;rw[j3 r]at this;have:=Nat.mul_pos (show 0<(a::l).length by simp) m;simp_all
  refine XU (l:=2*z+1) (u:=z) (n:=0) (cs:=[]) (ys:=(a::l).flatMap f) y B j k p zS m hp (by rw[q,bM];exact F) (by rw[q,bM];exact o) ?_;rw[jbr,q,bM];refine h _ ub (.inr rfl) ?_ (λb D G=>?_) (λt=>by rw[jlw];rfl) rfl rfl rfl ?_;simp[jH];simp[jH,D,G];rfl
theorem jni {lo hi:Nat}{P:List (Txn' × Nat)}{p:Txn' × Nat}{s x:A}(i:TsO st.ob lo hi P (eval E st.tm s)) (J:hi<=ub) (F:st.ro<=lo) (o:slCells st.ob 3 (eval E st.tm x)=some (txU p)) (hp:InO st.ob hi ub p) (G:lo<=hi) (r:P.length<=100000)
 (h:∀ (c:St) (m:V),TsO c.ob lo (ub+64) (P++[p]) m->(∀b,(∀u,lo<=u->u<hi->b≠2*u+1)->b≠2*ub+1->c.ob b=st.ob b)->(∀t,c.tm t=if t=d then m else st.tm t)->c.df=st.df->c.ro=st.ro->c.fb=st.fb->c.tk=st.tk->K c (ub+64)) :
 j8 E Yf ⟨some d,.append true 3 40 s x,none,true⟩ st ub K:=by
 have z:=hp.lo;have H:=hp.hi;rcases i.2 with⟨rfl,B⟩|⟨w,u,L,y,D,I,M⟩;refine XJ (n:=0) (cs:=[]) (ys:=txU p) B o (by simp[txU]) zQ rfl zS zS ?_;rw[jbr,show(txU p).length / 3=1 by rw[WZ]];refine h _ (.osl (2*ub+1) ub 0 1 3) ⟨?_,.inr ⟨zS,ub,zO,zO,?_,zS,?_⟩⟩ (λb k f=>?_) (λt=>by rw[jlw];rfl) rfl rfl rfl ?_;intro q a;simp only[dl,ae]at a;subst a;refine⟨hp.nl,zO,zO,?_⟩;have:¬ 2*q.2=2*ub:=zO;simpa[jH,X6,this] using hp.ob;intro q a;simp only[dl,ae]at a;subst a;omega;simp[jH,X6];simp[jH,X6,f];rfl;refine XU (l:=2*u+1) (u:=u) (n:=P.length) (cs:=P.flatMap txU) (ys:=txU p) I o M (by simp[txU]) zO (by rw[j3 WZ];omega) zQ rfl (by simp;omega) (by simp;omega) ?_;rw[jbr,show(txU p).length / 3=1 by rw[WZ]];refine h _ (.osl (2*ub+1) ub 0 (P.length+1) 3) ⟨?_,.inr ⟨zS,ub,zO,zO,?_,zS,?_⟩⟩ (λb k f=>?_) (λt=>by rw[jlw];rfl) rfl rfl rfl ?_;intro q a;rw[aO,ae]at a;rcases a with a|rfl;have hi:=i.1 q a;refine⟨hi.nl,hi.lo,by have:=hi.hi;omega,?_⟩;have g:¬ 2*q.2=2*ub:=by have:=hi.hi;omega
 have j:¬ 2*q.2=2*u:=by have:=D q a;omega
 simpa[jH,g,j] using hi.ob;refine⟨hp.nl,zO,zO,?_⟩;have g:¬ 2*q.2=2*ub:=zO;have j:¬ 2*q.2=2*u:=zO;simpa[jH,g,j] using hp.ob;intro q a;rw[aO,ae]at a;rcases a with a|rfl;have:=(i.1 q a).hi;omega;omega;simp[jH];exact aK (by rw[j3 WZ];omega);have e:=k u L y;simp[jH,e,f];rfl
end
section
variable {E:Env}{st:St}{ub:Nat}{K:List FP->St->Prop}{d:Option Nat}{r:List AOpr}
theorem JV {sz n:Nat}{zero:List V}{a:List (Nat × Nat × A)}{cs:List V}(b:fill zero (jz (eval E st.tm) a)=some cs) (c:cs.length=n*sz) (hp:cs.all V.leaf=true)
 (h:Wy E r K (eval E st.tm) (.buildSl true sz zero a n) st d ub { v:=.osl (2*ub+1) ub 0 n sz,obs:=[(2*ub+1,⟨ub,.cells cs⟩)] }):jF E (⟨d,.buildSl true sz zero a n,none,true⟩::r) st ub K:=by
 rw[Jq rfl];simp only[aop,b,am,if_true];rw[if_pos ⟨c,hp⟩,Jj,jM];exact h
end
theorem jfs {b a:Type}{l:List b}{m:List a}(h:l.length=m.length):l.isEmpty=m.isEmpty:=by cases l <;> cases m <;> simp_all
def StO (ob:ZO) (lo hi:Nat) (l:List (List UInt8)) (v:V):Prop :=
 (l=[]/\v=.sl none true 0 [])\/(l≠[]/\∃u,lo<=u/\u<hi/\v=.osl (2*u+1) u 0 l.length 1/\ob (2*u+1)=some ⟨u,.cells (l.flatMap Jv)⟩)
theorem StO.frame {ob ob':ZO}{lo hi lo' hi':Nat}{l:List (List UInt8)}{v:V}(h:StO ob lo hi l v) (b:∀u,lo<=u->u<hi->ob' (2*u+1)=ob (2*u+1)) (g:lo'<=lo) (i:hi<=hi'):StO ob' lo' hi' l v:=by rcases h with h|⟨a,u,f,c,d,e⟩;exact .inl h;exact .inr ⟨a,u,zO,zO,d,by rw[b u f c];exact e⟩
theorem StO.leaf {ob:ZO}{lo hi:Nat}{l:List (List UInt8)}{v:V}(h:StO ob lo hi l v):v.leaf=true/\v.cells=[v]:=by rcases h with⟨_,rfl⟩|⟨_,u,_,_,rfl,_⟩ <;> exact⟨rfl,rfl⟩
theorem TsO.leaf {ob:ZO}{lo hi:Nat}{P:List (Txn' × Nat)}{v:V}(h:TsO ob lo hi P v):v.leaf=true/\v.cells=[v]:=by rcases h.2 with⟨_,rfl⟩|⟨_,u,_,_,_,rfl,_⟩ <;> exact⟨rfl,rfl⟩
theorem StO.out {st:St}{lo hi:Nat}{l:List (List UInt8)}{v:V}(h:StO st.ob lo hi l v) (e:st.ro<=lo):jc2 st v l.isEmpty l.length (l.flatMap Jv):=by
 rcases h with⟨rfl,rfl⟩|⟨b,u,f,d,rfl,c⟩;exact JR _ none true 0 [];have a:l.isEmpty=false:=by cases l <;> simp_all
 rw[a];exact ja2 c (by rw[j3 YO,bz]) zO (by rw[fF,aw];intro _ _;rfl)
theorem jD (st:St) (d:Option Nat) (v:V) (l k:Nat) (o':Obj') (ks:List Nat):(st.app d { v:=v,obs:=[(l,o')],kill:=ks }).ob k=if k=l then some o' else if ks.any (Nat.beq k) then none else st.ob k:=by simp[St.app,JS,j5]
theorem jfq {E:Env}{st:St}{ub:Nat}{K:List FP->St->Prop}{d:Option Nat}{r:List AOpr}{lo hi:Nat}{l:List (List UInt8)}{c:List UInt8}{s x:A}(w:StO st.ob lo hi l (eval E st.tm s)) (m:slCells st.ob 1 (eval E st.tm x)=some (Jv c)) (t:st.ro<=lo) (i:l.length<=1000)
 (h:∀j:List Nat,(∀k∈j,∃u,lo<=u/\u<hi/\k=2*u+1)->Wy E r K (eval E st.tm) (.append true 1 16 s x) st d ub { v:=.osl (2*ub+1) ub 0 (l.length+1) 1,obs:=[(2*ub+1,⟨ub,.cells ((l++[c]).flatMap Jv)⟩)],kill:=j }) :
 jF E (⟨d,.append true 1 16 s x,none,true⟩::r) st ub K:=by
 rw[Jq rfl];rcases w with⟨rfl,p⟩|⟨n,u,z,o,q,y⟩;simp only[aop,p,m,am];rw[if_neg (by simp[Jv]),if_pos (show(true && true)=true from rfl),if_pos ⟨zQ,rfl,by simp[Jv],by simp[Jv]⟩,Jj,jM];have:=h [] (λk b=>by cases b);have e:([]++[c]).flatMap Jv=Jv c:=zS;rw[e]at this;have g:(Jv c).length / 1=1:=by simp[Jv]
 rw[g];exact this;have f:objCells st.ob (2*u+1) u=some (l.flatMap Jv):=by simp[objCells,y]
 simp only[aop,q,m,am,f];have a:(l.flatMap Jv).length=l.length:=by rw[j3 YO,bz]
 rw[if_neg (by simp[Jv]),if_pos ⟨ce▸zO,trivial,trivial,by rw[a];omega,zQ,rfl,by simp[Jv];omega,by simp[Jv];omega⟩,jM];have:=h [2*u+1] (λk b=>by simp only[ae]at b;exact⟨u,z,o,b⟩);have e:(l++[c]).flatMap Jv=(l.flatMap Jv).take (l.length*1)++Jv c:=by rw[aK (by rw[a];omega),bT];simp
 rw[e]at this;have g:(Jv c).length / 1=1:=by simp[Jv]
 rw[g];exact this
theorem j2z {ks:List Nat}{key:Nat}(h:∀k∈ks,key≠k):ks.any (Nat.beq key)=false:=by rw[dQ];intro k a b;exact h k a (bm b)
def jgr:C:=tlC (tlC S51.body)
def jgq:C:=tlC jgr
def jjb:C:=tlC jgq
def j0w:C:=tlC jjb
structure FewO (h:Hist') (ob0:ZO) (ub ro:Nat) (s:St) (a b N1 N2:Nat) (Sv Kv Tv:V) (P:List (Txn' × Nat)):Prop where
 t1:s.tm 1=.ptr (2*ub+1) ub 0
 t2:s.tm 2=.ptr (2*(ub+64)+1) (ub+64) 0
 t3:s.tm 3=.ptr (2*(ub+192)+1) (ub+192) 0
 d:s.df=[]
 ro:s.ro=ro
 o1:s.ob (2*ub+1)=some ⟨ub,.cells (histC h)⟩
 o2:s.ob (2*(ub+64)+1)=some ⟨ub+64,.cells [.sl none true 0 [],.sl none true 0 [],.sl none true 0 []]⟩
 o3:s.ob (2*(ub+192)+1)=some ⟨ub+192,.cells [Sv,Kv,Tv]⟩
 gS:StO s.ob (ub+256) N1 (Yo a h.ss) Sv
 gK:StO s.ob N1 N2 (Yo b h.ks) Kv
 gT:TsO s.ob N2 s.nx P Tv
 n0:ub+256<=N1
 n1:N1<=N2
 n2:N2<=s.nx
 fr:∀key,(∀m,ub<=m->key≠2*m+1)->s.ob key=ob0 key
theorem few0S {h:Hist'}{Yf:YF}{ob:ZO}{tk:Nat->Bool}{ro base ub:Nat}{Q:Ex->St->Prop}(d:ro<=ub) (a:∀s,FewO h ob ub ro s 0 0 s.nx s.nx (.sl none true 0 []) (.sl none true 0 []) (.sl none true 0 []) []->wpC E Yf jgr s Q) :
 wpC E Yf S51.body (Jy [.agg (histC h)] ob tk ro base ub) Q:=by
 have e:S51.body=.seq (hdC S51.body) (.seq (hdC (tlC S51.body)) jgr):=rfl;rw[e];simp[hdC,tlC,S51,histC,objCells,j2];have a1:¬ 2*ub=2*(ub+64):=zO;have a2:¬ 2*ub=2*(ub+64+64+64):=zO;have a3:¬ 2*(ub+64)=2*(ub+64+64+64):=zO;refine⟨zO,a _ ⟨zS,zS,zS,zS,zS,by simp[histC,a1,a2],by simp[a3],zS,.inl ⟨rfl,rfl⟩,.inl ⟨rfl,rfl⟩,⟨zS,.inl ⟨rfl,rfl⟩⟩,zS,zK,zK,λc b=>?_⟩⟩;have f:=b ub zK;have i:=b (ub+64) zO;have g:=b (ub+64+64+64) zO;simp[f,i,g]
theorem j0z:jgr=.seq (hdC jgr) jgq:=rfl
theorem few1O {h:Hist'}{Yf:YF}{ob0:ZO}{ub ro:Nat}{L:St}{Q:Ex->St->Prop}(b7:ro<=ub) (hs:FewO h ob0 ub ro L 0 0 L.nx L.nx (.sl none true 0 []) (.sl none true 0 []) (.sl none true 0 []) [])
 (p:∀s D,FewO h ob0 ub ro s 25 0 s.nx s.nx D (.sl none true 0 []) (.sl none true 0 []) []->wpC E Yf jgq s Q):wpC E Yf jgr L Q:=by
 rw[j0z];obtain⟨o,J,t,K,fr,F,M,x,U,gK,gT,n0,n1,n2,I⟩:=hs;simp[hdC,jgr,tlC,S51];refine j6 [(4,4),(9,37)] 25 (λi s=>s.tm 4=.int .i64 i/\i<=h.ss.length/\∃D,FewO h ob0 ub ro s i 0 s.nx s.nx D (.sl none true 0 []) (.sl none true 0 []) []) rfl rfl ?_ ?_;refine⟨zS,zS,.sl none true 0 [],⟨by simp[o],by simp[J],by simp[t],by simp[K],by simp[fr],by simp[F],by simp[M],by simp[x],.inl ⟨rfl,rfl⟩,.inl ⟨rfl,rfl⟩,⟨zS,.inl ⟨rfl,rfl⟩⟩,by simp;omega,zK,zK,λa e=>by simp[I a e]⟩⟩;rintro i s hi ⟨H,b5,D,o,J,t,K,fr,F,M,x,U,gK,gT,n0,n1,n2,I⟩ f;clear f;have n:¬ (i<h.ss.length/\i<25)->∀g:St,(g.tm 1=s.tm 1/\g.tm 2=s.tm 2/\g.tm 3=s.tm 3)->g.df=s.df->g.ro=s.ro->g.ob=s.ob->s.nx<=g.nx->wpC E Yf jgq g Q:=by intro hx g ⟨q1,q2,q3⟩ e2 e3 z e5;refine p g D ⟨q1.trans o,q2.trans J,q3.trans t,by rw[e2];exact K,by rw[e3];exact fr,by rw[z];exact F,by rw[z];exact M,by rw[z];exact x,?_,.inl ⟨rfl,rfl⟩,⟨zS,.inl ⟨rfl,rfl⟩⟩,zO,zK,zK,λa e=>by rw[z];exact I a e⟩;rw[<- jpq b5 hi hx,z];exact U.frame (λ_ _ _=>rfl) zK e5
 have r:s.ob (2*ub+1)=some ⟨ub,.cells [slOf h.sn Jv h.ss,slOf h.kn Jv h.ks,slOf h.tn js h.ts]⟩:=F;by_cases b:i<h.ss.length;by_cases q:i<25;have hw:=jZ q zO;have d:(i:Int)<25:=zO;obtain⟨c,hc⟩:∃c,h.ss[i]=c:=⟨_,rfl⟩;have y:=jgy h.ss b;have m:=jlm b q;rw[hc]at y m;have G:=jfg c.length 100;have B:=joh (l:=c) (kk:=.i64) (eh c.length 100);have T:=jeo c;rw[T]at B;rw[show((100:Nat):Int)=100 from rfl]at G;simp[G,B,H,o,r,objCells,b,d,t,x,j7 YO,y];refine JV (cs:=[.str (c.take 100)]) (by simp[j2]) rfl rfl ?_;simp;have b6:s.nx<=(s.nx+64+64+64+64+64+64+64+64+64+64+64+64+64+64+64+64+64+64+64+64+64+64+64+64):=zO;have c0:s.nx<=(s.nx+64+64+64+64+64+64+64+64+64+64+64+64+64+64+64+64+64+64+64+64+64+64+64+64+64):=zO;have b9:(s.nx+64+64+64+64+64+64+64+64+64+64+64+64+64+64+64+64+64+64+64+64+64+64+64+64)<(s.nx+64+64+64+64+64+64+64+64+64+64+64+64+64+64+64+64+64+64+64+64+64+64+64+64+64):=zO;have b8:=jpo i h.ss;refine jfq (lo:=ub+256) (hi:=s.nx) (l:=Yo i h.ss) (c:=c.take 100) ?_ (by simp[slCells,objCells];rfl) (by simp[fr];omega) zO λks X=>?_;simp;refine U.frame (λu Z O=>?_) zK zK;have e1:¬ 2*u=2*(s.nx+64+64+64+64+64+64+64+64+64+64+64+64+64+64+64+64+64+64+64+64+64+64+64+64):=zO;simp[e1];rw[<- m];have w:(Yo i h.ss).length+1=(Yo (i+1) h.ss).length:=by rw[m];simp
 rw[w];have j:∀a,(∀u,ub+256<=u->u<s.nx->a≠2*u+1)->ks.any (Nat.beq a)=false:=λa e=>j2z λk S=>by obtain⟨u,Z,O,h3⟩:=X k S;rw[h3];exact e u Z O
 have P:=j (2*ub+1) (λu _ _=>by omega);have b0:=j (2*(ub+64)+1) (λu _ _=>by omega);have a0:=j (2*(ub+192)+1) (λu _ _=>by omega);have w1:¬ 2*ub=2*(s.nx+64+64+64+64+64+64+64+64+64+64+64+64+64+64+64+64+64+64+64+64+64+64+64+64+64):=zO;have w2:¬ 2*(ub+64)=2*(s.nx+64+64+64+64+64+64+64+64+64+64+64+64+64+64+64+64+64+64+64+64+64+64+64+64+64):=zO;have w3:¬ 2*(ub+192)=2*(s.nx+64+64+64+64+64+64+64+64+64+64+64+64+64+64+64+64+64+64+64+64+64+64+64+64+64):=zO;have w4:¬ 2*ub=2*(s.nx+64+64+64+64+64+64+64+64+64+64+64+64+64+64+64+64+64+64+64+64+64+64+64+64):=zO;have w5:¬ 2*(ub+64)=2*(s.nx+64+64+64+64+64+64+64+64+64+64+64+64+64+64+64+64+64+64+64+64+64+64+64+64):=zO;have w6:¬ 2*(ub+192)=2*(s.nx+64+64+64+64+64+64+64+64+64+64+64+64+64+64+64+64+64+64+64+64+64+64+64+64):=zO;have w7:¬ 2*(s.nx+64+64+64+64+64+64+64+64+64+64+64+64+64+64+64+64+64+64+64+64+64+64+64+64+64)=2*(ub+192):=zO;have w8:¬ 2*ub=2*(ub+192):=zO;have w9:¬ 2*(ub+64)=2*(ub+192):=zO;simp[t,objCells,jD,a0,w3,w6,x,fr,j2,H,hw];refine⟨zO,?_,?_⟩;simp[X5,Qn,jap,jb6,rdOb,rdTk,lOf,Delta.wo,Delta.wt];exact nbeq zO;have N:Yo (i+1) h.ss≠[]:=by rw[m];simp
 refine⟨q,zO,.osl (2*(s.nx+64+64+64+64+64+64+64+64+64+64+64+64+64+64+64+64+64+64+64+64+64+64+64+64+64)+1) (s.nx+64+64+64+64+64+64+64+64+64+64+64+64+64+64+64+64+64+64+64+64+64+64+64+64+64) 0 (Yo (i+1) h.ss).length 1,⟨by simp[o],by simp[J],by simp[t],by simp[K],by simp[fr],by simp[jD,P,w1,w4,w8,F],by simp[jD,b0,w2,w5,w9,M],zS,
  .inr ⟨N,(s.nx+64+64+64+64+64+64+64+64+64+64+64+64+64+64+64+64+64+64+64+64+64+64+64+64+64),zO,zS,rfl,by simp[jD,w7]⟩,.inl ⟨rfl,rfl⟩,⟨zS,.inl ⟨rfl,rfl⟩⟩,by simp;omega,zK,zK,λa e=>?_⟩⟩
 have k1:=e (ub+192) zO;have k2:=e (s.nx+64+64+64+64+64+64+64+64+64+64+64+64+64+64+64+64+64+64+64+64+64+64+64+64+64) zO;have k3:=e (s.nx+64+64+64+64+64+64+64+64+64+64+64+64+64+64+64+64+64+64+64+64+64+64+64+64) zO;have k4:=j a (λu Z O=>e u zO);simp[jD,k1,k2,k3,k4];exact I a e;have d:¬ (i:Int)<25:=zO;simp[H,o,r,objCells,b,d];exact n zO _ ⟨zS,zS,zS⟩ zS zS (by funext k;simp) (by simp;omega);simp[H,o,r,objCells,b];exact n zO _ ⟨zS,zS,zS⟩ zS zS (by funext k;simp) (by simp;omega)
theorem j0y:jgq=.seq (hdC jgq) jjb:=rfl
theorem few2O {h:Hist'}{Yf:YF}{ob0:ZO}{ub ro:Nat}{s0:St}{Q:Ex->St->Prop}{x:Nat}{S0:V}(b9:ro<=ub) (hs:FewO h ob0 ub ro s0 25 0 x s0.nx S0 (.sl none true 0 []) (.sl none true 0 []) [])
 (p:∀s D,FewO h ob0 ub ro s 25 45 x s.nx S0 D (.sl none true 0 []) []->wpC E Yf jjb s Q):wpC E Yf jgq s0 Q:=by
 rw[j0y];obtain⟨o,M,w,N,fr,G,S,z,O,gK,gT,L,n1,n2,K⟩:=hs;simp[hdC,jgq,jgr,tlC,S51];refine j6 [(5,5),(38,66)] 45 (λi s=>s.tm 5=.int .i64 i/\i<=h.ks.length/\∃D,FewO h ob0 ub ro s 25 i x s.nx S0 D (.sl none true 0 []) []) rfl rfl ?_ ?_;refine⟨zS,zS,.sl none true 0 [],⟨by simp[o],by simp[M],by simp[w],by simp[N],by simp[fr],by simp[G],by simp[S],by simp[z],O.frame (λ_ _ _=>by simp) zK zK,.inl ⟨rfl,rfl⟩,⟨zS,.inl ⟨rfl,rfl⟩⟩,L,by simp;omega,zK,λa g=>by simp[K a g]⟩⟩;rintro i s hi ⟨J,b7,D,o,M,w,N,fr,G,S,z,O,gK,gT,L,n1,n2,K⟩ f;clear f;have n:¬ (i<h.ks.length/\i<45)->∀j:St,(j.tm 1=s.tm 1/\j.tm 2=s.tm 2/\j.tm 3=s.tm 3)->j.df=s.df->j.ro=s.ro->j.ob=s.ob->s.nx<=j.nx->wpC E Yf jjb j Q:=by intro hx j ⟨q1,q2,q3⟩ e2 e3 t e5;refine p j D ⟨q1.trans o,q2.trans M,q3.trans w,by rw[e2];exact N,by rw[e3];exact fr,by rw[t];exact G,by rw[t];exact S,by rw[t];exact z,by rw[t];exact O,?_,⟨zS,.inl ⟨rfl,rfl⟩⟩,L,zO,zK,λa g=>by rw[t];exact K a g⟩;rw[<- jpq b7 hi hx,t];exact gK.frame (λ_ _ _=>rfl) zK e5
 have r:s.ob (2*ub+1)=some ⟨ub,.cells [slOf h.sn Jv h.ss,slOf h.kn Jv h.ks,slOf h.tn js h.ts]⟩:=G;by_cases d:i<h.ks.length;by_cases q:i<45;have hw:=jZ q zO;have e:(i:Int)<45:=zO;obtain⟨c,hc⟩:∃c,h.ks[i]=c:=⟨_,rfl⟩;have B:=jgy h.ks d;have m:=jlm d q;rw[hc]at B m;have H:=jfg c.length 100;have F:=joh (l:=c) (kk:=.i64) (eh c.length 100);have a0:=jeo c;rw[a0]at F;rw[show((100:Nat):Int)=100 from rfl]at H;simp[H,F,J,o,r,objCells,d,e,w,z,j7 YO,B];refine JV (cs:=[.str (c.take 100)]) (by simp[j2]) rfl rfl ?_;simp;have b8:s.nx<=(s.nx+64+64+64+64+64+64+64+64+64+64+64+64+64+64+64+64+64+64+64+64+64+64+64+64):=zO;have c2:s.nx<=(s.nx+64+64+64+64+64+64+64+64+64+64+64+64+64+64+64+64+64+64+64+64+64+64+64+64+64):=zO;have c1:(s.nx+64+64+64+64+64+64+64+64+64+64+64+64+64+64+64+64+64+64+64+64+64+64+64+64)<(s.nx+64+64+64+64+64+64+64+64+64+64+64+64+64+64+64+64+64+64+64+64+64+64+64+64+64):=zO;have c0:=jpo i h.ks;refine jfq (lo:=x) (hi:=s.nx) (l:=Yo i h.ks) (c:=c.take 100) ?_ (by simp[slCells,objCells];rfl) (by simp[fr];omega) zO λks b0=>?_;simp;refine gK.frame (λu P I=>?_) zK zK;have e1:¬ 2*u=2*(s.nx+64+64+64+64+64+64+64+64+64+64+64+64+64+64+64+64+64+64+64+64+64+64+64+64):=zO;simp[e1];rw[<- m];have y:(Yo i h.ks).length+1=(Yo (i+1) h.ks).length:=by rw[m];simp
 rw[y];have b:∀a,(∀u,x<=u->u<s.nx->a≠2*u+1)->ks.any (Nat.beq a)=false:=λa g=>j2z λk X=>by obtain⟨u,P,I,h3⟩:=b0 k X;rw[h3];exact g u P I
 have U:=b (2*ub+1) (λu _ _=>by omega);have b6:=b (2*(ub+64)+1) (λu _ _=>by omega);have b5:=b (2*(ub+192)+1) (λu _ _=>by omega);have w1:¬ 2*ub=2*(s.nx+64+64+64+64+64+64+64+64+64+64+64+64+64+64+64+64+64+64+64+64+64+64+64+64+64):=zO;have w2:¬ 2*(ub+64)=2*(s.nx+64+64+64+64+64+64+64+64+64+64+64+64+64+64+64+64+64+64+64+64+64+64+64+64+64):=zO;have w3:¬ 2*(ub+192)=2*(s.nx+64+64+64+64+64+64+64+64+64+64+64+64+64+64+64+64+64+64+64+64+64+64+64+64+64):=zO;have w4:¬ 2*ub=2*(s.nx+64+64+64+64+64+64+64+64+64+64+64+64+64+64+64+64+64+64+64+64+64+64+64+64):=zO;have w5:¬ 2*(ub+64)=2*(s.nx+64+64+64+64+64+64+64+64+64+64+64+64+64+64+64+64+64+64+64+64+64+64+64+64):=zO;have w6:¬ 2*(ub+192)=2*(s.nx+64+64+64+64+64+64+64+64+64+64+64+64+64+64+64+64+64+64+64+64+64+64+64+64):=zO;have w7:¬ 2*(s.nx+64+64+64+64+64+64+64+64+64+64+64+64+64+64+64+64+64+64+64+64+64+64+64+64+64)=2*(ub+192):=zO;have w8:¬ 2*ub=2*(ub+192):=zO;have w9:¬ 2*(ub+64)=2*(ub+192):=zO;simp[w,objCells,jD,b5,w3,w6,z,fr,j2,J,hw];refine⟨zO,?_,?_⟩;simp[X5,Qn,jap,jb6,rdOb,rdTk,lOf,Delta.wo,Delta.wt];exact nbeq zO;have T:Yo (i+1) h.ks≠[]:=by rw[m];simp
 refine⟨q,zO,.osl (2*(s.nx+64+64+64+64+64+64+64+64+64+64+64+64+64+64+64+64+64+64+64+64+64+64+64+64+64)+1) (s.nx+64+64+64+64+64+64+64+64+64+64+64+64+64+64+64+64+64+64+64+64+64+64+64+64+64) 0 (Yo (i+1) h.ks).length 1,⟨by simp[o],by simp[M],by simp[w],by simp[N],by simp[fr],by simp[jD,U,w1,w4,w8,G],by simp[jD,b6,w2,w5,w9,S],zS,
  O.frame (λu P I=>?_) zK zK,.inr ⟨T,(s.nx+64+64+64+64+64+64+64+64+64+64+64+64+64+64+64+64+64+64+64+64+64+64+64+64+64),zO,zS,rfl,by simp[jD,w7]⟩,⟨zS,.inl ⟨rfl,rfl⟩⟩,L,by first|omega|(simp;omega),zK,λa g=>?_⟩⟩
 have k1:¬ 2*u=2*(ub+192):=zO;have k2:¬ 2*u=2*(s.nx+64+64+64+64+64+64+64+64+64+64+64+64+64+64+64+64+64+64+64+64+64+64+64+64+64):=zO;have Z:¬ 2*u=2*(s.nx+64+64+64+64+64+64+64+64+64+64+64+64+64+64+64+64+64+64+64+64+64+64+64+64):=zO;have k4:=b (2*u+1) (λu' _ _=>by omega);simp[jD,k1,k2,Z,k4];have k1:=g (ub+192) zO;have k2:=g (s.nx+64+64+64+64+64+64+64+64+64+64+64+64+64+64+64+64+64+64+64+64+64+64+64+64+64) zO;have Z:=g (s.nx+64+64+64+64+64+64+64+64+64+64+64+64+64+64+64+64+64+64+64+64+64+64+64+64) zO;have k4:=b a (λu P I=>g u zO);simp[jD,k1,k2,Z,k4];exact K a g;have e:¬ (i:Int)<45:=zO;simp[J,o,r,objCells,d,e];exact n zO _ ⟨zS,zS,zS⟩ zS zS (by funext k;simp) (by simp;omega);simp[J,o,r,objCells,d];exact n zO _ ⟨zS,zS,zS⟩ zS zS (by funext k;simp) (by simp;omega)
section
end
section
end
section
end
section
end
section
end
section
end
section
end
def mrkC (n:Nat) (s:Nat->Bool):List V:=(List.range n).map λa=>V.bool (s a)
theorem j17 {n:Nat}{s:Nat->Bool}{a:Nat}(h:a<n):(mrkC n s)[a]? = some (.bool (s a)):=by simp[mrkC,h]
theorem juu (n:Nat) (s:Nat->Bool):(mrkC n s).length=n:=by simp[mrkC]
section
end
section
end
def H20:Hist':=⟨false,[[115]],false,[[120]],false,[⟨0,1,false,[⟨false,0,⟨0,0⟩⟩]⟩]⟩
end Go.Pv.T
namespace Go.Pv.T
open Go Go.Pv
end Go.Pv.T
namespace Go.Pv.T
open Go Go.Pv
end Go.Pv.T
namespace Go.Pv.T
open Go Go.Pv
end Go.Pv.T
namespace Go.Pv.T
open Go Go.Pv
theorem j0x:jjb=.seq (hdC jjb) j0w:=rfl
theorem few3O {h:Hist'}{Yf:YF}{ob0:ZO}{ub ro:Nat}{s0:St}{Q:Ex->St->Prop}{N1 I:Nat}{S0 K0:V}(c4:ro<=ub) (hs:FewO h ob0 ub ro s0 25 45 N1 I S0 K0 (.sl none true 0 []) [])
 (x:∀s G P,P.map (·.1)=(h.ts.take 45).map fewT->FewO h ob0 ub ro s 25 45 N1 I S0 K0 G P->wpC E Yf j0w s Q):wpC E Yf jjb s0 Q:=by
 rw[j0x];obtain⟨r,f2,H,fd,fr,T,o2,K,gS,gK,gT,n0,n1,n2,ff⟩:=hs;simp[hdC,jjb,jgq,jgr,tlC,S51];refine j6 [(6,7),(67,98)] 45 (λi s=>s.tm 6=.int .i64 i/\i<=h.ts.length/\∃G P,P.map (·.1)=(h.ts.take i).map fewT/\FewO h ob0 ub ro s 25 45 N1 I S0 K0 G P) rfl rfl ?_ ?_;refine⟨zS,zS,.sl none true 0 [],[],zS,⟨by simp[r],by simp[f2],by simp[H],by simp[fd],by simp[fr],by simp[T],by simp[o2],by simp[K],gS.frame (λ_ _ _=>by simp) zK zK,gK.frame (λ_ _ _=>by simp) zK zK,⟨zS,.inl ⟨rfl,rfl⟩⟩,n0,n1,by simp;omega,λa e=>by simp[ff a e]⟩⟩;rintro i s hi ⟨h4,b9,G,P,hP,r,f2,H,fd,fr,T,o2,K,gS,gK,gT,n0,n1,n2,ff⟩ f;clear f;have q:¬ (i<h.ts.length/\i<45)->∀m:St,(m.tm 1=s.tm 1/\m.tm 2=s.tm 2/\m.tm 3=s.tm 3)->m.df=s.df->m.ro=s.ro->m.ob=s.ob->s.nx<=m.nx->wpC E Yf j0w m Q:=by intro hx m ⟨q1,q2,q3⟩ n e3 B e5;refine x m G P (hP.trans (j5v b9 hi hx)) ⟨q1.trans r,q2.trans f2,q3.trans H,by rw[n];exact fd,by rw[e3];exact fr,by rw[B];exact T,by rw[B];exact o2,by rw[B];exact K,by rw[B];exact gS,by rw[B];exact gK,?_,n0,n1,zO,λa e=>by rw[B];exact ff a e⟩;exact gT.frame (λ_ _ _=>by rw[B]) e5
 have F:s.ob (2*ub+1)=some ⟨ub,.cells [slOf h.sn Jv h.ss,slOf h.kn Jv h.ks,slOf h.tn js h.ts]⟩:=T;by_cases o:i<h.ts.length;by_cases S:i<45;have hw:=jZ S zO;have j:(i:Int)<45:=zO;obtain⟨t,ht⟩:∃t,h.ts[i]=t:=⟨_,rfl⟩;have D:=jfg t.ops.length 25;rw[show((25:Nat):Int)=25 from rfl]at D;have X:=jx4 jL t.nl t.ops 25 .i64;have b7:min t.ops.length 25=(t.ops.take 25).length:=by rw[ap,Nat.min_comm]
 rw[b7]at X D;generalize hL:t.ops.take 25=L at *;have c7:L.length<=25:=by rw[<- hL,ap];omega
 have a0:(L.flatMap opC).all V.leaf=true:=by rw[fF,aw];intro _ _;rfl
 obtain⟨z,hz⟩:∃z,s.nx=z:=⟨_,rfl⟩;simp[h4,r,F,objCells,o,j,j7 jA,jh jA,ht,js,fr,j2,hz];refine⟨zO,?_⟩;refine ja (cs:=[]) rfl rfl rfl ?_;simp[objCells];obtain⟨d,hB⟩:∃y,(z+64+64+64+64+64+64+64+64+64+64+64+64+64+64+64+64)=y:=⟨_,rfl⟩;obtain⟨b,hA⟩:∃y,(z+64+64+64+64+64+64+64+64+64+64+64+64+64+64)=y:=⟨_,rfl⟩;have c8:d=b+128:=zO;have c9:z+896=b:=zO;rw[hB,hA];have w1:¬ 2*b=2*d:=zO;have w2:¬ 2*d=2*b:=zO;simp[objCells,w1,D,X];refine jz0 (f:=opC) (l:=L) (z:=d) zS zS (by simp[fr];omega) (by simp[slOf,slCells,j3 jL]) jL zQ a0 zO zO ?_;intro s1 u hu c0 cf M cd cr cb ck;have c6:d<=u:=zO;have c1:u<=d+512:=zO;have cA:s1.ob (2*b+1)=some ⟨b,.cells [.int .i64 t.s,.int .i64 t.f,slOf t.nl opC t.ops]⟩:=by rw[cf _ zO zO];simp[w1]
 have cO:∀a,a≠2*b+1->a≠2*d+1->a≠2*(d+512)+1->s1.ob a=s.ob a:=by intro a k1 k2 k3;rw[cf _ k2 zO];simp[k1,k2]
 have v1:¬ 2*b=2*(ub+192):=zO;have v2:¬ 2*(ub+192)=2*b:=zO;have c3:s1.ob (2*(ub+192)+1)=some ⟨ub+192,.cells [S0,K0,G]⟩:=(cO _ zO zO zO).trans K;have b5:ro<=b:=zO;simp[M,objCells,cA,cr,fr,j2,H,c3,v2,b5];obtain⟨p,hp⟩:∃p,(fewT t,u)=p:=⟨_,rfl⟩;have Z:txU p=[.int .i64 t.s,.int .i64 t.f,.osl (2*u+1) u 0 L.length 4]:=by rw[<- hp];simp[txU,fewT,<- hL]
 refine ja (cs:=txU p) (by rw[Z];simp[j2]) rfl (by rw[Z];rfl) ?_;simp;obtain⟨O,hE⟩:∃y,(d+64+64+64+64+64+64+64+64+64+64+64+64+64+64)=y:=⟨_,rfl⟩;have c5:d+896=O:=zO;rw[hE];have c2:P.length=i:=by have:=congrArg List.length hP;rw[bC,bC,ap]at this;omega
 have w:p.2=u:=by rw[<- hp]
 have N:p.1=fewT t:=by rw[<- hp]
 have b0:p.1.ops=L:=by rw[N];exact hL
 rw[hz]at gT n2;have g:∀y,y<z->s1.ob (2*y+1)=s.ob (2*y+1):=λy y2=>cO _ zO zO zO;refine jni (lo:=I) (hi:=z) (P:=P) (p:=p) ?_ zO (by simp[cr,fr];omega) (by simp[slCells,objCells];rfl) ?_ n2 zO ?_;simp;refine gT.frame (λy y1 y2=>?_) zK;have c:¬ 2*y=2*O:=zO;have n:¬ 2*y=2*b:=zO;simp[c,n];exact g y y2;refine⟨by rw[N];rfl,by rw[w];omega,by rw[w];omega,L.flatMap opC,?_,?_,?_⟩;rw[w];have c:¬ 2*u=2*O:=zO;have n:¬ 2*u=2*b:=zO;simp[c,n];exact c0;rw[b0,j3 jL];exact dr _;rw[b0,<- j3 jL,bh];intro s4 v4 U x4 xt xd xr xb xk;obtain⟨J,b8⟩:=U.leaf;have x5:∀y,(y<I)->s4.ob (2*y+1)=s.ob (2*y+1):=by intro y hy;rw[x4 _ (λy y1 y2=>by omega) zO];have c:¬ 2*y=2*O:=zO;have n:¬ 2*y=2*b:=zO;simp[c,n];exact g y zO
 have x3:=(x5 (ub+192) zO).trans K;have b6:(P++[p]).map (·.1)=(h.ts.take (i+1)).map fewT:=by rw[bF,hP,ay o,bF,ht,<- hp];rfl
 simp[xt,M,H,objCells,x3,xr,cr,fr,j2,J,b8,h4,hw];have b1:¬ 2*ub=2*(ub+192):=zO;have b2:¬ 2*(ub+64)=2*(ub+192):=zO;refine⟨zO,S,zO,v4,P++[p],by rw[b6,List.map_take],⟨by simp[xt,M,r],by simp[xt,M,f2],by simp[xt,M,H],by simp[xd,cd,fd],by simp[xr,cr,fr],by simp[b1];exact(x5 ub zO).trans T,by simp[b2];exact(x5 (ub+64) zO).trans o2,zS,
  gS.frame (λy h1 h2=>?_) zK zK,gK.frame (λy h1 h2=>?_) zK zK,U.frame (λy h1 h2=>?_) (by simp <;> omega),n0,n1,by simp <;> omega,λa e=>?_⟩⟩
 have c:¬ 2*y=2*(ub+192):=zO;simp[c];exact x5 y zO;have c:¬ 2*y=2*(ub+192):=zO;simp[c];exact x5 y zO;have c:¬ 2*y=2*(ub+192):=zO;simp[c];have c:=e (ub+192) zO;have n:=e O zO;have e3:=e b zO;simp[c];rw[x4 _ (λy y1 y2=>e y zO) (e _ zO)];simp[n,e3];exact(cO a e3 (e d zO) (e (d+512) zO)).trans (ff a e);have j:¬ (i:Int)<45:=zO;simp[h4,r,F,objCells,o,j];exact q zO _ ⟨zS,zS,zS⟩ zS zS (by funext k;simp) (by simp;omega);simp[h4,r,F,objCells,o];exact q zO _ ⟨zS,zS,zS⟩ zS zS (by funext k;simp) (by simp;omega)
def FewP (h:Hist') (ob:ZO) (ub:Nat) (r:V × (ZO) × (Nat->Bool) × Nat):Prop :=
 ∃Sv Kv Tv P N1 N2,r.1=.agg [Sv,Kv,Tv]/\StO r.2.1 (ub+256) N1 (Yo 25 h.ss) Sv/\StO r.2.1 N1 N2 (Yo 45 h.ks) Kv/\TsO r.2.1 N2 r.2.2.2 P Tv/\P.map (·.1)=(h.ts.take 45).map fewT/\ub+256<=N1/\N1<=N2/\N2<=r.2.2.2 /\
  ∀key,(∀m,ub<=m->key≠2*m+1)->r.2.1 key=ob key
theorem sv51 {Yf:YF}{h:Hist'}{ob:ZO}{tk:Nat->Bool}{ro base ub:Nat}(a:ro<=ub):∃r,EvS E Yf.y 51 [.agg (histC h)] ob tk ro base ub r/\FewP h ob ub r:=by refine Ja (af:=S51) rfl zQ ?_;show wpC E Yf S51.body _ (XD S51.res _);refine few0S a λO d=>?_;refine few1O a d λM m c=>?_;refine few2O a c λS p B=>?_;refine few3O a B λI k P F t=>?_;obtain⟨L,o,G,q,fr,N,w,z,i,j,n,x,H,U,u⟩:=t;obtain⟨lS,J⟩:=i.leaf;obtain⟨D,K⟩:=j.leaf;obtain⟨s,T⟩:=n.leaf;have b1:¬ 2*(ub+192)=2*(ub+64):=zO;have g:S51.res=[.cell 2 (some 3)]:=rfl;rw[g];generalize e:XD [.cell 2 (some 3)] (FewP h ob ub)=Q;simp[j0w,jjb,jgq,jgr,tlC,S51,o,G,w,z,objCells,fr,j2,lS,D,s];refine⟨zO,?_⟩;rw[<- e];refine⟨(.agg [m,p,k],_,_,_),by simp[endS,q,jo,o,objCells];exact⟨rfl,rfl,rfl⟩,m,p,k,P,_,_,rfl,i.frame (λy d c=>?_) zK zK,j.frame (λy d c=>?_) zK zK,n.frame (λy d c=>?_) ?_,F,x,H,?_,λf l=>?_⟩;have b:¬ 2*y=2*(ub+64):=zO;simp[b];have b:¬ 2*y=2*(ub+64):=zO;simp[b];have b:¬ 2*y=2*(ub+64):=zO;simp[b];simp;omega;simp;omega;have b:=l (ub+64) zO;simp[b];exact u f l
def jcb (t:Txn'):Txn':={ t with ops:=t.ops.take 6 }
def Qe (h:Hist'):Hist':=if 8<(jdg h).ts.length then { jdg h with tn:=true,ts:=[] } else { jdg h with ts:=(jdg h).ts.map jcb }
def mixT (P:List (Txn' × Nat)) (i:Nat):List (Txn' × Nat):=P.mapIdx λj p=>if j<i then (jcb p.1,p.2) else p
theorem Wj {P:List (Txn' × Nat)}{i:Nat}:(mixT P i).length=P.length:=by simp[mixT]
theorem juv {P:List (Txn' × Nat)}:mixT P 0=P:=by apply dj;intro n;simp[mixT]
theorem jzf {P:List (Txn' × Nat)}:(mixT P P.length).map (·.1)=(P.map (·.1)).map jcb:=by
 apply dj;intro n;simp only[mixT,aX,List.getElem?_mapIdx];cases h:P[n]? with
 | none=>rfl
 | some o=>have:=(ak.1 h).1;simp[this]
theorem jnb {P:List (Txn' × Nat)}{i:Nat}(h:i<P.length):(mixT P i)[i]'(by rw[Wj];exact h)=P[i]:=by simp[mixT]
theorem jk3 {P:List (Txn' × Nat)}{i:Nat}(_:i<P.length):mixT P (i+1)=(mixT P i).modify i λp=>(jcb p.1,p.2):=by
 apply dj;intro n;simp only[mixT,List.getElem?_mapIdx,List.getElem?_modify];cases c:P[n]? with
 | none=>simp
 | some o=>simp only[aU,Option.map_eq_map];by_cases b:i=n;subst b;simp;simp only[if_neg b];by_cases a:n<i;rw[if_pos a,if_pos zO];rw[if_neg zO,if_neg a]
theorem jsr:∀ {P:List (Txn' × Nat)}{i:Nat}(h:i<P.length),j2 (P.flatMap txU) (i*3+2) [.osl (2*(P[i]).2+1) (P[i]).2 0 (jcb (P[i]).1).ops.length 4]=(P.modify i λp=>(jcb p.1,p.2)).flatMap txU
 | [],_,h=>by simp at h
 | p::P,0,_=>by simp[fD,j2,txU,jcb]
 | p::P,i+1,h=>by
  have a:=jsr (P:=P) (i:=i) (by simpa using h);simp only[fD,Nat.add_one_ne_zero,if_false,eV,bl,ia];rw[<- a];have:(i+1)*3+2=(txU p).length+(i*3+2):=by simp;omega
  rw[this];simp only[j2,aG];rw[eT,gE];simp only[aY]
theorem InO.six {ob:ZO}{lo hi:Nat}{p:Txn' × Nat}(h:InO ob lo hi p):InO ob lo hi (jcb p.1,p.2):=by
 obtain⟨X,a,c,b⟩:=h.ob;refine⟨h.nl,h.lo,h.hi,X,a,?_,?_⟩;simp only[jcb,ap];omega;have e:X.take ((jcb p.1).ops.length*4)=(X.take (p.1.ops.length*4)).take ((jcb p.1).ops.length*4):=by rw[eC];congr 1;simp only[jcb,ap];omega
 rw[e,b,jxu];congr 1;simp only[jcb,ap];rcases gV p.1.ops.length 6 with h'|h';rw[fw h',bh,aK h'];rw[cP h']
theorem jx6 {L u n i:Nat}(h:i<=n):YZ 4 none (some (.int .i64 (i:Int))) (.osl L u 0 n 4)=some (.osl L u 0 i 4):=by simp[YZ,Jg,h]
theorem TsO.len {ob:ZO}{lo hi:Nat}{P:List (Txn' × Nat)}{v:V}(h:TsO ob lo hi P v):Qu v=some (.int .i64 P.length):=by rcases h.2 with⟨rfl,rfl⟩|⟨_,u,_,_,_,rfl,_⟩ <;> rfl
theorem ev15 (h:Hist'):∃v,Ev E 15 [.agg (histC h)] v/\jr8 v (Qe h):=by
 refine JZ (af:=F15) rfl zQ ?_;generalize b0:(Qm [.cell 2 (some 3)] λr=>jr8 r (Qe h))=PP;simp[F15,histC,objCells,b0];refine jV (vs:=[.agg (histC h)]) (by simp[histC]) rfl (sv51 (h:=h) (cL _)) ?_;rintro v b8 d0 B ⟨Sv,Kv,Tv,P,X,M,hv,D,F,T,hP,n0,n1,n2,ff⟩;simp only at hv D F T hP n0 n1 n2 ff;subst hv;obtain⟨lS,cS⟩:=D.leaf;obtain⟨lK,cK⟩:=F.leaf;obtain⟨lT,cT⟩:=T.leaf;have c1:=T.len;have b1:b8 1=some ⟨0,.cells (histC h)⟩:=by rw[ff 1 (λm hm=>by omega)];simp[histC]
 have b2:b8 129=some ⟨64,.cells [.sl none true 0 [],.sl none true 0 [],.sl none true 0 []]⟩:=by rw[ff 129 (λm hm=>by omega)];simp
 have e1:(Qe h).ss=Yo 25 h.ss:=by unfold Qe;split <;> rfl
 have e2:(Qe h).sn=(Yo 25 h.ss).isEmpty:=by unfold Qe;split <;> rfl
 have e3:(Qe h).ks=Yo 45 h.ks:=by unfold Qe;split <;> rfl
 have e4:(Qe h).kn=(Yo 45 h.ks).isEmpty:=by unfold Qe;split <;> rfl
 have G:(jdg h).ts.length=P.length:=by show((h.ts.take 45).map fewT).length=P.length;rw[<- hP,bC]
 simp[b1,objCells,histC,j2];generalize hK:jsc E YC _ PP=K;have H:∀ (s:St) (c:List (Txn' × Nat)) (o:V),c.length<=8->(Qe h).ts=(c.map (·.1)).map jcb->(Qe h).tn=c.isEmpty->s.tm 1=.ptr 1 0 0->s.tm 2=.ptr 129 64 0->s.df=[]->s.ro=0->s.fb=0->B<=s.nx ->
  s.ob 1=some ⟨0,.cells [Sv,Kv,o]⟩->s.ob 129=some ⟨64,.cells [.sl none true 0 [],.sl none true 0 [],.sl none true 0 []]⟩->StO s.ob (192+256) X (Yo 25 h.ss) Sv->StO s.ob X M (Yo 45 h.ks) Kv->TsO s.ob M B c o->K .nrm s:=by
  intro s c o d1 b6 c0 g1 g2 gd gr gb gn p1 p2 D F T
  rw[<- hK,ji4]
  clear hK
  have c3:=T.leaf
  simp
  refine j6 [(3,3),(11,37)] c.length (λi s=>s.tm 3=.int .i64 i/\s.ob 1=some ⟨0,.cells [Sv,Kv,o]⟩/\s.ob 129=some ⟨64,.cells [.sl none true 0 [],.sl none true 0 [],.sl none true 0 []]⟩/\StO s.ob (192+256) X (Yo 25 h.ss) Sv/\StO s.ob X M (Yo 45 h.ks) Kv/\TsO s.ob M B (mixT c i) o) rfl rfl
   ⟨zS,by simp[p1],by simp[p2],D.frame (λ_ _ _=>by simp) zK zK,F.frame (λ_ _ _=>by simp) zK zK,by rw[juv];exact T.frame (λ_ _ _=>by simp) zK⟩ ?_
  clear D F
  rintro i Z hi ⟨h3,o1,o2,D,F,gX⟩ f
  have f1:Z.tm 1=.ptr 1 0 0:=by rw[f.t 1 zS];simp[g1]
  have f2:Z.tm 2=.ptr 129 64 0:=by rw[f.t 2 zS];simp[g2]
  have fd:Z.df=[]:=by rw[f.d];simp[gd]
  have fb:Z.fb=0:=by rw[f.b];simp[gb]
  have fr:Z.ro=0:=by rw[f.r];simp[gr]
  clear f
  have Q:=gX.len
  rw[Wj]at Q
  by_cases j:i<c.length
  ·have hw:=jZ j zO;have p:i<(mixT c i).length:=by rw[Wj];exact j
   rcases gX.2 with⟨he,_⟩|⟨c9,u,h1,h2,h4,rfl,h5⟩;rw[he]at p;simp at p;have d2:=gX.1 (c[i]) (by rw[<- jnb j];exact av p);have b7:JX 3 (.osl (2*u+1) u 0 (mixT c i).length 3) (.int .i64 (i:Int))=some (.ptr (2*u+1) u (i*3)):=by simp[JX,p]
   have S:((mixT c i).flatMap txU)[i*3+2]? = some (.osl (2*(c[i]).2+1) (c[i]).2 0 (c[i]).1.ops.length 4):=by rw[jU WZ _ p (by decide:2<3),jnb j];rfl
   have k:=jsr (P:=mixT c i) (i:=i) p;rw[<- jk3 j]at k;simp only[jnb j]at k;have b9:=jfg (c[i]).1.ops.length 6;rw[show((6:Nat):Int)=6 from rfl]at b9;have c6:=λL u=>jx6 (L:=L) (u:=u) (n:=(c[i]).1.ops.length) (i:=min (c[i]).1.ops.length 6) (eh _ _);have c2:(jcb (c[i]).1).ops.length=min (c[i]).1.ops.length 6:=by simp only[jcb,ap,Nat.min_comm]
   rw[c2]at k;have c4:¬ 2*u=0:=zO;have c5:¬ 2*u=128:=zO;have b5:i*3+2+1<=((mixT c i).flatMap txU).length:=by rw[j3 WZ];omega
   simp[h3,f1,o1,objCells,Q,j,b7,h5,S,b9,c6,fr,c4,c5,k];have I:∀q∈mixT c (i+1),InO Z.ob M B q/\q.2≠u:=by intro q I;rw[jk3 j]at I;rcases jhn I with I|⟨x,hx,rfl⟩;exact⟨gX.1 q I,h4 q I⟩;have a0:=aI hx;exact⟨(gX.1 x a0).six,h4 x a0⟩
   have O:(mixT c (i+1)).length=(mixT c i).length:=by rw[Wj,Wj]
   refine⟨by have:=b5;simp only[List.length_flatMap,WZ]at this;exact this,hw,o2,D.frame (λy y1 y2=>?_) zK zK,F.frame (λy y1 y2=>?_) zK zK,λq N=>?_,.inr ⟨?_,u,h1,h2,λq N=>(I q N).2,by rw[O],zS⟩⟩;have w:¬ 2*y=2*u:=zO;simp[w];have w:¬ 2*y=2*u:=zO;simp[w];obtain⟨a,b⟩:=I q N;have w:¬ 2*q.2=2*u:=zO;exact a.frame (by simp[w]) zK;intro e;rw[e]at O;simp at O;omega
  ·have:i=c.length:=zO;subst this;simp[h3,f1,o1,objCells,Q,f2,o2,j2,fr,D.leaf.1,F.leaf.1,c3.1];rw[<- b0];have c7:(mixT c c.length).isEmpty=(Qe h).tn:=by rw[c0];exact jfs Wj
   refine kE1 (g:=Qe h) (l:=129) (u:=64) (x:=Sv) (y:=Kv) (z:=o) (by simp[fd]) (by simp[f2]) zS ?_ ?_ ?_;rw[e1,e2];refine StO.out (lo:=192+256) (hi:=X) (D.frame (λy J q2=>?_) zK zK) (by simp[fr]);have w:¬ 2*y=128:=zO;simp[w];rw[e3,e4];refine StO.out (lo:=X) (hi:=M) (F.frame (λy J q2=>?_) zK zK) (by simp[fr]);have w:¬ 2*y=128:=zO;simp[w];have c8:(Qe h).ts.length=(mixT c c.length).length:=by rw[b6,Wj];simp
   rw[c8,<- c7,b6,<- jzf];refine TsO.out (lo:=M) (hi:=B) (gX.frame (λy J q2=>?_) zK) (by simp[fr]);have w:¬ 2*y=128:=zO;simp[w]
 refine⟨⟨lS,lK,lT⟩,?_⟩;simp[c1];have J:∀y,192<=y->¬ 2*y=0:=λy hy=>by omega
 by_cases h8:8<P.length;have U:(8:Int)<(P.length:Int):=zO;simp[U,objCells,j2];exact H _ [] (.sl none true 0 []) zS (by unfold Qe;rw[if_pos (by rw[G];exact h8)];rfl) (by unfold Qe;rw[if_pos (by rw[G];exact h8)];rfl) zS zS zS zS zS (by simp <;> omega) zS (by simp[b2])
  (D.frame (λy y1 y2=>by simp[J y zO]) zK zK) (F.frame (λy y1 y2=>by simp[J y zO]) zK zK) ⟨zS,.inl ⟨rfl,rfl⟩⟩
 have U:¬ (8:Int)<(P.length:Int):=zO;simp[U];exact H _ P Tv zO (by unfold Qe;rw[if_neg (by rw[G];exact h8),hP];rfl) (by unfold Qe;rw[if_neg (by rw[G];exact h8)];show((h.ts.take 45).map fewT).isEmpty=_;rw[<- hP];exact jfs zS) zS zS zS zS zS (by simp <;> omega) zS (by simp[b2])
  (D.frame (λy y1 y2=>by simp[J y zO]) zK zK) (F.frame (λy y1 y2=>by simp[J y zO]) zK zK) (T.frame (λy y1 y2=>by simp[J y zO]) zK)
theorem j73 (h:Hist'):Small (Qe h):=by have a:=js4 h;unfold Qe;split;exact⟨a.ss,a.sl,a.ks,a.kl,zS,zS⟩;refine⟨a.ss,a.sl,a.ks,a.kl,by simpa using a.ts,λt c=>?_⟩;simp only[aJ]at c;obtain⟨d,b,rfl⟩:=c;have:=a.os d b;simp only[jcb,ap];omega
theorem j0v (h:Hist'):Qe (Qe h)=Qe h:=by
 have b:Yo 25 (jdg h).ss=(jdg h).ss:=jpp 25 h.ss;have d:Yo 45 (jdg h).ks=(jdg h).ks:=jpp 45 h.ks;by_cases c:8<(jdg h).ts.length;have e:Qe h = { jdg h with tn:=true,ts:=[] }:=by unfold Qe;rw[if_pos c]
 have a:jdg { jdg h with tn:=true,ts:=[] } = { jdg h with tn:=true,ts:=[] }:=by show Hist'.mk _ _ _ _ _ _=_;simp only[b,d];rfl
 rw[e];unfold Qe;rw[a];rfl;have e:Qe h = { jdg h with ts:=(jdg h).ts.map jcb }:=by unfold Qe;rw[if_neg c]
 have f:(((jdg h).ts.map jcb).take 45).map fewT=(jdg h).ts.map jcb:=by show((((h.ts.take 45).map fewT).map jcb).take 45).map fewT=((h.ts.take 45).map fewT).map jcb;rw[<- List.map_take,<- List.map_take,eC,cU,cU,cU];refine dx λt _=>?_;simp[fewT,jcb,eC]
 have a:jdg { jdg h with ts:=(jdg h).ts.map jcb } = { jdg h with ts:=(jdg h).ts.map jcb }:=by show Hist'.mk _ _ _ _ _ _=_;simp only[b,d,f];simp[jdg];cases h.ts <;> simp
 rw[e];unfold Qe;rw[a];have g:¬ 8<((jdg h).ts.map jcb).length:=by simpa using c
 simp only;rw[if_neg g,cU];congr 1;refine dx λt _=>?_;simp[jcb,eC]
end Go.Pv.T
namespace Go.Pv.T
open Go Go.Pv
end Go.Pv.T
namespace Go.Pv.T
open Go Go.Pv
theorem f20:Small H20:=⟨zQ,zQ,zQ,zQ,zQ,zQ⟩
theorem j5w (h:Hist'):(Qe h).ts.length<=8:=by unfold Qe;split;simp;rename_i a;simp only[bC];omega
theorem ev25t (b:Bool) (l:List Int) (d:l.length<=1000000000):Ev E 25 [slOf b intC l] (.sl (some (0,1)) false l.length (l.flatMap intC)):=by
 refine jS (af:=F25) rfl ?_;conv in (occs := *) F25=> all_goals cbv
 simp[F25];refine jG (cs:=[]) rfl rfl rfl ?_;simp;cases l with
 | nil=>rw[jN _ rfl rfl];simp[aop,slOf,slCells,WU];exact QO (u:=64) zS zS (by simp[ji])
 | cons a l=>
  refine J1 (u:=64) (nl:=false) (n:=0) (cs:=[]) (ys:=(a::l).flatMap intC) zS (by simp[ji]) (by simp[jc5 j9]) (by simp[intC]) zS zQ (by simp[intC,V.pureLeaf]) (by rw[j3 j9];omega) (by rw[j3 j9];omega) ?_;have c:((a::l).flatMap intC).length / 1=(a::l).length:=by rw[j3 j9];simp
  rw[c,bM,dl];simp;exact QO (u:=192) zS zS (by simp[ji])
section
variable {E:Env}{st:St}{ub:Nat}{K:List FP->St->Prop}{d:Option Nat}{nm:Bool}{r:List AOpr}
theorem JN {a b:Nat}(h:a≠b):Nat.beq a b=false:=by cases c:Nat.beq a b;rfl;exact absurd (bm c) h
theorem kD_evT {f:FuncId}{xs:List A}{args:List V}{n:Nat}{cs:List V}(a:Ev E f args (.sl (some (0,1)) false n cs)) (c:(xs.map λx=>(eval E st.tm x).strip)=args) (b:E.sh nm f=false) (hp:args.all V.pureTop=true)
 (h:∀u,u=ub->Wy E r K (eval E st.tm) (.call f xs) st d ub { v:=.sl (some (u,1)) false n cs,add:=[u] }):jF E (⟨d,.call f xs,none,nm⟩::r) st ub K:=by
 refine Js a c b hp ?_;rw[jdy];rw[jM];exact h ub rfl
end
section
end
def JO (g:Hist') (x:Int):Int:=if x<0 then g.ts.length else x
def jyb (g:Hist') (i:Nat):List P2:=((g.ts.length:Int),(comL g).getD i 0)::((List.range i).filter λk=>sesAt g ((comL g).getD k 0).toNat == sesAt g ((comL g).getD i 0).toNat).map λk=>((comL g).getD k 0,(comL g).getD i 0)
def jw7 (g:Hist') (M:List Int) (i:Nat):P2:=(JO g (M.getD i 0),((readH g).getD i (0,0)).1)
def askE (g:Hist') (M:List Int) (seen:List Int) (i:Nat):List P2:=(seen.filter λt=>W3 g t (jgn g ((readH g).getD i (0,0))) && (t != M.getD i 0)).map λt=>(t,JO g (M.getD i 0))
def Jw (g:Hist') (lvl:Int) (M:List Int) (i:Nat):List Int:=jcd g lvl M [] ((readH g).getD i (0,0))
def satB (g:Hist') (lvl:Int) (M:List Int) (a b:Nat):Bool :=
 (a == g.ts.length && XP g b) || ((XP g a && XP g b && decide (a<b) && (sesAt g a == sesAt g b)) ||
  (List.range (readH g).length).any λi=>jw7 g M i == ((a:Int),(b:Int)) || (askE g M (Jw g lvl M i) i).contains ((a:Int),(b:Int)))
def jjm (g:Hist') (lvl:Int) (M:List Int) (l:List P2):Prop:=∀z,z∈l ↔ (∃i,i<(comL g).length/\z∈jyb g i)\/∃i,i<(readH g).length/\(z=jw7 g M i\/z∈askE g M (Jw g lvl M i) i)
section
variable {g:Hist'}{lvl:Int}{M:List Int}
theorem jlq {i:Nat}(h:i<(comL g).length):∃k:Nat,(comL g).getD i 0=k/\XP g k=true/\k<g.ts.length:=by
 have e:(comL g).getD i 0=(comL g)[i]:=by simp[ag,aa h]
 obtain⟨k,b,a⟩:=comL_mem.1 (av h);exact⟨k,by rw[e,b],a,Yu a⟩
theorem j2v {i k:Nat}(hi:i<(comL g).length) (b:k<i):(comL g).getD k 0<(comL g).getD i 0:=by
 have a:=j6c g;have c:(comL g).getD i 0=(comL g)[i]:=by simp[ag,aa hi]
 have d:(comL g).getD k 0=(comL g)[k]' zO:=by simp[ag,aa (show k<(comL g).length by omega)]
 rw[c,d];exact dX.1 a k i zO hi b
theorem jhb {i:Nat}(h:i<(readH g).length):∃k:Nat,((readH g).getD i (0,0)).1=k/\XP g k=true/\k<g.ts.length:=by
 have e:(readH g).getD i (0,0)=(readH g)[i]:=by simp[ag,aa h]
 obtain⟨k,b,a⟩:=comL_mem.1 (jyi (av h));exact⟨k,by rw[e,b],a,Yu a⟩
theorem ju0 (a:jaj g M=true) {i:Nat}(h:i<(readH g).length):M.getD i 0<0\/∃k:Nat,M.getD i 0=k/\XP g k=true/\k<g.ts.length:=by
 have b:i<M.length:=by rw[W2 a];exact h
 have e:M.getD i 0=M[i]:=by simp[ag,aa b]
 rcases j4l a (av b) with h1|h1;exact .inl (by rw[e,h1];decide);obtain⟨k,d,c⟩:=comL_mem.1 h1;exact .inr ⟨k,by rw[e,d],c,Yu c⟩
theorem jmn {i:Nat}{t:Int}(h:t∈Jw g lvl M i):∃k:Nat,t=k/\k<g.ts.length:=by unfold Jw jcd at h;obtain⟨k,a,e,_⟩:=filTo_mem.1 h;exact⟨k,e,a⟩
theorem Q7 (P:jaj g M=true) {l:List P2}(h:jjm g lvl M l):Qp (Qk l)=jY (g.ts.length+1) (satB g lvl M):=by
 refine jwn λz=>?_;rw[h];constructor;rintro(⟨i,f,d⟩|⟨i,f,d⟩);obtain⟨b,u,r,H⟩:=jlq f;unfold jyb at d;rw[u]at d;rcases br.1 d with rfl|d
 exact⟨g.ts.length,b,zO,zO,by simp[satB,r],rfl⟩;obtain⟨k,o,rfl⟩:=aJ.1 d;obtain⟨D,m⟩:=bV.1 o;have n:=aH.1 D;obtain⟨a,p,F,s⟩:=jlq (show k<(comL g).length by omega);have q:=j2v f n;rw[p]at m ⊢;rw[p,u]at q;refine⟨a,b,zO,zO,?_,rfl⟩;simp only[aZ]at m;simp[satB,F,r,m,ic.1 q];have x:∀a b:Nat,z=((a:Int),(b:Int))->satB g lvl M a b=true:=λa b e=>by unfold satB;rw[bA,bA];refine .inr (.inr (bx.2 ⟨i,aH.2 f,?_⟩));rw[bA];rcases d with d|d;exact .inl (by rw[<- d,e];simp);exact .inr (by rw[e]at d;simpa using d)
 obtain⟨b,u,_,H⟩:=jhb f;have O:∃a:Nat,JO g (M.getD i 0)=a/\a<g.ts.length+1:=by unfold JO;rcases ju0 P f with h|⟨k,o,_,I⟩;exact⟨g.ts.length,by rw[if_pos h],zO⟩;exact⟨k,by rw[if_neg zO,o],zO⟩
 obtain⟨a,p,s⟩:=O;rcases d with d|d;have e:z=((a:Int),(b:Int)):=by rw[d,jw7,p,u]
 exact⟨a,b,s,zO,x a b e,e⟩;unfold askE at d;obtain⟨t,J,e⟩:=aJ.1 d;obtain⟨c,Q,K⟩:=jmn (bV.1 J).1;have e:z=((c:Int),(a:Int)):=by rw[<- e,Q,p]
 exact⟨c,a,zO,zO,x c a e,e⟩;rintro⟨a,b,p,u,j,rfl⟩;unfold satB at j;rw[bA,bA]at j;rcases j with j|j|j;rw[ai]at j;obtain⟨w,G⟩:=j;have w:a=g.ts.length:=by simpa using w
 obtain⟨i,f,e⟩:=bH (comL_mem.2 ⟨b,rfl,G⟩);refine .inl ⟨i,f,?_⟩;unfold jyb;rw[show(comL g).getD i 0=(b:Int) by simp[ag,aa f,e],w];exact aP ..;simp only[ai,decide_eq_true_eq]at j;obtain⟨⟨⟨w,G⟩,S⟩,L⟩:=j;obtain⟨i,f,e⟩:=bH (comL_mem.2 ⟨b,rfl,G⟩);obtain⟨k,o,N⟩:=bH (comL_mem.2 ⟨a,rfl,w⟩);have B:(comL g).getD i 0=(b:Int):=by simp[ag,aa f,e]
 have y:(comL g).getD k 0=(a:Int):=by simp[ag,aa o,N]
 have n:k<i:=by rcases du k i with h|h|h;exact h;subst h;rw[B]at y;omega;have:=j2v o h;rw[B,y]at this;omega
 refine .inl ⟨i,f,?_⟩;unfold jyb;refine bf _ (aJ.2 ⟨k,bV.2 ⟨aH.2 n,?_⟩,by rw[B,y]⟩);rw[B,y,aZ,aZ];exact L;obtain⟨i,f,h⟩:=bx.1 j;refine .inr ⟨i,aH.1 f,?_⟩;rw[bA]at h;rcases h with h|h;exact .inl (by simpa using(beq_iff_eq.1 h).symm);exact .inr (by simpa using h)
end
def edC (p:P2):List V:=[.int .i64 p.1,.int .i64 p.2]
theorem JW (p:P2):(edC p).length=2:=rfl
theorem jns (L:List P2):(L.flatMap edC).all V.pureLeaf=true:=by rw[fF,aw];intro _ _;rfl
def EdV (ob:ZO) (lo hi:Nat) (v:V) (L:List P2):Prop :=
 (v=.sl none true 0 []/\L=[])\/∃u,v=.osl (2*u+1) u 0 L.length 2/\ob (2*u+1)=some ⟨u,.cells (L.flatMap edC)⟩/\lo<=u/\u<hi
theorem EdV.frame {ob ob':ZO}{lo hi hi':Nat}{v:V}{L:List P2}(h:EdV ob lo hi v L) (b:∀u,lo<=u->u<hi->ob' (2*u+1)=ob (2*u+1)) (f:hi<=hi'):EdV ob' lo hi' v L:=by rcases h with h|⟨u,e,c,a,d⟩;exact .inl h;exact .inr ⟨u,e,(b u a d).trans c,a,zO⟩
theorem EdV.len {ob:ZO}{lo hi:Nat}{v:V}{L:List P2}(h:EdV ob lo hi v L):Qu v=some (.int .i64 (L.length:Nat)):=by rcases h with⟨rfl,rfl⟩|⟨u,rfl,_⟩ <;> rfl
theorem jfp {F:Env}{Yf:YF}{lo hi ub:Nat}{v:V}{L:List P2}{p:P2}{s x:A}{st:St}{K:St->Nat->Prop}{d:Option Nat}(c:eval F st.tm s=v) (j:EdV st.ob lo hi v L) (i:st.ro<=lo) (e:slCells st.ob 2 (eval F st.tm x)=some (edC p)) (l:L.length<=1000000)
 (h:∀a:List Nat,(a=[]\/∃u,lo<=u/\u<hi/\a=[2*u+1]/\st.ob (2*u+1)=some ⟨u,.cells (L.flatMap edC)⟩)->WR K st d ub { v:=.osl (2*ub+1) ub 0 (L.length+1) 2,obs:=[(2*ub+1,⟨ub,.cells ((L++[p]).flatMap edC)⟩)],kill:=a }):j8 F Yf ⟨d,.append true 2 16 s x,none,true⟩ st ub K:=by
 rcases j with⟨rfl,rfl⟩|⟨u,rfl,b,k,f⟩;refine XJ c e (by simp[edC]) zQ rfl (by simp[edC]) (by simp[edC]) ?_;simpa[edC,jH] using h [] (.inl rfl);have g:=j3 JW L;refine XU (cs:=L.flatMap edC) c e b (by simp[edC]) zO zO zQ rfl (by simp[edC];omega) (by simp[edC];omega) ?_;have:=h [2*u+1] (.inr ⟨u,k,f,rfl,b⟩);rw[aK zO];simpa[edC,jH] using this
section
variable {ob:ZO}{lo hi kG uG:Nat}{Nv lv:V}{L:List P2}
theorem j2l (B:ob kG=some ⟨uG,.cells [Nv,lv]⟩) (J:EdV ob lo hi lv L) (M:L.length<=1000000) (a b:Int) (tk:Nat->Bool) (base ub:Nat):EvO E 203 [.ptr kG uG 0,.int .i64 a,.int .i64 b] ob tk base ub (.bool (L.contains (a,b))):=by
 refine JL (af:=S203) rfl ?_;have e:=J.len;obtain⟨R,K⟩:∃R,R=L.contains (a,b):=⟨_,rfl⟩;rw[<- K];conv in (occs := *) S203=> all_goals cbv
 simp[S203];refine j6 [(6,38)] L.length (λi s=>s.tm 7=.int .i64 i/\s.ob=ob/\R=(L.drop i).contains (a,b)) rfl rfl ⟨zS,rfl,K⟩ ?_;rintro i s hi ⟨r,p,m⟩ f;have z:s.tm 0=.ptr kG uG 0:=by rw[f.t 0 zS];simp
 have G:s.tm 1=.int .i64 a:=by rw[f.t 1 zS];simp
 have I:s.tm 2=.int .i64 b:=by rw[f.t 2 zS];simp
 have H:s.df=[]:=by rw[f.d];simp
 clear f;by_cases c:i<L.length;have o:=jZ c zO;rw[aW c,em]at m;rcases J with⟨_,rfl⟩|⟨u,rfl,F,_⟩;simp at c;have w:(L.flatMap edC)[i*2]? = some (.int .i64 L[i].1):=by have:=jU JW L c (by decide:0<2);rw[bj]at this;rw[this];rfl
 have D:(L.flatMap edC)[i*2+1]? = some (.int .i64 L[i].2):=by rw[jU JW L c (by decide:1<2)];rfl
 have j:=idx0 (l:=2*u+1) (u:=u) (sz:=2) (kk:=.i64) c;generalize L[i]=q at *;obtain⟨x,y⟩:=q;simp only at w D;cases k:(x == a);have g:R=(L.drop (i+1)).contains (a,b):=by rw[m,show((a,b) == (x,y))=false by simp at k ⊢;intro h;exact absurd h.symm k,cp]
 simp(disch:=first|(simp;done)|omega) [r,z,G,p,objCells,B,e,c,j,F,w,k,o];simpa using g;cases n:(y == b);have g:R=(L.drop (i+1)).contains (a,b):=by rw[m,show((a,b) == (x,y))=false by simp at n ⊢;intro _ h;exact absurd h.symm n,cp]
 simp(disch:=first|(simp;done)|omega) [r,z,G,I,p,objCells,B,e,c,j,F,w,D,k,n,o];simpa using g;have g:R=true:=by simp only[beq_iff_eq]at k n;rw[m,k,n];simp
 simp(disch:=first|(simp;done)|omega) [r,z,G,I,p,objCells,B,e,c,j,F,w,D,k,n];exact j4 (by simp[H]) (by simp[g]) rfl;have:i=L.length:=zO;subst this;rw[bS zK]at m;simp(disch:=first|(simp;done)|omega) [r,z,p,objCells,B,e];exact j4 (by simp[H]) (by simp[m]) rfl
end
def jtu (L:List P2) (p:P2):List P2:=if L.contains p then L else L++[p]
def GrR (kG uG lo N:Nat) (ob:ZO) (ub:Nat) (L:List P2):Prop:=∃lv,ob kG=some ⟨uG,.cells [.int .i64 (N:Int),lv]⟩/\EdV ob lo ub lv L
theorem GrR.keep {kG uG lo N ub b:Nat}{ob ob':ZO}{L:List P2}(h:GrR kG uG lo N ob ub L) (c:∀a,Off ub a->ob' a=ob a) (f:Off ub kG) (e:ub<=b):GrR kG uG lo N ob' b L:=by obtain⟨i,g,d⟩:=h;exact⟨i,(c _ f).trans g,d.frame (λu _ h=>c _ (Off.new h)) e⟩
theorem sv142 {Yf:YF}{kG uG lo N a b:Nat}{L:List P2}{ob:ZO}{tk:Nat->Bool}{ro base ub:Nat}(D:GrR kG uG lo N ob ub L) (i:Off lo kG) (j:lo<=ub) (l:ro<=lo) (s:ro<=uG) (J:L.length<=100000) (K:a<N) (H:b<N) :
 ∃r,EvS E Yf.y 142 [.ptr kG uG 0,.int .i64 (a:Int),.int .i64 (b:Int)] ob tk ro base ub r/\ub<=r.2.2.2/\GrR kG uG lo N r.2.1 r.2.2.2 (jtu L ((a:Int),(b:Int)))/\∀c,Off lo c->c≠kG->r.2.1 c=ob c:=by
 obtain⟨t,d,n⟩:=D;have B:=(i.up j).ne;have G:((a:Int)<0)=False:=zS;have x:((b:Int)<0)=False:=zS;have a1:((N:Int)<=a)=False:=by simp;omega
 have b1:((N:Int)<=b)=False:=by simp;omega
 refine Ja (af:=S142) rfl zQ ?_;show wpC E Yf S142.body _ (XD S142.res _);conv in (occs := *) S142=> all_goals cbv
 simp(disch:=first|(simp;done)|omega) [S142,objCells,d,G,x,a1,b1];refine jb (vs:=[.ptr kG uG 0,.int .i64 (a:Int),.int .i64 (b:Int)]) zS rfl rfl (j2l (L:=L) (lo:=lo) (hi:=ub) (by simpa using d) (n.frame (λu _ _=>by simp) zK) zO _ _ _ _ _) ?_;unfold jtu;cases I:L.contains ((a:Int),(b:Int));simp(disch:=first|(simp;done)|omega) [objCells,d,j2];refine ja (cs:=[.int .i64 (a:Int),.int .i64 (b:Int)]) (by simp[j2]) rfl rfl ?_;simp;refine jfp (lo:=lo) (hi:=ub) (v:=t) (L:=L) (p:=((a:Int),(b:Int))) zS (n.frame (λu f k=>?_) zK) (by simpa using l) (by simp[slCells,objCells,edC]) zO λw g=>?_;have o:∀m,ub<=m->¬ u=m:=λm F=>by omega
 simp(disch:=first|(simp;done)|omega) [two_inj,o];have h:∀c,Off lo c->w.any (Nat.beq c)=false:=λc i=>by rcases g with rfl|⟨u,f,k,rfl,_⟩;rfl;simp only[bu,bI,bq];exact W7 (i u f)
 have z:∀m,ub<=m->w.any (Nat.beq (2*m+1))=false:=λm F=>by rcases g with rfl|⟨u,f,k,rfl,_⟩;rfl;simp only[bu,bI,bq];exact JN zO
 generalize q:List.flatMap edC (L++[((a:Int),(b:Int))])=cs9;simp(disch:=first|(simp;done)|omega) [objCells,d,h _ i,jD,B,j2];refine⟨s,jdh zS ?_⟩;refine⟨zL,⟨.osl (2*(ub+2368)+1) (ub+2368) 0 (L.length+1) 2,by simp[aG],.inr ⟨ub+2368,zS,?_,zO,zL⟩⟩,λc f k=>?_⟩;have:=(i.up (show lo<=ub+2368 by omega)).ne;simp(disch:=first|(simp;done)|omega) [jD,two_inj,aG,q];exact λe=>absurd e.symm (this _ zK);have o:=(f.up j).ne;simp(disch:=first|(simp;done)|omega) [jD,k,o,h c f];simp;refine jdh zS ⟨zL,⟨t,by simpa using d,n.frame (λu _ _=>by simp) zL⟩,λc _ _=>by simp⟩
def ofE (l:List P2):List P2:=l.foldl jtu []
theorem jyo (L:List P2) (p:P2):(jtu L p).length<=L.length+1:=by unfold jtu;split <;> simp
theorem ofE_len (l:List P2):(ofE l).length<=l.length:=by
 have:∀ (l L:List P2),(l.foldl jtu L).length<=L.length+l.length:=by
  intro l;induction l with
  | nil=>intro L;simp
  | cons p l a=>intro L;have b:=a (jtu L p);have c:=jyo L p;simp only[dO,bo];omega
 have:=this l [];simpa[ofE] using this
theorem jyn {L:List P2}{p z:P2}:z∈jtu L p ↔ z∈L\/z=p:=by
 unfold jtu;split;rename_i h;have h:p∈L:=by simpa using h
 exact⟨.inl,λa=>a.elim id λe=>e▸h⟩;simp
theorem j4i {l:List P2}{z:P2}:z∈ofE l ↔ z∈l:=by
 have:∀ (l L:List P2),z∈l.foldl jtu L ↔ z∈L\/z∈l:=by
  intro l;induction l with
  | nil=>intro L;simp
  | cons p l a=>intro L;rw[dO,a,jyn,br,or_assoc]
 have:=this l [];simpa[ofE] using this
theorem jy7 {l:List P2}{i:Nat}(h:i<l.length):ofE (l.take (i+1))=jtu (ofE (l.take i)) l[i]:=by unfold ofE;rw[ay h,fo];rfl
theorem sv95 {Yf:YF}{lo hi N:Nat}{v:V}{l:List P2}{ob:ZO}{tk:Nat->Bool}{ro base ub:Nat}(O:EdV ob lo hi v l) (hu:hi<=ub) (U:l.length<=100000) (hN:∀p∈l,∃a b:Nat,p=((a:Int),(b:Int))/\a<N/\b<N) (a0:ro<=ub) :
 ∃r,EvS E Yf.y 95 [.int .i64 (N:Int),v] ob tk ro base ub r/\∃u,ub<=u/\u<r.2.2.2/\r.1=.ptr (2*u+1) u 0/\GrR (2*u+1) u (u+1) N r.2.1 r.2.2.2 (ofE l)/\∀c,Off ub c->r.2.1 c=ob c:=by
 have h:=O.len;refine Ja (af:=S95) rfl zQ ?_;show wpC E Yf S95.body _ (XD S95.res _);conv in (occs := *) S95=> all_goals cbv
 simp(disch:=first|(simp;done)|omega) [S95,j2];refine jQ λj e=>?_;obtain⟨u,M,u2,g5,S⟩:∃u,ub<=u/\u<j.nx/\j.tm 5=.ptr (2*u+1) u 0/\j.ob (2*u+1)=some ⟨u,.cells [.int .i64 (N:Int),.sl none true 0 []]⟩:=by refine⟨ub+192,zO,?_,by rw[e];simp[aG],by rw[e];simp[aG]⟩;rw[e];simp
 have g1:j.tm 1=v:=by rw[e];simp
 have I:j.tm 6=.int .i64 0:=by rw[e];simp
 have gd:j.df=[]:=by rw[e];simp
 have gr:j.ro=ro:=by rw[e];simp
 have go:∀c,Off ub c->j.ob c=ob c:=λc k=>by have:=k.ne;rw[e];simp(disch:=first|(simp;done)|omega) [this]
 clear e;obtain⟨J,G⟩:∃J:Nat->St->Prop,J=λi s=>s.tm 6=.int .i64 i/\GrR (2*u+1) u (u+1) N s.ob s.nx (ofE (l.take i))/\u<s.nx/\∀c,Off ub c->s.ob c=ob c:=⟨_,rfl⟩;refine j6 [(6,6),(10,27)] l.length J rfl rfl (by rw[G];exact⟨by simpa using I,⟨_,S,.inl ⟨rfl,rfl⟩⟩,u2,go⟩) ?_;clear S I go;intro i s hi m f;rw[G]at m;obtain⟨o,z,su,q⟩:=m;have P:=(f.t 1 zS).trans g1;have Q:=(f.t 5 zS).trans g5;have T:=f.d.trans gd;have sr:=f.r.trans gr;clear f;by_cases g:i<l.length;have D:=jZ g zO;obtain⟨a,b,B,ha,hb⟩:=hN _ (av g);have x:=ofE_len (l.take i);rw[ap]at x;rcases O with⟨_,rfl⟩|⟨w,rfl,h4,w1,w2⟩
 simp at g;have h5:s.ob (2*w+1)=some ⟨w,.cells (l.flatMap edC)⟩:=(q _ (Off.new zO)).trans h4;have h1:(l.flatMap edC)[i*2]? = some (.int .i64 a):=by have:=jU JW l g (by decide:0<2);rw[bj]at this;rw[this,B];rfl
 have X:(l.flatMap edC)[i*2+1]? = some (.int .i64 b):=by rw[jU JW l g (by decide:1<2),B];rfl
 have n:=idx0 (l:=2*w+1) (u:=w) (sz:=2) (kk:=.i64) g;have e:=jy7 g;rw[B]at e;simp(disch:=first|(simp;done)|omega) [o,Q,P,h,g,n,objCells,h5,h1,X];refine jV (vs:=[.ptr (2*u+1) u 0,.int .i64 (a:Int),.int .i64 (b:Int)]) zS rfl (sv142 (lo:=u+1) (z.keep (λc _=>by simp) (Off.new zO) zL) (Off.new zO) zL (by first|omega|(simp[sr];omega)) (by first|omega|(simp[sr];omega)) zO ha hb) ?_;rintro v1 b0 Z F ⟨L,H,K⟩;simp only at L H K;have q1:s.nx<=F:=by first|omega|(simp at L;omega)
 rw[<- e]at H;simp(disch:=first|(simp;done)|omega) [o,D,g];rw[G];refine⟨zS,H.keep (λc _=>by simp) (Off.new zO) zL,zL,λc k=>?_⟩;have:=K c (k.up zO) (k u M);simpa[this] using q c k;have:i=l.length:=zO;subst this;rw[aK zK]at z;simp(disch:=first|(simp;done)|omega) [o,P,Q,h];exact Xc (by simp[T]) ⟨u,M,zL,zS,z.keep (λc _=>by simp) (Off.new zO) zL,λc k=>by simpa using q c k⟩
theorem jt1 {st:St}{n k L u sz:Nat}{cs:List V}{P:V->Prop}(o:∀r,SlR r false k cs->P r) (h:st.df=[]) (m:st.tm n=.osl L u 0 k sz) (c:st.ob L=some ⟨u,.cells cs⟩) (q:cs.length=k*sz) (i:st.ro<=u) (hp:cs.all V.pureLeaf=true):Qm [.t n] P .ret st:=by
 have a:objCells st.ob L u=some cs:=by simp[objCells,c]
 have j:JH st 6 (.osl L u 0 k sz)=some (.sl none false k cs):=by show((objCells st.ob L u).bind λcs=>if Nat.ble st.ro u=true/\0+k*sz<=cs.length then (((cs.drop 0).take (k*sz)).mapM (JH st 5)).map λd=>V.sl none false k d else none)=_;rw[a,am,if_pos ⟨ce▸i,zO⟩,dt,aK zO,jab hp];rfl
 have c:∃t:Option (Nat × Nat),jm st true 0 (.osl L u 0 k sz)=some (.sl t false k cs)/\∀p∈t.toList,p.1<64:=by simp only[jm,j,am,a,aU];refine⟨_,rfl,λp hp=>?_⟩;split at hp;simp at hp;subst hp;exact eF rfl;simp at hp
 obtain⟨t,g,f⟩:=c;have e:[ARes.t n].mapM (jo st)=some [.osl L u 0 k sz]:=by simp[jo,m]
 refine⟨.sl t false k cs,?_,o _ ⟨t,rfl,f⟩⟩;simp only[jas,YJ h,YD h,if_true,e,am,Yd];have l:nodup ([V.osl L u 0 k sz].flatMap V.toks)=true:=rfl;rw[l];have b:XS st true 0 (.osl L u 0 k sz)=some (.sl t false k cs):=g;simp only[JK,b,am,aU];cases t <;> rfl
def IntL (ob:ZO) (lo hi:Nat) (v:V) (L:List Int):Prop:=∃u,v=.osl (2*u+1) u 0 L.length 1/\ob (2*u+1)=some ⟨u,.cells (L.flatMap intC)⟩/\lo<=u/\u<hi
def EdL (ob:ZO) (lo hi:Nat) (v:V) (L:List P2):Prop:=∃u,v=.osl (2*u+1) u 0 L.length 2/\ob (2*u+1)=some ⟨u,.cells (L.flatMap edC)⟩/\lo<=u/\u<hi
theorem EdL.v {ob:ZO}{lo hi:Nat}{v:V}{L:List P2}(h:EdL ob lo hi v L):EdV ob lo hi v L:=.inr h
def XW (L:List P2) (N:Nat) (a i:Nat):List Int:=ints ((List.range i).filter λb=>L.contains ((a:Int),(b:Int)))
theorem jhl (L:List P2) (N a i:Nat):XW L N a (i+1)=XW L N a i++if L.contains ((a:Int),(i:Int)) then [(i:Int)] else []:=by unfold XW;rw[db,ch];cases h:L.contains ((a:Int),(i:Int));rw[cq,h,if_neg zQ,if_neg zQ,dw,aS,aS];rw[cq,h,if_pos rfl,if_pos rfl,dw];simp[ints]
theorem jbi (L:List P2) (N a:Nat):∀i,(XW L N a i).length<=i
 | 0=>by simp[XW,ints]
 | i+1=>by have:=jbi L N a i;rw[jhl];split <;> simp <;> omega
section
variable {ob:ZO}{lo kG uG N ub:Nat}{L:List P2}
theorem evo143 (hG:GrR kG uG lo N ob ub L) (g:Off ub kG) (hl:L.length<=100000) (hN:N<=1000) (a:Nat) (tk:Nat->Bool) (base:Nat):∃v,EvO E 143 [.ptr kG uG 0,.int .i64 (a:Int)] ob tk base ub v/\SlR v false (XW L N a N).length ((XW L N a N).flatMap intC):=by
 obtain⟨lv,G,hE⟩:=hG;have oG:=g.ne;refine Wr (af:=S143) rfl zQ ?_;conv in (occs := *) S143=> all_goals cbv
 simp[S143];refine ja (cs:=[]) rfl rfl rfl ?_;simp;refine jQ λj c=>?_;have U:j.tm 0=.ptr kG uG 0:=by rw[c];simp
 have g1:j.tm 1=.int .i64 (a:Int):=by rw[c];simp
 have I:j.tm 6=.int .i64 0:=by rw[c];simp
 have Q:∃v,j.tm 5=v/\IntL j.ob ub j.nx v []:=by refine⟨_,rfl,ub+64,by rw[c];simp,by rw[c];simp,zO,?_⟩;rw[c];first|omega|(simp;done)|(simp;omega)
 have X:j.df=[]:=by rw[c];simp
 have gr:j.ro=ub:=by rw[c];simp
 have P:ub<=j.nx:=by rw[c];first|omega|(simp;done)|(simp;omega)
 have go:∀b,Off ub b->j.ob b=ob b:=λb g=>by have:=g.ne;rw[c];simp(disch:=first|(simp;done)|omega) [this]
 clear c;obtain⟨J,B⟩:∃J:Nat->St->Prop,J=λi s=>s.tm 6=.int .i64 i/\(∃v,s.tm 5=v/\IntL s.ob ub s.nx v (XW L N a i))/\ub<=s.nx/\∀b,Off ub b->s.ob b=ob b:=⟨_,rfl⟩;refine j6 [(5,6),(8,23)] N J rfl rfl (by rw[B];exact⟨by simpa using I,Q,P,go⟩) ?_;clear Q I go P;intro i s hi x f;rw[B]at x;obtain⟨q,⟨v,H,D⟩,sn,z⟩:=x;have M:=(f.t 0 zS).trans U;have s1:=(f.t 1 zS).trans g1;have T:=f.d.trans X;have sr:=f.r.trans gr;clear f;have o:s.ob kG=some ⟨uG,.cells [.int .i64 (N:Int),lv]⟩:=(z _ g).trans G;by_cases k:i<N;have y:=jZ k zO;have a0:=jbi L N a i;have e:=jhl L N a i;simp(disch:=first|(simp;done)|omega) [q,M,s1,objCells,o,k];refine jb (vs:=[.ptr kG uG 0,.int .i64 (a:Int),.int .i64 (i:Int)]) zS rfl rfl (j2l (L:=L) (lo:=lo) (hi:=ub) (by simpa using o) (hE.frame (λu _ h=>by simpa using z _ (Off.new h)) zK) zO _ _ _ _ _) ?_;cases O:L.contains ((a:Int),(i:Int));rw[O,if_neg zQ,aS]at e;simp(disch:=first|(simp;done)|omega) [q,y,k];rw[B];obtain⟨u,rfl,w,p,K⟩:=D;exact⟨zS,⟨.osl (2*u+1) u 0 (XW L N a i).length 1,by simp[H],u,by rw[e],by rw[e];simpa using w,p,zL⟩,zL,λb g=>by simpa using z b g⟩;rw[O,if_pos rfl]at e;obtain⟨u,rfl,w,p,K⟩:=D;have nu:∀m,s.nx<=m->¬ u=m:=λm hm=>by omega
 have b0:((XW L N a i).flatMap intC).length=(XW L N a i).length:=by rw[j3 j9,bz]
 simp(disch:=first|(simp;done)|omega) [q,H];refine ja (cs:=[.int .i64 (i:Int)]) (by simp[j2]) rfl rfl ?_;simp;refine XU (l:=2*u+1) (u:=u) (n:=(XW L N a i).length) (cs:=(XW L N a i).flatMap intC) (ys:=[.int .i64 (i:Int)]) zS (by simp[slCells,objCells]) ?_ zS (by simpa[sr] using p) zO zQ rfl (by simp;omega) (by simp;omega) ?_;simp(disch:=first|(simp;done)|omega) [two_inj,nu];exact w;rw[aK zO];simp(disch:=first|(simp;done)|omega) [q,y,k];rw[B];have F:(XW L N a i).flatMap intC++[V.int .i64 (i:Int)]=(XW L N a (i+1)).flatMap intC:=by rw[e];simp[intC]
 refine⟨zS,⟨.osl (2*(s.nx+832)+1) (s.nx+832) 0 (XW L N a (i+1)).length 1,by simp[e,aG],s.nx+832,rfl,?_,zO,zL⟩,zL,λb g=>?_⟩;simp(disch:=first|(simp;done)|omega) [jD,two_inj,aG,F];have h5:=g.ne;have S:¬ b=2*u+1:=g u p;have Z:∀m,s.nx<=m->¬ b=2*m+1:=λm hm=>g m zO;simp(disch:=first|(simp;done)|omega) [jD,S,Z,W7 S];exact z b g;have:i=N:=zO;subst this;obtain⟨u,rfl,w,p,K⟩:=D;simp(disch:=first|(simp;done)|omega) [q,M,H,objCells,o];exact jt1 (L:=2*u+1) (u:=u) (sz:=1) (λr h=>h) (by simp[T]) zS (by simpa using w) (by rw[j3 j9]) (by simpa[sr] using p) (by simp[intC,V.pureLeaf])
end
def rowE (L:List P2) (N a:Nat):List P2:=(XW L N a N).map λb=>((a:Int),b)
def JC (L:List P2) (N a:Nat):List P2:=(List.range a).flatMap (rowE L N)
theorem jdi (L:List P2) (N a:Nat):JC L N (a+1)=JC L N a++rowE L N a:=by unfold JC;rw[db,bT];simp
theorem jnr (L:List P2) (N:Nat):JC L N N=jY N λa b=>L.contains ((a:Int),(b:Int)):=by unfold JC jY rowE XW ints;simp only[cU];rfl
theorem jdx (L:List P2) (N a:Nat):(rowE L N a).length=(XW L N a N).length:=by simp[rowE]
theorem jf5 (L:List P2) (N:Nat):∀a,(JC L N a).length<=a*N
 | 0=>by simp[JC]
 | a+1=>by have b:=jf5 L N a;have d:=jbi L N a N;have c:=jdx L N a;rw[jdi,au,da];omega
section
variable {ob:ZO}{lo kG uG N ub:Nat}{L:List P2}
theorem evo96 (hG:GrR kG uG lo N ob ub L) (i:Off ub kG) (hl:L.length<=100000) (hN:N<=100) (tk:Nat->Bool) (base:Nat):∃v,EvO E 96 [.ptr kG uG 0] ob tk base ub v/\SlR v false (JC L N N).length ((JC L N N).flatMap edC):=by
 have b6:=hG;obtain⟨lv,a0,hE⟩:=hG;refine Wr (af:=S96) rfl zQ ?_;conv in (occs := *) S96=> all_goals cbv
 simp[S96];refine ja (cs:=[]) rfl rfl rfl ?_;simp;refine jQ λo c=>?_;have g0:o.tm 0=.ptr kG uG 0:=by rw[c];simp
 have g4:o.tm 4=.int .i64 0:=by rw[c];simp
 have g3:∃v,o.tm 3=v/\EdL o.ob ub o.nx v []:=by refine⟨_,rfl,ub+64,by rw[c];simp,by rw[c];simp,zO,?_⟩;rw[c];first|omega|(simp;done)|(simp;omega)
 have gd:o.df=[]:=by rw[c];simp
 have gr:o.ro=ub:=by rw[c];simp
 have gn:ub<=o.nx:=by rw[c];first|omega|(simp;done)|(simp;omega)
 have go:∀b,Off ub b->o.ob b=ob b:=λb i=>by have:=i.ne;rw[c];simp(disch:=first|(simp;done)|omega) [this]
 clear c;obtain⟨J,X⟩:∃J:Nat->St->Prop,J=λa s=>s.tm 4=.int .i64 a/\(∃v,s.tm 3=v/\EdL s.ob ub s.nx v (JC L N a))/\ub<=s.nx/\∀b,Off ub b->s.ob b=ob b:=⟨_,rfl⟩;refine j6 [(3,33)] N J rfl rfl (by rw[X];exact⟨by simpa using g4,g3,gn,go⟩) ?_;clear g3 g4 go gn;intro a s hi K f;rw[X]at K;obtain⟨P,⟨v,s3,sI⟩,sn,Q⟩:=K;have s0:=(f.t 0 zS).trans g0;have sd:=f.d.trans gd;have sr:=f.r.trans gr;clear f;have G:s.ob kG=some ⟨uG,.cells [.int .i64 (N:Int),lv]⟩:=(Q _ i).trans a0;by_cases D:a<N
 ·have T:=jZ D zO;have b7:=jbi L N a N;have b5:=jf5 L N a;have b9:a*N<=100*100:=eU zO hN;simp(disch:=first|(simp;done)|omega) [P,s0,objCells,G,D];refine jva (vs:=[.ptr kG uG 0,.int .i64 (a:Int)]) zS rfl rfl (evo143 (L:=L) (lo:=lo) ⟨lv,by simpa using G,hE.frame (λu _ h=>by simpa using Q _ (Off.new h)) zL⟩ (i.up zL) hl zO a _ _) λw hw=>?_;refine Ji hw λt1 add=>?_;simp;refine jQ λp k=>?_;have p0:p.tm 0=.ptr kG uG 0:=by rw[k];simp[s0]
  have p3:p.tm 3=v:=by rw[k];simp[s3]
  have p4:p.tm 4=.int .i64 a:=by rw[k];simp[P]
  have p5:p.tm 5=.sl t1 false (XW L N a N).length ((XW L N a N).flatMap intC):=by rw[k];simp
  have p6:p.tm 6=.int .i64 0:=by rw[k];simp
  have pd:p.df=[]:=by rw[k];simp[sd]
  have pr:p.ro=ub:=by rw[k];simp[sr]
  have pn:s.nx<=p.nx:=by rw[k];first|omega|(simp;done)|(simp;omega)
  have po:p.ob=s.ob:=by rw[k];simp
  clear k;obtain⟨U,F⟩:∃U:Nat->St->Prop,U=λj q=>q.tm 6=.int .i64 j/\(∃v,q.tm 3=v/\EdL q.ob ub q.nx v (JC L N a++(rowE L N a).take j))/\ub<=q.nx/\∀b,Off ub b->q.ob b=ob b:=⟨_,rfl⟩;refine j6 [(3,3),(6,6),(19,33)] (XW L N a N).length U rfl rfl ?_ ?_;rw[F];obtain⟨u,rfl,y,z,h4⟩:=sI;exact⟨by simpa using p6,⟨_,p3,u,zS,by rw[po];simpa using y,z,zO⟩,zO,λb i=>by rw[po];exact Q b i⟩;clear p6 p3;intro j q hj M f;rw[F]at M;obtain⟨q6,⟨v2,S,qI⟩,qn,qo⟩:=M;have q0:=(f.t 0 zS).trans p0;have q4:=(f.t 4 zS).trans p4;have q5:=(f.t 5 zS).trans p5;have qd:=f.d.trans pd;have qr:=f.r.trans pr;clear f;obtain⟨u,rfl,y,z,h4⟩:=qI;by_cases g:j<(XW L N a N).length;have I:=jZ g zO;have O:=jv j9 t1 false (XW L N a N) .i64 g;have Z:=jr (XW L N a N) g;have nu:∀m,q.nx<=m->¬ u=m:=λm hm=>by omega
  have x:(rowE L N a).take (j+1)=(rowE L N a).take j++[((a:Int),(XW L N a N)[j])]:=by rw[ay (by rw[jdx];exact g)];simp[rowE]
  have b0:(JC L N a++(rowE L N a).take j).flatMap edC++[V.int .i64 (a:Int),.int .i64 (XW L N a N)[j]]=(JC L N a++(rowE L N a).take (j+1)).flatMap edC:=by rw[x,<- aY,bT (xs:=JC L N a++(rowE L N a).take j)];simp[edC]
  have H:(JC L N a++(rowE L N a).take (j+1)).length=(JC L N a++(rowE L N a).take j).length+1:=by rw[x,<- aY,au (bs:=[_])];rfl
  have b8:(JC L N a++(rowE L N a).take j).length<=20000:=by rw[au,ap,jdx];omega
  have c0:((JC L N a++(rowE L N a).take j).flatMap edC).length=(JC L N a++(rowE L N a).take j).length*2:=j3 JW _;generalize hA:JC L N a++(rowE L N a).take j=A at *;generalize hB:JC L N a++(rowE L N a).take (j+1)=B at *;simp(disch:=first|(simp;done)|omega) [q6,q5,S,q4,g,O,Z,j2];refine ja (cs:=[.int .i64 (a:Int),.int .i64 (XW L N a N)[j]]) (by simp[j2]) rfl rfl ?_;simp;refine XU (l:=2*u+1) (u:=u) (n:=A.length) (cs:=A.flatMap edC) (ys:=[.int .i64 (a:Int),.int .i64 (XW L N a N)[j]]) zS (by simp[slCells,objCells]) ?_ zS (by simpa[qr] using z) zO zQ rfl (by simp;omega) (by simp;omega) ?_;simp(disch:=first|(simp;done)|omega) [two_inj,nu];exact y;rw[aK zO,b0];simp(disch:=first|(simp;done)|omega) [q6,I,g];rw[F];simp only[hB];refine⟨zS,⟨.osl (2*(q.nx+768)+1) (q.nx+768) 0 B.length 2,by simp[H,aG],q.nx+768,rfl,?_,zO,zL⟩,zL,λb i=>?_⟩;simp(disch:=first|(simp;done)|omega) [jD,two_inj,aG];have h6:¬ b=2*u+1:=i u z;have h7:∀m,q.nx<=m->¬ b=2*m+1:=λm hm=>i m zO;simp(disch:=first|(simp;done)|omega) [jD,h6,h7,W7 h6];exact qo b i;have e:j=(XW L N a N).length:=zO;subst e;rw[aK (by rw[jdx];exact dr _),<- jdi]at y S;simp(disch:=first|(simp;done)|omega) [q6,q5,q4,T,D];rw[X];exact⟨zS,⟨_,by simpa using S,u,rfl,by simpa using y,z,zL⟩,zL,λb i=>by simpa using qo b i⟩
 have:a=N:=zO;subst this;obtain⟨u,rfl,y,z,h4⟩:=sI;simp(disch:=first|(simp;done)|omega) [P,s0,s3,objCells,G];exact jt1 (L:=2*u+1) (u:=u) (sz:=2) (λr h=>h) (by simp[sd]) zS (by simpa using y) (by rw[j3 JW]) (by simpa[sr] using z) (jns _)
end
def jbw (g:Hist') (lvl:Int) (M:List Int):Int:=if !Jb g then 4 else if lvl<1\/2<lvl\/jaj g M=false then 2 else 0
section
variable {g:Hist'}{M:List Int}
theorem ev94 (g:Hist') (x:Int):Ev E 94 [.agg (histC g),.int .i64 x] (.int .i64 (JO g x)):=by
 refine jS (af:=F94) rfl ?_;unfold JO;by_cases h:x<0
 ·conv in (occs := *) F94=> all_goals cbv
  simp[F94,histC,objCells,h];exact j4 rfl zS rfl
 ·conv in (occs := *) F94=> all_goals cbv
  simp[F94,histC,objCells,h];exact j4 rfl zS rfl
theorem ev43 (f:Small g) (lvl:Int) {mn:Bool}(i:M.length<=1000000):Ev E 43 [.int .i64 lvl,.agg (histC g),slOf mn intC M] (.int .i64 (jbw g lvl M)):=by
 have c:=ev21 f;have a:=ev22 f (b:=mn) M zO;refine jS (af:=F43) rfl ?_;conv in (occs := *) F43=> all_goals cbv
 simp[F43,histC,objCells,slOf];refine jJ c (by simp[histC,slOf]) rfl (by simp[histC,slOf]) ?_;unfold jbw;cases h:Jb g;simp;exact j4 rfl zS rfl;by_cases d:lvl<1;simp[d];exact j4 rfl zS rfl;by_cases e:2<lvl;simp[d,e];exact j4 rfl zS rfl;simp[d,e,objCells];refine jJ a (by simp[histC,slOf]) rfl (by simp[histC,slOf]) ?_;cases j:jaj g M;simp;exact j4 rfl zS rfl;simp;exact j4 rfl zS rfl
end
theorem Ye {st:St}{ub lo hi:Nat}{K:List FP->St->Prop}{d:Option Nat}{r:List AOpr}{v:V}{L:List P2}{p:P2}{s x:A}(f:eval E st.tm s=v) (m:EdV st.ob lo hi v L) (l:st.ro<=lo) (i:slCells st.ob 2 (eval E st.tm x)=some (edC p)) (q:L.length<=1000000)
 (h:∀e:List Nat,(e=[]\/∃u,lo<=u/\u<hi/\e=[2*u+1])->Wy E r K (eval E st.tm) (.append true 2 16 s x) st d ub { v:=.osl (2*ub+1) ub 0 (L.length+1) 2,obs:=[(2*ub+1,⟨ub,.cells ((L++[p]).flatMap edC)⟩)],kill:=e }):jF E (⟨d,.append true 2 16 s x,none,true⟩::r) st ub K:=by
 rw[Jq rfl];have a:edC p≠[]:=by simp[edC]
 have b:(edC p).all V.leaf=true:=rfl;have k:=j3 JW L;rcases m with⟨rfl,rfl⟩|⟨u,rfl,n,o,j⟩;simp only[aop,f,i,am,if_neg a,cB,if_true,Jx,QD];rw[if_pos ⟨zQ,b,by simp[edC],by simp[edC]⟩];simp only[Jj,jM];have:=h [] (.inl rfl);simpa[edC] using this;have c:objCells st.ob (2*u+1) u=some (L.flatMap edC):=by simp[objCells,n]
 simp only[aop,f,i,c,am,if_neg a,Jx,QD];rw[if_pos ⟨ce▸zO,trivial,trivial,zO,zQ,b,by simp[edC];omega,by simp[edC];omega⟩,jM];have:=h [2*u+1] (.inr ⟨u,o,j,rfl⟩);rw[show(L.flatMap edC).take (L.length*2)=L.flatMap edC from aK zO];simpa[edC,bT] using this
def mkS (g:Hist') (mv rv lv:V):List V:=histC g++[mv,rv,lv]
def MkR (g:Hist') (mv rv:V) (kX uX lo:Nat) (ob:ZO) (ub:Nat) (L:List P2):Prop:=∃lv,ob kX=some ⟨uX,.cells (mkS g mv rv lv)⟩/\EdV ob lo ub lv L
theorem MkR.keep {g:Hist'}{mv rv:V}{kX uX lo ub b:Nat}{ob ob':ZO}{L:List P2}(h:MkR g mv rv kX uX lo ob ub L) (c:∀a,Off ub a->ob' a=ob a) (f:Off ub kX) (e:ub<=b):MkR g mv rv kX uX lo ob' b L:=by obtain⟨j,i,d⟩:=h;exact⟨j,(c _ f).trans i,d.frame (λu _ h=>c _ (Off.new h)) e⟩
section
variable {g:Hist'}{mv rv:V}{kX uX lo:Nat}{ob:ZO}{ub:Nat}{L:List P2}
theorem j2m (a:∃b,ob kX=some ⟨uX,.cells (mkS g mv rv b)⟩) (x:Int) (tk:Nat->Bool) (base ub:Nat):EvO E 192 [.ptr kX uX 0,.int .i64 x] ob tk base ub (.int .i64 (JO g x)):=by
 obtain⟨b,a⟩:=a;refine JL (af:=S192) rfl ?_;unfold JO;by_cases h:x<0
 ·conv in (occs := *) S192=> all_goals cbv
  simp[S192,objCells,a,mkS,histC,h];exact j4 rfl zS rfl
 ·conv in (occs := *) S192=> all_goals cbv
  simp[S192,h];exact j4 rfl zS rfl
theorem EdV.at {ob:ZO}{lo hi:Nat}{v:V}{L:List P2}(h:EdV ob lo hi v L):∃b a,lo<=b/\(a<=hi\/a=lo)/\EdV ob b a v L/\∀u,b<=u->u<a->v=.osl (2*u+1) u 0 L.length 2:=by rcases h with⟨a,c⟩|⟨u,a,c,e,f⟩;exact⟨lo,lo,zK,.inr rfl,.inl ⟨a,c⟩,λu h d=>by omega⟩;exact⟨u,u+1,e,.inl zO,.inr ⟨u,a,c,zK,cR _⟩,λw h d=>by rw[a,show w=u by omega]⟩
def j1i (v:V) (L:List P2) (key:Nat):Prop:=∀u,v=.osl (2*u+1) u 0 L.length 2->key≠2*u+1
theorem EdV.off {ob:ZO}{lo hi:Nat}{v:V}{L:List P2}(h:EdV ob lo hi v L) {key:Nat}(b:Off lo key):j1i v L key:=by
 intro u a;rcases h with⟨rfl,_⟩|⟨w,rfl,_,c,_⟩;cases a;have:w=u:=by injection a
 exact b u zO
theorem jsw {Yf:YF}{tk:Nat->Bool}{ro base:Nat}{lv:V}(d:ob kX=some ⟨uX,.cells (mkS g mv rv lv)⟩) (B:EdV ob lo ub lv L) (k:Off lo kX) (x:lo<=ub) (D:ro<=lo) (z:ro<=uX) (N:L.length<=100000) (a b:Int) :
 ∃r,EvS E Yf.y 137 [.ptr kX uX 0,.int .i64 a,.int .i64 b] ob tk ro base ub r/\ub<=r.2.2.2/\(∃h,r.2.1 kX=some ⟨uX,.cells (mkS g mv rv h)⟩/\EdL r.2.1 ub r.2.2.2 h (L++[(JO g a,JO g b)]))/\∀c,Off ub c->c≠kX->j1i lv L c->r.2.1 c=ob c:=by
 have n:=(k.up x).ne;obtain⟨I,f,O,M,H,J⟩:=B.at;refine Ja (af:=S137) rfl zQ ?_;show wpC E Yf S137.body _ (XD S137.res _);simp(disch:=first|(simp;done)|omega) [S137,objCells,d,mkS,histC];refine j2a (vs:=[.ptr kX uX 0,.int .i64 a]) zS rfl rfl (j2m (g:=g) (mv:=mv) (rv:=rv) ⟨lv,by simpa using d⟩ _ _ _ _) (YS rfl) ?_;simp;refine j2a (vs:=[.ptr kX uX 0,.int .i64 b]) zS rfl rfl (j2m (g:=g) (mv:=mv) (rv:=rv) ⟨lv,by simpa using d⟩ _ _ _ _) (YS rfl) ?_;simp[j2];refine JV (cs:=[.int .i64 (JO g a),.int .i64 (JO g b)]) (by simp[j2]) rfl rfl ?_;simp;refine Ye (lo:=I) (hi:=f) (v:=lv) (L:=L) (p:=(JO g a,JO g b)) zS (H.frame (λu f j=>?_) zK) (by simp;omega) (by simp[slCells,objCells,edC]) zO λK q=>?_;have t:∀m,ub<=m->¬ u=m:=λm l=>by omega
 simp(disch:=first|(simp;done)|omega) [two_inj,t];have i:∀c,j1i lv L c->K.any (Nat.beq c)=false:=λc k=>by rcases q with rfl|⟨u,f,j,rfl⟩;rfl;simp only[bu,bI,bq];exact W7 (k u (J u f j))
 have o:=i _ (B.off k);generalize w:List.flatMap edC (L++[(JO g a,JO g b)])=cs9;simp(disch:=first|(simp;done)|omega) [objCells,d,mkS,histC,o,jD,n,j2];have G:∀m,ub<=m->Nat.beq kX (2*m+1)=false:=λm l=>JN (n m l);have s:∀m,ub<=m->Nat.beq (2*m+1) kX=false:=λm l=>JN (dV (n m l));refine⟨z,by simp(disch:=first|(simp;done)|omega) [X5,Qn,jap,jb6,rdOb,rdTk,lOf,uOf,Delta.wo,Delta.wt,G,s],?_⟩;refine jec (.inl rfl) zS ⟨zL,⟨.osl (2*(ub+832)+1) (ub+832) 0 (L.length+1) 2,by simp[mkS,histC,aG],ub+832,zS,?_,zO,zL⟩,λc f j F=>?_⟩;simp(disch:=first|(simp;done)|omega) [jD,two_inj,aG,w];exact λe=>absurd e.symm (n _ zO);have t:=f.ne;simp(disch:=first|(simp;done)|omega) [jD,j,t,i c F]
theorem sv137 {Yf:YF}{tk:Nat->Bool}{ro base:Nat}(p:MkR g mv rv kX uX lo ob ub L) (q:Off lo kX) (d:lo<=ub) (h:ro<=lo) (i:ro<=uX) (m:L.length<=100000) (a b:Int) :
 ∃r,EvS E Yf.y 137 [.ptr kX uX 0,.int .i64 a,.int .i64 b] ob tk ro base ub r/\ub<=r.2.2.2/\MkR g mv rv kX uX lo r.2.1 r.2.2.2 (L++[(JO g a,JO g b)])/\∀c,Off lo c->c≠kX->r.2.1 c=ob c:=by
 obtain⟨D,e,j⟩:=p;obtain⟨r,w,n,⟨f,o,u,t,z,B,x⟩,l⟩:=jsw (Yf:=Yf) (tk:=tk) (ro:=ro) (base:=base) e j q d h i m a b;exact⟨r,w,n,⟨f,o,.inr ⟨u,t,z,zO,x⟩⟩,λc k s=>l c (k.up d) s (j.off k)⟩
end
def ptC (u:Nat):List V:=[.ptr (2*u+1) u 0]
theorem jip (u:Nat):(ptC u).length=1:=rfl
def slU (o:Option Nat) (n sz:Nat):V:=match o with
 | none=>.sl none true 0 []
 | some u=>.osl (2*u+1) u 0 n sz
structure Gr (lo hi uG:Nat) (ut uf ue:Option Nat) (tu fu:List Nat) (WT WF:Nat->Nat) (T:List P2) (ob:ZO):Prop where
 o:ob (2*uG+1)=some ⟨uG,.cells [slU ut tu.length 1,slU uf fu.length 1,slU ue T.length 2,.bool true]⟩
 t:∀u,ut=some u->ob (2*u+1)=some ⟨u,.cells (tu.flatMap ptC)⟩
 f:∀u,uf=some u->ob (2*u+1)=some ⟨u,.cells (fu.flatMap ptC)⟩
 e:∀u,ue=some u->ob (2*u+1)=some ⟨u,.cells (T.flatMap edC)⟩
 z:(ut=none->tu=[])/\(uf=none->fu=[])/\(ue=none->T=[])
 st:∀i (h:i<tu.length),ob (2*tu[i]+1)=some ⟨tu[i],.cells (setC (WT i))⟩
 sf:∀i (h:i<fu.length),ob (2*fu[i]+1)=some ⟨fu[i],.cells (setC (WF i))⟩
 nT:tu.Nodup
 nF:fu.Nodup
 nX:∀x∈tu,x ∉ fu
 nS:∀x,x∈tu\/x∈fu->x≠uG/\ut≠some x/\uf≠some x/\ue≠some x
 nG:ut≠some uG/\uf≠some uG/\ue≠some uG
 nU:∀x,ut=some x->uf≠some x/\ue≠some x
 nV:∀x,uf=some x->ue≠some x
 rG:lo<=uG/\uG<hi
 rL:∀x,ut=some x\/uf=some x\/ue=some x->lo<=x/\x<hi
 rS:∀x,x∈tu\/x∈fu->lo<=x/\x<hi
section
variable {lo hi hi' uG:Nat}{ut uf ue:Option Nat}{tu fu:List Nat}{WT WF:Nat->Nat}{T:List P2}{ob ob':ZO}
theorem Gr.keep (h:Gr lo hi uG ut uf ue tu fu WT WF T ob) (c:∀x,lo<=x->x<hi->ob' (2*x+1)=ob (2*x+1)) (d:hi<=hi'):Gr lo hi' uG ut uf ue tu fu WT WF T ob':=by
 have g:=λx a=>c x (h.rL x a).1 (h.rL x a).2;have j:=λx a=>c x (h.rS x a).1 (h.rS x a).2;exact⟨(c uG h.rG.1 h.rG.2).trans h.o,λu b=>(g u (.inl b)).trans (h.t u b),λu b=>(g u (.inr (.inl b))).trans (h.f u b),λu b=>(g u (.inr (.inr b))).trans (h.e u b),h.z,
  λi hi=>(j _ (.inl (av hi))).trans (h.st i hi),λi hi=>(j _ (.inr (av hi))).trans (h.sf i hi),h.nT,h.nF,h.nX,h.nS,h.nG,h.nU,h.nV,
  ⟨h.rG.1,aR h.rG.2 d⟩,λx a=>⟨(h.rL x a).1,aR (h.rL x a).2 d⟩,λx a=>⟨(h.rS x a).1,aR (h.rS x a).2 d⟩⟩
theorem Gr.wide {lo':Nat}(h:Gr lo hi uG ut uf ue tu fu WT WF T ob) (b:lo'<=lo):Gr lo' hi uG ut uf ue tu fu WT WF T ob :=
 ⟨h.o,h.t,h.f,h.e,h.z,h.st,h.sf,h.nT,h.nF,h.nX,h.nS,h.nG,h.nU,h.nV,⟨bG b h.rG.1,h.rG.2⟩,λx a=>⟨bG b (h.rL x a).1,(h.rL x a).2⟩,λx a=>⟨bG b (h.rS x a).1,(h.rS x a).2⟩⟩
theorem Gr.off (h:Gr lo hi uG ut uf ue tu fu WT WF T ob) {x:Nat}(a:x<hi):Off hi (2*x+1):=Off.new a
theorem jd2 {b:Type}{l:List b}(h:l.Nodup) {i j:Nat}(hi:i<l.length) (a:j<l.length) (e:l[i]=l[j]):i=j:=by rcases du i j with h1|h1|h1;exact absurd e (dX.1 h i j hi a h1);exact h1;exact absurd e.symm (dX.1 h j i a hi h1)
theorem Gr.putT (h:Gr lo hi uG ut uf ue tu fu WT WF T ob) {a w:Nat}(m:a<tu.length) (n:ob' (2*tu[a]+1)=some ⟨tu[a],.cells (setC w)⟩) (g:∀x,lo<=x->x<hi->x≠tu[a]->ob' (2*x+1)=ob (2*x+1)) (d:hi<=hi') :
 Gr lo hi' uG ut uf ue tu fu (λi=>if i=a then w else WT i) WF T ob':=by
 have l:tu[a]∈tu:=av m;obtain⟨p,r,s,y⟩:=h.nS _ (.inl l);have j:=λx (b:ut=some x\/uf=some x\/ue=some x)=>g x (h.rL x b).1 (h.rL x b).2 (λe=>by subst e;rcases b with b|b|b <;> contradiction);have k:=λx b=>g x (h.rS x b).1 (h.rS x b).2;refine⟨(g uG h.rG.1 h.rG.2 (dV p)).trans h.o,λu c=>(j u (.inl c)).trans (h.t u c),λu c=>(j u (.inr (.inl c))).trans (h.f u c),λu c=>(j u (.inr (.inr c))).trans (h.e u c),h.z,
  λi hi=>?_,λi hi=>(k _ (.inr (av hi)) (λe=>h.nX _ l (e▸av hi))).trans (h.sf i hi),h.nT,h.nF,h.nX,h.nS,h.nG,h.nU,h.nV,
  ⟨h.rG.1,aR h.rG.2 d⟩,λx b=>⟨(h.rL x b).1,aR (h.rL x b).2 d⟩,λx b=>⟨(h.rS x b).1,aR (h.rS x b).2 d⟩⟩
 by_cases e:i=a;subst e;rw[if_pos rfl];exact n;rw[if_neg e];exact(k _ (.inl (av hi)) (λq=>e (jd2 h.nT hi m q))).trans (h.st i hi)
theorem Gr.putF (h:Gr lo hi uG ut uf ue tu fu WT WF T ob) {a w:Nat}(m:a<fu.length) (n:ob' (2*fu[a]+1)=some ⟨fu[a],.cells (setC w)⟩) (g:∀x,lo<=x->x<hi->x≠fu[a]->ob' (2*x+1)=ob (2*x+1)) (d:hi<=hi') :
 Gr lo hi' uG ut uf ue tu fu WT (λi=>if i=a then w else WF i) T ob':=by
 have l:fu[a]∈fu:=av m;obtain⟨p,r,s,y⟩:=h.nS _ (.inr l);have j:=λx (b:ut=some x\/uf=some x\/ue=some x)=>g x (h.rL x b).1 (h.rL x b).2 (λe=>by subst e;rcases b with b|b|b <;> contradiction);have k:=λx b=>g x (h.rS x b).1 (h.rS x b).2;refine⟨(g uG h.rG.1 h.rG.2 (dV p)).trans h.o,λu c=>(j u (.inl c)).trans (h.t u c),λu c=>(j u (.inr (.inl c))).trans (h.f u c),λu c=>(j u (.inr (.inr c))).trans (h.e u c),h.z,
  λi hi=>(k _ (.inl (av hi)) (λe=>h.nX _ (av hi) (e▸l))).trans (h.st i hi),λi hi=>?_,h.nT,h.nF,h.nX,h.nS,h.nG,h.nU,h.nV,
  ⟨h.rG.1,aR h.rG.2 d⟩,λx b=>⟨(h.rL x b).1,aR (h.rL x b).2 d⟩,λx b=>⟨(h.rS x b).1,aR (h.rS x b).2 d⟩⟩
 by_cases e:i=a;subst e;rw[if_pos rfl];exact n;rw[if_neg e];exact(k _ (.inr (av hi)) (λq=>e (jd2 h.nF hi m q))).trans (h.sf i hi)
theorem Gr.edge (h:Gr lo hi uG ut uf ue tu fu WT WF T ob) {x:Nat}{p:P2}(m:ob' (2*uG+1)=some ⟨uG,.cells [slU ut tu.length 1,slU uf fu.length 1,slU (some x) (T.length+1) 2,.bool true]⟩) (s:ob' (2*x+1)=some ⟨x,.cells ((T++[p]).flatMap edC)⟩)
 (j:∀y,lo<=y->y<hi->y≠uG->ue≠some y->ob' (2*y+1)=ob (2*y+1)) (w:hi<=x) (o:x<hi'):Gr lo hi' uG ut uf (some x) tu fu WT WF (T++[p]) ob':=by
 have g:hi<=hi':=zO;have k:lo<=x:=by have:=h.rG;omega
 have ne:∀y,ut=some y\/uf=some y\/ue=some y->y≠x:=λy a e=>by have:=(h.rL y a).2;omega
 have r:∀y,y∈tu\/y∈fu->y≠x:=λy a e=>by have:=(h.rS y a).2;omega
 refine⟨by rw[au];exact m,λu b=>(j u (h.rL u (.inl b)).1 (h.rL u (.inl b)).2 (λe=>h.nG.1 (e▸b)) (h.nU u b).2).trans (h.t u b),λu b=>(j u (h.rL u (.inr (.inl b))).1 (h.rL u (.inr (.inl b))).2 (λe=>h.nG.2.1 (e▸b)) (h.nV u b)).trans (h.f u b),
  λu b=>by cases b;exact s,⟨h.z.1,h.z.2.1,λe=>by cases e⟩,λi hi=>?_,λi hi=>?_,h.nT,h.nF,h.nX,λy a=>?_,⟨h.nG.1,h.nG.2.1,λe=>?_⟩,λy a=>⟨(h.nU y a).1,λe=>ne y (.inl a) (by injection e with e;exact e.symm)⟩,λy a e=>ne y (.inr (.inl a)) (by injection e with e;exact e.symm),
  ⟨h.rG.1,aR h.rG.2 g⟩,λy a=>?_,λy a=>⟨(h.rS y a).1,aR (h.rS y a).2 g⟩⟩
 have c:=av hi;obtain⟨d,_,_,l⟩:=h.nS _ (.inl c);exact(j _ (h.rS _ (.inl c)).1 (h.rS _ (.inl c)).2 d l).trans (h.st i hi);have c:=av hi;obtain⟨d,_,_,l⟩:=h.nS _ (.inr c);exact(j _ (h.rS _ (.inr c)).1 (h.rS _ (.inr c)).2 d l).trans (h.sf i hi);obtain⟨d,n,q,_⟩:=h.nS y a;exact⟨d,n,q,λe=>r y a (by injection e with e;exact e.symm)⟩;have:=h.rG.2;injection e with e;omega;rcases a with a|a|a;exact⟨(h.rL y (.inl a)).1,aR (h.rL y (.inl a)).2 g⟩;exact⟨(h.rL y (.inr (.inl a))).1,aR (h.rL y (.inr (.inl a))).2 g⟩;cases a;exact⟨k,o⟩
theorem Gr.node {a b c d:Nat}(h:Gr lo hi uG ut uf none tu fu (λ_=>0) (λ_=>0) [] ob) (x:ob' (2*uG+1)=some ⟨uG,.cells [slU (some b) (tu.length+1) 1,slU (some d) (fu.length+1) 1,.sl none true 0 [],.bool true]⟩)
 (s:ob' (2*b+1)=some ⟨b,.cells ((tu++[a]).flatMap ptC)⟩) (p:ob' (2*d+1)=some ⟨d,.cells ((fu++[c]).flatMap ptC)⟩) (D:ob' (2*a+1)=some ⟨a,.cells (setC 0)⟩) (F:ob' (2*c+1)=some ⟨c,.cells (setC 0)⟩)
 (t:∀y,lo<=y->y<hi->y≠uG->ut≠some y->uf≠some y->ob' (2*y+1)=ob (2*y+1)) (w:hi<=a/\a<b/\b<c/\c<d/\d<hi'):Gr lo hi' uG (some b) (some d) none (tu++[a]) (fu++[c]) (λ_=>0) (λ_=>0) [] ob':=by
 obtain⟨G,L,H,J,I⟩:=w;have K:hi<=hi':=zO;have n:=h.rG;have g:∀y,y∈tu\/y∈fu->lo<=y/\y<hi:=h.rS;have o:∀y,y∈tu\/y∈fu->ob' (2*y+1)=ob (2*y+1):=λy f=>by obtain⟨B,q,r,_⟩:=h.nS y f;exact t y (g y f).1 (g y f).2 B q r
 have j:∀y,y∈tu++[a]\/y∈fu++[c]->(y∈tu\/y∈fu)\/y=a\/y=c:=λy f=>by simp only[aO,ae]at f;rcases f with(h|h)|(h|h);exact .inl (.inl h);exact .inr (.inl h);exact .inl (.inr h);exact .inr (.inr h)
 refine⟨by simpa[slU] using x,λu k=>(by cases k;exact s),λu k=>(by cases k;exact p),λu k=>(by cases k),⟨λe=>(by cases e),λe=>(by cases e),λ_=>rfl⟩,λi hi=>?_,λi hi=>?_,?_,?_,λy f=>?_,λy f=>?_,⟨λe=>?_,λe=>?_,λe=>(by cases e)⟩,
  λy f=>⟨λe=>?_,λe=>(by cases e)⟩,λy _ e=>(by cases e),⟨n.1,zO⟩,λy f=>?_,λy f=>?_⟩
 by_cases e:i<tu.length;rw[dZ e];exact(o _ (.inl (av e))).trans (h.st i e);have:i=tu.length:=by rw[au,eG]at hi;omega
 subst this;rw[fh zK];simpa using D;by_cases e:i<fu.length;rw[dZ e];exact(o _ (.inr (av e))).trans (h.sf i e);have:i=fu.length:=by rw[au,eG]at hi;omega
 subst this;rw[fh zK];simpa using F;rw[di];exact⟨h.nT,zS,λy f z m e=>by rw[ae]at m;have:=(g y (.inl f)).2;omega⟩;rw[di];exact⟨h.nF,zS,λy f z m e=>by rw[ae]at m;have:=(g y (.inr f)).2;omega⟩;simp only[aO,ae]at f ⊢;rintro(l|l);rcases f with h3|h3;exact h.nX y h3 l;have:=(g y (.inr l)).2;omega;rcases f with h3|h3;have:=(g y (.inl h3)).2;omega;omega;refine⟨?_,λe=>?_,λe=>?_,λe=>(by cases e)⟩;rcases j y f with h3|h3|h3;exact(h.nS y h3).1;omega;omega;injection e with e;rcases j y f with h3|h3|h3;have:=(g y h3).2;omega;omega;omega;injection e with e;rcases j y f with h3|h3|h3;have:=(g y h3).2;omega;omega;omega;injection e with e;omega;injection e with e;omega;injection f with f;injection e with e;omega;rcases f with f|f|f;injection f with f;omega;injection f with f;omega;cases f;rcases j y f with h3|h3|h3;have:=g y h3;omega;omega;omega
end
def X1 (o:Option Nat):List Nat:=match o with
 | none=>[]
 | some u=>[2*u+1]
theorem jfr {st:St}{ub:Nat}{K:List FP->St->Prop}{d:Option Nat}{r:List AOpr}{ut:Option Nat}{tu:List Nat}{a:Nat}{s x:A}(f:eval E st.tm s=slU ut tu.length 1) (i:∀u,ut=some u->st.ob (2*u+1)=some ⟨u,.cells (tu.flatMap ptC)⟩/\st.ro<=u) (m:ut=none->tu=[])
 (g:slCells st.ob 1 (eval E st.tm x)=some (ptC a)) (n:tu.length<=1000000)
 (h:Wy E r K (eval E st.tm) (.append true 1 8 s x) st d ub { v:=.osl (2*ub+1) ub 0 (tu.length+1) 1,obs:=[(2*ub+1,⟨ub,.cells ((tu++[a]).flatMap ptC)⟩)],kill:=X1 ut }):jF E (⟨d,.append true 1 8 s x,none,true⟩::r) st ub K:=by
 rw[Jq rfl];have b:ptC a≠[]:=by simp[ptC]
 have c:(ptC a).all V.leaf=true:=rfl;have j:=j3 jip tu;cases ut with
 | none=>have:=m rfl;subst this;simp only[aop,f,slU,g,am,if_neg b,cB,if_true,Jx,QD];rw[if_pos ⟨zQ,c,by simp[ptC],by simp[ptC]⟩];simp only[Jj,jM];simpa[ptC,X1] using h
 | some u=>
  obtain⟨k,l⟩:=i u rfl;have e:objCells st.ob (2*u+1) u=some (tu.flatMap ptC):=by simp[objCells,k]
  simp only[aop,f,slU,g,e,am,if_neg b,Jx,QD];rw[if_pos ⟨ce▸l,trivial,trivial,zO,zQ,c,by simp[ptC];omega,by simp[ptC];omega⟩,jM];rw[show(tu.flatMap ptC).take (tu.length*1)=tu.flatMap ptC from aK zO];simpa[ptC,X1,bT] using h
theorem j4s (l u o:Nat):lOf (.ptr l u o)=[l]:=rfl
theorem j4t (l u o n z:Nat):lOf (.osl l u o n z)=[l]:=rfl
theorem beqN {a b:Nat}(h:¬ a=b):Nat.beq (2*a+1) (2*b+1)=false:=JN zO
theorem jwj (a:Nat) (x y:List Nat):jap (a::x) y=(!(y.any λb=>Nat.beq a b) && jap x y):=by simp[jap,Bool.not_or]
theorem j05 (y:List Nat):jap [] y=true:=rfl
theorem j06 (x a y:List Nat):jap (x++a) y=(jap x y && jap a y):=by simp[jap,fK,Bool.not_or]
section
variable {ob:ZO}{ub:Nat}
def PgR (ob:ZO) (ub n:Nat) (WT WF:Nat->Nat) (k:Nat) (r:V × (ZO) × (Nat->Bool) × Nat):Prop :=
 ∃uG ut uf ue tu fu T,r.1=.tup [.ptr (2*uG+1) uG 0,.int .i64 0]/\Gr ub r.2.2.2 uG (some ut) (some uf) ue tu fu WT WF T r.2.1/\tu.length=n/\fu.length=n/\T.length<=k/\ub<=r.2.2.2/\∀key,Off ub key->r.2.1 key=ob key
theorem sv204 {Yf:YF}{tk:Nat->Bool}{ro base n:Nat}(c4:ro<=ub) (X:0<n) (h9:n<=9):∃r,EvS E Yf.y 204 [.int .i64 (n:Int)] ob tk ro base ub r/\PgR ob ub n (λ_=>0) (λ_=>0) 0 r:=by
 refine Ja (af:=S204) rfl zQ ?_;show wpC E Yf S204.body _ (XD S204.res _);have c2:¬ (n:Int)<0:=zO;have b0:¬ (500:Int)<n:=zO;simp(disch:=first|(simp;done)|omega) [S204,c2,b0,V.cells,j2];refine jQ λF l=>?_;obtain⟨q,u1,u2,g4,gG⟩:∃u,ub<=u/\u<F.nx/\F.tm 4=.ptr (2*u+1) u 0/\F.ob (2*u+1)=some ⟨u,.cells [.sl none true 0 [],.sl none true 0 [],.sl none true 0 [],.bool true]⟩:=by refine⟨ub+576,zO,by rw[l];first|omega|(simp;done)|(simp;omega),by rw[l];simp,by rw[l];simp[aG]⟩
 have c1:F.tm 13=.int .i64 n:=by rw[l];simp
 have O:F.tm 14=.int .i64 0:=by rw[l];simp
 have gd:F.df=[]:=by rw[l];simp
 have gr:F.ro=ro:=by rw[l];simp
 have go:∀g,Off ub g->F.ob g=ob g:=λg w=>by have:=w.ne;rw[l];simp(disch:=first|(simp;done)|omega) [this]
 clear l;obtain⟨J,hJ⟩:∃J:Nat->St->Prop,J=λi s=>s.tm 14=.int .i64 i/\(∃ut k tu L,Gr ub s.nx q ut k none tu L (λ_=>0) (λ_=>0) [] s.ob/\tu.length=i/\L.length=i/\((ut=none/\k=none/\i=0)\/∃a b,ut=some a/\k=some b))/\ub<=s.nx/\∀g,Off ub g->s.ob g=ob g:=⟨_,rfl⟩;refine j6 [(14,36)] n J rfl rfl ?_ ?_;rw[hJ];refine⟨by simpa using O,⟨none,none,[],[],⟨by simpa[slU] using gG,λu h=>(by cases h),λu h=>(by cases h),λu h=>(by cases h),⟨λ_=>rfl,λ_=>rfl,λ_=>rfl⟩,λi h=>(by simp at h),λi h=>(by simp at h),dS,dS,λx h=>(by simp at h),λx h=>(by simp at h),⟨zS,zS,zS⟩,λx h=>(by cases h),λx h=>(by cases h),⟨u1,u2⟩,λx h=>(by simp at h),λx h=>(by simp at h)⟩,rfl,rfl,.inl ⟨rfl,rfl,rfl⟩⟩,zO,go⟩;clear O go gG u2;intro i s hi P f;rw[hJ]at P;obtain⟨K,⟨ut,k,tu,L,j,ht,hf,p⟩,sn,so⟩:=P;have s4:=(f.t 4 zS).trans g4;have U:=(f.t 13 zS).trans c1;have sd:=f.d.trans gd;have sr:=f.r.trans gr;clear f;by_cases H:i<n;have b5:=jZ H zO;have G:=j.o;have b6:=j.rG;have nG:∀m,s.nx<=m->¬ q=m:=λm B=>by omega
 have kt:∀m,s.nx<=m->(X1 ut).any (Nat.beq (2*m+1))=false:=λm B=>by
  cases ut with
  | none=>rfl
  | some u=>have:=j.rL u (.inl rfl);simp only[X1,bu,bI,bq];exact JN zO
 have Z:∀m,s.nx<=m->(X1 k).any (Nat.beq (2*m+1))=false:=λm B=>by
  cases k with
  | none=>rfl
  | some u=>have:=j.rL u (.inr (.inl rfl));simp only[X1,bu,bI,bq];exact JN zO
 have I:∀x,ut≠some x->(X1 ut).any (Nat.beq (2*x+1))=false:=λx hx=>by
  cases ut with
  | none=>rfl
  | some u=>simp only[X1,bu,bI,bq];exact JN λe=>hx (by rw[show x=u by omega])
 have N:∀x,k≠some x->(X1 k).any (Nat.beq (2*x+1))=false:=λx hx=>by
  cases k with
  | none=>rfl
  | some u=>simp only[X1,bu,bI,bq];exact JN λe=>hx (by rw[show x=u by omega])
 have b8:∀g,Off ub g->(X1 ut).any (Nat.beq g)=false:=λg w=>by
  cases ut with
  | none=>rfl
  | some u=>have:=j.rL u (.inl rfl);simp only[X1,bu,bI,bq];exact JN (w u this.1)
 have b7:∀g,Off ub g->(X1 k).any (Nat.beq g)=false:=λg w=>by
  cases k with
  | none=>rfl
  | some u=>have:=j.rL u (.inr (.inl rfl));simp only[X1,bu,bI,bq];exact JN (w u this.1)
 simp(disch:=first|(simp;done)|omega) [K,U,s4,H,objCells,G];refine j2b zS rfl rfl rfl ?_;simp;refine JV (cs:=ptC (s.nx+448)) (by simp[j2,ptC,aG,V.cells,V.leaf]) rfl rfl ?_;simp;refine jfr (ut:=ut) (tu:=tu) (a:=s.nx+448) zS (λu M=>?_) j.z.1 (by simp[slCells,objCells,ptC,aG]) zO ?_;have:=j.rL u (.inl M);have nu:∀m,s.nx<=m->¬ u=m:=λm B=>by omega
 refine⟨?_,by simp[sr];omega⟩;simp(disch:=first|(simp;done)|omega) [two_inj,nu,j.t u M];have k1:=I q j.nG.1;simp(disch:=first|(simp;done)|omega) [jD,objCells,G,two_inj,nG,k1,s4];refine j2b zS rfl rfl rfl ?_;simp;refine JV (cs:=ptC (s.nx+896)) (by simp[j2,ptC,aG,V.cells,V.leaf]) rfl rfl ?_;simp;refine jfr (ut:=k) (tu:=L) (a:=s.nx+896) zS (λu M=>?_) j.z.2.1 (by simp[slCells,objCells,ptC,aG]) zO ?_;have:=j.rL u (.inr (.inl M));have nu:∀m,s.nx<=m->¬ u=m:=λm B=>by omega
 have k2:=I u λe=>(j.nU u e).1 M;refine⟨?_,by simp[sr];omega⟩;simp(disch:=first|(simp;done)|omega) [jD,two_inj,nu,j.f u M,k2];have k3:=N q j.nG.2.1;simp(disch:=first|(simp;done)|omega) [jD,objCells,G,two_inj,nG,k1,k3,j2];have b9:(∀m,s.nx<=m->Nat.beq (2*q+1) (2*m+1)=false)/\(∀m,s.nx<=m->Nat.beq (2*m+1) (2*q+1)=false):=⟨λm B=>JN zO,λm B=>JN zO⟩;obtain⟨Q,S⟩:=b9;have T:∀o:Option Nat,(o=ut\/o=k)->∀n,lOf (slU o n 1)=X1 o/\uOf (slU o n 1)=[]:=λo _ n=>by cases o <;> exact⟨rfl,rfl⟩
 have hd1:=T ut (.inl rfl);have a0:=T k (.inr rfl);have kk:(X1 ut).any (λa=>(X1 k).any λb=>Nat.beq a b)=false/\(X1 k).any (λa=>(X1 ut).any λb=>Nat.beq a b)=false:=by
  rcases p with⟨rfl,rfl,rfl⟩|⟨a,b,rfl,rfl⟩;exact⟨rfl,rfl⟩;have:=(j.nU a rfl).1;have c3:a≠b:=λe=>this (by rw[e])
  simp only[X1,bu,bI,bq];exact⟨JN zO,JN zO⟩
 have c6:∀m,s.nx<=m->(X1 ut).any (λa=>Nat.beq a (2*m+1))=false:=λm B=>by
  cases ut with
  | none=>rfl
  | some u=>have:=j.rL u (.inl rfl);simp only[X1,bu,bI,bq];exact JN zO
 have c5:∀m,s.nx<=m->(X1 k).any (λa=>Nat.beq a (2*m+1))=false:=λm B=>by
  cases k with
  | none=>rfl
  | some u=>have:=j.rL u (.inr (.inl rfl));simp only[X1,bu,bI,bq];exact JN zO
 have c0:(X1 ut).any (λa=>Nat.beq a (2*q+1))=false/\(X1 k).any (λa=>Nat.beq a (2*q+1))=false:=by rcases p with⟨rfl,rfl,rfl⟩|⟨a,b,rfl,rfl⟩;exact⟨rfl,rfl⟩;have X:=j.nG;simp only[X1,bu,bI,bq];exact⟨JN λe=>X.1 (by rw[show a=q by omega]),JN λe=>X.2.1 (by rw[show b=q by omega])⟩
 refine⟨zO,by simp(disch:=first|(simp;done)|omega) [X5,Qn,jap,jb6,rdOb,rdTk,lOf,uOf,Delta.wo,Delta.wt,Q,S,c0],jzc (by simp(disch:=first|(simp;done)|omega) [juq,jrd,QF,jwj,j05,j06,jb6,rdOb,rdTk,j4s,j4t,Delta.wo,Delta.wt,Q,S,hd1,a0,kt,Z,k1,k3,beqN]),?_⟩;simp(disch:=first|(simp;done)|omega) [K,b5,H];rw[hJ];have D:∀m,s.nx<=m->¬ m=q:=λm B=>by omega
 refine⟨zS,⟨some (s.nx+576),some (s.nx+1024),tu++[s.nx+448],L++[s.nx+896],j.node (a:=s.nx+448) (b:=s.nx+576) (c:=s.nx+896) (d:=s.nx+1024) ?_ ?_ ?_ ?_ ?_ (λy X h2 h3 h4 h5=>?_) ⟨zO,zO,zO,zO,zL⟩,by simp[ht],by simp[hf],.inr ⟨_,_,rfl,rfl⟩⟩,zL,λg w=>?_⟩;simp(disch:=first|(simp;done)|omega) [slU,aG];simp(disch:=first|(simp;done)|omega) [jD,two_inj,D,Z,aG];simp(disch:=first|(simp;done)|omega) [jD,two_inj,D,aG];simp(disch:=first|(simp;done)|omega) [jD,two_inj,D,kt,Z,aG,jj6];simp(disch:=first|(simp;done)|omega) [jD,two_inj,D,Z,aG,jj6];have ny:∀m,s.nx<=m->¬ y=m:=λm B=>by omega
 have q1:=I y h4;have q2:=N y h5;simp(disch:=first|(simp;done)|omega) [jD,two_inj,ny,q1,q2,h3];have q1:=b8 g w;have q2:=b7 g w;have q3:=(w.up (show ub<=s.nx by omega)).ne;have q4:¬ g=2*q+1:=w q b6.1;simp(disch:=first|(simp;done)|omega) [jD,q1,q2,q3,q4];exact so g w;have:i=n:=zO;subst this;simp(disch:=first|(simp;done)|omega) [K,U,s4];rcases p with⟨_,_,rfl⟩|⟨a,b,rfl,rfl⟩;omega;refine jdh (by simp[sd]) ⟨q,a,b,none,tu,L,[],zS,j.keep (λx _ _=>by simp) zL,ht,hf,zS,zL,λg w=>by simpa using so g w⟩
end
section
variable {lo hi uG:Nat}{ut uf:Nat}{ue:Option Nat}{tu fu:List Nat}{WT WF:Nat->Nat}{T:List P2}{ob:ZO}{ub:Nat}
theorem jwe (b:Gr lo hi uG (some ut) (some uf) ue tu fu WT WF T ob) (e:hi<=ub) (tk:Nat->Bool) (base:Nat):EvO E 248 [.ptr (2*uG+1) uG 0] ob tk base ub (.bool true):=by
 have a:=b.o;have d:∀m,ub<=m->¬ uG=m:=λm c=>by have:=b.rG;omega
 refine JL (af:=S248) rfl ?_;conv in (occs := *) S248=> all_goals cbv
 simp(disch:=first|(simp;done)|omega) [S248,objCells,a];exact j4 zS zS rfl
theorem jln (c:Gr lo hi uG (some ut) (some uf) ue tu fu WT WF T ob) (d:hi<=ub) (a:Int) (tk:Nat->Bool) (base:Nat):EvO E 206 [.ptr (2*uG+1) uG 0,.int .i64 a] ob tk base ub (.bool (decide (0<=a) && decide (a<tu.length))):=by
 have b:=c.o;have f:∀m,ub<=m->¬ uG=m:=λm e=>by have:=c.rG;omega
 refine JL (af:=S206) rfl ?_;conv in (occs := *) S206=> all_goals cbv
 simp(disch:=first|(simp;done)|omega) [S206,objCells,b];refine jb (vs:=[.ptr (2*uG+1) uG 0]) zS rfl rfl (jwe (c.keep (λx _ _=>by simp) d) zO _ _) ?_;by_cases h:0<=a;simp(disch:=first|(simp;done)|omega) [objCells,b,slU,h];exact j4 zS zS rfl;simp(disch:=first|(simp;done)|omega) [objCells,b,slU,h];exact j4 zS zS rfl
theorem jio {l:List Nat}{i:Nat}(h:i<l.length):(l.flatMap ptC)[i]? = some (.ptr (2*l[i]+1) l[i] 0):=by have:=jU jip l h (by decide:0<1);rw[bz,bj]at this;rw[this];rfl
theorem evo249 (c:Gr lo hi uG (some ut) (some uf) ue tu fu WT WF T ob) (h:hi<=ub) {a b:Nat}(e:a<tu.length) (j:b<64) (g:WT a<2 ^ 64) (tk:Nat->Bool) (base:Nat):EvO E 249 [.ptr (2*uG+1) uG 0,.int .i64 (a:Int),.int .i64 (b:Int)] ob tk base ub (.bool ((WT a).testBit b)):=by
 have d:=c.o;have f:=c.t ut rfl;have y:∀m,ub<=m->¬ uG=m:=λm r=>by have:=c.rG;omega
 have i:∀m,ub<=m->¬ ut=m:=λm r=>by have:=c.rL ut (.inl rfl);omega
 have p:=c.st a e;have q:=c.rS tu[a] (.inl (av e));have s:=jgp (l:=2*ut+1) (u:=ut) (kk:=.i64) e;have B:=jio e;have z:((a:Int)<(tu.length:Int)):=zO;refine JL (af:=S249) rfl ?_;conv in (occs := *) S249=> all_goals cbv
 simp(disch:=first|(simp;done)|omega) [S249,objCells,d];refine jb (vs:=[.ptr (2*uG+1) uG 0,.int .i64 a]) zS rfl rfl (jln (c.keep (λx _ _=>by simp) h) zO _ _ _) ?_;simp(disch:=first|(simp;done)|omega) [objCells,d,slU,e,two_inj,y,i,f,s,B];refine jb (vs:=[.ptr (2*tu[a]+1) tu[a] 0,.int .i64 b]) zS rfl rfl (j2r (w:=WT a) (by simpa using p) (Off.new zO) j g _ _) ?_;simp;exact j4 zS zS rfl
end
section
variable {ub n k:Nat}{uG ut uf:Nat}{ue:Option Nat}{tu fu:List Nat}{WT WF:Nat->Nat}{T:List P2}{lo:Nat}{ob:ZO}
def GPut (lo:Nat) (ob:ZO) (ub uG ut uf:Nat) (tu fu:List Nat) (WT WF:Nat->Nat) (k:Nat) (r:V × (ZO) × (Nat->Bool) × Nat):Prop :=
 ∃bb ue T,r.1=.tup [.bool bb,.int .i64 0]/\Gr lo r.2.2.2 uG (some ut) (some uf) ue tu fu WT WF T r.2.1/\T.length<=k/\ub<=r.2.2.2/\∀key,Off lo key->r.2.1 key=ob key
theorem j1z {w b:Nat}(h:w.testBit b=true):w ||| 1 <<< b=w:=by refine Nat.eq_of_testBit_eq λi=>?_;rw[ew,dP,fT];by_cases e:b=i;subst e;simp[h];simp[e]
def Dual (n:Nat) (WT WF:Nat->Nat):Prop:=∀a b,a<n->b<n->(WT a).testBit b=(WF b).testBit a
theorem jnh {F:Env}{Yf:YF}{q:Nat}{ue:Option Nat}{T:List P2}{p:P2}{s x:A}{st:St}{K:St->Nat->Prop}{d:Option Nat}(a:eval F st.tm s=slU ue T.length 2) (c:∀u,ue=some u->st.ob (2*u+1)=some ⟨u,.cells (T.flatMap edC)⟩/\st.ro<=u) (i:ue=none->T=[])
 (b:slCells st.ob 2 (eval F st.tm x)=some (edC p)) (j:T.length<=1000000) (h:WR K st d q { v:=.osl (2*q+1) q 0 (T.length+1) 2,obs:=[(2*q+1,⟨q,.cells ((T++[p]).flatMap edC)⟩)],kill:=X1 ue }):j8 F Yf ⟨d,.append true 2 16 s x,none,true⟩ st q K:=by
 cases ue with
 | none=>have:=i rfl;subst this;refine XJ a b (by simp[edC]) zQ rfl (by simp[edC]) (by simp[edC]) ?_;simpa[edC,jH,X1] using h
 | some u=>obtain⟨f,g⟩:=c u rfl;have e:=j3 JW T;refine XU (cs:=T.flatMap edC) a b f (by simp[edC]) g zO zQ rfl (by simp[edC];omega) (by simp[edC];omega) ?_;rw[aK zO];simpa[edC,jH,X1] using h
theorem jla {ue:Option Nat}{x:Nat}(h:ue≠some x):(X1 ue).any (Nat.beq (2*x+1))=false:=by
 cases ue with
 | none=>rfl
 | some u=>simp only[X1,bu,bI,bq];exact JN λe=>h (by rw[show x=u by omega])
theorem ju7 {ue:Option Nat}{key l:Nat}(h:∀u,ue=some u->l<=u) (a:Off l key):(X1 ue).any (Nat.beq key)=false:=by
 cases ue with
 | none=>rfl
 | some u=>simp only[X1,bu,bI,bq];exact JN (a u (h u rfl))
theorem sv205 {Yf:YF}{tk:Nat->Bool}{ro base:Nat}(g:Gr lo ub uG (some ut) (some uf) ue tu fu WT WF T ob) (c5:ro<=lo) (L:tu.length=n) (hf:fu.length=n) (h9:n<=64) {a b:Nat}(ha:a<n) (Z:b<n) (c1:∀i,i<n->WT i<2 ^ n) (a0:∀i,i<n->WF i<2 ^ n) (hd:Dual n WT WF) (hT:T.length<=100000) :
 ∃r,EvS E Yf.y 205 [.ptr (2*uG+1) uG 0,.int .i64 (a:Int),.int .i64 (b:Int)] ob tk ro base ub r/\GPut lo ob ub uG ut uf tu fu (λi=>if i=a then WT a ||| 1 <<< b else WT i) (λi=>if i=b then WF b ||| 1 <<< a else WF i) (T.length+1) r:=by
 have hp:(2:Nat) ^ n<=2 ^ 64:=ci zQ h9;have w1:WT a<2 ^ 64:=aR (c1 a ha) hp;have w2:WF b<2 ^ 64:=aR (a0 b Z) hp;have N:=g.o;have b6:=g.rG;have nG:∀m,ub<=m->¬ uG=m:=λm J=>by omega
 refine Ja (af:=S205) rfl zQ ?_;show wpC E Yf S205.body _ (XD S205.res _);conv in (occs := *) S205=> all_goals cbv
 simp(disch:=first|(simp;done)|omega) [S205,objCells,N];refine jb (vs:=[.ptr (2*uG+1) uG 0]) zS rfl rfl (jwe (g.keep (λx _ _=>by simp) zK) zO _ _) ?_;simp;refine jb (vs:=[.ptr (2*uG+1) uG 0,.int .i64 a]) zS rfl rfl (jln (g.keep (λx _ _=>by simp) zK) zO _ _ _) ?_;simp(disch:=first|(simp;done)|omega) [L,ha];refine jb (vs:=[.ptr (2*uG+1) uG 0,.int .i64 b]) zS rfl rfl (jln (g.keep (λx _ _=>by simp) zK) zO _ _ _) ?_;simp(disch:=first|(simp;done)|omega) [L,Z];refine jb (vs:=[.ptr (2*uG+1) uG 0,.int .i64 a,.int .i64 b]) zS rfl rfl (evo249 (g.keep (λx _ _=>by simp) zK) zO zO zO w1 _ _) ?_;cases hh:(WT a).testBit b;have q:a<tu.length:=zO;have j:b<fu.length:=zO;have c2:=g.t ut rfl;have nt:∀m,ub<=m->¬ ut=m:=λm J=>by have:=g.rL ut (.inl rfl);omega
 have X:=jgp (l:=2*ut+1) (u:=ut) (kk:=.i64) q;have e2:=jio q;have e3:=jgp (l:=2*uf+1) (u:=uf) (kk:=.i64) j;have e4:=jio j;rw[L]at X;rw[hf]at e3;have c0:=g.rS tu[a] (.inl (av q));have b9:=g.rS fu[b] (.inr (av j));have hs:=g.st a q;simp(disch:=first|(simp;done)|omega) [objCells,N,slU,two_inj,nG,nt,c2,L,X,e2];refine jV (vs:=[.ptr (2*tu[a]+1) tu[a] 0,.int .i64 b]) zS rfl (sv81 (w:=WT a) (by simpa using hs) (Off.new zL) (by simp;omega) zO w1) ?_;rintro v1 P c4 s ⟨_,D,I⟩;simp only at D I;have q1:ub<=s:=by first|omega|(simp at I;omega)
 have B:Gr lo s uG (some ut) (some uf) ue tu fu (λi=>if i=a then WT a ||| 1 <<< b else WT i) WF T P:=by refine g.putT q ?_ (λx h1 h2 h3=>?_) q1;have:=D (2*tu[a]+1) (Off.new zL);rwa [if_pos rfl]at this;have:=D (2*x+1) (Off.new zL);rw[if_neg zO]at this;simpa using this
 have b8:∀c,Off lo c->P c=ob c:=λc h=>by have:=D c (h.up zL);rw[if_neg (h tu[a] c0.1)]at this;simpa using this
 clear D I;have F:=B.o;have H:=B.f uf rfl;have c3:∀m,s<=m->¬ uG=m:=λm J=>by omega
 have b7:∀m,s<=m->¬ uf=m:=λm J=>by have:=g.rL uf (.inr (.inl rfl));omega
 have Q:=B.sf b j;simp(disch:=first|(simp;done)|omega) [objCells,F,slU,two_inj,c3,b7,H,hf,e3,e4];refine jV (vs:=[.ptr (2*fu[b]+1) fu[b] 0,.int .i64 a]) zS rfl (sv81 (w:=WF b) (by simpa using Q) (Off.new zL) (by simp;omega) zO w2) ?_;rintro v2 M c6 d ⟨_,D,I⟩;simp only at D I;have q2:s<=d:=by first|omega|(simp at I;omega)
 have K:Gr lo d uG (some ut) (some uf) ue tu fu (λi=>if i=a then WT a ||| 1 <<< b else WT i) (λi=>if i=b then WF b ||| 1 <<< a else WF i) T M:=by refine B.putF j ?_ (λx h1 h2 h3=>?_) q2;have:=D (2*fu[b]+1) (Off.new zL);rwa [if_pos rfl]at this;have:=D (2*x+1) (Off.new zL);rw[if_neg zO]at this;simpa using this
 have b0:∀c,Off lo c->M c=ob c:=λc h=>by have:=D c (h.up zL);rw[if_neg (h fu[b] b9.1)]at this;rw[<- b8 c h];simpa using this
 clear D I F H B Q;have G:=K.o;have S:∀m,d<=m->¬ uG=m:=λm J=>by omega
 simp(disch:=first|(simp;done)|omega) [objCells,G,two_inj,S,j2];refine ja (cs:=[.int .i64 (a:Int),.int .i64 (b:Int)]) (by simp[j2]) rfl rfl ?_;simp;refine jnh (ue:=ue) (T:=T) (p:=((a:Int),(b:Int))) zS (λu U=>?_) g.z.2.2 (by simp[slCells,objCells,edC]) zO ?_;have:=g.rL u (.inr (.inr U));have nu:∀m,d<=m->¬ u=m:=λm J=>by omega
 refine⟨?_,by simp;omega⟩;simp(disch:=first|(simp;done)|omega) [jD,two_inj,nu,K.e u U];have k1:=jla (ue:=ue) g.nG.2.2;simp(disch:=first|(simp;done)|omega) [jD,objCells,G,two_inj,S,j2,k1];have O:∀m,d<=m->¬ m=uG:=λm J=>by omega
 refine⟨zO,jdh zS ⟨true,some (d+576),T++[((a:Int),(b:Int))],zS,K.edge (x:=d+576) (p:=((a:Int),(b:Int))) ?_ ?_ (λy h1 h2 h3 h4=>?_) zO zL,zS,zL,λc h=>?_⟩⟩;simp(disch:=first|(simp;done)|omega) [slU,aG,L,hf];simp(disch:=first|(simp;done)|omega) [jD,two_inj,O,aG,slU];have ny:∀m,d<=m->¬ y=m:=λm J=>by omega
 have k2:=jla h4;simp(disch:=first|(simp;done)|omega) [jD,two_inj,ny,k2,h3];have k2:=ju7 (ue:=ue) (l:=lo) (λu U=>(g.rL u (.inr (.inr U))).1) h;have q3:=(h.up (show lo<=d by omega)).ne;have q4:¬ c=2*uG+1:=h uG b6.1;simp(disch:=first|(simp;done)|omega) [jD,k2,q3,q4];exact b0 c h;simp;have b5:(WF b).testBit a=true:=by rw[<- hd a b ha Z];exact hh
 have X:(λi=>if i=a then WT a ||| 1 <<< b else WT i)=WT:=funext λi=>by split;rename_i e;rw[e,j1z hh];rfl
 have e2:(λi=>if i=b then WF b ||| 1 <<< a else WF i)=WF:=funext λi=>by split;rename_i e;rw[e,j1z b5];rfl
 rw[X,e2];exact jdh zS ⟨false,ue,T,zS,g.keep (λx _ _=>by simp) zL,zO,zL,λc h=>by simp⟩
end
def rowW (L:List P2) (a:Nat):Nat:=L.foldl (λw z=>if z.1=(a:Int) then w ||| 1 <<< z.2.toNat else w) 0
def colW (L:List P2) (b:Nat):Nat:=L.foldl (λw z=>if z.2=(b:Int) then w ||| 1 <<< z.1.toNat else w) 0
theorem jke (L:List P2) (z:P2) (a:Nat):rowW (L++[z]) a=if z.1=(a:Int) then rowW L a ||| 1 <<< z.2.toNat else rowW L a:=by simp[rowW]
theorem jlr (L:List P2) (z:P2) (b:Nat):colW (L++[z]) b=if z.2=(b:Int) then colW L b ||| 1 <<< z.1.toNat else colW L b:=by simp[colW]
def InG (n:Nat) (L:List P2):Prop:=∀z∈L,∃a b:Nat,z=((a:Int),(b:Int))/\a<n/\b<n
theorem jel {n:Nat}(p:List P2->Nat->Nat) (g:∀a,p [] a=0) (q:P2->Int × Int) (h:∀L z a,p (L++[z]) a=if (q z).1=(a:Int) then p L a ||| 1 <<< (q z).2.toNat else p L a) (L:List P2) (i:∀z∈L,0<=(q z).2/\(q z).2<n) :
 ∀k,k<=L.length->∀a,p (L.take k) a<2 ^ n/\∀b,(p (L.take k) a).testBit b=(L.take k).any λz=>decide ((q z).1=(a:Int)/\(q z).2=(b:Int))
 | 0,_,a=>by rw[eB,g];exact⟨Nat.two_pow_pos n,λb=>by simp⟩
 | k+1,hk,a=>by obtain⟨j,f⟩:=jel p g q h L i k zO a;have o:L[k]∈L:=av zO;obtain⟨m,r⟩:=i _ o;rw[ay zO,h];obtain⟨c,l⟩:=Int.eq_ofNat_of_zero_le m;have d:c<n:=zO;by_cases e:(q L[k]).1=(a:Int);rw[if_pos e,l];refine⟨eA j (by rw[aZ,dP];exact fP zQ d),λb=>?_⟩;rw[ew,f,fK,aZ,dP,fT];simp[e,l,Int.ofNat_inj];rw[if_neg e];refine⟨j,λb=>?_⟩;rw[f,fK];simp[e]
theorem Xy {n:Nat}{L:List P2}(h:InG n L) (a:Nat):rowW L a<2 ^ n/\∀b:Nat,(rowW L a).testBit b=L.contains ((a:Int),(b:Int)):=by have:=jel (n:=n) rowW (λ_=>rfl) (λz=>(z.1,z.2)) jke L (λz e=>by obtain⟨c,d,rfl,_,f⟩:=h z e;simp;omega) L.length zK a;rw[bh]at this;refine⟨this.1,λb=>?_⟩;rw[this.2,bB];simp[bx]
theorem jbz {n:Nat}{L:List P2}(h:InG n L) (b:Nat):colW L b<2 ^ n/\∀a:Nat,(colW L b).testBit a=L.contains ((a:Int),(b:Int)):=by have:=jel (n:=n) colW (λ_=>rfl) (λz=>(z.2,z.1)) jlr L (λz f=>by obtain⟨c,d,rfl,e,_⟩:=h z f;simp;omega) L.length zK b;rw[bh]at this;refine⟨this.1,λa=>?_⟩;rw[this.2,bB];simp only[bx,decide_eq_true_eq,bE];constructor;rintro⟨z,f,g,e⟩;obtain⟨x,y⟩:=z;simp only at g e;subst g e;exact f;exact λi=>⟨_,i,rfl,rfl⟩
theorem InG.take {n:Nat}{L:List P2}(h:InG n L) (k:Nat):InG n (L.take k):=λz a=>h z (dT a)
def EdA (lo:Nat) (ob:ZO) (v:V) (L:List P2):Prop :=
 (∃t nl,v=.sl t nl L.length (L.flatMap edC))\/∃k u,v=.osl k u 0 L.length 2/\ob k=some ⟨u,.cells (L.flatMap edC)⟩/\Off lo k
theorem EdA.len {lo:Nat}{ob:ZO}{v:V}{L:List P2}(h:EdA lo ob v L):Qu v=some (.int .i64 (L.length:Nat)):=by rcases h with⟨t,a,rfl⟩|⟨k,u,rfl,_⟩ <;> rfl
theorem EdA.at {lo:Nat}{ob:ZO}{v:V}{L:List P2}(h:EdA lo ob v L) {i:Nat}(hi:i<L.length) :
 ∃p,JX 2 v (.int .i64 (i:Int))=some p/\∀a:ZO,(∀b,Off lo b->a b=ob b)->QI a (some 2) p=some (.agg [.int .i64 L[i].1,.int .i64 L[i].2]):=by
 have d:=YV JW L i hi;have g:i*2+2<=(L.flatMap edC).length:=by rw[j3 JW];omega
 have c:Xi (some 2) (L.flatMap edC) (i*2)=some (.agg [.int .i64 L[i].1,.int .i64 L[i].2]):=by simp only[Xi];rw[if_pos g,d];rfl
 rcases h with⟨t,j,rfl⟩|⟨k,u,rfl,l,f⟩;refine⟨_,jv JW t j L .i64 hi,λa _=>?_⟩;simpa[QI] using c;refine⟨_,idx0 hi,λa e=>?_⟩;have:objCells a k u=some (L.flatMap edC):=by simp[objCells,e k f,l]
 simp only[QI,this,am];exact c
theorem EdA.up {lo lo':Nat}{ob ob':ZO}{v:V}{L:List P2}(h:EdA lo ob v L) (c:∀a,Off lo a->ob' a=ob a) (d:lo<=lo'):EdA lo' ob' v L:=by rcases h with h|⟨k,u,f,e,b⟩;exact .inl h;exact .inr ⟨k,u,f,(c k b).trans e,b.up d⟩
section
variable {ub n:Nat}{ob:ZO}{L:List P2}{v:V}
theorem dual_W (h:InG n L):Dual n (rowW L) (colW L):=λa b _ _=>by rw[(Xy h a).2,(jbz h b).2]
theorem jtc:rowW []=λ_=>0:=rfl
theorem jwp:colW []=λ_=>0:=rfl
theorem jxv {Yf:YF}{tk:Nat->Bool}{ro base:Nat}(c3:ro<=ub) (h1:0<n) (h9:n<=9) (hv:EdA ub ob v L) (N:InG n L) (hl:L.length<=10000) :
 ∃r,EvS E Yf.y 144 [.int .i64 (n:Int),v] ob tk ro base ub r/\PgR ob ub n (rowW L) (colW L) L.length r:=by
 have D:=hv.len;refine Ja (af:=S144) rfl zQ ?_;show wpC E Yf S144.body _ (XD S144.res _);conv in (occs := *) S144=> all_goals cbv
 simp(disch:=first|(simp;done)|omega) [S144];refine jV (vs:=[.int .i64 n]) zS rfl (sv204 (by simp;omega) h1 h9) ?_;rintro v1 b6 b8 G ⟨uG,ut,uf,b7,tu,fu,T0,rfl,u,ht,hf,b0,q1,w⟩;simp only at u q1 w;simp(disch:=first|(simp;done)|omega) [D];refine jQ λl g=>?_;have c2:ub<=G:=by first|omega|(simp at q1;omega)
 have g6:l.tm 6=.ptr (2*uG+1) uG 0:=by rw[g];simp
 have g7:l.tm 7=.int .i64 0:=by rw[g];simp
 have b5:l.tm 20=v:=by rw[g];simp
 have a0:l.tm 21=.int .i64 L.length:=by rw[g];simp
 have M:l.tm 22=.int .i64 0:=by rw[g];simp
 have gd:l.df=[]:=by rw[g];simp
 have gr:l.ro=ro:=by rw[g];simp
 have gn:G<=l.nx:=by rw[g];first|omega|(simp;done)|(simp;omega)
 have go:l.ob=b6:=by rw[g];simp
 clear g;obtain⟨J,X⟩:∃J:Nat->St->Prop,J=λi s=>s.tm 22=.int .i64 i/\(∃ue T,Gr ub s.nx uG (some ut) (some uf) ue tu fu (rowW (L.take i)) (colW (L.take i)) T s.ob/\T.length<=i)/\ub<=s.nx/\∀c,Off ub c->s.ob c=ob c:=⟨_,rfl⟩;have o:=u.wide (lo':=ub) zL;refine j6 [(4,5),(9,11),(22,38)] L.length J rfl rfl ?_ ?_;rw[X];refine⟨by simpa using M,⟨b7,T0,?_,b0⟩,zO,λc k=>?_⟩;rw[eB,jtc,jwp,go];exact o.keep (λ_ _ _=>rfl) zO;rw[go];have:=w c (k.up zL);simpa using this;clear M go gn u o w;intro i s hi I f;rw[X]at I;obtain⟨B,⟨ue,T,Z,hT⟩,sn,P⟩:=I;have s6:=(f.t 6 zS).trans g6;have s7:=(f.t 7 zS).trans g7;have Q:=(f.t 20 zS).trans b5;have K:=(f.t 21 zS).trans a0;have sd:=f.d.trans gd;have sr:=f.r.trans gr;clear f;by_cases h:i<L.length;have U:=jZ h zO;obtain⟨p,O,F⟩:=hv.at h;obtain⟨a,b,hz,ha,hb⟩:=N _ (av h);have H:L.take (i+1)=L.take i++[((a:Int),(b:Int))]:=by rw[ay h,hz]
 rw[hz]at F;simp(disch:=first|(simp;done)|omega) [B,K,Q,h,O];rw[F _ λc k=>by simpa using P c k];simp(disch:=first|(simp;done)|omega) [s6,objCells,j2];refine⟨by simp[sr];omega,?_⟩;refine jV (vs:=[.ptr (2*uG+1) uG 0,.int .i64 a,.int .i64 b]) zS rfl (sv205 (n:=n) (lo:=ub) (Z.keep (λx _ _=>?_) ?_) ?_ ht hf zO ha hb (λi _=>(Xy (N.take _) i).1) (λi _=>(jbz (N.take _) i).1) (dual_W (N.take _)) zO) ?_;have:∀m,s.nx<=m->¬ x=m:=λm hm=>by omega
 simp(disch:=first|(simp;done)|omega) [two_inj,this];show _<=_;first|omega|(simp;omega)
 first|omega|(simp[sr];omega)
 rintro v2 c0 c4 c1 ⟨bb,S,T2,rfl,z,b9,q2,q⟩;simp only at z q2 q;simp(disch:=first|(simp;done)|omega) [B,U,h];rw[X];refine⟨zS,⟨S,T2,?_,zO⟩,zL,λc k=>?_⟩;have e1:(λj=>if j=a then rowW (L.take i) a ||| 1 <<< b else rowW (L.take i) j)=rowW (L.take (i+1)):=funext λx=>by rw[H,jke];by_cases e:x=a;subst e;simp;rw[if_neg e,if_neg (by simp only;omega)]
 have e2:(λj=>if j=b then colW (L.take i) b ||| 1 <<< a else colW (L.take i) j)=colW (L.take (i+1)):=funext λx=>by rw[H,jlr];by_cases e:x=b;subst e;simp;rw[if_neg e,if_neg (by simp only;omega)]
 rw[e1,e2]at z;exact z.keep (λx _ _=>by simp) zL;have:=q c k;have hn:=k.up (show ub<=s.nx by omega);have:=hn.ne;simp;rw[q c k];simp(disch:=first|(simp;done)|omega) [this];exact P c k;have:i=L.length:=zO;subst this;rw[bh]at Z;simp(disch:=first|(simp;done)|omega) [B,K,s6,s7];exact jdh (by simp[sd]) ⟨uG,ut,uf,ue,tu,fu,T,zS,Z.keep (λx _ _=>by simp) zL,ht,hf,hT,zL,λc k=>by simpa using P c k⟩
end
section
variable {lo hi uG:Nat}{ut uf:Nat}{ue:Option Nat}{tu fu:List Nat}{WT WF:Nat->Nat}{T:List P2}{ob:ZO}{ub:Nat}
theorem j2k (b:Gr lo hi uG (some ut) (some uf) ue tu fu WT WF T ob) (c:hi<=ub) (tk:Nat->Bool) (base:Nat):EvO E 208 [.ptr (2*uG+1) uG 0] ob tk base ub (.int .i64 tu.length):=by
 have a:=b.o;have e:∀m,ub<=m->¬ uG=m:=λm d=>by have:=b.rG;omega
 refine JL (af:=S208) rfl ?_;conv in (occs := *) S208=> all_goals cbv
 simp(disch:=first|(simp;done)|omega) [S208];refine jb (vs:=[.ptr (2*uG+1) uG 0]) zS rfl rfl (jwe (b.keep (λx _ _=>by simp) c) zO _ _) ?_;simp(disch:=first|(simp;done)|omega) [objCells,a,slU];exact j4 zS zS rfl
theorem jwf (b:Gr lo hi uG (some ut) (some uf) ue tu fu WT WF T ob) (i:hi<=ub) {a:Nat}(c:a<tu.length) (g:WT a<512) (tk:Nat->Bool) (base:Nat):∃v,EvO E 146 [.ptr (2*uG+1) uG 0,.int .i64 (a:Int)] ob tk base ub v/\j1j (ints (bitsUp (WT a))) v:=by
 have d:=b.o;have f:=b.t ut rfl;have D:∀m,ub<=m->¬ uG=m:=λm s=>by have:=b.rG;omega
 have B:∀m,ub<=m->¬ ut=m:=λm s=>by have:=b.rL ut (.inl rfl);omega
 have j:=b.st a c;have q:=b.rS tu[a] (.inl (av c));have y:=jgp (l:=2*ut+1) (u:=ut) (kk:=.i64) c;have z:=jio c;refine Wr (af:=S146) rfl zQ ?_;conv in (occs := *) S146=> all_goals cbv
 simp(disch:=first|(simp;done)|omega) [S146];refine jb (vs:=[.ptr (2*uG+1) uG 0,.int .i64 a]) zS rfl rfl (jln (b.keep (λx _ _=>by simp) i) zO _ _ _) ?_;simp(disch:=first|(simp;done)|omega) [objCells,d,slU,c,f,y,z];obtain⟨nl,e⟩:=WE (ints (bitsUp (WT a)));refine jb (vs:=[.ptr (2*tu[a]+1) tu[a] 0]) zS rfl rfl (jps (w:=WT a) (by simpa using j) (Off.new zO) g _ _) ?_;refine Ji e λp add=>?_;simp;exact slE (t:=p) (nl:=nl) (k:=(ints (bitsUp (WT a))).length) (cs:=(ints (bitsUp (WT a))).flatMap intC) (λr h=>⟨nl,h⟩) zS zS
theorem j2p (c:Gr lo hi uG (some ut) (some uf) ue tu fu WT WF T ob) (j:hi<=ub) {a:Nat}(B:a<tu.length) (F:tu.length=fu.length) (i:WF a<512) (tk:Nat->Bool) (base:Nat):∃v,EvO E 145 [.ptr (2*uG+1) uG 0,.int .i64 (a:Int)] ob tk base ub v/\j1j (ints (bitsUp (WF a))) v:=by
 have d:=c.o;have g:=c.f uf rfl;have H:∀m,ub<=m->¬ uG=m:=λm y=>by have:=c.rG;omega
 have G:∀m,ub<=m->¬ uf=m:=λm y=>by have:=c.rL uf (.inr (.inl rfl));omega
 have b:a<fu.length:=zO;have p:=c.sf a b;have s:=c.rS fu[a] (.inr (av b));have z:=jgp (l:=2*uf+1) (u:=uf) (kk:=.i64) b;have D:=jio b;refine Wr (af:=S145) rfl zQ ?_;conv in (occs := *) S145=> all_goals cbv
 simp(disch:=first|(simp;done)|omega) [S145];refine jb (vs:=[.ptr (2*uG+1) uG 0,.int .i64 a]) zS rfl rfl (jln (c.keep (λx _ _=>by simp) j) zO _ _ _) ?_;simp(disch:=first|(simp;done)|omega) [objCells,d,slU,B,g,z,D];obtain⟨nl,e⟩:=WE (ints (bitsUp (WF a)));refine jb (vs:=[.ptr (2*fu[a]+1) fu[a] 0]) zS rfl rfl (jps (w:=WF a) (by simpa using p) (Off.new zO) i _ _) ?_;refine Ji e λq add=>?_;simp;exact slE (t:=q) (nl:=nl) (k:=(ints (bitsUp (WF a))).length) (cs:=(ints (bitsUp (WF a))).flatMap intC) (λr h=>⟨nl,h⟩) zS zS
end
def orL (L:List Nat):Nat:=L.foldl (λw b=>w ||| 1 <<< b) 0
theorem jit (L:List Nat) (b:Nat):orL (L++[b])=orL L ||| 1 <<< b:=by simp[orL]
theorem jow (L:List Nat):∀k,k<=L.length->∀i,(orL (L.take k)).testBit i=decide (i∈L.take k)
 | 0,_,i=>by simp[orL]
 | k+1,h,i=>by have a:=jow L k zO i;rw[ay zO,jit,ew,a,dP,fT,bB];simp only[bA,decide_eq_true_eq,aO,ae];exact or_congr bN eq_comm
theorem jyt {w:Nat}(h:w<512):orL (bitsUp w)=w:=by
 refine Nat.eq_of_testBit_eq λi=>?_;have:=jow (bitsUp w) (bitsUp w).length zK i;rw[bh]at this;rw[this,bB,decide_eq_true_eq,bitsUp_mem];constructor;exact λh=>h.2;intro a;refine⟨?_,a⟩;rcases cu i 9 with h1|h1
 exact h1;have:w.testBit i=false:=ey (aR h (ci zQ h1:2 ^ 9<=2 ^ i));rw[this]at a;cases a
theorem j8n {L:List Nat}(h:∀b∈L,b<64) (k:Nat) (c:k<=L.length):orL (L.take k)<2 ^ 64:=by
 induction k with
 | zero=>simp[orL]
 | succ k a=>rw[ay zO,jit];exact or_lt (a zO) (h _ (av _))
section
variable {ob:ZO}{ub:Nat}
def SetR (ob:ZO) (ub w:Nat) (r:V × (ZO) × (Nat->Bool) × Nat):Prop :=
 ∃m,ub<=m/\m<r.2.2.2/\r.1=.ptr (2*m+1) m 0/\r.2.1 (2*m+1)=some ⟨m,.cells (setC w)⟩/\∀key,Off ub key->r.2.1 key=ob key
theorem sv78l {Yf:YF}{tk:Nat->Bool}{ro base:Nat}{t:Option (Nat × Nat)}{nl:Bool}{L:List Nat}(a0:ro<=ub) (O:∀b∈L,b<64) (hl:L.length<=100000):∃r,EvS E Yf.y 78 [.sl t nl L.length ((ints L).flatMap intC)] ob tk ro base ub r/\SetR ob ub (orL L) r:=by
 refine Ja (af:=S78) rfl zQ ?_;show wpC E Yf S78.body _ (XD S78.res _);conv in (occs := *) S78=> all_goals cbv
 simp[S78,V.cells];refine jQ λg c=>?_;obtain⟨m,P,N,g3,S⟩:∃u,ub<=u/\u<g.nx/\g.tm 3=.ptr (2*u+1) u 0/\g.ob (2*u+1)=some ⟨u,.cells (setC 0)⟩:=⟨ub+128,zO,by rw[c];first|omega|(simp;done)|(simp;omega),by rw[c];simp[aG],by rw[c];simp[aG,setC]⟩;have g8:g.tm 8=.sl t nl L.length ((ints L).flatMap intC):=by rw[c];simp
 have X:g.tm 9=.int .i64 L.length:=by rw[c];simp
 have p:g.tm 10=.int .i64 0:=by rw[c];simp
 have gd:g.df=[]:=by rw[c];simp
 have gr:g.ro=ro:=by rw[c];simp
 have go:∀a,Off ub a->g.ob a=ob a:=λa h=>by have:=h.ne;rw[c];simp(disch:=first|(simp;done)|omega) [this]
 clear c;obtain⟨J,D⟩:∃J:Nat->St->Prop,J=λi s=>s.tm 10=.int .i64 i/\m<s.nx/\s.ob (2*m+1)=some ⟨m,.cells (setC (orL (L.take i)))⟩/\∀a,Off ub a->s.ob a=ob a:=⟨_,rfl⟩;refine j6 [(5,5),(10,17)] L.length J rfl rfl ?_ ?_;rw[D];exact⟨by simpa using p,N,by simpa[orL] using S,go⟩;clear p go S N;intro i s hi l f;rw[D]at l;obtain⟨j,sm,z,K⟩:=l;have Q:=(f.t 3 zS).trans g3;have U:=(f.t 8 zS).trans g8;have M:=(f.t 9 zS).trans X;have T:=f.d.trans gd;have sr:=f.r.trans gr;clear f;by_cases e:i<L.length;have B:=jZ e zO;have n:i<(ints L).length:=by simpa[ints] using e
 have q:JX 1 (.sl t nl L.length ((ints L).flatMap intC)) (.int .i64 (i:Int))=some (.eptr ((ints L).flatMap intC) (i*1)):=by have:=jv j9 t nl (ints L) .i64 n;rwa [show(ints L).length=L.length by simp[ints]]at this
 have o:=jr (ints L) n;have F:(ints L)[i]=((L[i]:Nat):Int):=by simp[ints]
 rw[F]at o;have hb:=O _ (av e);have x:orL (L.take (i+1))=orL (L.take i) ||| 1 <<< L[i]:=by rw[ay e,jit]
 have nm:∀k,s.nx<=k->¬ m=k:=λk h=>by omega
 simp(disch:=first|(simp;done)|omega) [j,M,U,Q,e,q,o];refine jV (vs:=[.ptr (2*m+1) m 0,.int .i64 (L[i]:Nat)]) zS rfl (sv81 (w:=orL (L.take i)) (by simpa using z) (Off.new zL) (by simp[sr];omega) hb (j8n O i zO)) ?_;rintro v1 b0 Z H ⟨_,G,I⟩;simp only at G I;have b5:s.nx<=H:=by first|omega|(simp at I;omega)
 simp(disch:=first|(simp;done)|omega) [j,B,e];rw[D];refine⟨zS,zL,?_,λa h=>?_⟩;have:=G (2*m+1) (Off.new zL);rw[if_pos rfl]at this;simpa[x] using this;have:=G a (h.up zL);rw[if_neg (h m P)]at this;simpa[K a h] using this;have:i=L.length:=zO;subst this;rw[bh]at z;simp(disch:=first|(simp;done)|omega) [j,M,Q];exact Xc (by simp[T]) ⟨m,P,zL,zS,by simpa using z,λa h=>by simpa using K a h⟩
theorem j59 (v w:Nat):jw [.int,.int,.int,.int,.int,.int,.int,.int] (setC v) (setC w)=some (v == w):=by simp only[jw,setC,Wu,if_true,am,aU,beq_self_eq_true,ec];congr 1;rw[bB];simp only[beq_iff_eq,Int.ofNat_inj]
theorem jqo {X x i:Nat}(h:i<8) (a:i≠0->x=0):j2 (setC X) i [.int .u64 (x:Int)]=setC (if i=0 then x else X):=by
 match i,h with
 | 0,_=>rfl
 | 1,_|2,_|3,_|4,_|5,_|6,_|7,_=>rw[a zQ];rfl
theorem sv276 {Yf:YF}{tk:Nat->Bool}{ro base a b v w:Nat}(ha:ob (2*a+1)=some ⟨a,.cells (setC v)⟩) (hb:ob (2*b+1)=some ⟨b,.cells (setC w)⟩) (la:a<ub) (lb:b<ub) (a0:ro<=a) (hv:v<2 ^ 64) (hw:w<2 ^ 64) :
 ∃r,EvS E Yf.y 276 [.ptr (2*a+1) a 0,.ptr (2*b+1) b 0] ob tk ro base ub r/\(ub<=r.2.2.2/\∀c,Off ub c->r.2.1 c=if c=2*a+1 then some ⟨a,.cells (setC (v ||| w))⟩ else ob c):=by
 refine Ja (af:=S276) rfl zQ ?_;show wpC E Yf S276.body _ (XD S276.res _);have j:∀v,(setC v).length=8:=λ_=>rfl;have z:∀v,(setC v).take 8=setC v:=λ_=>rfl;have na:∀m,ub<=m->¬ a=m:=λm Q=>by omega
 have nb:∀m,ub<=m->¬ b=m:=λm Q=>by omega
 simp(disch:=first|(simp;done)|omega) [S276,objCells,ha,hb,j,two_inj,nb,z];refine⟨zO,by simp[setC,V.leaf],?_⟩;refine jQ λl g=>?_;obtain⟨p,u1,U,g5,T⟩:∃u,ub<=u/\u<l.nx/\l.tm 5=.ptr (2*u+1) u 0/\l.ob (2*u+1)=some ⟨u,.cells (setC v)⟩:=⟨ub+704,zO,by rw[g];first|omega|(simp;done)|(simp;omega),by rw[g];simp[aG],by rw[g];simp[aG,j2,j]⟩;have g0:l.tm 0=.ptr (2*a+1) a 0:=by rw[g];simp
 have O:l.tm 21=.agg (setC w):=by rw[g];simp
 have F:l.tm 22=.int .i64 0:=by rw[g];simp
 have gd:l.df=[]:=by rw[g];simp
 have gr:l.ro=ro:=by rw[g];simp
 have go:∀c,Off ub c->l.ob c=ob c:=λc n=>by have:=n.ne;rw[g];simp(disch:=first|(simp;done)|omega) [this]
 clear g;obtain⟨J,N⟩:∃J:Nat->St->Prop,J=λi s=>s.tm 22=.int .i64 i/\p<s.nx/\s.ob (2*p+1)=some ⟨p,.cells (setC v)⟩/\∀c,Off ub c->s.ob c=if c=2*a+1 then some ⟨a,.cells (setC (if i=0 then v else v ||| w))⟩ else ob c:=⟨_,rfl⟩
 refine j6 [(6,7),(22,37)] 8 J rfl rfl ?_ ?_;rw[N];refine⟨by simpa using F,U,T,λc n=>?_⟩;rw[go c n];by_cases e:c=2*a+1;rw[if_pos e,e,ha];rfl;rw[if_neg e];clear F go T U;intro i s hi x f;rw[N]at x;obtain⟨G,sm,sW,L⟩:=x;have Z:=(f.t 0 zS).trans g0;have s5:=(f.t 5 zS).trans g5;have P:=(f.t 21 zS).trans O;have sd:=f.d.trans gd;have sr:=f.r.trans gr;clear f;have I:=L (2*a+1) (Off.new la);rw[if_pos rfl]at I;have nw:∀m,s.nx<=m->¬ p=m:=λm Q=>by omega
 have b5:∀m,s.nx<=m->¬ a=m:=λm Q=>by omega
 by_cases h:i<8;have M:=jZ h zQ;have K:(i:Int)<8:=zO;have o:jam none 8 1 (.agg (setC w)) (.int .i64 (i:Int))=some (.int .u64 (if i=0 then w else 0:Nat)):=by have:=jmm (w:=w) h;simp[jam,K,Xi,this]
 have S:W4 8 1 (.ptr (2*a+1) a 0) (.int .i64 (i:Int))=some (.ptr (2*a+1) a i):=by simp[W4,K]
 obtain⟨X,H⟩:∃X,X=if i=0 then v else v ||| w:=⟨_,rfl⟩
 rw[<- H]at I;have D:=jmm (w:=X) h;have k:Xd .or (.int .u64 ((if i=0 then X else 0:Nat):Int)) (.int .u64 ((if i=0 then w else 0:Nat):Int))=some (.int .u64 ((if i=0 then v ||| w else 0:Nat):Int)):=by by_cases e:i=0;rw[if_pos e]at H;rw[if_pos e,if_pos e,if_pos e,H];exact jjx hv hw;rw[if_neg e,if_neg e,if_neg e];exact jjx zQ zQ
 generalize b6:(if i=0 then w else 0:Nat)=x0 at o k;generalize b0:(if i=0 then X else 0:Nat)=x1 at D k;generalize q:(if i=0 then v ||| w else 0:Nat)=x2 at k;simp(disch:=first|(simp;done)|omega) [G,P,Z,K,o,S,objCells,I,D,k,j];refine⟨zO,?_⟩;simp(disch:=first|(simp;done)|omega) [M];rw[N];have B:j2 (setC X) i [.int .u64 (x2:Int)]=setC (v ||| w):=by rw[jqo h λe=>by rw[<- q,if_neg e],<- q,H];by_cases e:i=0;rw[if_pos e,if_pos e];rw[if_neg e,if_neg e]
 refine⟨zO,h,zS,zL,?_,λc n=>?_⟩;simp(disch:=first|(simp;done)|omega) [two_inj,show ¬ p=a by omega,sW];by_cases e:c=2*a+1;simp[e,B];have:=L c n;rw[if_neg e]at this;simp[e,this];have:i=8:=zO;subst this;simp(disch:=first|(simp;done)|omega) [G,Z,s5,objCells,I,sW,j,z,j59];exact Xc (by simp[sd]) ⟨zL,λc n=>by simpa using L c n⟩
end
structure Rs (lo hi uL:Nat) (lu:List Nat) (m:Nat) (W:Nat->Nat) (ob:ZO):Prop where
 o:ob (2*uL+1)=some ⟨uL,.cells (lu.flatMap ptC++List.replicate m .nilptr)⟩
 s:∀i (h:i<lu.length),ob (2*lu[i]+1)=some ⟨lu[i],.cells (setC (W i))⟩
 n:lu.Nodup
 x:uL ∉ lu
 r:lo<=uL/\uL<hi
 rs:∀x∈lu,lo<=x/\x<hi
section
variable {lo hi hi' uL m:Nat}{lu:List Nat}{W:Nat->Nat}{ob ob':ZO}
theorem Rs.keep (h:Rs lo hi uL lu m W ob) (b:∀x,lo<=x->x<hi->ob' (2*x+1)=ob (2*x+1)) (c:hi<=hi'):Rs lo hi' uL lu m W ob' :=
 ⟨(b uL h.r.1 h.r.2).trans h.o,λi hi=>(b _ (h.rs _ (av hi)).1 (h.rs _ (av hi)).2).trans (h.s i hi),h.n,h.x,⟨h.r.1,aR h.r.2 c⟩,λx a=>⟨(h.rs x a).1,aR (h.rs x a).2 c⟩⟩
theorem Rs.congr (h:Rs lo hi uL lu m W ob) {a:Nat->Nat}(b:∀i,i<lu.length->a i=W i):Rs lo hi uL lu m a ob:=⟨h.o,λi hi=>by rw[b i hi];exact h.s i hi,h.n,h.x,h.r,h.rs⟩
theorem Rs.put (h:Rs lo hi uL lu m W ob) {a w:Nat}(c:a<lu.length) (g:ob' (2*lu[a]+1)=some ⟨lu[a],.cells (setC w)⟩) (b:∀x,lo<=x->x<hi->x≠lu[a]->ob' (2*x+1)=ob (2*x+1)) (d:hi<=hi'):Rs lo hi' uL lu m (λi=>if i=a then w else W i) ob':=by have j:lu[a]∈lu:=av c;refine⟨(b uL h.r.1 h.r.2 (λe=>h.x (e▸j))).trans h.o,λi hi=>?_,h.n,h.x,⟨h.r.1,aR h.r.2 d⟩,λx f=>⟨(h.rs x f).1,aR (h.rs x f).2 d⟩⟩;by_cases e:i=a;subst e;rw[if_pos rfl];exact g;rw[if_neg e];have:=h.rs _ (av hi);exact(b _ this.1 this.2 λk=>e (jd2 h.n hi c k)).trans (h.s i hi)
theorem Rs.add (h:Rs lo hi uL lu (m+1) W ob) {x:Nat}(d:ob' (2*uL+1)=some ⟨uL,.cells (j2 (lu.flatMap ptC++List.replicate (m+1) .nilptr) lu.length (ptC x))⟩) (g:ob' (2*x+1)=some ⟨x,.cells (setC (W lu.length))⟩) (j:∀y∈lu,ob' (2*y+1)=ob (2*y+1)) (p:hi<=x) (o:x<hi'):Rs lo hi' uL (lu++[x]) m W ob':=by
 have f:hi<=hi':=zO;have k:=h.r;have a:=j3 jip lu;refine⟨?_,λi hi=>?_,?_,?_,⟨h.r.1,aR h.r.2 f⟩,λy c=>?_⟩;rw[d];congr 3;unfold j2;rw[eM zO,List.drop_append,bS (by rw[a];simp[ptC])];simp[ptC,List.replicate_succ,a];by_cases e:i<lu.length;rw[dZ e];exact(j _ (av e)).trans (h.s i e);have:i=lu.length:=by rw[au,eG]at hi;omega
 subst this;rw[fh zK];simpa using g;rw[di];exact⟨h.n,zS,λy c z l e=>by rw[ae]at l;have:=(h.rs y c).2;omega⟩;rw[aO,ae];rintro(b|b);exact h.x b;omega;rw[aO,ae]at c;rcases c with b|b;have:=h.rs y b;omega;omega
end
def WIs (n:Nat) (W:Nat->Nat) (f:Nat->Nat->Bool):Prop:=∀b,b<n->W b<2 ^ n/\∀a,a<n->(W b).testBit a=f b a
theorem WIs.congr {n:Nat}{W:Nat->Nat}{f g:Nat->Nat->Bool}(h:WIs n W f) (e:∀b a,b<n->a<n->f b a=g b a):WIs n W g:=λb c=>⟨(h b c).1,λa d=>((h b c).2 a d).trans (e b a c d)⟩
theorem WIs.join {n:Nat}{W:Nat->Nat}{r:Nat->Nat->Bool}{k b:Nat}(h:WIs n W (fD2 r k b)) (o:k<n) (s:b<n) (q:(W b).testBit k=true):WIs n (λi=>if i=b then W b ||| W k else W i) (fD2 r k (b+1)):=by
 intro c p;have g:=h b s;have j:=h k o;by_cases e:c=b;subst e;simp only[if_true];refine⟨eA g.1 j.1,λa d=>?_⟩;rw[ew,g.2 a d,j.2 a d];have f:war r k c k=true:=by have:=g.2 k o;rw[q]at this;simpa[fD2] using this.symm
 have t:fD2 r k c c a=war r k c a:=j2i r k c a;have u:fD2 r k c k a=war r k k a:=by unfold fD2;split;exact jxr r k a;rfl
 rw[t,u];unfold fD2;rw[if_pos zO,war,f,co];simp only[if_neg e];refine⟨(h c p).1,λa d=>?_⟩;rw[(h c p).2 a d];unfold fD2;by_cases l:c<b;rw[if_pos l,if_pos zO];rw[if_neg l,if_neg zO]
theorem jfo {Yf:YF}{f:FuncId}{xs:List A}{st:St}{ub:Nat}{K:St->Nat->Prop}{d:Option Nat}{nm:Bool}{vs:List V}{l:List Int}(e:xs.map (eval E st.tm)=vs) (c:E.sh nm f=false) (hp:(vs.all λv=>v.strip.pureTop)=false)
 (h:∃v,EvO E f vs st.ob st.tk ((st.fb+d.getD 0+1)*1024) ub v/\j1j l v) (g:∀t a add,WR K st d ub { v:=.sl t a l.length (l.flatMap intC),add:=add }):j8 E Yf ⟨d,.call f xs,none,nm⟩ st ub K:=by
 obtain⟨v,i,a,b⟩:=h;exact jb e c hp i (Ji b λt add=>g t a add)
section
variable {lo uG ut uf:Nat}{ue:Option Nat}{tu fu:List Nat}{WT WF:Nat->Nat}{T:List P2}{ob:ZO}{ub n:Nat}
theorem j7u {Yf:YF}{tk:Nat->Bool}{ro base:Nat}(hG:Gr lo ub uG (some ut) (some uf) ue tu fu WT WF T ob) (e1:ro<=ub) (ht:tu.length=n) (h1:0<n) (h9:n<=9) {r:Nat->Nat->Bool}(hW:WIs n WT λb a=>r a b) :
 ∃q,EvS E Yf.y 244 [.ptr (2*uG+1) uG 0] ob tk ro base ub q/\∃uL lu W,q.1=.osl (2*uL+1) uL 0 n 1/\lu.length=n/\Rs ub q.2.2.2 uL lu 0 W q.2.1/\WIs n W (war r n):=by
 have hp:(2:Nat) ^ n<=512:=ci zQ h9;have b0:∀a,a<n->WT a<512:=λa ha=>aR (hW a ha).1 hp;refine Ja (af:=S244) rfl zQ ?_;show wpC E Yf S244.body _ (XD S244.res _);conv in (occs := *) S244=> all_goals cbv
 simp(disch:=first|(simp;done)|omega) [S244];refine jb (vs:=[.ptr (2*uG+1) uG 0]) zS rfl rfl (j2k (hG.keep (λx _ _=>by simp) zK) zO _ _) ?_;simp;refine jd5 (n:=n) (by simp[ht]) (by simp[ht]) zO zO rfl zQ ?_;rw[joo];simp;refine jQ λj g=>?_;obtain⟨uL,u1,u2,g3,gL⟩:∃u,ub<=u/\u<j.nx/\j.tm 3=.osl (2*u+1) u 0 n 1/\j.ob (2*u+1)=some ⟨u,.cells (List.replicate n .nilptr)⟩:=⟨ub+192,zO,by rw[g];first|omega|(simp;done)|(simp;omega),by rw[g];simp[aG],by rw[g];simp[aG]⟩;have g0:j.tm 0=.ptr (2*uG+1) uG 0:=by rw[g];simp
 have d3:j.tm 11=.int .i64 n:=by rw[g];simp
 have c8:j.tm 12=.int .i64 0:=by rw[g];simp
 have gd:j.df=[]:=by rw[g];simp
 have gr:j.ro=ro:=by rw[g];simp
 have go:∀z,Off ub z->j.ob z=ob z:=λz hk=>by have:=hk.ne;rw[g];simp(disch:=first|(simp;done)|omega) [this]
 clear g;obtain⟨J,hJ⟩:∃J:Nat->St->Prop,J=λi s=>s.tm 12=.int .i64 i/\ub<=s.nx/\(∃lu,lu.length=i/\Rs ub s.nx uL lu (n - i) WT s.ob)/\∀z,Off ub z->s.ob z=ob z:=⟨_,rfl⟩;refine j6 [(4,4),(12,22)] n J rfl rfl ?_ ?_;rw[hJ];exact⟨by simpa using c8,zO,⟨[],rfl,⟨by simpa using gL,λi hi=>(by simp at hi),dS,dc,⟨u1,u2⟩,λx hx=>(by cases hx)⟩⟩,go⟩;clear c8 gL;intro i s hi b9 f;rw[hJ]at b9;obtain⟨O,sn,⟨lu,K,N⟩,so⟩:=b9;have s0:=(f.t 0 zS).trans g0;have s3:=(f.t 3 zS).trans g3;have S:=(f.t 11 zS).trans d3;have sd:=f.d.trans gd;have sr:=f.r.trans gr;have b7:Gr lo s.nx uG (some ut) (some uf) ue tu fu WT WF T s.ob:=hG.keep (λx _ h=>so _ (Off.new h)) sn;clear f;by_cases F:i<n
 ·have Q:=jZ F zO;simp(disch:=first|(simp;done)|omega) [O,S,s3,s0,F];refine jfo (vs:=[.ptr (2*uG+1) uG 0,.int .i64 i]) zS rfl rfl (jwf (b7.keep (λx _ h=>?_) ?_) zK zO (b0 i F) _ _) λtt nl add=>?_;simp
  ·first|omega|(simp;done)|(simp;omega)
  have e2:=jee (WT i);simp;refine jV (vs:=[.sl tt nl (bitsUp (WT i)).length ((ints (bitsUp (WT i))).flatMap intC)]) (by simp[jW]) rfl (sv78l (by simp[sr];omega) (λb hb=>?_) zO) ?_;have:=(bitsUp_mem.1 hb).1;omega;rintro v1 a0 d1 U ⟨x,q1,q2,rfl,q4,q5⟩;rw[jyt (b0 i F)]at q4;simp only at q1 q2 q4 q5;have d5:s.nx<=x:=by first|omega|(simp at q1;omega)
  have G:=N.o;have c6:=N.r;have c9:=jgp (l:=2*uL+1) (u:=uL) (kk:=.i64) F;have c1:∀y,y<s.nx->a0 (2*y+1)=s.ob (2*y+1):=λy hy=>by rw[q5 _ (Off.new zL)];simp
  have c4:a0 (2*uL+1)=_:=(c1 uL c6.2).trans G;have c7:=j3 jip lu;have d8:(lu.flatMap ptC++List.replicate (n - i) V.nilptr).length=n:=by rw[au,List.length_replicate,c7];omega
  have d9:(lu.flatMap ptC).length+(n - i)=n:=by rw[c7];omega
  have nL:∀m,U<=m->¬ uL=m:=λm hm=>by omega
  simp(disch:=first|(simp;done)|omega) [c9,objCells,c4,d8,V.cells,V.leaf];refine⟨zO,zO,?_⟩;simp(disch:=first|(simp;done)|omega) [O,Q,F];rw[hJ];have d4:n - i=(n - (i+1))+1:=zO;rw[d4]at N ⊢;have d6:¬ x=uL:=zO;refine⟨zS,zL,⟨lu++[x],by simp[K],N.add ?_ ?_ (λy hy=>?_) d5 zL⟩,λz hk=>?_⟩;simp[K,ptC];simp(disch:=first|(simp;done)|omega) [two_inj,d6,q4,K];have h3:=N.rs y hy;have:¬ y=uL:=λe=>N.x (e▸hy);simp(disch:=first|(simp;done)|omega) [two_inj,this,c1 y h3.2];have h3:¬ z=2*uL+1:=hk uL u1;simp[h3];rw[q5 z (hk.up zL)];simpa using so z hk
 ·have:i=n:=zO;subst this;simp(disch:=first|(simp;done)|omega) [O,S,s3];rw[eQ]at N;refine jQ λj g=>?_;have g3:j.tm 3=.osl (2*uL+1) uL 0 i 1:=by rw[g];simp[s3]
  have c5:j.tm 24=.int .i64 i:=by rw[g];simp
  have I:j.tm 25=.int .i64 0:=by rw[g];simp
  have gd:j.df=[]:=by rw[g];simp[sd]
  have gr:j.ro=ro:=by rw[g];simp[sr]
  have gn:ub<=j.nx:=by rw[g];first|omega|(simp;done)|(simp;omega)
  have gR:Rs ub j.nx uL lu 0 WT j.ob:=N.keep (λx _ _=>by rw[g];simp) (by rw[g];first|omega|(simp;done)|(simp;omega));clear g N b7 O s0 s3 S sd sr;obtain⟨J2,X⟩:∃J2:Nat->St->Prop,J2=λk s=>s.tm 25=.int .i64 k/\ub<=s.nx/\∃W,Rs ub s.nx uL lu 0 W s.ob/\WIs i W (war r k):=⟨_,rfl⟩;refine j6 [(5,6),(25,49)] i J2 rfl rfl (by rw[X];exact⟨by simpa using I,gn,WT,gR,hW⟩) ?_;clear I gn gR;intro k p hk b8 f;rw[X]at b8;obtain⟨Z,pn,W,pR,pW⟩:=b8;have p3:=(f.t 3 zS).trans g3;have P:=(f.t 24 zS).trans c5;have pd:=f.d.trans gd;have pr:=f.r.trans gr;clear f;by_cases D:k<i
  ·have Q:=jZ D zO;simp(disch:=first|(simp;done)|omega) [Z,P,p3,D];refine jQ λj g=>?_;have g3:j.tm 3=.osl (2*uL+1) uL 0 i 1:=by rw[g];simp[p3]
   have g5:j.tm 5=.int .i64 k:=by rw[g];simp
   have c5:j.tm 24=.int .i64 i:=by rw[g];simp[P]
   have I:j.tm 25=.int .i64 k:=by rw[g];simp[Z]
   have d2:j.tm 29=.int .i64 i:=by rw[g];simp
   have b6:j.tm 30=.int .i64 0:=by rw[g];simp
   have gd:j.df=[]:=by rw[g];simp[pd]
   have gr:j.ro=ro:=by rw[g];simp[pr]
   have gn:ub<=j.nx:=by rw[g];first|omega|(simp;done)|(simp;omega)
   have gR:Rs ub j.nx uL lu 0 W j.ob:=pR.keep (λx _ _=>by rw[g];simp) (by rw[g];first|omega|(simp;done)|(simp;omega));clear g pR;obtain⟨J3,M⟩:∃J3:Nat->St->Prop,J3=λb s=>s.tm 30=.int .i64 b/\ub<=s.nx/\∃W,Rs ub s.nx uL lu 0 W s.ob/\WIs i W (fD2 r k b):=⟨_,rfl⟩;refine j6 [(6,6),(30,48)] i J3 rfl rfl (by rw[M];exact⟨by simpa using b6,gn,W,gR,pW.congr λb a _ _=>(j00 r k b a).symm⟩) ?_;clear b6 gn gR;intro b q hb c2 f;rw[M]at c2;obtain⟨H,qn,W,L,qW⟩:=c2;have q3:=(f.t 3 zS).trans g3;have q5:=(f.t 5 zS).trans g5;have d7:=(f.t 25 zS).trans I;have c3:=(f.t 29 zS).trans d2;have qd:=f.d.trans gd;have qr:=f.r.trans gr;clear f;by_cases B:b<i;have c0:=jZ B zO;have G:=L.o;have c6:=L.r;rw[eO,aS]at G;have x1:=jgp (l:=2*uL+1) (u:=uL) (kk:=.i64) B;have x2:=jio (l:=lu) (i:=b) zO;have x3:=jgp (l:=2*uL+1) (u:=uL) (kk:=.i64) D;have x4:=jio (l:=lu) (i:=k) zO;have nL:∀m,q.nx<=m->¬ uL=m:=λm hm=>by omega
   have b5:=L.s b zO;have d0:=L.s k zO;have lb:=L.rs _ (av (show b<lu.length by omega));have lk:=L.rs _ (av (show k<lu.length by omega));have wb:=aR (qW b B).1 hp;have wk:=aR (qW k D).1 hp;simp(disch:=first|(simp;done)|omega) [H,c3,q3,q5,B,x1,x2,objCells,G];refine jb (vs:=[.ptr (2*lu[b]+1) lu[b] 0,.int .i64 k]) zS rfl rfl (j2r (w:=W b) (by simpa using b5) (Off.new zL) zO zO _ _) ?_;cases hh:(W b).testBit k;simp(disch:=first|(simp;done)|omega) [H,c0,B];rw[M];refine⟨zS,zL,W,L.keep (λx _ _=>by simp) zL,qW.congr λc a _ _=>j01 ?_ c a⟩;have:=(qW b B).2 k D;rw[hh,j2i]at this;exact this.symm;simp(disch:=first|(simp;done)|omega) [q3,q5,x1,x2,x3,x4,objCells,G];refine jV (vs:=[.ptr (2*lu[b]+1) lu[b] 0,.ptr (2*lu[k]+1) lu[k] 0]) zS rfl (sv276 (v:=W b) (w:=W k) (by simpa using b5) (by simpa using d0) zL zL (by simp[qr];omega) zO zO) ?_;rintro v1 a0 d1 U ⟨r1,r2⟩;simp only at r1 r2;have e0:q.nx<=U:=by first|omega|(simp at r1;omega)
   simp(disch:=first|(simp;done)|omega) [H,c0,B];rw[M];refine⟨zS,zL,_,L.put (a:=b) (w:=W b ||| W k) zO ?_ (λx _ h2 h3=>?_) zL,qW.join D B hh⟩;have:=r2 (2*lu[b]+1) (Off.new zL);rw[if_pos rfl]at this;simpa using this;have:=r2 (2*x+1) (Off.new zL);rw[if_neg zO]at this;simpa using this;have:b=i:=zO;subst this;simp(disch:=first|(simp;done)|omega) [H,c3,d7,Q,D];rw[X];exact⟨zS,zL,W,L.keep (λx _ _=>by simp) zL,qW.congr λc a hc _=>j5y hc a⟩
  have:k=i:=zO;subst this;simp(disch:=first|(simp;done)|omega) [Z,P,p3];exact Xc (by simp[pd]) ⟨uL,zS,lu,K,W,pR.keep (λx _ _=>by simp) zL,pW⟩
end
def edB (L:List P2) (x y:Nat):Bool:=L.contains ((y:Int),(x:Int))
def FromR (w:Nat) (v:V):Prop:=∃nl,TupS [.sl none nl (ints (bitsUp w)).length ((ints (bitsUp w)).flatMap intC),.int .i64 0] v
section
variable {ob:ZO}{ub n:Nat}{v:V}{L:List P2}
theorem evo194 (G:0<n) (z:n<=9) (hv:EdA ub ob v L) (k:InG n L) (Q:L.length<=10000) {t:Nat}(D:t<n) (tk:Nat->Bool) (base:Nat) :
 ∃q,EvO E 194 [.int .i64 (n:Int),.int .i64 (t:Int),v] ob tk base ub q/\∃w,(w<2 ^ n/\∀a,a<n->w.testBit a=war (edB L) n t a)/\FromR w q:=by
 have hp:(2:Nat) ^ n<=512:=ci zQ z;have B:¬ (t:Int)<0:=zO;have j:¬ (n:Int)<=t:=zO;have c:¬ (n<=t):=zO;refine Wr (af:=S194) rfl zQ ?_;conv in (occs := *) S194=> all_goals cbv
 simp(disch:=first|(simp;done)|omega) [S194];refine jV (vs:=[.int .i64 n,v]) zS rfl (jxv ?_ G z (hv.up zS ?_) k Q) ?_;simp;omega
 ·first|omega|(simp;done)|(simp;omega)
 rintro v1 U J b0 ⟨F,ut,uf,ue,tu,fu,T,rfl,I,m,b5,hT,P,p⟩;simp only at I P p;simp(disch:=first|(simp;done)|omega) [B,j,c];refine jV (vs:=[.ptr (2*F+1) F 0]) zS rfl (j7u (n:=n) (r:=edB L) (I.keep (λx _ _=>?_) ?_) ?_ m G z (λb _=>⟨(Xy k b).1,λa _=>(Xy k b).2 a⟩)) ?_;simp
 ·first|omega|(simp;done)|(simp;omega)
 ·first|omega|(simp;done)|(simp;omega)
 rintro v2 K N O ⟨H,f,W,rfl,a0,d,M⟩;simp only at d;have e:=d.o;rw[eO,aS]at e;have S:=d.r;have x1:=jgp (l:=2*H+1) (u:=H) (kk:=.i64) D;have x2:=jio (l:=f) (i:=t) zO;have X:=d.s t zO;have ls:=d.rs _ (av (show t<f.length by omega));have ws:=M t D;simp(disch:=first|(simp;done)|omega) [x1,x2,objCells,e];obtain⟨y,g⟩:=WE (ints (bitsUp (W t)));refine jb (vs:=[.ptr (2*f[t]+1) f[t] 0]) zS rfl rfl (jps (w:=W t) (by simpa using X) (Off.new zL) zO _ _) ?_;refine Ji g λZ add=>?_;simp;refine jsa (ns:=[6,7]) (ls:=[.sl none y (ints (bitsUp (W t))).length ((ints (bitsUp (W t))).flatMap intC),.int .i64 0]) (λr h=>⟨W t,ws,y,h⟩) zS rfl zS zS ?_;simp;exact⟨YP rfl (JR _ Z y _ _),jp rfl,trivial⟩
end
section
variable {g:Hist'}{M:List Int}{mn rn:Bool}{rt:Option (Nat × Nat)}{kX uX lo:Nat}{ob:ZO}{ub:Nat}{L:List P2}
def srcL (g:Hist') (M:List Int) (i:Nat):List P2:=(List.range i).map (jw7 g M)
theorem js1 (g:Hist') (M:List Int) (i:Nat):srcL g M (i+1)=srcL g M i++[jw7 g M i]:=by unfold srcL;rw[db,bF];rfl
theorem jif (g:Hist') (M:List Int) (i:Nat):(srcL g M i).length=i:=by simp[srcL]
def rdV (rt:Option (Nat × Nat)) (rn:Bool) (R:List (Int × Int)):V:=.sl rt rn R.length (R.flatMap jE)
theorem sv88 {Yf:YF}{tk:Nat->Bool}{ro base:Nat}(hX:MkR g (slOf mn intC M) (rdV rt rn (readH g)) kX uX lo ob ub L) (hm:jaj g M=true) (l:Off lo kX) (Q:lo<=ub) (b0:ro<=lo) (b7:ro<=uX) (hl:L.length<=10000) (hR:(readH g).length<=10000) :
 ∃r,EvS E Yf.y 88 [.ptr kX uX 0] ob tk ro base ub r/\ub<=r.2.2.2/\MkR g (slOf mn intC M) (rdV rt rn (readH g)) kX uX lo r.2.1 r.2.2.2 (L++srcL g M (readH g).length)/\∀c,Off lo c->c≠kX->r.2.1 c=ob c:=by
 have b6:=W2 hm;obtain⟨b8,o,_⟩:=id hX;refine Ja (af:=S88) rfl zQ ?_;show wpC E Yf S88.body _ (XD S88.res _);conv in (occs := *) S88=> all_goals cbv
 simp(disch:=first|(simp;done)|omega) [S88,objCells,o,mkS,histC,rdV];refine jQ λm h=>?_;have g0:m.tm 0=.ptr kX uX 0:=by rw[h];simp
 have g7:m.tm 7=rdV rt rn (readH g):=by rw[h];simp[rdV]
 have g8:m.tm 8=.int .i64 (readH g).length:=by rw[h];simp
 have g9:m.tm 9=.int .i64 0:=by rw[h];simp
 have gd:m.df=[]:=by rw[h];simp
 have gr:m.ro=ro:=by rw[h];simp
 have T:ub<=m.nx:=by rw[h];first|omega|(simp;done)|(simp;omega)
 have go:m.ob=ob:=by rw[h];simp
 clear h;obtain⟨J,P⟩:∃J:Nat->St->Prop,J=λi s=>s.tm 9=.int .i64 i/\MkR g (slOf mn intC M) (rdV rt rn (readH g)) kX uX lo s.ob s.nx (L++srcL g M i)/\ub<=s.nx/\∀c,Off lo c->c≠kX->s.ob c=ob c:=⟨_,rfl⟩;refine j6 [(2,3),(9,25)] (readH g).length J rfl rfl ?_ ?_;rw[P];exact⟨by simpa using g9,by simpa[srcL] using hX.keep (λc _=>by rw[go]) (l.up Q) T,T,λc _ _=>by rw[go]⟩;clear o g9 go T;intro i s hi q f;rw[P]at q;obtain⟨G,X,sn,so⟩:=q;have s0:=(f.t 0 zS).trans g0;have s7:=(f.t 7 zS).trans g7;have s8:=(f.t 8 zS).trans g8;have sd:=f.d.trans gd;have sr:=f.r.trans gr;clear f;by_cases j:i<(readH g).length;have N:=jZ j zO;have n:i<M.length:=zO;obtain⟨lv,D,_⟩:=id X;have oX:=(l.up (show lo<=s.nx by omega)).ne;have z:=jv jT rt rn (readH g) .i64 j;have w:=λob=>Wf (readH g) ob j;have K:=j7 j9 mn M .i64 n;have I:=jr M n;have U:=js1 g M i;have F:jw7 g M i=(JO g M[i],(readH g)[i].1):=by unfold jw7;simp[ag,aa n,aa j]
 have H:=jif g M i;generalize hp:(readH g)[i]=p at *;obtain⟨a,b⟩:=p;simp only at w;simp(disch:=first|(simp;done)|omega) [G,s8,s7,s0,j,rdV,z,w,objCells,j2,two_inj];refine⟨by first|omega|(simp[sr];omega),?_⟩;simp(disch:=first|(simp;done)|omega) [s0,objCells,j2,two_inj,D,mkS,histC,oX,K,I];refine jV (vs:=[.ptr kX uX 0,.int .i64 M[i],.int .i64 a]) zS rfl (sv137 (L:=L++srcL g M i) (lo:=lo) (X.keep (λc l=>?_) (l.up zO) zL) l zL (by first|omega|(simp[sr];omega)) (by first|omega|(simp[sr];omega)) (by rw[au,H];omega) _ _) ?_;have:=l.ne;simp(disch:=first|(simp;done)|omega) [this];rintro v1 b5 a0 O ⟨r1,S,Z⟩;simp only at r1 S Z;have q1:s.nx<=O:=by first|omega|(simp at r1;omega)
 have B:JO g (a:Int)=a:=by
  unfold JO;obtain⟨k,l,_⟩:=jhb j;have e:(readH g).getD i (0,0)=(a,b):=by simp[ag,aa j,hp]
  rw[e]at l;have:a=(k:Int):=l;rw[if_neg zO]
 rw[aY,B,<- F,<- U]at S;simp(disch:=first|(simp;done)|omega) [G,N,j];rw[P];refine⟨zS,S.keep (λc _=>by simp) (l.up zO) zL,zL,λc u x=>?_⟩;have h3:=(u.up (show lo<=s.nx by omega)).ne;simp;rw[Z c u x];simp(disch:=first|(simp;done)|omega) [h3];exact so c u x;have:i=(readH g).length:=zO;subst this;simp(disch:=first|(simp;done)|omega) [G,s8];exact jec (.inl rfl) (by simp[sd]) ⟨zL,X.keep (λc _=>by simp) (l.up zO) zL,λc u x=>by simpa using so c u x⟩
end
def sesK (g:Hist') (i k:Nat):List P2:=((g.ts.length:Int),(comL g).getD i 0)::((List.range k).filter λk=>sesAt g ((comL g).getD k 0).toNat == sesAt g ((comL g).getD i 0).toNat).map λk=>((comL g).getD k 0,(comL g).getD i 0)
def sesL (g:Hist') (i:Nat):List P2:=(List.range i).flatMap (jyb g)
theorem jj8 (g:Hist') (i:Nat):sesL g (i+1)=sesL g i++sesK g i i:=by unfold sesL;rw[db,bT];simp[jyb,sesK]
theorem jj9 (g:Hist') (i k:Nat):sesK g i (k+1)=sesK g i k++if sesAt g ((comL g).getD k 0).toNat == sesAt g ((comL g).getD i 0).toNat then [((comL g).getD k 0,(comL g).getD i 0)] else []:=by unfold sesK;rw[db,ch,bF,dB];congr 2;cases h:sesAt g ((comL g).getD k 0).toNat == sesAt g ((comL g).getD i 0).toNat <;> simp only[cq,dw,h,if_true,aj,if_false,bt,cm]
theorem jik (g:Hist') (i:Nat):∀k,(sesK g i k).length<=k+1
 | 0=>by simp[sesK]
 | k+1=>by have:=jik g i k;rw[jj9];split <;> simp <;> omega
theorem QU (g:Hist') (N:Nat):∀i,i<=N->(sesL g i).length<=i*(N+1)
 | 0,_=>by simp[sesL]
 | i+1,h=>by have a:=QU g N i zO;have b:=jik g i i;rw[jj8,au,da];omega
def rdK (g:Hist') (lvl:Int) (M:List Int) (i j:Nat):List P2:=jw7 g M i::askE g M ((Jw g lvl M i).take j) i
def rdL (g:Hist') (lvl:Int) (M:List Int) (i:Nat):List P2:=(List.range i).flatMap λi=>rdK g lvl M i (Jw g lvl M i).length
theorem jor (g:Hist') (lvl:Int) (M:List Int) (i:Nat):rdL g lvl M (i+1)=rdL g lvl M i++rdK g lvl M i (Jw g lvl M i).length:=by unfold rdL;rw[db,bT];simp
theorem jyj {g:Hist'}{lvl:Int}{M:List Int}{i j:Nat}(h:j<(Jw g lvl M i).length):rdK g lvl M i (j+1)=rdK g lvl M i j++if W3 g (Jw g lvl M i)[j] (jgn g ((readH g).getD i (0,0))) && ((Jw g lvl M i)[j] != M.getD i 0) then [((Jw g lvl M i)[j],JO g (M.getD i 0))] else []:=by unfold rdK askE;rw[ay h,ch,bF,dB];congr 2;cases h:W3 g (Jw g lvl M i)[j] (jgn g ((readH g).getD i (0,0))) && ((Jw g lvl M i)[j] != M.getD i 0) <;> simp only[cq,dw,h,if_true,aj,if_false,bt,cm]
theorem jto (g:Hist') (lvl:Int) (M:List Int) (i j:Nat):(rdK g lvl M i j).length<=j+1:=by unfold rdK askE;have a:=bD (λt=>W3 g t (jgn g ((readH g).getD i (0,0))) && (t != M.getD i 0)) ((Jw g lvl M i).take j);rw[ap]at a;simp only[bo,bC];omega
theorem jkc (g:Hist') (lvl:Int) (M:List Int) (i:Nat):(Jw g lvl M i).length<=g.ts.length:=jf3 _ _
theorem jmt (g:Hist') (lvl:Int) (M:List Int) (a:g.ts.length<=8):∀i,(rdL g lvl M i).length<=i*9
 | 0=>by simp[rdL]
 | i+1=>by have b:=jmt g lvl M a i;have d:=jto g lvl M i (Jw g lvl M i).length;have c:=jkc g lvl M i;rw[jor,au];omega
theorem jyc {g:Hist'}{lvl:Int}{M O:List Int}{p:Int × Int}(h:lvl≠3):jcd g lvl M O p=jcd g lvl M [] p:=by unfold jcd;refine jf4 λk _=>?_;unfold jcc;rw[if_neg h,if_neg h]
theorem j6s (g:Hist') (lvl:Int) (M:List Int):jjm g lvl M (sesL g (comL g).length++rdL g lvl M (readH g).length):=by intro z;rw[aO,sesL,rdL,cg,cg];simp only[aH,rdK,br,bh]
section
variable {g:Hist'}{M:List Int}
theorem jmo {lvl:Int}(c:jaj g M=true) {l:List P2}(h:jjm g lvl M l):∀z∈l,∃a b:Nat,z=((a:Int),(b:Int))/\a<g.ts.length+1/\b<g.ts.length+1:=by
 intro z i;have:z∈jY (g.ts.length+1) (satB g lvl M):=by rw[<- Q7 c h,compP_mem,(X8 l).mem_iff];exact i
 obtain⟨a,b,d,f,_,e⟩:=edgesOf_mem.1 this;exact⟨a,b,e,d,f⟩
theorem ev46 (hs:Small g) (h8:g.ts.length<=8) (hR:(readH g).length<=1000) {mn:Bool}(lvl:Int) (i8:lvl≠3) (X:jaj g M=true):∃v,Ev E 46 [.int .i64 lvl,.agg (histC g),slOf mn intC M] v/\∃l,jjm g lvl M l/\SlR v false (jY (g.ts.length+1) λa b=>l.contains ((a:Int),(b:Int))).length ((jY (g.ts.length+1) λa b=>l.contains ((a:Int),(b:Int))).flatMap edC):=by
 have i9:=W2 X;have g6:=ev39 g zO;rw[show numsTo Jt g.ts g.ts.length=comL g from rfl]at g6;obtain⟨vr,i1,i6⟩:=ev31 hs;have l6:=jby g;have d6:=j6s g lvl M;obtain⟨P,hP⟩:∃P:List P2->V->Prop,P=λl v=>SlR v false (jY (g.ts.length+1) λa b=>l.contains ((a:Int),(b:Int))).length ((jY (g.ts.length+1) λa b=>l.contains ((a:Int),(b:Int))).flatMap edC):=⟨_,rfl⟩;suffices h:∃v,Ev E 46 [.int .i64 lvl,.agg (histC g),slOf mn intC M] v/\∃l,jjm g lvl M l/\P l v by rw[hP]at h;exact h
 refine JZ (af:=F46) rfl zQ ?_;simp(disch:=first|(simp;done)|omega) [F46,objCells,histC,slOf];refine JV (cs:=[]) rfl rfl rfl ?_;simp[objCells];refine kD_evT g6 (by simp[histC,slOf]) rfl (by simp[histC,slOf]) λu1 _=>?_;simp[objCells];refine Js i1 (by simp[histC,slOf]) rfl (by simp[histC,slOf]) ?_;refine Ji i6 λrt add=>?_;simp;refine⟨by simp[X5,Qn,jap,jb6,rdOb,rdTk,lOf,uOf,Delta.wo,Delta.wt];try rfl,?_⟩;refine jQ λst F=>?_;obtain⟨t8,g8⟩:∃t,st.tm 8=.sl t false (comL g).length ((comL g).flatMap intC):=⟨_,by rw[F];simp;rfl⟩;have g0:st.tm 0=.int .i64 lvl:=by rw[F];simp
 have g2:st.tm 2=slOf mn intC M:=by rw[F];simp[slOf]
 have g4:st.tm 4=.ptr 1 0 0:=by rw[F];simp
 have g7:∃v,st.tm 7=v/\EdL st.ob 64 st.nx v (sesL g 0):=⟨.osl 257 128 0 0 2,by rw[F];simp,128,rfl,by rw[F];simp[sesL],zQ,by rw[F];simp⟩;have g9:st.tm 9=rdV rt false (readH g):=by rw[F];simp[rdV]
 have f7:st.tm 10=.int .i64 0:=by rw[F];simp
 have gB:st.ob 1=some ⟨0,.cells (histC g)⟩:=by rw[F];simp[histC,slOf]
 have gd:st.df=[]:=by rw[F];simp
 have gr:st.ro=0:=by rw[F];simp
 have gn:64<=st.nx:=by rw[F];simp
 clear F;obtain⟨J,hJ⟩:∃J:Nat->St->Prop,J=λi s=>s.tm 10=.int .i64 i/\(∃v,s.tm 7=v/\EdL s.ob 64 s.nx v (sesL g i))/\s.ob 1=some ⟨0,.cells (histC g)⟩/\64<=s.nx:=⟨_,rfl⟩;refine j6 [(7,7),(10,11),(23,75)] (comL g).length J rfl rfl (by rw[hJ];exact⟨by simpa using f7,g7,gB,gn⟩) ?_;clear g7 f7 gB gn;intro i s hi b8 f;rw[hJ]at b8;obtain⟨c9,⟨v,s7,sI⟩,sB,sn⟩:=b8;have s0:=(f.t 0 zS).trans g0;have s2:=(f.t 2 zS).trans g2;have s4:=(f.t 4 zS).trans g4;have s8:=(f.t 8 zS).trans g8;have s9:=(f.t 9 zS).trans g9;have sd:=f.d.trans gd;have sr:=f.r.trans gr;clear f;have n1:∀m,64<=m->¬ 1=2*m+1:=λm X=>by omega
 by_cases o:i<(comL g).length
 ·have d9:=jZ o zO;have b0:=jv j9 t8 false (comL g) .i64 o;have e9:=jr (comL g) o;have k1:=QU g 8 i zO;have e0:(comL g).getD i 0=(comL g)[i]:=by simp[ag,aa o]
  obtain⟨c,hc,_,e8⟩:=jlq o;rw[e0]at hc;have b9:sesK g i 0=[((g.ts.length:Int),(comL g)[i])]:=by simp only[sesK,List.range_zero,dw,cm,e0]
  obtain⟨u,hv,h2,h3,h4⟩:=sI;have nu:∀m,s.nx<=m->¬ u=m:=λm X=>by omega
  simp(disch:=first|(simp;done)|omega) [c9,s8,s7,s4,o,b0,e9,objCells,sB,histC,slOf,j2];refine JV (cs:=[.int .i64 g.ts.length,.int .i64 (comL g)[i]]) (by simp[j2]) rfl rfl ?_;simp;refine Ye (lo:=64) (hi:=s.nx) (v:=v) (L:=sesL g i) (p:=((g.ts.length:Int),(comL g)[i])) (by simp[s7]) (.inr ⟨u,hv,by simp(disch:=first|(simp;done)|omega) [two_inj,nu,h2],h3,h4⟩) (by simp[sr]) (by simp[slCells,objCells,edC]) zO λkl hq=>?_;have K:∀D,Off 64 D->kl.any (Nat.beq D)=false:=λD hk=>by rcases hq with rfl|⟨u,h1,h2,rfl⟩;rfl;simp only[bu,bI,bq];exact W7 (hk u h1)
  have T:=K 1 n1;rw[<- b9];simp(disch:=first|(simp;done)|omega);refine jQ λp I=>?_;have p4:p.tm 4=.ptr 1 0 0:=by rw[I];simp[s4]
  have p8:p.tm 8=.sl t8 false (comL g).length ((comL g).flatMap intC):=by rw[I];simp[s8]
  have h9:p.tm 10=.int .i64 i:=by rw[I];simp[c9]
  have h5:p.tm 11=.int .i64 0:=by rw[I];simp
  have pd:p.df=[]:=by rw[I];simp[sd]
  have pr:p.ro=0:=by rw[I];simp[sr]
  have pn:64<=p.nx:=by rw[I];first|omega|(simp;done)|(simp;omega)
  have pB:p.ob 1=some ⟨0,.cells (histC g)⟩:=by rw[I];simp(disch:=first|(simp;done)|omega) [jD,n1,T,sB]
  have pI:∃v,p.tm 7=v/\EdL p.ob 64 p.nx v (sesL g i++sesK g i 0):=by
   refine⟨.osl (2*(s.nx+896)+1) (s.nx+896) 0 ((sesL g i).length+1) 2,by rw[I];simp[aG],s.nx+896,by rw[b9];simp,?_,zO,?_⟩;rw[I];simp(disch:=first|(simp;done)|omega) [jD,aG]
   ·rw[I];first|omega|(simp;done)|(simp;omega)
  clear I;obtain⟨J2,d1⟩:∃J2:Nat->St->Prop,J2=λk q=>q.tm 11=.int .i64 k/\(∃v,q.tm 7=v/\EdL q.ob 64 q.nx v (sesL g i++sesK g i k))/\q.ob 1=some ⟨0,.cells (histC g)⟩/\64<=q.nx:=⟨_,rfl⟩;refine j6 [(7,7),(11,11),(40,75)] i J2 rfl rfl (by rw[d1];exact⟨by simpa using h5,pI,pB,pn⟩) ?_;clear pI h5 pB pn;intro k q l0 c6 f;rw[d1]at c6;obtain⟨c7,⟨w,q7,qI⟩,qB,qn⟩:=c6;have q4:=(f.t 4 zS).trans p4;have q8:=(f.t 8 zS).trans p8;have e5:=(f.t 10 zS).trans h9;have qd:=f.d.trans pd;have qr:=f.r.trans pr;clear f;by_cases d4:k<i;have G:=jZ d4 zO;have d0:k<(comL g).length:=zO;have d8:=jv j9 t8 false (comL g) .i64 d0;have c3:=jr (comL g) d0;have f3:(comL g).getD k 0=(comL g)[k]:=by simp[ag,aa d0]
  obtain⟨a,ha,_,e7⟩:=jlq d0;rw[f3]at ha;have n:=jj9 g i k;rw[f3,e0,ha,hc,aZ,aZ]at n;have k6:=jik g i k;have h0:∀ {x:Nat}(h:x<g.ts.length),(g.ts.flatMap js)[x*3]? = some (.int .i64 (sesAt g x)):=fun {x} h=>by have:=jU jA g.ts h (by decide:0<3);rw[bj]at this;rw[this];simp[js,sesAt,h]
  have f1:=h0 e7;have f2:=h0 e8;have x1:=j7 jA g.tn g.ts .i64 e7;have x2:=j7 jA g.tn g.ts .i64 e8;rw[ha]at c3;have c4:=e9;rw[hc]at c4;simp(disch:=first|(simp;done)|omega) [c7,e5,q8,q4,d4,d8,c3,b0,c4,objCells,qB,histC,x1,x2,f1,f2];obtain⟨u2,hw,w2,w3,w4⟩:=qI;cases c1:(sesAt g a == sesAt g c);rw[c1,if_neg zQ,aS]at n;simp(disch:=first|(simp;done)|omega) [c7,G,d4];rw[d1];exact⟨zS,⟨w,by simp[q7],u2,by rw[n,hw],by rw[n];simpa using w2,w3,zL⟩,by simpa using qB,zL⟩;rw[c1,if_pos rfl]at n;have b5:∀m,q.nx<=m->¬ u2=m:=λm X=>by omega
  simp(disch:=first|(simp;done)|omega) [c7,e5,q8,q7,d8,c3,b0,c4,j2];refine JV (cs:=[.int .i64 (a:Int),.int .i64 (c:Int)]) (by simp[j2]) rfl rfl ?_;simp;refine Ye (lo:=64) (hi:=q.nx) (v:=w) (L:=sesL g i++sesK g i k) (p:=((a:Int),(c:Int))) (by simp[q7]) (.inr ⟨u2,hw,by simp(disch:=first|(simp;done)|omega) [two_inj,b5,w2],w3,w4⟩) (by simp[qr]) (by simp[slCells,objCells,edC]) (by rw[au];omega) λkl hq=>?_;have K:∀D,Off 64 D->kl.any (Nat.beq D)=false:=λD hk=>by rcases hq with rfl|⟨u,h1,h2,rfl⟩;rfl;simp only[bu,bI,bq];exact W7 (hk u h1)
  have T:=K 1 n1;rw[aY,<- n];have b7:(sesL g i++sesK g i (k+1)).length=(sesL g i++sesK g i k).length+1:=by rw[n,<- aY,au (bs:=[_])];rfl
  generalize hB:sesL g i++sesK g i (k+1)=B at *;generalize sesL g i++sesK g i k=A at *;simp(disch:=first|(simp;done)|omega) [c7,G,d4];rw[d1];refine⟨zS,⟨.osl (2*(q.nx+2112)+1) (q.nx+2112) 0 B.length 2,by simp[b7,aG],q.nx+2112,by rw[hB],?_,zO,zL⟩,?_,zL⟩;rw[hB];simp(disch:=first|(simp;done)|omega) [jD,aG];simp(disch:=first|(simp;done)|omega) [jD,n1,T,qB];have e:k=i:=zO;subst e;simp(disch:=first|(simp;done)|omega) [c7,e5,d9,o];rw[hJ];rw[<- jj8]at qI;obtain⟨u2,hw,w2,w3,w4⟩:=qI;exact⟨zS,⟨w,by simpa using q7,u2,hw,by simpa using w2,w3,zL⟩,by simpa using qB,zL⟩
 ·have e:i=(comL g).length:=zO;subst e;simp(disch:=first|(simp;done)|omega) [c9,s8];refine jQ λx U=>?_;have x0:x.tm 0=.int .i64 lvl:=by rw[U];simp[s0]
  have x2:x.tm 2=slOf mn intC M:=by rw[U];simp[s2]
  have x4:x.tm 4=.ptr 1 0 0:=by rw[U];simp[s4]
  have x8:x.tm 8=.sl t8 false (comL g).length ((comL g).flatMap intC):=by rw[U];simp[s8]
  have x9:x.tm 9=rdV rt false (readH g):=by rw[U];simp[s9]
  have f5:x.tm 12=.int .i64 0:=by rw[U];simp
  have xd:x.df=[]:=by rw[U];simp[sd]
  have xr:x.ro=0:=by rw[U];simp[sr]
  have xn:64<=x.nx:=by rw[U];first|omega|(simp;done)|(simp;omega)
  have xB:x.ob 1=some ⟨0,.cells (histC g)⟩:=by rw[U];simpa using sB
  have xI:∃v,x.tm 7=v/\EdL x.ob 64 x.nx v (sesL g (comL g).length++rdL g lvl M 0):=by
   obtain⟨u,hv,h2,h3,h4⟩:=sI;refine⟨v,by rw[U];simp[s7],u,by rw[hv];simp[rdL],?_,h3,?_⟩;rw[U];simpa[rdL] using h2
   ·rw[U];first|omega|(simp;done)|(simp;omega)
  clear U s0 s2 s4 s7 s8 s9 sB sd sr sn sI c9;have hS:=QU g 8 (comL g).length zO;have l3:(sesL g (comL g).length).length<=72:=bG hS (by have:(comL g).length*(8+1)<=8*9:=bc 9 zO;omega);clear hS;generalize sesL g (comL g).length=S at *;obtain⟨J3,e4⟩:∃J3:Nat->St->Prop,J3=λi s=>s.tm 12=.int .i64 i/\(∃v,s.tm 7=v/\EdL s.ob 64 s.nx v (S++rdL g lvl M i))/\s.ob 1=some ⟨0,.cells (histC g)⟩/\64<=s.nx:=⟨_,rfl⟩;refine j6 [(7,7),(12,17),(76,156)] (readH g).length J3 rfl rfl (by rw[e4];exact⟨by simpa using f5,xI,xB,xn⟩) ?_;clear f5 xI xB xn;intro i s hi b8 f;rw[e4]at b8;obtain⟨c0,⟨v,s7,sI⟩,sB,sn⟩:=b8;have s0:=(f.t 0 zS).trans x0;have s2:=(f.t 2 zS).trans x2;have s4:=(f.t 4 zS).trans x4;have s8:=(f.t 8 zS).trans x8;have s9:=(f.t 9 zS).trans x9;have sd:=f.d.trans xd;have sr:=f.r.trans xr;clear f;by_cases o:i<(readH g).length
  ·have d9:=jZ o zO;have e1:i<M.length:=zO;have f8:=jjv (jfh X);have b0:=jv jT rt false (readH g) .i64 o;have h7:=λob=>Wf (readH g) ob o;have d3:=j7 j9 mn M .i64 e1;have d5:=jr M e1;have i7:=jmt g lvl M h8 i;obtain⟨a,b,ha,hb,I,g1,_⟩:=jtn f8 o;have e3:(readH g).getD i (0,0)=((a:Int),(b:Int)):=by simp[ag,aa o,I]
   have f6:M.getD i 0=M[i]:=by simp[ag,aa e1]
   have b9:rdK g lvl M i 0=[(JO g M[i],(a:Int))]:=by unfold rdK askE jw7;rw[eB,f6,e3];rfl
   have g3:=ev94 g M[i];simp only[I]at h7;obtain⟨u,hv,h2,h3,h4⟩:=sI;have nu:∀m,s.nx<=m->¬ u=m:=λm X=>by omega
   simp(disch:=first|(simp;done)|omega) [c0,s9,rdV,o,b0,h7,objCells,j2,two_inj];refine⟨by first|omega|(simp[sr];omega),?_⟩;simp(disch:=first|(simp;done)|omega) [c0,s7,s4,s2,objCells,j2,two_inj,sB,n1,histC,d3,d5];refine Js g3 (by simp[histC,slOf]) rfl (by simp[histC,slOf]) ?_;simp(disch:=first|(simp;done)|omega) [objCells,j2,two_inj];refine JV (cs:=[.int .i64 (JO g M[i]),.int .i64 (a:Int)]) (by simp[j2]) rfl rfl ?_;simp;refine Ye (lo:=64) (hi:=s.nx) (v:=v) (L:=S++rdL g lvl M i) (p:=(JO g M[i],(a:Int))) (by simp[s7]) (.inr ⟨u,hv,by simp(disch:=first|(simp;done)|omega) [two_inj,nu,h2],h3,h4⟩) (by simp[sr]) (by simp[slCells,objCells,edC]) (by rw[au];omega) λkl hq=>?_;have K:∀D,Off 64 D->kl.any (Nat.beq D)=false:=λD hk=>by rcases hq with rfl|⟨u,h1,h2,rfl⟩;rfl;simp only[bu,bI,bq];exact W7 (hk u h1)
   have k4:∀m,s.nx<=m->kl.any (Nat.beq (2*m+1))=false:=λm X=>by rcases hq with rfl|⟨u,h1,h2,rfl⟩;rfl;simp only[bu,bI,bq];exact W7 zO
   have T:=K 1 n1;rw[<- b9];obtain⟨vs,es,f0⟩:=ev33 hs (nl:=mn) (on:=false) (O:=comL g) i9 zO lvl o ha (by rw[I]);rw[jyc i8,show jcd g lvl M [] (readH g)[i]=Jw g lvl M i by rw[Jw,e3,I]]at f0;generalize j0:List.flatMap edC (S++rdL g lvl M i++rdK g lvl M i 0)=cs9;simp(disch:=first|(simp;done)|omega) [s0,s4,s2,s8,c0,objCells,j2,two_inj,jD,T,n1,sB,histC,slOf];refine jJ es (by simp[histC,slOf]) rfl (by simp[histC,slOf]) ?_;refine Ji f0 λh6 k0=>?_;simp;refine jQ λp y=>?_;obtain⟨z,z1,z2,i2,pZ,p7,pE,zw⟩:∃z,64<=z/\z<p.nx/\p.tm 13=.ptr (2*z+1) z 0/\p.ob (2*z+1)=some ⟨z,.cells [.int .i64 (a:Int),.int .i64 (b:Int)]⟩/\p.tm 7=.osl (2*(s.nx+1344)+1) (s.nx+1344) 0 ((S++rdL g lvl M i).length+1) 2/\p.ob (2*(s.nx+1344)+1)=some ⟨s.nx+1344,.cells cs9⟩/\s.nx+1344<p.nx/\z<s.nx+1344:=by
    refine⟨s.nx+512,zO,?_,by rw[y];simp[aG],?_,by rw[y];simp[aG],?_,?_,zO⟩
    ·rw[y];first|omega|(simp;done)|(simp;omega)
    rw[y];have:=k4 (s.nx+512) zO;simp(disch:=first|(simp;done)|omega) [jD,two_inj,aG,this];rw[y];simp(disch:=first|(simp;done)|omega) [jD,two_inj,aG]
    ·rw[y];first|omega|(simp;done)|(simp;omega)
   obtain⟨zw,zz⟩:=zw;have p2:p.tm 2=slOf mn intC M:=by rw[y];simp[s2]
   have p4:p.tm 4=.ptr 1 0 0:=by rw[y];simp[s4]
   have k2:p.tm 12=.int .i64 i:=by rw[y];simp[c0]
   have i5:p.tm 14=.sl h6 false (Jw g lvl M i).length ((Jw g lvl M i).flatMap intC):=by rw[y];simp
   have e6:p.tm 15=.int .i64 0:=by rw[y];simp
   have pd:p.df=[]:=by rw[y];simp[sd]
   have pr:p.ro=0:=by rw[y];simp[sr]
   have pn:64<=p.nx:=zO;have pB:p.ob 1=some ⟨0,.cells (histC g)⟩:=by rw[y];simp(disch:=first|(simp;done)|omega) [jD,n1,T,sB]
   clear y;have l1:=jkc g lvl M i;have f4:(g.ts.flatMap js)[a*3+2]? = some (slOf (g.ts[a]).nl opC (g.ts[a]).ops):=by rw[jU jA g.ts ha (by decide:2<3)];rfl
   have i0:((g.ts[a]).ops.flatMap opC)[b*4+1]? = some (.int .i64 ((g.ts[a]).ops[b]).key):=by rw[jU jL (g.ts[a]).ops hb (by decide:1<4)];rfl
   have k3:jgn g ((readH g).getD i (0,0))=((g.ts[a]).ops[b]).key:=by rw[e3,<- I];exact g1
   have d7:=jor g lvl M i;have k9:(S++rdL g lvl M i).length<=20000:=by rw[au];omega
   have g5:(S++rdL g lvl M i++rdK g lvl M i 0).length=(S++rdL g lvl M i).length+1:=by rw[b9,au (bs:=[_])];rfl
   rw[<- List.append_right_inj S,<- aY]at d7;generalize l5:S++rdL g lvl M i=B at *;obtain⟨J4,c2⟩:∃J4:Nat->St->Prop,J4=λj q=>q.tm 15=.int .i64 j/\(∃v,q.tm 7=v/\EdL q.ob (z+1) q.nx v (B++rdK g lvl M i j))/\q.ob (2*z+1)=some ⟨z,.cells [.int .i64 (a:Int),.int .i64 (b:Int)]⟩/\q.ob 1=some ⟨0,.cells (histC g)⟩/\z<q.nx:=⟨_,rfl⟩;refine j6 [(7,7),(15,17),(104,156)] (Jw g lvl M i).length J4 rfl rfl (by rw[c2];exact⟨by simpa using e6,⟨_,p7,s.nx+1344,by rw[g5],by rw[pE,j0],zO,zO⟩,pZ,pB,z2⟩) ?_;clear e6 p7 pE;intro j q hj c6 f;rw[c2]at c6;obtain⟨a0,⟨w,q7,qI⟩,qZ,qB,qz⟩:=c6;have q2:=(f.t 2 zS).trans p2;have q4:=(f.t 4 zS).trans p4;have c8:=(f.t 12 zS).trans k2;have f9:=(f.t 13 zS).trans i2;have b6:=(f.t 14 zS).trans i5;have qd:=f.d.trans pd;have qr:=f.r.trans pr;clear f;obtain⟨u2,hw,w2,w3,w4⟩:=qI;by_cases H:j<(Jw g lvl M i).length;have G:=jZ H zO;have Z:=jv j9 h6 false (Jw g lvl M i) .i64 H;have Q:=jr (Jw g lvl M i) H;obtain⟨t,et,k8⟩:=jmn (av H);have n:=jyj (M:=M) H;rw[f6,et,k3]at n;rw[et]at Q;have el:=ev64 hs (t:Int) ((g.ts[a]).ops[b]).key;have ez:(WH (Jz g (t:Int)).2 ((g.ts[a]).ops[b]).key).2=W3 g t ((g.ts[a]).ops[b]).key:=rfl;rw[ez]at el;have k5:=jto g lvl M i j;simp(disch:=first|(simp;done)|omega) [a0,b6,f9,q4,H,Z,Q,qB,qZ,objCells,histC,ha,hb,j7 jA,j7 jL,f4,i0];refine Js el (by simp[histC]) rfl (by simp[histC]) ?_;rw[Jr (by simp[V.plain,J0])];generalize (WH (Jz g (t:Int)).2 ((g.ts[a]).ops[b]).key).1=rv at *;generalize W3 g t ((g.ts[a]).ops[b]).key=rb at *;simp(disch:=first|(simp;done)|omega) [J0,j2,objCells];refine⟨by first|omega|(simp[qr];omega),?_,?_⟩;simp(disch:=first|(simp;done)|omega) [X5,Qn,jap,jb6,rdOb,rdTk,lOf,uOf,Delta.wo,Delta.wt,q4,f9];exact⟨JN zO,JN zO⟩;have n2:∀m,q.nx<=m->¬ 2*z+1=2*m+1:=λm X=>by omega
   have b5:∀m,q.nx<=m->¬ u2=m:=λm X=>by omega
   have e2:∀m,q.nx<=m->¬ z=m:=λm X=>by omega
   have d2:∀m,q.nx<=m->¬ 1=2*m+1:=λm X=>by omega
   cases c5:((t:Int) != M[i]);rw[c5,dC,if_neg zQ,aS]at n;simp(disch:=first|(simp;done)|omega) [a0,b6,q2,c8,Z,Q,d3,d5,c5,G,H];rw[c2];refine⟨zS,⟨w,by simp[q7],u2,by rw[n,hw],?_,w3,zL⟩,?_,?_,zL⟩;rw[n];simp(disch:=first|(simp;done)|omega) [jD,two_inj,b5,w2];simp(disch:=first|(simp;done)|omega) [jD,two_inj,e2,qZ];simp(disch:=first|(simp;done)|omega) [jD,d2,qB];rw[c5,ec]at n;cases rb;rw[if_neg zQ,aS]at n;simp(disch:=first|(simp;done)|omega) [a0,b6,q2,c8,Z,Q,d3,d5,c5,G,H];rw[c2];refine⟨zS,⟨w,by simp[q7],u2,by rw[n,hw],?_,w3,zL⟩,?_,?_,zL⟩;rw[n];simp(disch:=first|(simp;done)|omega) [jD,two_inj,b5,w2];simp(disch:=first|(simp;done)|omega) [jD,two_inj,e2,qZ];simp(disch:=first|(simp;done)|omega) [jD,d2,qB];rw[if_pos rfl]at n;simp(disch:=first|(simp;done)|omega) [a0,b6,q2,c8,q7,q4,Z,Q,d3,d5,c5,objCells,qB,d2,histC];refine Js g3 (by simp[histC,slOf]) rfl (by simp[histC,slOf]) ?_;simp(disch:=first|(simp;done)|omega) [objCells,j2,two_inj];refine JV (cs:=[.int .i64 (t:Int),.int .i64 (JO g M[i])]) (by simp[j2]) rfl rfl ?_;simp;refine Ye (lo:=z+1) (hi:=q.nx) (v:=w) (L:=B++rdK g lvl M i j) (p:=((t:Int),JO g M[i])) (by simp[q7]) (.inr ⟨u2,hw,by simp(disch:=first|(simp;done)|omega) [two_inj,b5,w2],w3,w4⟩) (by simp[qr]) (by simp[slCells,objCells,edC]) (by rw[au];omega) λkl hq=>?_;have K:∀D,Off (z+1) D->kl.any (Nat.beq D)=false:=λD hk=>by rcases hq with rfl|⟨u,h1,h2,rfl⟩;rfl;simp only[bu,bI,bq];exact W7 (hk u h1)
   have T:=K 1 λm X=>by omega
   have i3:=K (2*z+1) λm X=>by omega
   rw[aY,<- n];have b7:(B++rdK g lvl M i (j+1)).length=(B++rdK g lvl M i j).length+1:=by rw[n,<- aY,au (bs:=[_])];rfl
   generalize hB:B++rdK g lvl M i (j+1)=B' at *;generalize B++rdK g lvl M i j=A at *;simp(disch:=first|(simp;done)|omega) [a0,G,H];rw[c2];refine⟨zS,⟨.osl (2*(q.nx+3392)+1) (q.nx+3392) 0 B'.length 2,by simp[b7,aG],q.nx+3392,by rw[hB],?_,zO,zL⟩,?_,?_,zL⟩;rw[hB];simp(disch:=first|(simp;done)|omega) [jD,aG];simp(disch:=first|(simp;done)|omega) [jD,two_inj,e2,i3,qZ];simp(disch:=first|(simp;done)|omega) [jD,d2,T,qB];have e:j=(Jw g lvl M i).length:=zO;subst e;simp(disch:=first|(simp;done)|omega) [a0,b6,c8,d9,o];rw[e4];rw[<- d7]at hw w2;exact⟨zS,⟨w,by simpa using q7,u2,hw,by simpa using w2,zO,zL⟩,by simpa using qB,zL⟩
  ·have e:i=(readH g).length:=zO;subst e;obtain⟨u,hv,h2,h3,h4⟩:=sI;have i7:=jmt g lvl M h8 (readH g).length;have k1:(S++rdL g lvl M (readH g).length).length<=20000:=by rw[au];omega
   generalize S++rdL g lvl M (readH g).length=l at *;have i4:=jZ (cR g.ts.length) zO;simp(disch:=first|(simp;done)|omega) [c0,s9,s4,rdV,objCells,sB,histC,i4];refine jV (vs:=[.int .i64 ((g.ts.length+1:Nat):Int),v]) (by simp[s7]) rfl (sv95 (N:=g.ts.length+1) (l:=l) (lo:=64) (hi:=s.nx) (.inr ⟨u,hv,by simpa using h2,h3,h4⟩) zL zO (jmo X d6) (by first|omega|(simp[sr];done)|(simp[sr];omega))) ?_;rintro v1 l2 k7 l4 ⟨w,w1,w2,w3,w4,_⟩;simp only at w1 w2 w3 w4;subst w3;simp;refine jva (vs:=[.ptr (2*w+1) w 0]) zS rfl rfl (evo96 (L:=ofE l) (lo:=w+1) (kG:=2*w+1) (uG:=w) (N:=g.ts.length+1) (by simpa using w4) (Off.new zL) (bG (ofE_len l) zO) zO _ _) λr hr=>?_;refine Ji hr λt1 add=>?_;simp;have he:JC (ofE l) (g.ts.length+1) (g.ts.length+1)=jY (g.ts.length+1) λa b=>l.contains ((a:Int),(b:Int)):=by rw[jnr];congr;funext a b;rw[bB];simp[j4i]
   rw[he]at hr;refine slE (k:=(JC (ofE l) (g.ts.length+1) (g.ts.length+1)).length) (cs:=(JC (ofE l) (g.ts.length+1) (g.ts.length+1)).flatMap edC) (nl:=false) (t:=t1) (λr hr=>⟨l,d6,?_⟩) (by simp[sd]) zS;rw[hP];show SlR _ _ _ _;rw[<- he];exact hr
end
section
variable {g:Hist'}{M:List Int}{kX uX lo:Nat}{ob:ZO}{ub:Nat}{L:List P2}
def sesT (g:Hist') (i:Nat) (s:Int):List Int:=((comL g).take i).filter λa=>sesAt g a.toNat == s
theorem jj7 {i:Nat}(h:i<(comL g).length) (s:Int):sesT g (i+1) s=sesT g i s++if sesAt g (comL g)[i].toNat == s then [(comL g)[i]] else []:=by unfold sesT;rw[ay h,ch];congr 1;cases h:sesAt g (comL g)[i].toNat == s <;> simp only[cq,dw,h,if_true,aj,if_false]
theorem jya (g:Hist') (i:Nat) (s:Int):(sesT g i s).length<=i:=by unfold sesT;have:=bD (λa:Int=>sesAt g a.toNat == s) ((comL g).take i);rw[ap]at this;omega
theorem job (l:List Int) (p:Int->Bool):∀i,i<=l.length->((List.range i).filter λk=>p (l.getD k 0)).map (λk=>l.getD k 0)=(l.take i).filter p
 | 0,_=>rfl
 | i+1,h=>by
  have e:l.getD i 0=l[i]:=by simp[ag,aa (show i<l.length by omega)]
  rw[db,ch,bF,job l p i zO,ay zO,ch];congr 1;cases a:p l[i] <;> simp only[cq,dw,e,a,if_true,aj,if_false,bt,cm]
theorem j8a {i:Nat}(h:i<(comL g).length):jyb g i=((g.ts.length:Int),(comL g)[i])::(sesT g i (sesAt g (comL g)[i].toNat)).map λa=>(a,(comL g)[i]):=by
 have e:(comL g).getD i 0=(comL g)[i]:=by simp[ag,aa h]
 unfold jyb sesT;rw[e,<- job (comL g) (λa=>sesAt g a.toNat == sesAt g (comL g)[i].toNat) i zO,cU];rfl
def osV (p:Nat × Nat):V:=.osl (2*p.1+1) p.1 0 p.2 1
structure SesM (g:Hist') (ob:ZO) (lo hi kM uM i:Nat) (m:List (Int × (Nat × Nat))):Prop where
 o:ob kM=some ⟨uM,.mp i (MP osV m)⟩
 z:∀s,(Jd m s).map (·.2)=none->sesT g i s=[]
 s:∀s u n,(Jd m s).map (·.2)=some (u,n)->n=(sesT g i s).length/\ob (2*u+1)=some ⟨u,.cells ((sesT g i s).flatMap intC)⟩/\lo<=u/\u<hi
 j:∀s s' u n n',(Jd m s).map (·.2)=some (u,n)->(Jd m s').map (·.2)=some (u,n')->s=s'
theorem SesM.frame {ob':ZO}{hi hi' a b i:Nat}{m:List (Int × (Nat × Nat))}(h:SesM g ob lo hi a b i m) (e:ob' a=ob a) (k:∀s u n,(Jd m s).map (·.2)=some (u,n)->ob' (2*u+1)=ob (2*u+1)) (p:hi<=hi'):SesM g ob' lo hi' a b i m :=
 ⟨e.trans h.o,h.z,λs u n c=>by
  obtain⟨l,d,f,q⟩:=h.s s u n c;exact⟨l,(k s u n c).trans d,f,zO⟩,h.j⟩
theorem SesM.next {ob':ZO}{hi hi' t p i w:Nat}{m:List (Int × (Nat × Nat))}(h:SesM g ob lo hi t p i m) (f:i<(comL g).length) {a:Int}(x:a=sesAt g (comL g)[i].toNat) (F:ob' t=some ⟨p,.mp (i+1) (MP osV (jjo m a (w,(sesT g i a).length+1)))⟩)
 (q:∀s u n,s≠a->(Jd m s).map (·.2)=some (u,n)->ob' (2*u+1)=ob (2*u+1)) (y:ob' (2*w+1)=some ⟨w,.cells ((sesT g i a++[(comL g)[i]]).flatMap intC)⟩) (O:hi<=w) (D:lo<=w) (G:w<hi') (N:hi<=hi'):SesM g ob' lo hi' t p (i+1) (jjo m a (w,(sesT g i a).length+1)):=by
 have d:∀s,s≠a->sesT g (i+1) s=sesT g i s:=λs q=>by rw[jj7 f,show(sesAt g (comL g)[i].toNat == s)=false by rw[<- x];simpa using dV q,if_neg zQ,aS]
 have r:sesT g (i+1) a=sesT g i a++[(comL g)[i]]:=by rw[jj7 f,<- x,beq_self_eq_true,if_pos rfl]
 refine⟨F,λs l=>?_,λs u n c=>?_,λs o u n B c b=>?_⟩;rw[QG]at l;by_cases e:s=a;rw[if_pos e]at l;cases l;rw[if_neg e]at l;rw[d s e];exact h.z s l;rw[QG]at c;by_cases e:s=a;rw[if_pos e]at c;cases c;subst e;rw[r];exact⟨zS,y,D,G⟩;rw[if_neg e]at c;rw[d s e];obtain⟨H,J,I,K⟩:=h.s s u n c;exact⟨H,(q s u n e c).trans J,I,zO⟩;rw[QG]at c b;by_cases e:s=a;by_cases k:o=a;rw[e,k];rw[if_pos e]at c;rw[if_neg k]at b;cases c;have:=(h.s o _ _ b).2.2.2;omega;by_cases k:o=a;rw[if_neg e]at c;rw[if_pos k]at b;cases b;have:=(h.s s _ _ c).2.2.2;omega;rw[if_neg e]at c;rw[if_neg k]at b;exact h.j s o u n B c b
end
def LsV (ob:ZO) (lo hi:Nat) (v:V) (T:List Int):Prop:=(v=.sl none true 0 []/\T=[])\/IntL ob lo hi v T
theorem LsV.len {ob:ZO}{lo hi:Nat}{v:V}{L:List Int}(h:LsV ob lo hi v L):Qu v=some (.int .i64 (L.length:Nat)):=by rcases h with⟨rfl,rfl⟩|⟨u,rfl,_⟩ <;> rfl
theorem Wk {F:Env}{Yf:YF}{lo hi ub:Nat}{v:V}{T:List Int}{p:Int}{s x:A}{st:St}{K:St->Nat->Prop}{d:Option Nat}(b:eval F st.tm s=v) (l:LsV st.ob lo hi v T) (k:st.ro<=lo) (c:slCells st.ob 1 (eval F st.tm x)=some (intC p)) (o:T.length<=1000000)
 (h:∀a:List Nat,(a=[]\/∃u,v=.osl (2*u+1) u 0 T.length 1/\lo<=u/\u<hi/\a=[2*u+1])->WR K st d ub { v:=.osl (2*ub+1) ub 0 (T.length+1) 1,obs:=[(2*ub+1,⟨ub,.cells ((T++[p]).flatMap intC)⟩)],kill:=a }):j8 F Yf ⟨d,.append true 1 8 s x,none,true⟩ st ub K:=by
 rcases l with⟨rfl,rfl⟩|⟨u,rfl,e,n,f⟩;refine XJ b c (by simp[intC]) zQ rfl (by simp[intC]) (by simp[intC]) ?_;simpa[intC,jH] using h [] (.inl rfl);have j:=j3 j9 T;refine XU (cs:=T.flatMap intC) b c e (by simp[intC]) zO zO zQ rfl (by simp[intC];omega) (by simp[intC];omega) ?_;have:=h [2*u+1] (.inr ⟨u,rfl,n,f,rfl⟩);rw[aK zO];simpa[intC,jH] using this
def lkV (m:List (Int × (Nat × Nat))) (s:Int):V:=match Jd m s with
 | none=>.sl none true 0 []
 | some p=>osV p.2
section
variable {g:Hist'}{mv rv:V}{kX uX lo kM uM:Nat}{ob0 ob:ZO}{nx i:Nat}{Z:List P2}{m:List (Int × (Nat × Nat))}
theorem SesM.look {hi:Nat}(h:SesM g ob lo hi kM uM i m) (s:Int):jak ob .int (.sl none true 0 []) false (.map kM uM) (.int .i64 s)=some (lkV m s):=by rw[jhr (f:=osV) m (by simp[jn,h.o])];unfold lkV;cases Jd m s <;> rfl
theorem SesM.ls {hi:Nat}(h:SesM g ob lo hi kM uM i m) (s:Int):LsV ob lo hi (lkV m s) (sesT g i s):=by
 unfold lkV;cases a:Jd m s with
 | none=>exact .inl ⟨rfl,h.z s (by rw[a];rfl)⟩
 | some p=>obtain⟨j,u,n⟩:=p;obtain⟨d,b,e,c⟩:=h.s s u n (by rw[a];rfl);exact .inr ⟨u,by rw[<- d];rfl,b,e,c⟩
structure SesJ (g:Hist') (mv rv:V) (kX uX lo kM uM:Nat) (ob0 ob:ZO) (nx:Nat) (Z:List P2) (i:Nat) (m:List (Int × (Nat × Nat))):Prop where
 e:∃lv,ob kX=some ⟨uX,.cells (mkS g mv rv lv)⟩/\EdV ob lo nx lv Z/\j1i lv Z kM/\∀s u n,(Jd m s).map (·.2)=some (u,n)->j1i lv Z (2*u+1)
 q:SesM g ob (uM+1) nx kM uM i m
 w:∀key,Off lo key->key≠kX->ob key=ob0 key
 h:lo<=uM/\uM<nx/\kM=2*uM+1
 x:Off lo kX
theorem SesJ.up {nx':Nat}(h:SesJ g mv rv kX uX lo kM uM ob0 ob nx Z i m) (a:nx<=nx'):SesJ g mv rv kX uX lo kM uM ob0 ob nx' Z i m:=by obtain⟨⟨f,b,j,c,d⟩,q,w,⟨e,l,k⟩,x⟩:=h;exact⟨⟨f,b,j.frame (λ_ _ _=>rfl) a,c,d⟩,q.frame rfl (λ_ _ _ _=>rfl) a,w,⟨e,zO,k⟩,x⟩
theorem SesJ.put {Yf:YF}{tk:Nat->Bool}{ro base:Nat}(h:SesJ g mv rv kX uX lo kM uM ob0 ob nx Z i m) (p:ro<=lo) (t:ro<=uX) (S:Z.length<=100000) (a b:Int) :
 ∃r,EvS E Yf.y 137 [.ptr kX uX 0,.int .i64 a,.int .i64 b] ob tk ro base nx r/\nx<=r.2.2.2/\SesJ g mv rv kX uX lo kM uM ob0 r.2.1 r.2.2.2 (Z++[(JO g a,JO g b)]) i m:=by
 obtain⟨⟨lv,T,H,U,X⟩,q,w,⟨G,D,k⟩,x⟩:=h;obtain⟨r,M,J,⟨f,L,u,F,P,r6,N⟩,B⟩:=jsw (Yf:=Yf) (tk:=tk) (ro:=ro) (base:=base) T H x zO p t S a b;have c:∀y,y<nx->j1i f (Z++[(JO g a,JO g b)]) (2*y+1):=λy d w I=>by
  rw[F]at I;have:u=w:=by injection I
  omega
 have o:kM≠kX:=λe=>x uM G (by rw[<- k,e]);have z:∀y,uM+1<=y->2*y+1≠kX:=λy d e=>x y zO e.symm;refine⟨r,M,J,⟨f,L,.inr ⟨u,F,P,zO,N⟩,by rw[k];exact c uM D,λs y n d=>c y (q.s s y n d).2.2.2⟩,q.frame (B kM (by rw[k];exact Off.new D) o U) (λs y n d=>?_) J,λj l K=>(B j (l.up zO) K (H.off l)).trans (w j l K),⟨G,zO,k⟩,x⟩;obtain⟨_,_,O,Q⟩:=q.s s y n d;exact B _ (Off.new Q) (z y O) (X s y n d)
theorem SesJ.next {ob':ZO}{nx' w:Nat}{kl:List Nat}{c:Int}(h:SesJ g mv rv kX uX lo kM uM ob0 ob nx Z i m) (H:i<(comL g).length) (h0:c=sesAt g (comL g)[i].toNat)
 (hM:ob' kM=some ⟨uM,.mp (i+1) (MP osV (jjo m c (w,(sesT g i c).length+1)))⟩) (hw:ob' (2*w+1)=some ⟨w,.cells ((sesT g i c++[(comL g)[i]]).flatMap intC)⟩) (z:kl=[]\/∃u,lkV m c=.osl (2*u+1) u 0 (sesT g i c).length 1/\uM+1<=u/\u<nx/\kl=[2*u+1])
 (r:∀a,Off nx a->a≠kM->kl.any (Nat.beq a)=false->ob' a=ob a) (L:nx<=w) (U:w<nx'):SesJ g mv rv kX uX lo kM uM ob0 ob' nx' Z (i+1) (jjo m c (w,(sesT g i c).length+1)):=by
 obtain⟨⟨J,e1,o,O,Q⟩,q,k0,⟨I,l2,F⟩,x⟩:=h;have G:kX≠kM:=λe=>x uM I (by rw[<- F,e]);have d:∀a,(∀u n,(Jd m c).map (·.2)=some (u,n)->a≠2*u+1)->kl.any (Nat.beq a)=false:=λa B=>by
  rcases z with rfl|⟨u,b,_,_,rfl⟩;rfl;simp only[bu,bI,bq];refine JN (B u (sesT g i c).length ?_);unfold lkV at b;cases M:Jd m c with
  | none=>rw[M]at b;cases b
  | some p=>rw[M]at b;obtain⟨j,v,n⟩:=p;simp only[osV]at b;injection b with _ a2 _ a4 _;subst a2 a4;rfl
 have f:∀a,Off lo a->kl.any (Nat.beq a)=false:=λa B=>d a λu n b e=>B u (by have:=(q.s c u n b).2.2.1;omega) e;have K:EdV ob' lo nx' J Z:=by rcases o with o|⟨v,rfl,v2,X,N⟩;exact .inl o;refine .inr ⟨v,rfl,(r _ (Off.new N) (λe=>O v rfl e.symm) (d _ λu n b e=>Q c u n b v rfl e.symm)).trans v2,X,zO⟩
 have k:∀y,nx<=y->j1i J Z (2*y+1):=λy hy v P=>by
  rcases o with⟨rfl,_⟩|⟨T,rfl,_,_,N⟩;cases P;have:T=v:=by injection P
  omega
 refine⟨⟨J,(r _ (x.up zO) G (f _ x)).trans e1,K,O,λs u n b=>?_⟩,q.next H h0 hM (λs u n t b=>?_) hw L zO U zO,λa l k2=>(r a (l.up zO) (λe=>l uM I (by rw[<- F,e])) (f _ l)).trans (k0 a l k2),⟨I,zO,F⟩,x⟩;rw[QG]at b;by_cases e:s=c;rw[if_pos e]at b;cases b;exact k _ L;rw[if_neg e]at b;exact Q s u n b;obtain⟨_,_,q3,q4⟩:=q.s s u n b;refine r _ (Off.new q4) zO (d _ λu' S D e=>?_);have:u=u':=zO;subst this;exact t (q.j s c u n S b D)
end
def idxF (A:List Int) (x:Int):Option Nat:=(List.range A.length).find? λa=>decide (A.getD a 0=x)
theorem jh0 {f:Nat->Bool}{n i:Nat}(hi:i<n) (h:f i=true) (b:∀j,j<i->f j=false):(List.range n).find? f=some i:=by rw[List.find?_range_eq_some];exact⟨h,by simpa using hi,λj a=>by simp[b j a]⟩
theorem jwa {f:Nat->Bool}{n:Nat}(a:∀j,j<n->f j=false):(List.range n).find? f=none:=by rw[ej];intro j b;simp[a j (aH.1 b)]
section
variable {ob:ZO}{ub uA:Nat}{A:List Int}
theorem evo127 (B:ob (2*uA+1)=some ⟨uA,.cells (A.flatMap intC)⟩) (H:uA<ub) (G:A.length<=1000000) (x:Int) (tk:Nat->Bool) (base:Nat):EvO E 127 [.osl (2*uA+1) uA 0 A.length 1,.int .i64 x] ob tk base ub (.int .i64 (match idxF A x with|some a=>(a:Int)|none=>-1)):=by
 refine JL (af:=S127) rfl ?_;conv in (occs := *) S127=> all_goals cbv
 simp[S127];refine j6 [(4,5),(8,18)] A.length (λi s=>s.tm 8=.int .i64 i/\s.ob=ob/\∀j,j<i->decide (A.getD j 0=x)=false) rfl rfl ⟨zS,zS,λj h=>by omega⟩ ?_;rintro i s I ⟨o,w,p⟩ f;have z:s.tm 0=.osl (2*uA+1) uA 0 A.length 1:=by rw[f.t 0 zS];simp
 have y:s.tm 1=.int .i64 x:=by rw[f.t 1 zS];simp
 have q:s.tm 7=.int .i64 A.length:=by rw[f.t 7 zS];simp
 have r:s.df=[]:=by rw[f.d];simp
 clear f;by_cases b:i<A.length;have k:=jZ b zO;have g:=jgp (l:=2*uA+1) (u:=uA) (kk:=.i64) b;have m:=jr A b;have D:A.getD i 0=A[i]:=by simp[ag,aa b]
 cases c:(x == A[i]);simp(disch:=first|(simp;done)|omega) [o,q,y,z,b,g,objCells,w,B,m,c,k];intro j F;rcases aQ.1 F with h|rfl;simpa using p j h;simp only[beq_eq_false_iff_ne,ne_eq]at c;have:¬ A[j]=x:=λe=>c e.symm
 simpa[aa b] using this;simp(disch:=first|(simp;done)|omega) [o,q,y,z,b,g,objCells,w,B,m,c,k];have n:idxF A x=some i:=jh0 b (by rw[D];simp only[beq_iff_eq]at c;simp[c]) p;refine j4 (by simp[r]) ?_ rfl;rw[n];simp;have:i=A.length:=zO;subst this;have n:idxF A x=none:=jwa p;simp(disch:=first|(simp;done)|omega) [o,q];refine j4 (by simp[r]) ?_ rfl;rw[n];simp
end
theorem WP {n w:Nat}(d:n<=9) (a:w<2 ^ n):bitsUp w=(List.range n).filter λx=>w.testBit x:=by
 unfold bitsUp;obtain⟨m,b⟩:∃m,9=n+m:=⟨9 - n,zO⟩;rw[b,List.range_add,ch];have:((List.range m).map (n + ·)).filter (λx=>w.testBit x)=[]:=by rw[ib];intro x c;obtain⟨k,_,rfl⟩:=aJ.1 c;rw[ey (aR a (ci zQ zO))];decide
 rw[this,aS]
theorem jr2 (w:Nat):(bitsUp w).Nodup:=gp.filter _
def Wv (n:Nat) (L:List P2):Option (List Nat):=XY n (λ(a b:Nat)=>L.contains ((a:Int),(b:Int))) n []
def TopR (ob:ZO) (ub n:Nat) (L:List P2) (r:V × (ZO) × (Nat->Bool) × Nat):Prop :=
 ub<=r.2.2.2/\(∀key,Off ub key->r.2.1 key=ob key)/\match Wv n L with
  | none=>r.1=.tup [.sl none true 0 [],.int .i64 3]
  | some D=>∃v,r.1=.tup [v,.int .i64 0]/\IntL r.2.1 ub r.2.2.2 v (ints D)
theorem jzu {Yf:YF}{st:St}{ub:Nat}{K:St->Nat->Prop}{d:Option Nat}{nm:Bool}{sz a n:Nat}{zero:List V}{x y:A}(b:eval E st.tm x=.int .i64 0) (f:eval E st.tm y=.int .i64 (n:Int)) (e:n*a<=140737488355328) (i:n<=140737488355328) (g:zero.length=sz) (c:0<sz)
 (h:WR K st d ub { v:=.osl (jH d nm st.fb ub) ub 0 0 sz,obs:=[(jH d nm st.fb ub,⟨ub,.cells []⟩)] }):j8 E Yf ⟨d,.mkSl true sz a zero x y,none,nm⟩ st ub K:=by
 rw[jN _ rfl rfl];simp only[aop,b,f];rw[if_pos (by refine⟨zO,zO,?_,zO,g,c⟩;rw[<- fM];exact gh.2 e),if_neg zS,Jj,jM];simpa[Jx,repl] using h
section
variable {ob:ZO}{ub n:Nat}{L:List P2}{v:V}
theorem sv97 {Yf:YF}{tk:Nat->Bool}{ro base:Nat}(l2:ro<=ub) (O:0<n) (h9:n<=9) (hv:EdA ub ob v L) (hL:InG n L) (hl:L.length<=10000) :
 ∃r,EvS E Yf.y 97 [.int .i64 (n:Int),v] ob tk ro base ub r/\TopR ob ub n L r:=by
 obtain⟨p,hp⟩:∃p:Nat->Nat->Bool,p=λ(a b:Nat)=>L.contains ((a:Int),(b:Int)):=⟨_,rfl⟩
 have hr:=λa=>Xy hL a
 have hc:=λb=>jbz hL b
 have e6:(2:Nat) ^ n<=512:=ci zQ h9
 have b8:∀b,(bitsUp (colW L b)).length=cntP n p [] b:=λb=>by
  rw[WP h9 (hc b).1]
  unfold cntP
  congr 1
  refine gg λx _=>?_
  rw[(hc b).2,hp]
  simp
 have Z:∀a b,b∈bitsUp (rowW L a) ↔ b<n/\p a b=true:=λa b=>by
  rw[WP h9 (hr a).1,bV,aH,(hr a).2,hp]
 refine Ja (af:=S97) rfl zQ ?_
 show wpC E Yf S97.body _ (XD S97.res _)
 conv in (occs := *) S97=> all_goals cbv
 simp(disch:=first|(simp;done)|omega) [S97]
 refine jV (vs:=[.int .i64 n,v]) zS rfl (jxv (by simp;omega) O h9 (hv.up (λc _=>by simp) ?_) hL hl) ?_
 ·first|omega|(simp;done)|(simp;omega)
 rintro v1 b5 k8 N ⟨S,ut,uf,ue,tu,fu,T,rfl,hG,l7,l4,hT,q1,a0⟩
 simp only at hG q1 a0
 have l1:ub<=N:=by first|omega|(simp at q1;omega)
 have hG:=hG.wide (lo':=ub) zL
 have a0:∀c,Off ub c->b5 c=ob c:=λc H=>by
  rw[a0 c (H.up zL)]
  simp
 simp
 refine jd5 (n:=n) zS zS zO zO rfl zQ ?_
 rw[joo]
 simp
 refine jQ λG g=>?_
 obtain⟨w,u1,u2,g8,gA⟩:∃u,N<=u/\u<G.nx/\G.tm 8=.osl (2*u+1) u 0 n 1/\G.ob (2*u+1)=some ⟨u,.cells ((List.replicate n (0:Int)).flatMap intC)⟩:=by
  refine⟨N+512,zO,by rw[g];first|omega|(simp;done)|(simp;omega),by rw[g];simp[aG],?_⟩
  rw[g]
  simp[aG,intC,List.flatMap_replicate]
 have g0:G.tm 0=.int .i64 n:=by rw[g];simp
 have g6:G.tm 6=.ptr (2*S+1) S 0:=by rw[g];simp
 have g7:G.tm 7=.int .i64 0:=by rw[g];simp
 have g2:G.tm 25=.int .i64 n:=by rw[g];simp
 have f5:G.tm 26=.int .i64 0:=by rw[g];simp
 have gd:G.df=[]:=by rw[g];simp
 have gr:G.ro=ro:=by rw[g];simp
 have go:∀c,Off N c->G.ob c=b5 c:=λc H=>by
  have:=H.ne
  rw[g]
  simp(disch:=first|(simp;done)|omega) [this]
 clear g
 -- how many are ahead of each
 obtain⟨J,hJ⟩:∃J:Nat->St->Prop,J=λi s=>s.tm 26=.int .i64 i/\w<s.nx/\(∃A:List Int,s.ob (2*w+1)=some ⟨w,.cells (A.flatMap intC)⟩/\A.length=n/\∀b,b<i->A.getD b 0=cntP n p [] b)/\∀c,Off N c->s.ob c=b5 c:=⟨_,rfl⟩
 refine j6 [(9,9),(26,36)] n J rfl rfl ?_ ?_
 ·rw[hJ]
  exact⟨by simpa using f5,u2,⟨_,gA,zS,λb h=>by omega⟩,go⟩
 clear f5 gA go u2
 intro i s hi e2 f
 rw[hJ]at e2
 obtain⟨b0,sn,⟨A,sA,M,c3⟩,so⟩:=e2
 have s0:=(f.t 0 zS).trans g0
 have s6:=(f.t 6 zS).trans g6
 have s7:=(f.t 7 zS).trans g7
 have s8:=(f.t 8 zS).trans g8
 have d3:=(f.t 25 zS).trans g2
 have sd:=f.d.trans gd
 have sr:=f.r.trans gr
 clear f
 by_cases U:i<n
 ·have c4:=jZ U zO
  have c1:=jgp (l:=2*w+1) (u:=w) (kk:=.i64) U
  have I:=Qd j9 ((cntP n p [] i:Nat):Int) A i zO
  rw[bz,show intC ((cntP n p [] i:Nat):Int)=[.int .i64 ((cntP n p [] i:Nat):Int)] from rfl]at I
  have c8:=j3 j9 A
  generalize h8:A.flatMap intC=cs at sA I c8
  have k5:=b8 i
  have nA:∀m,s.nx<=m->¬ w=m:=λm hm=>by omega
  simp(disch:=first|(simp;done)|omega) [b0,d3,s8,s6,U]
  refine jfo (vs:=[.ptr (2*S+1) S 0,.int .i64 i]) zS rfl rfl (j2p (hG.keep (hi':=s.nx+448) (λx _ h=>?_) ?_) ?_ zO zO (aR (hc i).1 e6) _ _) λtt nl add=>?_
  ·simp
   exact so _ (Off.new h)
  ·first|omega|(simp;done)|(simp;omega)
  ·first|omega|(simp;done)|(simp;omega)
  rw[jW,k5]
  simp(disch:=first|(simp;done)|omega) [c1,objCells,sA,I,V.cells,V.leaf]
  refine⟨zO,zO,?_⟩
  simp(disch:=first|(simp;done)|omega) [b0,c4,U]
  rw[hJ]
  refine⟨zS,zL,⟨A.set i ((cntP n p [] i:Nat):Int),zS,by simp[M],λb hb=>?_⟩,λc H=>?_⟩
  ·rw[jd7 A zO]
   by_cases e:b=i
   ·subst e;simp
   ·rw[if_neg e]
    exact c3 b zO
  ·have:¬ c=2*w+1:=H w u1
   simp[this]
   exact so c H
 have e:i=n:=zO
 subst e
 have e3:AhOk i p [] A:=⟨M,λb _ h=>(by cases h),λb hb _=>c3 b hb,λb x h=>(by cases h)⟩
 clear c3 M b8 U hi
 simp(disch:=first|(simp;done)|omega) [b0,d3,s0]
 refine jzu (n:=i) zS zS zO zO rfl zQ ?_
 simp(disch:=first|(simp;done)|omega) [s0]
 refine jQ λG g=>?_
 have g0:G.tm 0=.int .i64 i:=by rw[g];simp[s0]
 have g6:G.tm 6=.ptr (2*S+1) S 0:=by rw[g];simp[s6]
 have g7:G.tm 7=.int .i64 0:=by rw[g];simp[s7]
 have g8:G.tm 8=.osl (2*w+1) w 0 i 1:=by rw[g];simp[s8]
 have g5:G.tm 39=.int .i64 i:=by rw[g];simp
 have e9:G.tm 40=.int .i64 0:=by rw[g];simp
 have gd:G.df=[]:=by rw[g];simp[sd]
 have gr:G.ro=ro:=by rw[g];simp[sr]
 have gn:s.nx<=G.nx:=by rw[g];first|omega|(simp;done)|(simp;omega)
 have gI:IntL G.ob s.nx G.nx (G.tm 10) (ints []):=by
  refine⟨s.nx+128,by rw[g];simp[aG,ints],by rw[g];simp[aG,ints],zO,?_⟩
  rw[g]
  first|omega|(simp;done)|(simp;omega)
 have go:∀c,Off s.nx c->G.ob c=s.ob c:=λc H=>by
  have:=H.ne
  rw[g]
  simp(disch:=first|(simp;done)|omega) [this]
 clear g
 have i7:∀c,Off N c->s.ob c=b5 c:=so
 have e1:Gr ub s.nx S (some ut) (some uf) ue tu fu (rowW L) (colW L) T s.ob:=hG.keep (λx _ h=>so _ (Off.new h)) zO
 have d8:∀c,Off ub c->c≠2*w+1->Off s.nx c:=λc H _=>H.up zO
 obtain⟨n0,e4⟩:∃n0,n0=s.nx:=⟨_,rfl⟩
 obtain⟨b6,b9⟩:∃o,o=s.ob:=⟨_,rfl⟩
 rw[<- e4]at gn gI go sn e1
 rw[<- b9]at go e1 sA so
 clear e4 b9 i7 d8 s0 s6 s7 s8 d3 b0 sd sr hJ
 have gA:G.ob (2*w+1)=some ⟨w,.cells (A.flatMap intC)⟩:=(go _ (Off.new sn)).trans sA
 have X:∀c,Off ub c->b6 c=ob c:=λc H=>(so c (H.up zO)).trans (by
  rw[a0 c (H.up zO)]
  simp)
 have c0:∀D',Wv i L=D' ↔ XY i p i []=D':=λD'=>by unfold Wv;rw[hp]
 obtain⟨J2,c6⟩:∃J2:Nat->St->Prop,J2=λk s=>s.tm 40=.int .i64 k/\(∃ (D:List Nat) (A:List Int),D.length=k/\AhOk i p D A/\s.ob (2*w+1)=some ⟨w,.cells (A.flatMap intC)⟩/\IntL s.ob n0 s.nx (s.tm 10) (ints D)/\XY i p (i - k) D=XY i p i [])/\n0<=s.nx/\∀c,Off n0 c->c≠2*w+1->s.ob c=b6 c:=⟨_,rfl⟩
 refine j6 [(4,5),(10,13),(40,68)] i J2 rfl rfl (by rw[c6];exact⟨by simpa using e9,⟨[],A,rfl,e3,gA,gI,rfl⟩,gn,λc h _=>go c h⟩) ?_
 clear e9 gI gn go gA e3
 intro k q H f2 f
 rw[c6]at f2
 obtain⟨c9,⟨D,A,h6,hA,qA,qI,hT⟩,qn,qo⟩:=f2
 have q0:=(f.t 0 zS).trans g0
 have q6:=(f.t 6 zS).trans g6
 have q7:=(f.t 7 zS).trans g7
 have q8:=(f.t 8 zS).trans g8
 have d0:=(f.t 39 zS).trans g5
 have qd:=f.d.trans gd
 have qr:=f.r.trans gr
 clear f
 have l9:Gr ub q.nx S (some ut) (some uf) ue tu fu (rowW L) (colW L) T q.ob:=by
  have k7:∀x,x<N->x≠w:=λx hx e=>by omega
  exact(hG.keep (ob':=q.ob) (hi':=q.nx) (λx _ h=>(qo _ (Off.new zO) zO).trans (so _ (Off.new h))) zO)
 by_cases c7:k<i
 ·have c4:=jZ c7 zO
  have M:=hA.l
  have g4:=hA.find
  have c1:idxF A 0=(List.range i).find? (XX i p D):=by rw[g4];unfold idxF;rw[M]
  have K:XY i p (i - k) D=match (List.range i).find? (XX i p D) with
   | none=>none
   | some a=>XY i p (i - (k+1)) (D++[a]):=by rw[show i - k=(i - (k+1))+1 by omega];rfl
  simp(disch:=first|(simp;done)|omega) [c9,d0,q8,c7]
  refine jb (vs:=[.osl (2*w+1) w 0 A.length 1,.int .i64 0]) (by simp[M]) rfl rfl (evo127 (by simpa using qA) zL zO 0 _ _) ?_
  rw[c1]
  cases hf:(List.range i).find? (XX i p D) with
  | none=>
   rw[hf]at K
   simp
   refine jdh (by simp[qd]) ⟨zL,λc H=>?_,?_⟩
   ·have O:¬ c=2*w+1:=H w zO
    simp
    rw[qo c (H.up zO) O,X c H]
   ·rw[show Wv i L=none from(c0 none).2 (by rw[<- hT,K])]
    simp
  | some a=>
   rw[hf]at K
   have f6:=fJ hf
   have ha:a<i:=aH.1 (dD hf)
   have d9:¬ (a:Int)<0:=zO
   have h7:=jgp (l:=2*w+1) (u:=w) (kk:=.i64) ha
   have I:=Qd j9 (-1:Int) A a zO
   rw[bz,show intC (-1)=[.int .i64 (-1)] from rfl]at I
   have c8:=j3 j9 A
   generalize h8:A.flatMap intC=cs at qA I c8
   have nA:∀m,q.nx<=m->¬ w=m:=λm hm=>by omega
   simp(disch:=first|(simp;done)|omega) [d9,q8,h7,objCells,qA,I]
   refine⟨zO,zO,?_⟩
   refine ja (cs:=[.int .i64 (a:Int)]) (by simp[j2]) rfl rfl ?_
   simp
   obtain⟨uo,o1,o2,o3,o4⟩:=qI
   have nO:∀m,q.nx<=m->¬ uo=m:=λm hm=>by omega
   have k1:¬ uo=w:=zO
   refine Wk (lo:=n0) (hi:=q.nx) (v:=q.tm 10) (T:=ints D) (p:=(a:Int)) zS (.inr ⟨uo,o1,?_,o3,o4⟩) ?_ (by simp[slCells,objCells,intC]) (by rw[jW];omega) λkl i9=>?_
   ·simp(disch:=first|(simp;done)|omega) [two_inj,nO,k1,o2]
   ·simp[qr];omega
   have e7:kl=[2*uo+1]\/kl=[]:=by
    rcases i9 with h|⟨u,hu,_,_,rfl⟩
    ·exact .inr h
    ·rw[o1]at hu
     have:uo=u:=by injection hu
     exact .inl (by rw[this])
   have c2:∀c,c≠2*uo+1->kl.any (Nat.beq c)=false:=λc H=>by
    rcases e7 with rfl|rfl
    ·simp only[bu,bI,bq]
     exact JN H
    ·rfl
   have i8:=c2 (2*w+1) zO
   have k3:ints D++[(a:Int)]=ints (D++[a]):=by simp[ints]
   have l5:=jee (rowW L a)
   have g9:∀x,x<N->kl.any (Nat.beq (2*x+1))=false:=λx hx=>c2 _ zO
   rw[k3]
   simp(disch:=first|(simp;done)|omega) [q6]
   refine jfo (vs:=[.ptr (2*S+1) S 0,.int .i64 a]) zS rfl rfl (jwf (hG.keep (λx _ h=>?_) ?_) zK zO (aR (hr a).1 e6) _ _) λtt nl add=>?_
   ·have O:∀m,q.nx<=m->¬ x=m:=λm hm=>by omega
    have h2:¬ x=w:=zO
    have h3:=g9 x h
    simp(disch:=first|(simp;done)|omega) [jD,two_inj,O,h2,h3]
    exact(qo _ (Off.new zO) zO).trans (so _ (Off.new h))
   ·first|omega|(simp;done)|(simp;omega)
   have f7:(ints (D++[a])).length=(ints D).length+1:=by simp[ints]
   generalize i2:ints (D++[a])=DD at *
   simp
   refine jQ λp F=>?_
   have p0:p.tm 0=.int .i64 i:=by rw[F];simp[q0]
   have p6:p.tm 6=.ptr (2*S+1) S 0:=by rw[F];simp[q6]
   have p7:p.tm 7=.int .i64 0:=by rw[F];simp[q7]
   have p8:p.tm 8=.osl (2*w+1) w 0 i 1:=by rw[F];simp[q8]
   have l0:p.tm 39=.int .i64 i:=by rw[F];simp[d0]
   have f9:p.tm 40=.int .i64 k:=by rw[F];simp[c9]
   have i4:p.tm 55=.sl tt nl (bitsUp (rowW L a)).length ((ints (bitsUp (rowW L a))).flatMap intC):=by rw[F];simp[jW]
   have i5:p.tm 56=.int .i64 (bitsUp (rowW L a)).length:=by rw[F];simp[jW]
   have d7:p.tm 57=.int .i64 0:=by rw[F];simp
   have pd:p.df=[]:=by rw[F];simp[qd]
   have pr:p.ro=ro:=by rw[F];simp[qr]
   have pn:q.nx<=p.nx:=by rw[F];first|omega|(simp;done)|(simp;omega)
   have j0:∀m,q.nx<=m->¬ m=w:=λm hm=>by omega
   have pI:IntL p.ob n0 p.nx (p.tm 10) DD:=by
    refine⟨q.nx+832,by rw[F];simp[aG,f7],?_,zO,by rw[F];first|omega|(simp;done)|(simp;omega)⟩
    rw[F]
    simp(disch:=first|(simp;done)|omega) [jD,two_inj,aG,j0]
   have pA:p.ob (2*w+1)=some ⟨w,.cells ((A.set a (-1)).flatMap intC)⟩:=by
    rw[F]
    simp(disch:=first|(simp;done)|omega) [jD,two_inj,nA,i8]
   have po:∀c,Off n0 c->c≠2*w+1->p.ob c=b6 c:=λc O h2=>by
    have h3:=(O.up qn).ne
    have h4:=c2 c (O uo o3)
    rw[F]
    simp(disch:=first|(simp;done)|omega) [jD,h3,h4,h2]
    exact qo c O h2
   clear F
   have f4:∀b∈bitsUp (rowW L a),b<i:=λb hb=>((Z a b).1 hb).1
   have f3:=jr2 (rowW L a)
   have k4:=hA.next ha f6 (bs:=bitsUp (rowW L a)) (Z a) f3
   have k2:=hA.rng
   generalize bitsUp (rowW L a)=bs at *
   have g3:∀j b,-2<=(decL (A.set a (-1)) (bs.take j)).getD b 0/\(decL (A.set a (-1)) (bs.take j)).getD b 0<=100:=λj b=>by
    rw[jwl _ _ (f3.sublist (List.take_sublist _ _)) (λx hx=>by rw[dE,M];exact f4 x (dT hx)),jd7 A zO]
    have:=k2 b
    split <;> split <;> omega
   have i1:∀j,(decL (A.set a (-1)) (bs.take j)).length=i:=λj=>by rw[jpv,dE,M]
   obtain⟨J3,d1⟩:∃J3:Nat->St->Prop,J3=λj s=>s.tm 57=.int .i64 j/\s.ob (2*w+1)=some ⟨w,.cells ((decL (A.set a (-1)) (bs.take j)).flatMap intC)⟩/\IntL s.ob n0 s.nx (s.tm 10) DD/\q.nx<=s.nx/\∀c,Off n0 c->c≠2*w+1->s.ob c=b6 c:=⟨_,rfl⟩
   refine j6 [(13,13),(57,67)] bs.length J3 rfl rfl (by rw[d1];exact⟨by simpa using d7,by simpa[decL] using pA,pI,pn,po⟩) ?_
   clear d7 pA pI pn po
   intro j y hj f0 f
   rw[d1]at f0
   obtain⟨d2,yA,yI,yn,yo⟩:=f0
   have y8:=(f.t 8 zS).trans p8
   have k9:y.tm 10=p.tm 10:=f.t 10 zS
   have i0:=(f.t 40 zS).trans f9
   have g1:=(f.t 55 zS).trans i4
   have e5:=(f.t 56 zS).trans i5
   have yd:=f.d.trans pd
   have yr:=f.r.trans pr
   clear f
   by_cases Q:j<bs.length
   ·have e8:=jZ Q zO
    have d5:j<(ints bs).length:=by rw[jW];exact Q
    have f1:=jv j9 tt nl (ints bs) .i64 d5
    rw[jW]at f1
    have d6:=jr (ints bs) d5
    rw[ji7]at d6
    have f8:=f4 _ (av Q)
    have k0:bs.take (j+1)=bs.take j++[bs[j]]:=ay Q
    have c5:=jwk (A.set a (-1)) (bs.take j) bs[j]
    rw[<- k0]at c5
    have l8:=g3 j bs[j]
    have l3:=i1 j
    generalize decL (A.set a (-1)) (bs.take j)=B at *
    generalize bs[j]=b at *
    have i6:=jgp (l:=2*w+1) (u:=w) (kk:=.i64) f8
    have b7:=jr B (i:=b) zO
    have i3:B.getD b 0=B[b]' zO:=by simp[ag,aa (show b<B.length by omega)]
    rw[<- i3]at b7
    have h0:IntKind.i64.wrap (B.getD b 0 - 1)=B.getD b 0 - 1:=jX zO zO
    have P:=Qd j9 (B.getD b 0 - 1) B b zO
    rw[bz,show intC (B.getD b 0 - 1)=[.int .i64 (B.getD b 0 - 1)] from rfl,<- c5]at P
    have e0:=j3 j9 B
    generalize k6:B.flatMap intC=cs2 at yA P e0 b7
    generalize B.getD b 0=bv at *
    have d4:b<cs2.length:=zO
    have h5:cs2[b]=.int .i64 bv:=by rw[aa d4]at b7;exact bU b7
    have l6:∀m,y.nx<=m->¬ w=m:=λm hm=>by omega
    simp(disch:=first|(simp;done)|omega) [d2,e5,g1,y8,Q,f1,d6,i6,objCells,yA,d4,h5,h0,P]
    refine⟨zO,zO,?_⟩
    simp(disch:=first|(simp;done)|omega) [d2,e8,Q]
    rw[d1]
    obtain⟨z,z1,z2,z3,z4⟩:=yI
    refine⟨zS,by simp[c5],⟨z,by simpa using z1,?_,z3,zL⟩,zL,λc O h2=>?_⟩
    ·have:¬ z=w:=zO
     simp(disch:=first|(simp;done)|omega) [two_inj,this,z2]
    ·simp[h2]
     exact yo c O h2
   ·have:j=bs.length:=zO
    subst this
    rw[bh]at yA
    simp(disch:=first|(simp;done)|omega) [d2,e5,i0,c4,c7]
    rw[c6]
    refine⟨zS,⟨D++[a],decL (A.set a (-1)) bs,by simp[h6],k4,by simpa using yA,?_,by rw[<- hT,K]⟩,zL,λc O h2=>by simpa using yo c O h2⟩
    rw[i2]
    obtain⟨z,z1,z2,z3,z4⟩:=yI
    refine⟨z,by simpa using z1,by simpa using z2,z3,zL⟩
 ·have:k=i:=zO
  subst this
  rw[eQ]at hT
  simp(disch:=first|(simp;done)|omega) [c9,d0,q7]
  refine jdh (by simp[qd]) ⟨zL,λc H=>?_,?_⟩
  ·have O:¬ c=2*w+1:=H w zO
   simp
   rw[qo c (H.up zO) O,X c H]
  ·rw[show Wv k L=some D from(c0 (some D)).2 (by rw[<- hT];rfl)]
   obtain⟨u,O,h2,h3,h4⟩:=qI
   exact⟨q.tm 10,zS,u,O,by simpa using h2,zO,zL⟩
end
section
variable {g:Hist'}{mv rv:V}{kX uX lo:Nat}{ob:ZO}{ub:Nat}
theorem sv87 {Yf:YF}(hs:Small g) (hw:Jb g=true) (h8:g.ts.length<=8) {tk:Nat->Bool}{ro base:Nat}(hX:MkR g mv rv kX uX lo ob ub []) (Z:Off lo kX) (Q:lo<=ub) (g1:ro<=lo) (g4:ro<=uX) :
 ∃r,EvS E Yf.y 87 [.ptr kX uX 0] ob tk ro base ub r/\ub<=r.2.2.2/\MkR g mv rv kX uX lo r.2.1 r.2.2.2 (sesL g (comL g).length)/\∀b,Off lo b->b≠kX->r.2.1 b=ob b:=by
 have g9:=jby g;obtain⟨vc,e4,c2⟩:=ev71 hs;rw[jwo hw]at c2;obtain⟨e3,c5,b9⟩:=hX;have oX:=(Z.up Q).ne;refine Ja (af:=S87) rfl zQ ?_;show wpC E Yf S87.body _ (XD S87.res _);conv in (occs := *) S87=> all_goals cbv
 simp(disch:=first|(simp;done)|omega) [S87,objCells,c5,mkS,histC,oX];refine jJ e4 (by simp[histC]) rfl (by simp[histC]) ?_;refine Ji c2 λM add=>?_;simp;refine jQ λH x=>?_;obtain⟨B,u1,u2,g2,gM⟩:∃u,ub<=u/\u<H.nx/\H.tm 2=.map (2*u+1) u/\H.ob (2*u+1)=some ⟨u,.mp 0 []⟩:=by refine⟨ub,zK,?_,by rw[x];simp,by rw[x];simp⟩;rw[x];simp;omega
 have g0:H.tm 0=.ptr kX uX 0:=by rw[x];simp
 have f2:H.tm 13=.sl M (comL g).isEmpty (comL g).length ((comL g).flatMap intC):=by rw[x];simp
 have d5:H.tm 14=.int .i64 (comL g).length:=by rw[x];simp
 have b5:H.tm 15=.int .i64 0:=by rw[x];simp
 have gd:H.df=[]:=by rw[x];simp
 have gr:H.ro=ro:=by rw[x];simp
 have go:∀b,Off ub b->H.ob b=ob b:=λb Z=>by have:=Z.ne;rw[x];simp(disch:=first|(simp;done)|omega) [this]
 clear x;have gJ:SesJ g mv rv kX uX lo (2*B+1) B ob H.ob H.nx [] 0 []:=by
  refine⟨⟨e3,(go _ (Z.up Q)).trans c5,b9.frame (λu _ h=>go _ (Off.new h)) zO,?_,λs u n h=>by simp[Jd]at h⟩,⟨gM,λs _=>by simp[sesT],λs u n h=>by simp[Jd]at h,λs s' u n n' h=>by simp[Jd]at h⟩,λb k1 _=>go b (k1.up Q),⟨zO,u2,rfl⟩,Z⟩;rcases b9 with⟨rfl,_⟩|⟨w,rfl,_,_,w4⟩;exact λu hu=>by cases hu
  exact λu hu=>by
   have:w=u:=by injection hu
   omega
 obtain⟨J,hJ⟩:∃J:Nat->St->Prop,J=λi s=>s.tm 15=.int .i64 i/\∃m,SesJ g mv rv kX uX lo (2*B+1) B ob s.ob s.nx (sesL g i) i m:=⟨_,rfl⟩;refine j6 [(4,7),(15,52)] (comL g).length J rfl rfl (by rw[hJ];exact⟨by simpa using b5,[],gJ⟩) ?_;clear gJ b5 go gM;intro i s hi c0 f;rw[hJ]at c0;obtain⟨S,m,sJ⟩:=c0;have s0:=(f.t 0 zS).trans g0;have s2:=(f.t 2 zS).trans g2;have c1:=(f.t 13 zS).trans f2;have O:=(f.t 14 zS).trans d5;have sd:=f.d.trans gd;have sr:=f.r.trans gr;clear f;by_cases z:i<(comL g).length
 ·have d3:=jZ z zO;have c9:=jv j9 M (comL g).isEmpty (comL g) .i64 z;have b7:=jr (comL g) z;have e0:(comL g).getD i 0=(comL g)[i]:=by simp[ag,aa z]
  obtain⟨c,hc,_,b0⟩:=jlq z;rw[e0]at hc;have f0:=QU g 8 i zO;have f5:(sesL g i).length<=72:=bG f0 (by have:i*(8+1)<=8*9:=bc 9 zO;omega);have hE:=j8a z;have d8:sesL g (i+1)=sesL g i++jyb g i:=by unfold sesL;rw[db,bT];simp
  have b8:sesAt g (comL g)[i].toNat=sesAt g c:=by rw[hc,aZ]
  have x1:=j7 jA g.tn g.ts .i64 b0;have x2:(g.ts.flatMap js)[c*3]? = some (.int .i64 (sesAt g c)):=j3x b0;have f7:=jya g i (sesAt g c);rw[b8]at hE;rw[hc]at b7;have d1:JO g (-1)=g.ts.length:=rfl;have c8:JO g (c:Int)=c:=by unfold JO;rw[if_neg zO]
  simp(disch:=first|(simp;done)|omega) [S,O,c1,s0,z,c9,b7];refine jV (vs:=[.ptr kX uX 0,.int .i64 (-1),.int .i64 (c:Int)]) zS rfl ((sJ.up zL).put (by first|omega|(simp[sr];done)|(simp[sr];omega)) (by first|omega|(simp[sr];done)|(simp[sr];omega)) zO _ _) ?_;rintro v1 d9 f6 g6 ⟨r1,X⟩;simp only at r1 X;rw[d1,c8]at X;obtain⟨g3,a0,_⟩:=id X.e;simp(disch:=first|(simp;done)|omega) [s0,objCells,a0,mkS,histC,x1,x2,s2];have I:=X.q.look (sesAt g c);have F:=X.q.ls (sesAt g c);simp(disch:=first|(simp;done)|omega) [I,F.len];refine jQ λp G=>?_;have p0:p.tm 0=.ptr kX uX 0:=by rw[G];simp[s0]
  have p2:p.tm 2=.map (2*B+1) B:=by rw[G];simp[s2]
  have p4:p.tm 4=.int .i64 c:=by rw[G];simp
  have p5:p.tm 5=.int .i64 (sesAt g c):=by rw[G];simp
  have f9:p.tm 13=.sl M (comL g).isEmpty (comL g).length ((comL g).flatMap intC):=by rw[G];simp[c1]
  have d7:p.tm 14=.int .i64 (comL g).length:=by rw[G];simp[O]
  have d0:p.tm 15=.int .i64 i:=by rw[G];simp[S]
  have f3:p.tm 33=lkV m (sesAt g c):=by rw[G];simp
  have d4:p.tm 34=.int .i64 (sesT g i (sesAt g c)).length:=by rw[G];simp
  have b6:p.tm 35=.int .i64 0:=by rw[G];simp
  have pd:p.df=[]:=by rw[G];simp[sd]
  have pr:p.ro=ro:=by rw[G];simp[sr]
  have pJ:SesJ g mv rv kX uX lo (2*B+1) B ob p.ob p.nx (sesL g i++((g.ts.length:Int),(c:Int))::((sesT g i (sesAt g c)).take 0).map λa=>(a,(c:Int))) i m:=by
   have:=X.up (nx':=p.nx) (by rw[G];first|omega|(simp;done)|(simp;omega));have e:p.ob=d9:=by rw[G];simp
   rw[e];simpa using this
  clear G I F X a0;have e7:∀a∈sesT g i (sesAt g c),JO g a=a:=λa ha=>by unfold sesT at ha;obtain⟨k,Z,_⟩:=comL_mem.1 (dT (bV.1 ha).1);unfold JO;rw[if_neg zO]
  rw[hc]at hE;generalize K:sesT g i (sesAt g c)=T at *;obtain⟨J2,N⟩:∃J2:Nat->St->Prop,J2=λj q=>q.tm 35=.int .i64 j/\SesJ g mv rv kX uX lo (2*B+1) B ob q.ob q.nx (sesL g i++((g.ts.length:Int),(c:Int))::(T.take j).map λa=>(a,(c:Int))) i m:=⟨_,rfl⟩;refine j6 [(7,7),(35,43)] T.length J2 rfl rfl (by rw[N];exact⟨by simpa using b6,pJ⟩) ?_;clear b6 pJ;intro j q hj c7 f;rw[N]at c7;obtain⟨L,P⟩:=c7;have q0:=(f.t 0 zS).trans p0;have q2:=(f.t 2 zS).trans p2;have q4:=(f.t 4 zS).trans p4;have q5:=(f.t 5 zS).trans p5;have e5:=(f.t 15 zS).trans d0;have f8:=(f.t 14 zS).trans d7;have f4:=(f.t 33 zS).trans f3;have c3:=(f.t 34 zS).trans d4;have qd:=f.d.trans pd;have qr:=f.r.trans pr;clear f;have F:=P.q.ls (sesAt g c);rw[K]at F;by_cases D:j<T.length
  ·have c4:=jZ D zO;rcases F with⟨_,rfl⟩|⟨u,hv,ho,_,_⟩;simp at D;have d6:=jgp (l:=2*u+1) (u:=u) (kk:=.i64) D;have c6:=jr T D;have e8:=e7 _ (av D);have f1:(T.take (j+1)).map (λa=>(a,(c:Int)))=(T.take j).map (λa=>(a,(c:Int)))++[(T[j],(c:Int))]:=by rw[ay D,bF];rfl
   simp(disch:=first|(simp;done)|omega) [L,c3,f4,q0,q4,D,hv,d6,objCells,ho,c6];refine jV (vs:=[.ptr kX uX 0,.int .i64 T[j],.int .i64 (c:Int)]) zS rfl ((P.up zL).put (by first|omega|(simp[qr];done)|(simp[qr];omega)) (by first|omega|(simp[qr];done)|(simp[qr];omega)) (by simp;omega) _ _) ?_;rintro v2 d2 g7 e6 ⟨z1,z2⟩;simp only at z1 z2;rw[e8,c8,aY,dB,<- f1]at z2;simp(disch:=first|(simp;done)|omega) [L,c4,D];rw[N];exact⟨zS,(by simpa using z2:SesJ g mv rv kX uX lo (2*B+1) B ob d2 e6 _ i m).up zL⟩
  have:j=T.length:=zO;subst this;rw[aK zK,<- hE,<- d8]at P;have I:=P.q.look (sesAt g c);simp(disch:=first|(simp;done)|omega) [L,c3,q2,q4,q5,I];refine ja (cs:=[.int .i64 (c:Int)]) (by simp[j2]) rfl rfl ?_;simp;have g5:=F;refine Wk (lo:=B+1) (hi:=q.nx) (v:=lkV m (sesAt g c)) (T:=T) (p:=(c:Int)) zS ?_ (by simp[qr];omega) (by simp[slCells,objCells,intC]) zO λkl U=>?_;rcases F with h|⟨u,hv,ho,h3,h4⟩
  exact .inl h;refine .inr ⟨u,hv,?_,h3,h4⟩;have:∀m,q.nx<=m->¬ u=m:=λm hm=>by omega
  simp(disch:=first|(simp;done)|omega) [two_inj,this,ho];have hq:=P.q.o;obtain⟨l1,l2,l3⟩:=P.h;have nM:∀m,q.nx<=m->¬ B=m:=λm hm=>by omega
  have e9:kl.any (Nat.beq (2*B+1))=false:=by rcases U with rfl|⟨u,_,h1,_,rfl⟩;rfl;simp only[bu,bI,bq];exact JN zO
  have g8:∀m,q.nx<=m->kl.any (Nat.beq (2*m+1))=false:=λm hm=>by rcases U with rfl|⟨u,_,_,h2,rfl⟩;rfl;simp only[bu,bI,bq];exact JN zO
  simp(disch:=first|(simp;done)|omega);refine jbp (f:=osV) (a:=(q.nx+512,T.length+1)) (ver:=i) (l:=2*B+1) (u:=B) (k:=sesAt g c) m zS zS (by simp[osV,aG,V.strip]) (by simp(disch:=first|(simp;done)|omega) [jD,two_inj,nM,e9,hq]) (by simp[qr];omega) ?_;simp(disch:=first|(simp;done)|omega) [e5,d3,z];rw[hJ];rw[<- K];refine⟨zS,jjo m (sesAt g c) (q.nx+512,(sesT g i (sesAt g c)).length+1),P.next (kl:=kl) z b8.symm ?_ ?_ (by rw[K];exact U) (λb k1 k2 k3=>?_) zO zL⟩;simp;rw[K,hc];simp(disch:=first|(simp;done)|omega) [jD,two_inj,aG,dV (nM _ _)];have:=k1.ne;simp(disch:=first|(simp;done)|omega) [jD,this,k2,k3]
 have:i=(comL g).length:=zO;subst this;simp(disch:=first|(simp;done)|omega) [S,O];obtain⟨⟨lv,e1,e2,_⟩,_,w,h,_⟩:=sJ;exact jec (.inl rfl) (by simp[sd]) ⟨zL,⟨lv,by simpa using e1,e2.frame (λ_ _ _=>by simp) zL⟩,λb h1 h2=>by simpa using w b h1 h2⟩
end
def revE (n:Nat) (L:List P2):List P2:=(L.filter λz=>decide (z.1<(n:Int))).map λz=>(z.2,z.1)
theorem jtg (n:Nat) (L:List P2) (z:P2):revE n (L++[z])=revE n L++if z.1<(n:Int) then [(z.2,z.1)] else []:=by unfold revE;rw[ch,bF];congr 1;by_cases h:z.1<(n:Int) <;> simp[h]
theorem jok (n:Nat) (L:List P2):(revE n L).length<=L.length:=by unfold revE;rw[bC];exact bD _ _
theorem EdV.toA {ob:ZO}{lo hi hi':Nat}{v:V}{L:List P2}(h:EdV ob lo hi v L) (c:hi<=hi'):EdA hi' ob v L:=by rcases h with⟨rfl,rfl⟩|⟨u,b,a,e,d⟩;exact .inl ⟨none,true,rfl⟩;exact .inr ⟨2*u+1,u,b,a,Off.new zO⟩
structure PastO (kX uX:Nat) (R:List P2) (u1 u3 hi:Nat) (ob:ZO):Prop where
 a:ob (2*u1+1)=some ⟨u1,.cells [.ptr kX uX 0]⟩
 b:∃lv,ob (2*u3+1)=some ⟨u3,.cells [lv]⟩/\EdV ob (u3+1) hi lv R
 h:u1<u3/\u3<hi
theorem PastO.keep {kX uX c u3 hi hi':Nat}{R:List P2}{ob ob':ZO}(h:PastO kX uX R c u3 hi ob) (d:∀u,c<=u->u<hi->ob' (2*u+1)=ob (2*u+1)) (f:hi<=hi'):PastO kX uX R c u3 hi' ob':=by obtain⟨j,b1,b2⟩:=h.b;have e:=h.h;exact⟨(d c zK zO).trans h.a,⟨j,(d u3 zO e.2).trans b1,b2.frame (λu k i=>d u zO i) f⟩,e.1,zO⟩
section
variable {g:Hist'}{mv rv:V}{kX uX lo:Nat}{ob:ZO}{ub:Nat}{L:List P2}
theorem sv138 {Yf:YF}{tk:Nat->Bool}{ro base:Nat}(hX:MkR g mv rv kX uX lo ob ub L) (k:Off lo kX) (S:lo<=ub) (c1:ro<=lo) (hl:L.length<=10000) :
 ∃r,EvS E Yf.y 138 [.ptr kX uX 0] ob tk ro base ub r/\∃l j,r.1=.fn (.func 193) [] [.ptr (2*l+1) l 0,.ptr (2*j+1) j 0]/\ub<=l/\PastO kX uX (revE g.ts.length L) l j r.2.2.2 r.2.1/\∀c,Off ub c->r.2.1 c=ob c:=by
 obtain⟨lv,K,hE⟩:=hX;have hA:=hE.toA zK;have O:=hA.len;have oX:=(k.up S).ne;have B:¬ ub=ub+64+64:=zO;refine Ja (af:=S138) rfl zQ ?_;show wpC E Yf S138.body _ (XD S138.res _);conv in (occs := *) S138=> all_goals cbv
 simp(disch:=first|(simp;done)|omega) [S138,objCells,K,mkS,histC,oX,V.cells,V.leaf,O,two_inj,B];refine jQ λq e=>?_;obtain⟨l,j,a1,a2,a3,g1,g3,gA,gB⟩:∃l j,ub<=l/\l<j/\j<q.nx/\q.tm 1=.ptr (2*l+1) l 0/\q.tm 3=.ptr (2*j+1) j 0/\q.ob (2*l+1)=some ⟨l,.cells [.ptr kX uX 0]⟩/\q.ob (2*j+1)=some ⟨j,.cells [.sl none true 0 []]⟩ :=
  ⟨ub,ub+128,zO,zO,by rw[e];first|omega|(simp;done)|(simp;omega),by rw[e];simp,by rw[e];simp[aG],by rw[e];simp[two_inj,B],by rw[e];simp[aG]⟩
 have g9:q.tm 9=lv:=by rw[e];simp
 have b9:q.tm 10=.int .i64 L.length:=by rw[e];simp
 have N:q.tm 11=.int .i64 0:=by rw[e];simp
 have gd:q.df=[]:=by rw[e];simp
 have gr:q.ro=ro:=by rw[e];simp
 have go:∀c,Off ub c->q.ob c=ob c:=λc k=>by have:=k.ne;rw[e];simp(disch:=first|(simp;done)|omega) [this]
 clear e;obtain⟨J,hJ⟩:∃J:Nat->St->Prop,J=λi s=>s.tm 11=.int .i64 i/\PastO kX uX (revE g.ts.length (L.take i)) l j s.nx s.ob/\∀c,Off ub c->s.ob c=ob c:=⟨_,rfl⟩;refine j6 [(5,5),(11,32)] L.length J rfl rfl ?_ ?_;rw[hJ];exact⟨by simpa using N,⟨gA,⟨_,gB,.inl ⟨rfl,by simp[revE]⟩⟩,a2,a3⟩,go⟩;clear N gA gB go a3;intro i s hi Z f;rw[hJ]at Z;obtain⟨w,I,M⟩:=Z;have s1:=(f.t 1 zS).trans g1;have s3:=(f.t 3 zS).trans g3;have s9:=(f.t 9 zS).trans g9;have Q:=(f.t 10 zS).trans b9;have sd:=f.d.trans gd;have sr:=f.r.trans gr;clear f;have hh:=I.h;by_cases o:i<L.length;have P:=jZ o zO;obtain⟨p,a0,G⟩:=hA.at o;have n:=jtg g.ts.length (L.take i) L[i];rw[<- ay o]at n;have U:s.ob kX=_:=(M kX (k.up S)).trans K;have X:=(k.up (show lo<=s.nx by omega)).ne;have H:=I.a;obtain⟨lw,T,b5⟩:=I.b;have n1:∀m,s.nx<=m->¬ l=m:=λm hm=>by omega
 have n3:∀m,s.nx<=m->¬ j=m:=λm hm=>by omega
 generalize L[i]=z at G n;obtain⟨x,y⟩:=z;simp only at G n;simp(disch:=first|(simp;done)|omega) [w,Q,s9,o,a0];rw[G _ λc k=>by simpa using M c k];have b8:=jok g.ts.length (L.take i);rw[ap]at b8;by_cases hc:x<(g.ts.length:Int);rw[if_pos hc]at n;simp(disch:=first|(simp;done)|omega) [s1,s3,objCells,j2,two_inj,n1,n3,H,T,U,mkS,histC,X,slOf,hc];refine⟨zO,?_⟩;refine ja (cs:=[.int .i64 y,.int .i64 x]) (by simp[j2]) rfl rfl ?_;simp;refine jfp (lo:=j+1) (hi:=s.nx) (v:=lw) (L:=revE g.ts.length (L.take i)) (p:=(y,x)) zS (b5.frame (λu h1 h2=>?_) zK) (by simp[sr];omega) (by simp[slCells,objCells,edC]) zO λkl b7=>?_;have:∀m,s.nx<=m->¬ u=m:=λm hm=>by omega
 simp(disch:=first|(simp;done)|omega) [two_inj,this];have D:∀c,Off (j+1) c->kl.any (Nat.beq c)=false:=λc k=>by rcases b7 with rfl|⟨u,h1,_,rfl,_⟩;rfl;simp only[bu,bI,bq];exact W7 (k u h1)
 have k3:=D (2*j+1) (Off.new zO);have k1:=D (2*l+1) (Off.new zO);have b0:¬ l=j:=zO;rw[<- n];have F:(revE g.ts.length (L.take (i+1))).length=(revE g.ts.length (L.take i)).length+1:=by rw[n];simp
 generalize c0:revE g.ts.length (L.take (i+1))=R1 at *;simp(disch:=first|(simp;done)|omega) [s3,objCells,j2,two_inj,n3,T,jD,k3,V.cells,V.leaf];refine⟨zO,?_⟩;simp(disch:=first|(simp;done)|omega) [w,P,o];rw[hJ];simp only[c0];have b6:∀m,s.nx<=m->¬ m=j:=λm hm=>by omega
 refine⟨zS,⟨?_,⟨.osl (2*(s.nx+1344)+1) (s.nx+1344) 0 R1.length 2,?_,.inr ⟨s.nx+1344,rfl,?_,zO,zL⟩⟩,a2,zL⟩,λc k=>?_⟩;simp(disch:=first|(simp;done)|omega) [jD,two_inj,n1,b0,k1,H];simp(disch:=first|(simp;done)|omega) [aG,F];simp(disch:=first|(simp;done)|omega) [jD,two_inj,aG,b6];have h1:=D c (k.up zO);have h2:=(k.up (show ub<=s.nx by omega)).ne;have h3:¬ c=2*j+1:=k j zO;simp(disch:=first|(simp;done)|omega) [jD,h1,h2,h3];exact M c k;rw[if_neg hc,aS]at n;simp(disch:=first|(simp;done)|omega) [s1,objCells,j2,two_inj,n1,H,U,mkS,histC,X,slOf,hc];refine⟨zO,?_⟩;simp(disch:=first|(simp;done)|omega) [w,P,o];rw[hJ];have h2:∀c,Off ub c->∀m,s.nx<=m->¬ c=2*m+1:=λc k=>(k.up (show ub<=s.nx by omega)).ne;refine⟨zS,?_,λc k=>?_⟩;rw[n];refine I.keep (λu h3 h4=>?_) zL;have:∀m,s.nx<=m->¬ u=m:=λm hm=>by omega
 simp(disch:=first|(simp;done)|omega) [two_inj,this];have h3:=h2 c k;simp(disch:=first|(simp;done)|omega) [h3];exact M c k;have:i=L.length:=zO;subst this;rw[bh]at I;simp(disch:=first|(simp;done)|omega) [w,Q,s1,s3];exact Xc (by simp[sd]) ⟨l,j,zS,a1,I.keep (λu _ _=>by simp) zL,λc k=>by simpa using M c k⟩
end
theorem jd4 {Yf:YF}{f:FuncId}{xs:List A}{st:St}{ub:Nat}{K:St->Nat->Prop}{d:Option Nat}{nm:Bool}{vs:List V}{P:V->Prop}(b:xs.map (eval E st.tm)=vs) (a:E.sh nm f=false) (hp:(vs.all λv=>v.strip.pureTop)=false)
 (h:∃v,EvO E f vs st.ob st.tk ((st.fb+d.getD 0+1)*1024) ub v/\P v) (c:∀v,P v->wpD (Xf ub v) (WR K st d ub)):j8 E Yf ⟨d,.call f xs,none,nm⟩ st ub K:=by
 obtain⟨v,e,i⟩:=h;exact jb b a hp e (c v i)
theorem jpa {Yf:YF}{f:FuncId}{q:A}{xs:List A}{st:St}{ub:Nat}{K:St->Nat->Prop}{d:Option Nat}{nm:Bool}{first captured vs:List V}{P:V->Prop}(e:eval E st.tm q=.fn (.func f) first captured) (a:first++xs.map (eval E st.tm)++captured=vs) (b:E.sh nm f=false)
 (hp:(vs.all λv=>v.strip.pureTop)=false) (h:∃v,EvO E f vs st.ob st.tk ((st.fb+d.getD 0+1)*1024) ub v/\P v) (c:∀v,P v->wpD (Xf ub v) (WR K st d ub)):j8 E Yf ⟨d,.callV q xs,none,nm⟩ st ub K:=by
 obtain⟨v,i,j⟩:=h;exact WI e b (by rw[a];exact hp) (by rw[a];exact i) (c v j)
def j6y (n:Nat) (R:List P2) (t:Nat) (v:V):Prop:=∃w,(w<2 ^ n/\∀a,a<n->w.testBit a=war (edB R) n t a)/\j1j (ints (bitsUp w)) v
theorem ev194n {n:Nat}(I:0<n) (D:n<=9) {t:Nat}(G:t<n) :
 ∃q,Ev E 194 [.int .i64 (n:Int),.int .i64 (t:Int),.sl none true 0 []] q/\∃w,(w<2 ^ n/\∀a,a<n->w.testBit a=war (edB []) n t a)/\FromR w q:=by
 have hp:(2:Nat) ^ n<=512:=ci zQ D;have F:¬ (t:Int)<0:=zO;have m:¬ (n:Int)<=t:=zO;have d:¬ (n<=t):=zO;refine JZ (af:=F194) rfl zQ ?_;conv in (occs := *) F194=> all_goals cbv
 simp(disch:=first|(simp;done)|omega) [F194];refine jV (vs:=[.int .i64 n,.sl none true 0 []]) zS rfl (jxv (L:=[]) ?_ I D (.inl ⟨none,true,rfl⟩) (λz c=>by cases c) zS) ?_;simp;rintro v1 X M b0 ⟨H,ut,uf,ue,tu,fu,T,rfl,K,p,b5,hT,S,y⟩;simp only at K S y;simp(disch:=first|(simp;done)|omega) [F,m,d];refine jV (vs:=[.ptr (2*H+1) H 0]) zS rfl (j7u (n:=n) (r:=edB []) (K.keep (λx _ _=>?_) ?_) ?_ p I D (λb _=>⟨(Xy (n:=n) (L:=[]) (λz c=>by cases c) b).1,λa _=>(Xy (n:=n) (L:=[]) (λz c=>by cases c) b).2 a⟩)) ?_;simp
 ·first|omega|(simp;done)|(simp;omega)
 ·first|omega|(simp;done)|(simp;omega)
 rintro v2 N P Q ⟨J,j,W,rfl,a0,e,O⟩;simp only at e;have f:=e.o;rw[eO,aS]at f;have U:=e.r;have x1:=jgp (l:=2*J+1) (u:=J) (kk:=.i64) G;have x2:=jio (l:=j) (i:=t) zO;have Z:=e.s t zO;have ls:=e.rs _ (av (show t<j.length by omega));have ws:=O t G;simp(disch:=first|(simp;done)|omega) [x1,x2,objCells,f];obtain⟨B,k⟩:=WE (ints (bitsUp (W t)));refine jb (vs:=[.ptr (2*j[t]+1) j[t] 0]) zS rfl rfl (jps (w:=W t) (by simpa using Z) (Off.new zL) zO _ _) ?_;refine Ji k λtt add=>?_;simp;refine jsa (ns:=[6,7]) (ls:=[.sl none B (ints (bitsUp (W t))).length ((ints (bitsUp (W t))).flatMap intC),.int .i64 0]) (λr h=>⟨W t,ws,B,h⟩) zS rfl zS zS ?_;simp;exact⟨YP rfl (JR _ tt B _ _),jp rfl,trivial⟩
section
variable {g:Hist'}{mv rv:V}{kX uX:Nat}{ob:ZO}{ub u1 u3 hi:Nat}{R:List P2}
theorem evo193 (p:PastO kX uX R u1 u3 hi ob) (J:hi<=ub) (j:∃z,ob kX=some ⟨uX,.cells (mkS g mv rv z)⟩) (D:Off ub kX) (u:0<g.ts.length) (P:g.ts.length<=8) (M:InG g.ts.length R) (I:R.length<=10000) {t:Nat}(y:t<g.ts.length) (tk:Nat->Bool) (base:Nat) :
 ∃v,EvO E 193 [.int .i64 (t:Int),.ptr (2*u1+1) u1 0,.ptr (2*u3+1) u3 0] ob tk base ub v/\j6y g.ts.length R t v:=by
 obtain⟨z,j⟩:=j;have N:=D.ne;have s:=p.a;obtain⟨O,o,c⟩:=p.b;have Q:=p.h;have L:∀m,ub<=m->¬ u1=m:=λm K=>by omega
 have B:∀m,ub<=m->¬ u3=m:=λm K=>by omega
 refine Wr (af:=S193) rfl zQ ?_;simp(disch:=first|(simp;done)|omega) [S193,objCells,s,o,j,N,mkS,histC,slOf,two_inj,L,B];have f:∀q w e add d,(w<2 ^ g.ts.length/\∀a,a<g.ts.length->w.testBit a=war (edB R) g.ts.length t a)->d.df=[]->d.tm 4=.sl e q (ints (bitsUp w)).length ((ints (bitsUp w)).flatMap intC)->add=add->Qm [.t 4] (j6y g.ts.length R t) .ret d:=λq w e _ d i hd h4 (_:()=())=>
  slE (t:=e) (nl:=q) (k:=(ints (bitsUp w)).length) (cs:=(ints (bitsUp w)).flatMap intC) (λr h=>⟨w,i,q,h⟩) hd h4
 rcases c with⟨rfl,rfl⟩|c;obtain⟨q,n,w,i,nl,l⟩:=ev194n u zO y;refine jJ n zS rfl zS ?_;refine jti l λe add=>?_
 simp;exact f nl w e () _ i zS zS rfl
 ·have G:=EdV.toA (.inr c) J;obtain⟨x,rfl,_⟩:=c;refine jd4 (vs:=[.int .i64 g.ts.length,.int .i64 t,.osl (2*x+1) x 0 R.length 2]) zS rfl rfl (evo194 u zO (G.up (λH _=>by simp) ?_) M I y _ _) λq F=>?_
  ·first|omega|(simp;done)|(simp;omega)
  obtain⟨w,i,nl,l⟩:=F;refine jti l λe add=>?_;simp;exact f nl w e () _ i zS zS rfl
end
section
variable {g:Hist'}{M:List Int}{mn:Bool}{rt:Option (Nat × Nat)}{rn:Bool}{kX uX:Nat}{ob:ZO}{ub u1 u2 u3 u5 hi:Nat}{R:List P2}
theorem evo139 (I:PastO kX uX R u1 u3 hi ob) (D:hi<=ub) (s:ob (2*u5+1)=some ⟨u5,.cells [.fn (.func 193) [] [.ptr (2*u1+1) u1 0,.ptr (2*u3+1) u3 0]]⟩) (p:ob (2*u2+1)=some ⟨u2,.cells [.ptr kX uX 0]⟩) (L:u5<ub) (N:u2<ub)
 (q:∃n,ob kX=some ⟨uX,.cells (mkS g (slOf mn intC M) (rdV rt rn (readH g)) n)⟩) (o:Off ub kX) (z:g.ts.length<=8) (J:InG g.ts.length R) (B:R.length<=10000) {i:Nat}(hi:i<(readH g).length) (tk:Nat->Bool) (base:Nat) :
 ∃v,EvO E 139 [.int .i64 (i:Int),.ptr (2*u5+1) u5 0,.ptr (2*u2+1) u2 0] ob tk base ub v/\j6y g.ts.length R ((readH g).getD i (0,0)).1.toNat v:=by
 obtain⟨n,c⟩:=id q;have O:=o.ne;have K:∀m,ub<=m->¬ u5=m:=λm G=>by omega
 have P:∀m,ub<=m->¬ u2=m:=λm G=>by omega
 have d:=jv jT rt rn (readH g) .i64 hi;obtain⟨a,l,_,j⟩:=jhb hi;have b:((readH g).flatMap jE)[i*2]? = some (.int .i64 (a:Int)):=by
  have:=jU jT (readH g) hi (by decide:0<2);rw[bj]at this;rw[this];have e:(readH g).getD i (0,0)=(readH g)[i]:=by simp[ag,aa hi]
  rw[e]at l;simp[jE,l]
 rw[l,aZ];refine Wr (af:=S139) rfl zQ ?_;conv in (occs := *) S139=> all_goals cbv
 simp(disch:=first|(simp;done)|omega) [S139,objCells,s,p,c,mkS,histC,slOf,rdV,d,b];refine jpa (f:=193) (first:=[]) (captured:=[.ptr (2*u1+1) u1 0,.ptr (2*u3+1) u3 0]) (vs:=[.int .i64 a,.ptr (2*u1+1) u1 0,.ptr (2*u3+1) u3 0]) zS zS rfl rfl (evo193 (mv:=slOf mn intC M) (rv:=rdV rt rn (readH g)) (I.keep (λu _ _=>by simp) D) ?_ ?_ (o.up ?_) zO z J B j _ _) λv H=>?_
 ·first|omega|(simp;done)|(simp;omega)
 exact⟨n,by simpa using c⟩
 ·first|omega|(simp;done)|(simp;omega)
 obtain⟨w,x,nl,F⟩:=H;refine Ji F λy add=>?_;simp;exact slE (t:=y) (nl:=nl) (k:=(ints (bitsUp w)).length) (cs:=(ints (bitsUp w)).flatMap intC) (λr h=>⟨w,x,nl,h⟩) zS zS
def rcQ (g:Hist') (M:List Int) (i k:Nat):Bool:=((readH g).getD k (0,0)).1 == ((readH g).getD i (0,0)).1 && (decide (((readH g).getD k (0,0)).2<((readH g).getD i (0,0)).2) && decide (0<=M.getD k 0))
def rcS (g:Hist') (M:List Int) (i n:Nat):List Int:=((List.range n).filter (rcQ g M i)).map λk=>M.getD k 0
theorem jyk (g:Hist') (M:List Int) (i n:Nat):rcS g M i (n+1)=rcS g M i n++if rcQ g M i n then [M.getD n 0] else []:=by unfold rcS;rw[db,ch,bF];congr 1;cases h:rcQ g M i n <;> simp[h]
theorem jtq (g:Hist') (M:List Int) (i n:Nat):(rcS g M i n).length<=n:=by unfold rcS;rw[bC];exact bG (bD _ _) zS
theorem evo140 (hm:jaj g M=true) (h2:ob (2*u2+1)=some ⟨u2,.cells [.ptr kX uX 0]⟩) (l2:u2<ub) (hX:∃lv,ob kX=some ⟨uX,.cells (mkS g (slOf mn intC M) (rdV rt rn (readH g)) lv)⟩) (o:Off ub kX) (hR:(readH g).length<=1000) {i:Nat}(hi:i<(readH g).length) (tk:Nat->Bool) (base:Nat) :
 EvO E 140 [.int .i64 (i:Int),.ptr (2*u2+1) u2 0] ob tk base ub (ji8 (rcS g M i (readH g).length)):=by
 obtain⟨lv,hX⟩:=hX;have c9:=W2 hm;have oX:=o.ne;have n2:∀m,ub<=m->¬ u2=m:=λm hm=>by omega
 have Z:∀ {k:Nat}(h:k<(readH g).length),((readH g).flatMap jE)[k*2]? = some (.int .i64 ((readH g).getD k (0,0)).1)/\((readH g).flatMap jE)[k*2+1]? = some (.int .i64 ((readH g).getD k (0,0)).2):=fun {k} h=>by
  have e:(readH g).getD k (0,0)=(readH g)[k]:=by simp[ag,aa h]
  have a1:=jU jT (readH g) h (by decide:0<2);have a2:=jU jT (readH g) h (by decide:1<2);rw[bj]at a1;rw[a1,a2,e];exact⟨rfl,rfl⟩
 have B:=jv jT rt rn (readH g) .i64 hi;obtain⟨S,f2⟩:=Z hi;refine JL (af:=S140) rfl ?_;simp(disch:=first|(simp;done)|omega) [S140,objCells,h2,hX,mkS,histC,slOf,rdV];refine jQ λy c=>?_;have g0:y.tm 0=.int .i64 i:=by rw[c];simp
 have g1:y.tm 1=.ptr (2*u2+1) u2 0:=by rw[c];simp
 have g4:y.tm 4=.sl none true 0 []:=by rw[c];simp
 have c6:y.tm 10=rdV rt rn (readH g):=by rw[c];simp[rdV]
 have b7:y.tm 11=.int .i64 (readH g).length:=by rw[c];simp
 have b5:y.tm 12=.int .i64 0:=by rw[c];simp
 have gd:y.df=[]:=by rw[c];simp
 have gr:y.ro=ub:=by rw[c];simp
 have gn:ub<=y.nx:=by rw[c];first|omega|(simp;done)|(simp;omega)
 have go:∀a,Off ub a->y.ob a=ob a:=λa o=>by rw[c];simp
 clear c;obtain⟨P,N⟩:∃P:Nat->Nat->Prop,P=λhi u=>ub<=u/\u<hi:=⟨_,rfl⟩;obtain⟨J,hJ⟩:∃J:Nat->St->Prop,J=λk s=>s.tm 12=.int .i64 k/\IntsO s.ob (P s.nx) (rcS g M i k) (s.tm 4)/\ub<=s.nx/\∀a,Off ub a->s.ob a=ob a:=⟨_,rfl⟩;refine j6 [(4,6),(12,61)] (readH g).length J rfl rfl (by rw[hJ];exact⟨by simpa using b5,.inl ⟨by simp[rcS],g4⟩,gn,go⟩) ?_;clear b5 g4 gn go;intro k s c7 a0 f;rw[hJ]at a0;obtain⟨w,sI,sn,so⟩:=a0;have s0:=(f.t 0 zS).trans g0;have s1:=(f.t 1 zS).trans g1;have b9:=(f.t 10 zS).trans c6;have U:=(f.t 11 zS).trans b7;have sd:=f.d.trans gd;have sr:=f.r.trans gr;clear f;by_cases j:k<(readH g).length;have D:=jZ j zO;have L:k<M.length:=zO;have b8:=jv jT rt rn (readH g) .i64 j;obtain⟨k1,k2⟩:=Z j;have b6:=λob=>Wf (readH g) ob j;have T:=jv j9 none mn M .i64 L;have b0:=jr M L;have b:=jyk g M i k;have c8:=jtq g M i k;have F:s.ob (2*u2+1)=_:=(so _ (Off.new l2)).trans h2;have I:s.ob kX=_:=(so _ o).trans hX;have H:=(o.up sn).ne;have G:∀m,s.nx<=m->¬ u2=m:=λm hm=>by omega
 have c5:M.getD k 0=M[k]:=by simp[ag,aa L]
 have c0:(readH g).getD k (0,0)=(readH g)[k]:=by simp[ag,aa j]
 unfold rcQ at b;rw[c5,c0]at b;generalize (readH g).getD i (0,0)=p at *;generalize (readH g)[k]=q at *;obtain⟨pa,pb⟩:=p;obtain⟨qa,qb⟩:=q;simp only at b6 b S f2;simp(disch:=first|(simp;done)|omega) [w,U,b9,s1,j,b8,b6,rdV,objCells,j2,two_inj];refine⟨zO,?_⟩;have skip:rcS g M i (k+1)=rcS g M i k->∀Q:St,Q.tm 12=.int .i64 ((k:Int)+1)->Q.tm 4=s.tm 4->s.nx<=Q.nx->(∀a,Off s.nx a->Q.ob a=s.ob a)->J (k+1) Q:=λe Q h1 h2 h3 h4=>by rw[hJ];refine⟨by simpa using h1,?_,zO,λa o=>(h4 a (o.up sn)).trans (so a o)⟩;rw[e,h2];exact sI.frame (λu n=>by rw[N]at n;exact h4 _ (Off.new n.2)) λu n=>by rw[N]at n ⊢;exact⟨n.1,by have:=n.2;omega⟩
 cases K:(qa == pa);rw[K,bZ,if_neg zQ,aS]at b;simp(disch:=first|(simp;done)|omega) [w,s0,objCells,F,I,mkS,histC,H,G,rdV,slOf,B,S,K,D,j];exact skip b _ zS zS zL λa o=>by simp(disch:=first|(simp;done)|omega) [o.ne]
 by_cases O:qb<pb;by_cases c3:0<=M[k];rw[K,decide_eq_true O,decide_eq_true c3,co,co,if_pos rfl]at b;simp(disch:=first|(simp;done)|omega) [s1,s0,objCells,two_inj,F,I,mkS,histC,H,G,rdV,slOf,B,S,f2,K,O,c3,T,b0];refine ja (cs:=[.int .i64 M[k]]) (by simp[j2]) rfl rfl ?_;simp;refine Qb (p:=P s.nx) (l:=rcS g M i k) (z:=M[k]) (v:=s.tm 4) (X:=2*(s.nx+3136)+1) (uX:=s.nx+3136) zS (sI.frame (λu n=>?_) λ_ h=>h) (by simp[aG]) (by simp[aG]) (λu n=>by rw[N]at n;simp[sr];exact n.1) zO λkl c4=>?_;rw[N]at n;have:∀m,s.nx<=m->¬ u=m:=λm hm=>by omega
 simp(disch:=first|(simp;done)|omega) [two_inj,this];simp(disch:=first|(simp;done)|omega) [w,D,j];rw[hJ];refine⟨zS,.inr ⟨by rw[b];simp,s.nx+3200,by rw[b];simp[aG],by rw[b];simp[aG,jgf],?_⟩,zL,λa o=>?_⟩;rw[N];simp;omega;have h3:=(o.up sn).ne;have h4:kl.any (Nat.beq a)=false:=by rw[dQ];intro x hx hb;obtain⟨u,n,rfl⟩:=c4 x hx;rw[N]at n;exact o u n.1 (bm hb)
 simp(disch:=first|(simp;done)|omega) [jgf,h3,h4];exact so a o;rw[K,decide_eq_true O,decide_eq_false c3,co,co,if_neg zQ,aS]at b;simp(disch:=first|(simp;done)|omega) [w,s1,s0,objCells,two_inj,F,I,mkS,histC,H,G,rdV,slOf,B,S,f2,K,O,c3,T,b0,D,j];exact skip b _ zS zS zL λa o=>by simp(disch:=first|(simp;done)|omega) [o.ne]
 rw[K,decide_eq_false O,bZ,dC,if_neg zQ,aS]at b;simp(disch:=first|(simp;done)|omega) [w,s1,s0,objCells,two_inj,F,I,mkS,histC,H,G,rdV,slOf,B,S,f2,K,O,D,j];exact skip b _ zS zS zL λa o=>by simp(disch:=first|(simp;done)|omega) [o.ne]
 have:k=(readH g).length:=zO;subst this;simp(disch:=first|(simp;done)|omega) [w,U];exact WJ (by simp[sd]) zS (sI.frame (λu n=>by simp) λu n=>n) (λu n=>by rw[N]at n;simp[sr];exact n.1)
end
section
variable {g:Hist'}{M:List Int}{lvl:Int}
def askL (g:Hist') (M:List Int) (S:Nat->List Int) (n:Nat):List P2:=(List.range n).flatMap λi=>askE g M (S i) i
theorem jc1 {S a:List Int}(h:∀x,x∈S ↔ x∈a) (i:Nat) (z:P2):z∈askE g M S i ↔ z∈askE g M a i:=by unfold askE;simp only[aJ,bV,h]
theorem j8b {S:Nat->List Int}(b:∀i,i<(readH g).length->∀x,x∈S i ↔ x∈Jw g lvl M i):jjm g lvl M (sesL g (comL g).length++srcL g M (readH g).length++askL g M S (readH g).length):=by intro z;simp only[aO,sesL,srcL,askL,cg,aJ,aH];constructor;rintro((⟨i,a,h⟩|⟨i,a,rfl⟩)|⟨i,a,h⟩);exact .inl ⟨i,a,h⟩;exact .inr ⟨i,a,.inl rfl⟩;exact .inr ⟨i,a,.inr ((jc1 (b i a) i z).1 h)⟩;rintro(⟨i,a,h⟩|⟨i,a,h|h⟩);exact .inl (.inl ⟨i,a,h⟩);exact .inl (.inr ⟨i,a,h.symm⟩);exact .inr ⟨i,a,(jc1 (b i a) i z).2 h⟩
theorem jev (g:Hist') (M:List Int) (i:Nat):Jw g 0 M i=[]:=by unfold Jw jcd;rw[List.eq_nil_iff_forall_not_mem];intro x a;obtain⟨k,_,_,h⟩:=filTo_mem.1 a;simp[jcc]at h
theorem jim (g:Hist') (M:List Int):jjm g 0 M (sesL g (comL g).length++srcL g M (readH g).length):=by
 have:=j8b (g:=g) (M:=M) (lvl:=0) (S:=λ_=>[]) λi _ x=>by rw[jev]
 have e:askL g M (λ_=>[]) (readH g).length=[]:=by simp[askL,askE]
 rwa [e,aS]at this
theorem jtz (r:jaj g M=true) {x y:Nat}(I:x<g.ts.length) (H:y<g.ts.length):(sesL g (comL g).length++srcL g M (readH g).length).contains ((x:Int),(y:Int))=jdq g M x y:=by
 have D:=jim g M;have F:((x:Int),(y:Int))∈(sesL g (comL g).length++srcL g M (readH g).length) ↔ satB g 0 M x y=true:=by rw[<- (X8 _).mem_iff,<- compP_mem,Q7 r D,edgesOf_mem];constructor;rintro⟨a,b,_,_,h,e⟩;have f:(x:Int)=a:=congrArg Prod.fst e;have l:(y:Int)=b:=congrArg Prod.snd e;rw[show x=a by omega,show y=b by omega];exact h;exact λh=>⟨x,y,zO,zO,h,rfl⟩
 rw[bB,bE,F];have m:(x == g.ts.length)=false:=by simp;omega
 unfold satB jdq;rw[m,bZ,cp,bA];constructor;rintro(h|h);simp only[ai]at h ⊢;exact⟨⟨h.1.1.1,h.1.1.2⟩,by simp[h.1.2,h.2]⟩;obtain⟨i,d,h⟩:=bx.1 h;have d:=aH.1 d;rw[jev,show askE g M [] i=[] from rfl]at h;simp only[List.contains_nil,bq,beq_iff_eq]at h;obtain⟨b,q,n,_⟩:=jhb d;have f:JO g (M.getD i 0)=(x:Int):=congrArg Prod.fst h;have l:((readH g).getD i (0,0)).1=(y:Int):=congrArg Prod.snd h;have B:=W2 r;have s:y=b:=by rw[q]at l;omega
 rcases ju0 r d with c|⟨a,w,o,_⟩;unfold JO at f;rw[if_pos c]at f;omega;have p:x=a:=by unfold JO at f;rw[if_neg zO]at f;omega
 rw[p,s,o,n,cB,co,bA];refine .inr (bx.2 ⟨((readH g)[i],M[i]),?_,?_⟩);rw[cy];exact⟨i,by simp;omega,zS⟩;have t:M.getD i 0=M[i]:=by simp[ag,aa (show i<M.length by omega)]
 have u:(readH g).getD i (0,0)=(readH g)[i]:=by simp[ag,aa d]
 rw[t]at w;rw[u]at q;simp[w,q];intro h;simp only[ai,bA]at h;obtain⟨⟨f,l⟩,c⟩:=h;rcases c with c|c;left;simp only[ai];exact⟨⟨⟨f,l⟩,c.1⟩,c.2⟩;right;obtain⟨z,G,k⟩:=bx.1 c;obtain⟨i,d,e⟩:=bH G;simp only[List.length_zip]at d;have j:i<(readH g).length:=zO;rw[List.getElem_zip]at e;simp only[ai,beq_iff_eq]at k;rw[<- e]at k;simp only at k;refine bx.2 ⟨i,aH.2 j,?_⟩;rw[bA];left;have t:M.getD i 0=M[i]:=by simp[ag,aa (show i<M.length by omega)]
 have u:(readH g).getD i (0,0)=(readH g)[i]:=by simp[ag,aa j]
 unfold jw7 JO;rw[t,u,k.1,k.2,if_neg zO];simp
theorem jav {n:Nat}{r c:Nat->Nat->Bool}(h:∀x y,x<n->y<n->r x y=c x y):∀K,K<=n->∀b a,b<n->a<n->war r K b a=war c K b a
 | 0,_,b,a,hb,ha=>h a b ha hb
 | K+1,hK,b,a,hb,ha=>by rw[war,war,jav h K zO b a hb ha,jav h K zO b K hb zO,jav h K zO K a zO ha]
theorem j6a {n:Nat}{L:List P2}{x y:Nat}(i:x<n):edB (revE n L) x y=L.contains ((x:Int),(y:Int)):=by rw[bB];unfold edB revE;simp only[bE,aJ,bV,decide_eq_true_eq];constructor;rintro⟨⟨a,b⟩,⟨d,_⟩,e⟩;have c:b=(y:Int):=congrArg Prod.fst e;have f:a=(x:Int):=congrArg Prod.snd e;rw[<- c,<- f];exact d;exact λh=>⟨_,⟨h,by simp only;omega⟩,rfl⟩
theorem jqv (o:jaj g M=true) (p:g.ts.length<=8) {i w:Nat}(hi:i<(readH g).length) (f:w<2 ^ g.ts.length/\∀a,a<g.ts.length->w.testBit a=war (edB (revE g.ts.length (sesL g (comL g).length++srcL g M (readH g).length))) g.ts.length ((readH g).getD i (0,0)).1.toNat a) (x:Int) :
 x∈ints (bitsUp w) ↔ x∈Jw g 2 M i:=by
 obtain⟨b,k,_,l⟩:=jhb hi;rw[k,aZ]at f;have c:∀a,a<g.ts.length->w.testBit a=farB g M b a:=λa d=>by rw[f.2 a d];exact jav (λx y m n=>by rw[j6a m];exact jtz o m n) _ zK b a l d
 unfold Jw jcd ints;rw[filTo_mem,aJ];constructor;rintro⟨a,d,rfl⟩;obtain⟨_,j⟩:=bitsUp_mem.1 d;have e:a<g.ts.length:=by rcases cu a g.ts.length with h|h;exact h;rw[ey (aR f.1 (ci zQ h))]at j;cases j
 refine⟨a,e,rfl,?_⟩;unfold jcc;rw[if_neg zQ,if_pos rfl,k,aZ,<- c a e];exact j;rintro⟨a,d,rfl,h⟩;refine⟨a,bitsUp_mem.2 ⟨zO,?_⟩,rfl⟩;unfold jcc at h;rw[if_neg zQ,if_pos rfl,k,aZ,<- c a d]at h;exact h
theorem j34 (n:jaj g M=true) {i:Nat}(x:Int):x∈rcS g M i (readH g).length ↔ x∈Jw g 1 M i:=by
 have p:=W2 n;unfold Jw jcd rcS;rw[filTo_mem,aJ];simp only[bV,aH];constructor;rintro⟨k,⟨d,c⟩,rfl⟩;unfold rcQ at c;simp only[ai,beq_iff_eq,decide_eq_true_eq]at c;rcases ju0 n d with r|⟨a,f,o,l⟩;omega;refine⟨a,l,f,?_⟩;unfold jcc rcB;rw[if_pos rfl,bx];have j:M.getD k 0=M[k]:=by simp[ag,aa (show k<M.length by omega)]
 have m:(readH g).getD k (0,0)=(readH g)[k]:=by simp[ag,aa d]
 rw[j]at f;rw[m]at c;refine⟨((readH g)[k],M[k]),?_,by
  show((readH g)[k].1 == _ && (decide ((readH g)[k].2<_) && M[k] == (a:Int)))=true;rw[c.1,decide_eq_true c.2.1,f];simp⟩
 rw[cy];exact⟨k,by simp;omega,zS⟩;rintro⟨a,f,rfl,h⟩;unfold jcc rcB at h;rw[if_pos rfl,bx]at h;obtain⟨z,q,b⟩:=h;obtain⟨k,d,e⟩:=bH q;simp only[List.length_zip]at d;rw[List.getElem_zip]at e;simp only[ai,beq_iff_eq,decide_eq_true_eq]at b;rw[<- e]at b;simp only at b;have j:M.getD k 0=M[k]:=by simp[ag,aa (show k<M.length by omega)]
 have m:(readH g).getD k (0,0)=(readH g)[k]:=by simp[ag,aa (show k<(readH g).length by omega)]
 refine⟨k,⟨zO,?_⟩,by rw[j];exact b.2.2⟩;unfold rcQ;rw[j,m,b.2.2,b.1,decide_eq_true b.2.1];simp
end
section
variable {g:Hist'}{M:List Int}{lvl:Int}
theorem j3y {A:List P2}(b:∀z,z∈A ↔ ∃i,i<(readH g).length/\z∈askE g M (Jw g lvl M i) i):jjm g lvl M (sesL g (comL g).length++srcL g M (readH g).length++A):=by intro z;rw[aO,b];simp only[aO,sesL,srcL,cg,aJ,aH];constructor;rintro((⟨i,a,h⟩|⟨i,a,rfl⟩)|⟨i,a,h⟩);exact .inl ⟨i,a,h⟩;exact .inr ⟨i,a,.inl rfl⟩;exact .inr ⟨i,a,.inr h⟩;rintro(⟨i,a,h⟩|⟨i,a,h|h⟩);exact .inl (.inl ⟨i,a,h⟩);exact .inl (.inr ⟨i,a,h.symm⟩);exact .inr ⟨i,a,h⟩
theorem j8d (m:jaj g M=true):InG g.ts.length (revE g.ts.length (sesL g (comL g).length++srcL g M (readH g).length)):=by
 intro z k;unfold revE at k;simp only[aJ,bV,decide_eq_true_eq]at k;obtain⟨p,⟨l,d⟩,rfl⟩:=k;obtain⟨a,b,rfl,t,s⟩:=jmo m (jim g M) p l;simp only at d ⊢;refine⟨b,a,rfl,?_,zO⟩;rcases cu b g.ts.length with h|h;exact h;have r:b=g.ts.length:=zO;have j:satB g 0 M a b=true:=by
  have:((a:Int),(b:Int))∈jY (g.ts.length+1) (satB g 0 M):=by rw[<- Q7 m (jim g M),compP_mem,(X8 _).mem_iff];exact l
  obtain⟨x,y,_,_,h,e⟩:=edgesOf_mem.1 this;have u:(a:Int)=x:=congrArg Prod.fst e;have o:(b:Int)=y:=congrArg Prod.snd e;rw[show a=x by omega,show b=y by omega];exact h
 unfold satB at j;have n:XP g b=false:=by cases h:XP g b;rfl;have:=Yu h;omega
 rw[n,dC,cp,dC,bZ,bZ,cp]at j;obtain⟨i,f,h⟩:=bx.1 j;have f:=aH.1 f;rw[jev,show askE g M [] i=[] from rfl]at h;simp only[List.contains_nil,bq,beq_iff_eq]at h;obtain⟨c,n,_,q⟩:=jhb f;have o:((readH g).getD i (0,0)).1=(b:Int):=congrArg Prod.snd h;omega
end
structure SeenF (g:Hist') (lvl:Int) (M:List Int) (mv rv:V) (kX uX ub0:Nat) (K:Nat->Prop) (ob0:ZO) (f:FuncId) (cap:List V):Prop where
 sh:E.sh true f=false
 np:(cap.all λv=>v.strip.pureTop)=false
 ev:∀i,i<(readH g).length->∀ (ob':ZO) (ub':Nat) (tk:Nat->Bool) (base:Nat),ub0<=ub'->(∃lv,ob' kX=some ⟨uX,.cells (mkS g mv rv lv)⟩)->(∀key,K key->ob' key=ob0 key) ->
  ∃v,EvO E f (.int .i64 (i:Int)::cap) ob' tk base ub' v/\∃l,(∀x,x∈l ↔ x∈Jw g lvl M i)/\l.length<=100/\j1j l v
def jr7 (ub kX:Nat) (lv:V) (Z:List P2) (key:Nat):Prop:=Off ub key/\key≠kX/\j1i lv Z key
section
variable {g:Hist'}{M:List Int}{lvl:Int}{mn rn:Bool}{rt:Option (Nat × Nat)}{kX uX lo:Nat}{ob:ZO}{ub:Nat}{lv:V}
theorem jkb {Z:List P2}{ob:ZO}(b:EdV ob lo ub lv Z) (c:Off lo kX) (f:lo<=ub) {u nx:Nat}(i:ub<=u) (d:u<nx):jr7 nx kX lv Z (2*u+1):=by
 refine⟨Off.new d,λe=>c u zO e.symm,λw a=>?_⟩;rcases b with⟨rfl,_⟩|⟨v,rfl,_,_,h⟩;cases a;have:v=w:=by injection a
 omega
theorem sv90 {Yf:YF}{tk:Nat->Bool}{ro base:Nat}(hX:ob kX=some ⟨uX,.cells (mkS g (slOf mn intC M) (rdV rt rn (readH g)) lv)⟩) (H:EdV ob lo ub lv (sesL g (comL g).length++srcL g M (readH g).length)) (b:Off lo kX) (j:lo<=ub) (a0:ro<=lo) (n:jaj g M=true) (T:g.ts.length<=8) (hR:(readH g).length<=100) (P:lvl=1\/lvl=2) :
 ∃r,EvS E Yf.y 90 [.ptr kX uX 0,.int .i64 lvl] ob tk ro base ub r/\ub<=r.2.2.2/\(∀c,Off ub c->r.2.1 c=ob c)/\∃f q,r.1=.fn (.func f) [] q/\SeenF g lvl M (slOf mn intC M) (rdV rt rn (readH g)) kX uX r.2.2.2 (jr7 r.2.2.2 kX lv (sesL g (comL g).length++srcL g M (readH g).length)) r.2.1 f q:=by
 have b6:=jby g;have hl:(sesL g (comL g).length++srcL g M (readH g).length).length<=10000:=by rw[au,jif];have:=QU g 8 (comL g).length zO;have:(comL g).length*(8+1)<=8*9:=bc 9 zO;omega
 have o:=j8d n;have b5:=jok g.ts.length (sesL g (comL g).length++srcL g M (readH g).length);have D:=fun {i:Nat}(l:i<(readH g).length) {w:Nat}=>jqv (w:=w) n T l;generalize sesL g (comL g).length++srcL g M (readH g).length=Z at *;have oX:=(b.up j).ne;refine Ja (af:=S90) rfl zQ ?_;show wpC E Yf S90.body _ (XD S90.res _);rcases P with rfl|rfl
 ·conv in (occs := *) S90=> all_goals cbv
  simp(disch:=first|(simp;done)|omega) [S90,V.cells,V.leaf];refine Xc zS ⟨zL,λc b=>?_,140,[.ptr (2*ub+1) ub 0],zS,rfl,rfl,λi l s d tk base K e F=>?_⟩;have:=b.ne;simp(disch:=first|(simp;done)|omega) [this];have p:ub<d:=by first|omega|(simp at K;omega)
  have B:=F (2*ub+1) (jkb H b j zK zL);exact⟨_,evo140 n (u2:=ub) (by rw[B];simp) p e (b.up zO) zO l _ _,_,λx=>j34 n x,bG (jtq _ _ _ _) hR,WE _⟩
 ·conv in (occs := *) S90=> all_goals cbv
  simp(disch:=first|(simp;done)|omega) [S90,V.cells,V.leaf,objCells];refine jV (vs:=[.ptr kX uX 0]) zS rfl (sv138 (g:=g) (lo:=lo) (mv:=slOf mn intC M) (rv:=rdV rt rn (readH g)) (L:=Z) ⟨lv,?_,H.frame (λu _ h=>?_) ?_⟩ b ?_ ?_ zO) ?_;simp(disch:=first|(simp;done)|omega) [oX,hX];have:∀m,ub<=m->¬ u=m:=λm n=>by omega
  simp(disch:=first|(simp;done)|omega) [two_inj,this]
  ·first|omega|(simp;done)|(simp;omega)
  ·first|omega|(simp;done)|(simp;omega)
  ·first|omega|(simp;done)|(simp;omega)
  rintro v1 J X a ⟨S,u3,rfl,Q,N,I⟩;simp only at Q N I;have b0:=N.h;have U:ub<S:=by first|omega|(simp at Q;omega)
  have O:J (2*ub+1)=some ⟨ub,.cells [.ptr kX uX 0]⟩:=by rw[I _ (Off.new zL)];simp
  simp(disch:=first|(simp;done)|omega) [V.cells,V.leaf,objCells,j2];refine⟨zO,?_⟩;refine Xc zS ⟨zL,λc b=>?_,139,[.ptr (2*a+1) a 0,.ptr (2*ub+1) ub 0],zS,rfl,rfl,λi l s d tk base K e F=>?_⟩;have t:=(b.up (show ub<=a by omega)).ne;simp(disch:=first|(simp;done)|omega) [t];rw[I _ (b.up zL)];have:=b.ne;simp(disch:=first|(simp;done)|omega) [this];have p:a<d:=by first|omega|(simp at K;omega)
  have k:=λ(u:Nat) (t:ub<=u) (B:u<=a)=>F (2*u+1) (jkb H b j t zL);have G:PastO kX uX (revE g.ts.length Z) S u3 a s:=N.keep (λu t B=>by
   rw[k u zO zO];have:∀m,a<=m->¬ u=m:=λm n=>by omega
   simp(disch:=first|(simp;done)|omega) [two_inj,this]) zK
  obtain⟨v,hv,w,z,hn⟩:=evo139 (M:=M) (mn:=mn) (rt:=rt) (rn:=rn) (u5:=a) (u2:=ub) (ub:=d) G zO (by rw[k a zO zO];simp) (by
   rw[k ub zO zO];simp(disch:=first|(simp;done)|omega) [two_inj,show ¬ ub=a by omega,O]) zO zO e (b.up zO) T o zO l tk base
  refine⟨v,hv,_,λx=>D l z x,?_,hn⟩;rw[jW];have:=jee w;omega
end
end Go.Pv.T
