/- Part. -/
import Derived.Test.YtmanndcfeicokaaGreatDoorRI
set_option maxRecDepth 100000
set_option maxHeartbeats 8000000
set_option linter.all false
namespace Go.Pv.T
open Go Go.Pv
def ev67 {g:Hist'}(hs:Small g) {nl on:Bool}{M O:List Int}(hM:M.length=(yi g).length) (hO:O.length<=1000000) (lvl:Int) {q:Nat}(hq:q<(yi g).length) {t:Nat}(ht:t<g.ts.length) (j:((yi g)[q]).1=t) :
 ∃v,Ev E 67 [.int .i64 lvl,.agg (yb g),yl nl yf M,yl on yf O,.int .i64 (q:Int)] v/\SlR v false (jdn g lvl M O (yi g)[q]).length ((jdn g lvl M O (yi g)[q]).flatMap yf):=by
 have f5:=hs.ts;have f2:=YP hs;obtain⟨vr,d3,d9⟩:=ev64 hs;obtain⟨vp,d7,b7⟩:=ev108 hs (nl:=nl) hM ht;refine JX rfl zQ ?_;obtain⟨p,hp⟩:∃p,(yi g)[q]=p:=⟨_,rfl⟩;have b9:=jxm (yi g) hq;have f4:=jd jS (λ_=>none) (yi g) hq;rw[hp]at j b9 ⊢;obtain⟨F,hF⟩:∃F,(λi=>jdm g lvl M O p i)=F:=⟨_,rfl⟩;have m:∀i,jdm g lvl M O p i=F i:=λi=>congrFun hF i;have hL:jdn g lvl M O p=YC F g.ts.length:=by unfold jdn;rw[<- hF]
 rw[hL];have e8:lvl=1->∀i:Nat,F i=rcB (yi g) M p i:=λh i=>by rw[<- m];simp[jdm,h]
 have e7:lvl=2->∀i,F i=farB g M t i:=λh i=>by rw[<- m];simp[jdm,h,j]
 have c9:lvl=3->∀i:Nat,F i=(Ju g i&&decide (atO O i<atO O t)):=λh i=>by rw[<- m];simp[jdm,h,j]
 have e0:lvl≠1->lvl≠2->lvl≠3->∀i,F i=false:=λh1 h2 h3 i=>by rw[<- m];simp[jdm,h1,h2,h3]
 clear m hF;obtain⟨B,hB⟩:∃B,(List.range g.ts.length).map (farB g M t)=B:=⟨_,rfl⟩;rw[hB]at b7;have d6:B.length=g.ts.length:=by rw[<- hB];simp
 have e6:∀i (h:i<B.length),B[i]=farB g M t i:=λi h=>by simp[<- hB]
 clear hL;generalize yi g=R at *;conv in(occs:=*)F67=>all_goals cbv
 simp[yb,ya];refine jH d3 zI rfl zI ?_;refine Jw d9 λtr f1=>?_;simp;refine jF (cs:=[]) rfl rfl rfl ?_;have b6:=λob=>Ys R ob hq;simp only[hp]at b6;simp[ya,hq,JD jS,b6,j2];simp only[j]at b6 b9;simp[j];refine jH d7 zH rfl zI ?_;rw[<- d6]at b7;refine Jw b7 λtp f0=>?_;simp;refine jQ λH e=>?_;have g0:H.tm 0=.int .i64 lvl:=by rw[e];simp
 have g2:H.tm 2=yl nl yf M:=by rw[e];simp
 have g3:H.tm 3=yl on yf O:=by rw[e];simp
 have g6:H.tm 6=.ptr 12 0 0:=by rw[e];simp
 have d0:H.tm 11=.sl tr false R.length (R.flatMap jC):=by rw[e];simp
 have e4:H.tm 13=.ptr 26 704 0:=by rw[e];simp
 have d5:H.tm 14=.sl tp false B.length (B.flatMap blC):=by rw[e];simp
 have d1:H.tm 15=.int .i64 0:=by rw[e];simp
 have d8:H.ob 12=some ⟨0,.cells (yb g)⟩:=by rw[e];simp[yb]
 have d2:H.ob 26=some ⟨704,.cells [.int .i64 (t:Int),.int .i64 p.2]⟩:=by rw[e];simp
 have gG:GrowT H.tk H.nx yf 1 (YC F 0) (H.tm 12):=by rw[e];exact⟨_,by simp[YC];rfl,by simp[jb],zS⟩
 have gd:H.df=[]:=by rw[e];simp
 have gr:H.ro=0:=by rw[e];simp
 have gb:H.fb=0:=by rw[e];simp
 clear e;obtain⟨I,hI⟩:∃I:Nat->St->Prop,I=λi s=>s.tm 15=.int .i64 i/\s.ob 12=some ⟨0,.cells (yb g)⟩/\s.ob 26=some ⟨704,.cells [.int .i64 (t:Int),.int .i64 p.2]⟩/\GrowT s.tk s.nx yf 1 (YC F i) (s.tm 12):=⟨_,rfl⟩;refine j5 [(12,12),(15,17),(31,105)] g.ts.length I rfl rfl (by
  rw[hI];exact⟨zU d1,d8,d2,gG⟩) ?_
 intro i s hi c4 f;rw[hI]at c4;obtain⟨w,L,b5,hG⟩:=c4;have s0:s.tm 0=.int .i64 lvl:=by rw[f.t 0 zS];simp[g0]
 have s2:s.tm 2=yl nl yf M:=by rw[f.t 2 zS];simp[g2]
 have s3:s.tm 3=yl on yf O:=by rw[f.t 3 zS];simp[g3]
 have s6:s.tm 6=.ptr 12 0 0:=by rw[f.t 6 zS];simp[g6]
 have d4:s.tm 11=.sl tr false R.length (R.flatMap jC):=by rw[f.t 11 zS];simp[d0]
 have c8:s.tm 13=.ptr 26 704 0:=by rw[f.t 13 zS];simp[e4]
 have e5:s.tm 14=.sl tp false B.length (B.flatMap blC):=by rw[f.t 14 zS];simp[d5]
 have sd:s.df=[]:=by rw[f.d];simp[gd]
 have sr:s.ro=0:=by rw[f.r];simp[gr]
 have sb:s.fb=0:=by rw[f.b];simp[gb]
 clear f;by_cases D:i<g.ts.length;have hw:=jR D zO;have f3:=jg3 F i;simp[w,s6,L,ya,yb,D,s0];generalize c6:jvy E YT _ _=KK;have z:∀x:St,x.tm 16=.bool (F i)->x.tm 15=.int .i64 i->x.ob=s.ob->x.tk=s.tk->s.nx<=x.nx->x.tm 12=s.tm 12->KK .nrm x:=by
  intro x o J S xk xn b0;rw[<- c6];clear c6;have n:YC F (i+1)=YC F i++(if F i then [(i:Int)] else []):=rfl;cases hf:F i;rw[hf]at o n;simp only[ag,zc,aL]at n;simp[o,J,hw,D];rw[hI];refine⟨zS,by simp[S,L],by simp[S,b5],?_⟩;rw[n];simpa[b0,xk] using hG.mono (nx':=x.nx+64+64+64+64) (λ_ _ h=>h) zO;rw[hf]at o n;simp only[zd]at n;simp[o,J];refine jF (cs:=yf i) (by simp[j2,yf]) rfl rfl ?_;simp[yf];refine Y9 (hi:=s.nx) (f:=yf) (l:=YC F i) (a:=(i:Int)) (v:=s.tm 12) (hG.mono (λu _ h=>by simp[jb,xk,h]) zK) (by simp[b0]) (by simp[yp,yf]) j6 zQ (by simp[yf,V.pureLeaf]) zO zO (λf6 e9=>?_);rw[<- n];have c0:(YC F i).length+1=(YC F (i+1)).length:=by rw[n];simp
  rw[c0];obtain⟨Q,hQ⟩:∃Q,YC F (i+1)=Q:=⟨_,rfl⟩;rw[hQ];simp[J,hw,D];rw[hI];refine⟨zS,by simp[S,L],by simp[S,b5],?_⟩;rw[hQ];exact⟨_,by simp;rfl,by simp[jb],zS⟩
 by_cases e1:lvl=1;simp[e1];have hc:=e8 e1 i;unfold rcB at hc;refine j5 [(16,17),(41,75)] R.length (λk x=>x.tm 17=.int .i64 k/\(∃X,x.tm 16=.bool X/\(X||((R.drop k).zip (M.drop k)).any λy=>y.1.1==p.1&&(decide (y.1.2<p.2)&&y.2==(i:Int)))=F i)/\x.ob=s.ob/\x.tk=s.tk/\s.nx<=x.nx) rfl rfl ⟨zS,⟨false,zS,zU hc.symm⟩,zS,zS,by simp;omega⟩ ?_;rintro k x hk ⟨K,⟨X,o,c⟩,S,xk,xn⟩ f;have J:x.tm 15=.int .i64 i:=by rw[f.t 15 zS];simp[w]
 have x2:x.tm 2=yl nl yf M:=by rw[f.t 2 zS];simp[s2]
 have N:x.tm 11=.sl tr false R.length (R.flatMap jC):=by rw[f.t 11 zS];simp[d4]
 have Z:x.tm 13=.ptr 26 704 0:=by rw[f.t 13 zS];simp[c8]
 have b0:x.tm 12=s.tm 12:=by rw[f.t 12 zS];simp
 clear f;have U:x.ob 26=some ⟨704,.cells [.int .i64 (t:Int),.int .i64 p.2]⟩:=by rw[S];exact b5
 by_cases G:k<R.length;have T:=jR G zO;have a0:k<M.length:=zO;have h1:=jn M a0;have h2:=jxm R G;rw[aP G,aP a0,gy,bp,<- Bool.or_assoc]at c;rw[j]at c;cases X;cases P:((R[k]).1==(t:Int));rw[P]at c;simp[K,o,N,Z,U,ya,G,JD jS,h2,P,T];exact⟨by simpa[j] using c,S,xk,zO⟩;by_cases c2:(R[k]).2<p.2;cases c3:(M[k]==(i:Int));rw[P,c3,zi c2]at c;simp[K,o,N,Z,U,x2,J,ya,G,a0,JD jS,j4 j6,h1,h2,P,c2,c3,T];exact⟨by simpa[j] using c,S,xk,zO⟩;rw[P,c3,zi c2]at c;simp[K,o,N,Z,U,x2,J,ya,G,a0,JD jS,j4 j6,h1,h2,P,c2,c3,T];exact⟨by simpa[j] using c,S,xk,zO⟩;rw[P,decide_eq_false c2]at c;simp[K,o,N,Z,U,ya,G,JD jS,h2,P,c2,T];exact⟨by simpa[j] using c,S,xk,zO⟩;simp[K,o,N,G,T];exact⟨by simpa[j] using c,S,xk,zO⟩;have:k=R.length:=zO;subst this;rw[dk]at c;simp at c;simp[K,N];exact z _ (by simp[o,c]) (by simp[J]) (by simp[S]) (by simp[xk]) zP (by simp[b0]);have b1:(lvl==1)=false:=by simpa using e1
 by_cases e2:lvl=2;have c5:=bl_at B (i:=i) zO;rw[e6 i zO,<- e7 e2 i]at c5;have b8:=JD jqg tp false B .i64 (i:=i) zO;rw[bx]at b8;simp[e2,e5,w,b8,c5];exact z _ zS (by simp[w]) zS zS zP zS;have b2:(lvl==2)=false:=by simpa using e2
 by_cases e3:lvl=3;have c7:(g.ts.flatMap jf)[i*3+1]? = some (.int .i64 (g.ts[i]).f):=by rw[jO j7 g.ts D (by decide:1<3)];rfl
 have m:=c9 e3 i;rw[jk1 D]at m;have ea:=ev66 (a:=on) O zO (i:Int);have eb:=ev66 (a:=on) O zO (t:Int);cases P:((g.ts[i]).f==1);rw[P,bH]at m;simp[e3,s6,L,ya,yb,w,D,j4 j7,c7,P];exact z _ (by simp[m]) (by simp[w]) zS zS zP zS;rw[P,bO]at m;simp[e3,s6,L,ya,yb,w,D,j4 j7,c7,P,s3];refine X5 ea zS rfl zS ?_;simp[c8,b5,ya,s3];refine X5 eb zS rfl zS ?_;simp;exact z _ (by simp[m]) (by simp[w]) zS zS zP zS;have b3:(lvl==3)=false:=by simpa using e3
 simp[b1,b2,b3];exact z _ (by simp[e0 e1 e2 e3]) (by simp[w]) zS zS zP zS;have:i=g.ts.length:=zO;subst this;obtain⟨u,hu,_,_⟩:=hG;simp[w,s6,L,ya,yb];exact slE (t:=some (u,1)) (nl:=false) (k:=(YC F g.ts.length).length) (cs:=(YC F g.ts.length).flatMap yf) (λr h=>h) (by simp[sd]) (by simp[hu])
def Xe (g:Hist'):(ym g).length<=g.ts.length:=Jk Jq g.ts g.ts.length
def jf4 {g:Hist'}(b:Yt g=true) {q:Nat}(c:q<(yi g).length):∃(i k:Nat) (hi:i<g.ts.length) (a:k<(g.ts[i]).ops.length),(yi g)[q]=((i:Int),(k:Int))/\Wx g (yi g)[q]=((g.ts[i]).ops[k]).key/\Ju g i=true:=by
 obtain⟨i,k,t,e,d,f,a,_⟩:=jf6 (au c);obtain⟨hi,rfl⟩:=ak.1 d;refine⟨i,k,hi,a,e,?_,by simpa[Ju,hi] using f⟩;rw[e];have:opAt g (i:Int) (k:Int)=some (g.ts[i]).ops[k]:=by unfold opAt;simp[b,hi,a,ay]
 unfold Wx;simp only[this]
def Yz {g:Hist'}(h:jP g=true):Yt g=true:=by unfold jP at h;simp only[aj]at h;exact h.1
def Off (ub key:Nat):Prop:=∀m,ub<=m->¬key=2*m+1
def Off.up {ub a key:Nat}(h:Off ub key) (c:ub<=a):Off a key:=λm b=>h m (bI c b)
def Off.new {ub m:Nat}(h:m<ub):Off ub (2*m+1):=λk a e=>by omega
def Was (ub:Nat) (ob ob':ZO):Prop:=∀key,Off ub key->ob' key=ob key
def Was.trans {ub d:Nat}{ob c b:ZO}(h:Was ub ob c) (f:Was d c b) (g:ub<=d):Was ub ob b:=λa e=>(f a (e.up g)).trans (h a e)
def Was.refl (ub:Nat) (ob:ZO):Was ub ob ob:=λ_ _=>rfl
def jvz {l u n x sz:Nat}{kk:IntKind}(a:x<n):jv sz (.osl l u 0 n sz) (.int kk (x:Int))=some (.ptr l u (x*sz)):=by simp[jv,a]
def JF {a b:Nat}(h:¬a=b):Nat.beq a b=false:=by cases e:Nat.beq a b;rfl;exact zf (br e) h
end Go.Pv.T
namespace Go.Pv.T
open Go Go.Pv
end Go.Pv.T
namespace Go.Pv.T
open Go Go.Pv
def yj {a b:Nat}:(2*a=2*b)=(a=b):=zj ⟨λh=>by omega,λh=>by rw[h]⟩
def j2l {l u o:Nat}:(V.ptr l u o).leaf=true:=rfl
def rdC (r:Int×Int×Int):List V:=[.int .i64 r.1,.int .i64 r.2.1,.int .i64 r.2.2]
def joz (r:Int×Int×Int):(rdC r).length=3:=rfl
structure WN where
 kW:Nat
 uW:Nat
 kR:Nat
 uR:Nat
 kA:Nat
 uA:Nat
 kL:Nat
 uL:Nat
 kS:Nat
 uS:Nat
 kP:Nat
 uP:Nat
section
variable {g:Hist'}{lvl:Int}{M:List Int}{N:WN}{A L S:List (Int × Int)}{P:Int->List Int}{ob ob':ZO}{ub ub':Nat}
def Off.ne {key:Nat}(h:Off ub key):∀m,ub<=m->¬key=2*m+1:=h
end
end Go.Pv.T
namespace Go.Pv.T
abbrev R3:Type:=Option (List Nat)×Bool×List Nat
def loopM (rec:Nat->List Nat->List Nat->R3) (nx:Nat->Nat->Bool) (w:Nat) (done:List Nat):List Nat->List Nat->R3
 |[],vis=>(none,false,vis)
 |t::r,vis=>if w.testBit t||(!nx w t||vis.contains (w|||1<<<t)) then loopM rec nx w done r vis else
  match rec (w|||1<<<t) (done++[t]) vis with
  |(none,false,v)=>loopM rec nx w done r v
  |x=>x
def onM (nx:Nat->Nat->Bool) (C:List Nat) (most:Int):Nat->Nat->List Nat->List Nat->R3
 |0,w,done,vis=>if (vis.length:Int)=most then (none,true,vis) else (some done,false,vis++[w])
 |n+1,w,done,vis=>if (vis.length:Int)=most then (none,true,vis) else loopM (onM nx C most n) nx w done C (vis++[w])
def jn0 (w t a:Nat):(w|||1<<<t).testBit a=(w.testBit a||decide (t=a)):=by rw[Nat.testBit_or,Nat.one_shiftLeft,Nat.testBit_two_pow]
section
variable {nx:Nat->Nat->Bool}{C:List Nat}{most:Int}
def j6v (C vis:List Nat):Prop:=vis.Nodup/\∀v∈vis,∀t,v.testBit t=true->t∈C
def jgp {n:Nat}(g:C.Nodup) {w:Nat}(d:∀t,w.testBit t=true->t∈C)
 (e:∀w done vis,(∀t,w.testBit t=true->t∈C)->w ∉ vis->j6v C vis->j6v C (onM nx C most n w done vis).2.2) :
 ∀(r vis done:List Nat),(∀t∈r,t∈C)->j6v C vis->j6v C (loopM (onM nx C most n) nx w done r vis).2.2
 |[],vis,done,_,h=>h
 |t::r,vis,done,hr,h=>by
  rw[loopM];split
  ·exact jgp g d e r vis done (λa b=>hr a (List.mem_cons_of_mem _ b)) h
  ·rename_i f;simp only[Bool.or_eq_true,Bool.not_eq_true',not_or,Bool.not_eq_true,Bool.not_eq_false,List.contains_eq_mem,decide_eq_false_iff_not]at f;have c:=e (w|||1<<<t) (done++[t]) vis (λa b=>by
    rw[jn0,Bool.or_eq_true]at b;rcases b with b|b;exact d a b;exact(of_decide_eq_true b)▸hr t (List.mem_cons_self ..)) f.2.2 h
   rcases i:onM nx C most n (w|||1<<<t) (done++[t]) vis with⟨o,j,v⟩;rw[i]at c;cases o with
   |some l=>exact c
   |none=>
    cases j with
    |true=>exact c
    |false=>exact jgp g d e r v done (λa b=>hr a (List.mem_cons_of_mem _ b)) c
def jx0 (g:C.Nodup):∀(n w:Nat) (done vis:List Nat),(∀t,w.testBit t=true->t∈C)->w ∉ vis->j6v C vis->j6v C (onM nx C most n w done vis).2.2
 |n,w,done,vis,hw,c,h=>by
  have d:j6v C (vis++[w]):=by refine⟨?_,λv c=>?_⟩;rw[List.nodup_append];exact⟨h.1,by simp,λa i b f e=>c (by rw[List.mem_singleton]at f;rw[<- f,<- e];exact i)⟩;rcases List.mem_append.1 c with c|c;exact h.2 v c;rw[List.mem_singleton.1 c];exact hw
  cases n with
  |zero=>rw[onM];split;exact h;exact d
  |succ n=>
   rw[onM];split;exact h
   ·exact jgp g hw (λw done vis=>jx0 g n w done vis) C _ done (λ_ h=>h) d
def jpp:∀{O C:List Nat},O.Nodup->(∀x∈O,x∈C)->O.length<=C.length
 |[],_,_,_=>Nat.zero_le _
 |x::r,C,hn,hs=>by rw[List.nodup_cons]at hn;have a:=hs x (List.mem_cons_self ..);have:=jpp (O:=r) (C:=C.erase x) hn.2 λy b=>(List.mem_erase_of_ne λ(e:y=x)=>hn.1 (e▸b)).2 (hs y (List.mem_cons_of_mem _ b));rw[List.length_erase_of_mem a]at this;have c:0<C.length:=List.length_pos_of_mem a;simp only[List.length_cons];omega
def allW:List Nat->List Nat
 |[]=>[0]
 |t::C=>allW C++(allW C).map λw=>w|||1<<<t
def js8:∀(C:List Nat),(allW C).length=2^C.length
 |[]=>rfl
 |t::C=>by simp only[allW,List.length_append,List.length_map,js8 C,List.length_cons,Nat.pow_succ];omega
def jk8:∀{C:List Nat}{w:Nat},C.Nodup->(∀t,w.testBit t=true->t∈C)->w∈allW C
 |[],w,_,h=>by
  have:w=0:=Nat.eq_of_testBit_eq λi=>by rw[Nat.zero_testBit];cases d:w.testBit i;rfl;cases h i d
  simp[allW,this]
 |c::C,w,hn,h=>by rw[List.nodup_cons]at hn;rw[allW,List.mem_append,List.mem_map];by_cases b:w.testBit c=true;refine .inr ⟨w ^^^ 1<<<c,jk8 hn.2 λt a=>?_,Nat.eq_of_testBit_eq λi=>?_⟩;rw[Nat.testBit_xor,Nat.one_shiftLeft,Nat.testBit_two_pow]at a;by_cases e:c=t;subst e;simp[b]at a;simp only[e,decide_false,Bool.bne_false]at a;rcases List.mem_cons.1 (h t a) with h|h;exact absurd h.symm e;exact h;rw[jn0,Nat.testBit_xor,Nat.one_shiftLeft,Nat.testBit_two_pow];by_cases e:c=i;subst e;simp[b];simp[e];refine .inl (jk8 hn.2 λt a=>?_);rcases List.mem_cons.1 (h t a) with h'|h';subst h';exact absurd a b;exact h'
def j3h (b:C.Nodup) {vis:List Nat}(h:j6v C vis):vis.length<=2^C.length:=by rw[<- js8];exact jpp h.1 λv a=>jk8 b (h.2 v a)
end
end Go.Pv.T
namespace Go.Pv.T
open Go Go.Pv
def yv (w:Nat):List V:=[.int .u64 w,.int .u64 0,.int .u64 0,.int .u64 0,.int .u64 0,.int .u64 0,.int .u64 0,.int .u64 0]
def jcg:yv 0=setZ:=rfl
def jp3 {n:Nat}(h:n<64):IntKind.i64.wrap ((n:Int)/64)=0:=by rw[show(n:Int)/64=0 by omega];rfl
def jp2 {n:Nat}(h:n<64):(n:Int).tmod 64=n:=Int.tmod_eq_of_lt zO zO
def j7a {w n:Nat}(a:n<64):YL .shr (.int .u64 (w:Int)) (.int .i64 (n:Int))=some (.int .u64 ((w>>>n:Nat):Int)):=by simp only[YL,jah];rw[za zO];congr 2;rw[ba,show IntKind.u64.bits=64 from rfl,cE (gC a),im,il _ (Int.le_of_lt (Int.pow_pos zQ))];simp
def jjq {n:Nat}(h:n<64):YL .shl (.int .u64 1) (.int .i64 (n:Int))=some (.int .u64 ((1<<<n:Nat):Int)):=by have b:2^n<2^64:=dU zQ h;have:=jwg (a:=1) (k:=n) rfl zO zO;rw[da];rw[Nat.one_mul]at this;exact this
def bit_has (w n:Nat):((((w>>>n)&&&1:Nat):Int)==1)=w.testBit n:=by rw[Nat.testBit,Nat.and_comm 1,Nat.and_one_is_mod];rcases ij (w>>>n) with h|h<;>rw[h]<;>rfl
def u64_lt {w n:Nat}(a:w<2^64):w>>>n<2^64:=by rw[im];exact Nat.lt_of_le_of_lt (Nat.div_le_self _ _) a
def jrx {n:Nat}(h:n<64):1<<<n<2^64:=by rw[da];exact dU zQ h
def or_lt {w n:Nat}(a:w<2^64) (h:n<64):w|||1<<<n<2^64:=dJ a (jrx h)
def jvg (w n:Nat):Nat:=(BitVec.ofNat 64 w &&& ~~~ BitVec.ofNat 64 (1<<<n)).toNat
def j44 {w n:Nat}(b:w<2^64) (c:n<64) (h:w.testBit n=false):jvg (w|||1<<<n) n=w:=by unfold jvg;refine eU λi=>?_;rw[BitVec.testBit_toNat,BitVec.getLsbD_and,BitVec.getLsbD_not,BitVec.getLsbD_ofNat,BitVec.getLsbD_ofNat,jn0,da,fe];by_cases a:i<64;by_cases e:n=i;subst e;simp[h];simp[a,e];have:w.testBit i=false:=dq (aX b (bY zQ zO));simp[a,this]
def jtt {a b:Nat}:YL .andNot (.int .u64 (a:Int)) (.int .u64 (b:Int))=some (.int .u64 (((BitVec.ofNat 64 a &&& ~~~ BitVec.ofNat 64 b).toNat:Nat):Int)):=by simp only[YL,Xb,zd];rw[show IntKind.u64.bits=64 from rfl,dW,dW,IntKind.wrap_u64];congr 2;have:=(BitVec.ofNat 64 a &&& ~~~ BitVec.ofNat 64 b).isLt;omega
@[simp] theorem eqVV_pn (ob:ZO) (neg:Bool) (l u o:Nat):j07 ob neg .ptr (.ptr l u o) .nilptr=some (.bool (xor neg false)):=rfl
@[simp] theorem idxArr0 (k u:Nat):Wj 8 1 (.ptr k u 0) (.int .i64 0)=some (.ptr k u 0):=rfl
section
variable {ob:ZO}{ub k u w n:Nat}
def ev291 (a:n<500):Ev E 291 [.int .i64 (n:Int)] (.bool true):=by
 refine jT rfl ?_;conv in(occs:=*)F291=>all_goals cbv
 simp;exact j3 zS zP rfl
def j0a (a:n<500) (tk:Nat->Bool) (base:Nat):EvO E 255 [.ptr k u 0,.int .i64 (n:Int)] ob tk base ub (.int .i64 0):=by
 refine jr rfl ?_;conv in(occs:=*)S255=>all_goals cbv
 simp;refine jH (ev291 a) zS rfl zS ?_;simp;exact j3 zS zS rfl
def jg5 (h:ob k=some ⟨u,.cells (yv w)⟩) (i:Off ub k) (c:n<64) (f:w<2^64) (tk:Nat->Bool) (base:Nat):EvO E 211 [.ptr k u 0,.int .i64 (n:Int)] ob tk base ub (.bool (w.testBit n)):=by
 refine jr rfl ?_;have g:=i.ne;conv in(occs:=*)S211=>all_goals cbv
 simp;refine jN (vs:=[.ptr k u 0,.int .i64 n]) zS rfl rfl (j0a zO _ _) ?_;have d:=j7a (w:=w) c;have a:=jom (m:=1) (b:=1) rfl (u64_lt (n:=n) f) zQ;have e:=bit_has w n;generalize w>>>n&&&1=z at a e;generalize w>>>n=q at d a;simp(disch:=try exact zD)[jp3 c,jp2 c,ya,g,h,yv,d,a,e];exact j3 zS zS rfl
def PutR (ob:ZO) (ub k u w:Nat) (r:V×(ZO)×(Nat->Bool)×Nat):Prop :=
 r.1=.int .i64 0/\(∀key,Off ub key->r.2.1 key=if key=k then some ⟨u,.cells (yv w)⟩ else ob key)/\ub<=r.2.2.2
def jtu {Yf:YF}{tk:Nat->Bool}{ro base:Nat}(b:ob k=some ⟨u,.cells (yv w)⟩) (i:Off ub k) (d:ro<=u) (a:n<64) (h:w<2^64) :
 ∃r,EvS E Yf.y 209 [.ptr k u 0,.int .i64 (n:Int)] ob tk ro base ub r/\PutR ob ub k u (w|||1<<<n) r:=by
 refine J6 rfl zQ ?_;show wpC E Yf S209.body _ (Jh S209.res _);have g:=i.ne;conv in(occs:=*)S209=>all_goals cbv
 simp;refine jN (vs:=[.ptr k u 0,.int .i64 n]) zS rfl rfl (j0a zO _ _) ?_;have e:=jjq a;have c:=jfm h (jrx a);generalize w|||1<<<n=z at c ⊢;generalize 1<<<n=q at e c;simp(disch:=try exact zD)[jp3 a,jp2 a,ya,g,b,yv,e,c,j2];refine⟨d,JN zS ⟨zS,λf b=>?_,by simp;omega⟩⟩;have g:=b.ne;simp(disch:=try exact zD)[g,yg,yv]
def sv213 {Yf:YF}{tk:Nat->Bool}{ro base:Nat}(d:ob k=some ⟨u,.cells (yv w)⟩) (j:Off ub k) (f:ro<=u) (e:n<64) :
 ∃r,EvS E Yf.y 213 [.ptr k u 0,.int .i64 (n:Int)] ob tk ro base ub r/\PutR ob ub k u (jvg w n) r:=by
 refine J6 rfl zQ ?_;show wpC E Yf S213.body _ (Jh S213.res _);have g:=j.ne;conv in(occs:=*)S213=>all_goals cbv
 simp;refine jN (vs:=[.ptr k u 0,.int .i64 n]) zS rfl rfl (j0a zO _ _) ?_;have h:=jjq e;have c:=jtt (a:=w) (b:=1<<<n);rw[show(BitVec.ofNat 64 w &&& ~~~ BitVec.ofNat 64 (1<<<n)).toNat=jvg w n from rfl]at c;generalize jvg w n=z at c ⊢;generalize 1<<<n=q at h c;simp(disch:=try exact zD)[jp3 e,jp2 e,ya,g,d,yv,h,c,j2];refine⟨f,JN zS ⟨zS,λi d=>?_,by simp;omega⟩⟩;have g:=d.ne;simp(disch:=try exact zD)[g,yg,yv]
def NewR (ob:ZO) (ub:Nat) (r:V×(ZO)×(Nat->Bool)×Nat):Prop :=
 ∃m,ub<=m/\m<r.2.2.2/\r.1=.ptr (2*m+1) m 0/\∀key,r.2.1 key=if key=2*m+1 then some ⟨m,.cells (yv 0)⟩ else ob key
def sv151n {Yf:YF}{tk:Nat->Bool}{ro base:Nat}:∃r,EvS E Yf.y 151 [.sl none true 0 []] ob tk ro base ub r/\NewR ob ub r:=by
 refine J6 rfl zQ ?_;show wpC E Yf S151.body _ (Jh S151.res _);conv in(occs:=*)S151=>all_goals cbv
 simp[V.cells];refine⟨1,?_⟩;simp;exact JN zS ⟨ub+128,zO,zS,zS,λa=>by simp[yv,yg,aA]⟩
end
def jpf (g:Hist') (M:List Int) (s:Nat->Bool) (t:Nat):Bool :=
 jec (λa=>!Ju g a||(!(yE g a==yE g t)||s a)) t&&((yi g).zip M).all λx=>
  if x.1.1=(t:Int) then decide (x.2<0)||s x.2.toNat else s x.1.1.toNat||(!(decide (x.2<0)||s x.2.toNat) || !Jp g t (Wx g x.1))
def nxM (g:Hist') (M:List Int) (w t:Nat):Bool:=jpf g M (λa=>w.testBit a) t
def yC (g:Hist'):List Nat:=(ym g).map Int.toNat
def yt (L:List Nat):List Int:=L.map λa:Nat=>(a:Int)
def jc5 (g:Hist'):yt (yC g)=ym g:=by unfold yt yC;rw[cM];refine(dw λx a=>?_).trans (ia _);obtain⟨k,rfl,_⟩:=comL_mem.1 a;simp
def comN_mem {g:Hist'}{a:Nat}:a∈yC g ↔ Ju g a=true:=by unfold yC;rw[aI];constructor;rintro⟨x,c,rfl⟩;obtain⟨k,rfl,b⟩:=comL_mem.1 c;simpa using b;exact λh=>⟨a,comL_mem.2 ⟨a,rfl,h⟩,zS⟩
def jqb (g:Hist'):(yC g).Pairwise (· < ·):=by have h:=j0l g;rw[<- jc5]at h;unfold yt at h;rw[gF]at h;exact h.imp λh=>by omega
def jjg (g:Hist'):(yC g).Nodup:=(jqb g).imp λh=>eM h
def jaz (g:Hist'):(yC g).length=(ym g).length:=by simp[yC]
def Y3 (w:Nat) (L:List Nat):Nat:=L.foldl (λw t=>w|||1<<<t) w
def js5 (a:Nat):∀(L:List Nat) (w:Nat),(Y3 w L).testBit a=(w.testBit a||L.contains a)
 |[],w=>by simp[Y3]
 |x::r,w=>by have:=js5 a r (w|||1<<<x);unfold Y3 at this ⊢;rw[ej,this,jn0,dD,Bool.or_assoc];congr 2;rw[bz,ze,zh];exact eq_comm
section
end
def yq (w:Nat):List Nat:=(List.range 9).filter λi=>w.testBit i
def jyv (w:Nat):Nat:=(yq w).headD 0
def bitsUp_mem {w a:Nat}:a∈yq w ↔ a<9/\w.testBit a=true:=by simp[yq]
def jhg:yq 0=[]:=rfl
def k_bits:((List.range 512).all λw=>w==0||(yq w==jyv w::yq (w&&&(w-1))&&decide (w&&&(w-1)<512)))=true:=by kernel_rfl
def jny {w:Nat}(a:w<512) (h:w≠0):yq w=jyv w::yq (w&&&(w-1))/\w&&&(w-1)<512:=by have:=aw.1 k_bits w (bf.2 a);simpa[h] using this
def k190:((List.range 512).all λw=>w==0||(match (yL E 2 noY).d 281 [.int .u64 (w:Nat)] with|some r=>V.eqb r (.int .i64 (jyv w:Nat))|none=>false))=true:=by kernel_rfl
def ev281 {w:Nat}(a:w<512) (h:w≠0):Ev E 281 [.int .u64 (w:Nat)] (.int .i64 (jyv w:Nat)):=by have:=aw.1 k190 w (bf.2 a);simp only[zh,bG,h,false_or]at this;split at this;rename_i r b;exact⟨2,by rw[b,jaa _ _ this]⟩;cases this
def low_lt {w:Nat}(a:w<512) (h:w≠0):jyv w<9:=by
 have:jyv w∈yq w:=by rw[(jny a h).1];exact aM ..
 exact(bitsUp_mem.1 this).1
def ja0 (w:Nat):(yq w).length<=9:=by unfold yq;exact bI (ch _ _) zS
def jot {w i:Nat}(h:i<8):(yv w)[i]? = some (.int .u64 (if i=0 then w else 0:Nat)):=by
 match i,h with
 |0,_=>rfl
 |1,_=>rfl
 |2,_=>rfl
 |3,_=>rfl
 |4,_=>rfl
 |5,_=>rfl
 |6,_=>rfl
 |7,_=>rfl
section
variable {ob:ZO}{ub k u w:Nat}
def jjc (hk:ob k=some ⟨u,.cells (yv w)⟩) (ho:Off ub k) (hw:w<512) (tk:Nat->Bool) (base:Nat):EvO E 237 [.ptr k u 0] ob tk base ub (jks (yt (yq w))):=by
 refine jr rfl ?_;have g:=ho.ne;have U:(yv w).length=8:=rfl;conv in(occs:=*)S237=>all_goals cbv
 simp[ya,hk,U];refine jQ λo c=>?_;have g3:o.tm 3=.sl none true 0 []:=by rw[c];simp
 have Z:o.tm 11=.agg (yv w):=by rw[c];simp[yv]
 have b7:o.tm 12=.int .i64 0:=by rw[c];simp
 have gd:o.df=[]:=by rw[c];simp
 have gr:o.ro=ub:=by rw[c];simp
 have gn:ub<=o.nx:=by rw[c];simp;omega
 clear c;obtain⟨n0,c2⟩:∃n,n=o.nx:=⟨_,rfl⟩;obtain⟨P,G⟩:∃P:Nat->Nat->Prop,P=λhi u=>ub<=u/\u<hi:=⟨_,rfl⟩;obtain⟨J,hJ⟩:∃J:Nat->St->Prop,J=λi s=>s.tm 12=.int .i64 i/\IntsO s.ob (P s.nx) (if i=0 then [] else yt (yq w)) (s.tm 3)/\ub<=s.nx:=⟨_,rfl⟩;refine j5 [(3,5),(12,30)] 8 J rfl rfl (by rw[hJ];exact⟨zU b7,.inl ⟨rfl,g3⟩,gn⟩) ?_;intro i s hi Q f;rw[hJ]at Q;obtain⟨F,M,sn⟩:=Q;have b6:s.tm 11=.agg (yv w):=by rw[f.t 11 zS];simp[Z]
 have sd:s.df=[]:=by rw[f.d];simp[gd]
 have sr:s.ro=ub:=by rw[f.r];simp[gr]
 clear f;by_cases H:i<8;have b0:=jR H zQ;have K:jbx none 8 1 (.agg (yv w)) (.int .i64 (i:Int))=some (.int .u64 (if i=0 then w else 0:Nat)):=by have:=jot (w:=w) H;have S:(i:Int)<8:=zO;simp[jbx,S,Y2,this]
 have S:(i:Int)<8:=zO;generalize D:(if i=0 then w else 0:Nat)=x0 at K;simp[F,b6,S,K];refine jQ λo c=>?_;have t3:o.tm 3=s.tm 3:=by rw[c];simp
 have t4:o.tm 4=.int .i64 i:=by rw[c];simp[F]
 have t5:o.tm 5=.int .u64 x0:=by rw[c];simp
 have b5:o.tm 12=.int .i64 i:=by rw[c];simp[F]
 have td:o.df=[]:=by rw[c];simp[sd]
 have tr:o.ro=ub:=by rw[c];simp[sr]
 have to:o.ob=s.ob:=by rw[c];simp
 have tn:s.nx<=o.nx:=by rw[c];simp;omega
 clear c;obtain⟨J2,I⟩:∃J2:Nat->St->Prop,J2=λn s=>∃x L,n=(yq x).length/\x<512/\(x=0\/i=0)/\s.tm 5=.int .u64 (x:Nat)/\L++yt (yq x)=yt (yq w)/\IntsO s.ob (P s.nx) L (s.tm 3)/\ub<=s.nx:=⟨_,rfl⟩;refine YH (n:=(yq x0).length) [(3,3),(5,5),(16,29)] J2 rfl rfl ?_ ?_;rw[I];by_cases v:i=0;rw[zb v]at D M;subst D;refine⟨w,[],rfl,hw,.inr v,t5,rfl,?_,zO⟩;rw[to,t3];exact M.frame (λ_ _=>rfl) λu j=>by rw[G]at j ⊢;exact⟨j.1,by have:=j.2;omega⟩
 rw[za v]at D M;subst D;refine⟨0,yt (yq w),rfl,zQ,.inl rfl,t5,by simp[jhg,yt],?_,zO⟩;rw[to,t3];exact M.frame (λ_ _=>rfl) λu j=>by rw[G]at j ⊢;exact⟨j.1,by have:=j.2;omega⟩
 intro n q hq f;rw[I]at hq;obtain⟨x,L,rfl,hx,b8,q5,T,qI,qn⟩:=hq;have q4:q.tm 4=.int .i64 i:=by rw[f.t 4 zS];simp[t4]
 have a0:q.tm 12=.int .i64 i:=by rw[f.t 12 zS];simp[b5]
 have qd:q.df=[]:=by rw[f.d];simp[td]
 have qr:q.ro=ub:=by rw[f.r];simp[tr]
 clear f;by_cases O:x=0;subst O;simp[q5,a0,b0,H];rw[hJ];rw[jhg,show yt []=[] from rfl,aL]at T;subst T;refine⟨zS,?_,by simp;omega⟩;simp;exact qI.frame (λ_ _=>rfl) λu j=>by rw[G]at j ⊢;exact⟨j.1,by have:=j.2;simp at this ⊢;omega⟩
 have v:i=0:=b8.resolve_left O;subst v;obtain⟨e1,e2⟩:=jny hx O;have ex:((x:Int) != 0)=true:=by simp;omega
 have b9:=low_lt hx O;have N:IntKind.u64.wrap ((x:Int)-1)=((x-1:Nat):Int):=by rw[IntKind.wrap_u64];omega
 have B:=jom (a:=x) (b:=x-1) (m:=((x-1:Nat):Int)) rfl zO zO;generalize x&&&(x-1)=y at B e1 e2;rw[<- N]at B;have hz:IntKind.i64.wrap ((jyv x:Nat):Int)=((jyv x:Nat):Int):=jg zO zO;have c0:L.length<=9:=by have h1:=zg List.length T;have S:=ja0 w;simp[yt]at h1;omega
 simp[q5,q4,ex];refine jH (ev281 hx O) zS rfl zS ?_;simp[hz,show IntKind.i64.wrap 0=0 from rfl];refine jZ (cs:=[.int .i64 ((jyv x:Nat):Int)]) (by simp[j2]) rfl rfl ?_;simp;refine jas (p:=P q.nx) (l:=L) (z:=((jyv x:Nat):Int)) (X:=2*(q.nx+512)+1) (uX:=q.nx+512) zS (qI.frame (λu j=>?_) λ_ h=>h) (by simp[aA]) (by simp[aA]) (λu j=>by rw[G]at j;simp[qr];exact j.1) zO λkl c1=>?_;rw[G]at j;have:=j.2;simp(disch:=try exact zD)[yj];intro e;omega;simp[q5,B];refine⟨(yq y).length,by rw[e1];simp,?_⟩;rw[I];refine⟨y,L++[((jyv x:Nat):Int)],rfl,e2,.inr rfl,zS,by rw[<- T,e1];simp[yt],.inr ⟨zS,q.nx+576,by simp[aA],by simp[aA,jhj],?_⟩,by simp;omega⟩;rw[G];simp;omega;have:i=8:=zO;subst this;simp[F];exact Wz (by simp[sd]) zS M (λu j=>by rw[G]at j;simp[sr];exact j.1)
end
structure FN where
 kF:Nat
 uF:Nat
 kA:Nat
 uA:Nat
 kW:Nat
 uW:Nat
 kV:Nat
 uV:Nat
def jhq:Option (Nat×Nat)->V
 |none=>.nilptr
 |some p=>.ptr p.1 p.2 0
def fdC (g:Hist') (N:FN) (rv al ov:V) (most:Int) (sp:Bool):List V:=[yl g.sn X2 g.ss,yl g.kn X2 g.ks,yl g.tn jf g.ts,rv,.map N.kA N.uA,.map N.kW N.uW,al,.map N.kV N.uV,.int .i64 most,.bool sp,ov]
structure FixF (N:FN) (n0 key:Nat):Prop where
 f:key≠N.kF
 v:key≠N.kV
 o:Off n0 key
def RowF (N:FN) (n0:Nat) (ob:ZO) (v:V) (rs:List (Int×Int×Int)):Prop:=(v=.sl none true 0 []/\rs=[])\/∃l u,v=.osl l u 0 rs.length 3/\ob l=some ⟨u,.cells (rs.flatMap rdC)⟩/\FixF N n0 l
def SetsF (N:FN) (n0:Nat) (ob:ZO) (k u:Nat) (C:List Nat) (f:Nat->Nat):Prop :=
 FixF N n0 k/\∃ver m,ob k=some ⟨u,.mp ver (MK .i64 jhq m)⟩/\∀t∈C,∃l u,jbw m (t:Int) none=some (l,u)/\ob l=some ⟨u,.cells (yv (f t))⟩/\FixF N n0 l
structure Fd (N:FN) (rv:V) (rs:List (Int×Int×Int)) (C:List Nat) (fA fW:Nat->Nat) (n0:Nat) (ob:ZO):Prop where
 r:RowF N n0 ob rv rs
 a:SetsF N n0 ob N.kA N.uA C fA
 w:SetsF N n0 ob N.kW N.uW C fW
def RowF.keep {N:FN}{n0:Nat}{ob ob':ZO}{v:V}{rs:List (Int×Int×Int)}(h:RowF N n0 ob v rs) (c:∀a,FixF N n0 a->ob' a=ob a):RowF N n0 ob' v rs:=by rcases h with h|⟨l,u,e,d,b⟩;exact .inl h;exact .inr ⟨l,u,e,(c _ b).trans d,b⟩
def SetsF.keep {N:FN}{n0:Nat}{ob ob':ZO}{k u:Nat}{C:List Nat}{f:Nat->Nat}(h:SetsF N n0 ob k u C f) (c:∀a,FixF N n0 a->ob' a=ob a):SetsF N n0 ob' k u C f:=by obtain⟨d,b,m,o,g⟩:=h;refine⟨d,b,m,(c _ d).trans o,λt j=>?_⟩;obtain⟨l,u,i,n,e⟩:=g t j;exact⟨l,u,i,(c _ e).trans n,e⟩
def Fd.keep {N:FN}{rv:V}{rs:List (Int×Int×Int)}{C:List Nat}{fA d:Nat->Nat}{n0:Nat}{ob ob':ZO}(h:Fd N rv rs C fA d n0 ob) (c:∀b,FixF N n0 b->ob' b=ob b):Fd N rv rs C fA d n0 ob' :=
 ⟨h.r.keep c,h.a.keep c,h.w.keep c⟩
def SetsF.at {N:FN}{n0:Nat}{ob:ZO}{k u:Nat}{C:List Nat}{f:Nat->Nat}(h:SetsF N n0 ob k u C f) {t:Nat}(g:t∈C):∃l v,(∀a:ZO,a k=ob k->Yh a .int .nilptr false (.map k u) (.int .i64 (t:Int))=some (.ptr l v 0))/\ob l=some ⟨v,.cells (yv (f t))⟩/\FixF N n0 l:=by
 obtain⟨_,i,m,n,d⟩:=h;obtain⟨l,v,b,j,o⟩:=d t g;refine⟨l,v,λa e=>?_,j,o⟩;rw[jdx (q:=.i64) (f:=jhq) m (by simp[jY,e,n])];unfold jbw at b;cases c:jz m (t:Int) with
 |none=>rw[c]at b;cases b
 |some p=>rw[c]at b;simp only at b;simp[b,jhq]
def jdj (w:Nat) (x:Int):Bool:=decide (x<0)||w.testBit x.toNat
def barB (w t W:Nat) (r:Int×Int×Int):Bool:=if r.1=t then !jdj w r.2.1 else !w.testBit r.1.toNat&&(jdj w r.2.1&&W.testBit r.2.2.toNat)
def j28 (rs:List (Int×Int×Int)) (fA fW:Nat->Nat) (w t:Nat):Bool:=(yq (fA t)).all (λa=>w.testBit a) && !(rs.any (barB w t (fW t)))
def RdOk (r:Int×Int×Int):Prop:=(0<=r.1/\r.1<64)/\r.2.1<64/\0<=r.2.2/\r.2.2<64
section
variable {ob:ZO}{ub k u w:Nat}
def j6f (b:ob k=some ⟨u,.cells (yv w)⟩) (c:Off ub k) (a:w<2^64) {x:Int}(d:x<64) (tk:Nat->Bool) (base:Nat):EvO E 259 [.ptr k u 0,.int .i64 x] ob tk base ub (.bool (jdj w x)):=by
 refine jr rfl ?_;unfold jdj;by_cases h:x<0
 ·conv in(occs:=*)S259=>all_goals cbv
  simp[h];exact j3 zS zS rfl
 ·obtain⟨n,rfl⟩:∃n:Nat,x=n:=⟨x.toNat,zO⟩;conv in(occs:=*)S259=>all_goals cbv
  simp[h];refine jN (vs:=[.ptr k u 0,.int .i64 n]) zS rfl rfl (jg5 b (c.up zO) zO a _ _) ?_;simp;exact j3 zS zS rfl
def evo256 {b c:Nat}(h:ob b=some ⟨c,.cells [.ptr k u 0]⟩) (e:ob k=some ⟨u,.cells (yv w)⟩) (fb:Off ub b) (f:Off ub k) (d:w<2^64) {a:Nat}(g:a<64) (tk:Nat->Bool) (base:Nat):EvO E 256 [.int .i64 (a:Int),.ptr b c 0] ob tk base ub (.bool (!w.testBit a)):=by
 refine jr rfl ?_;conv in(occs:=*)S256=>all_goals cbv
 simp[ya,h];refine jN (vs:=[.ptr k u 0,.int .i64 a]) zS rfl rfl (jg5 e (f.up zO) g d _ _) ?_;simp;exact j3 zS zS rfl
def j97 {p:Int->Bool}{b:FuncId}{c1 l:Nat}(H:E.sh true b=false) {t:Option (Nat×Nat)}{nl:Bool}{L:List Int}(F:L.length<=1000000000)
 (hp:∀r∈L,∀(tk:Nat->Bool) (base e:Nat),ub<=e->EvO E b [.int .i64 r,.ptr c1 l 0] ob tk base e (.bool (p r))) (tk:Nat->Bool) (base:Nat):EvO E 147 [.sl t nl L.length (L.flatMap yf),.fn (.func b) [] [.ptr c1 l 0]] ob tk base ub (.int .i64 (WG p L)):=by
 refine jr rfl ?_;conv in(occs:=*)S147=>all_goals cbv
 simp;refine j5 [(4,5),(8,18)] L.length (λi s=>s.tm 8=.int .i64 i/\s.ob=ob/\ub<=s.nx/\∀j (g:j<L.length),j<i->p L[j]=false) rfl rfl ⟨zS,zS,by simp;omega,λ_ _ h=>by omega⟩ ?_;rintro i s J ⟨n,z,K,o⟩ f;have G:s.tm 0=.sl t nl L.length (L.flatMap yf):=by rw[f.t 0 zS];simp
 have I:s.tm 1=.fn (.func b) [] [.ptr c1 l 0]:=by rw[f.t 1 zS];simp
 have B:s.tm 7=.int .i64 L.length:=by rw[f.t 7 zS];simp
 have y:s.df=[]:=by rw[f.d];simp
 clear f;by_cases a:i<L.length;have D:=jR a F;have m:=JD j6 t nl L .i64 a;have q:=jn L a;simp[G,I,B,n,a,m,q];refine Wy (f:=b) (first:=[]) (captured:=[.ptr c1 l 0]) zS H (by simp[V.strip,V.pureTop,V.pureLeaf]) (v:=.bool (p L[i])) (by simpa[z] using hp L[i] (au a) _ _ _ zO) ?_;cases c:p L[i];simp[n,D];refine⟨a,z,zO,?_⟩;intro j g x;rcases bj.1 x with h|rfl;exact o j g h;exact c;simp;refine j3 (zU y) ?_ rfl;simp;rw[Ya a c o];have:i=L.length:=zO;subst this;simp[B,n];refine j3 (zU y) ?_ rfl;simp[WE (λj g=>o j g g)]
def evo96 {p:Int->Bool}{b:FuncId}{c1 c:Nat}(f:E.sh true b=false) {t:Option (Nat×Nat)}{nl:Bool}{L:List Int}(d:L.length<=1000000000)
 (hp:∀r∈L,∀(tk:Nat->Bool) (base a:Nat),ub<=a->EvO E b [.int .i64 r,.ptr c1 c 0] ob tk base a (.bool (p r))) (tk:Nat->Bool) (base:Nat):EvO E 96 [.sl t nl L.length (L.flatMap yf),.fn (.func b) [] [.ptr c1 c 0]] ob tk base ub (.bool (L.any p)):=by
 refine jr rfl ?_;conv in(occs:=*)S96=>all_goals cbv
 simp;refine jN (vs:=[.sl t nl L.length (L.flatMap yf),.fn (.func b) [] [.ptr c1 c 0]]) zS rfl (by rw[bN,dS];exact .inr rfl) (j97 f d (λr e tk base a h=>hp r e tk base a zO) _ _) ?_;simp;exact j3 rfl (by simp[jav]) rfl
variable {N:FN}{n0:Nat}
def evo292 {p:Int×Int×Int->Bool}{g:FuncId}{c1 o x B y z:Nat}(U:E.sh true g=false) {v:V}{rs:List (Int×Int×Int)}(O:RowF N n0 ob v rs) (T:rs.length<=1000000000)
 (hp:∀r∈rs,∀(tk:Nat->Bool) (base m:Nat),ub<=m->EvO E g [.agg (rdC r),.ptr c1 o 0,.ptr x B 0,.ptr y z 0] ob tk base m (.bool (p r))) (tk:Nat->Bool) (base:Nat):EvO E 292 [v,.fn (.func g) [] [.ptr c1 o 0,.ptr x B 0,.ptr y z 0]] ob tk base ub (.int .i64 (WG p rs)):=by
 refine jr rfl ?_;have c:WZ v=some (.int .i64 rs.length):=by rcases O with⟨rfl,rfl⟩|⟨l,u,rfl,_⟩<;>rfl
 have G:∀i,(h:i<rs.length)->∃q,jv 3 v (.int .i64 (i:Int))=some q/\W9 ob (some 3) q=some (.agg (rdC rs[i])):=by intro i h;rcases O with⟨rfl,rfl⟩|⟨l,u,rfl,e,_⟩;simp at h;refine⟨_,jvz h,?_⟩;have:=XS joz rs i h;have I:=j1 joz rs;simp only[W9,ya,e,zd,ah,Wu];rw[zb (by rw[I];omega),this]
 conv in(occs:=*)S292=>all_goals cbv
 simp[c];refine j5 [(4,5),(8,18)] rs.length (λi s=>s.tm 8=.int .i64 i/\s.ob=ob/\ub<=s.nx/\∀j (n:j<rs.length),j<i->p rs[j]=false) rfl rfl ⟨zS,zS,by simp;omega,λ_ _ h=>by omega⟩ ?_;rintro i s X ⟨J,e,Z,F⟩ f;have P:s.tm 0=v:=by rw[f.t 0 zS];simp
 have Q:s.tm 1=.fn (.func g) [] [.ptr c1 o 0,.ptr x B 0,.ptr y z 0]:=by rw[f.t 1 zS];simp
 have M:s.tm 7=.int .i64 rs.length:=by rw[f.t 7 zS];simp
 have L:s.df=[]:=by rw[f.d];simp
 clear f;by_cases a:i<rs.length;have S:=jR a T;obtain⟨q,D,K⟩:=G i a;simp[P,Q,M,J,a,D,e,K];refine Wy (f:=g) (first:=[]) (captured:=[.ptr c1 o 0,.ptr x B 0,.ptr y z 0]) zS U (by simp[V.strip,V.pureTop,V.pureLeaf]) (v:=.bool (p rs[i])) (by simpa[e] using hp rs[i] (au a) _ _ _ zO) ?_;cases b:p rs[i];simp[J,S];refine⟨a,e,zO,?_⟩;intro j n H;rcases bj.1 H with h|rfl;exact F j n h;exact b;simp;refine j3 (zU L) ?_ rfl;simp;rw[Ya a b F];have:i=rs.length:=zO;subst this;simp[M,J];refine j3 (zU L) ?_ rfl;simp[WE (λj n=>F j n n)]
def evo257 {p:Int×Int×Int->Bool}{b:FuncId}{c1 c d g e f:Nat}(l:E.sh true b=false) {v:V}{rs:List (Int×Int×Int)}(m:RowF N n0 ob v rs) (i:rs.length<=1000000000)
 (hp:∀r∈rs,∀(tk:Nat->Bool) (base a:Nat),ub<=a->EvO E b [.agg (rdC r),.ptr c1 c 0,.ptr d g 0,.ptr e f 0] ob tk base a (.bool (p r))) (tk:Nat->Bool) (base:Nat):EvO E 257 [v,.fn (.func b) [] [.ptr c1 c 0,.ptr d g 0,.ptr e f 0]] ob tk base ub (.bool (rs.any p)):=by
 refine jr rfl ?_;conv in(occs:=*)S257=>all_goals cbv
 simp;refine jN (vs:=[v,.fn (.func b) [] [.ptr c1 c 0,.ptr d g 0,.ptr e f 0]]) zS rfl (by rw[bN,dS];exact .inr rfl) (evo292 (N:=N) (n0:=n0) l (m.keep (λ_ _=>rfl)) i (λr j tk base a h=>hp r j tk base a zO) _ _) ?_;simp;exact j3 rfl (by simp[jav]) rfl
end
section
variable {ob:ZO}{ub kS uS w n0 t:Nat}{N:FN}{g:Hist'}{rv al ov:V}{most:Int}{sp:Bool}{rs:List (Int × Int × Int)}{C:List Nat}{fA fW:Nat->Nat}
def evo258 (x:Fd N rv rs C fA fW n0 ob) (L:ob N.kF=some ⟨N.uF,.cells (fdC g N rv al ov most sp)⟩) (oF:Off ub N.kF) (e:ob kS=some ⟨uS,.cells (yv w)⟩) (c:Off ub kS) (B:n0<=ub) (k:w<2^64) (H:t∈C) (J:fW t<2^64)
 {i D ks vs j z:Nat}(u:ob i=some ⟨D,.cells [.int .i64 (t:Int)]⟩) (bs:ob ks=some ⟨vs,.cells [.ptr kS uS 0]⟩) (P:ob j=some ⟨z,.cells [.ptr N.kF N.uF 0]⟩) (ot:Off ub i) (os:Off ub ks) (of:Off ub j) {r:Int×Int×Int}(S:RdOk r) (tk:Nat->Bool) (base:Nat) :
 EvO E 258 [.agg (rdC r),.ptr i D 0,.ptr ks vs 0,.ptr j z 0] ob tk base ub (.bool (barB w t (fW t) r)):=by
 refine jr rfl ?_;have p:=ot.ne;have h:=os.ne;have g3:=of.ne;have M:=oF.ne;have d:=c.ne;obtain⟨⟨G,r2⟩,y,r4,r5⟩:=S;obtain⟨a,Z⟩:∃a:Nat,r.1=a:=⟨r.1.toNat,zO⟩;obtain⟨b,I⟩:∃b:Nat,r.2.2=b:=⟨r.2.2.toNat,zO⟩;unfold barB;have O:∀m,ub<=m->(upd ob (2*m+1) (some ⟨m,.cells (rdC r)⟩)) kS=some ⟨uS,.cells (yv w)⟩:=λm X=>by rw[JV _ _ (d m X)];exact e
 by_cases f:r.1=t
 ·conv in(occs:=*)S258=>all_goals cbv
  simp(disch:=try exact zD)[S258,ya,rdC,V.cells,u,p,bs,h,f];refine jN (vs:=[.ptr kS uS 0,.int .i64 r.2.1]) zS rfl rfl (j6f (w:=w) (by simp(disch:=try exact zD)[d,e]) (c.up zO) k y _ _) ?_;simp;exact j3 zS zS rfl
 ·have s:(r.1==(t:Int))=false:=by simpa using f
  conv in(occs:=*)S258=>all_goals cbv
  simp(disch:=try exact zD)[S258,ya,rdC,V.cells,u,p,bs,h,s];have q1:0<=r.1:=G;refine jcy (vs:=[.ptr kS uS 0,.int .i64 r.1]) zS rfl rfl (by rw[Z];exact jg5 (w:=w) (n:=a) (by simp(disch:=try exact zD)[d,e]) (c.up (by first|omega|(simp;omega))) zO k _ _) (JZ rfl) ?_;have ea:r.1.toNat=a:=zO;have K:r.2.2.toNat=b:=zO;rw[ea,K,za f];obtain⟨l,v,q,Q,T⟩:=x.w.at H;have F:=x.w.1.o.up B;have gl:=(T.o.up B);cases a0:w.testBit a;simp(disch:=try exact zD)[ya,rdC,bs,h];refine jcy (vs:=[.ptr kS uS 0,.int .i64 r.2.1]) zS rfl rfl (j6f (w:=w) (by simp(disch:=try exact zD)[d,e]) (c.up (by first|omega|(simp;omega))) k y _ _) (JZ rfl) ?_;cases U:jdj w r.2.1;simp(disch:=try exact zD);exact j3 zS zS rfl;simp(disch:=try exact zD)[ya,rdC,P,g3,L,M,fdC,u,p];rw[q _ (by simp(disch:=try exact zD)[F.ne])];simp(disch:=try exact zD)[ya,rdC];refine jN (vs:=[.ptr l v 0,.int .i64 r.2.2]) zS rfl rfl (by rw[I];exact jg5 (w:=fW t) (n:=b) (by simp(disch:=try exact zD)[gl.ne,Q]) (gl.up (by first|omega|(simp;omega))) zO J _ _) ?_;simp;exact j3 zS zS rfl;simp(disch:=try exact zD);exact j3 zS zS rfl
def evo212 (d:Fd N rv rs C fA fW n0 ob) (i:ob N.kF=some ⟨N.uF,.cells (fdC g N rv al ov most sp)⟩) (I:Off ub N.kF) (H:ob kS=some ⟨uS,.cells (yv w)⟩) (n:Off ub kS) (e:n0<=ub) (B:w<2^64) (z:t∈C) (K:fA t<512) (J:fW t<2^64)
 (f:∀r∈rs,RdOk r) (T:rs.length<=1000000) (tk:Nat->Bool) (base:Nat):EvO E 212 [.ptr N.kF N.uF 0,.ptr kS uS 0,.int .i64 (t:Int)] ob tk base ub (.bool (j28 rs fA fW w t)):=by
 refine jr rfl ?_;have m:=I.ne;have G:=n.ne;have M:=(d.a.1.o.up e);obtain⟨l,v,s,q,O⟩:=d.a.at z;have gl:=O.o.up e;conv in(occs:=*)S212=>all_goals cbv
 simp(disch:=try exact zD)[S212,ya,V.cells,yj,i,m,fdC,j2l,aA];rw[s _ (by simp(disch:=try exact zD)[M.ne])];simp(disch:=try exact zD)[ya];refine j9j (vs:=[.ptr l v 0]) (l:=yt (yq (fA t))) zS rfl rfl ⟨_,jjc (w:=fA t) (by simp(disch:=try exact zD)[gl.ne,q]) (gl.up (by first|omega|(simp;omega))) K _ _,numR_intsV _⟩ λP Q add=>?_;simp(disch:=try exact zD);have c:(yt (yq (fA t))).length<=1000000000:=by have:=ja0 (fA t);simp only[yt,bt];omega
 refine jN (vs:=[.sl P Q (yt (yq (fA t))).length ((yt (yq (fA t))).flatMap yf),.fn (.func 256) [] [.ptr (2*(ub+64)+1) (ub+64) 0]]) zS rfl (by rw[bN,dS];exact .inr rfl) (evo96 (p:=λx=>!w.testBit x.toNat) rfl c (λx D tk base y h=>?_) _ _) ?_;unfold yt at D;obtain⟨a,S,rfl⟩:=aI.1 D;have:=(bitsUp_mem.1 S).1;exact evo256 (w:=w) (k:=kS) (u:=uS) (by simp(disch:=try exact zD)[yj,aA]) (by simp(disch:=try exact zD)[G,H]) (Off.new (by first|omega|(simp at h;omega))) (n.up (by first|omega|(simp at h;omega))) B zO tk base;have b:((yt (yq (fA t))).any λx=>!w.testBit x.toNat) = !(yq (fA t)).all λa=>w.testBit a:=by unfold yt;rw[List.any_map,List.not_all_eq_any_not];rfl
 rw[b];unfold j28;cases F:(yq (fA t)).all λa=>w.testBit a;simp;exact j3 zS zS rfl;simp(disch:=try exact zD)[ya,yj,i,m,fdC,aA];refine jN (vs:=[rv,.fn (.func 258) [] [.ptr (2*(ub+128)+1) (ub+128) 0,.ptr (2*(ub+64)+1) (ub+64) 0,.ptr (2*ub+1) ub 0]]) zS rfl (by rw[bN,dS];exact .inr rfl)
  (evo257 (N:=N) (n0:=n0) (p:=barB w t (fW t)) rfl (d.r.keep λj h=>?_) zO (λr L tk base y h=>evo258 (g:=g) (kS:=kS) (uS:=uS) (rv:=rv) (al:=al) (ov:=ov) (most:=most) (sp:=sp) (n0:=n0) (d.keep λj h=>?_) ?_ (I.up ?_) ?_ (n.up ?_) ?_ B z J ?_ ?_ ?_ (Off.new ?_) (Off.new ?_) (Off.new ?_) (f r L) tk base) _ _) ?_
 simp(disch:=try exact zD)[(h.o.up e).ne];simp(disch:=try exact zD)[(h.o.up e).ne];simp(disch:=try exact zD)[m,i];first|omega|(simp at h;omega)
 simp(disch:=try exact zD)[G,H];first|omega|(simp at h;omega)
 first|omega|(simp at h;omega)
 simp(disch:=try exact zD)[yj,aA];simp(disch:=try exact zD)[yj,aA];simp(disch:=try exact zD)[yj,aA];first|omega|(simp at h;omega)
 first|omega|(simp at h;omega)
 first|omega|(simp at h;omega)
 simp;exact j3 zS zS rfl
end
def k_word:((List.range 512).all λw=>Y3 0 (yq w)==w)=true:=by kernel_rfl
def j64 {w:Nat}(a:w<512):Y3 0 (yq w)=w:=by simpa using aw.1 k_word w (bf.2 a)
def jvp {L:List Nat}{i:Nat}(h:i<L.length) (w:Nat):Y3 w (L.take (i+1))=Y3 w (L.take i)|||1<<<L[i]:=by unfold Y3;rw[av h,fI];rfl
def jc8:∀{L:List Nat}{w:Nat},w<2^64->(∀a∈L,a<64)->Y3 w L<2^64
 |[],_,hw,_=>hw
 |a::L,w,hw,h=>jc8 (L:=L) (or_lt hw (h a (aM ..))) λb c=>h b (aV _ c)
def JA (L:List Nat):(yt L).length=L.length:=by simp[yt]
def jzx (L:List Nat) {i:Nat}(h:i<(yt L).length):(yt L)[i]=((L[i]'(by simpa[yt] using h):Nat):Int):=by simp[yt]
section
variable {ob:ZO}{ub k u w:Nat}
def j6h (G:ob k=some ⟨u,.cells (yv w)⟩) (F:Off ub k) (q:w<512) (tk:Nat->Bool) (base:Nat):EvO E 210 [.ptr k u 0] ob tk base ub (.int .u64 (w:Nat)):=by
 refine jr rfl ?_;have B:=ja0 w;conv in(occs:=*)S210=>all_goals cbv
 simp;obtain⟨x,o⟩:=numR_intsV (yt (yq w));refine jN (vs:=[.ptr k u 0]) zS rfl rfl (jjc G (F.up (by first|omega|(simp;omega))) q _ _) ?_;refine Jw o λv add=>?_;simp;refine j5 [(3,5),(9,17)] (yq w).length (λi s=>s.tm 9=.int .i64 i/\s.tm 3=.int .u64 (Y3 0 ((yq w).take i):Nat)) rfl rfl ⟨zS,by simp[Y3]⟩ ?_;rintro i s K ⟨z,j⟩ f;have I:s.tm 7=.sl v x (yt (yq w)).length ((yt (yq w)).flatMap yf):=by rw[f.t 7 zS];simp
 have r:s.tm 8=.int .i64 (yt (yq w)).length:=by rw[f.t 8 zS];simp
 have D:s.df=[]:=by rw[f.d];simp
 clear f;by_cases e:i<(yq w).length;have c:i<(yt (yq w)).length:=by rw[JA];exact e
 have m:=jR c (by rw[JA];omega);have l:=JD j6 v x (yt (yq w)) .i64 c;have h:=jn (yt (yq w)) c;have J:=(bitsUp_mem.1 (au e)).1;rw[jzx]at h;have y:=jjq (n:=(yq w)[i]) zO;have g:=jfm (a:=Y3 0 ((yq w).take i)) (b:=1<<<(yq w)[i]) (jc8 zQ λa H=>by have:=(bitsUp_mem.1 (dH H)).1;omega) (jrx zO);rw[<- jvp e]at g;generalize 1<<<(yq w)[i]=p1 at y g;generalize p:Y3 0 ((yq w).take (i+1))=p2 at g;generalize Y3 0 ((yq w).take i)=p3 at g j;simp[I,r,z,j,c,l,h,y,g,m];exact⟨e,by rw[p]⟩;have:i=(yq w).length:=zO;subst this;rw[bh,j64 q]at j;simp[r,z,JA,j];exact j3 (zU D) zS rfl
end
end Go.Pv.T
namespace Go.Pv.T
open Go Go.Pv
end Go.Pv.T
namespace Go.Pv.T
open Go Go.Pv
/-! What goes before,by loops. -/
def sB (g:Hist') (a b:Nat):Bool:=Ju g a&&(Ju g b&&(decide (a<b)&&yE g a==yE g b))
def fD2 (r:Nat->Nat->Bool) (k b0 b a:Nat):Bool:=if b<b0 then war r (k+1) b a else war r k b a
def j1p (r:Nat->Nat->Bool) (k a:Nat):war r (k+1) k a=war r k k a:=by rw[war];cases war r k k a<;>simp
def j6c (r:Nat->Nat->Bool) (k b a:Nat):fD2 r k b b a=war r k b a:=by simp[fD2]
def j4z {r:Nat->Nat->Bool}{k c:Nat}(h:war r k c k=false) (b a:Nat):fD2 r k c b a=fD2 r k (c+1) b a:=by unfold fD2;rcases dV b c with h1|h1|h1;rw[zb h1,zb zO];subst h1;rw[za zO,zb zO,war,h,bH,bm];rw[za zO,za zO]
def j4y (r:Nat->Nat->Bool) (k b a:Nat):fD2 r k 0 b a=war r k b a:=by simp[fD2]
def j95 {r:Nat->Nat->Bool}{k n b:Nat}(c:b<n) (a:Nat):fD2 r k n b a=war r (k+1) b a:=by simp[fD2,c]
section
end
def jlf {l u n x:Nat}{kk:IntKind}(a:x<n):jv 1 (.osl l u 0 n 1) (.int kk (x:Int))=some (.ptr l u x):=j4j rfl a
def j7x {g:Hist'}{t:Nat}(a:t<g.ts.length):(g.ts.flatMap jf)[t*3]? = some (.int .i64 (yE g t)):=by have:=jO j7 g.ts a (by decide:0<3);rw[bl]at this;rw[this];simp[jf,yE,a]
def jrj (n:Nat) (v:V):ja6 n [v]=List.replicate n v:=by unfold ja6;refine eC zS λi a b=>?_;simp[Nat.mod_one]
def jzd {Yf:YF}{f:FuncId}{q:A}{xs:List A}{st:St}{ub:Nat}{K:St->Nat->Prop}{d:Option Nat}{nm:Bool}{first captured vs:List V}{P:V×(ZO)×(Nat->Bool)×Nat->Prop}
 (i:ye E st.tm q=.fn (.func f) first captured) (k:first++xs.map (ye E st.tm)++captured=vs) (g:E.sh nm f=true)
 (l:∃r,EvS E Yf.y f vs st.ob st.tk st.ro ((st.fb+d.getD 0+1)*1024) ub r/\P r) (h:∀v c a b,P (v,c,a,b)->K (jt7 st d v c a) b):j8 E Yf ⟨d,.callV q xs,none,nm⟩ st ub K:=by
 have e:jA E nm (ye E st.tm) (.callV q xs)=some (f,vs):=by simp only[jA,i,g,k,bV,bH,ag,zc]
 simp only[j8,yK,jl,i,e];obtain⟨r,j,m⟩:=l;exact .inl ⟨g,EvS.list ⟨r,j,h r.1 r.2.1 r.2.2.1 r.2.2.2 m⟩⟩
def Old (ob:ZO) (ub:Nat) (ob':ZO):Prop:=∀k,(∀m,ub<=m->k≠2*m+1)->ob' k=ob k
def NewAt (ub:Nat) (l:List Int) (v:V) (ob':ZO) (ub':Nat):Prop:=∃m,ub<=m/\m<ub'/\v=.osl (2*m+1) m 0 l.length 1/\ob' (2*m+1)=some ⟨m,.cells (l.flatMap yf)⟩
def QO {E:Env}{Yf:YF}{st:St}{ub:Nat}{K:St->Nat->Prop}{d:Option Nat}{nm o:Bool}{sz a l u off n z:Nat}{cs:List V}{s x:A}(e:ye E st.tm s=.osl l u off n z) (f:yp st.ob sz (ye E st.tm x)=some []) (c:st.ob l=some ⟨u,.cells cs⟩)
 (h:jar K st d ub (.osl l u off n z)):j8 E Yf ⟨d,.append o sz a s x,none,nm⟩ st ub K:=by
 have b:ya st.ob l u=some cs:=by simp[ya,c]
 rw[jU _ rfl rfl];simp only[yU,e,f,b,ah,zd,Wc,ja8];exact h
@[simp] theorem eqVV_sl (ob:ZO) (neg nl:Bool) (t a:Option (Nat×Nat)) (n:Nat) (cs:List V):j07 ob neg .sl (.sl t nl n cs) (.sl a true 0 [])=some (.bool (xor neg nl)):=rfl
def CopyP (ob:ZO) (tk:Nat->Bool) (ub:Nat) (l:List Int) (r:V×(ZO)×(Nat->Bool)×Nat):Prop:=NewAt ub l r.1 r.2.1 r.2.2.2/\Old ob ub r.2.1/\r.2.2.1=tk/\ub<=r.2.2.2
def sv38 {Yf:YF}(b:Bool) (l:List Int) (j:l.length<=1000000000) {ob:ZO}{tk:Nat->Bool}{ro base ub:Nat}(h:ro<=ub):∃r,EvS E Yf.y 38 [yl b yf l] ob tk ro base ub r/\CopyP ob tk ub l r:=by
 refine J6 rfl zQ ?_;show wpC E Yf S38.body _ (Jh S38.res _);conv in(occs:=*)S38=>all_goals cbv
 simp;refine jZ (cs:=[]) rfl rfl rfl ?_;simp;by_cases f:l=[]
 ·subst f;refine QO (l:=2*(ub+64)+1) (u:=ub+64) (off:=0) (n:=0) (z:=1) (cs:=[]) zS (by simp[Qh j6]) zS ?_;simp;refine JN zS ⟨⟨ub+64,zO,by simp;try omega,zS,zS⟩,λk a=>?_,by simp[jk],by simp;try omega⟩;have:=a (ub+64) zO;simp[this]
 ·have d:l.flatMap yf≠[]:=λe=>f (by have:=zg List.length e;rw[j1 j6]at this;exact cD.1 (zU this));have c:(l.flatMap yf).length/1=l.length:=by rw[j1 j6];simp
  refine JL (l:=2*(ub+64)+1) (u:=ub+64) (n:=0) (cs:=[]) (ys:=l.flatMap yf) zS (by simp[Qh j6]) zS d zP zS zQ (by simp[yf]) (by rw[c];omega) (by rw[c];omega) ?_;rw[c];simp;refine JN zS ⟨⟨ub+192,zO,by simp;try omega,zS,zS⟩,λk a=>?_,by simp[jqj],by simp;try omega⟩;have i:=a (ub+64) zO;have g:=a (ub+192) zO;simp[i,g]
def sv99 {Yf:YF}(l:List Int) (i:l.length<=1000000000) {ob:ZO}{tk:Nat->Bool}{ro base ub:Nat}(h:ro<=ub):∃r,EvS E Yf.y 99 [yl false yf l] ob tk ro base ub r/\CopyP ob tk ub l r:=by
 refine J6 rfl zQ ?_;show wpC E Yf S99.body _ (Jh S99.res _);conv in(occs:=*)S99=>all_goals cbv
 simp[yl];refine jZ (cs:=[]) rfl rfl rfl ?_;simp;by_cases d:l=[]
 ·subst d;refine QO (l:=2*(ub+192)+1) (u:=ub+192) (off:=0) (n:=0) (z:=1) (cs:=[]) zS (by simp[yp]) zS ?_;simp;refine JN zS ⟨⟨ub+192,zO,by simp;try omega,zS,zS⟩,λk a=>?_,by simp[jk],by simp;try omega⟩;have:=a (ub+192) zO;simp[this]
 ·have c:l.flatMap yf≠[]:=λe=>d (by have:=zg List.length e;rw[j1 j6]at this;exact cD.1 (zU this));have b:(l.flatMap yf).length/1=l.length:=by rw[j1 j6];simp
  refine JL (l:=2*(ub+192)+1) (u:=ub+192) (n:=0) (cs:=[]) (ys:=l.flatMap yf) zS (by simp[yp,j1 j6]) zS c zP zS zQ (by simp[yf]) (by rw[b];omega) (by rw[b];omega) ?_;rw[b];simp;refine JN zS ⟨⟨ub+320,zO,by simp;try omega,zS,zS⟩,λk a=>?_,by simp[jqj],by simp;try omega⟩;have g:=a (ub+192) zO;have f:=a (ub+320) zO;simp[g,f]
def sv99n {Yf:YF}{ob:ZO}{tk:Nat->Bool}{ro base ub:Nat}:∃r,EvS E Yf.y 99 [.sl none true 0 []] ob tk ro base ub r/\r.1=.sl none true 0 []/\r.2.1=ob/\r.2.2.1=tk/\ub<=r.2.2.2:=by
 refine J6 rfl zQ ?_;show wpC E Yf S99.body _ (Jh S99.res _);conv in(occs:=*)S99=>all_goals cbv
 simp;exact JN zS ⟨zS,zS,zS,by simp;omega⟩
def We (c:List Int) (q:Nat):Nat:=(q+1) % c.length
end Go.Pv.T
namespace Go.Pv.T
open Go Go.Pv
end Go.Pv.T
namespace Go.Pv.T
open Go Go.Pv
def jkr {st:St}{ub:Nat}{K:List FP->St->Prop}{d:Option Nat}{nm:Bool}{r:List AOpr}(h:YW E r K (ye E st.tm) .mkMap st d ub { v:=.map (jI d nm st.fb ub) ub,obs:=[(jI d nm st.fb ub,⟨ub,.mp 0 []⟩)] }):jE E (⟨d,.mkMap,none,nm⟩::r) st ub K:=by rw[jw rfl];simp only[yU,Jo,jG,Je];exact h
end Go.Pv.T
namespace Go.Pv.T
open Go Go.Pv
end Go.Pv.T
namespace Go.Pv.T
open Go Go.Pv
end Go.Pv.T
namespace Go.Pv.T
open Go Go.Pv
section
end
def j11 {c:Type}{f:c->List V}{k:Nat}(b:∀a,(f a).length=k) (nl:Bool) (l:List c) (n:Nat) (kk:IntKind):W1 k none (some (.int kk ((min l.length n:Nat):Int))) (yl nl f l)=some (.sl none nl (min l.length n) ((l.take n).flatMap f)):=by have d:=joq (kk:=kk) (t:=none) (nl:=nl) (sz:=k) (cs:=l.flatMap f) (n:=l.length) (k:=min l.length n) (eX _ _) (j1 b _);refine Eq.trans d ?_;rw[jca b];congr 2;rcases iv l.length n with h|h;rw[cE h,bh,aH h];rw[fN h]
def jtz {st:St}{k:Nat}{v:V}(h:v.pureLeaf=true):JY st (k+1) v=some v:=by
 cases v with
 |sl t b n cs=>cases t with
  |none=>rfl
  |some t=>cases h
 |osl l u a n s=>cases h
 |_=>simp[JY,h]
def jbm {st:St}{k:Nat}:∀{l:List V},l.all V.pureLeaf=true->l.mapM (JY st (k+1))=some l
 |[],_=>rfl
 |v::l,h=>by rw[bN,aj]at h;rw[bR,jtz h.1,jbm h.2];rfl
def j3k (l:List Op'):(l.flatMap yS).all V.pureLeaf=true:=by rw[eS,aw];intro t _;rfl
def jr8 {f:V->Option V}:∀{l m l' a:List V},l.mapM f=some l'->m.mapM f=some a->(l++m).mapM f=some (l'++a)
 |[],m,l',a,h,h'=>by cases (show some []=some l' from h);exact h'
 |v::l,m,l',a,h,h'=>by
  rw[bR]at h;rw[cZ,bR];cases c:f v with
  |none=>rw[c]at h;cases h
  |some e=>
   rw[c]at h;cases b:l.mapM f with
   |none=>rw[b]at h;cases h
   |some r=>rw[b]at h;cases (show some (e::r)=some l' from h);rw[jr8 b h'];rfl
def txU (p:Txn'×Nat):List V:=[.int .i64 p.1.s,.int .i64 p.1.f,.osl (2*p.2+1) p.2 0 p.1.ops.length 4]
@[simp] theorem QE (p:Txn'×Nat):(txU p).length=3:=rfl
structure InO (ob:ZO) (lo hi:Nat) (p:Txn'×Nat):Prop where
 nl:p.1.nl=false
 lo:lo<=p.2
 hi:p.2<hi
 ob:∃X,ob (2*p.2+1)=some ⟨p.2,.cells X⟩/\p.1.ops.length*4<=X.length/\X.take (p.1.ops.length*4)=p.1.ops.flatMap yS
def InO.frame {ob ob':ZO}{lo hi hi':Nat}{p:Txn'×Nat}(h:InO ob lo hi p) (a:ob' (2*p.2+1)=ob (2*p.2+1)) (b:hi<=hi'):InO ob' lo hi' p :=
 ⟨h.nl,h.lo,by have:=h.hi;omega,by rw[a];exact h.ob⟩
def TsO (ob:ZO) (lo hi:Nat) (P:List (Txn'×Nat)) (v:V):Prop :=
 (∀p∈P,InO ob lo hi p)/\((P=[]/\v=.sl none true 0 [])\/(P≠[]/\∃u,lo<=u/\u<hi/\(∀p∈P,p.2≠u)/\v=.osl (2*u+1) u 0 P.length 3/\ob (2*u+1)=some ⟨u,.cells (P.flatMap txU)⟩))
def TsO.frame {ob ob':ZO}{lo hi hi':Nat}{P:List (Txn'×Nat)}{v:V}(h:TsO ob lo hi P v) (e:∀u,lo<=u->u<hi->ob' (2*u+1)=ob (2*u+1)) (g:hi<=hi'):TsO ob' lo hi' P v:=by refine⟨λp a=>(h.1 p a).frame (e _ (h.1 p a).lo (h.1 p a).hi) g,?_⟩;rcases h.2 with c|⟨b,u,f,c,i,j,k⟩;exact .inl c;exact .inr ⟨b,u,f,zO,i,j,by rw[e u f c];exact k⟩
def j10 {st:St}{lo hi:Nat}{p:Txn'×Nat}(h:InO st.ob lo hi p) (i:st.ro<=lo):JY st 5 (.osl (2*p.2+1) p.2 0 p.1.ops.length 4)=some (yl p.1.nl yS p.1.ops):=by
 obtain⟨X,e,g,f⟩:=h.ob;have c:=h.lo;have a:ya st.ob (2*p.2+1) p.2=some X:=by simp[ya,e]
 show((ya st.ob (2*p.2+1) p.2).bind λcs=>if Nat.ble st.ro p.2=true/\0+p.1.ops.length*4<=cs.length then (((cs.drop 0).take (p.1.ops.length*4)).mapM (JY st 4)).map λb=>V.sl none false p.1.ops.length b else none)=_;rw[a,ah,zb ⟨bT▸zO,zO⟩,dt,f,jbm (j3k _),h.nl];rfl
def jlu {st:St}{lo hi:Nat}(a:st.ro<=lo):∀{P:List (Txn'×Nat)},(∀p∈P,InO st.ob lo hi p)->(P.flatMap txU).mapM (JY st 5)=some ((P.map (·.1)).flatMap jf)
 |[],_=>rfl
 |p::P,h=>by rw[bk,aZ,bk];refine jr8 ?_ (jlu a λq b=>h q (aV _ b));have:=j10 (h p (aM ..)) a;show[V.int .i64 p.1.s,.int .i64 p.1.f,.osl (2*p.2+1) p.2 0 p.1.ops.length 4].mapM (JY st 5)=_;rw[bR,bR,bR,this];rfl
def TsO.out {st:St}{lo hi:Nat}{P:List (Txn'×Nat)}{v:V}(h:TsO st.ob lo hi P v) (e:st.ro<=lo):jdd st v P.isEmpty P.length ((P.map (·.1)).flatMap jf):=by
 rcases h.2 with⟨rfl,rfl⟩|⟨c,u,m,k,l,rfl,j⟩;exact ja _ none true 0 [];intro keep i;have a:ya st.ob (2*u+1) u=some (P.flatMap txU):=by simp[ya,j]
 have f:JY st 6 (.osl (2*u+1) u 0 P.length 3)=some (.sl none false P.length ((P.map (·.1)).flatMap jf)):=by show((ya st.ob (2*u+1) u).bind λcs=>if Nat.ble st.ro u=true/\0+P.length*3<=cs.length then (((cs.drop 0).take (P.length*3)).mapM (JY st 5)).map λb=>V.sl none false P.length b else none)=_;rw[a,ah,zb ⟨bT▸zO,by rw[j1 QE];omega⟩,dt,<- j1 QE P,bh,jlu e h.1];rfl
 have g:P.isEmpty=false:=by cases P<;>simp_all
 rw[g];refine⟨_,by simp only[jt,f,ah,a,aU];rfl,?_⟩;split;exact .inr ⟨_,rfl⟩;exact .inl rfl
section
variable {Yf:YF}{st:St}{ub:Nat}{K:St->Nat->Prop}{d:Nat}
def j3y {v:Type}{f:v->List V}{l:List v}{z sz c:Nat}{s x:A}(w:ye E st.tm s=.osl (2*z+1) z 0 0 sz) (j:st.ob (2*z+1)=some ⟨z,.cells []⟩) (p:st.ro<=z)
 (y:yp st.ob sz (ye E st.tm x)=some (l.flatMap f)) (r:∀a,(f a).length=sz) (m:0<sz) (hp:(l.flatMap f).all V.leaf=true) (D:l.length*c<=140737488355328) (o:l.length<=140737488355328)
 (h:∀(g:St) (u:Nat),(u=z\/u=ub)->g.ob (2*u+1)=some ⟨u,.cells (l.flatMap f)⟩->(∀b,b≠2*z+1->b≠2*ub+1->g.ob b=st.ob b)->(∀t,g.tm t=if t=d then .osl (2*u+1) u 0 l.length sz else st.tm t)->g.df=st.df->g.ro=st.ro->g.fb=st.fb->g.tk=st.tk->K g (ub+64)) :
 j8 E Yf ⟨some d,.append true sz c s x,none,true⟩ st ub K:=by
 cases l with
 |nil=>
  rw[jU _ rfl rfl];simp only[yU,w,y,ah,gV,zd];have i:ya st.ob (2*z+1) z=some []:=by simp[ya,j]
  rw[i,ah,Wc];show QP K st (some d) ub _;rw[jc0];exact h _ z (.inl rfl) (zU j) (λb _ _=>by simp) (λt=>by rw[jn1];rfl) rfl rfl rfl zS
 |cons a l=>
  have q:((a::l).flatMap f).length/sz=(a::l).length:=by rw[j1 r];exact fq _ m
  have k:(a::l).flatMap f≠[]:=λe=>by have:=zg List.length e;rw[j1 r]at this;have:=Nat.mul_pos (show 0<(a::l).length by simp) m;simp_all
  refine JL (l:=2*z+1) (u:=z) (n:=0) (cs:=[]) (ys:=(a::l).flatMap f) w y j k p zS m hp (by rw[q,bL];exact D) (by rw[q,bL];exact o) ?_;rw[jc0,q,bL];refine h _ ub (.inr rfl) ?_ (λb B F=>?_) (λt=>by rw[jn1];rfl) rfl rfl rfl ?_;simp[jI];simp[jI,B,F];rfl
def jpw {lo hi:Nat}{P:List (Txn'×Nat)}{p:Txn'×Nat}{s x:A}(i:TsO st.ob lo hi P (ye E st.tm s)) (I:hi<=ub) (D:st.ro<=lo) (o:yp st.ob 3 (ye E st.tm x)=some (txU p)) (hp:InO st.ob hi ub p) (F:lo<=hi) (r:P.length<=100000)
 (h:∀(c:St) (m:V),TsO c.ob lo (ub+64) (P++[p]) m->(∀b,(∀u,lo<=u->u<hi->b≠2*u+1)->b≠2*ub+1->c.ob b=st.ob b)->(∀t,c.tm t=if t=d then m else st.tm t)->c.df=st.df->c.ro=st.ro->c.fb=st.fb->c.tk=st.tk->K c (ub+64)) :
 j8 E Yf ⟨some d,.append true 3 40 s x,none,true⟩ st ub K:=by
 have y:=hp.lo;have G:=hp.hi;rcases i.2 with⟨rfl,z⟩|⟨v,u,J,w,B,H,L⟩;refine X9 (n:=0) (cs:=[]) (ys:=txU p) z o (by simp[txU]) zQ rfl zS zS ?_;rw[jc0,show(txU p).length/3=1 by rw[QE]];refine h _ (.osl (2*ub+1) ub 0 1 3) ⟨?_,.inr ⟨zS,ub,zO,zO,?_,zS,?_⟩⟩ (λb k f=>?_) (λt=>by rw[jn1];rfl) rfl rfl rfl ?_;intro q a;simp only[dK,ae]at a;subst a;refine⟨hp.nl,zO,zO,?_⟩;have:¬2*q.2=2*ub:=zO;simpa[jI,XM,this] using hp.ob;intro q a;simp only[dK,ae]at a;subst a;omega;simp[jI,XM];simp[jI,XM,f];rfl;refine JL (l:=2*u+1) (u:=u) (n:=P.length) (cs:=P.flatMap txU) (ys:=txU p) H o L (by simp[txU]) zO (by rw[j1 QE];omega) zQ rfl zP zP ?_;rw[jc0,show(txU p).length/3=1 by rw[QE]];refine h _ (.osl (2*ub+1) ub 0 (P.length+1) 3) ⟨?_,.inr ⟨zS,ub,zO,zO,?_,zS,?_⟩⟩ (λb k f=>?_) (λt=>by rw[jn1];rfl) rfl rfl rfl ?_;intro q a;rw[aQ,ae]at a;rcases a with a|rfl;have hi:=i.1 q a;refine⟨hi.nl,hi.lo,by have:=hi.hi;omega,?_⟩;have g:¬2*q.2=2*ub:=by have:=hi.hi;omega
 have j:¬2*q.2=2*u:=by have:=B q a;omega
 simpa[jI,g,j] using hi.ob;refine⟨hp.nl,zO,zO,?_⟩;have g:¬2*q.2=2*ub:=zO;have j:¬2*q.2=2*u:=zO;simpa[jI,g,j] using hp.ob;intro q a;rw[aQ,ae]at a;rcases a with a|rfl;have:=(i.1 q a).hi;omega;omega;simp[jI];exact aH (by rw[j1 QE];omega);have e:=k u J w;simp[jI,e,f];rfl
end
section
variable {E:Env}{st:St}{ub:Nat}{K:List FP->St->Prop}{d:Option Nat}{r:List AOpr}
def J0 {sz n:Nat}{zero:List V}{a:List (Nat×Nat×A)}{cs:List V}(b:fill zero (JE (ye E st.tm) a)=some cs) (c:cs.length=n*sz) (hp:cs.all V.leaf=true)
 (h:YW E r K (ye E st.tm) (.buildSl true sz zero a n) st d ub { v:=.osl (2*ub+1) ub 0 n sz,obs:=[(2*ub+1,⟨ub,.cells cs⟩)] }):jE E (⟨d,.buildSl true sz zero a n,none,true⟩::r) st ub K:=by
 rw[jw rfl];simp only[yU,b,ah,zd];rw[zb ⟨c,hp⟩,Jo,jG];exact h
end
def jgu {b a:Type}{l:List b}{m:List a}(h:l.length=m.length):l.isEmpty=m.isEmpty:=by cases l<;>cases m<;>simp_all
end Go.Pv.T
