/- Part. -/
import Derived.Test.YtmanndcfeicokaaGreatDoorPI
set_option maxRecDepth 100000
set_option maxHeartbeats 8000000
set_option linter.all false
namespace Go.Pv.T
open Go Go.Pv
def yv (w:Nat):List V:=[.int .u64 w,.int .u64 0,.int .u64 0,.int .u64 0,.int .u64 0,.int .u64 0,.int .u64 0,.int .u64 0]
def jch:yv 0=setZ:=rfl
def jpz {n:Nat}(h:n<64):IntKind.i64.wrap ((n:Int)/64)=0:=by rw[show(n:Int)/64=0 by omega];rfl
def jpy {n:Nat}(h:n<64):(n:Int).tmod 64=n:=Int.tmod_eq_of_lt zO zO
def j7c {w n:Nat}(a:n<64):YL .shr (.int .u64 (w:Int)) (.int .i64 (n:Int))=some (.int .u64 ((w>>>n:Nat):Int)):=by simp only[YL,jag];rw[za zO];congr 2;rw[ba,show IntKind.u64.bits=64 from rfl,cE (gD a),il,ik _ (Int.le_of_lt (Int.pow_pos zQ))];simp
def jjr {n:Nat}(h:n<64):YL .shl (.int .u64 1) (.int .i64 (n:Int))=some (.int .u64 ((1<<<n:Nat):Int)):=by have b:2^n<2^64:=dU zQ h;have:=jwi (a:=1) (k:=n) rfl zO zO;rw[da];rw[Nat.one_mul]at this;exact this
def bit_has (w n:Nat):((((w>>>n)&&&1:Nat):Int)==1)=w.testBit n:=by rw[Nat.testBit,Nat.and_comm 1,Nat.and_one_is_mod];rcases ii (w>>>n) with h|h<;>rw[h]<;>rfl
def u64_lt {w n:Nat}(a:w<2^64):w>>>n<2^64:=by rw[il];exact Nat.lt_of_le_of_lt (Nat.div_le_self _ _) a
def jru {n:Nat}(h:n<64):1<<<n<2^64:=by rw[da];exact dU zQ h
def or_lt {w n:Nat}(a:w<2^64) (h:n<64):w|||1<<<n<2^64:=dJ a (jru h)
def jvh (w n:Nat):Nat:=(BitVec.ofNat 64 w &&& ~~~ BitVec.ofNat 64 (1<<<n)).toNat
def j46 {w n:Nat}(b:w<2^64) (c:n<64) (h:w.testBit n=false):jvh (w|||1<<<n) n=w:=by unfold jvh;refine eU λi=>?_;rw[BitVec.testBit_toNat,BitVec.getLsbD_and,BitVec.getLsbD_not,BitVec.getLsbD_ofNat,BitVec.getLsbD_ofNat,jhg,da,fe];by_cases a:i<64;by_cases e:n=i;subst e;simp[h];simp[a,e];have:w.testBit i=false:=dr (aW b (cl zQ zO));simp[a,this]
def jtr {a b:Nat}:YL .andNot (.int .u64 (a:Int)) (.int .u64 (b:Int))=some (.int .u64 (((BitVec.ofNat 64 a &&& ~~~ BitVec.ofNat 64 b).toNat:Nat):Int)):=by simp only[YL,Xa,zd];rw[show IntKind.u64.bits=64 from rfl,dX,dX,IntKind.wrap_u64];congr 2;have:=(BitVec.ofNat 64 a &&& ~~~ BitVec.ofNat 64 b).isLt;omega
@[simp] theorem eqVV_pn (ob:ZO) (neg:Bool) (l u o:Nat):j1a ob neg .ptr (.ptr l u o) .nilptr=some (.bool (xor neg false)):=rfl
@[simp] theorem idxArr0 (k u:Nat):Wg 8 1 (.ptr k u 0) (.int .i64 0)=some (.ptr k u 0):=rfl
section
variable {ob:ZO}{ub k u w n:Nat}
def ev291 (a:n<500):Ev E 291 [.int .i64 (n:Int)] (.bool true):=by
 refine jS rfl ?_;conv in(occs:=*)F291=>all_goals cbv
 simp;exact j3 zS zP rfl
def j0e (a:n<500) (tk:Nat->Bool) (base:Nat):EvO E 255 [.ptr k u 0,.int .i64 (n:Int)] ob tk base ub (.int .i64 0):=by
 refine jq rfl ?_;conv in(occs:=*)S255=>all_goals cbv
 simp;refine jH (ev291 a) zS rfl zS ?_;simp;exact j3 zS zS rfl
def jg5 (h:ob k=some ⟨u,.cells (yv w)⟩) (i:Off ub k) (c:n<64) (f:w<2^64) (tk:Nat->Bool) (base:Nat):EvO E 211 [.ptr k u 0,.int .i64 (n:Int)] ob tk base ub (.bool (w.testBit n)):=by
 refine jq rfl ?_;have g:=i.ne;conv in(occs:=*)S211=>all_goals cbv
 simp;refine jN (vs:=[.ptr k u 0,.int .i64 n]) zS rfl rfl (j0e zO _ _) ?_;have d:=j7c (w:=w) c;have a:=jok (m:=1) (b:=1) rfl (u64_lt (n:=n) f) zQ;have e:=bit_has w n;generalize w>>>n&&&1=z at a e;generalize w>>>n=q at d a;simp(disch:=try exact zD)[jpz c,jpy c,ya,g,h,yv,d,a,e];exact j3 zS zS rfl
def PutR (ob:ZO) (ub k u w:Nat) (r:V×(ZO)×(Nat->Bool)×Nat):Prop :=
 r.1=.int .i64 0/\(∀key,Off ub key->r.2.1 key=if key=k then some ⟨u,.cells (yv w)⟩ else ob key)/\ub<=r.2.2.2
def jts {Yf:YF}{tk:Nat->Bool}{ro base:Nat}(b:ob k=some ⟨u,.cells (yv w)⟩) (i:Off ub k) (d:ro<=u) (a:n<64) (h:w<2^64) :
 ∃r,EvS E Yf.y 209 [.ptr k u 0,.int .i64 (n:Int)] ob tk ro base ub r/\PutR ob ub k u (w|||1<<<n) r:=by
 refine J6 rfl zQ ?_;show wpC E Yf S209.body _ (Jg S209.res _);have g:=i.ne;conv in(occs:=*)S209=>all_goals cbv
 simp;refine jN (vs:=[.ptr k u 0,.int .i64 n]) zS rfl rfl (j0e zO _ _) ?_;have e:=jjr a;have c:=jfp h (jru a);generalize w|||1<<<n=z at c ⊢;generalize 1<<<n=q at e c;simp(disch:=try exact zD)[jpz a,jpy a,ya,g,b,yv,e,c,j2];refine⟨d,JL zS ⟨zS,λf b=>?_,by simp;omega⟩⟩;have g:=b.ne;simp(disch:=try exact zD)[g,yg,yv]
def sv213 {Yf:YF}{tk:Nat->Bool}{ro base:Nat}(d:ob k=some ⟨u,.cells (yv w)⟩) (j:Off ub k) (f:ro<=u) (e:n<64) :
 ∃r,EvS E Yf.y 213 [.ptr k u 0,.int .i64 (n:Int)] ob tk ro base ub r/\PutR ob ub k u (jvh w n) r:=by
 refine J6 rfl zQ ?_;show wpC E Yf S213.body _ (Jg S213.res _);have g:=j.ne;conv in(occs:=*)S213=>all_goals cbv
 simp;refine jN (vs:=[.ptr k u 0,.int .i64 n]) zS rfl rfl (j0e zO _ _) ?_;have h:=jjr e;have c:=jtr (a:=w) (b:=1<<<n);rw[show(BitVec.ofNat 64 w &&& ~~~ BitVec.ofNat 64 (1<<<n)).toNat=jvh w n from rfl]at c;generalize jvh w n=z at c ⊢;generalize 1<<<n=q at h c;simp(disch:=try exact zD)[jpz e,jpy e,ya,g,d,yv,h,c,j2];refine⟨f,JL zS ⟨zS,λi d=>?_,by simp;omega⟩⟩;have g:=d.ne;simp(disch:=try exact zD)[g,yg,yv]
def NewR (ob:ZO) (ub:Nat) (r:V×(ZO)×(Nat->Bool)×Nat):Prop :=
 ∃m,ub<=m/\m<r.2.2.2/\r.1=.ptr (2*m+1) m 0/\∀key,r.2.1 key=if key=2*m+1 then some ⟨m,.cells (yv 0)⟩ else ob key
def sv151n {Yf:YF}{tk:Nat->Bool}{ro base:Nat}:∃r,EvS E Yf.y 151 [.sl none true 0 []] ob tk ro base ub r/\NewR ob ub r:=by
 refine J6 rfl zQ ?_;show wpC E Yf S151.body _ (Jg S151.res _);conv in(occs:=*)S151=>all_goals cbv
 simp[V.cells];refine⟨1,?_⟩;simp;exact JL zS ⟨ub+128,zO,zS,zS,λa=>by simp[yv,yg,aA]⟩
end
def jpf (g:Hist') (M:List Int) (s:Nat->Bool) (t:Nat):Bool :=
 jde (λa=>!Jt g a||(!(yE g a==yE g t)||s a)) t&&((yi g).zip M).all λx=>
  if x.1.1=(t:Int) then decide (x.2<0)||s x.2.toNat else s x.1.1.toNat||(!(decide (x.2<0)||s x.2.toNat) || !Jo g t (Wu g x.1))
def nxM (g:Hist') (M:List Int) (w t:Nat):Bool:=jpf g M (λa=>w.testBit a) t
def yC (g:Hist'):List Nat:=(ym g).map Int.toNat
def yt (L:List Nat):List Int:=L.map λa:Nat=>(a:Int)
def jc7 (g:Hist'):yt (yC g)=ym g:=by unfold yt yC;rw[cM];refine(dx λx a=>?_).trans (ia _);obtain⟨k,rfl,_⟩:=comL_mem.1 a;simp
def comN_mem {g:Hist'}{a:Nat}:a∈yC g ↔ Jt g a=true:=by unfold yC;rw[aI];constructor;rintro⟨x,c,rfl⟩;obtain⟨k,rfl,b⟩:=comL_mem.1 c;simpa using b;exact λh=>⟨a,comL_mem.2 ⟨a,rfl,h⟩,zS⟩
def jk2 (g:Hist'):(yC g).Pairwise (· < ·):=by have h:=jp8 g;rw[<- jc7]at h;unfold yt at h;rw[fI]at h;exact h.imp λh=>by omega
def jvm (g:Hist'):(yC g).Nodup:=(jk2 g).imp λh=>eN h
def jaw (g:Hist'):(yC g).length=(ym g).length:=by simp[yC]
def Y1 (w:Nat) (L:List Nat):Nat:=L.foldl (λw t=>w|||1<<<t) w
def js5 (a:Nat):∀(L:List Nat) (w:Nat),(Y1 w L).testBit a=(w.testBit a||L.contains a)
 |[],w=>by simp[Y1]
 |x::r,w=>by have:=js5 a r (w|||1<<<x);unfold Y1 at this ⊢;rw[em,this,jhg,dE,Bool.or_assoc];congr 2;rw[bA,ze,zh];exact eq_comm
section
end
def yq (w:Nat):List Nat:=(List.range 9).filter λi=>w.testBit i
def jyz (w:Nat):Nat:=(yq w).headD 0
def bitsUp_mem {w a:Nat}:a∈yq w ↔ a<9/\w.testBit a=true:=by simp[yq]
def jhf:yq 0=[]:=rfl
def k_bits:((List.range 512).all λw=>w==0||(yq w==jyz w::yq (w&&&(w-1))&&decide (w&&&(w-1)<512)))=true:=by kernel_rfl
def jnx {w:Nat}(a:w<512) (h:w≠0):yq w=jyz w::yq (w&&&(w-1))/\w&&&(w-1)<512:=by have:=aw.1 k_bits w (bf.2 a);simpa[h] using this
def k190:((List.range 512).all λw=>w==0||(match (yL E 2 noY).d 281 [.int .u64 (w:Nat)] with|some r=>V.eqb r (.int .i64 (jyz w:Nat))|none=>false))=true:=by kernel_rfl
def ev281 {w:Nat}(a:w<512) (h:w≠0):Ev E 281 [.int .u64 (w:Nat)] (.int .i64 (jyz w:Nat)):=by have:=aw.1 k190 w (bf.2 a);simp only[zh,bG,h,false_or]at this;split at this;rename_i r b;exact⟨2,by rw[b,Qy _ _ this]⟩;cases this
def low_lt {w:Nat}(a:w<512) (h:w≠0):jyz w<9:=by
 have:jyz w∈yq w:=by rw[(jnx a h).1];exact aO ..
 exact(bitsUp_mem.1 this).1
def jax (w:Nat):(yq w).length<=9:=by unfold yq;exact bI (bO _ _) zS
def jor {w i:Nat}(h:i<8):(yv w)[i]? = some (.int .u64 (if i=0 then w else 0:Nat)):=by
 match i,h with
 |0,_=>rfl
 |1,_=>rfl
 |2,_=>rfl
 |3,_=>rfl
 |4,_=>rfl
 |5,_=>rfl
 |6,_=>rfl
 |7,_=>rfl
section
variable {ob:ZO}{ub k u w:Nat}
def jje (hk:ob k=some ⟨u,.cells (yv w)⟩) (ho:Off ub k) (hw:w<512) (tk:Nat->Bool) (base:Nat):EvO E 237 [.ptr k u 0] ob tk base ub (jkt (yt (yq w))):=by
 refine jq rfl ?_;have g:=ho.ne;have U:(yv w).length=8:=rfl;conv in(occs:=*)S237=>all_goals cbv
 simp[ya,hk,U];refine jQ λo c=>?_;have g3:o.tm 3=.sl none true 0 []:=by rw[c];simp
 have Z:o.tm 11=.agg (yv w):=by rw[c];simp[yv]
 have b7:o.tm 12=.int .i64 0:=by rw[c];simp
 have gd:o.df=[]:=by rw[c];simp
 have gr:o.ro=ub:=by rw[c];simp
 have gn:ub<=o.nx:=by rw[c];simp;omega
 clear c;obtain⟨n0,c2⟩:∃n,n=o.nx:=⟨_,rfl⟩;obtain⟨P,G⟩:∃P:Nat->Nat->Prop,P=λhi u=>ub<=u/\u<hi:=⟨_,rfl⟩;obtain⟨J,hJ⟩:∃J:Nat->St->Prop,J=λi s=>s.tm 12=.int .i64 i/\IntsO s.ob (P s.nx) (if i=0 then [] else yt (yq w)) (s.tm 3)/\ub<=s.nx:=⟨_,rfl⟩;refine j5 [(3,5),(12,30)] 8 J rfl rfl (by rw[hJ];exact⟨zU b7,.inl ⟨rfl,g3⟩,gn⟩) ?_;intro i s hi Q f;rw[hJ]at Q;obtain⟨F,M,sn⟩:=Q;have b6:s.tm 11=.agg (yv w):=by rw[f.t 11 zS];simp[Z]
 have sd:s.df=[]:=by rw[f.d];simp[gd]
 have sr:s.ro=ub:=by rw[f.r];simp[gr]
 clear f;by_cases H:i<8;have b0:=jP H zQ;have K:jbx none 8 1 (.agg (yv w)) (.int .i64 (i:Int))=some (.int .u64 (if i=0 then w else 0:Nat)):=by have:=jor (w:=w) H;have S:(i:Int)<8:=zO;simp[jbx,S,Y0,this]
 have S:(i:Int)<8:=zO;generalize D:(if i=0 then w else 0:Nat)=x0 at K;simp[F,b6,S,K];refine jQ λo c=>?_;have t3:o.tm 3=s.tm 3:=by rw[c];simp
 have t4:o.tm 4=.int .i64 i:=by rw[c];simp[F]
 have t5:o.tm 5=.int .u64 x0:=by rw[c];simp
 have b5:o.tm 12=.int .i64 i:=by rw[c];simp[F]
 have td:o.df=[]:=by rw[c];simp[sd]
 have tr:o.ro=ub:=by rw[c];simp[sr]
 have to:o.ob=s.ob:=by rw[c];simp
 have tn:s.nx<=o.nx:=by rw[c];simp;omega
 clear c;obtain⟨J2,I⟩:∃J2:Nat->St->Prop,J2=λn s=>∃x L,n=(yq x).length/\x<512/\(x=0\/i=0)/\s.tm 5=.int .u64 (x:Nat)/\L++yt (yq x)=yt (yq w)/\IntsO s.ob (P s.nx) L (s.tm 3)/\ub<=s.nx:=⟨_,rfl⟩;refine YH (n:=(yq x0).length) [(3,3),(5,5),(16,29)] J2 rfl rfl ?_ ?_;rw[I];by_cases v:i=0;rw[zb v]at D M;subst D;refine⟨w,[],rfl,hw,.inr v,t5,rfl,?_,zO⟩;rw[to,t3];exact M.frame (λ_ _=>rfl) λu j=>by rw[G]at j ⊢;exact⟨j.1,by have:=j.2;omega⟩
 rw[za v]at D M;subst D;refine⟨0,yt (yq w),rfl,zQ,.inl rfl,t5,by simp[jhf,yt],?_,zO⟩;rw[to,t3];exact M.frame (λ_ _=>rfl) λu j=>by rw[G]at j ⊢;exact⟨j.1,by have:=j.2;omega⟩
 intro n q hq f;rw[I]at hq;obtain⟨x,L,rfl,hx,b8,q5,T,qI,qn⟩:=hq;have q4:q.tm 4=.int .i64 i:=by rw[f.t 4 zS];simp[t4]
 have a0:q.tm 12=.int .i64 i:=by rw[f.t 12 zS];simp[b5]
 have qd:q.df=[]:=by rw[f.d];simp[td]
 have qr:q.ro=ub:=by rw[f.r];simp[tr]
 clear f;by_cases O:x=0;subst O;simp[q5,a0,b0,H];rw[hJ];rw[jhf,show yt []=[] from rfl,aL]at T;subst T;refine⟨zS,?_,by simp;omega⟩;simp;exact qI.frame (λ_ _=>rfl) λu j=>by rw[G]at j ⊢;exact⟨j.1,by have:=j.2;simp at this ⊢;omega⟩
 have v:i=0:=b8.resolve_left O;subst v;obtain⟨e1,e2⟩:=jnx hx O;have ex:((x:Int) != 0)=true:=by simp;omega
 have b9:=low_lt hx O;have N:IntKind.u64.wrap ((x:Int)-1)=((x-1:Nat):Int):=by rw[IntKind.wrap_u64];omega
 have B:=jok (a:=x) (b:=x-1) (m:=((x-1:Nat):Int)) rfl zO zO;generalize x&&&(x-1)=y at B e1 e2;rw[<- N]at B;have hz:IntKind.i64.wrap ((jyz x:Nat):Int)=((jyz x:Nat):Int):=jg zO zO;have c0:L.length<=9:=by have h1:=zg List.length T;have S:=jax w;simp[yt]at h1;omega
 simp[q5,q4,ex];refine jH (ev281 hx O) zS rfl zS ?_;simp[hz,show IntKind.i64.wrap 0=0 from rfl];refine jZ (cs:=[.int .i64 ((jyz x:Nat):Int)]) (by simp[j2]) rfl rfl ?_;simp;refine jap (p:=P q.nx) (l:=L) (z:=((jyz x:Nat):Int)) (X:=2*(q.nx+512)+1) (uX:=q.nx+512) zS (qI.frame (λu j=>?_) λ_ h=>h) (by simp[aA]) (by simp[aA]) (λu j=>by rw[G]at j;simp[qr];exact j.1) zO λkl c1=>?_;rw[G]at j;have:=j.2;simp(disch:=try exact zD)[yj];intro e;omega;simp[q5,B];refine⟨(yq y).length,by rw[e1];simp,?_⟩;rw[I];refine⟨y,L++[((jyz x:Nat):Int)],rfl,e2,.inr rfl,zS,by rw[<- T,e1];simp[yt],.inr ⟨zS,q.nx+576,by simp[aA],by simp[aA,jhj],?_⟩,by simp;omega⟩;rw[G];simp;omega;have:i=8:=zO;subst this;simp[F];exact Ww (by simp[sd]) zS M (λu j=>by rw[G]at j;simp[sr];exact j.1)
end
structure FN where
 kF:Nat
 uF:Nat
 kA:Nat
 uA:Nat
 kW:Nat
 uW:Nat
 kV:Nat
 uV:Nat
def jhq:Option (Nat×Nat)->V
 |none=>.nilptr
 |some p=>.ptr p.1 p.2 0
def fdC (g:Hist') (N:FN) (rv al ov:V) (most:Int) (sp:Bool):List V:=[yl g.sn X1 g.ss,yl g.kn X1 g.ks,yl g.tn jf g.ts,rv,.map N.kA N.uA,.map N.kW N.uW,al,.map N.kV N.uV,.int .i64 most,.bool sp,ov]
structure FixF (N:FN) (n0 key:Nat):Prop where
 f:key≠N.kF
 v:key≠N.kV
 o:Off n0 key
def RowF (N:FN) (n0:Nat) (ob:ZO) (v:V) (rs:List (Int×Int×Int)):Prop:=(v=.sl none true 0 []/\rs=[])\/∃l u,v=.osl l u 0 rs.length 3/\ob l=some ⟨u,.cells (rs.flatMap rdC)⟩/\FixF N n0 l
def SetsF (N:FN) (n0:Nat) (ob:ZO) (k u:Nat) (C:List Nat) (f:Nat->Nat):Prop :=
 FixF N n0 k/\∃ver m,ob k=some ⟨u,.mp ver (MK .i64 jhq m)⟩/\∀t∈C,∃l u,jbw m (t:Int) none=some (l,u)/\ob l=some ⟨u,.cells (yv (f t))⟩/\FixF N n0 l
structure Fd (N:FN) (rv:V) (rs:List (Int×Int×Int)) (C:List Nat) (fA fW:Nat->Nat) (n0:Nat) (ob:ZO):Prop where
 r:RowF N n0 ob rv rs
 a:SetsF N n0 ob N.kA N.uA C fA
 w:SetsF N n0 ob N.kW N.uW C fW
def RowF.keep {N:FN}{n0:Nat}{ob ob':ZO}{v:V}{rs:List (Int×Int×Int)}(h:RowF N n0 ob v rs) (c:∀a,FixF N n0 a->ob' a=ob a):RowF N n0 ob' v rs:=by rcases h with h|⟨l,u,e,d,b⟩;exact .inl h;exact .inr ⟨l,u,e,(c _ b).trans d,b⟩
def SetsF.keep {N:FN}{n0:Nat}{ob ob':ZO}{k u:Nat}{C:List Nat}{f:Nat->Nat}(h:SetsF N n0 ob k u C f) (c:∀a,FixF N n0 a->ob' a=ob a):SetsF N n0 ob' k u C f:=by obtain⟨d,b,m,o,g⟩:=h;refine⟨d,b,m,(c _ d).trans o,λt j=>?_⟩;obtain⟨l,u,i,n,e⟩:=g t j;exact⟨l,u,i,(c _ e).trans n,e⟩
def Fd.keep {N:FN}{rv:V}{rs:List (Int×Int×Int)}{C:List Nat}{fA d:Nat->Nat}{n0:Nat}{ob ob':ZO}(h:Fd N rv rs C fA d n0 ob) (c:∀b,FixF N n0 b->ob' b=ob b):Fd N rv rs C fA d n0 ob' :=
 ⟨h.r.keep c,h.a.keep c,h.w.keep c⟩
def SetsF.at {N:FN}{n0:Nat}{ob:ZO}{k u:Nat}{C:List Nat}{f:Nat->Nat}(h:SetsF N n0 ob k u C f) {t:Nat}(g:t∈C):∃l v,(∀a:ZO,a k=ob k->Yg a .int .nilptr false (.map k u) (.int .i64 (t:Int))=some (.ptr l v 0))/\ob l=some ⟨v,.cells (yv (f t))⟩/\FixF N n0 l:=by
 obtain⟨_,i,m,n,d⟩:=h;obtain⟨l,v,b,j,o⟩:=d t g;refine⟨l,v,λa e=>?_,j,o⟩;rw[jd1 (q:=.i64) (f:=jhq) m (by simp[jY,e,n])];unfold jbw at b;cases c:jy m (t:Int) with
 |none=>rw[c]at b;cases b
 |some p=>rw[c]at b;simp only at b;simp[b,jhq]
def jdm (w:Nat) (x:Int):Bool:=decide (x<0)||w.testBit x.toNat
def barB (w t W:Nat) (r:Int×Int×Int):Bool:=if r.1=t then !jdm w r.2.1 else !w.testBit r.1.toNat&&(jdm w r.2.1&&W.testBit r.2.2.toNat)
def j3b (rs:List (Int×Int×Int)) (fA fW:Nat->Nat) (w t:Nat):Bool:=(yq (fA t)).all (λa=>w.testBit a) && !(rs.any (barB w t (fW t)))
def RdOk (r:Int×Int×Int):Prop:=(0<=r.1/\r.1<64)/\r.2.1<64/\0<=r.2.2/\r.2.2<64
section
variable {ob:ZO}{ub k u w:Nat}
def j6i (b:ob k=some ⟨u,.cells (yv w)⟩) (c:Off ub k) (a:w<2^64) {x:Int}(d:x<64) (tk:Nat->Bool) (base:Nat):EvO E 259 [.ptr k u 0,.int .i64 x] ob tk base ub (.bool (jdm w x)):=by
 refine jq rfl ?_;unfold jdm;by_cases h:x<0
 ·conv in(occs:=*)S259=>all_goals cbv
  simp[h];exact j3 zS zS rfl
 ·obtain⟨n,rfl⟩:∃n:Nat,x=n:=⟨x.toNat,zO⟩;conv in(occs:=*)S259=>all_goals cbv
  simp[h];refine jN (vs:=[.ptr k u 0,.int .i64 n]) zS rfl rfl (jg5 b (c.up zO) zO a _ _) ?_;simp;exact j3 zS zS rfl
def evo256 {b c:Nat}(h:ob b=some ⟨c,.cells [.ptr k u 0]⟩) (e:ob k=some ⟨u,.cells (yv w)⟩) (fb:Off ub b) (f:Off ub k) (d:w<2^64) {a:Nat}(g:a<64) (tk:Nat->Bool) (base:Nat):EvO E 256 [.int .i64 (a:Int),.ptr b c 0] ob tk base ub (.bool (!w.testBit a)):=by
 refine jq rfl ?_;conv in(occs:=*)S256=>all_goals cbv
 simp[ya,h];refine jN (vs:=[.ptr k u 0,.int .i64 a]) zS rfl rfl (jg5 e (f.up zO) g d _ _) ?_;simp;exact j3 zS zS rfl
def j99 {p:Int->Bool}{b:FuncId}{c1 l:Nat}(H:E.sh true b=false) {t:Option (Nat×Nat)}{nl:Bool}{L:List Int}(F:L.length<=1000000000)
 (hp:∀r∈L,∀(tk:Nat->Bool) (base e:Nat),ub<=e->EvO E b [.int .i64 r,.ptr c1 l 0] ob tk base e (.bool (p r))) (tk:Nat->Bool) (base:Nat):EvO E 147 [.sl t nl L.length (L.flatMap yf),.fn (.func b) [] [.ptr c1 l 0]] ob tk base ub (.int .i64 (WE p L)):=by
 refine jq rfl ?_;conv in(occs:=*)S147=>all_goals cbv
 simp;refine j5 [(4,5),(8,18)] L.length (λi s=>s.tm 8=.int .i64 i/\s.ob=ob/\ub<=s.nx/\∀j (g:j<L.length),j<i->p L[j]=false) rfl rfl ⟨zS,zS,by simp;omega,λ_ _ h=>by omega⟩ ?_;rintro i s J ⟨n,z,K,o⟩ f;have G:s.tm 0=.sl t nl L.length (L.flatMap yf):=by rw[f.t 0 zS];simp
 have I:s.tm 1=.fn (.func b) [] [.ptr c1 l 0]:=by rw[f.t 1 zS];simp
 have B:s.tm 7=.int .i64 L.length:=by rw[f.t 7 zS];simp
 have y:s.df=[]:=by rw[f.d];simp
 clear f;by_cases a:i<L.length;have D:=jP a F;have m:=JC j6 t nl L .i64 a;have q:=jj L a;simp[G,I,B,n,a,m,q];refine Wv (f:=b) (first:=[]) (captured:=[.ptr c1 l 0]) zS H (by simp[V.strip,V.pureTop,V.pureLeaf]) (v:=.bool (p L[i])) (by simpa[z] using hp L[i] (au a) _ _ _ zO) ?_;cases c:p L[i];simp[n,D];refine⟨a,z,zO,?_⟩;intro j g x;rcases bi.1 x with h|rfl;exact o j g h;exact c;simp;refine j3 (zU y) ?_ rfl;simp;rw[YY a c o];have:i=L.length:=zO;subst this;simp[B,n];refine j3 (zU y) ?_ rfl;simp[WD (λj g=>o j g g)]
def evo96 {p:Int->Bool}{b:FuncId}{c1 c:Nat}(f:E.sh true b=false) {t:Option (Nat×Nat)}{nl:Bool}{L:List Int}(d:L.length<=1000000000)
 (hp:∀r∈L,∀(tk:Nat->Bool) (base a:Nat),ub<=a->EvO E b [.int .i64 r,.ptr c1 c 0] ob tk base a (.bool (p r))) (tk:Nat->Bool) (base:Nat):EvO E 96 [.sl t nl L.length (L.flatMap yf),.fn (.func b) [] [.ptr c1 c 0]] ob tk base ub (.bool (L.any p)):=by
 refine jq rfl ?_;conv in(occs:=*)S96=>all_goals cbv
 simp;refine jN (vs:=[.sl t nl L.length (L.flatMap yf),.fn (.func b) [] [.ptr c1 c 0]]) zS rfl (by rw[bU,dS];exact .inr rfl) (j99 f d (λr e tk base a h=>hp r e tk base a zO) _ _) ?_;simp;exact j3 rfl (by simp[jas]) rfl
variable {N:FN}{n0:Nat}
def evo292 {p:Int×Int×Int->Bool}{g:FuncId}{c1 o x B y z:Nat}(U:E.sh true g=false) {v:V}{rs:List (Int×Int×Int)}(O:RowF N n0 ob v rs) (T:rs.length<=1000000000)
 (hp:∀r∈rs,∀(tk:Nat->Bool) (base m:Nat),ub<=m->EvO E g [.agg (rdC r),.ptr c1 o 0,.ptr x B 0,.ptr y z 0] ob tk base m (.bool (p r))) (tk:Nat->Bool) (base:Nat):EvO E 292 [v,.fn (.func g) [] [.ptr c1 o 0,.ptr x B 0,.ptr y z 0]] ob tk base ub (.int .i64 (WE p rs)):=by
 refine jq rfl ?_;have c:WW v=some (.int .i64 rs.length):=by rcases O with⟨rfl,rfl⟩|⟨l,u,rfl,_⟩<;>rfl
 have G:∀i,(h:i<rs.length)->∃q,jt 3 v (.int .i64 (i:Int))=some q/\W8 ob (some 3) q=some (.agg (rdC rs[i])):=by intro i h;rcases O with⟨rfl,rfl⟩|⟨l,u,rfl,e,_⟩;simp at h;refine⟨_,jv2 h,?_⟩;have:=XS jox rs i h;have I:=j1 jox rs;simp only[W8,ya,e,zd,ah,Wr];rw[zb (by rw[I];omega),this]
 conv in(occs:=*)S292=>all_goals cbv
 simp[c];refine j5 [(4,5),(8,18)] rs.length (λi s=>s.tm 8=.int .i64 i/\s.ob=ob/\ub<=s.nx/\∀j (n:j<rs.length),j<i->p rs[j]=false) rfl rfl ⟨zS,zS,by simp;omega,λ_ _ h=>by omega⟩ ?_;rintro i s X ⟨J,e,Z,F⟩ f;have P:s.tm 0=v:=by rw[f.t 0 zS];simp
 have Q:s.tm 1=.fn (.func g) [] [.ptr c1 o 0,.ptr x B 0,.ptr y z 0]:=by rw[f.t 1 zS];simp
 have M:s.tm 7=.int .i64 rs.length:=by rw[f.t 7 zS];simp
 have L:s.df=[]:=by rw[f.d];simp
 clear f;by_cases a:i<rs.length;have S:=jP a T;obtain⟨q,D,K⟩:=G i a;simp[P,Q,M,J,a,D,e,K];refine Wv (f:=g) (first:=[]) (captured:=[.ptr c1 o 0,.ptr x B 0,.ptr y z 0]) zS U (by simp[V.strip,V.pureTop,V.pureLeaf]) (v:=.bool (p rs[i])) (by simpa[e] using hp rs[i] (au a) _ _ _ zO) ?_;cases b:p rs[i];simp[J,S];refine⟨a,e,zO,?_⟩;intro j n H;rcases bi.1 H with h|rfl;exact F j n h;exact b;simp;refine j3 (zU L) ?_ rfl;simp;rw[YY a b F];have:i=rs.length:=zO;subst this;simp[M,J];refine j3 (zU L) ?_ rfl;simp[WD (λj n=>F j n n)]
def evo257 {p:Int×Int×Int->Bool}{b:FuncId}{c1 c d g e f:Nat}(l:E.sh true b=false) {v:V}{rs:List (Int×Int×Int)}(m:RowF N n0 ob v rs) (i:rs.length<=1000000000)
 (hp:∀r∈rs,∀(tk:Nat->Bool) (base a:Nat),ub<=a->EvO E b [.agg (rdC r),.ptr c1 c 0,.ptr d g 0,.ptr e f 0] ob tk base a (.bool (p r))) (tk:Nat->Bool) (base:Nat):EvO E 257 [v,.fn (.func b) [] [.ptr c1 c 0,.ptr d g 0,.ptr e f 0]] ob tk base ub (.bool (rs.any p)):=by
 refine jq rfl ?_;conv in(occs:=*)S257=>all_goals cbv
 simp;refine jN (vs:=[v,.fn (.func b) [] [.ptr c1 c 0,.ptr d g 0,.ptr e f 0]]) zS rfl (by rw[bU,dS];exact .inr rfl) (evo292 (N:=N) (n0:=n0) l (m.keep (λ_ _=>rfl)) i (λr j tk base a h=>hp r j tk base a zO) _ _) ?_;simp;exact j3 rfl (by simp[jas]) rfl
end
section
variable {ob:ZO}{ub kS uS w n0 t:Nat}{N:FN}{g:Hist'}{rv al ov:V}{most:Int}{sp:Bool}{rs:List (Int × Int × Int)}{C:List Nat}{fA fW:Nat->Nat}
def evo258 (x:Fd N rv rs C fA fW n0 ob) (L:ob N.kF=some ⟨N.uF,.cells (fdC g N rv al ov most sp)⟩) (oF:Off ub N.kF) (e:ob kS=some ⟨uS,.cells (yv w)⟩) (c:Off ub kS) (B:n0<=ub) (k:w<2^64) (H:t∈C) (J:fW t<2^64)
 {i D ks vs j z:Nat}(u:ob i=some ⟨D,.cells [.int .i64 (t:Int)]⟩) (bs:ob ks=some ⟨vs,.cells [.ptr kS uS 0]⟩) (P:ob j=some ⟨z,.cells [.ptr N.kF N.uF 0]⟩) (ot:Off ub i) (os:Off ub ks) (of:Off ub j) {r:Int×Int×Int}(S:RdOk r) (tk:Nat->Bool) (base:Nat) :
 EvO E 258 [.agg (rdC r),.ptr i D 0,.ptr ks vs 0,.ptr j z 0] ob tk base ub (.bool (barB w t (fW t) r)):=by
 refine jq rfl ?_;have p:=ot.ne;have h:=os.ne;have g3:=of.ne;have M:=oF.ne;have d:=c.ne;obtain⟨⟨G,r2⟩,y,r4,r5⟩:=S;obtain⟨a,Z⟩:∃a:Nat,r.1=a:=⟨r.1.toNat,zO⟩;obtain⟨b,I⟩:∃b:Nat,r.2.2=b:=⟨r.2.2.toNat,zO⟩;unfold barB;have O:∀m,ub<=m->(upd ob (2*m+1) (some ⟨m,.cells (rdC r)⟩)) kS=some ⟨uS,.cells (yv w)⟩:=λm X=>by rw[JU _ _ (d m X)];exact e
 by_cases f:r.1=t
 ·conv in(occs:=*)S258=>all_goals cbv
  simp(disch:=try exact zD)[S258,ya,rdC,V.cells,u,p,bs,h,f];refine jN (vs:=[.ptr kS uS 0,.int .i64 r.2.1]) zS rfl rfl (j6i (w:=w) (by simp(disch:=try exact zD)[d,e]) (c.up zO) k y _ _) ?_;simp;exact j3 zS zS rfl
 ·have s:(r.1==(t:Int))=false:=by simpa using f
  conv in(occs:=*)S258=>all_goals cbv
  simp(disch:=try exact zD)[S258,ya,rdC,V.cells,u,p,bs,h,s];have q1:0<=r.1:=G;refine jc0 (vs:=[.ptr kS uS 0,.int .i64 r.1]) zS rfl rfl (by rw[Z];exact jg5 (w:=w) (n:=a) (by simp(disch:=try exact zD)[d,e]) (c.up (by first|omega|(simp;omega))) zO k _ _) (JY rfl) ?_;have ea:r.1.toNat=a:=zO;have K:r.2.2.toNat=b:=zO;rw[ea,K,za f];obtain⟨l,v,q,Q,T⟩:=x.w.at H;have F:=x.w.1.o.up B;have gl:=(T.o.up B);cases a0:w.testBit a;simp(disch:=try exact zD)[ya,rdC,bs,h];refine jc0 (vs:=[.ptr kS uS 0,.int .i64 r.2.1]) zS rfl rfl (j6i (w:=w) (by simp(disch:=try exact zD)[d,e]) (c.up (by first|omega|(simp;omega))) k y _ _) (JY rfl) ?_;cases U:jdm w r.2.1;simp(disch:=try exact zD);exact j3 zS zS rfl;simp(disch:=try exact zD)[ya,rdC,P,g3,L,M,fdC,u,p];rw[q _ (by simp(disch:=try exact zD)[F.ne])];simp(disch:=try exact zD)[ya,rdC];refine jN (vs:=[.ptr l v 0,.int .i64 r.2.2]) zS rfl rfl (by rw[I];exact jg5 (w:=fW t) (n:=b) (by simp(disch:=try exact zD)[gl.ne,Q]) (gl.up (by first|omega|(simp;omega))) zO J _ _) ?_;simp;exact j3 zS zS rfl;simp(disch:=try exact zD);exact j3 zS zS rfl
def evo212 (d:Fd N rv rs C fA fW n0 ob) (i:ob N.kF=some ⟨N.uF,.cells (fdC g N rv al ov most sp)⟩) (I:Off ub N.kF) (H:ob kS=some ⟨uS,.cells (yv w)⟩) (n:Off ub kS) (e:n0<=ub) (B:w<2^64) (z:t∈C) (K:fA t<512) (J:fW t<2^64)
 (f:∀r∈rs,RdOk r) (T:rs.length<=1000000) (tk:Nat->Bool) (base:Nat):EvO E 212 [.ptr N.kF N.uF 0,.ptr kS uS 0,.int .i64 (t:Int)] ob tk base ub (.bool (j3b rs fA fW w t)):=by
 refine jq rfl ?_;have m:=I.ne;have G:=n.ne;have M:=(d.a.1.o.up e);obtain⟨l,v,s,q,O⟩:=d.a.at z;have gl:=O.o.up e;conv in(occs:=*)S212=>all_goals cbv
 simp(disch:=try exact zD)[S212,ya,V.cells,yj,i,m,fdC,j2o,aA];rw[s _ (by simp(disch:=try exact zD)[M.ne])];simp(disch:=try exact zD)[ya];refine j9m (vs:=[.ptr l v 0]) (l:=yt (yq (fA t))) zS rfl rfl ⟨_,jje (w:=fA t) (by simp(disch:=try exact zD)[gl.ne,q]) (gl.up (by first|omega|(simp;omega))) K _ _,numR_intsV _⟩ λP Q add=>?_;simp(disch:=try exact zD);have c:(yt (yq (fA t))).length<=1000000000:=by have:=jax (fA t);simp only[yt,bu];omega
 refine jN (vs:=[.sl P Q (yt (yq (fA t))).length ((yt (yq (fA t))).flatMap yf),.fn (.func 256) [] [.ptr (2*(ub+64)+1) (ub+64) 0]]) zS rfl (by rw[bU,dS];exact .inr rfl) (evo96 (p:=λx=>!w.testBit x.toNat) rfl c (λx D tk base y h=>?_) _ _) ?_;unfold yt at D;obtain⟨a,S,rfl⟩:=aI.1 D;have:=(bitsUp_mem.1 S).1;exact evo256 (w:=w) (k:=kS) (u:=uS) (by simp(disch:=try exact zD)[yj,aA]) (by simp(disch:=try exact zD)[G,H]) (Off.new (by first|omega|(simp at h;omega))) (n.up (by first|omega|(simp at h;omega))) B zO tk base;have b:((yt (yq (fA t))).any λx=>!w.testBit x.toNat) = !(yq (fA t)).all λa=>w.testBit a:=by unfold yt;rw[List.any_map,List.not_all_eq_any_not];rfl
 rw[b];unfold j3b;cases F:(yq (fA t)).all λa=>w.testBit a;simp;exact j3 zS zS rfl;simp(disch:=try exact zD)[ya,yj,i,m,fdC,aA];refine jN (vs:=[rv,.fn (.func 258) [] [.ptr (2*(ub+128)+1) (ub+128) 0,.ptr (2*(ub+64)+1) (ub+64) 0,.ptr (2*ub+1) ub 0]]) zS rfl (by rw[bU,dS];exact .inr rfl)
  (evo257 (N:=N) (n0:=n0) (p:=barB w t (fW t)) rfl (d.r.keep λj h=>?_) zO (λr L tk base y h=>evo258 (g:=g) (kS:=kS) (uS:=uS) (rv:=rv) (al:=al) (ov:=ov) (most:=most) (sp:=sp) (n0:=n0) (d.keep λj h=>?_) ?_ (I.up ?_) ?_ (n.up ?_) ?_ B z J ?_ ?_ ?_ (Off.new ?_) (Off.new ?_) (Off.new ?_) (f r L) tk base) _ _) ?_
 simp(disch:=try exact zD)[(h.o.up e).ne];simp(disch:=try exact zD)[(h.o.up e).ne];simp(disch:=try exact zD)[m,i];first|omega|(simp at h;omega)
 simp(disch:=try exact zD)[G,H];first|omega|(simp at h;omega)
 first|omega|(simp at h;omega)
 simp(disch:=try exact zD)[yj,aA];simp(disch:=try exact zD)[yj,aA];simp(disch:=try exact zD)[yj,aA];first|omega|(simp at h;omega)
 first|omega|(simp at h;omega)
 first|omega|(simp at h;omega)
 simp;exact j3 zS zS rfl
end
def k_word:((List.range 512).all λw=>Y1 0 (yq w)==w)=true:=by kernel_rfl
def j66 {w:Nat}(a:w<512):Y1 0 (yq w)=w:=by simpa using aw.1 k_word w (bf.2 a)
def jvs {L:List Nat}{i:Nat}(h:i<L.length) (w:Nat):Y1 w (L.take (i+1))=Y1 w (L.take i)|||1<<<L[i]:=by unfold Y1;rw[av h,fJ];rfl
def jda:∀{L:List Nat}{w:Nat},w<2^64->(∀a∈L,a<64)->Y1 w L<2^64
 |[],_,hw,_=>hw
 |a::L,w,hw,h=>jda (L:=L) (or_lt hw (h a (aO ..))) λb c=>h b (aX _ c)
def J0 (L:List Nat):(yt L).length=L.length:=by simp[yt]
def jz1 (L:List Nat) {i:Nat}(h:i<(yt L).length):(yt L)[i]=((L[i]'(by simpa[yt] using h):Nat):Int):=by simp[yt]
section
variable {ob:ZO}{ub k u w:Nat}
def j6k (G:ob k=some ⟨u,.cells (yv w)⟩) (F:Off ub k) (q:w<512) (tk:Nat->Bool) (base:Nat):EvO E 210 [.ptr k u 0] ob tk base ub (.int .u64 (w:Nat)):=by
 refine jq rfl ?_;have B:=jax w;conv in(occs:=*)S210=>all_goals cbv
 simp;obtain⟨x,o⟩:=numR_intsV (yt (yq w));refine jN (vs:=[.ptr k u 0]) zS rfl rfl (jje G (F.up (by first|omega|(simp;omega))) q _ _) ?_;refine Jv o λv add=>?_;simp;refine j5 [(3,5),(9,17)] (yq w).length (λi s=>s.tm 9=.int .i64 i/\s.tm 3=.int .u64 (Y1 0 ((yq w).take i):Nat)) rfl rfl ⟨zS,by simp[Y1]⟩ ?_;rintro i s K ⟨z,j⟩ f;have I:s.tm 7=.sl v x (yt (yq w)).length ((yt (yq w)).flatMap yf):=by rw[f.t 7 zS];simp
 have r:s.tm 8=.int .i64 (yt (yq w)).length:=by rw[f.t 8 zS];simp
 have D:s.df=[]:=by rw[f.d];simp
 clear f;by_cases e:i<(yq w).length;have c:i<(yt (yq w)).length:=by rw[J0];exact e
 have m:=jP c (by rw[J0];omega);have l:=JC j6 v x (yt (yq w)) .i64 c;have h:=jj (yt (yq w)) c;have J:=(bitsUp_mem.1 (au e)).1;rw[jz1]at h;have y:=jjr (n:=(yq w)[i]) zO;have g:=jfp (a:=Y1 0 ((yq w).take i)) (b:=1<<<(yq w)[i]) (jda zQ λa H=>by have:=(bitsUp_mem.1 (dI H)).1;omega) (jru zO);rw[<- jvs e]at g;generalize 1<<<(yq w)[i]=p1 at y g;generalize p:Y1 0 ((yq w).take (i+1))=p2 at g;generalize Y1 0 ((yq w).take i)=p3 at g j;simp[I,r,z,j,c,l,h,y,g,m];exact⟨e,by rw[p]⟩;have:i=(yq w).length:=zO;subst this;rw[bg,j66 q]at j;simp[r,z,J0,j];exact j3 (zU D) zS rfl
end
end Go.Pv.T
namespace Go.Pv.T
open Go Go.Pv
end Go.Pv.T
namespace Go.Pv.T
open Go Go.Pv
/-! What goes before,by loops. -/
def sB (g:Hist') (a b:Nat):Bool:=Jt g a&&(Jt g b&&(decide (a<b)&&yE g a==yE g b))
def fD2 (r:Nat->Nat->Bool) (k b0 b a:Nat):Bool:=if b<b0 then war r (k+1) b a else war r k b a
def j1s (r:Nat->Nat->Bool) (k a:Nat):war r (k+1) k a=war r k k a:=by rw[war];cases war r k k a<;>simp
def j6f (r:Nat->Nat->Bool) (k b a:Nat):fD2 r k b b a=war r k b a:=by simp[fD2]
def j41 {r:Nat->Nat->Bool}{k c:Nat}(h:war r k c k=false) (b a:Nat):fD2 r k c b a=fD2 r k (c+1) b a:=by unfold fD2;rcases dV b c with h1|h1|h1;rw[zb h1,zb zO];subst h1;rw[za zO,zb zO,war,h,bH,bm];rw[za zO,za zO]
def j40 (r:Nat->Nat->Bool) (k b a:Nat):fD2 r k 0 b a=war r k b a:=by simp[fD2]
def j97 {r:Nat->Nat->Bool}{k n b:Nat}(c:b<n) (a:Nat):fD2 r k n b a=war r (k+1) b a:=by simp[fD2,c]
section
end
def jlg {l u n x:Nat}{kk:IntKind}(a:x<n):jt 1 (.osl l u 0 n 1) (.int kk (x:Int))=some (.ptr l u x):=j4k rfl a
def j7z {g:Hist'}{t:Nat}(a:t<g.ts.length):(g.ts.flatMap jf)[t*3]? = some (.int .i64 (yE g t)):=by have:=jO j7 g.ts a (by decide:0<3);rw[bl]at this;rw[this];simp[jf,yE,a]
def jrg (n:Nat) (v:V):ja3 n [v]=List.replicate n v:=by unfold ja3;refine eE zS λi a b=>?_;simp[Nat.mod_one]
def jzh {Yf:YF}{f:FuncId}{q:A}{xs:List A}{st:St}{ub:Nat}{K:St->Nat->Prop}{d:Option Nat}{nm:Bool}{first captured vs:List V}{P:V×(ZO)×(Nat->Bool)×Nat->Prop}
 (i:ye E st.tm q=.fn (.func f) first captured) (k:first++xs.map (ye E st.tm)++captured=vs) (g:E.sh nm f=true)
 (l:∃r,EvS E Yf.y f vs st.ob st.tk st.ro ((st.fb+d.getD 0+1)*1024) ub r/\P r) (h:∀v c a b,P (v,c,a,b)->K (jt5 st d v c a) b):j8 E Yf ⟨d,.callV q xs,none,nm⟩ st ub K:=by
 have e:jA E nm (ye E st.tm) (.callV q xs)=some (f,vs):=by simp only[jA,i,g,k,bV,bH,ag,zc]
 simp only[j8,yK,jl,i,e];obtain⟨r,j,m⟩:=l;exact .inl ⟨g,EvS.list ⟨r,j,h r.1 r.2.1 r.2.2.1 r.2.2.2 m⟩⟩
def Old (ob:ZO) (ub:Nat) (ob':ZO):Prop:=∀k,(∀m,ub<=m->k≠2*m+1)->ob' k=ob k
def NewAt (ub:Nat) (l:List Int) (v:V) (ob':ZO) (ub':Nat):Prop:=∃m,ub<=m/\m<ub'/\v=.osl (2*m+1) m 0 l.length 1/\ob' (2*m+1)=some ⟨m,.cells (l.flatMap yf)⟩
def QM {E:Env}{Yf:YF}{st:St}{ub:Nat}{K:St->Nat->Prop}{d:Option Nat}{nm o:Bool}{sz a l u off n z:Nat}{cs:List V}{s x:A}(e:ye E st.tm s=.osl l u off n z) (f:yp st.ob sz (ye E st.tm x)=some []) (c:st.ob l=some ⟨u,.cells cs⟩)
 (h:jao K st d ub (.osl l u off n z)):j8 E Yf ⟨d,.append o sz a s x,none,nm⟩ st ub K:=by
 have b:ya st.ob l u=some cs:=by simp[ya,c]
 rw[jT _ rfl rfl];simp only[yU,e,f,b,ah,zd,WZ,ja6];exact h
@[simp] theorem eqVV_sl (ob:ZO) (neg nl:Bool) (t a:Option (Nat×Nat)) (n:Nat) (cs:List V):j1a ob neg .sl (.sl t nl n cs) (.sl a true 0 [])=some (.bool (xor neg nl)):=rfl
def CopyP (ob:ZO) (tk:Nat->Bool) (ub:Nat) (l:List Int) (r:V×(ZO)×(Nat->Bool)×Nat):Prop:=NewAt ub l r.1 r.2.1 r.2.2.2/\Old ob ub r.2.1/\r.2.2.1=tk/\ub<=r.2.2.2
def sv38 {Yf:YF}(b:Bool) (l:List Int) (j:l.length<=1000000000) {ob:ZO}{tk:Nat->Bool}{ro base ub:Nat}(h:ro<=ub):∃r,EvS E Yf.y 38 [yl b yf l] ob tk ro base ub r/\CopyP ob tk ub l r:=by
 refine J6 rfl zQ ?_;show wpC E Yf S38.body _ (Jg S38.res _);conv in(occs:=*)S38=>all_goals cbv
 simp;refine jZ (cs:=[]) rfl rfl rfl ?_;simp;by_cases f:l=[]
 ·subst f;refine QM (l:=2*(ub+64)+1) (u:=ub+64) (off:=0) (n:=0) (z:=1) (cs:=[]) zS (by simp[Qf j6]) zS ?_;simp;refine JL zS ⟨⟨ub+64,zO,by simp;try omega,zS,zS⟩,λk a=>?_,by simp[jk],by simp;try omega⟩;have:=a (ub+64) zO;simp[this]
 ·have d:l.flatMap yf≠[]:=λe=>f (by have:=zg List.length e;rw[j1 j6]at this;exact cB.1 (zU this));have c:(l.flatMap yf).length/1=l.length:=by rw[j1 j6];simp
  refine JJ (l:=2*(ub+64)+1) (u:=ub+64) (n:=0) (cs:=[]) (ys:=l.flatMap yf) zS (by simp[Qf j6]) zS d zP zS zQ (by simp[yf]) (by rw[c];omega) (by rw[c];omega) ?_;rw[c];simp;refine JL zS ⟨⟨ub+192,zO,by simp;try omega,zS,zS⟩,λk a=>?_,by simp[jqg],by simp;try omega⟩;have i:=a (ub+64) zO;have g:=a (ub+192) zO;simp[i,g]
def sv99 {Yf:YF}(l:List Int) (i:l.length<=1000000000) {ob:ZO}{tk:Nat->Bool}{ro base ub:Nat}(h:ro<=ub):∃r,EvS E Yf.y 99 [yl false yf l] ob tk ro base ub r/\CopyP ob tk ub l r:=by
 refine J6 rfl zQ ?_;show wpC E Yf S99.body _ (Jg S99.res _);conv in(occs:=*)S99=>all_goals cbv
 simp[yl];refine jZ (cs:=[]) rfl rfl rfl ?_;simp;by_cases d:l=[]
 ·subst d;refine QM (l:=2*(ub+192)+1) (u:=ub+192) (off:=0) (n:=0) (z:=1) (cs:=[]) zS (by simp[yp]) zS ?_;simp;refine JL zS ⟨⟨ub+192,zO,by simp;try omega,zS,zS⟩,λk a=>?_,by simp[jk],by simp;try omega⟩;have:=a (ub+192) zO;simp[this]
 ·have c:l.flatMap yf≠[]:=λe=>d (by have:=zg List.length e;rw[j1 j6]at this;exact cB.1 (zU this));have b:(l.flatMap yf).length/1=l.length:=by rw[j1 j6];simp
  refine JJ (l:=2*(ub+192)+1) (u:=ub+192) (n:=0) (cs:=[]) (ys:=l.flatMap yf) zS (by simp[yp,j1 j6]) zS c zP zS zQ (by simp[yf]) (by rw[b];omega) (by rw[b];omega) ?_;rw[b];simp;refine JL zS ⟨⟨ub+320,zO,by simp;try omega,zS,zS⟩,λk a=>?_,by simp[jqg],by simp;try omega⟩;have g:=a (ub+192) zO;have f:=a (ub+320) zO;simp[g,f]
def sv99n {Yf:YF}{ob:ZO}{tk:Nat->Bool}{ro base ub:Nat}:∃r,EvS E Yf.y 99 [.sl none true 0 []] ob tk ro base ub r/\r.1=.sl none true 0 []/\r.2.1=ob/\r.2.2.1=tk/\ub<=r.2.2.2:=by
 refine J6 rfl zQ ?_;show wpC E Yf S99.body _ (Jg S99.res _);conv in(occs:=*)S99=>all_goals cbv
 simp;exact JL zS ⟨zS,zS,zS,by simp;omega⟩
def Wb (c:List Int) (q:Nat):Nat:=(q+1) % c.length
end Go.Pv.T
namespace Go.Pv.T
open Go Go.Pv
end Go.Pv.T
namespace Go.Pv.T
open Go Go.Pv
def jks {st:St}{ub:Nat}{K:List FP->St->Prop}{d:Option Nat}{nm:Bool}{r:List AOpr}(h:YU E r K (ye E st.tm) .mkMap st d ub { v:=.map (jI d nm st.fb ub) ub,obs:=[(jI d nm st.fb ub,⟨ub,.mp 0 []⟩)] }):jE E (⟨d,.mkMap,none,nm⟩::r) st ub K:=by rw[jv rfl];simp only[yU,Jn,jG,Jd];exact h
end Go.Pv.T
namespace Go.Pv.T
open Go Go.Pv
end Go.Pv.T
namespace Go.Pv.T
open Go Go.Pv
end Go.Pv.T
namespace Go.Pv.T
open Go Go.Pv
section
end
def j14 {c:Type}{f:c->List V}{k:Nat}(b:∀a,(f a).length=k) (nl:Bool) (l:List c) (n:Nat) (kk:IntKind):Yz k none (some (.int kk ((min l.length n:Nat):Int))) (yl nl f l)=some (.sl none nl (min l.length n) ((l.take n).flatMap f)):=by have d:=joo (kk:=kk) (t:=none) (nl:=nl) (sz:=k) (cs:=l.flatMap f) (n:=l.length) (k:=min l.length n) (eX _ _) (j1 b _);refine Eq.trans d ?_;rw[jcb b];congr 2;rcases iu l.length n with h|h;rw[cE h,bg,aH h];rw[fO h]
def jtx {st:St}{k:Nat}{v:V}(h:v.pureLeaf=true):JX st (k+1) v=some v:=by
 cases v with
 |sl t b n cs=>cases t with
  |none=>rfl
  |some t=>cases h
 |osl l u a n s=>cases h
 |_=>simp[JX,h]
def jbk {st:St}{k:Nat}:∀{l:List V},l.all V.pureLeaf=true->l.mapM (JX st (k+1))=some l
 |[],_=>rfl
 |v::l,h=>by rw[bU,aj]at h;rw[bQ,jtx h.1,jbk h.2];rfl
def j3l (l:List Op'):(l.flatMap yS).all V.pureLeaf=true:=by rw[eS,aw];intro t _;rfl
def jr6 {f:V->Option V}:∀{l m l' a:List V},l.mapM f=some l'->m.mapM f=some a->(l++m).mapM f=some (l'++a)
 |[],m,l',a,h,h'=>by cases (show some []=some l' from h);exact h'
 |v::l,m,l',a,h,h'=>by
  rw[bQ]at h;rw[cY,bQ];cases c:f v with
  |none=>rw[c]at h;cases h
  |some e=>
   rw[c]at h;cases b:l.mapM f with
   |none=>rw[b]at h;cases h
   |some r=>rw[b]at h;cases (show some (e::r)=some l' from h);rw[jr6 b h'];rfl
def txU (p:Txn'×Nat):List V:=[.int .i64 p.1.s,.int .i64 p.1.f,.osl (2*p.2+1) p.2 0 p.1.ops.length 4]
@[simp] theorem QC (p:Txn'×Nat):(txU p).length=3:=rfl
structure InO (ob:ZO) (lo hi:Nat) (p:Txn'×Nat):Prop where
 nl:p.1.nl=false
 lo:lo<=p.2
 hi:p.2<hi
 ob:∃X,ob (2*p.2+1)=some ⟨p.2,.cells X⟩/\p.1.ops.length*4<=X.length/\X.take (p.1.ops.length*4)=p.1.ops.flatMap yS
def InO.frame {ob ob':ZO}{lo hi hi':Nat}{p:Txn'×Nat}(h:InO ob lo hi p) (a:ob' (2*p.2+1)=ob (2*p.2+1)) (b:hi<=hi'):InO ob' lo hi' p :=
 ⟨h.nl,h.lo,by have:=h.hi;omega,by rw[a];exact h.ob⟩
def TsO (ob:ZO) (lo hi:Nat) (P:List (Txn'×Nat)) (v:V):Prop :=
 (∀p∈P,InO ob lo hi p)/\((P=[]/\v=.sl none true 0 [])\/(P≠[]/\∃u,lo<=u/\u<hi/\(∀p∈P,p.2≠u)/\v=.osl (2*u+1) u 0 P.length 3/\ob (2*u+1)=some ⟨u,.cells (P.flatMap txU)⟩))
def TsO.frame {ob ob':ZO}{lo hi hi':Nat}{P:List (Txn'×Nat)}{v:V}(h:TsO ob lo hi P v) (e:∀u,lo<=u->u<hi->ob' (2*u+1)=ob (2*u+1)) (g:hi<=hi'):TsO ob' lo hi' P v:=by refine⟨λp a=>(h.1 p a).frame (e _ (h.1 p a).lo (h.1 p a).hi) g,?_⟩;rcases h.2 with c|⟨b,u,f,c,i,j,k⟩;exact .inl c;exact .inr ⟨b,u,f,zO,i,j,by rw[e u f c];exact k⟩
def j13 {st:St}{lo hi:Nat}{p:Txn'×Nat}(h:InO st.ob lo hi p) (i:st.ro<=lo):JX st 5 (.osl (2*p.2+1) p.2 0 p.1.ops.length 4)=some (yl p.1.nl yS p.1.ops):=by
 obtain⟨X,e,g,f⟩:=h.ob;have c:=h.lo;have a:ya st.ob (2*p.2+1) p.2=some X:=by simp[ya,e]
 show((ya st.ob (2*p.2+1) p.2).bind λcs=>if Nat.ble st.ro p.2=true/\0+p.1.ops.length*4<=cs.length then (((cs.drop 0).take (p.1.ops.length*4)).mapM (JX st 4)).map λb=>V.sl none false p.1.ops.length b else none)=_;rw[a,ah,zb ⟨bS▸zO,zO⟩,du,f,jbk (j3l _),h.nl];rfl
def jlv {st:St}{lo hi:Nat}(a:st.ro<=lo):∀{P:List (Txn'×Nat)},(∀p∈P,InO st.ob lo hi p)->(P.flatMap txU).mapM (JX st 5)=some ((P.map (·.1)).flatMap jf)
 |[],_=>rfl
 |p::P,h=>by rw[bk,aZ,bk];refine jr6 ?_ (jlv a λq b=>h q (aX _ b));have:=j13 (h p (aO ..)) a;show[V.int .i64 p.1.s,.int .i64 p.1.f,.osl (2*p.2+1) p.2 0 p.1.ops.length 4].mapM (JX st 5)=_;rw[bQ,bQ,bQ,this];rfl
def TsO.out {st:St}{lo hi:Nat}{P:List (Txn'×Nat)}{v:V}(h:TsO st.ob lo hi P v) (e:st.ro<=lo):jdg st v P.isEmpty P.length ((P.map (·.1)).flatMap jf):=by
 rcases h.2 with⟨rfl,rfl⟩|⟨c,u,m,k,l,rfl,j⟩;exact ja _ none true 0 [];intro keep i;have a:ya st.ob (2*u+1) u=some (P.flatMap txU):=by simp[ya,j]
 have f:JX st 6 (.osl (2*u+1) u 0 P.length 3)=some (.sl none false P.length ((P.map (·.1)).flatMap jf)):=by show((ya st.ob (2*u+1) u).bind λcs=>if Nat.ble st.ro u=true/\0+P.length*3<=cs.length then (((cs.drop 0).take (P.length*3)).mapM (JX st 5)).map λb=>V.sl none false P.length b else none)=_;rw[a,ah,zb ⟨bS▸zO,by rw[j1 QC];omega⟩,du,<- j1 QC P,bg,jlv e h.1];rfl
 have g:P.isEmpty=false:=by cases P<;>simp_all
 rw[g];refine⟨_,by simp only[js,f,ah,a,aU];rfl,?_⟩;split;exact .inr ⟨_,rfl⟩;exact .inl rfl
section
variable {Yf:YF}{st:St}{ub:Nat}{K:St->Nat->Prop}{d:Nat}
def j3z {v:Type}{f:v->List V}{l:List v}{z sz c:Nat}{s x:A}(w:ye E st.tm s=.osl (2*z+1) z 0 0 sz) (j:st.ob (2*z+1)=some ⟨z,.cells []⟩) (p:st.ro<=z)
 (y:yp st.ob sz (ye E st.tm x)=some (l.flatMap f)) (r:∀a,(f a).length=sz) (m:0<sz) (hp:(l.flatMap f).all V.leaf=true) (D:l.length*c<=140737488355328) (o:l.length<=140737488355328)
 (h:∀(g:St) (u:Nat),(u=z\/u=ub)->g.ob (2*u+1)=some ⟨u,.cells (l.flatMap f)⟩->(∀b,b≠2*z+1->b≠2*ub+1->g.ob b=st.ob b)->(∀t,g.tm t=if t=d then .osl (2*u+1) u 0 l.length sz else st.tm t)->g.df=st.df->g.ro=st.ro->g.fb=st.fb->g.tk=st.tk->K g (ub+64)) :
 j8 E Yf ⟨some d,.append true sz c s x,none,true⟩ st ub K:=by
 cases l with
 |nil=>
  rw[jT _ rfl rfl];simp only[yU,w,y,ah,gV,zd];have i:ya st.ob (2*z+1) z=some []:=by simp[ya,j]
  rw[i,ah,WZ];show QN K st (some d) ub _;rw[jc2];exact h _ z (.inl rfl) (zU j) (λb _ _=>by simp) (λt=>by rw[jnz];rfl) rfl rfl rfl zS
 |cons a l=>
  have q:((a::l).flatMap f).length/sz=(a::l).length:=by rw[j1 r];exact fq _ m
  have k:(a::l).flatMap f≠[]:=λe=>by have:=zg List.length e;rw[j1 r]at this;have:=Nat.mul_pos (show 0<(a::l).length by simp) m;simp_all
  refine JJ (l:=2*z+1) (u:=z) (n:=0) (cs:=[]) (ys:=(a::l).flatMap f) w y j k p zS m hp (by rw[q,bJ];exact D) (by rw[q,bJ];exact o) ?_;rw[jc2,q,bJ];refine h _ ub (.inr rfl) ?_ (λb B F=>?_) (λt=>by rw[jnz];rfl) rfl rfl rfl ?_;simp[jI];simp[jI,B,F];rfl
def jps {lo hi:Nat}{P:List (Txn'×Nat)}{p:Txn'×Nat}{s x:A}(i:TsO st.ob lo hi P (ye E st.tm s)) (I:hi<=ub) (D:st.ro<=lo) (o:yp st.ob 3 (ye E st.tm x)=some (txU p)) (hp:InO st.ob hi ub p) (F:lo<=hi) (r:P.length<=100000)
 (h:∀(c:St) (m:V),TsO c.ob lo (ub+64) (P++[p]) m->(∀b,(∀u,lo<=u->u<hi->b≠2*u+1)->b≠2*ub+1->c.ob b=st.ob b)->(∀t,c.tm t=if t=d then m else st.tm t)->c.df=st.df->c.ro=st.ro->c.fb=st.fb->c.tk=st.tk->K c (ub+64)) :
 j8 E Yf ⟨some d,.append true 3 40 s x,none,true⟩ st ub K:=by
 have y:=hp.lo;have G:=hp.hi;rcases i.2 with⟨rfl,z⟩|⟨v,u,J,w,B,H,L⟩;refine X8 (n:=0) (cs:=[]) (ys:=txU p) z o (by simp[txU]) zQ rfl zS zS ?_;rw[jc2,show(txU p).length/3=1 by rw[QC]];refine h _ (.osl (2*ub+1) ub 0 1 3) ⟨?_,.inr ⟨zS,ub,zO,zO,?_,zS,?_⟩⟩ (λb k f=>?_) (λt=>by rw[jnz];rfl) rfl rfl rfl ?_;intro q a;simp only[dz,ae]at a;subst a;refine⟨hp.nl,zO,zO,?_⟩;have:¬2*q.2=2*ub:=zO;simpa[jI,XM,this] using hp.ob;intro q a;simp only[dz,ae]at a;subst a;omega;simp[jI,XM];simp[jI,XM,f];rfl;refine JJ (l:=2*u+1) (u:=u) (n:=P.length) (cs:=P.flatMap txU) (ys:=txU p) H o L (by simp[txU]) zO (by rw[j1 QC];omega) zQ rfl zP zP ?_;rw[jc2,show(txU p).length/3=1 by rw[QC]];refine h _ (.osl (2*ub+1) ub 0 (P.length+1) 3) ⟨?_,.inr ⟨zS,ub,zO,zO,?_,zS,?_⟩⟩ (λb k f=>?_) (λt=>by rw[jnz];rfl) rfl rfl rfl ?_;intro q a;rw[aQ,ae]at a;rcases a with a|rfl;have hi:=i.1 q a;refine⟨hi.nl,hi.lo,by have:=hi.hi;omega,?_⟩;have g:¬2*q.2=2*ub:=by have:=hi.hi;omega
 have j:¬2*q.2=2*u:=by have:=B q a;omega
 simpa[jI,g,j] using hi.ob;refine⟨hp.nl,zO,zO,?_⟩;have g:¬2*q.2=2*ub:=zO;have j:¬2*q.2=2*u:=zO;simpa[jI,g,j] using hp.ob;intro q a;rw[aQ,ae]at a;rcases a with a|rfl;have:=(i.1 q a).hi;omega;omega;simp[jI];exact aH (by rw[j1 QC];omega);have e:=k u J w;simp[jI,e,f];rfl
end
section
variable {E:Env}{st:St}{ub:Nat}{K:List FP->St->Prop}{d:Option Nat}{r:List AOpr}
def jz {sz n:Nat}{zero:List V}{a:List (Nat×Nat×A)}{cs:List V}(b:fill zero (JE (ye E st.tm) a)=some cs) (c:cs.length=n*sz) (hp:cs.all V.leaf=true)
 (h:YU E r K (ye E st.tm) (.buildSl true sz zero a n) st d ub { v:=.osl (2*ub+1) ub 0 n sz,obs:=[(2*ub+1,⟨ub,.cells cs⟩)] }):jE E (⟨d,.buildSl true sz zero a n,none,true⟩::r) st ub K:=by
 rw[jv rfl];simp only[yU,b,ah,zd];rw[zb ⟨c,hp⟩,Jn,jG];exact h
end
def jgu {b a:Type}{l:List b}{m:List a}(h:l.length=m.length):l.isEmpty=m.isEmpty:=by cases l<;>cases m<;>simp_all
def StO (ob:ZO) (lo hi:Nat) (l:List (List UInt8)) (v:V):Prop :=
 (l=[]/\v=.sl none true 0 [])\/(l≠[]/\∃u,lo<=u/\u<hi/\v=.osl (2*u+1) u 0 l.length 1/\ob (2*u+1)=some ⟨u,.cells (l.flatMap X1)⟩)
def StO.frame {ob ob':ZO}{lo hi lo' hi':Nat}{l:List (List UInt8)}{v:V}(h:StO ob lo hi l v) (b:∀u,lo<=u->u<hi->ob' (2*u+1)=ob (2*u+1)) (g:lo'<=lo) (i:hi<=hi'):StO ob' lo' hi' l v:=by rcases h with h|⟨a,u,f,c,d,e⟩;exact .inl h;exact .inr ⟨a,u,zO,zO,d,by rw[b u f c];exact e⟩
def StO.leaf {ob:ZO}{lo hi:Nat}{l:List (List UInt8)}{v:V}(h:StO ob lo hi l v):v.leaf=true/\v.cells=[v]:=by rcases h with⟨_,rfl⟩|⟨_,u,_,_,rfl,_⟩<;>exact⟨rfl,rfl⟩
def TsO.leaf {ob:ZO}{lo hi:Nat}{P:List (Txn'×Nat)}{v:V}(h:TsO ob lo hi P v):v.leaf=true/\v.cells=[v]:=by rcases h.2 with⟨_,rfl⟩|⟨_,u,_,_,_,rfl,_⟩<;>exact⟨rfl,rfl⟩
def StO.out {st:St}{lo hi:Nat}{l:List (List UInt8)}{v:V}(h:StO st.ob lo hi l v) (e:st.ro<=lo):jdg st v l.isEmpty l.length (l.flatMap X1):=by
 rcases h with⟨rfl,rfl⟩|⟨b,u,f,d,rfl,c⟩;exact ja _ none true 0 [];have a:l.isEmpty=false:=by cases l<;>simp_all
 rw[a];exact jcf c (by rw[j1 Yp,bz]) zO (by rw[eS,aw];intro _ _;rfl)
def j9 (st:St) (d:Option Nat) (v:V) (l k:Nat) (o':Obj') (ks:List Nat):(st.app d { v:=v,obs:=[(l,o')],kill:=ks }).ob k=if k=l then some o' else if ks.any (Nat.beq k) then none else st.ob k:=by simp[St.app,Jk,yg]
def jgs {E:Env}{st:St}{ub:Nat}{K:List FP->St->Prop}{d:Option Nat}{r:List AOpr}{lo hi:Nat}{l:List (List UInt8)}{c:List UInt8}{s x:A}(w:StO st.ob lo hi l (ye E st.tm s)) (m:yp st.ob 1 (ye E st.tm x)=some (X1 c)) (t:st.ro<=lo) (i:l.length<=1000)
 (h:∀j:List Nat,(∀k∈j,∃u,lo<=u/\u<hi/\k=2*u+1)->YU E r K (ye E st.tm) (.append true 1 16 s x) st d ub { v:=.osl (2*ub+1) ub 0 (l.length+1) 1,obs:=[(2*ub+1,⟨ub,.cells ((l++[c]).flatMap X1)⟩)],kill:=j }) :
 jE E (⟨d,.append true 1 16 s x,none,true⟩::r) st ub K:=by
 rw[jv rfl];rcases w with⟨rfl,p⟩|⟨n,u,z,o,q,y⟩;simp only[yU,p,m,ah];rw[za (by simp[X1]),zb (show(true&&true)=true from rfl),zb ⟨zQ,rfl,by simp[X1],by simp[X1]⟩,Jn,jG];have:=h [] (λk b=>by cases b);have e:([]++[c]).flatMap X1=X1 c:=zS;rw[e]at this;have g:(X1 c).length/1=1:=by simp[X1]
 rw[g];exact this;have f:ya st.ob (2*u+1) u=some (l.flatMap X1):=by simp[ya,y]
 simp only[yU,q,m,ah,f];have a:(l.flatMap X1).length=l.length:=by rw[j1 Yp,bz]
 rw[za (by simp[X1]),zb ⟨bS▸zO,trivial,trivial,by rw[a];omega,zQ,rfl,by simp[X1];omega,by simp[X1];omega⟩,jG];have:=h [2*u+1] (λk b=>by simp only[ae]at b;exact⟨u,z,o,b⟩);have e:(l++[c]).flatMap X1=(l.flatMap X1).take (l.length*1)++X1 c:=by rw[aH (by rw[a];omega),bK];simp
 rw[e]at this;have g:(X1 c).length/1=1:=by simp[X1]
 rw[g];exact this
def j6u {ks:List Nat}{key:Nat}(h:∀k∈ks,key≠k):ks.any (Nat.beq key)=false:=by rw[eO];intro k a b;exact h k a (bt b)
noncomputable def few1S:C:=tlC (tlC S27.body)
noncomputable def few2S:C:=tlC few1S
noncomputable def few3S:C:=tlC few2S
noncomputable def few4S:C:=tlC few3S
structure FewO (h:Hist') (ob0:ZO) (ub ro:Nat) (s:St) (a b N1 N2:Nat) (Sv Kv Tv:V) (P:List (Txn'×Nat)):Prop where
 t1:s.tm 1=.ptr (2*ub+1) ub 0
 t2:s.tm 2=.ptr (2*(ub+64)+1) (ub+64) 0
 t3:s.tm 3=.ptr (2*(ub+192)+1) (ub+192) 0
 d:s.df=[]
 ro:s.ro=ro
 o1:s.ob (2*ub+1)=some ⟨ub,.cells (yb h)⟩
 o2:s.ob (2*(ub+64)+1)=some ⟨ub+64,.cells [.sl none true 0 [],.sl none true 0 [],.sl none true 0 []]⟩
 o3:s.ob (2*(ub+192)+1)=some ⟨ub+192,.cells [Sv,Kv,Tv]⟩
 gS:StO s.ob (ub+256) N1 (WL a h.ss) Sv
 gK:StO s.ob N1 N2 (WL b h.ks) Kv
 gT:TsO s.ob N2 s.nx P Tv
 n0:ub+256<=N1
 n1:N1<=N2
 n2:N2<=s.nx
 fr:∀key,(∀m,ub<=m->key≠2*m+1)->s.ob key=ob0 key
def few0S {h:Hist'}{Yf:YF}{ob:ZO}{tk:Nat->Bool}{ro base ub:Nat}{Q:Ex->St->Prop}(d:ro<=ub) (a:∀s,FewO h ob ub ro s 0 0 s.nx s.nx (.sl none true 0 []) (.sl none true 0 []) (.sl none true 0 []) []->wpC E Yf few1S s Q) :
 wpC E Yf S27.body (XD [.agg (yb h)] ob tk ro base ub) Q:=by
 have e:S27.body=.seq (hdC S27.body) (.seq (hdC (tlC S27.body)) few1S):=rfl;rw[e];conv in(occs:=*)S27=>all_goals cbv
 simp[hdC,tlC,yb,ya,j2];have a1:¬2*ub=2*(ub+64):=zO;have a2:¬2*ub=2*(ub+64+64+64):=zO;have a3:¬2*(ub+64)=2*(ub+64+64+64):=zO;refine⟨zO,a _ ⟨zS,zS,zS,zS,zS,by simp[yb,a1,a2],by simp[a3],zS,.inl ⟨rfl,rfl⟩,.inl ⟨rfl,rfl⟩,⟨zS,.inl ⟨rfl,rfl⟩⟩,zS,zK,zK,λc b=>?_⟩⟩;have f:=b ub zK;have i:=b (ub+64) zO;have g:=b (ub+64+64+64) zO;simp[f,i,g]
def j4y:few1S=.seq (hdC few1S) few2S:=rfl
def few1O {h:Hist'}{Yf:YF}{ob0:ZO}{ub ro:Nat}{K:St}{Q:Ex->St->Prop}(b6:ro<=ub) (hs:FewO h ob0 ub ro K 0 0 K.nx K.nx (.sl none true 0 []) (.sl none true 0 []) (.sl none true 0 []) [])
 (p:∀s B,FewO h ob0 ub ro s 25 0 s.nx s.nx B (.sl none true 0 []) (.sl none true 0 []) []->wpC E Yf few2S s Q):wpC E Yf few1S K Q:=by
 rw[j4y];obtain⟨o,I,t,J,fr,D,L,w,T,gK,gT,n0,n1,n2,H⟩:=hs;simp only[few1S];conv in(occs:=*)S27=>all_goals cbv
 simp[hdC,tlC];refine j5 [(4,4),(9,37)] 25 (λi s=>s.tm 4=.int .i64 i/\i<=h.ss.length/\∃B,FewO h ob0 ub ro s i 0 s.nx s.nx B (.sl none true 0 []) (.sl none true 0 []) []) rfl rfl ?_ ?_;refine⟨zS,zS,.sl none true 0 [],⟨by simp[o],by simp[I],by simp[t],by simp[J],by simp[fr],by simp[D],by simp[L],by simp[w],.inl ⟨rfl,rfl⟩,.inl ⟨rfl,rfl⟩,⟨zS,.inl ⟨rfl,rfl⟩⟩,by simp;omega,zK,zK,λa e=>by simp[H a e]⟩⟩;rintro i s hi ⟨G,b0,B,o,I,t,J,fr,D,L,w,T,gK,gT,n0,n1,n2,H⟩ f;clear f;have n:¬(i<h.ss.length/\i<25)->∀g:St,(g.tm 1=s.tm 1/\g.tm 2=s.tm 2/\g.tm 3=s.tm 3)->g.df=s.df->g.ro=s.ro->g.ob=s.ob->s.nx<=g.nx->wpC E Yf few2S g Q:=by intro hx g ⟨q1,q2,q3⟩ e2 e3 y e5;refine p g B ⟨q1.trans o,q2.trans I,q3.trans t,by rw[e2];exact J,by rw[e3];exact fr,by rw[y];exact D,by rw[y];exact L,by rw[y];exact w,?_,.inl ⟨rfl,rfl⟩,⟨zS,.inl ⟨rfl,rfl⟩⟩,zO,zK,zK,λa e=>by rw[y];exact H a e⟩;rw[<- jsu b0 hi hx,y];exact T.frame (λ_ _ _=>rfl) zK e5
 have r:s.ob (2*ub+1)=some ⟨ub,.cells [yl h.sn X1 h.ss,yl h.kn X1 h.ks,yl h.tn jf h.ts]⟩:=D;by_cases b:i<h.ss.length;by_cases q:i<25;have hw:=jP q zO;have d:(i:Int)<25:=zO;obtain⟨c,hc⟩:∃c,h.ss[i]=c:=⟨_,rfl⟩;have x:=jh1 h.ss b;have m:=jnn b q;rw[hc]at x m;have F:=jkj c.length 100;have z:=jq6 (l:=c) (kk:=.i64) (eX c.length 100);have S:=jfr c;rw[S]at z;rw[show((100:Nat):Int)=100 from rfl]at F;simp[F,z,G,o,r,ya,b,d,t,w,j4 Yp,x];refine jz (cs:=[.str (c.take 100)]) (by simp[j2]) rfl rfl ?_;simp;have b5:s.nx<=(s.nx+64+64+64+64+64+64+64+64+64+64+64+64+64+64+64+64+64+64+64+64+64+64+64+64):=zO;have b9:s.nx<=(s.nx+64+64+64+64+64+64+64+64+64+64+64+64+64+64+64+64+64+64+64+64+64+64+64+64+64):=zO;have b8:(s.nx+64+64+64+64+64+64+64+64+64+64+64+64+64+64+64+64+64+64+64+64+64+64+64+64)<(s.nx+64+64+64+64+64+64+64+64+64+64+64+64+64+64+64+64+64+64+64+64+64+64+64+64+64):=zO;have b7:=jss i h.ss;refine jgs (lo:=ub+256) (hi:=s.nx) (l:=WL i h.ss) (c:=c.take 100) ?_ (by simp[yp,ya];rfl) (by simp[fr];omega) zO λks U=>?_;simp;refine T.frame (λu X N=>?_) zK zK;have e1:¬2*u=2*(s.nx+64+64+64+64+64+64+64+64+64+64+64+64+64+64+64+64+64+64+64+64+64+64+64+64):=zO;simp[e1];rw[<- m];have v:(WL i h.ss).length+1=(WL (i+1) h.ss).length:=by rw[m];simp
 rw[v];have j:∀a,(∀u,ub+256<=u->u<s.nx->a≠2*u+1)->ks.any (Nat.beq a)=false:=λa e=>j6u λk P=>by obtain⟨u,X,N,h3⟩:=U k P;rw[h3];exact e u X N
 have O:=j (2*ub+1) (λu _ _=>by omega);have a0:=j (2*(ub+64)+1) (λu _ _=>by omega);have Z:=j (2*(ub+192)+1) (λu _ _=>by omega);have w1:¬2*ub=2*(s.nx+64+64+64+64+64+64+64+64+64+64+64+64+64+64+64+64+64+64+64+64+64+64+64+64+64):=zO;have w2:¬2*(ub+64)=2*(s.nx+64+64+64+64+64+64+64+64+64+64+64+64+64+64+64+64+64+64+64+64+64+64+64+64+64):=zO;have w3:¬2*(ub+192)=2*(s.nx+64+64+64+64+64+64+64+64+64+64+64+64+64+64+64+64+64+64+64+64+64+64+64+64+64):=zO;have w4:¬2*ub=2*(s.nx+64+64+64+64+64+64+64+64+64+64+64+64+64+64+64+64+64+64+64+64+64+64+64+64):=zO;have w5:¬2*(ub+64)=2*(s.nx+64+64+64+64+64+64+64+64+64+64+64+64+64+64+64+64+64+64+64+64+64+64+64+64):=zO;have w6:¬2*(ub+192)=2*(s.nx+64+64+64+64+64+64+64+64+64+64+64+64+64+64+64+64+64+64+64+64+64+64+64+64):=zO;have w7:¬2*(s.nx+64+64+64+64+64+64+64+64+64+64+64+64+64+64+64+64+64+64+64+64+64+64+64+64+64)=2*(ub+192):=zO;have w8:¬2*ub=2*(ub+192):=zO;have w9:¬2*(ub+64)=2*(ub+192):=zO;simp[t,ya,j9,Z,w3,w6,w,fr,j2,G,hw];refine⟨zO,?_,?_⟩;simp[JQ,YW,Wk,QP,yz,yB,yR,Delta.wo,Delta.wt];exact nbeq zO;have M:WL (i+1) h.ss≠[]:=by rw[m];simp
 refine⟨q,zO,.osl (2*(s.nx+64+64+64+64+64+64+64+64+64+64+64+64+64+64+64+64+64+64+64+64+64+64+64+64+64)+1) (s.nx+64+64+64+64+64+64+64+64+64+64+64+64+64+64+64+64+64+64+64+64+64+64+64+64+64) 0 (WL (i+1) h.ss).length 1,⟨by simp[o],by simp[I],by simp[t],by simp[J],by simp[fr],by simp[j9,O,w1,w4,w8,D],by simp[j9,a0,w2,w5,w9,L],zS,
  .inr ⟨M,(s.nx+64+64+64+64+64+64+64+64+64+64+64+64+64+64+64+64+64+64+64+64+64+64+64+64+64),zO,zS,rfl,by simp[j9,w7]⟩,.inl ⟨rfl,rfl⟩,⟨zS,.inl ⟨rfl,rfl⟩⟩,by simp;omega,zK,zK,λa e=>?_⟩⟩
 have k1:=e (ub+192) zO;have k2:=e (s.nx+64+64+64+64+64+64+64+64+64+64+64+64+64+64+64+64+64+64+64+64+64+64+64+64+64) zO;have k3:=e (s.nx+64+64+64+64+64+64+64+64+64+64+64+64+64+64+64+64+64+64+64+64+64+64+64+64) zO;have k4:=j a (λu X N=>e u zO);simp[j9,k1,k2,k3,k4];exact H a e;have d:¬(i:Int)<25:=zO;simp[G,o,r,ya,b,d];exact n zO _ ⟨zS,zS,zS⟩ zS zS (by funext k;simp) zP;simp[G,o,r,ya,b];exact n zO _ ⟨zS,zS,zS⟩ zS zS (by funext k;simp) zP
def j4x:few2S=.seq (hdC few2S) few3S:=rfl
def few2O {h:Hist'}{Yf:YF}{ob0:ZO}{ub ro:Nat}{s0:St}{Q:Ex->St->Prop}{w:Nat}{S0:V}(b9:ro<=ub) (hs:FewO h ob0 ub ro s0 25 0 w s0.nx S0 (.sl none true 0 []) (.sl none true 0 []) [])
 (p:∀s B,FewO h ob0 ub ro s 25 45 w s.nx S0 B (.sl none true 0 []) []->wpC E Yf few3S s Q):wpC E Yf few2S s0 Q:=by
 rw[j4x];obtain⟨o,L,v,M,fr,F,P,y,N,gK,gT,K,n1,n2,J⟩:=hs;simp only[few2S,few1S];conv in(occs:=*)S27=>all_goals cbv
 simp[hdC,tlC];refine j5 [(5,5),(38,66)] 45 (λi s=>s.tm 5=.int .i64 i/\i<=h.ks.length/\∃B,FewO h ob0 ub ro s 25 i w s.nx S0 B (.sl none true 0 []) []) rfl rfl ?_ ?_;refine⟨zS,zS,.sl none true 0 [],⟨by simp[o],by simp[L],by simp[v],by simp[M],by simp[fr],by simp[F],by simp[P],by simp[y],N.frame (λ_ _ _=>by simp) zK zK,.inl ⟨rfl,rfl⟩,⟨zS,.inl ⟨rfl,rfl⟩⟩,K,by simp;omega,zK,λa g=>by simp[J a g]⟩⟩;rintro i s hi ⟨I,b7,B,o,L,v,M,fr,F,P,y,N,gK,gT,K,n1,n2,J⟩ f;clear f;have n:¬(i<h.ks.length/\i<45)->∀j:St,(j.tm 1=s.tm 1/\j.tm 2=s.tm 2/\j.tm 3=s.tm 3)->j.df=s.df->j.ro=s.ro->j.ob=s.ob->s.nx<=j.nx->wpC E Yf few3S j Q:=by intro hx j ⟨q1,q2,q3⟩ e2 e3 t e5;refine p j B ⟨q1.trans o,q2.trans L,q3.trans v,by rw[e2];exact M,by rw[e3];exact fr,by rw[t];exact F,by rw[t];exact P,by rw[t];exact y,by rw[t];exact N,?_,⟨zS,.inl ⟨rfl,rfl⟩⟩,K,zO,zK,λa g=>by rw[t];exact J a g⟩;rw[<- jsu b7 hi hx,t];exact gK.frame (λ_ _ _=>rfl) zK e5
 have r:s.ob (2*ub+1)=some ⟨ub,.cells [yl h.sn X1 h.ss,yl h.kn X1 h.ks,yl h.tn jf h.ts]⟩:=F;by_cases d:i<h.ks.length;by_cases q:i<45;have hw:=jP q zO;have e:(i:Int)<45:=zO;obtain⟨c,hc⟩:∃c,h.ks[i]=c:=⟨_,rfl⟩;have z:=jh1 h.ks d;have m:=jnn d q;rw[hc]at z m;have G:=jkj c.length 100;have D:=jq6 (l:=c) (kk:=.i64) (eX c.length 100);have a0:=jfr c;rw[a0]at D;rw[show((100:Nat):Int)=100 from rfl]at G;simp[G,D,I,o,r,ya,d,e,v,y,j4 Yp,z];refine jz (cs:=[.str (c.take 100)]) (by simp[j2]) rfl rfl ?_;simp;have b8:s.nx<=(s.nx+64+64+64+64+64+64+64+64+64+64+64+64+64+64+64+64+64+64+64+64+64+64+64+64):=zO;have c2:s.nx<=(s.nx+64+64+64+64+64+64+64+64+64+64+64+64+64+64+64+64+64+64+64+64+64+64+64+64+64):=zO;have c1:(s.nx+64+64+64+64+64+64+64+64+64+64+64+64+64+64+64+64+64+64+64+64+64+64+64+64)<(s.nx+64+64+64+64+64+64+64+64+64+64+64+64+64+64+64+64+64+64+64+64+64+64+64+64+64):=zO;have c0:=jss i h.ks;refine jgs (lo:=w) (hi:=s.nx) (l:=WL i h.ks) (c:=c.take 100) ?_ (by simp[yp,ya];rfl) (by simp[fr];omega) zO λks b0=>?_;simp;refine gK.frame (λu O H=>?_) zK zK;have e1:¬2*u=2*(s.nx+64+64+64+64+64+64+64+64+64+64+64+64+64+64+64+64+64+64+64+64+64+64+64+64):=zO;simp[e1];rw[<- m];have x:(WL i h.ks).length+1=(WL (i+1) h.ks).length:=by rw[m];simp
 rw[x];have b:∀a,(∀u,w<=u->u<s.nx->a≠2*u+1)->ks.any (Nat.beq a)=false:=λa g=>j6u λk U=>by obtain⟨u,O,H,h3⟩:=b0 k U;rw[h3];exact g u O H
 have T:=b (2*ub+1) (λu _ _=>by omega);have b6:=b (2*(ub+64)+1) (λu _ _=>by omega);have b5:=b (2*(ub+192)+1) (λu _ _=>by omega);have w1:¬2*ub=2*(s.nx+64+64+64+64+64+64+64+64+64+64+64+64+64+64+64+64+64+64+64+64+64+64+64+64+64):=zO;have w2:¬2*(ub+64)=2*(s.nx+64+64+64+64+64+64+64+64+64+64+64+64+64+64+64+64+64+64+64+64+64+64+64+64+64):=zO;have w3:¬2*(ub+192)=2*(s.nx+64+64+64+64+64+64+64+64+64+64+64+64+64+64+64+64+64+64+64+64+64+64+64+64+64):=zO;have w4:¬2*ub=2*(s.nx+64+64+64+64+64+64+64+64+64+64+64+64+64+64+64+64+64+64+64+64+64+64+64+64):=zO;have w5:¬2*(ub+64)=2*(s.nx+64+64+64+64+64+64+64+64+64+64+64+64+64+64+64+64+64+64+64+64+64+64+64+64):=zO;have w6:¬2*(ub+192)=2*(s.nx+64+64+64+64+64+64+64+64+64+64+64+64+64+64+64+64+64+64+64+64+64+64+64+64):=zO;have w7:¬2*(s.nx+64+64+64+64+64+64+64+64+64+64+64+64+64+64+64+64+64+64+64+64+64+64+64+64+64)=2*(ub+192):=zO;have w8:¬2*ub=2*(ub+192):=zO;have w9:¬2*(ub+64)=2*(ub+192):=zO;simp[v,ya,j9,b5,w3,w6,y,fr,j2,I,hw];refine⟨zO,?_,?_⟩;simp[JQ,YW,Wk,QP,yz,yB,yR,Delta.wo,Delta.wt];exact nbeq zO;have S:WL (i+1) h.ks≠[]:=by rw[m];simp
 refine⟨q,zO,.osl (2*(s.nx+64+64+64+64+64+64+64+64+64+64+64+64+64+64+64+64+64+64+64+64+64+64+64+64+64)+1) (s.nx+64+64+64+64+64+64+64+64+64+64+64+64+64+64+64+64+64+64+64+64+64+64+64+64+64) 0 (WL (i+1) h.ks).length 1,⟨by simp[o],by simp[L],by simp[v],by simp[M],by simp[fr],by simp[j9,T,w1,w4,w8,F],by simp[j9,b6,w2,w5,w9,P],zS,
  N.frame (λu O H=>?_) zK zK,.inr ⟨S,(s.nx+64+64+64+64+64+64+64+64+64+64+64+64+64+64+64+64+64+64+64+64+64+64+64+64+64),zO,zS,rfl,by simp[j9,w7]⟩,⟨zS,.inl ⟨rfl,rfl⟩⟩,K,by first|omega|(simp;omega),zK,λa g=>?_⟩⟩
 have k1:¬2*u=2*(ub+192):=zO;have Z:¬2*u=2*(s.nx+64+64+64+64+64+64+64+64+64+64+64+64+64+64+64+64+64+64+64+64+64+64+64+64+64):=zO;have X:¬2*u=2*(s.nx+64+64+64+64+64+64+64+64+64+64+64+64+64+64+64+64+64+64+64+64+64+64+64+64):=zO;have k4:=b (2*u+1) (λu' _ _=>by omega);simp[j9,k1,Z,X,k4];have k1:=g (ub+192) zO;have Z:=g (s.nx+64+64+64+64+64+64+64+64+64+64+64+64+64+64+64+64+64+64+64+64+64+64+64+64+64) zO;have X:=g (s.nx+64+64+64+64+64+64+64+64+64+64+64+64+64+64+64+64+64+64+64+64+64+64+64+64) zO;have k4:=b a (λu O H=>g u zO);simp[j9,k1,Z,X,k4];exact J a g;have e:¬(i:Int)<45:=zO;simp[I,o,r,ya,d,e];exact n zO _ ⟨zS,zS,zS⟩ zS zS (by funext k;simp) zP;simp[I,o,r,ya,d];exact n zO _ ⟨zS,zS,zS⟩ zS zS (by funext k;simp) zP
end Go.Pv.T
