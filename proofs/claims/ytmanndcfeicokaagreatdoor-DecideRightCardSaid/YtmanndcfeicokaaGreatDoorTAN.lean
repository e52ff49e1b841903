/- Part. -/
import Derived.Test.YtmanndcfeicokaaGreatDoorTAM
set_option maxRecDepth 100000
set_option maxHeartbeats 8000000
set_option linter.all false
namespace Go.Pv.T
open Go Go.Pv
def yu (w:Nat):List V:=[.int .u64 w,.int .u64 0,.int .u64 0,.int .u64 0,.int .u64 0,.int .u64 0,.int .u64 0,.int .u64 0]
def jce:yu 0=setZ:=rfl
def jp8 {n:Nat}(h:n<64):IntKind.i64.wrap ((n:Int)/64)=0:=by rw[show(n:Int)/64=0 by omega];rfl
def jp7 {n:Nat}(h:n<64):(n:Int).tmod 64=n:=Int.tmod_eq_of_lt zO zO
def j7i {w n:Nat}(a:n<64):YN .shr (.int .u64 (w:Int)) (.int .i64 (n:Int))=some (.int .u64 ((w>>>n:Nat):Int)):=by simp only[YN,jal];rw[za zO];congr 2;rw[aX,show IntKind.u64.bits=64 from rfl,cC (fV a),iv,iu _ (Int.le_of_lt (Int.pow_pos zQ))];simp
def jj6 {n:Nat}(h:n<64):YN .shl (.int .u64 1) (.int .i64 (n:Int))=some (.int .u64 ((1<<<n:Nat):Int)):=by have b:2^n<2^64:=em zQ h;have:=jwm (a:=1) (k:=n) rfl zO zO;rw[dj];rw[Nat.one_mul]at this;exact this
def bit_has (w n:Nat):((((w>>>n)&&&1:Nat):Int)==1)=w.testBit n:=by rw[Nat.testBit,Nat.and_comm 1,Nat.and_one_is_mod];rcases io (w>>>n) with h|h<;>rw[h]<;>rfl
def u64_lt {w n:Nat}(a:w<2^64):w>>>n<2^64:=by rw[iv];exact Nat.lt_of_le_of_lt (Nat.div_le_self _ _) a
def jru {n:Nat}(h:n<64):1<<<n<2^64:=by rw[dj];exact em zQ h
def or_lt {w n:Nat}(a:w<2^64) (h:n<64):w|||1<<<n<2^64:=dP a (jru h)
def jvj (w n:Nat):Nat:=(BitVec.ofNat 64 w &&& ~~~ BitVec.ofNat 64 (1<<<n)).toNat
def j5b {w n:Nat}(b:w<2^64) (c:n<64) (h:w.testBit n=false):jvj (w|||1<<<n) n=w:=by unfold jvj;refine gg λi=>?_;rw[BitVec.testBit_toNat,BitVec.getLsbD_and,BitVec.getLsbD_not,BitVec.getLsbD_ofNat,BitVec.getLsbD_ofNat,jjz,dj,eY];by_cases a:i<64;by_cases e:n=i;subst e;simp[h];simp[a,e];have:w.testBit i=false:=dZ (aW b (cu zQ zO));simp[a,this]
def jtq {a b:Nat}:YN .andNot (.int .u64 (a:Int)) (.int .u64 (b:Int))=some (.int .u64 (((BitVec.ofNat 64 a &&& ~~~ BitVec.ofNat 64 b).toNat:Nat):Int)):=by simp only[YN,Xb,zd];rw[show IntKind.u64.bits=64 from rfl,dR,dR,IntKind.wrap_u64];congr 2;have:=(BitVec.ofNat 64 a &&& ~~~ BitVec.ofNat 64 b).isLt;omega
@[simp] theorem eqVV_pn (ob:ZO) (neg:Bool) (l u o:Nat):j1j ob neg .ptr (.ptr l u o) .nilptr=some (.bool (xor neg false)):=rfl
@[simp] theorem idxArr0 (k u:Nat):Wf 8 1 (.ptr k u 0) (.int .i64 0)=some (.ptr k u 0):=rfl
section
variable {ob:ZO}{ub k u w n:Nat}
def ev291 (a:n<500):Ev E 291 [.int .i64 (n:Int)] (.bool true):=by
 refine jQ rfl ?_;conv in(occs:=*)F291=>all_goals cbv
 simp;exact j5 zS zP rfl
def j0j (a:n<500) (tk:Nat->Bool) (base:Nat):EvO E 255 [.ptr k u 0,.int .i64 (n:Int)] ob tk base ub (.int .i64 0):=by
 refine J1 rfl ?_;conv in(occs:=*)S255=>all_goals cbv
 simp;refine jL (ev291 a) zS rfl zS ?_;simp;exact j5 zS zS rfl
def jg9 (h:ob k=some ⟨u,.cells (yu w)⟩) (i:Off ub k) (c:n<64) (f:w<2^64) (tk:Nat->Bool) (base:Nat):EvO E 211 [.ptr k u 0,.int .i64 (n:Int)] ob tk base ub (.bool (w.testBit n)):=by
 refine J1 rfl ?_;have g:=i.ne;conv in(occs:=*)S211=>all_goals cbv
 simp;refine jW (vs:=[.ptr k u 0,.int .i64 n]) zS rfl rfl (j0j zO _ _) ?_;have d:=j7i (w:=w) c;have a:=joq (m:=1) (b:=1) rfl (u64_lt (n:=n) f) zQ;have e:=bit_has w n;generalize w>>>n&&&1=z at a e;generalize w>>>n=q at d a;simp(disch:=try exact zD)[jp8 c,jp7 c,j0,g,h,yu,d,a,e];exact j5 zS zS rfl
def PutR (ob:ZO) (ub k u w:Nat) (r:V×(ZO)×(Nat->Bool)×Nat):Prop :=
 r.1=.int .i64 0/\(∀key,Off ub key->r.2.1 key=if key=k then some ⟨u,.cells (yu w)⟩ else ob key)/\ub<=r.2.2.2
def jts {Yf:YF}{tk:Nat->Bool}{ro base:Nat}(b:ob k=some ⟨u,.cells (yu w)⟩) (i:Off ub k) (d:ro<=u) (a:n<64) (h:w<2^64) :
 ∃r,EvS E Yf.y 209 [.ptr k u 0,.int .i64 (n:Int)] ob tk ro base ub r/\PutR ob ub k u (w|||1<<<n) r:=by
 refine JI rfl zQ ?_;show wpC E Yf S209.body _ (Jw S209.res _);have g:=i.ne;conv in(occs:=*)S209=>all_goals cbv
 simp;refine jW (vs:=[.ptr k u 0,.int .i64 n]) zS rfl rfl (j0j zO _ _) ?_;have e:=jj6 a;have c:=jfm h (jru a);generalize w|||1<<<n=z at c ⊢;generalize 1<<<n=q at e c;simp(disch:=try exact zD)[jp8 a,jp7 a,j0,g,b,yu,e,c,j6];refine⟨d,Jj zS ⟨zS,λf b=>?_,by simp;omega⟩⟩;have g:=b.ne;simp(disch:=try exact zD)[g,yg,yu]
def sv213 {Yf:YF}{tk:Nat->Bool}{ro base:Nat}(d:ob k=some ⟨u,.cells (yu w)⟩) (j:Off ub k) (f:ro<=u) (e:n<64) :
 ∃r,EvS E Yf.y 213 [.ptr k u 0,.int .i64 (n:Int)] ob tk ro base ub r/\PutR ob ub k u (jvj w n) r:=by
 refine JI rfl zQ ?_;show wpC E Yf S213.body _ (Jw S213.res _);have g:=j.ne;conv in(occs:=*)S213=>all_goals cbv
 simp;refine jW (vs:=[.ptr k u 0,.int .i64 n]) zS rfl rfl (j0j zO _ _) ?_;have h:=jj6 e;have c:=jtq (a:=w) (b:=1<<<n);rw[show(BitVec.ofNat 64 w &&& ~~~ BitVec.ofNat 64 (1<<<n)).toNat=jvj w n from rfl]at c;generalize jvj w n=z at c ⊢;generalize 1<<<n=q at h c;simp(disch:=try exact zD)[jp8 e,jp7 e,j0,g,d,yu,h,c,j6];refine⟨f,Jj zS ⟨zS,λi d=>?_,by simp;omega⟩⟩;have g:=d.ne;simp(disch:=try exact zD)[g,yg,yu]
def NewR (ob:ZO) (ub:Nat) (r:V×(ZO)×(Nat->Bool)×Nat):Prop :=
 ∃m,ub<=m/\m<r.2.2.2/\r.1=.ptr (2*m+1) m 0/\∀key,r.2.1 key=if key=2*m+1 then some ⟨m,.cells (yu 0)⟩ else ob key
def sv151n {Yf:YF}{tk:Nat->Bool}{ro base:Nat}:∃r,EvS E Yf.y 151 [.sl none true 0 []] ob tk ro base ub r/\NewR ob ub r:=by
 refine JI rfl zQ ?_;show wpC E Yf S151.body _ (Jw S151.res _);conv in(occs:=*)S151=>all_goals cbv
 simp[V.cells];refine⟨1,?_⟩;simp;exact Jj zS ⟨ub+128,zO,zS,zS,λa=>by simp[yu,yg,aI]⟩
end
def jku (g:Hist') (M:List Int) (s:Nat->Bool) (t:Nat):Bool :=
 Qc (λa=>!J8 g a||(!(yD g a==yD g t)||s a)) t&&((yi g).zip M).all λx=>
  if x.1.1=(t:Int) then decide (x.2<0)||s x.2.toNat else s x.1.1.toNat||(!(decide (x.2<0)||s x.2.toNat) || !X9 g t (We g x.1))
def nxM (g:Hist') (M:List Int) (w t:Nat):Bool:=jku g M (λa=>w.testBit a) t
def yB (g:Hist'):List Nat:=(ym g).map Int.toNat
def yq (L:List Nat):List Int:=L.map λa:Nat=>(a:Int)
def jc4 (g:Hist'):yq (yB g)=ym g:=by unfold yq yB;rw[dl];refine(dm λx a=>?_).trans (gh _);obtain⟨k,rfl,_⟩:=comL_mem.1 a;simp
def comN_mem {g:Hist'}{a:Nat}:a∈yB g ↔ J8 g a=true:=by unfold yB;rw[aE];constructor;rintro⟨x,c,rfl⟩;obtain⟨k,rfl,b⟩:=comL_mem.1 c;simpa using b;exact λh=>⟨a,comL_mem.2 ⟨a,rfl,h⟩,zS⟩
def jlc (g:Hist'):(yB g).Pairwise (· < ·):=by have h:=jhd g;rw[<- jc4]at h;unfold yq at h;rw[eL]at h;exact h.imp λh=>by omega
def jvo (g:Hist'):(yB g).Nodup:=(jlc g).imp λh=>eJ h
def jff (g:Hist'):(yB g).length=(ym g).length:=by simp[yB]
def XX (w:Nat) (L:List Nat):Nat:=L.foldl (λw t=>w|||1<<<t) w
def jlg (a:Nat):∀(L:List Nat) (w:Nat),(XX w L).testBit a=(w.testBit a||L.contains a)
 |[],w=>by simp[XX]
 |x::r,w=>by have:=jlg a r (w|||1<<<x);unfold XX at this ⊢;rw[eU,this,jjz,ec,Bool.or_assoc];congr 2;rw[bz,ze,zh];exact eq_comm
def jrp {nx:Nat->Nat->Bool}:∀{w:Nat}{L:List Nat},jhz nx w L=true ↔ ∀b t c,L=b++t::c->(XX w b).testBit t=false/\nx (XX w b) t=true
 |w,[]=>⟨λ_ b t c h=>(by cases b<;>cases h),λ_=>rfl⟩
 |w,x::r=>by
  rw[jhz,ab,ab,jrp];constructor;rintro⟨f,d,i⟩ b t c e;cases b with
  |nil=>cases e;exact⟨by simpa[XX] using f,d⟩
  |cons a b=>cases e;exact i b t c rfl
  intro h;refine⟨by simpa[XX] using(h [] x r rfl).1,(h [] x r rfl).2,λb t c e=>?_⟩;subst e;exact h (x::b) t c rfl
section
variable {g:Hist'}{M:List Int}{O:List Int}
def jgm {s s':Nat->Bool}{t:Nat}(h:∀a,s a=s' a):jku g M s t=jku g M s' t:=by have:s=s':=funext h;rw[this]
def jm1 {s:Nat->Bool}{t:Nat}(n:Xl g M=true):jku g M s t=true ↔ (∀a,a<t->J8 g a=true->yD g a=yD g t->s a=true) /\
 ∀(i:Nat) (p:Int×Int) (m:Int),(yi g)[i]? = some p->M[i]? = some m->(p.1=t->m<0\/s m.toNat=true)/\(p.1≠t->s p.1.toNat=true\/¬(m<0\/s m.toNat=true)\/X9 g t (We g p)=false):=by
 have u:=XE n;unfold jku;rw[ab,andTo_iff,av];refine and_congr ?_ ?_;refine forall_congr' λa=>forall_congr' λ_=>?_;cases J8 g a<;>by_cases h:yD g a=yD g t<;>simp[h];constructor;intro h i p m d f;have:=h (p,m) (eO.2 ⟨i,dM.2 ⟨d,f⟩⟩);simp only at this;refine⟨λe=>?_,λe=>?_⟩;rw[zb e]at this;simpa using this;rw[za e]at this;simp only[bq,bG,gq,decide_eq_false_iff_not]at this;rcases this with h|h|h
 exact .inl h;exact .inr (.inl λc=>c.elim h.1 λb=>by rw[h.2]at b;cases b);exact .inr (.inr h);rintro h ⟨p,m⟩ l;obtain⟨i,k⟩:=eO.1 l;obtain⟨o,b⟩:=dM.1 k;obtain⟨q,r⟩:=h i p m o b;simp only;split;rename_i e;simpa using q e;rename_i e;simp only[bq,bG,gq,decide_eq_false_iff_not];rcases r e with h|h|h;exact .inl h;exact .inr (.inl ⟨λc=>h (.inl c),by
  cases j:s m.toNat;rfl;exact zf (.inr j) h⟩)
 exact .inr (.inr h)
def jz9 (z:Xl g M=true) (F:JC g O=true) (o:∀t∈ym g,badH g t=[]):JX g 3 M O=true ↔ SS g O/\FF g M O /\
 ∀(i:Nat) (p:Int×Int) (m:Int),(yi g)[i]? = some p->M[i]? = some m->∀t:Nat,J8 g t=true->atO O t<atO O p.1->okB g O p m t=true:=by
 have c:∀{j:Nat}(e:j<(ym g).length),(ym g).getD j 0=(ym g)[j]:=λe=>by simp[am,aa e]
 constructor;intro h;unfold JX at h;rw[ab]at h;have q:FF g M O:=λi p m u k=>(j56 h.2 u k).1;refine⟨λa b v o s d=>j7q z F h.1 q (by unfold ja5;rw[v,o];simp[s,d]),q,λi p m u k t w n=>?_⟩;have:=(j56 h.2 u k).2;rw[av]at this;refine this t ?_;rw[WZ,filTo_mem];exact⟨t,JZ w,rfl,by simp[Qn,w,n]⟩;rintro⟨G,q,B⟩;unfold JX;rw[ab,andTo_iff,andTo_iff];refine⟨λj e=>?_,λi l=>?_⟩;unfold sesB;rw[c e,ab,andTo_iff];refine⟨by simp[o _ (au e)],λi l=>?_⟩;have f:i<(ym g).length:=zO;have n:=cB.1 (jhd g) i j f e l;obtain⟨a,I,v⟩:=comL_mem.1 (au f);obtain⟨b,D,o⟩:=comL_mem.1 (au e);unfold jdd;rw[c e,c f,I,D];simp only[aX];by_cases d:yD g a=yD g b;simp[G a b v o zO d];simp[d];unfold jei;obtain⟨m,k,H⟩:=jr7 z (aa l);rw[aa l,k];simp only[ab,ze];refine⟨q i _ m (aa l) k,?_⟩;rw[av];intro x y;rw[WZ,filTo_mem]at y;obtain⟨t,J,rfl,r⟩:=y;simp only[Qn,show ¬(3:Int)=1 by decide,show ¬(3:Int)=2 by decide,zc,zd,ab,ze]at r;exact B i _ m (aa l) k t r.1 r.2
def jiu (T:Xl g M=true) (hb:∀t∈ym g,badH g t=[]) {L:List Nat}(w:JC g (yq L)=true):jhz (nxM g M) 0 L=JX g 3 M (yq L):=by
 obtain⟨O,H⟩:∃O,O=yq L:=⟨_,rfl⟩
 rw[<- H]at w ⊢
 have B:=QG w
 have I:∀(a:Nat) (l:List Nat),(a:Int)∈yq l ↔ a∈l:=λa l=>by
  unfold yq
  rw[aE]
  constructor
  ·rintro⟨b,h,e⟩
   have:b=a:=zO
   exact this▸h
  ·exact λh=>⟨a,h,rfl⟩
 have y:∀a:Nat,(a:Int)∈O ↔ a∈L:=λa=>by rw[H];exact I a L
 have s:=Y7 w
 have r:∀a:Nat,a∈L ↔ J8 g a=true:=λa=>by
  rw[<- y,s.mem_iff,comL_mem]
  constructor
  ·rintro⟨k,e,h⟩
   have:k=a:=zO
   exact this▸h
  ·exact λh=>⟨a,rfl,h⟩
 have P:∀{x:Int},x∈ym g->x∈O:=λh=>s.mem_iff.2 h
 -- where one stands
 have K:∀(c:List Nat) (t:Nat) (d:List Nat),L=c++t::d->atO O t=c.length/\∀a:Nat,a∈c ↔ J8 g a=true/\atO O a<atO O t:=λc t d e=>by
  have G:c.length<O.length:=by rw[H,e,yq,bm];simp
  have o:O[c.length]=(t:Int):=by simp[H,e,yq]
  have h1:atO O t=c.length:=by rw[<- o];exact jhp B G
  refine⟨h1,λa=>?_⟩
  have F:O.take c.length=yq c:=by rw[H,e];unfold yq;rw[bA,dD zS]
  have h3:=I a c
  rw[<- h3,<- F,h1]
  constructor
  ·intro h
   have X:=(r a).1 ((y a).1 (da h))
   exact⟨X,(jwt w (comL_mem.2 ⟨a,rfl,X⟩) zO).1 h⟩
  ·rintro⟨X,h⟩
   exact(jwt w (comL_mem.2 ⟨a,rfl,X⟩) zO).2 h
 have b8:L.Nodup:=by
  rw[H,yq]at B
  exact(eL.1 B).imp λh e=>h (by rw[e])
 have hp:jhz (nxM g M) 0 L=true ↔ ∀t:Nat,J8 g t=true->jku g M (λa=>J8 g a&&decide (atO O a<atO O t)) t=true:=by
  rw[jrp]
  have Q:∀(c:List Nat) (t:Nat) (d:List Nat),L=c++t::d->∀a,(XX 0 c).testBit a=(J8 g a&&decide (atO O a<atO O t)):=λc t d e a=>by
   rw[jlg,Nat.zero_testBit,bQ,bz,bx,(K c t d e).2 a,ab,ze]
  constructor
  ·intro h t j
   obtain⟨c,d,e⟩:=List.append_of_mem ((r t).2 j)
   have:=(h c t d e).2
   rw[nxM,jgm (Q c t d e)]at this
   exact this
  ·intro h c t d e
   have j:J8 g t=true:=(r t).1 (by rw[e];simp)
   refine⟨?_,?_⟩
   ·rw[Q c t d e]
    simp
   ·rw[nxM,jgm (Q c t d e)]
    exact h t j
 rw[bz,hp,jz9 T w hb]
 have b9:=atO_one w
 have Z:∀t:Nat,J8 g t=true->0<=atO O t:=λt j=>atO_com w (comL_mem.2 ⟨t,rfl,j⟩)
 have n:∀{i:Nat}{m:Int},M[i]? = some m->m = -1\/∃k:Nat,m=k/\J8 g k=true:=λh=>(jkx T (aH h)).imp id comL_mem.1
 have D:∀{i:Nat}{p:Int×Int},(yi g)[i]? = some p->∃k:Nat,p.1=k/\J8 g k=true:=λh=>comL_mem.1 (jkj (aH h))
 constructor
 ·intro h
  have h':=λt j=>(jm1 T).1 (h t j)
  refine⟨λa b U hb b0 z=>?_,λi p m f o=>?_,λi p m f o t j u=>?_⟩
  ·have:=(h' b hb).1 a b0 U z
   simp only[ab,ze]at this
   exact this.2
  ·obtain⟨k,v,G⟩:=D f
   rcases((h' k G).2 i p m f o).1 v with h|h
   ·exact .inl h
   ·simp only[ab,ze]at h
    rcases n o with F|⟨q,e,_⟩
    ·exact .inl zO
    ·rw[e]at h ⊢
     rw[v]
     exact .inr h.2
  ·obtain⟨k,v,G⟩:=D f
   have a0:p.1≠t:=λe=>by rw[e]at u;omega
   unfold okB
   simp only[bq,zh,bG,ze]
   rcases((h' t j).2 i p m f o).2 a0 with h|h|h
   ·simp only[ab,ze]at h
    rw[v]at h u
    simp only[aX]at h
    omega
   ·rcases n o with F|⟨q,e,J⟩
    ·exact zf (.inl zO) h
    ·subst e
     simp only[aX,ab,ze,J,true_and]at h
     by_cases e:(t:Int)=q
     ·exact .inl e
     ·refine .inr (.inr ?_)
      have h3:atO O t≠atO O q:=λN=>e (j06 (P (comL_mem.2 ⟨t,rfl,j⟩)) N)
      omega
   ·exact .inr (.inl h)
 ·rintro⟨Q,hf,G⟩ t j
  refine(jm1 T).2 ⟨λa b5 U z=>?_,λi p m f o=>⟨λe=>?_,λe=>?_⟩⟩
  ·simp[U,Q a t U j b5 z]
  ·rcases n o with F|⟨q,S,J⟩
   ·exact .inl zO
   ·have:=hf i p m f o
    rw[e,S]at this
    rw[S]
    refine .inr ?_
    simp only[aX,J,bF,ze]
    omega
  ·obtain⟨k,v,b6⟩:=D f
   by_cases u:atO O k<atO O t
   ·exact .inl (by rw[v];simp[b6,u])
   ·have b7:atO O t<atO O k:=by
     have h3:atO O t≠atO O k:=λN=>e (v.trans (j06 (P (comL_mem.2 ⟨t,rfl,j⟩)) N).symm)
     omega
    have:=G i p m f o t j (by rw[v];exact b7)
    unfold okB at this
    simp only[bq,zh,bG,ze]at this
    rcases n o with F|⟨q,S,J⟩
    ·subst F
     rcases this with h|h|h
     ·omega
     ·exact .inr (.inr h)
     ·have:=Z t j
      omega
    ·subst S
     rcases this with h|h|h
     ·have N:t=q:=zO
      subst N
      exact .inr (.inl zS)
     ·exact .inr (.inr h)
     ·refine .inr (.inl ?_)
      simp only[aX,J,bF,ze]
      omega
end
def yp (w:Nat):List Nat:=(List.range 9).filter λi=>w.testBit i
def jy4 (w:Nat):Nat:=(yp w).headD 0
def bitsUp_mem {w a:Nat}:a∈yp w ↔ a<9/\w.testBit a=true:=by simp[yp]
def jhl:yp 0=[]:=rfl
def k_bits:((List.range 512).all λw=>w==0||(yp w==jy4 w::yp (w&&&(w-1))&&decide (w&&&(w-1)<512)))=true:=by kernel_rfl
def jn1 {w:Nat}(a:w<512) (h:w≠0):yp w=jy4 w::yp (w&&&(w-1))/\w&&&(w-1)<512:=by have:=av.1 k_bits w (aM.2 a);simpa[h] using this
def k190:((List.range 512).all λw=>w==0||(match (yK E 2 noY).d 281 [.int .u64 (w:Nat)] with|some r=>V.eqb r (.int .i64 (jy4 w:Nat))|none=>false))=true:=by kernel_rfl
def ev281 {w:Nat}(a:w<512) (h:w≠0):Ev E 281 [.int .u64 (w:Nat)] (.int .i64 (jy4 w:Nat)):=by have:=av.1 k190 w (aM.2 a);simp only[zh,bq,h,false_or]at this;split at this;rename_i r b;exact⟨2,by rw[b,jae _ _ this]⟩;cases this
def low_lt {w:Nat}(a:w<512) (h:w≠0):jy4 w<9:=by
 have:jy4 w∈yp w:=by rw[(jn1 a h).1];exact aK ..
 exact(bitsUp_mem.1 this).1
def ja1 (w:Nat):(yp w).length<=9:=by unfold yp;exact bL (cg _ _) zS
def jo2 {w i:Nat}(h:i<8):(yu w)[i]? = some (.int .u64 (if i=0 then w else 0:Nat)):=by
 match i,h with
 |0,_=>rfl
 |1,_=>rfl
 |2,_=>rfl
 |3,_=>rfl
 |4,_=>rfl
 |5,_=>rfl
 |6,_=>rfl
 |7,_=>rfl
section
variable {ob:ZO}{ub k u w:Nat}
def jjp (hk:ob k=some ⟨u,.cells (yu w)⟩) (ho:Off ub k) (hw:w<512) (tk:Nat->Bool) (base:Nat):EvO E 237 [.ptr k u 0] ob tk base ub (jk7 (yq (yp w))):=by
 refine J1 rfl ?_;have g:=ho.ne;have U:(yu w).length=8:=rfl;conv in(occs:=*)S237=>all_goals cbv
 simp[j0,hk,U];refine jg λo c=>?_;have g3:o.tm 3=.sl none true 0 []:=by rw[c];simp
 have Z:o.tm 11=.agg (yu w):=by rw[c];simp[yu]
 have b7:o.tm 12=.int .i64 0:=by rw[c];simp
 have gd:o.df=[]:=by rw[c];simp
 have gr:o.ro=ub:=by rw[c];simp
 have gn:ub<=o.nx:=by rw[c];simp;omega
 clear c;obtain⟨n0,c2⟩:∃n,n=o.nx:=⟨_,rfl⟩;obtain⟨P,G⟩:∃P:Nat->Nat->Prop,P=λhi u=>ub<=u/\u<hi:=⟨_,rfl⟩;obtain⟨J,hJ⟩:∃J:Nat->St->Prop,J=λi s=>s.tm 12=.int .i64 i/\IntsO s.ob (P s.nx) (if i=0 then [] else yq (yp w)) (s.tm 3)/\ub<=s.nx:=⟨_,rfl⟩;refine j9 [(3,5),(12,30)] 8 J rfl rfl (by rw[hJ];exact⟨zU b7,.inl ⟨rfl,g3⟩,gn⟩) ?_;intro i s hi Q f;rw[hJ]at Q;obtain⟨F,M,sn⟩:=Q;have b6:s.tm 11=.agg (yu w):=by rw[f.t 11 zS];simp[Z]
 have sd:s.df=[]:=by rw[f.d];simp[gd]
 have sr:s.ro=ub:=by rw[f.r];simp[gr]
 clear f;by_cases H:i<8;have b0:=jb H zQ;have K:jbz none 8 1 (.agg (yu w)) (.int .i64 (i:Int))=some (.int .u64 (if i=0 then w else 0:Nat)):=by have:=jo2 (w:=w) H;have S:(i:Int)<8:=zO;simp[jbz,S,Xz,this]
 have S:(i:Int)<8:=zO;generalize D:(if i=0 then w else 0:Nat)=x0 at K;simp[F,b6,S,K];refine jg λo c=>?_;have t3:o.tm 3=s.tm 3:=by rw[c];simp
 have t4:o.tm 4=.int .i64 i:=by rw[c];simp[F]
 have t5:o.tm 5=.int .u64 x0:=by rw[c];simp
 have b5:o.tm 12=.int .i64 i:=by rw[c];simp[F]
 have td:o.df=[]:=by rw[c];simp[sd]
 have tr:o.ro=ub:=by rw[c];simp[sr]
 have to:o.ob=s.ob:=by rw[c];simp
 have tn:s.nx<=o.nx:=by rw[c];simp;omega
 clear c;obtain⟨J2,I⟩:∃J2:Nat->St->Prop,J2=λn s=>∃x L,n=(yp x).length/\x<512/\(x=0\/i=0)/\s.tm 5=.int .u64 (x:Nat)/\L++yq (yp x)=yq (yp w)/\IntsO s.ob (P s.nx) L (s.tm 3)/\ub<=s.nx:=⟨_,rfl⟩;refine Yl (n:=(yp x0).length) [(3,3),(5,5),(16,29)] J2 rfl rfl ?_ ?_;rw[I];by_cases v:i=0;rw[zb v]at D M;subst D;refine⟨w,[],rfl,hw,.inr v,t5,rfl,?_,zO⟩;rw[to,t3];exact M.frame (λ_ _=>rfl) λu j=>by rw[G]at j ⊢;exact⟨j.1,by have:=j.2;omega⟩
 rw[za v]at D M;subst D;refine⟨0,yq (yp w),rfl,zQ,.inl rfl,t5,by simp[jhl,yq],?_,zO⟩;rw[to,t3];exact M.frame (λ_ _=>rfl) λu j=>by rw[G]at j ⊢;exact⟨j.1,by have:=j.2;omega⟩
 intro n q hq f;rw[I]at hq;obtain⟨x,L,rfl,hx,b8,q5,T,qI,qn⟩:=hq;have q4:q.tm 4=.int .i64 i:=by rw[f.t 4 zS];simp[t4]
 have a0:q.tm 12=.int .i64 i:=by rw[f.t 12 zS];simp[b5]
 have qd:q.df=[]:=by rw[f.d];simp[td]
 have qr:q.ro=ub:=by rw[f.r];simp[tr]
 clear f;by_cases O:x=0;subst O;simp[q5,a0,b0,H];rw[hJ];rw[jhl,show yq []=[] from rfl,aP]at T;subst T;refine⟨zS,?_,by simp;omega⟩;simp;exact qI.frame (λ_ _=>rfl) λu j=>by rw[G]at j ⊢;exact⟨j.1,by have:=j.2;simp at this ⊢;omega⟩
 have v:i=0:=b8.resolve_left O;subst v;obtain⟨e1,e2⟩:=jn1 hx O;have ex:((x:Int) != 0)=true:=by simp;omega
 have b9:=low_lt hx O;have N:IntKind.u64.wrap ((x:Int)-1)=((x-1:Nat):Int):=by rw[IntKind.wrap_u64];omega
 have B:=joq (a:=x) (b:=x-1) (m:=((x-1:Nat):Int)) rfl zO zO;generalize x&&&(x-1)=y at B e1 e2;rw[<- N]at B;have hz:IntKind.i64.wrap ((jy4 x:Nat):Int)=((jy4 x:Nat):Int):=jk zO zO;have c0:L.length<=9:=by have h1:=zg List.length T;have S:=ja1 w;simp[yq]at h1;omega
 simp[q5,q4,ex];refine jL (ev281 hx O) zS rfl zS ?_;simp[hz,show IntKind.i64.wrap 0=0 from rfl];refine JL (cs:=[.int .i64 ((jy4 x:Nat):Int)]) (by simp[j6]) rfl rfl ?_;simp;refine jat (p:=P q.nx) (l:=L) (z:=((jy4 x:Nat):Int)) (X:=2*(q.nx+512)+1) (uX:=q.nx+512) zS (qI.frame (λu j=>?_) λ_ h=>h) (by simp[aI]) (by simp[aI]) (λu j=>by rw[G]at j;simp[qr];exact j.1) zO λkl c1=>?_;rw[G]at j;have:=j.2;simp(disch:=try exact zD)[yj];intro e;omega;simp[q5,B];refine⟨(yp y).length,by rw[e1];simp,?_⟩;rw[I];refine⟨y,L++[((jy4 x:Nat):Int)],rfl,e2,.inr rfl,zS,by rw[<- T,e1];simp[yq],.inr ⟨zS,q.nx+576,by simp[aI],by simp[aI,jhq],?_⟩,by simp;omega⟩;rw[G];simp;omega;have:i=8:=zO;subst this;simp[F];exact Wr (by simp[sd]) zS M (λu j=>by rw[G]at j;simp[sr];exact j.1)
end
structure FN where
 kF:Nat
 uF:Nat
 kA:Nat
 uA:Nat
 kW:Nat
 uW:Nat
 kV:Nat
 uV:Nat
def jhy:Option (Nat×Nat)->V
 |none=>.nilptr
 |some p=>.ptr p.1 p.2 0
def fdC (g:Hist') (N:FN) (rv al ov:V) (most:Int) (sp:Bool):List V:=[yl g.sn Jp g.ss,yl g.kn Jp g.ks,yl g.tn jl g.ts,rv,.map N.kA N.uA,.map N.kW N.uW,al,.map N.kV N.uV,.int .i64 most,.bool sp,ov]
structure FixF (N:FN) (n0 key:Nat):Prop where
 f:key≠N.kF
 v:key≠N.kV
 o:Off n0 key
def RowF (N:FN) (n0:Nat) (ob:ZO) (v:V) (rs:List (Int×Int×Int)):Prop:=(v=.sl none true 0 []/\rs=[])\/∃l u,v=.osl l u 0 rs.length 3/\ob l=some ⟨u,.cells (rs.flatMap rdC)⟩/\FixF N n0 l
def SetsF (N:FN) (n0:Nat) (ob:ZO) (k u:Nat) (C:List Nat) (f:Nat->Nat):Prop :=
 FixF N n0 k/\∃ver m,ob k=some ⟨u,.mp ver (MK .i64 jhy m)⟩/\∀t∈C,∃l u,jby m (t:Int) none=some (l,u)/\ob l=some ⟨u,.cells (yu (f t))⟩/\FixF N n0 l
structure Fd (N:FN) (rv:V) (rs:List (Int×Int×Int)) (C:List Nat) (fA fW:Nat->Nat) (n0:Nat) (ob:ZO):Prop where
 r:RowF N n0 ob rv rs
 a:SetsF N n0 ob N.kA N.uA C fA
 w:SetsF N n0 ob N.kW N.uW C fW
def RowF.keep {N:FN}{n0:Nat}{ob ob':ZO}{v:V}{rs:List (Int×Int×Int)}(h:RowF N n0 ob v rs) (c:∀a,FixF N n0 a->ob' a=ob a):RowF N n0 ob' v rs:=by rcases h with h|⟨l,u,e,d,b⟩;exact .inl h;exact .inr ⟨l,u,e,(c _ b).trans d,b⟩
def SetsF.keep {N:FN}{n0:Nat}{ob ob':ZO}{k u:Nat}{C:List Nat}{f:Nat->Nat}(h:SetsF N n0 ob k u C f) (c:∀a,FixF N n0 a->ob' a=ob a):SetsF N n0 ob' k u C f:=by obtain⟨d,b,m,o,g⟩:=h;refine⟨d,b,m,(c _ d).trans o,λt j=>?_⟩;obtain⟨l,u,i,n,e⟩:=g t j;exact⟨l,u,i,(c _ e).trans n,e⟩
def Fd.keep {N:FN}{rv:V}{rs:List (Int×Int×Int)}{C:List Nat}{fA d:Nat->Nat}{n0:Nat}{ob ob':ZO}(h:Fd N rv rs C fA d n0 ob) (c:∀b,FixF N n0 b->ob' b=ob b):Fd N rv rs C fA d n0 ob' :=
 ⟨h.r.keep c,h.a.keep c,h.w.keep c⟩
def SetsF.at {N:FN}{n0:Nat}{ob:ZO}{k u:Nat}{C:List Nat}{f:Nat->Nat}(h:SetsF N n0 ob k u C f) {t:Nat}(g:t∈C):∃l v,(∀a:ZO,a k=ob k->Yc a .int .nilptr false (.map k u) (.int .i64 (t:Int))=some (.ptr l v 0))/\ob l=some ⟨v,.cells (yu (f t))⟩/\FixF N n0 l:=by
 obtain⟨_,i,m,n,d⟩:=h;obtain⟨l,v,b,j,o⟩:=d t g;refine⟨l,v,λa e=>?_,j,o⟩;rw[jdw (q:=.i64) (f:=jhy) m (by simp[jY,e,n])];unfold jby at b;cases c:jx m (t:Int) with
 |none=>rw[c]at b;cases b
 |some p=>rw[c]at b;simp only at b;simp[b,jhy]
def jdk (w:Nat) (x:Int):Bool:=decide (x<0)||w.testBit x.toNat
def barB (w t W:Nat) (r:Int×Int×Int):Bool:=if r.1=t then !jdk w r.2.1 else !w.testBit r.1.toNat&&(jdk w r.2.1&&W.testBit r.2.2.toNat)
def j3i (rs:List (Int×Int×Int)) (fA fW:Nat->Nat) (w t:Nat):Bool:=(yp (fA t)).all (λa=>w.testBit a) && !(rs.any (barB w t (fW t)))
def RdOk (r:Int×Int×Int):Prop:=(0<=r.1/\r.1<64)/\r.2.1<64/\0<=r.2.2/\r.2.2<64
section
variable {ob:ZO}{ub k u w:Nat}
def j6p (b:ob k=some ⟨u,.cells (yu w)⟩) (c:Off ub k) (a:w<2^64) {x:Int}(d:x<64) (tk:Nat->Bool) (base:Nat):EvO E 259 [.ptr k u 0,.int .i64 x] ob tk base ub (.bool (jdk w x)):=by
 refine J1 rfl ?_;unfold jdk;by_cases h:x<0
 ·conv in(occs:=*)S259=>all_goals cbv
  simp[h];exact j5 zS zS rfl
 ·obtain⟨n,rfl⟩:∃n:Nat,x=n:=⟨x.toNat,zO⟩;conv in(occs:=*)S259=>all_goals cbv
  simp[h];refine jW (vs:=[.ptr k u 0,.int .i64 n]) zS rfl rfl (jg9 b (c.up zO) zO a _ _) ?_;simp;exact j5 zS zS rfl
def evo256 {b c:Nat}(h:ob b=some ⟨c,.cells [.ptr k u 0]⟩) (e:ob k=some ⟨u,.cells (yu w)⟩) (fb:Off ub b) (f:Off ub k) (d:w<2^64) {a:Nat}(g:a<64) (tk:Nat->Bool) (base:Nat):EvO E 256 [.int .i64 (a:Int),.ptr b c 0] ob tk base ub (.bool (!w.testBit a)):=by
 refine J1 rfl ?_;conv in(occs:=*)S256=>all_goals cbv
 simp[j0,h];refine jW (vs:=[.ptr k u 0,.int .i64 a]) zS rfl rfl (jg9 e (f.up zO) g d _ _) ?_;simp;exact j5 zS zS rfl
def evo147v {p:Int->Bool}{b:FuncId}{c1 l:Nat}(H:E.sh true b=false) {t:Option (Nat×Nat)}{nl:Bool}{L:List Int}(F:L.length<=1000000000)
 (hp:∀r∈L,∀(tk:Nat->Bool) (base e:Nat),ub<=e->EvO E b [.int .i64 r,.ptr c1 l 0] ob tk base e (.bool (p r))) (tk:Nat->Bool) (base:Nat):EvO E 147 [.sl t nl L.length (L.flatMap yf),.fn (.func b) [] [.ptr c1 l 0]] ob tk base ub (.int .i64 (W8 p L)):=by
 refine J1 rfl ?_;conv in(occs:=*)S147=>all_goals cbv
 simp;refine j9 [(4,5),(8,18)] L.length (λi s=>s.tm 8=.int .i64 i/\s.ob=ob/\ub<=s.nx/\∀j (g:j<L.length),j<i->p L[j]=false) rfl rfl ⟨zS,zS,by simp;omega,λ_ _ h=>by omega⟩ ?_;rintro i s J ⟨n,z,K,o⟩ f;have G:s.tm 0=.sl t nl L.length (L.flatMap yf):=by rw[f.t 0 zS];simp
 have I:s.tm 1=.fn (.func b) [] [.ptr c1 l 0]:=by rw[f.t 1 zS];simp
 have B:s.tm 7=.int .i64 L.length:=by rw[f.t 7 zS];simp
 have y:s.df=[]:=by rw[f.d];simp
 clear f;by_cases a:i<L.length;have D:=jb a F;have m:=JS j8 t nl L .i64 a;have q:=jt L a;simp[G,I,B,n,a,m,q];refine Wq (f:=b) (first:=[]) (captured:=[.ptr c1 l 0]) zS H (by simp[V.strip,V.pureTop,V.pureLeaf]) (v:=.bool (p L[i])) (by simpa[z] using hp L[i] (au a) _ _ _ zO) ?_;cases c:p L[i];simp[n,D];refine⟨a,z,zO,?_⟩;intro j g x;rcases bg.1 x with h|rfl;exact o j g h;exact c;simp;refine j5 (zU y) ?_ rfl;simp;rw[YZ a c o];have:i=L.length:=zO;subst this;simp[B,n];refine j5 (zU y) ?_ rfl;simp[W7 (λj g=>o j g g)]
def evo96 {p:Int->Bool}{b:FuncId}{c1 c:Nat}(f:E.sh true b=false) {t:Option (Nat×Nat)}{nl:Bool}{L:List Int}(d:L.length<=1000000000)
 (hp:∀r∈L,∀(tk:Nat->Bool) (base a:Nat),ub<=a->EvO E b [.int .i64 r,.ptr c1 c 0] ob tk base a (.bool (p r))) (tk:Nat->Bool) (base:Nat):EvO E 96 [.sl t nl L.length (L.flatMap yf),.fn (.func b) [] [.ptr c1 c 0]] ob tk base ub (.bool (L.any p)):=by
 refine J1 rfl ?_;conv in(occs:=*)S96=>all_goals cbv
 simp;refine jW (vs:=[.sl t nl L.length (L.flatMap yf),.fn (.func b) [] [.ptr c1 c 0]]) zS rfl (by rw[bH,cV];exact .inr rfl) (evo147v f d (λr e tk base a h=>hp r e tk base a zO) _ _) ?_;simp;exact j5 rfl (by simp[jax]) rfl
variable {N:FN}{n0:Nat}
def evo292 {p:Int×Int×Int->Bool}{g:FuncId}{c1 o x B y z:Nat}(U:E.sh true g=false) {v:V}{rs:List (Int×Int×Int)}(O:RowF N n0 ob v rs) (T:rs.length<=1000000000)
 (hp:∀r∈rs,∀(tk:Nat->Bool) (base m:Nat),ub<=m->EvO E g [.agg (rdC r),.ptr c1 o 0,.ptr x B 0,.ptr y z 0] ob tk base m (.bool (p r))) (tk:Nat->Bool) (base:Nat):EvO E 292 [v,.fn (.func g) [] [.ptr c1 o 0,.ptr x B 0,.ptr y z 0]] ob tk base ub (.int .i64 (W8 p rs)):=by
 refine J1 rfl ?_;have c:QV v=some (.int .i64 rs.length):=by rcases O with⟨rfl,rfl⟩|⟨l,u,rfl,_⟩<;>rfl
 have G:∀i,(h:i<rs.length)->∃q,ju 3 v (.int .i64 (i:Int))=some q/\W3 ob (some 3) q=some (.agg (rdC rs[i])):=by intro i h;rcases O with⟨rfl,rfl⟩|⟨l,u,rfl,e,_⟩;simp at h;refine⟨_,idx0 h,?_⟩;have:=Xp jo5 rs i h;have I:=j4 jo5 rs;simp only[W3,j0,e,zd,ap,Wo];rw[zb (by rw[I];omega),this]
 conv in(occs:=*)S292=>all_goals cbv
 simp[c];refine j9 [(4,5),(8,18)] rs.length (λi s=>s.tm 8=.int .i64 i/\s.ob=ob/\ub<=s.nx/\∀j (n:j<rs.length),j<i->p rs[j]=false) rfl rfl ⟨zS,zS,by simp;omega,λ_ _ h=>by omega⟩ ?_;rintro i s X ⟨J,e,Z,F⟩ f;have P:s.tm 0=v:=by rw[f.t 0 zS];simp
 have Q:s.tm 1=.fn (.func g) [] [.ptr c1 o 0,.ptr x B 0,.ptr y z 0]:=by rw[f.t 1 zS];simp
 have M:s.tm 7=.int .i64 rs.length:=by rw[f.t 7 zS];simp
 have L:s.df=[]:=by rw[f.d];simp
 clear f;by_cases a:i<rs.length;have S:=jb a T;obtain⟨q,D,K⟩:=G i a;simp[P,Q,M,J,a,D,e,K];refine Wq (f:=g) (first:=[]) (captured:=[.ptr c1 o 0,.ptr x B 0,.ptr y z 0]) zS U (by simp[V.strip,V.pureTop,V.pureLeaf]) (v:=.bool (p rs[i])) (by simpa[e] using hp rs[i] (au a) _ _ _ zO) ?_;cases b:p rs[i];simp[J,S];refine⟨a,e,zO,?_⟩;intro j n H;rcases bg.1 H with h|rfl;exact F j n h;exact b;simp;refine j5 (zU L) ?_ rfl;simp;rw[YZ a b F];have:i=rs.length:=zO;subst this;simp[M,J];refine j5 (zU L) ?_ rfl;simp[W7 (λj n=>F j n n)]
def evo257 {p:Int×Int×Int->Bool}{b:FuncId}{c1 c d g e f:Nat}(l:E.sh true b=false) {v:V}{rs:List (Int×Int×Int)}(m:RowF N n0 ob v rs) (i:rs.length<=1000000000)
 (hp:∀r∈rs,∀(tk:Nat->Bool) (base a:Nat),ub<=a->EvO E b [.agg (rdC r),.ptr c1 c 0,.ptr d g 0,.ptr e f 0] ob tk base a (.bool (p r))) (tk:Nat->Bool) (base:Nat):EvO E 257 [v,.fn (.func b) [] [.ptr c1 c 0,.ptr d g 0,.ptr e f 0]] ob tk base ub (.bool (rs.any p)):=by
 refine J1 rfl ?_;conv in(occs:=*)S257=>all_goals cbv
 simp;refine jW (vs:=[v,.fn (.func b) [] [.ptr c1 c 0,.ptr d g 0,.ptr e f 0]]) zS rfl (by rw[bH,cV];exact .inr rfl) (evo292 (N:=N) (n0:=n0) l (m.keep (λ_ _=>rfl)) i (λr j tk base a h=>hp r j tk base a zO) _ _) ?_;simp;exact j5 rfl (by simp[jax]) rfl
end
section
variable {ob:ZO}{ub kS uS w n0 t:Nat}{N:FN}{g:Hist'}{rv al ov:V}{most:Int}{sp:Bool}{rs:List (Int × Int × Int)}{C:List Nat}{fA fW:Nat->Nat}
def evo258 (x:Fd N rv rs C fA fW n0 ob) (L:ob N.kF=some ⟨N.uF,.cells (fdC g N rv al ov most sp)⟩) (oF:Off ub N.kF) (e:ob kS=some ⟨uS,.cells (yu w)⟩) (c:Off ub kS) (B:n0<=ub) (k:w<2^64) (H:t∈C) (J:fW t<2^64)
 {i D ks vs j z:Nat}(u:ob i=some ⟨D,.cells [.int .i64 (t:Int)]⟩) (bs:ob ks=some ⟨vs,.cells [.ptr kS uS 0]⟩) (P:ob j=some ⟨z,.cells [.ptr N.kF N.uF 0]⟩) (ot:Off ub i) (os:Off ub ks) (of:Off ub j) {r:Int×Int×Int}(S:RdOk r) (tk:Nat->Bool) (base:Nat) :
 EvO E 258 [.agg (rdC r),.ptr i D 0,.ptr ks vs 0,.ptr j z 0] ob tk base ub (.bool (barB w t (fW t) r)):=by
 refine J1 rfl ?_;have p:=ot.ne;have h:=os.ne;have g3:=of.ne;have M:=oF.ne;have d:=c.ne;obtain⟨⟨G,r2⟩,y,r4,r5⟩:=S;obtain⟨a,Z⟩:∃a:Nat,r.1=a:=⟨r.1.toNat,zO⟩;obtain⟨b,I⟩:∃b:Nat,r.2.2=b:=⟨r.2.2.toNat,zO⟩;unfold barB;have O:∀m,ub<=m->(upd ob (2*m+1) (some ⟨m,.cells (rdC r)⟩)) kS=some ⟨uS,.cells (yu w)⟩:=λm X=>by rw[JQ _ _ (d m X)];exact e
 by_cases f:r.1=t
 ·conv in(occs:=*)S258=>all_goals cbv
  simp(disch:=try exact zD)[S258,j0,rdC,V.cells,u,p,bs,h,f];refine jW (vs:=[.ptr kS uS 0,.int .i64 r.2.1]) zS rfl rfl (j6p (w:=w) (by simp(disch:=try exact zD)[d,e]) (c.up zO) k y _ _) ?_;simp;exact j5 zS zS rfl
 ·have s:(r.1==(t:Int))=false:=by simpa using f
  conv in(occs:=*)S258=>all_goals cbv
  simp(disch:=try exact zD)[S258,j0,rdC,V.cells,u,p,bs,h,s];have q1:0<=r.1:=G;refine jcw (vs:=[.ptr kS uS 0,.int .i64 r.1]) zS rfl rfl (by rw[Z];exact jg9 (w:=w) (n:=a) (by simp(disch:=try exact zD)[d,e]) (c.up (by first|omega|(simp;omega))) zO k _ _) (JT rfl) ?_;have ea:r.1.toNat=a:=zO;have K:r.2.2.toNat=b:=zO;rw[ea,K,za f];obtain⟨l,v,q,Q,T⟩:=x.w.at H;have F:=x.w.1.o.up B;have gl:=(T.o.up B);cases a0:w.testBit a;simp(disch:=try exact zD)[j0,rdC,bs,h];refine jcw (vs:=[.ptr kS uS 0,.int .i64 r.2.1]) zS rfl rfl (j6p (w:=w) (by simp(disch:=try exact zD)[d,e]) (c.up (by first|omega|(simp;omega))) k y _ _) (JT rfl) ?_;cases U:jdk w r.2.1;simp(disch:=try exact zD);exact j5 zS zS rfl;simp(disch:=try exact zD)[j0,rdC,P,g3,L,M,fdC,u,p];rw[q _ (by simp(disch:=try exact zD)[F.ne])];simp(disch:=try exact zD)[j0,rdC];refine jW (vs:=[.ptr l v 0,.int .i64 r.2.2]) zS rfl rfl (by rw[I];exact jg9 (w:=fW t) (n:=b) (by simp(disch:=try exact zD)[gl.ne,Q]) (gl.up (by first|omega|(simp;omega))) zO J _ _) ?_;simp;exact j5 zS zS rfl;simp(disch:=try exact zD);exact j5 zS zS rfl
def evo212 (d:Fd N rv rs C fA fW n0 ob) (i:ob N.kF=some ⟨N.uF,.cells (fdC g N rv al ov most sp)⟩) (I:Off ub N.kF) (H:ob kS=some ⟨uS,.cells (yu w)⟩) (n:Off ub kS) (e:n0<=ub) (B:w<2^64) (z:t∈C) (K:fA t<512) (J:fW t<2^64)
 (f:∀r∈rs,RdOk r) (T:rs.length<=1000000) (tk:Nat->Bool) (base:Nat):EvO E 212 [.ptr N.kF N.uF 0,.ptr kS uS 0,.int .i64 (t:Int)] ob tk base ub (.bool (j3i rs fA fW w t)):=by
 refine J1 rfl ?_;have m:=I.ne;have G:=n.ne;have M:=(d.a.1.o.up e);obtain⟨l,v,s,q,O⟩:=d.a.at z;have gl:=O.o.up e;conv in(occs:=*)S212=>all_goals cbv
 simp(disch:=try exact zD)[S212,j0,V.cells,yj,i,m,fdC,j2w,aI];rw[s _ (by simp(disch:=try exact zD)[M.ne])];simp(disch:=try exact zD)[j0];refine j9s (vs:=[.ptr l v 0]) (l:=yq (yp (fA t))) zS rfl rfl ⟨_,jjp (w:=fA t) (by simp(disch:=try exact zD)[gl.ne,q]) (gl.up (by first|omega|(simp;omega))) K _ _,numR_intsV _⟩ λP Q add=>?_;simp(disch:=try exact zD);have c:(yq (yp (fA t))).length<=1000000000:=by have:=ja1 (fA t);simp only[yq,bm];omega
 refine jW (vs:=[.sl P Q (yq (yp (fA t))).length ((yq (yp (fA t))).flatMap yf),.fn (.func 256) [] [.ptr (2*(ub+64)+1) (ub+64) 0]]) zS rfl (by rw[bH,cV];exact .inr rfl) (evo96 (p:=λx=>!w.testBit x.toNat) rfl c (λx D tk base y h=>?_) _ _) ?_;unfold yq at D;obtain⟨a,S,rfl⟩:=aE.1 D;have:=(bitsUp_mem.1 S).1;exact evo256 (w:=w) (k:=kS) (u:=uS) (by simp(disch:=try exact zD)[yj,aI]) (by simp(disch:=try exact zD)[G,H]) (Off.new (by first|omega|(simp at h;omega))) (n.up (by first|omega|(simp at h;omega))) B zO tk base;have b:((yq (yp (fA t))).any λx=>!w.testBit x.toNat) = !(yp (fA t)).all λa=>w.testBit a:=by unfold yq;rw[List.any_map,List.not_all_eq_any_not];rfl
 rw[b];unfold j3i;cases F:(yp (fA t)).all λa=>w.testBit a;simp;exact j5 zS zS rfl;simp(disch:=try exact zD)[j0,yj,i,m,fdC,aI];refine jW (vs:=[rv,.fn (.func 258) [] [.ptr (2*(ub+128)+1) (ub+128) 0,.ptr (2*(ub+64)+1) (ub+64) 0,.ptr (2*ub+1) ub 0]]) zS rfl (by rw[bH,cV];exact .inr rfl)
  (evo257 (N:=N) (n0:=n0) (p:=barB w t (fW t)) rfl (d.r.keep λj h=>?_) zO (λr L tk base y h=>evo258 (g:=g) (kS:=kS) (uS:=uS) (rv:=rv) (al:=al) (ov:=ov) (most:=most) (sp:=sp) (n0:=n0) (d.keep λj h=>?_) ?_ (I.up ?_) ?_ (n.up ?_) ?_ B z J ?_ ?_ ?_ (Off.new ?_) (Off.new ?_) (Off.new ?_) (f r L) tk base) _ _) ?_
 simp(disch:=try exact zD)[(h.o.up e).ne];simp(disch:=try exact zD)[(h.o.up e).ne];simp(disch:=try exact zD)[m,i];first|omega|(simp at h;omega)
 simp(disch:=try exact zD)[G,H];first|omega|(simp at h;omega)
 first|omega|(simp at h;omega)
 simp(disch:=try exact zD)[yj,aI];simp(disch:=try exact zD)[yj,aI];simp(disch:=try exact zD)[yj,aI];first|omega|(simp at h;omega)
 first|omega|(simp at h;omega)
 first|omega|(simp at h;omega)
 simp;exact j5 zS zS rfl
end
def k_word:((List.range 512).all λw=>XX 0 (yp w)==w)=true:=by kernel_rfl
def j7c {w:Nat}(a:w<512):XX 0 (yp w)=w:=by simpa using av.1 k_word w (aM.2 a)
def jvt {L:List Nat}{i:Nat}(h:i<L.length) (w:Nat):XX w (L.take (i+1))=XX w (L.take i)|||1<<<L[i]:=by unfold XX;rw[ay h,gP];rfl
def jc7:∀{L:List Nat}{w:Nat},w<2^64->(∀a∈L,a<64)->XX w L<2^64
 |[],_,hw,_=>hw
 |a::L,w,hw,h=>jc7 (L:=L) (or_lt hw (h a (aK ..))) λb c=>h b (aS _ c)
def JY (L:List Nat):(yq L).length=L.length:=by simp[yq]
def jz5 (L:List Nat) {i:Nat}(h:i<(yq L).length):(yq L)[i]=((L[i]'(by simpa[yq] using h):Nat):Int):=by simp[yq]
section
variable {ob:ZO}{ub k u w:Nat}
def j6r (G:ob k=some ⟨u,.cells (yu w)⟩) (F:Off ub k) (q:w<512) (tk:Nat->Bool) (base:Nat):EvO E 210 [.ptr k u 0] ob tk base ub (.int .u64 (w:Nat)):=by
 refine J1 rfl ?_;have B:=ja1 w;conv in(occs:=*)S210=>all_goals cbv
 simp;obtain⟨x,o⟩:=numR_intsV (yq (yp w));refine jW (vs:=[.ptr k u 0]) zS rfl rfl (jjp G (F.up (by first|omega|(simp;omega))) q _ _) ?_;refine XB o λv add=>?_;simp;refine j9 [(3,5),(9,17)] (yp w).length (λi s=>s.tm 9=.int .i64 i/\s.tm 3=.int .u64 (XX 0 ((yp w).take i):Nat)) rfl rfl ⟨zS,by simp[XX]⟩ ?_;rintro i s K ⟨z,j⟩ f;have I:s.tm 7=.sl v x (yq (yp w)).length ((yq (yp w)).flatMap yf):=by rw[f.t 7 zS];simp
 have r:s.tm 8=.int .i64 (yq (yp w)).length:=by rw[f.t 8 zS];simp
 have D:s.df=[]:=by rw[f.d];simp
 clear f;by_cases e:i<(yp w).length;have c:i<(yq (yp w)).length:=by rw[JY];exact e
 have m:=jb c (by rw[JY];omega);have l:=JS j8 v x (yq (yp w)) .i64 c;have h:=jt (yq (yp w)) c;have J:=(bitsUp_mem.1 (au e)).1;rw[jz5]at h;have y:=jj6 (n:=(yp w)[i]) zO;have g:=jfm (a:=XX 0 ((yp w).take i)) (b:=1<<<(yp w)[i]) (jc7 zQ λa H=>by have:=(bitsUp_mem.1 (da H)).1;omega) (jru zO);rw[<- jvt e]at g;generalize 1<<<(yp w)[i]=p1 at y g;generalize p:XX 0 ((yp w).take (i+1))=p2 at g;generalize XX 0 ((yp w).take i)=p3 at g j;simp[I,r,z,j,c,l,h,y,g,m];exact⟨e,by rw[p]⟩;have:i=(yp w).length:=zO;subst this;rw[bk,j7c q]at j;simp[r,z,JY,j];exact j5 (zU D) zS rfl
end
end Go.Pv.T
namespace Go.Pv.T
open Go Go.Pv
end Go.Pv.T
namespace Go.Pv.T
open Go Go.Pv
/-! What goes before,by loops. -/
def sB (g:Hist') (a b:Nat):Bool:=J8 g a&&(J8 g b&&(decide (a<b)&&yD g a==yD g b))
def fD2 (r:Nat->Nat->Bool) (k b0 b a:Nat):Bool:=if b<b0 then war r (k+1) b a else war r k b a
def j11 (r:Nat->Nat->Bool) (k a:Nat):war r (k+1) k a=war r k k a:=by rw[war];cases war r k k a<;>simp
def j6n (r:Nat->Nat->Bool) (k b a:Nat):fD2 r k b b a=war r k b a:=by simp[fD2]
def j46 {r:Nat->Nat->Bool}{k c:Nat}(h:war r k c k=false) (b a:Nat):fD2 r k c b a=fD2 r k (c+1) b a:=by unfold fD2;rcases dQ b c with h1|h1|h1;rw[zb h1,zb zO];subst h1;rw[za zO,zb zO,war,h,bE,bI];rw[za zO,za zO]
def j45 (r:Nat->Nat->Bool) (k b a:Nat):fD2 r k 0 b a=war r k b a:=by simp[fD2]
def fD2_end {r:Nat->Nat->Bool}{k n b:Nat}(c:b<n) (a:Nat):fD2 r k n b a=war r (k+1) b a:=by simp[fD2,c]
section
end
def jp6 {l u n x:Nat}{kk:IntKind}(a:x<n):ju 1 (.osl l u 0 n 1) (.int kk (x:Int))=some (.ptr l u x):=j6j rfl a
def j76 {g:Hist'}{t:Nat}(a:t<g.ts.length):(g.ts.flatMap jl)[t*3]? = some (.int .i64 (yD g t)):=by have:=jZ jA g.ts a (by decide:0<3);rw[bp]at this;rw[this];simp[jl,yD,a]
def jrh (n:Nat) (v:V):ja8 n [v]=List.replicate n v:=by unfold ja8;refine fR zS λi a b=>?_;simp[Nat.mod_one]
def jzk {Yf:YF}{f:FuncId}{q:A}{xs:List A}{st:St}{ub:Nat}{K:St->Nat->Prop}{d:Option Nat}{nm:Bool}{first captured vs:List V}{P:V×(ZO)×(Nat->Bool)×Nat->Prop}
 (i:ye E st.tm q=.fn (.func f) first captured) (k:first++xs.map (ye E st.tm)++captured=vs) (g:E.sh nm f=true)
 (l:∃r,EvS E Yf.y f vs st.ob st.tk st.ro ((st.fb+d.getD 0+1)*1024) ub r/\P r) (h:∀v c a b,P (v,c,a,b)->K (jt6 st d v c a) b):jB E Yf ⟨d,.callV q xs,none,nm⟩ st ub K:=by
 have e:jC E nm (ye E st.tm) (.callV q xs)=some (f,vs):=by simp only[jC,i,g,k,bN,bE,ah,zc]
 simp only[jB,yJ,jj,i,e];obtain⟨r,j,m⟩:=l;exact .inl ⟨g,EvS.list ⟨r,j,h r.1 r.2.1 r.2.2.1 r.2.2.2 m⟩⟩
def Old (ob:ZO) (ub:Nat) (ob':ZO):Prop:=∀k,(∀m,ub<=m->k≠2*m+1)->ob' k=ob k
def NewAt (ub:Nat) (l:List Int) (v:V) (ob':ZO) (ub':Nat):Prop:=∃m,ub<=m/\m<ub'/\v=.osl (2*m+1) m 0 l.length 1/\ob' (2*m+1)=some ⟨m,.cells (l.flatMap yf)⟩
def jk5 {E:Env}{Yf:YF}{st:St}{ub:Nat}{K:St->Nat->Prop}{d:Option Nat}{nm o:Bool}{sz a l u off n z:Nat}{cs:List V}{s x:A}(e:ye E st.tm s=.osl l u off n z) (f:jF st.ob sz (ye E st.tm x)=some []) (c:st.ob l=some ⟨u,.cells cs⟩)
 (h:jbh K st d ub (.osl l u off n z)):jB E Yf ⟨d,.append o sz a s x,none,nm⟩ st ub K:=by
 have b:j0 st.ob l u=some cs:=by simp[j0,c]
 rw[jR _ rfl rfl];simp only[yS,e,f,b,ap,zd,WV,jbb];exact h
@[simp] theorem eqVV_sl (ob:ZO) (neg nl:Bool) (t a:Option (Nat×Nat)) (n:Nat) (cs:List V):j1j ob neg .sl (.sl t nl n cs) (.sl a true 0 [])=some (.bool (xor neg nl)):=rfl
def CopyP (ob:ZO) (tk:Nat->Bool) (ub:Nat) (l:List Int) (r:V×(ZO)×(Nat->Bool)×Nat):Prop:=NewAt ub l r.1 r.2.1 r.2.2.2/\Old ob ub r.2.1/\r.2.2.1=tk/\ub<=r.2.2.2
def sv99 {Yf:YF}(l:List Int) (i:l.length<=1000000000) {ob:ZO}{tk:Nat->Bool}{ro base ub:Nat}(h:ro<=ub):∃r,EvS E Yf.y 99 [yl false yf l] ob tk ro base ub r/\CopyP ob tk ub l r:=by
 refine JI rfl zQ ?_;show wpC E Yf S99.body _ (Jw S99.res _);conv in(occs:=*)S99=>all_goals cbv
 simp[yl];refine JL (cs:=[]) rfl rfl rfl ?_;simp;by_cases d:l=[]
 ·subst d;refine jk5 (l:=2*(ub+192)+1) (u:=ub+192) (off:=0) (n:=0) (z:=1) (cs:=[]) zS (by simp[jF]) zS ?_;simp;refine Jj zS ⟨⟨ub+192,zO,by simp;try omega,zS,zS⟩,λk a=>?_,by simp[jq],by simp;try omega⟩;have:=a (ub+192) zO;simp[this]
 ·have c:l.flatMap yf≠[]:=λe=>d (by have:=zg List.length e;rw[j4 j8]at this;exact cz.1 (zU this));have b:(l.flatMap yf).length/1=l.length:=by rw[j4 j8];simp
  refine Xm (l:=2*(ub+192)+1) (u:=ub+192) (n:=0) (cs:=[]) (ys:=l.flatMap yf) zS (by simp[jF,j4 j8]) zS c zP zS zQ (by simp[yf]) (by rw[b];omega) (by rw[b];omega) ?_;rw[b];simp;refine Jj zS ⟨⟨ub+320,zO,by simp;try omega,zS,zS⟩,λk a=>?_,by simp[app_tkk],by simp;try omega⟩;have g:=a (ub+192) zO;have f:=a (ub+320) zO;simp[g,f]
def sv99n {Yf:YF}{ob:ZO}{tk:Nat->Bool}{ro base ub:Nat}:∃r,EvS E Yf.y 99 [.sl none true 0 []] ob tk ro base ub r/\r.1=.sl none true 0 []/\r.2.1=ob/\r.2.2.1=tk/\ub<=r.2.2.2:=by
 refine JI rfl zQ ?_;show wpC E Yf S99.body _ (Jw S99.res _);conv in(occs:=*)S99=>all_goals cbv
 simp;exact Jj zS ⟨zS,zS,zS,by simp;omega⟩
def QC (c:List Int) (q:Nat):Nat:=(q+1) % c.length
end Go.Pv.T
namespace Go.Pv.T
open Go Go.Pv
end Go.Pv.T
