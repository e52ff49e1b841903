/- Part. -/
import Derived.Test.YtmanndcfeicokaaGreatDoorPH
set_option maxRecDepth 100000
set_option maxHeartbeats 8000000
set_option linter.all false
namespace Go.Pv.T.Vs
open Go Go.Pv Go.Pv.T Go.Sort
end Go.Pv.T.Vs
namespace Go.Pv.T.Vs
open Go Go.Pv Go.Pv.T Go.Sort
end Go.Pv.T.Vs
namespace Go.Pv.T.Vs
open Go Go.Pv Go.Pv.T Go.Sort
end Go.Pv.T.Vs
namespace Go.Pv.T.Vs
open Go Go.Pv Go.Pv.T Go.Sort
end Go.Pv.T.Vs
namespace Go.Pv.T.Vs
open Go Go.Pv Go.Pv.T Go.Sort
end Go.Pv.T.Vs
namespace Go.Pv.T.Vs
open Go Go.Pv Go.Pv.T Go.Sort
end Go.Pv.T.Vs
namespace Go.Pv.T.Vs
open Go Go.Pv Go.Pv.T Go.Sort
end Go.Pv.T.Vs
namespace Go.Pv.T
open Go Go.Pv
@[simp] theorem jae (v:Val'):(J7 v).length=2:=rfl
def j5s (a b:Val'):(a==b)=(a.kind==b.kind&&a.n==b.n):=by obtain⟨a1,a2⟩:=a;obtain⟨b1,b2⟩:=b;rw[bA];simp
def j3j (ob:ZO) (l:List Val') {i:Nat}(h:i<l.length):W8 ob (some 2) (.eptr (l.flatMap J7) (i*2))=some (.agg (J7 l[i])):=jd jae ob l h
def idxJ:List (Bool×List Int)->List Int->List Int
 |c::cs,m::ms=>yH c.2 m 0::idxJ cs ms
 |_,_=>[]
def jkv:∀(C:List (Bool×List Int)) (M:List Int),C.length=M.length->(idxJ C M).length=C.length
 |[],[],_=>rfl
 |c::cs,m::ms,h=>by simp only[idxJ,bj]at h ⊢;rw[jkv cs ms zO]
 |[],_::_,h=>by simp at h
 |_::_,[],h=>by simp at h
def jkw:∀(C:List (Bool×List Int)) (M:List Int) (i:Nat) (h:i<C.length) (a:i<M.length),(idxJ C M)[i]? = some (yH (C[i]).2 M[i] 0)
 |c::cs,m::ms,0,_,_=>rfl
 |c::cs,m::ms,i+1,h,a=>by simp only[idxJ,bY,iw];exact jkw cs ms i (zU h) (zU a)
 |[],_,_,h,_=>by simp at h
 |_::_,[],_,_,h=>by simp at h
def jky (k:Int):∀(l:List Int) (n:Nat),yH l k n<(n+l.length:Nat)
 |[],n=>by simp only[yH,cD];omega
 |x::r,n=>by rw[yH];split;simp only[bj];omega;have:=jky k r (n+1);simp only[bj];omega
def XA (g:Hist') (M:List Int):Option (List Int):=if jX g&&((yx g).length==M.length&&(idxJ (yx g) M).all λx=>decide (0<=x)) then some (idxJ (yx g) M) else none
def jlc (g:Hist') (r:Option (List Int)) (v:V):Prop:=match r with
 |some J=>TupS [.sl none (yx g).isEmpty (yx g).length ((yx g).flatMap Yd),.sl none false J.length (J.flatMap yf),.bool true] v
 |none=>TupS [.sl none true 0 [],.sl none true 0 [],.bool false] v
def js2 {g:Hist'}(a:Small g):(yx g).length<=1000000:=by unfold yx;rw[bu];exact jl8 a
def jqa {g:Hist'}(_:Small g):∀x∈yx g,x.1=x.2.isEmpty/\x.2.length<=41:=by
 intro x a;unfold yx jbo at a;split at a;rename_i b;obtain⟨p,_,rfl⟩:=aI.1 a;have c:Yr g=true:=by unfold jX at b;simp only[aj]at b;exact b.1
 exact⟨rfl,jpc c _ _⟩;simp at a
def ev98 {g:Hist'}(hs:Small g) {b:Bool}(M:List Int) (hM:M.length<=1000000):∃v,Ev E 98 [.agg (yb g),yl b yf M] v/\jlc g (XA g M) v:=by
 obtain⟨vc,b0,K⟩:=ev73 hs;have b8:=ev30 hs;have b7:=js2 hs;have I:=jqa hs;have w:∀{p:St}{P:V->Prop},p.df=[]->p.tm 4=.sl none true 0 []->p.tm 5=.sl none true 0 []->p.tm 6=.bool false->XA g M=none->WO [.t 4,.t 5,.t 6] (jlc g (XA g M)) .ret p:=by intro p _ hd h4 h5 h6 hp;rw[hp];exact jhx (ns:=[4,5,6]) (vs:=[.sl none true 0 [],.sl none true 0 [],.bool false]) (λr h=>h) hd (by simp[h4,h5,h6]) zS zS ⟨jM rfl,jM rfl,jM rfl,trivial⟩
 refine JW rfl zQ ?_;obtain⟨P,hP⟩:∃P,jlc g (XA g M)=P:=⟨_,rfl⟩;have D:=λp h1 h2 h3 h4 h5=>hP▸@w p (λ_=>True) h1 h2 h3 h4 h5;rw[hP];obtain⟨C,hC⟩:∃C,yx g=C:=⟨_,rfl⟩;rw[hC]at K b7 I;conv in(occs:=*)F98=>all_goals cbv
 simp[yb,ya];refine jH b0 zI rfl zI ?_;refine Jv K λtc c1=>?_;simp[ya];refine jH b8 zI rfl zI ?_;cases hw:jX g;simp;exact D _ zS zS zS zS (by simp[XA,hw]);by_cases B:¬C.length=M.length;have q:((C.length:Int) != M.length)=true:=by simp;omega
 simp[q];exact D _ zS zS zS zS (by simp[XA,hC,B]);have B:C.length=M.length:=fH B;have q:((C.length:Int) != M.length)=false:=by simp;omega
 simp[q];refine jkq (n:=M.length) zS zS zO zO rfl zQ ?_;simp;obtain⟨J,hJ⟩:∃J,idxJ C M=J:=⟨_,rfl⟩;have S:J.length=M.length:=by rw[<- hJ,jkv C M B];exact B
 have o:=jkw C M;rw[hJ]at o;have e:XA g M=if J.all (λx=>decide (0<=x)) then some J else none:=by unfold XA;rw[hC,hJ,hw,B];simp
 refine j5 [(4,6),(9,10),(28,47)] C.length (λi s=>s.tm 28=.int .i64 i/\(∃cs,s.ob 2433=some ⟨1216,.cells cs⟩/\Upto M.length i J cs)/\(J.take i).all (λx=>decide (0<=x))=true) rfl rfl ⟨zS,⟨_,zS,Upto.zero _ _⟩,zS⟩ ?_;rintro i s hi ⟨z,⟨cs,T,F⟩,k⟩ f;have f1:s.tm 1=yl b yf M:=by rw[f.t 1 zS];simp
 have f7:s.tm 7=.sl tc C.isEmpty C.length (C.flatMap Yd):=by rw[f.t 7 zS];simp
 have f8:s.tm 8=.osl 2433 1216 0 M.length 1:=by rw[f.t 8 zS];simp
 have b5:s.tm 26=.sl tc C.isEmpty C.length (C.flatMap Yd):=by rw[f.t 26 zS];simp
 have N:s.tm 27=.int .i64 C.length:=by rw[f.t 27 zS];simp
 have fd:s.df=[]:=by rw[f.d];simp
 have fr:s.ro=0:=by rw[f.r];simp
 clear f;by_cases j:i<C.length;have a0:=jP j zO;have c:i<M.length:=zO;have h1:=jeo C j;have h2:=jj M c;have H:jt 1 (.sl tc C.isEmpty C.length (C.flatMap Yd)) (.int .i64 (i:Int))=some (.eptr (C.flatMap Yd) (i*1)):=by simp only[J1,j1 Xw];rw[zb zP];rfl
 rw[bz]at H;have b6:=j4k (l:=2433) (u:=1216) (n:=M.length) (kk:=.i64) (X:=(i:Int)) rfl c;have Z:=ev148 (a:=(C[i]).1) (C[i]).2 (by have:=(I _ (au j)).2;omega) M[i];have m:=o i j c;generalize yH (C[i]).2 M[i] 0=x at *;have O:=F.set c m;have Q:(j2 cs i [.int .i64 x])[i]? = some (.int .i64 x):=by rw[O.2.1 i zO];have L:=ak.1 m;rw[jj J L.1,L.2]
 have c0:=F.1;have b9:i+1<=M.length:=c;simp[z,f1,f8,b5,N,j,c,H,j4 j6,h1,h2];refine jH Z (by simp[yl]) rfl (by simp[yl]) ?_;simp[b6,T,ya,fr,c0,b9,f8,Q];by_cases hx:x<0;simp[hx];refine D _ (by simp[fd]) zS zS zS ?_;rw[e];have hm:x∈J:=aJ m;rw[za];rw[aw];intro h;have:=h x hm;simp at this;omega;simp[hx,z,a0];refine⟨j,O,λy G=>?_⟩;rw[gF,m,aQ]at G;rcases G with G|G;simpa using aw.1 k y G;simp at G;omega;have:i=C.length:=zO;subst this;simp[z,N];rw[aH zO]at k;rw[B]at F;have U:=F.whole S;rw[<- hP,e,zb k];subst U;refine jhx (ns:=[4,5,6]) (vs:=[.sl tc C.isEmpty C.length (C.flatMap Yd),.osl 2433 1216 0 M.length 1,.bool true]) (λr h=>h) (by simp[fd]) (by simp[f7,f8]) zS zS ⟨?_,?_,jM rfl,trivial⟩;rw[hC];exact XP rfl (ja _ _ _ _ _);rw[S];exact XP rfl (jcf (by simp[T]) F.1 (by simp[fr]) F.2.2)
def ev114 {g:Hist'}(i:Small g) {b:Bool}(M:List Int) (h:M.length<=1000000):Ev E 114 [.agg (yb g),yl b yf M] (.bool (XA g M).isSome):=by
 obtain⟨v,d,a⟩:=ev98 i (b:=b) M h;refine jS rfl ?_;conv in(occs:=*)F114=>all_goals cbv
 simp[yb,ya];refine jH d zH rfl zH ?_;cases c:XA g M with
 |none=>rw[c]at a;refine jrb a λf e add=>?_;simp;exact j3 zS zS rfl
 |some J=>rw[c]at a;refine jrb a λf e add=>?_;simp;exact j3 zS zS rfl
def jn3:∀(C D:List (Bool×List Int)) (M:List Int),C.map (·.2)=D.map (·.2)->jdf D M=((idxJ C M).all (λx=>decide (0<=x))&&decide (C.length<=M.length))
 |[],[],M,_=>by cases M<;>simp[jdf,idxJ]
 |c::C,d::D,[],_=>by simp[jdf]
 |c::C,d::D,m::M,h=>by
  simp only[aZ,dT]at h;have a:=jn3 C D M h.2;have e:=jkx m c.2 0;have b:decide (0<=yH c.2 m 0)=c.2.contains m:=by
   have:decide (0<=yH c.2 m 0) = !decide (yH c.2 m 0<0):=by by_cases h:yH c.2 m 0<0;simp[h];simp[h];omega
   rw[this,e,Bool.not_not]
  simp only[jdf,idxJ,bU,a,b,<- h.1,bj,Nat.add_le_add_iff_right];rw[fy]
 |[],_::_,_,h=>by simp at h
 |_::_,[],_,h=>by simp at h
def jb0 {g:Hist'}(a:jX g=true):(yx g).map (·.2)=(choR g).map (·.2):=by unfold yx choR jbo;rw[zb a];simp[cM,Function.comp_def]
def j0r {g:Hist'}(a:jX g=true):(yx g).length=(choR g).length:=by have:=zg List.length (jb0 a);simpa using this
def jzy (g:Hist') (M:List Int):(XA g M).isSome=W7 g M:=by
 unfold XA W7;cases d:jX g;simp;rw[jn3 _ _ M (jb0 d),j0r d];by_cases b:M.length=(choR g).length;have a:((choR g).length==M.length)=true:=by simp[b]
 have c:(M.length==(choR g).length)=true:=by simp[b]
 rw[a,c];simp only[bM,b,dH,decide_true,ep];split;rename_i h;simp[h];rename_i h;simp only[cQ];simpa using h;have a:((choR g).length==M.length)=false:=by simp;omega
 have c:(M.length==(choR g).length)=false:=by simp;omega
 rw[a,c];simp
@[simp] theorem eqVV_bool (ob:ZO) (neg a b:Bool):j1a ob neg .bool (.bool a) (.bool b)=some (.bool (xor neg (a==b))):=rfl
def jw9 {ub:Nat}{r:V}{g:Hist'}{K:Delta->Prop}(h:jvz r g)
 (e:∀a b c add,K { v:=.agg [.sl a g.sn g.ss.length (g.ss.flatMap X1),.sl b g.kn g.ks.length (g.ks.flatMap X1),.sl c g.tn g.ts.length (g.ts.flatMap jf)],add:=add }):wpD (Xp ub r) K:=by
 obtain⟨a,b,c,add,d⟩:=jt6 (ub:=ub) h;rw[d,jG];exact e a b c add
def jcb {c:Type}{f:c->List V}{k:Nat}(b:∀a,(f a).length=k):∀(l:List c) (n:Nat),(l.flatMap f).take (n*k)=(l.take n).flatMap f
 |[],n=>by simp
 |a::l,0=>by simp
 |a::l,n+1=>by rw[bk,eG,bk,dh,fX,<- b a,fm,b a,jcb b l n]
section
variable {E:Env}{st:St}{ub:Nat}{K:List FP->St->Prop}{d:Option Nat}{nm:Bool}{r:List AOpr}
def nbeq {a b:Nat}(h:a≠b):a.beq b=false:=by cases e:a.beq b;rfl;exact zf (bt e) h
@[simp] theorem j69 (v:Val'):(J7 v).map V.strip1=J7 v:=rfl
end
def j7o {c:Type}{f:c->List V}{sz:Nat}(b:∀a,(f a).length=sz) (t:Option (Nat×Nat)) (nl:Bool) (l:List c) {k:Nat}(i:k<=l.length):Yz sz none (some (.int .i64 (k:Int))) (.sl t nl l.length (l.flatMap f))=some (.sl none nl (l.take k).length ((l.take k).flatMap f)):=by
 have h:(l.take k).length=k:=by rw[ai];omega
 have e:=jcb b l k;have g:(k:Int)<=l.length:=zO;simp[Yz,Jz,j1 b,h,e,g]
def jh6 {L u n i:Nat}(h:i<=n):Yz 2 (some (.int .i64 (i:Int))) none (.osl L u 0 n 2)=some (.osl L u (i*2) (n-i) 2):=by have a:(i:Int)<=n:=zO;simp[Yz,Jz];omega
def j17 {L u n i:Nat}(h:i<=n):Yz 2 none (some (.int .i64 (i:Int))) (.osl L u 0 n 2)=some (.osl L u 0 i 2):=by have a:(i:Int)<=n:=zO;simp[Yz,Jz,a]
def idx2 {l u off n x:Nat}{kk:IntKind}{X:Int}(a:X=(x:Nat)) (b:x<n):jt 2 (.osl l u off n 2) (.int kk X)=some (.ptr l u (off+x*2)):=by subst a;have:(x:Int)<n:=zO;simp[jt,this]
def ld2 {ob:ZO}{l u:Nat}{M:List Val'}{x:Nat}(a:ob l=some ⟨u,.cells (M.flatMap J7)⟩) (b:x<M.length):W8 ob (some 2) (.ptr l u (x*2))=some (.agg (J7 M[x])):=by have h:=j3j ob M b;rw[<- h];simp only[W8,ya,a,zd,ah]
def st2 {M:List Val'}{x:Nat}(a:x<M.length) (v:Val'):j2 (M.flatMap J7) (x*2) (J7 v)=(M.set x v).flatMap J7:=jar jae v M x a
def Je (T:List Val'):Nat->List Val'
 |0=>[]
 |j+1=>Je T j++(if 0<j/\T[j-1]? = T[j]? then [] else T[j]?.toList)
def jjh (T:List Val'):∀j,j<=T.length->(Je T j).length<=j
 |0,_=>by simp[Je]
 |j+1,h=>by have:=jjh T j zO;simp only[Je,ap,aa (show j<T.length by omega)];split<;>simp<;>omega
def jnr {T:List Val'}{j:Nat}(a:0<j) (h:j<T.length) (b:T[j]=T[j-1]):Je T (j+1)=Je T j:=by simp only[Je];rw[zb ⟨a,by rw[aa zO,aa h,b]⟩,aL]
def jg7 {T:List Val'}{j:Nat}(h:j<T.length) (c:0<j->T[j]≠T[j-1]):Je T (j+1)=Je T j++[T[j]]:=by simp only[Je];rw[za,aa h];rfl;rintro⟨b,a⟩;rw[aa zO,aa h]at a;exact c b (cu a).symm
def CompP (l u n:Nat) (C:List Val') (ob:ZO) (tk:Nat->Bool) (ub:Nat) (r:V×(ZO)×(Nat->Bool)×Nat):Prop :=
 r.1=.osl l u 0 C.length 2/\(∃cs,r.2.1 l=some ⟨u,.cells cs⟩/\cs.length=n*2/\C.length<=n/\cs.take (C.length*2)=C.flatMap J7)/\(∀key,key≠l->r.2.1 key=ob key)/\r.2.2.1=tk/\ub<=r.2.2.2
end Go.Pv.T
namespace Go.Pv.T
open Go Go.Pv
end Go.Pv.T
namespace Go.Pv.T
open Go Go.Pv
end Go.Pv.T
namespace Go.Pv.T
open Go Go.Pv
end Go.Pv.T
namespace Go.Pv.T
open Go Go.Pv
@[simp] theorem valC_leafs (v:Val'):(J7 v).all V.leaf=true:=rfl
def jh7 {st:St}{L u n sz:Nat}{cs c:List V}(f:st.ob L=some ⟨u,.cells cs⟩) (e:st.ro<=u) (p:n*sz<=cs.length) (g:cs.take (n*sz)=c) (hp:c.all V.pureLeaf=true):jdg st (.osl L u 0 n sz) false n c:=by
 have b:ya st.ob L u=some cs:=by simp[ya,f]
 have m:∀(k:Nat) (l:List V),l.all V.pureLeaf=true->l.mapM (JX st (k+1))=some l:=by
  intro k l;induction l with
  |nil=>intro _;rfl
  |cons a l o=>
   intro h;simp only[bU,aj]at h;rw[bQ,o h.2];have:JX st (k+1) a=some a:=by
    have:=YR (st:=st) (keep:=false) (i:=0) h.1;cases a with
    |sl t q n cs=>cases t with
     |none=>rfl
     |some t=>cases h.1
    |osl=>cases h.1
    |_=>simp only[JX,h.1,zd]
   rw[this];rfl
 have j:JX st 6 (.osl L u 0 n sz)=some (.sl none false n c):=by show((ya st.ob L u).bind λcs=>if Nat.ble st.ro u=true/\0+n*sz<=cs.length then (((cs.drop 0).take (n*sz)).mapM (JX st 5)).map λd=>V.sl none false n d else none)=_;rw[b,ah,zb ⟨bS▸e,zO⟩,du,g,m 4 c hp];rfl
 intro keep i;refine⟨_,by simp only[js,j,ah,b,aU];rfl,?_⟩;split;exact .inr ⟨_,rfl⟩;exact .inl rfl
end Go.Pv.T
namespace Go.Pv.T
open Go Go.Pv
end Go.Pv.T
namespace Go.Pv.T
open Go Go.Pv
end Go.Pv.T
namespace Go.Pv.T
open Go Go.Pv
end Go.Pv.T
namespace Go.Pv.T
open Go Go.Pv
end Go.Pv.T
namespace Go.Pv.T
open Go Go.Pv
end Go.Pv.T
namespace Go.Pv.T
open Go Go.Pv
section
end
def jyn {c:Type}(k0:Int) (b:c) (m:List (Int×c)) (k:Int) (a:c):Wj ((k0,b)::m) k a=if k=k0 then (k,a)::m else (k0,b)::Wj m k a:=by unfold Wj;rw[jy];by_cases h:k=k0;simp[h];rw[za h,za h];cases jy m k<;>simp
def W5 {f:Type}(k:Int) (a:f) (c:Int):∀m:List (Int×f),(jy (Wj m k a) c).map (·.2)=if c=k then some a else (jy m c).map (·.2)
 |[]=>by by_cases h:c=k<;>simp[Wj,jy,h]
 |(k0,b)::m=>by rw[jyn];have g:=W5 k a c m;by_cases h:k=k0;subst h;rw[zb rfl,jy,jy];by_cases d:c=k<;>simp[d];rw[za h,jy,jy];by_cases d:c=k0;subst d;simp[show ¬c=k from λe=>h e.symm];rw[za d,za d];simp only[ie];have e:((λx:Nat×f=>x.2) ∘ λp:Nat×f=>(p.1+1,p.2))=λx=>x.2:=rfl;rw[e];exact g
def jix {a:Type}{k:a->a}{y:a}:∀{l:List a}{i:Nat},y∈l.modify i k->y∈l\/∃x,l[i]? = some x/\y=k x
 |[],i,h=>by simp at h
 |x::l,0,h=>by rw[fS]at h;simp only[zd,bB]at h;rcases h with rfl|h;exact .inr ⟨x,rfl,rfl⟩;exact .inl (aX _ h)
 |x::l,i+1,h=>by rw[fS]at h;simp only[Nat.add_one_ne_zero,zc,ft,bB]at h;rcases h with rfl|h;exact .inl (aO ..);rcases jix h with h|⟨z,c,b⟩;exact .inl (aX _ h);exact .inr ⟨z,zU c,b⟩
section
variable {g:Hist'}{cs:List Bool}{lo:List Val'}
def readIn_mem {i:Nat}{p:Int×Int}:∀{n:Nat},p∈JA g i n ↔ ∃k:Nat,k<n/\p=((i:Int),(k:Int))/\jcn g i k=true
 |0=>by simp[JA]
 |n+1=>by simp only[JA,aQ,readIn_mem (n:=n)];constructor;rintro(⟨k,c,b⟩|h);exact⟨k,zO,b⟩;split at h;rename_i a;exact⟨n,zO,zU h,a⟩;simp at h;rintro⟨k,c,b,a⟩;rcases bi.1 c with h|h;exact .inl ⟨k,h,b,a⟩;subst h;right;simp[a,b]
end
section
end
abbrev Cs':=List (Bool×List Int)
def hd1 (c:Bool×List Int):Int:=c.2.headD 0
def X6:Cs'->List Int->Option (List Int)
 |c::cs,m::ms=>match X6 cs ms with
  |some r=>some (m::r)
  |none=>if yH c.2 m 0+1<c.2.length then some (c.2.getD (yH c.2 m 0+1).toNat 0::cs.map hd1) else none
 |_,_=>none
def jis:∀(C:Cs') (M:List Int) (i:Nat) (r:List Int),i<=C.length->C.length=M.length->X6 (C.drop i) (M.drop i)=some r->X6 C M=some (M.take i++r)
 |C,M,0,r,_,_,h=>by simpa using h
 |c::cs,m::ms,i+1,r,h1,h2,h=>by have:=jis cs ms i r (zU h1) (zU h2) (zU h);simp[X6,this]
 |[],_,_+1,_,h,_,_=>by simp at h
 |_::_,[],_+1,_,_,h,_=>by simp at h
def jx (C:Cs'):Bool:=C.all λc=>!c.2.isEmpty
def QV (g:Hist'):Int×List Int:=if jX g then (if jx (yx g) then (0,(yx g).map hd1) else (3,[])) else (4,[])
def cap6 (n:Int):Int:=if 1000000<n then 1000000 else n
def jac:Cs'->Int->Int
 |[],n=>n
 |c::cs,n=>jac cs (cap6 (n*c.2.length))
def yG:Cs'->List (List Int)
 |[]=>[[]]
 |c::cs=>c.2.flatMap λx=>(yG cs).map (x::·)
def stepA (c:Bool×List Int) (out:List (List Int)):List (List Int):=out.flatMap λo=>c.2.map λx=>o++[x]
def allF:Cs'->Nat->List (List Int)->List (List Int)
 |[],_,out=>out
 |c::cs,most,out=>allF cs most ((stepA c out).take most)
def js9:∀(C:Cs') (n:Nat),allF C n []=[]
 |[],_=>rfl
 |c::cs,n=>by simp[allF,stepA,js9 cs n]
def js8:∀(C:Cs') (o:List Int),allF C 1 [o]=if jx C then [o++C.map hd1] else []
 |[],o=>by simp[allF,jx]
 |c::cs,o=>by
  obtain⟨b,l⟩:=c;cases l with
  |nil=>simp[allF,stepA,js9,jx]
  |cons x l=>have:=js8 cs (o++[x]);simp only[allF,stepA,bk,gV,aL,aZ,eG,dP,this];simp only[jx,bU,List.isEmpty_cons,cp,bM,hd1,List.headD_cons,aY,ge]
def steps (f:List Int->Option (List Int)):List (List Int)->Prop
 |[]=>True
 |[x]=>f x=none
 |x::y::r=>f x=some y/\steps f (y::r)
def jq1 {f:List Int->Option (List Int)}:∀{L:List (List Int)}{i:Nat},steps f L->(h:i<L.length)->f L[i]=L[i+1]?
 |[x],0,h,_=>h
 |x::y::r,0,h,_=>h.1
 |x::y::r,i+1,h,hi=>by have:=jq1 (L:=y::r) (i:=i) h.2 (zU hi);simpa using this
 |[x],i+1,_,hi=>by simp at hi
 |[],_,_,hi=>by simp at hi
def jsl (k:Int) (b:List Int):∀(a:List Int) (n:Nat),k ∉ a->yH (a++k::b) k n=(n+a.length:Nat)
 |[],n,_=>by simp[yH]
 |x::a,n,h=>by have c:¬k=x:=λe=>h (by simp[e]);have:=jsl k b a (n+1) (λe=>h (aX _ e));simp only[cY,yH,zh,c,zc,this,bj];congr 1;omega
def jal:∀{C:Cs'},jx C=true->∃r,yG C=C.map hd1::r
 |[],_=>⟨[],rfl⟩
 |c::cs,h=>by
  simp only[jx,bU,aj]at h;obtain⟨r,b⟩:=jal (C:=cs) h.2;cases a:c.2 with
  |nil=>rw[a]at h;simp at h
  |cons x l=>simp only[yG,a,b,bk,aZ,cY,hd1,List.headD_cons];exact⟨_,rfl⟩
def jh2:∀{C:Cs'},jx C=true->(∀c∈C,c.2.Nodup)->steps (X6 C) (yG C)
 |[],_,_=>rfl
 |c::cs,h,hd=>by
  have n:=h
  simp only[jx,bU,aj]at n
  have v:=jh2 (C:=cs) n.2 (λx B=>hd x (aX _ B))
  obtain⟨L,u⟩:∃L,yG cs=L:=⟨_,rfl⟩
  obtain⟨G,k⟩:=jal (C:=cs) n.2
  rw[u]at v k
  -- what is behind one member of the first list
  have j:∀(S:List (List Int)),S≠[]->steps (X6 cs) S->∀(x:Int) (b a:List Int) (R:List (List Int)),c.2=b++x::a->steps (X6 (c::cs)) R->(a=[]->R=[])->(∀y p,a=y::p->∃w,R=(y::cs.map hd1)::w) ->
   steps (X6 (c::cs)) (S.map (x::·)++R):=by
   intro S
   induction S with
   |nil=>intro h;exact zf rfl h
   |cons s S i=>
    intro _ q x b a R f z t r
    have o:x ∉ b:=by
     have:=hd c (aO ..)
     rw[f,dc]at this
     exact λD=>this.2.2 x D x (aO ..) rfl
    have l:yH c.2 x 0=(b.length:Nat):=by rw[f,jsl x a b 0 o];simp
    cases S with
    |nil=>
     have m:X6 cs s=none:=q
     have d:c.2.length=b.length+1+a.length:=by rw[f];simp;omega
     cases a with
     |nil=>
      rw[t rfl]
      show X6 (c::cs) (x::s)=none
      simp only[X6,m,l]
      rw[za (by simp at d;omega)]
     |cons y p=>
      obtain⟨w,rfl⟩:=r y p rfl
      refine⟨?_,z⟩
      simp only[X6,m,l]
      rw[zb (by simp at d;omega)]
      have:(((b.length:Nat):Int)+1).toNat=b.length+1:=zO
      rw[this,f]
      simp
    |cons F S=>
     refine⟨?_,i zS q.2 x b a R f z t r⟩
     simp only[X6,q.1]
  have g:∀(a b:List Int),c.2=b++a->steps (X6 (c::cs)) (a.flatMap λx=>L.map (x::·)):=by
   intro a
   induction a with
   |nil=>intro b _;exact trivial
   |cons x a i=>
    intro b f
    rw[bk]
    refine j L (by rw[k];simp) v x b a _ f (i (b++[x]) (by rw[f];simp)) (λe=>by rw[e];rfl) (λy p e=>?_)
    rw[e,bk,k]
    exact⟨_,rfl⟩
  have:=g c.2 [] rfl
  rw[yG,u]
  exact this
def jro:∀{C:Cs'}{M:List Int},M∈yG C->C.length=M.length/\(idxJ C M).all (λx=>decide (0<=x))=true
 |[],M,h=>by simp only[yG,ae]at h;subst h;exact⟨rfl,rfl⟩
 |c::cs,M,h=>by
  simp only[yG,cq,aI]at h;obtain⟨x,f,m,a,rfl⟩:=h;obtain⟨d,b⟩:=jro a;refine⟨by simp[d],?_⟩;simp only[idxJ,bU,b,ep,ze];have:=jkx x c.2 0;have e:c.2.contains x=true:=by simpa using f
  rw[e]at this;simpa using this
def jyg (g:Hist') (a b:Int):(ofH g a b).Nodup:=by unfold ofH;split;split;simp;rename_i o _ _;have h:=jhw g o.key;unfold ofL JO;have d:((yP g o.key).filter λi=>!(i==a)&&Qa o (Xx g o.key i)).Pairwise (· < ·):=h.1.filter _;have c:((yP g o.key).filter λi=>!(i==a)&&Qa o (Xx g o.key i)).Nodup:=d.imp (λh e=>by omega);split;simpa using c;refine dc.2 ⟨zS,c,?_⟩;intro x j y f e;have:=h.2 y (bL.1 f).1;simp at j;omega;simp
def min6 (n:Int):jbv false [.int .i64 n,.int .i64 1000000]=some (.int .i64 (cap6 n)):=by by_cases h:(1000000:Int)<n<;>simp[jbv,QL,jgj,cap6,h]
def cap6_lt {n:Int}(h:0<=n):0<=cap6 n/\cap6 n<=1000000:=by unfold cap6;split<;>omega
def mul_lt {n:Int}{k:Nat}(b:0<=n) (a:n<=1000000) (c:k<=41):0<=n*(k:Int)/\n*(k:Int)<=41000000:=by have e:=Int.mul_nonneg b (show(0:Int)<=k by omega);have d:n*(k:Int)<=1000000*41:=Int.mul_le_mul a zO zO zO;omega
def jqb {g:Hist'}(a:jX g=true):∀x∈choR g,x.2.length<=41:=by
 intro x b;unfold choR at b;obtain⟨p,_,rfl⟩:=aI.1 b;have c:Yr g=true:=by unfold jX at a;simp only[aj]at a;exact a.1
 exact jpc c _ _
def jk5 {g:Hist'}(a:Small g):(choR g).length<=1000000:=by unfold choR;rw[bu];exact Xr a
def jjg:∀{C D:Cs'}(n:Int),C.map (·.2)=D.map (·.2)->jac C n=jac D n
 |[],[],_,_=>rfl
 |c::C,d::D,n,h=>by simp only[aZ,dT]at h;simp only[jac,h.1];exact jjg _ h.2
 |[],_::_,_,h=>by simp at h
 |_::_,[],_,h=>by simp at h
def jc6 (C:Cs') (i:Nat):List Int:=(C.take i).map hd1
def jtf (r:Int×List Int) (v:V):Prop:=TupS [.sl none r.2.isEmpty r.2.length (r.2.flatMap yf),.int .i64 r.1] v
def ev16 (h:Hist') (r:h.ts.length<=1000):Ev E 16 [.agg (yb h)] (.sl (some (0,1)) false (yu Jp h.ts h.ts.length).length ((yu Jp h.ts h.ts.length).flatMap yf)):=by
 refine jS rfl ?_;conv in(occs:=*)F16=>all_goals cbv
 simp[yb];refine jF (cs:=[]) rfl rfl rfl ?_;simp;refine Yo (n:=h.ts.length) (λk s=>∃i u,k=h.ts.length-i/\i<=h.ts.length/\s.df=[]/\s.fb=0/\s.ro=0/\s.tm 1=.ptr 2 0 0/\s.ob 2=some ⟨0,.cells (yb h)⟩/\s.tm 4=.int .i64 i/\s.tk u=true /\
  s.tm 3=.sl (some (u,1)) false (yu Jp h.ts i).length ((yu Jp h.ts i).flatMap yf))
  ⟨0,128,by simp[yu,yb]⟩ ?_
 rintro k s ⟨i,u,rfl,q,j,b,c,e,g,d,l,m⟩;by_cases a:i<h.ts.length;simp[e,g,d,ya,yb,a,j4 j7,jO j7,jf];have p:=Jj Jp h.ts i;cases o:h.ts[i].f==1;simp[d];refine⟨h.ts.length-(i+1),zO,i+1,⟨rfl,zO,j,b,c,e,by simpa[yb] using g,by rw[jg zO zO];simp,u,l,?_⟩⟩;rw[m,Jm a,Jp,o];simp;simp[m,d];refine jF (cs:=[.int .i64 i]) (by simp[j2]) rfl rfl ?_;simp;refine Jl (u:=u) (nl:=false) (n:=(yu Jp h.ts i).length) (cs:=(yu Jp h.ts i).flatMap yf) (ys:=[.int .i64 i]) zS (by simp[jb,l]) (by simp[yp]) zS (by rw[j1 j6]) zQ rfl zP zP ?_;simp[d,j,b,c,e,g,yb];refine⟨h.ts.length-(i+1),zO,i+1,rfl,zO,by rw[jg zO zO];simp,Or.inl ?_⟩;rw[Jm a,Jp,o];simp[yf];have:i=h.ts.length:=zO;subst this;simp[e,g,d,ya,yb];exact Qz (u:=u) (zU j) (by simp[m]) (zU l)
def jde (f:Nat->Bool):Nat->Bool
 |0=>true
 |k+1=>jde f k&&f k
def andTo_iff {f:Nat->Bool}:∀{n:Nat},jde f n=true ↔ ∀k,k<n->f k=true
 |0=>by simp[jde]
 |n+1=>by rw[jde,aj,andTo_iff];constructor;rintro⟨h,b⟩ k a;rcases cJ k n with h1|h1;exact h k h1;have:k=n:=zO;exact this▸b;exact λh=>⟨λk a=>h k zO,h n zO⟩
def jqj {f:Nat->Bool}{k n:Nat}(a:k<n) (h:f k=false):jde f n=false:=by
 cases e:jde f n with
 |false=>rfl
 |true=>rw[andTo_iff.1 e k a]at h;cases h
def YC (f:Nat->Bool):Nat->List Int
 |0=>[]
 |k+1=>YC f k++(if f k then [(k:Int)] else [])
def jg3 (f:Nat->Bool):∀n,(YC f n).length<=n
 |0=>dH _
 |n+1=>by have:=jg3 f n;simp only[YC,ap];split<;>simp<;>omega
def filTo_mem {f:Nat->Bool}{x:Int}:∀{n:Nat},x∈YC f n ↔ ∃k:Nat,k<n/\x=k/\f k=true
 |0=>by simp[YC]
 |n+1=>by rw[YC,aQ,filTo_mem];constructor;rintro(⟨k,d,a,b⟩|h);exact⟨k,zO,a,b⟩;cases c:f n;simp[c]at h;simp[c]at h;exact⟨n,zO,h,c⟩;rintro⟨k,d,a,b⟩;rcases cJ k n with h|h;exact .inl ⟨k,h,a,b⟩;have:k=n:=zO;subst this;exact .inr (by simp[b,a])
def jg4 {f a:Nat->Bool}:∀{n:Nat},(∀k,k<n->f k=a k)->YC f n=YC a n
 |0,_=>rfl
 |n+1,h=>by rw[YC,YC,jg4 λk b=>h k zO,h n zO]
def Jt (g:Hist') (a:Nat):Bool:=match g.ts[a]? with|some t=>Jp t|none=>false
def yE (g:Hist') (a:Nat):Int:=match g.ts[a]? with|some t=>t.s|none=>0
def jqy (p:Txn'->Bool) (ts:List Txn') (a:Nat):Bool:=match ts[a]? with|some t=>p t|none=>false
def Wt (p:Txn'->Bool) (ts:List Txn'):∀n,yu p ts n=YC (jqy p ts) n
 |0=>rfl
 |n+1=>by rw[yu,YC,Wt p ts n];congr 1;unfold jqy;cases ts[n]?<;>rfl
def XF {g:Hist'}{a:Nat}(h:Jt g a=true):a<g.ts.length:=by
 unfold Jt at h;cases b:g.ts[a]? with
 |none=>rw[b]at h;cases h
 |some t=>exact(ak.1 b).1
def ym (g:Hist'):List Int:=yu Jp g.ts g.ts.length
def comL_mem {g:Hist'}{x:Int}:x∈ym g ↔ ∃k:Nat,x=k/\Jt g k=true:=by rw[ym,Wt,filTo_mem];exact⟨λ⟨k,_,b,a⟩=>⟨k,b,a⟩,λ⟨k,b,a⟩=>⟨k,XF a,b,a⟩⟩
def jg9 {g:Hist'}(h:jX g=true):comH g=ym g:=by rw[comH,zb h];rfl
def j92 (R:List (Int×Int)) (M:List Int) (a b:Nat):Bool:=(R.zip M).any λx=>x.2==(a:Int)&&x.1.1==(b:Int)
def je1 (g:Hist') (M:List Int) (a b:Nat):Bool:=Jt g a&&Jt g b&&((decide (a<b)&&yE g a==yE g b)||j92 (yi g) M a b)
def war (r:Nat->Nat->Bool):Nat->Nat->Nat->Bool
 |0,b,a=>r a b
 |k+1,b,a=>war r k b a||(war r k b k&&war r k k a)
def jb7 {r:Nat->Nat->Bool}:∀{K k:Nat},k<K->∀{b a:Nat},war r K b k=true->war r K k a=true->war r K b a=true
 |K+1,k,hk,b,a,c,d=>by simp only[war,bG,aj]at c d ⊢;rcases cJ k K with hlt|hge;rcases c with c|⟨c,f⟩<;>rcases d with d|⟨d,e⟩;exact .inl (jb7 hlt c d);exact .inr ⟨jb7 hlt c d,e⟩;exact .inr ⟨c,jb7 hlt f d⟩;exact .inr ⟨c,e⟩;have:k=K:=zO;subst this;rcases c with c|⟨c,f⟩<;>rcases d with d|⟨d,e⟩;exact .inr ⟨c,d⟩;exact .inr ⟨c,e⟩;exact .inr ⟨c,d⟩;exact .inr ⟨c,e⟩
def joj {r:Nat->Nat->Bool}{b a:Nat}(h:r a b=true):∀K,war r K b a=true
 |0=>h
 |K+1=>by simp[war,joj h K]
def jqp {r:Nat->Nat->Bool}{p:Nat->Prop}{q:Nat->Prop}(d:∀a b,q b->r a b=true->p a) (c:∀b,p b->q b):∀(K:Nat) {b a:Nat},q b->war r K b a=true->p a
 |0,b,a,hb,h=>d a b hb h
 |K+1,b,a,hb,h=>by simp only[war,bG,aj]at h;rcases h with h|⟨h,e⟩;exact jqp d c K hb h;exact jqp d c K (c _ (jqp d c K hb h)) e
def farB (g:Hist') (M:List Int) (t a:Nat):Bool:=war (je1 g M) g.ts.length t a
def jlr {g:Hist'}{M:List Int}{a b:Nat}(h:je1 g M a b=true):Jt g a=true/\Jt g b=true:=by simp only[je1,aj]at h;exact h.1
def atO (O:List Int) (t:Int):Int:=yH O t 0
def Wu (g:Hist') (p:Int×Int):Int:=match opAt g p.1 p.2 with|some o=>o.key|none=>0
def Jo (g:Hist') (t key:Int):Bool:=(Ys (Jr g t).2 key).2
def rcB (R:List (Int×Int)) (M:List Int) (p:Int×Int) (t:Int):Bool:=(R.zip M).any λx=>x.1.1==p.1&&(decide (x.1.2<p.2)&&x.2==t)
def jdp (g:Hist') (lvl:Int) (M O:List Int) (p:Int×Int) (t:Nat):Bool :=
 if lvl=1 then rcB (yi g) M p t else if lvl=2 then farB g M p.1.toNat t else if lvl=3 then Jt g t&&decide (atO O t<atO O p.1) else false
def jdq (g:Hist') (lvl:Int) (M O:List Int) (p:Int×Int):List Int:=YC (jdp g lvl M O p) g.ts.length
def Qn (g:Hist') (O:List Int):Bool:=jX g&&((ym g).length==O.length&&jde (λi=>(ym g).contains (O.getD i 0) && !(O.take i).contains (O.getD i 0)) O.length)
def com_f {g:Hist'}(c:jX g=true) {a:Nat}{t:Txn'}(b:g.ts[a]? = some t) (i:t.f≠2):Jt g a=true:=by
 unfold jX at c;simp only[aj,dD]at c;obtain⟨d,h,_⟩:=c;have j:t.f≠3:=λe=>by
  have:((a:Nat):Int)∈Y3 g:=by rw[Y3,Wt,filTo_mem];exact⟨a,(ak.1 b).1,rfl,by simp[jqy,b,XU,e]⟩
  rw[h]at this;cases this
 unfold Yr at d;simp only[aj,aw]at d;have:=d.2.1 t (aJ b);simp only[je4,aj,ze]at this;simp only[Jt,b,Jp,zh];omega
def of_com {g:Hist'}(f:jX g=true) {a b x:Int}(h:x∈ofH g a b):x = -1\/x∈ym g:=by
 unfold ofH at h;split at h;split at h;cases h;rw[ofL,aQ]at h;rcases h with h|h;unfold JO at h;split at h;cases h;exact .inl (zU h);have d:=(bL.1 h).1;rw[yP,Wt,filTo_mem]at d;obtain⟨k,d,i,c⟩:=d;refine .inr (comL_mem.2 ⟨k,i,?_⟩);unfold jqy at c;cases e:g.ts[k]? with
 |none=>rw[e]at c;cases c
 |some t=>rw[e]at c;simp only[wrB,aj,bne_iff_ne,ne_eq]at c;exact com_f f e c.1
 cases h
def jn4:∀{C:List (Bool×List Int)}{M:List Int}{i:Nat}{c:Bool×List Int},jdf C M=true->C[i]? = some c->∃m,M[i]? = some m/\m∈c.2
 |[],_,_,_,_,hc=>by simp at hc
 |_::_,[],_,_,h,_=>by simp[jdf]at h
 |d::C,m::M,0,c,h,hc=>by simp only[jdf,aj]at h;simp at hc;subst hc;exact⟨m,rfl,zU h.1⟩
 |d::C,m::M,i+1,c,h,hc=>by simp only[jdf,aj]at h;simpa using jn4 h.2 (zU hc)
section
variable {g:Hist'}{M O:List Int}
def j3h (h:W7 g M=true) {i:Nat}{p:Int×Int}(hp:(yi g)[i]? = some p):∃m,M[i]? = some m/\m∈ofH g p.1 p.2:=by unfold W7 at h;simp only[aj]at h;exact jn4 (c:=(false,ofH g p.1 p.2)) h.2.2 (by simp[choR,hp])
def XV (h:W7 g M=true):M.length=(yi g).length:=by unfold W7 at h;simp only[aj,zh]at h;simpa[choR] using h.2.1
def Xv (h:W7 g M=true):jX g=true:=by unfold W7 at h;simp only[aj]at h;exact h.1
def jpk (h:W7 g M=true) {m:Int}(d:m∈M):m = -1\/m∈ym g:=by
 obtain⟨i,c,e⟩:=bq d;have a:i<(yi g).length:=by rw[<- XV h];exact c
 obtain⟨j,b,f⟩:=j3h h (aa a);rw[aa c]at b;cases b;rw[<- e];exact of_com (Xv h) f
def jf8 {p:Int×Int}:∀{n:Nat},p∈XG g n->∃(i k:Nat) (t:Txn'),p=((i:Int),(k:Int))/\g.ts[i]? = some t/\Jp t=true/\k<t.ops.length/\jcn g i k=true
 |0,h=>by simp[XG]at h
 |n+1,h=>by
  rw[XG,aQ]at h;rcases h with h|h;exact jf8 h;cases a:g.ts[n]? with
  |none=>rw[a]at h;cases h
  |some t=>rw[a]at h;simp only at h;split at h;rename_i e;obtain⟨k,c,b,d⟩:=readIn_mem.1 h;exact⟨n,k,t,b,a,e,c,d⟩;cases h
def jrj {p:Int×Int}(h:p∈yi g):p.1∈ym g:=by obtain⟨i,k,t,rfl,a,b,_⟩:=jf8 h;exact comL_mem.2 ⟨i,rfl,by simp[Jt,a,b]⟩
/-! Orders -/
def jxv (h:Qn g O=true):(ym g).length=O.length:=by unfold Qn at h;simp only[aj,zh]at h;exact h.2.1
def jrr (h:Qn g O=true) {i:Nat}(hi:i<O.length):O[i]∈ym g/\O[i] ∉ O.take i:=by unfold Qn at h;simp only[aj]at h;have:=andTo_iff.1 h.2.2 i hi;simpa[ay,aa hi] using this
def jrz:∀{L:List Int},(∀i (hi:i<L.length),L[i] ∉ L.take i)->L.Nodup
 |[],_=>ee
 |x::r,h=>by rw[dK];constructor;intro b;obtain⟨i,hi,e⟩:=bq b;have:=h (i+1) (zU hi);simp[e]at this;refine jrz λi hi a=>?_;have:=h (i+1) (zU hi);simp[a]at this
def jo3 (h:Qn g O=true):O.Nodup:=jrz λ_ a=>(jrr h a).2
def jxu (h:Qn g O=true) {x:Int}(b:x∈O):x∈ym g:=by obtain⟨i,a,e⟩:=bq b;exact e▸(jrr h a).1
def jp8 (g:Hist'):(ym g).Pairwise (· < ·):=(Qp (p:=Jp) (ts:=g.ts) g.ts.length zK).2
def jvn (g:Hist'):(ym g).Nodup:=(jp8 g).imp λh=>Int.ne_of_lt h
def jbp:∀{O C:List Int},O.Nodup->(∀x∈O,x∈C)->C.length=O.length->O.Perm C
 |[],C,_,_,h=>by have:C=[]:=cB.1 h;rw[this]
 |x::r,C,hn,hs,h=>by rw[dK]at hn;have d:=hs x zS;have c:=List.perm_cons_erase d;refine(List.Perm.cons x (jbp hn.2 (λy b=>?_) ?_)).trans c.symm;have a:y≠x:=λe=>hn.1 (e▸b);exact(List.mem_erase_of_ne a).2 (hs y (by simp[b]));have:=c.length_eq;simp at this h;omega
def jio (h:Qn g O=true):O.Perm (ym g):=jbp (jo3 h) (λ_=>jxu h) (jxv h)
def jxw (b:jX g=true):Qn g O=true ↔ O.Perm (ym g):=by
 refine⟨jio,λh=>?_⟩;have l:O.Nodup:=h.nodup_iff.2 (jvn g);unfold Qn;rw[b,bM,aj,andTo_iff];refine⟨by rw[h.length_eq];simp,λi a=>?_⟩;have k:O[i]∈ym g:=h.mem_iff.1 (au a);have f:O[i] ∉ O.take i:=λc=>by obtain⟨j,d,e⟩:=bq c;simp at d;rw[ew]at e;exact cZ.1 l j i zO a zO e
 simp[ay,aa a,k,f]
/-! Where each stands -/
/-! Sessions -/
/-! What reads see -/
/-! Levels -/
end
section
end
def jy3 (ops:List Op') (key:Int):(Ys ops key).2=ops.any (wkB key):=by have:=Qk key ops ops.length zK;rwa [bg]at this
section
end
end Go.Pv.T
namespace Go.Pv.T
open Go Go.Pv
end Go.Pv.T
namespace Go.Pv.T
open Go Go.Pv
def ev66 {a:Bool}(l:List Int) (r:l.length<=1000000000) (k:Int):Ev E 66 [yl a yf l,.int .i64 k] (.int .i64 (atO l k)):=by
 refine jS rfl ?_;unfold atO;conv in(occs:=*)F66=>all_goals cbv
 simp;refine j5 [(4,18)] l.length (λi s=>s.tm 5=.int .i64 i/\yH (l.drop i) k i=yH l k 0) rfl rfl ⟨zS,zS⟩ ?_;rintro i s u ⟨m,c⟩ f;have j:s.tm 0=yl a yf l:=by rw[f.t 0 zS];simp
 have o:s.tm 1=.int .i64 k:=by rw[f.t 1 zS];simp
 have n:s.df=[]:=by rw[f.d];simp
 clear f;by_cases b:i<l.length;have q:=jP b zO;have p:=jj l b;rw[aP b,yH]at c;cases h:(l[i]==k);have g:(k==l[i])=false:=by rw[zk]at h ⊢;exact λe=>h e.symm
 rw[g]at c;simp only[ag,zc]at c;simp[m,j,o,b,j4 j6,p,h,q];exact c;have g:(k==l[i])=true:=by rw[zh]at h ⊢;exact h.symm
 rw[g]at c;simp only[zd]at c;simp[m,j,o,b,j4 j6,p,h];exact j3 (by simp[n]) (by rw[<- c];simp) rfl;have:i=l.length:=zO;subst this;rw[dl,yH]at c;simp[m,j];exact j3 (by simp[n]) (by rw[<- c];simp) rfl
def ev68 {g:Hist'}(h:Small g) (i key:Int):Ev E 68 [.agg (yb g),.int .i64 i,.int .i64 key] (.tup [.agg (J7 (Ys (Jr g i).2 key).1),.bool (Ys (Jr g i).2 key).2]):=by
 have a:=ev48 h;refine jS rfl ?_;cases d:Yr g
 ·rw[Qr d]at a;have b:Jr g i=(true,[]):=by unfold Jr;rw[d];rfl
  rw[b];conv in(occs:=*)F68=>all_goals cbv
  simp[yb,ya];refine jH a zI rfl zI ?_;simp[ya,j2];exact JP zS (l:=[.agg (J7 ⟨0,0⟩),.bool false]) (by simp[ju,ya,J7]) rfl rfl
 ·rw[W6 d]at a;by_cases m:0<=i
  ·by_cases k:i<g.ts.length
   ·obtain⟨n,rfl⟩:∃n:Nat,i=n:=⟨i.toNat,zO⟩;have c:n<g.ts.length:=zO;have b:(Jr g (n:Int)).2=(g.ts[n]).ops:=by unfold Jr;simp[d,c,ay]
    rw[b,Ys];have j:=h.os _ (au c);have f:=ev107 g.ts[n] zO key;have e:(g.ts.flatMap jf)[n*3+2]? = some (yl (g.ts[n]).nl yS (g.ts[n]).ops):=by rw[jO j7 g.ts c (by decide:2<3)];rfl
    conv in(occs:=*)F68=>all_goals cbv
    simp[yb,ya];refine jH a zI rfl zI ?_;simp[ya,c,Nat.not_le.2 c,show ¬((n:Int)<0) by omega,j4 j7,jd j7,e];refine X4 f (by simp[jf]) rfl (by simp[jf]) ?_;rw[Jb (by simp[V.plain,J7])];generalize (JH key g.ts[n].ops g.ts[n].ops.length).1=rv at *;generalize (JH key g.ts[n].ops g.ts[n].ops.length).2=rb at *;simp[J7,ya,j2];exact JP zS (l:=[.agg [.int .i64 rv.kind,.int .i64 rv.n],.bool rb]) (by simp[ju,ya]) rfl rfl
   ·have b:Jr g i=(true,[]):=by unfold Jr;simp[k]
    rw[b];conv in(occs:=*)F68=>all_goals cbv
    simp[yb,ya];refine jH a zI rfl zI ?_;simp[ya,j2,show ¬i<0 by omega,show(g.ts.length:Int)<=i by omega];exact JP zS (l:=[.agg (J7 ⟨0,0⟩),.bool false]) (by simp[ju,ya,J7]) rfl rfl
  ·have b:Jr g i=(true,[]):=by unfold Jr;simp[m]
   rw[b];conv in(occs:=*)F68=>all_goals cbv
   simp[yb,ya];refine jH a zI rfl zI ?_;simp[ya,j2,show i<0 by omega];exact JP zS (l:=[.agg (J7 ⟨0,0⟩),.bool false]) (by simp[ju,ya,J7]) rfl rfl
def jk3 {g:Hist'}{a:Nat}(h:a<g.ts.length):Jt g a=((g.ts[a]).f==1):=by simp[Jt,Jp,h]
def jq7 {g:Hist'}{a:Nat}(h:a<g.ts.length):yE g a=(g.ts[a]).s:=by simp[yE,h]
def jxn (l:List (Int×Int)) {i:Nat}(h:i<l.length):(l.flatMap jC)[i*2]? = some (.int .i64 (l[i]).1)/\(l.flatMap jC)[i*2+1]? = some (.int .i64 (l[i]).2):=by have a:=jO jR l h (by decide:0<2);have b:=jO jR l h (by decide:1<2);rw[bl]at a;exact⟨a.trans rfl,b.trans rfl⟩
def ev163 {g:Hist'}(N:Small g) {nl:Bool}{M:List Int}(hM:M.length=(yi g).length) {a b:Nat}(o:a<g.ts.length) (q:b<g.ts.length) :
 Ev E 163 [.agg (yb g),yl false jC (yi g),yl nl yf M,.int .i64 (a:Int),.int .i64 (b:Int)] (.bool (je1 g M a b)):=by
 have S:=Xr N;have Z:=N.ts;refine jS rfl ?_;unfold je1;rw[jk3 o,jk3 q,jq7 o,jq7 q];generalize yi g=R at *;have F:(g.ts.flatMap jf)[a*3+1]? = some (.int .i64 (g.ts[a]).f):=by rw[jO j7 g.ts o (by decide:1<3)];rfl
 have O:(g.ts.flatMap jf)[b*3+1]? = some (.int .i64 (g.ts[b]).f):=by rw[jO j7 g.ts q (by decide:1<3)];rfl
 have sa:(g.ts.flatMap jf)[a*3]? = some (.int .i64 (g.ts[a]).s):=by have:=jO j7 g.ts o (by decide:0<3);rw[bl]at this;rw[this];rfl
 have sb:(g.ts.flatMap jf)[b*3]? = some (.int .i64 (g.ts[b]).s):=by have:=jO j7 g.ts q (by decide:0<3);rw[bl]at this;rw[this];rfl
 have y:∀{x:Int}{c:Bool},(x==1)=c->(x != 1) = !c:=λh=>by rw[<- h];rfl
 cases r:((g.ts[a]).f==1)
 ·conv in(occs:=*)F163=>all_goals cbv
  simp[yb,ya,o,j4 j7,F,y r];exact j3 zS zS rfl
 cases v:((g.ts[b]).f==1)
 ·conv in(occs:=*)F163=>all_goals cbv
  simp[yb,ya,o,q,j4 j7,F,O,y r,y v];exact j3 zS zS rfl
 obtain⟨c,I⟩:∃c,j92 R M a b=c:=⟨_,rfl⟩;rw[I];unfold j92 at I;conv in(occs:=*)F163=>all_goals cbv
 simp[yb,ya,o,q,j4 j7,F,O,y r,y v];generalize z:jv1 E YS _ _=KK;have p:∀n:St,n.tm 1=yl false jC R->n.tm 2=yl nl yf M->n.tm 3=.int .i64 (a:Int)->n.tm 4=.int .i64 (b:Int)->n.df=[]->n.tm 45=.bool (decide (a<b)&&(g.ts[a]).s==(g.ts[b]).s)->KK .nrm n:=by
  intro n X Q T U J w;rw[<- z];clear z;generalize (decide (a<b)&&(g.ts[a]).s==(g.ts[b]).s)=c0 at *;cases c0;simp only[bR];simp[w];refine j5 [(10,11),(46,66)] R.length (λi s=>s.tm 11=.int .i64 i/\((R.drop i).zip (M.drop i)).any (λx=>x.2==(a:Int)&&x.1.1==(b:Int))=c) rfl rfl ⟨zS,zU I⟩ ?_;rintro i s hi ⟨m,l⟩ f;have B:s.tm 1=yl false jC R:=by rw[f.t 1 zS];simp[X]
  have G:s.tm 2=yl nl yf M:=by rw[f.t 2 zS];simp[Q]
  have H:s.tm 3=.int .i64 (a:Int):=by rw[f.t 3 zS];simp[T]
  have P:s.tm 4=.int .i64 (b:Int):=by rw[f.t 4 zS];simp[U]
  have K:s.df=[]:=by rw[f.d];simp[J]
  clear f;by_cases j:i<R.length;have L:=jP j zO;have e:i<M.length:=zO;have r:=jj M e;have v:=(jxn R j).1;rw[aP j,aP e,gz,bp]at l;cases u:(M[i]==(a:Int));rw[u,bH,bR]at l;simp[m,B,G,H,j,e,j4 j6,r,u,L];exact l;cases D:((R[i]).1==(b:Int));rw[u,D,bM,bR]at l;simp[m,B,G,H,P,j,e,j4 j6,j4 jR,r,v,u,D,L];exact l;rw[u,D,bM,fo]at l;simp[m,B,G,H,P,j,e,j4 j6,j4 jR,r,v,u,D];exact j3 (by simp[K]) (by simp[<- l]) rfl;have:i=R.length:=zO;subst this;rw[dl]at l;simp[m,B];exact j3 (by simp[K]) (by simp[<- l]) rfl;simp[w];exact j3 (by simp[J]) zS rfl
 by_cases k:a<b;simp[k,ya,o,q,j4 j7,sa,sb];exact p _ zS zS zS zS zS (by simp[k]);simp[k];exact p _ zS zS zS zS zS (by simp[k])
def js4 (l:List Bool) {i:Nat}(h:i<l.length):(l.map V.bool)[i]? = some (.bool l[i]):=by simp[h]
def jtv (bs:List Bool) (k:Nat) (b:Bool) (h:k<bs.length):j2 (bs.map V.bool) k [.bool b]=(bs.set k b).map V.bool:=by unfold j2;rw[dG,cN,zb (zU h)];simp
def jy8 {Yf:YF}{f:FuncId}{xs:List A}{st:St}{ub:Nat}{K:St->Nat->Prop}{d:Option Nat}{nm:Bool}{vs:List V}{P:V->Prop}(b:xs.map (ye E st.tm)=vs) (a:E.sh nm f=false) (hp:(vs.all λv=>v.strip.pureTop)=false)
 (c:∃v,EvO E f vs st.ob st.tk ((st.fb+d.getD 0+1)*1024) ub v/\P v) (h:∀v,P v->wpD (Xp ub v) (QN K st d ub)):j8 E Yf ⟨d,.call f xs,none,nm⟩ st ub K:=by
 obtain⟨v,e,g⟩:=c;exact jN b a hp e (h v g)
section
variable (g:Hist') (M:List Int) (t:Nat)
def jg2 (bs:List Bool) (a b:Nat):Bool:=!bs.getD a false&&((b==t||bs.getD b false)&&je1 g M a b)
def FarS (bs:List Bool):Prop:=bs.length=g.ts.length/\∀a,bs.getD a false=true->farB g M t a=true
def FarR (bs0:List Bool) (i j:Nat) (bs:List Bool) (more:Bool):Prop:=FarS g M t bs/\(more=false->bs=bs0/\∀a b,(a<i\/a=i/\b<j)->b<g.ts.length->jg2 g M t bs0 a b=false) /\
 (more=true->bs.count false+1<=bs0.count false)
end
section
variable {g:Hist'}{M:List Int}{t:Nat}
def FarS.fire {bs:List Bool}(h:FarS g M t bs) (j:t<g.ts.length) {a b:Nat}(i:b<g.ts.length) (c:jg2 g M t bs a b=true):FarS g M t (bs.set a true):=by refine⟨by simp[h.1],λx f=>?_⟩;unfold jg2 at c;simp only[aj,bG,zh]at c;by_cases d:x=a;subst d;rcases c.2.1 with rfl|h2;exact joj c.2.2 _;exact jb7 i (h.2 b h2) (joj c.2.2 _);refine h.2 x ?_;rw[ay,cU (λe=>d e.symm)]at f;simpa[ay] using f
def jvl {bs:List Bool}{a:Nat}(b:a<bs.length) (c:bs.getD a false=false):(bs.set a true).count false+1=bs.count false:=by
 have e:bs[a]=false:=by simpa[ay,b] using c
 have d:0<bs.count false:=eJ.2 (e▸au b);rw[fw b,e];simp;omega
def FarR.next {e bs:List Bool}{i j:Nat}{m:Bool}(h:FarR g M t e i j bs m) (r:t<g.ts.length) (hi:i<g.ts.length) (s:j<g.ts.length) :
 FarR g M t e i (j+1) (if jg2 g M t bs i j then bs.set i true else bs) (m||jg2 g M t bs i j):=by
 obtain⟨l,n,o⟩:=h;cases d:jg2 g M t bs i j;simp only[bm,ag,zc];refine⟨l,λk=>?_,o⟩;obtain⟨rfl,q⟩:=n k;refine⟨rfl,λa b c p=>?_⟩;rcases c with c|⟨rfl,c⟩;exact q a b (.inl c) p;rcases bi.1 c with h|h;exact q a b (.inr ⟨rfl,h⟩) p;subst h;exact d;simp only[iz,zd];have f:bs.getD i false=false:=by unfold jg2 at d;simp only[aj,ci]at d;exact d.1
 have u:=jvl (by rw[l.1];exact hi) f;refine⟨l.fire r s d,λk=>(by cases k),λ_=>?_⟩;cases m;rw[(n rfl).1]at u ⊢;omega;have:=o rfl;omega
def FarR.row {d bs:List Bool}{i:Nat}{m:Bool}(h:FarR g M t d i g.ts.length bs m):FarR g M t d (i+1) 0 bs m:=by refine⟨h.1,λe=>⟨(h.2.1 e).1,λa b c f=>(h.2.1 e).2 a b ?_ f⟩,h.2.2⟩;rcases c with c|⟨_,c⟩;rcases bi.1 c with h1|h1;exact .inl h1;exact .inr ⟨h1,f⟩;omega
def j96 {bs:List Bool}(j:FarS g M t bs) (o:t<g.ts.length) (h:∀a b,a<g.ts.length->b<g.ts.length->jg2 g M t bs a b=false):bs=(List.range g.ts.length).map (farB g M t):=by
 apply eE;simp[j.1];intro a k n;have m:a<g.ts.length:=by rw[<- j.1];exact k
 rw[List.getElem_map,List.getElem_range];have l:bs.getD a false=bs[a]:=by simp[ay,k]
 cases f:farB g M t a;cases e:bs[a];rfl;rw[j.2 a (by rw[l,e])]at f;cases f;have:=jqp (r:=je1 g M) (p:=λa=>bs.getD a false=true/\a<g.ts.length) (q:=λb=>b=t\/bs.getD b false=true/\b<g.ts.length) (λa b e d=>by
  have c:=XF (jlr d).1;have i:=XF (jlr d).2;have:=h a b c i;unfold jg2 at this;rw[d,ep]at this;rcases e with rfl|⟨e,_⟩;simp at this;exact⟨by simpa[ay] using this,c⟩;rw[e]at this;simp at this;exact⟨by simpa[ay] using this,c⟩) (λb e=>.inr e) g.ts.length (b:=t) (.inl rfl) f
 rw[l]at this;exact this.1
end
def bl_flat (bs:List Bool):bs.map V.bool=bs.flatMap blC:=by induction bs<;>simp_all [blC]
def bl_end {st:St}{q l u n:Nat}{bs:List Bool}{P:V->Prop}(o:∀r,SlR r false n (bs.flatMap blC)->P r) (k:st.df=[]) (w:st.tm q=.osl l u 0 n 1) (d:st.ob l=some ⟨u,.cells (bs.flatMap blC)⟩) (m:bs.length=n) (_:0<n) (y:st.ro=0):WO [.t q] P .ret st:=by
 have e:(bs.flatMap blC).length=n:=by rw[j1 jqd,bz,m]
 have a:ya st.ob l u=some (bs.flatMap blC):=by simp[ya,d]
 have j:(bs.flatMap blC).mapM (JX st 5)=some (bs.flatMap blC):=by
  clear a d e m o;induction bs with
  |nil=>rfl
  |cons b bs x=>rw[bk];show(V.bool b::bs.flatMap blC).mapM (JX st 5)=_;rw[bQ,x];rfl
 have s:JX st 6 (.osl l u 0 n 1)=some (.sl none false n (bs.flatMap blC)):=by show((ya st.ob l u).bind λcs=>if Nat.ble st.ro u=true/\0+n*1<=cs.length then (((cs.drop 0).take (n*1)).mapM (JX st 5)).map λf=>V.sl none false n f else none)=_;rw[a,ah,zb ⟨bS▸zO,zO⟩,du,bz,aH zO,j];rfl
 have d:∃t:Option (Nat×Nat),js st true 0 (.osl l u 0 n 1)=some (.sl t false n (bs.flatMap blC))/\∀p∈t.toList,p.1<64:=by simp only[js,s,ah,a,aU];refine⟨_,rfl,λp c=>?_⟩;split at c;simp at c;subst c;decide;simp at c
 obtain⟨t,i,h⟩:=d;have g:[ARes.t q].mapM (ju st)=some [.osl l u 0 n 1]:=by simp[ju,w]
 refine⟨.sl t false n (bs.flatMap blC),?_,o _ ⟨t,rfl,h⟩⟩;simp only[jb4,Yj k,Ye k,zd,g,ah,W4];have v:yJ ([V.osl l u 0 n 1].flatMap V.toks)=true:=rfl;rw[v];simp only[Jc,XE,i,ah,aU];cases t<;>rfl
def ev108 {g:Hist'}(hs:Small g) {nl:Bool}{M:List Int}(hM:M.length=(yi g).length) {t:Nat}(ht:t<g.ts.length) :
 ∃v,Ev E 108 [.agg (yb g),yl false jC (yi g),yl nl yf M,.int .i64 (t:Int)] v/\SlR v false g.ts.length (((List.range g.ts.length).map (farB g M t)).flatMap blC):=by
 have d5:=hs.ts;have d1:0<g.ts.length:=zO;refine JW rfl zQ ?_;conv in(occs:=*)F108=>all_goals cbv
 simp[yb,ya];refine jsd (n:=g.ts.length) zS zS zO zO zO rfl zQ ?_;simp[jai];refine jQ λO q=>?_;have g1:O.tm 1=yl false jC (yi g):=by rw[q];simp
 have g2:O.tm 2=yl nl yf M:=by rw[q];simp
 have g3:O.tm 3=.int .i64 (t:Int):=by rw[q];simp
 have g4:O.tm 4=.ptr 8 0 0:=by rw[q];simp
 have g9:O.tm 9=.osl 32 320 0 g.ts.length 1:=by rw[q];simp
 have d2:O.tm 10=.bool true:=by rw[q];simp
 have p8:O.ob 8=some ⟨0,.cells (yb g)⟩:=by rw[q];simp[yb]
 have d0:O.ob 32=some ⟨320,.cells ((List.replicate g.ts.length false).map V.bool)⟩:=by rw[q];simp
 have gd:O.df=[]:=by rw[q];simp
 have gr:O.ro=0:=by rw[q];simp
 have gb:O.fb=0:=by rw[q];simp
 clear q;obtain⟨J,hJ⟩:∃J:Nat->St->Prop,J=λk s=>∃bs m,FarS g M t bs/\(m=false->∀a b,a<g.ts.length->b<g.ts.length->jg2 g M t bs a b=false)/\bs.count false+(if m then 1 else 0)<=k /\
  s.tm 1=yl false jC (yi g)/\s.tm 2=yl nl yf M/\s.tm 3=.int .i64 (t:Int)/\s.tm 4=.ptr 8 0 0/\s.tm 9=.osl 32 320 0 g.ts.length 1/\s.tm 10=.bool m/\s.ob 8=some ⟨0,.cells (yb g)⟩/\s.ob 32=some ⟨320,.cells (bs.map V.bool)⟩/\s.df=[]/\s.ro=0/\s.fb=0:=⟨_,rfl⟩
 refine Yo (n:=g.ts.length+1) J (by
  rw[hJ];exact⟨List.replicate g.ts.length false,true,⟨zS,λa h=>by simp[ay,iq]at h;split at h<;>cases h⟩,(λh=>by cases h),zS,g1,g2,g3,g4,g9,d2,p8,d0,gd,gr,gb⟩) ?_
 intro k s c6;rw[hJ]at c6;obtain⟨P,m,hF,d3,hk,s1,s2,s3,s4,s9,c2,o8,b5,sd,sr,sb⟩:=c6;cases m;simp[c2];have c7:=j96 hF ht (d3 rfl);rw[c7,bl_flat]at b5;refine bl_end (l:=32) (u:=320) (n:=g.ts.length) (bs:=(List.range g.ts.length).map (farB g M t)) (λr h=>h) (by simp[sd]) (by simp[s9]) (zU b5) zS d1 (by simp[sr]);simp only[zd]at hk;simp[c2];obtain⟨I,hI⟩:∃I:Nat->St->Prop,I=λi s=>s.tm 11=.int .i64 i/\∃bs m,FarR g M t P i 0 bs m/\s.tm 10=.bool m/\s.ob 8=some ⟨0,.cells (yb g)⟩/\s.ob 32=some ⟨320,.cells (bs.map V.bool)⟩:=⟨_,rfl⟩;refine j5 [(10,12),(18,58)] g.ts.length I rfl rfl (by
  rw[hI];exact⟨zS,P,false,⟨hF,λ_=>⟨rfl,λa b h _=>by omega⟩,λh=>by cases h⟩,zS,zU o8,zU b5⟩) ?_
 intro i w hi c0 f;rw[hI]at c0;obtain⟨a0,c1,m1,hR,c5,v8,b9⟩:=c0;have f1:w.tm 1=yl false jC (yi g):=by rw[f.t 1 zS];simp[s1]
 have f2:w.tm 2=yl nl yf M:=by rw[f.t 2 zS];simp[s2]
 have f3:w.tm 3=.int .i64 (t:Int):=by rw[f.t 3 zS];simp[s3]
 have f4:w.tm 4=.ptr 8 0 0:=by rw[f.t 4 zS];simp[s4]
 have f9:w.tm 9=.osl 32 320 0 g.ts.length 1:=by rw[f.t 9 zS];simp[s9]
 have fd:w.df=[]:=by rw[f.d];simp[sd]
 have fr:w.ro=0:=by rw[f.r];simp[sr]
 have fb:w.fb=0:=by rw[f.b];simp[sb]
 clear f;by_cases L:i<g.ts.length;simp[a0,f4,v8,ya,yb,L];obtain⟨I2,b0⟩:∃I2:Nat->St->Prop,I2=λj s=>s.tm 12=.int .i64 j/\∃bs m,FarR g M t P i j bs m/\s.tm 10=.bool m/\s.ob 8=some ⟨0,.cells (yb g)⟩/\s.ob 32=some ⟨320,.cells (bs.map V.bool)⟩:=⟨_,rfl⟩;refine j5 [(10,10),(12,12),(25,58)] g.ts.length I2 rfl rfl (by
  rw[b0];exact⟨zS,c1,m1,hR,zU c5,zU v8,zU b9⟩) ?_
 intro j x hj c3 f;rw[b0]at c3;obtain⟨z,bs,m,b8,S,H,o⟩:=c3;have x1:x.tm 1=yl false jC (yi g):=by rw[f.t 1 zS];simp[f1]
 have x2:x.tm 2=yl nl yf M:=by rw[f.t 2 zS];simp[f2]
 have x3:x.tm 3=.int .i64 (t:Int):=by rw[f.t 3 zS];simp[f3]
 have x4:x.tm 4=.ptr 8 0 0:=by rw[f.t 4 zS];simp[f4]
 have x9:x.tm 9=.osl 32 320 0 g.ts.length 1:=by rw[f.t 9 zS];simp[f9]
 have D:x.tm 11=.int .i64 (i:Int):=by rw[f.t 11 zS];simp[a0]
 have xd:x.df=[]:=by rw[f.d];simp[fd]
 have xr:x.ro=0:=by rw[f.r];simp[fr]
 have xb:x.fb=0:=by rw[f.b];simp[fb]
 clear f;by_cases e:j<g.ts.length;have hw:=jP e zO;have B:=b8.next ht L e;have d4:bs.length=g.ts.length:=b8.1.1;have G:=j4k (l:=32) (u:=320) (n:=g.ts.length) (kk:=.i64) (X:=(i:Int)) rfl L;have b6:=j4k (l:=32) (u:=320) (n:=g.ts.length) (kk:=.i64) (X:=(j:Int)) rfl e;have K:=js4 bs (i:=i) zO;have b7:=js4 bs (i:=j) zO;have c9:bs.getD i false=bs[i]:=by simp[ay,show i<bs.length by omega]
 have c8:bs.getD j false=bs[j]:=by simp[ay,show j<bs.length by omega]
 have F:=ev163 hs (nl:=nl) hM L e;have N:((j:Int)==(t:Int))=(j==t):=by rw[bA];simp;omega
 unfold jg2 at B;rw[c9,c8]at B;have c4:=jtv bs i true zO;have p:∀(x':St) (T:List Bool) (m':Bool),FarR g M t P i (j+1) T m'->x'.tm 12=.int .i64 ((j+1:Nat):Int)->x'.tm 10=.bool m'->x'.ob 8=some ⟨0,.cells (yb g)⟩->x'.ob 32=some ⟨320,.cells (T.map V.bool)⟩->I2 (j+1) x':=λx' T m' a1 a2 a3 a4 a5=>by rw[b0];exact⟨a2,T,m',a1,a3,a4,a5⟩
 cases Z:bs[i];have Q:∀c:Bool,je1 g M i j=c->((j==t)||bs[j])=true->FarR g M t P i (j+1) (if c then bs.set i true else bs) (m||c):=λc hc hq=>by rw[Z,hc,hq]at B;simpa using B
 cases U:(j==t);cases cj:bs[j];rw[Z,U,cj]at B;simp at B;simp[z,x4,x3,x9,D,H,o,ya,yb,e,G,b6,K,b7,Z,cj,N,U,hw];exact p _ bs m B zS (by simp[S]) (by simp[H,yb]) (by simp[o]);rw[U,cj]at Q;cases cs:je1 g M i j;have y:=Q false cs rfl;rw[cs]at F;simp at y;simp[z,x4,x3,x9,D,x1,x2,H,o,ya,yb,e,G,b6,K,b7,Z,cj,N,U];refine jH F zI rfl zI ?_;simp[hw,z,e];exact p _ bs m y zS (by simp[S]) (by simp[H,yb]) (by simp[o]);have y:=Q true cs rfl;rw[cs]at F;simp at y;simp[z,x4,x3,x9,D,x1,x2,H,o,ya,yb,e,G,b6,K,b7,Z,cj,N,U];refine jH F zI rfl zI ?_;simp[hw,z,e,x9,D,G,o,ya,c4,xr];exact⟨zO,p _ (bs.set i true) true y zS zS (by simp[H,yb]) (by simp[dG])⟩;cases cs:je1 g M i j;have y:=Q false cs (by rw[U];rfl);rw[cs]at F;simp at y;simp[z,x4,x3,x9,D,x1,x2,H,o,ya,yb,e,G,K,Z,N,U];refine jH F zI rfl zI ?_;simp[hw,z,e];exact p _ bs m y zS (by simp[S]) (by simp[H,yb]) (by simp[o]);have y:=Q true cs (by rw[U];rfl);rw[cs]at F;simp at y;simp[z,x4,x3,x9,D,x1,x2,H,o,ya,yb,e,G,K,Z,N,U];refine jH F zI rfl zI ?_;simp[hw,z,e,x9,D,G,o,ya,c4,xr];exact⟨zO,p _ (bs.set i true) true y zS zS (by simp[H,yb]) (by simp[dG])⟩;rw[Z]at B;simp at B;simp[z,x4,x9,D,H,o,ya,yb,e,G,K,Z,hw];exact p _ bs m B zS (by simp[S]) (by simp[H,yb]) (by simp[o]);have:j=g.ts.length:=zO;subst this;have hw:=jP L zO;simp[z,x4,H,ya,yb,D,hw,L];rw[hI];exact⟨zS,bs,m,b8.row,zU S,by simpa[yb] using H,zU o⟩;have:i=g.ts.length:=zO;subst this;simp[a0,f4,v8,ya,yb];refine⟨k-1,zO,?_⟩;rw[hJ];refine⟨c1,m1,hR.1,λhm a b ha hb=>?_,?_,zU f1,zU f2,zU f3,zU f4,zU f9,zU c5,by simpa[yb] using v8,zU b9,by simp[fd],by simp[fr],by simp[fb]⟩;rw[(hR.2.1 hm).1];exact(hR.2.1 hm).2 a b (.inl ha) hb;cases m1;rw[(hR.2.1 rfl).1];simp;omega;have:=hR.2.2 rfl;simp;omega
def ev67 {g:Hist'}(hs:Small g) {nl on:Bool}{M O:List Int}(hM:M.length=(yi g).length) (hO:O.length<=1000000) (lvl:Int) {q:Nat}(hq:q<(yi g).length) {t:Nat}(ht:t<g.ts.length) (j:((yi g)[q]).1=t) :
 ∃v,Ev E 67 [.int .i64 lvl,.agg (yb g),yl nl yf M,yl on yf O,.int .i64 (q:Int)] v/\SlR v false (jdq g lvl M O (yi g)[q]).length ((jdq g lvl M O (yi g)[q]).flatMap yf):=by
 have f5:=hs.ts;have f2:=Xr hs;obtain⟨vr,d3,d9⟩:=ev64 hs;obtain⟨vp,d7,b7⟩:=ev108 hs (nl:=nl) hM ht;refine JW rfl zQ ?_;obtain⟨p,hp⟩:∃p,(yi g)[q]=p:=⟨_,rfl⟩;have b9:=jxn (yi g) hq;have f4:=jd jR (λ_=>none) (yi g) hq;rw[hp]at j b9 ⊢;obtain⟨F,hF⟩:∃F,(λi=>jdp g lvl M O p i)=F:=⟨_,rfl⟩;have m:∀i,jdp g lvl M O p i=F i:=λi=>congrFun hF i;have hL:jdq g lvl M O p=YC F g.ts.length:=by unfold jdq;rw[<- hF]
 rw[hL];have e8:lvl=1->∀i:Nat,F i=rcB (yi g) M p i:=λh i=>by rw[<- m];simp[jdp,h]
 have e7:lvl=2->∀i,F i=farB g M t i:=λh i=>by rw[<- m];simp[jdp,h,j]
 have c9:lvl=3->∀i:Nat,F i=(Jt g i&&decide (atO O i<atO O t)):=λh i=>by rw[<- m];simp[jdp,h,j]
 have e0:lvl≠1->lvl≠2->lvl≠3->∀i,F i=false:=λh1 h2 h3 i=>by rw[<- m];simp[jdp,h1,h2,h3]
 clear m hF;obtain⟨B,hB⟩:∃B,(List.range g.ts.length).map (farB g M t)=B:=⟨_,rfl⟩;rw[hB]at b7;have d6:B.length=g.ts.length:=by rw[<- hB];simp
 have e6:∀i (h:i<B.length),B[i]=farB g M t i:=λi h=>by simp[<- hB]
 clear hL;generalize yi g=R at *;conv in(occs:=*)F67=>all_goals cbv
 simp[yb,ya];refine jH d3 zI rfl zI ?_;refine Jv d9 λtr f1=>?_;simp;refine jF (cs:=[]) rfl rfl rfl ?_;have b6:=λob=>Yq R ob hq;simp only[hp]at b6;simp[ya,hq,JC jR,b6,j2];simp only[j]at b6 b9;simp[j];refine jH d7 zH rfl zI ?_;rw[<- d6]at b7;refine Jv b7 λtp f0=>?_;simp;refine jQ λH e=>?_;have g0:H.tm 0=.int .i64 lvl:=by rw[e];simp
 have g2:H.tm 2=yl nl yf M:=by rw[e];simp
 have g3:H.tm 3=yl on yf O:=by rw[e];simp
 have g6:H.tm 6=.ptr 12 0 0:=by rw[e];simp
 have d0:H.tm 11=.sl tr false R.length (R.flatMap jC):=by rw[e];simp
 have e4:H.tm 13=.ptr 26 704 0:=by rw[e];simp
 have d5:H.tm 14=.sl tp false B.length (B.flatMap blC):=by rw[e];simp
 have d1:H.tm 15=.int .i64 0:=by rw[e];simp
 have d8:H.ob 12=some ⟨0,.cells (yb g)⟩:=by rw[e];simp[yb]
 have d2:H.ob 26=some ⟨704,.cells [.int .i64 (t:Int),.int .i64 p.2]⟩:=by rw[e];simp
 have gG:GrowT H.tk H.nx yf 1 (YC F 0) (H.tm 12):=by rw[e];exact⟨_,by simp[YC];rfl,by simp[jb],zS⟩
 have gd:H.df=[]:=by rw[e];simp
 have gr:H.ro=0:=by rw[e];simp
 have gb:H.fb=0:=by rw[e];simp
 clear e;obtain⟨I,hI⟩:∃I:Nat->St->Prop,I=λi s=>s.tm 15=.int .i64 i/\s.ob 12=some ⟨0,.cells (yb g)⟩/\s.ob 26=some ⟨704,.cells [.int .i64 (t:Int),.int .i64 p.2]⟩/\GrowT s.tk s.nx yf 1 (YC F i) (s.tm 12):=⟨_,rfl⟩;refine j5 [(12,12),(15,17),(31,105)] g.ts.length I rfl rfl (by
  rw[hI];exact⟨zU d1,d8,d2,gG⟩) ?_
 intro i s hi c4 f;rw[hI]at c4;obtain⟨w,L,b5,hG⟩:=c4;have s0:s.tm 0=.int .i64 lvl:=by rw[f.t 0 zS];simp[g0]
 have s2:s.tm 2=yl nl yf M:=by rw[f.t 2 zS];simp[g2]
 have s3:s.tm 3=yl on yf O:=by rw[f.t 3 zS];simp[g3]
 have s6:s.tm 6=.ptr 12 0 0:=by rw[f.t 6 zS];simp[g6]
 have d4:s.tm 11=.sl tr false R.length (R.flatMap jC):=by rw[f.t 11 zS];simp[d0]
 have c8:s.tm 13=.ptr 26 704 0:=by rw[f.t 13 zS];simp[e4]
 have e5:s.tm 14=.sl tp false B.length (B.flatMap blC):=by rw[f.t 14 zS];simp[d5]
 have sd:s.df=[]:=by rw[f.d];simp[gd]
 have sr:s.ro=0:=by rw[f.r];simp[gr]
 have sb:s.fb=0:=by rw[f.b];simp[gb]
 clear f;by_cases D:i<g.ts.length;have hw:=jP D zO;have f3:=jg3 F i;simp[w,s6,L,ya,yb,D,s0];generalize c6:jv1 E YS _ _=KK;have z:∀x:St,x.tm 16=.bool (F i)->x.tm 15=.int .i64 i->x.ob=s.ob->x.tk=s.tk->s.nx<=x.nx->x.tm 12=s.tm 12->KK .nrm x:=by
  intro x o J S xk xn b0;rw[<- c6];clear c6;have n:YC F (i+1)=YC F i++(if F i then [(i:Int)] else []):=rfl;cases hf:F i;rw[hf]at o n;simp only[ag,zc,aL]at n;simp[o,J,hw,D];rw[hI];refine⟨zS,by simp[S,L],by simp[S,b5],?_⟩;rw[n];simpa[b0,xk] using hG.mono (nx':=x.nx+64+64+64+64) (λ_ _ h=>h) zO;rw[hf]at o n;simp only[zd]at n;simp[o,J];refine jF (cs:=yf i) (by simp[j2,yf]) rfl rfl ?_;simp[yf];refine Y9 (hi:=s.nx) (f:=yf) (l:=YC F i) (a:=(i:Int)) (v:=s.tm 12) (hG.mono (λu _ h=>by simp[jb,xk,h]) zK) (by simp[b0]) (by simp[yp,yf]) j6 zQ (by simp[yf,V.pureLeaf]) zO zO (λf6 e9=>?_);rw[<- n];have c0:(YC F i).length+1=(YC F (i+1)).length:=by rw[n];simp
  rw[c0];obtain⟨Q,hQ⟩:∃Q,YC F (i+1)=Q:=⟨_,rfl⟩;rw[hQ];simp[J,hw,D];rw[hI];refine⟨zS,by simp[S,L],by simp[S,b5],?_⟩;rw[hQ];exact⟨_,by simp;rfl,by simp[jb],zS⟩
 by_cases e1:lvl=1;simp[e1];have hc:=e8 e1 i;unfold rcB at hc;refine j5 [(16,17),(41,75)] R.length (λk x=>x.tm 17=.int .i64 k/\(∃X,x.tm 16=.bool X/\(X||((R.drop k).zip (M.drop k)).any λy=>y.1.1==p.1&&(decide (y.1.2<p.2)&&y.2==(i:Int)))=F i)/\x.ob=s.ob/\x.tk=s.tk/\s.nx<=x.nx) rfl rfl ⟨zS,⟨false,zS,zU hc.symm⟩,zS,zS,by simp;omega⟩ ?_;rintro k x hk ⟨K,⟨X,o,c⟩,S,xk,xn⟩ f;have J:x.tm 15=.int .i64 i:=by rw[f.t 15 zS];simp[w]
 have x2:x.tm 2=yl nl yf M:=by rw[f.t 2 zS];simp[s2]
 have N:x.tm 11=.sl tr false R.length (R.flatMap jC):=by rw[f.t 11 zS];simp[d4]
 have Z:x.tm 13=.ptr 26 704 0:=by rw[f.t 13 zS];simp[c8]
 have b0:x.tm 12=s.tm 12:=by rw[f.t 12 zS];simp
 clear f;have U:x.ob 26=some ⟨704,.cells [.int .i64 (t:Int),.int .i64 p.2]⟩:=by rw[S];exact b5
 by_cases G:k<R.length;have T:=jP G zO;have a0:k<M.length:=zO;have h1:=jj M a0;have h2:=jxn R G;rw[aP G,aP a0,gz,bp,<- Bool.or_assoc]at c;rw[j]at c;cases X;cases P:((R[k]).1==(t:Int));rw[P]at c;simp[K,o,N,Z,U,ya,G,JC jR,h2,P,T];exact⟨by simpa[j] using c,S,xk,zO⟩;by_cases c2:(R[k]).2<p.2;cases c3:(M[k]==(i:Int));rw[P,c3,zi c2]at c;simp[K,o,N,Z,U,x2,J,ya,G,a0,JC jR,j4 j6,h1,h2,P,c2,c3,T];exact⟨by simpa[j] using c,S,xk,zO⟩;rw[P,c3,zi c2]at c;simp[K,o,N,Z,U,x2,J,ya,G,a0,JC jR,j4 j6,h1,h2,P,c2,c3,T];exact⟨by simpa[j] using c,S,xk,zO⟩;rw[P,decide_eq_false c2]at c;simp[K,o,N,Z,U,ya,G,JC jR,h2,P,c2,T];exact⟨by simpa[j] using c,S,xk,zO⟩;simp[K,o,N,G,T];exact⟨by simpa[j] using c,S,xk,zO⟩;have:k=R.length:=zO;subst this;rw[dl]at c;simp at c;simp[K,N];exact z _ (by simp[o,c]) (by simp[J]) (by simp[S]) (by simp[xk]) zP (by simp[b0]);have b1:(lvl==1)=false:=by simpa using e1
 by_cases e2:lvl=2;have c5:=bl_at B (i:=i) zO;rw[e6 i zO,<- e7 e2 i]at c5;have b8:=JC jqd tp false B .i64 (i:=i) zO;rw[bz]at b8;simp[e2,e5,w,b8,c5];exact z _ zS (by simp[w]) zS zS zP zS;have b2:(lvl==2)=false:=by simpa using e2
 by_cases e3:lvl=3;have c7:(g.ts.flatMap jf)[i*3+1]? = some (.int .i64 (g.ts[i]).f):=by rw[jO j7 g.ts D (by decide:1<3)];rfl
 have m:=c9 e3 i;rw[jk3 D]at m;have ea:=ev66 (a:=on) O zO (i:Int);have eb:=ev66 (a:=on) O zO (t:Int);cases P:((g.ts[i]).f==1);rw[P,bH]at m;simp[e3,s6,L,ya,yb,w,D,j4 j7,c7,P];exact z _ (by simp[m]) (by simp[w]) zS zS zP zS;rw[P,bM]at m;simp[e3,s6,L,ya,yb,w,D,j4 j7,c7,P,s3];refine X4 ea zS rfl zS ?_;simp[c8,b5,ya,s3];refine X4 eb zS rfl zS ?_;simp;exact z _ (by simp[m]) (by simp[w]) zS zS zP zS;have b3:(lvl==3)=false:=by simpa using e3
 simp[b1,b2,b3];exact z _ (by simp[e0 e1 e2 e3]) (by simp[w]) zS zS zP zS;have:i=g.ts.length:=zO;subst this;obtain⟨u,hu,_,_⟩:=hG;simp[w,s6,L,ya,yb];exact slE (t:=some (u,1)) (nl:=false) (k:=(YC F g.ts.length).length) (cs:=(YC F g.ts.length).flatMap yf) (λr h=>h) (by simp[sd]) (by simp[hu])
def Xd (g:Hist'):(ym g).length<=g.ts.length:=Jj Jp g.ts g.ts.length
def jf6 {g:Hist'}(b:Yr g=true) {q:Nat}(c:q<(yi g).length):∃(i k:Nat) (hi:i<g.ts.length) (a:k<(g.ts[i]).ops.length),(yi g)[q]=((i:Int),(k:Int))/\Wu g (yi g)[q]=((g.ts[i]).ops[k]).key/\Jt g i=true:=by
 obtain⟨i,k,t,e,d,f,a,_⟩:=jf8 (au c);obtain⟨hi,rfl⟩:=ak.1 d;refine⟨i,k,hi,a,e,?_,by simpa[Jt,hi] using f⟩;rw[e];have:opAt g (i:Int) (k:Int)=some (g.ts[i]).ops[k]:=by unfold opAt;simp[b,hi,a,ay]
 unfold Wu;simp only[this]
def Yx {g:Hist'}(h:jX g=true):Yr g=true:=by unfold jX at h;simp only[aj]at h;exact h.1
def Off (ub key:Nat):Prop:=∀m,ub<=m->¬key=2*m+1
def Off.up {ub a key:Nat}(h:Off ub key) (c:ub<=a):Off a key:=λm b=>h m (bI c b)
def Off.new {ub m:Nat}(h:m<ub):Off ub (2*m+1):=λk a e=>by omega
def Was (ub:Nat) (ob ob':ZO):Prop:=∀key,Off ub key->ob' key=ob key
def Was.trans {ub d:Nat}{ob c b:ZO}(h:Was ub ob c) (f:Was d c b) (g:ub<=d):Was ub ob b:=λa e=>(f a (e.up g)).trans (h a e)
def Was.refl (ub:Nat) (ob:ZO):Was ub ob ob:=λ_ _=>rfl
def jv2 {l u n x sz:Nat}{kk:IntKind}(a:x<n):jt sz (.osl l u 0 n sz) (.int kk (x:Int))=some (.ptr l u (x*sz)):=by simp[jt,a]
def JF {a b:Nat}(h:¬a=b):Nat.beq a b=false:=by cases e:Nat.beq a b;rfl;exact zf (bt e) h
end Go.Pv.T
namespace Go.Pv.T
open Go Go.Pv
end Go.Pv.T
namespace Go.Pv.T
open Go Go.Pv
def yj {a b:Nat}:(2*a=2*b)=(a=b):=zj ⟨λh=>by omega,λh=>by rw[h]⟩
def j2o {l u o:Nat}:(V.ptr l u o).leaf=true:=rfl
def rdC (r:Int×Int×Int):List V:=[.int .i64 r.1,.int .i64 r.2.1,.int .i64 r.2.2]
def jox (r:Int×Int×Int):(rdC r).length=3:=rfl
structure WN where
 kW:Nat
 uW:Nat
 kR:Nat
 uR:Nat
 kA:Nat
 uA:Nat
 kL:Nat
 uL:Nat
 kS:Nat
 uS:Nat
 kP:Nat
 uP:Nat
section
variable {g:Hist'}{lvl:Int}{M:List Int}{N:WN}{A L S:List (Int × Int)}{P:Int->List Int}{ob ob':ZO}{ub ub':Nat}
def Off.ne {key:Nat}(h:Off ub key):∀m,ub<=m->¬key=2*m+1:=h
end
end Go.Pv.T
namespace Go.Pv.T
abbrev R3:Type:=Option (List Nat)×Bool×List Nat
def loopM (rec:Nat->List Nat->List Nat->R3) (nx:Nat->Nat->Bool) (w:Nat) (done:List Nat):List Nat->List Nat->R3
 |[],vis=>(none,false,vis)
 |t::r,vis=>if w.testBit t||(!nx w t||vis.contains (w|||1<<<t)) then loopM rec nx w done r vis else
  match rec (w|||1<<<t) (done++[t]) vis with
  |(none,false,v)=>loopM rec nx w done r v
  |x=>x
def onM (nx:Nat->Nat->Bool) (C:List Nat) (most:Int):Nat->Nat->List Nat->List Nat->R3
 |0,w,done,vis=>if (vis.length:Int)=most then (none,true,vis) else (some done,false,vis++[w])
 |n+1,w,done,vis=>if (vis.length:Int)=most then (none,true,vis) else loopM (onM nx C most n) nx w done C (vis++[w])
def jhg (w t a:Nat):(w|||1<<<t).testBit a=(w.testBit a||decide (t=a)):=by rw[Nat.testBit_or,Nat.one_shiftLeft,Nat.testBit_two_pow]
def cnt (C:List Nat) (w:Nat):Nat:=(C.filter λt=>w.testBit t).length
def js1 {w t:Nat}:∀{C:List Nat},C.Nodup->t∈C->w.testBit t=false->cnt C (w|||1<<<t)=cnt C w+1
 |[],_,h,_=>by cases h
 |c::C,hn,h,hw=>by
  rw[List.nodup_cons]at hn;unfold cnt;rw[List.filter_cons,List.filter_cons];by_cases e:t=c;subst e;have:(C.filter λa=>(w|||1<<<t).testBit a)=C.filter λa=>w.testBit a:=by refine List.filter_congr λa f=>?_;have:t≠a:=λe=>hn.1 (e▸f);rw[jhg];simp[this]
  rw[this,jhg];simp[hw];have d:t∈C:=by rcases List.mem_cons.1 h with h|h;exact absurd h e;exact h
  have b:=js1 hn.2 d hw;unfold cnt at b;rw[jhg];simp only[e,decide_false,Bool.or_false];split;simp only[List.length_cons,b];exact b
def jub (nx:Nat->Nat->Bool):Nat->List Nat->Bool
 |_,[]=>true
 |w,t::r=>!w.testBit t&&(nx w t&&jub nx (w|||1<<<t) r)
def Full (nx:Nat->Nat->Bool) (C:List Nat) (w:Nat) (L:List Nat):Prop:=(∀t∈L,t∈C)/\cnt C w+L.length=C.length/\jub nx w L=true
def j6y (nx:Nat->Nat->Bool) (C:List Nat) (w:Nat):Prop:=∀L,¬Full nx C w L
def j8x:List Nat->List Nat->Bool
 |a::l,b::m=>if a=b then j8x l m else decide (a<b)
 |_,_=>false
section
variable {nx:Nat->Nat->Bool}{C:List Nat}{most:Int}
def Full.cons {w t:Nat}{L:List Nat}(g:C.Nodup) (h:Full nx C w (t::L)):t∈C/\w.testBit t=false/\nx w t=true/\Full nx C (w|||1<<<t) L:=by obtain⟨c,f,b⟩:=h;simp only[jub,Bool.and_eq_true,Bool.not_eq_true']at b;have d:=c t (List.mem_cons_self ..);refine⟨d,b.1,b.2.1,λa e=>c a (List.mem_cons_of_mem _ e),?_,b.2.2⟩;rw[js1 g d b.1];simp only[List.length_cons]at f;omega
structure Found (nx:Nat->Nat->Bool) (C:List Nat) (w:Nat) (done vis:List Nat) (r:R3):Prop where
 sub:∀v∈vis,v∈r.2.2
 no:r.1=none->r.2.1=false->j6y nx C w/\∀v∈r.2.2,v∈vis\/j6y nx C v
 yes:∀l,r.1=some l->r.2.1=false/\∃L,l=done++L/\Full nx C w L/\∀L',Full nx C w L'->j8x L' L=false
def jd0 {n:Nat}(m:C.Nodup) (s:C.Pairwise (· < ·)) {w:Nat}{done:List Nat}(P:cnt C w+(n+1)=C.length) {i:List Nat}
 (G:∀w done vis,cnt C w+n=C.length->(∀v∈vis,j6y nx C v\/cnt C v<cnt C w)->Found nx C w done vis (onM nx C most n w done vis)) :
 ∀(r f vis:List Nat),C=f++r->(∀v∈i,v∈vis)->(∀v∈vis,j6y nx C v\/cnt C v<=cnt C w)->(∀v∈vis,v∈i\/v=w\/j6y nx C v)->(∀t∈f,w.testBit t=false->nx w t=true->j6y nx C (w|||1<<<t)) ->
  Found nx C w done i (loopM (onM nx C most n) nx w done r vis)
 |[],f,vis,e,h0,h1,h2,h3=>by
  have J:j6y nx C w:=λL O=>by
   cases L with
   |nil=>have:=O.2.1;simp at this;omega
   |cons t L=>obtain⟨a,b,c,d⟩:=O.cons m;rw[e,List.append_nil]at a;exact h3 t a b c L d
  refine⟨h0,λ_ _=>⟨J,λv z=>?_⟩,λl h=>by cases h⟩;rcases h2 v z with h|h|h;exact .inl h;exact .inr (h▸J);exact .inr h
 |t::r,f,vis,e,h0,h1,h2,h3=>by
  have B:t∈C:=by rw[e];simp
  have N:C=(f++[t])++r:=by rw[e];simp
  rw[loopM];split;rename_i q;refine jd0 m s P G r (f++[t]) vis N h0 h1 h2 λa p j g=>?_;rcases List.mem_append.1 p with h|h
  exact h3 a h j g;have:=List.mem_singleton.1 h;subst this;simp only[j,g,Bool.not_true,Bool.false_or,List.contains_eq_mem,decide_eq_true_eq]at q;rcases h1 _ q with h|h;exact h;rw[js1 m B j]at h;omega
  ·rename_i q;simp only[Bool.or_eq_true,Bool.not_eq_true',not_or,Bool.not_eq_true,Bool.not_eq_false,List.contains_eq_mem,decide_eq_false_iff_not]at q;obtain⟨j,g,z⟩:=q;have K:=js1 m B j;have k:=G (w|||1<<<t) (done++[t]) vis (by omega) λv z=>(h1 v z).imp id λh=>by omega
   rcases X:onM nx C most n (w|||1<<<t) (done++[t]) vis with⟨o,T,v⟩;rw[X]at k;cases o with
   |some l=>
    simp only;obtain⟨D,L,y,H,Z⟩:=k.yes l rfl;refine⟨λx g=>k.sub x (h0 x g),λh=>(by cases h),λl' h=>?_⟩;cases h;refine⟨D,t::L,by rw[y];simp,⟨λa p=>?_,?_,?_⟩,λu F=>?_⟩;rcases List.mem_cons.1 p with h|h;exact h▸B;exact H.1 a h;have:=H.2.1;simp only[List.length_cons];omega;simp[jub,j,g,H.2.2];cases u with
    |nil=>rfl
    |cons a u=>
     obtain⟨M,q2,U,Q⟩:=F.cons m;rw[j8x];split;rename_i I;subst I;exact Z u Q;rename_i I;rw[decide_eq_false_iff_not];intro S;have:a∈f:=by rw[e]at M;rcases List.mem_append.1 M with h|h;exact h;rcases List.mem_cons.1 h with h|h;exact absurd h I;rw[e]at s;have:=List.rel_of_pairwise_cons (List.pairwise_append.1 s).2.1 h;omega
     exact h3 a this q2 U u Q
   |none=>
    cases T with
    |true=>exact⟨λx g=>k.sub x (h0 x g),λ_ h=>(by cases h),λl h=>(by cases h)⟩
    |false=>
     simp only;obtain⟨D,y⟩:=k.no rfl rfl;refine jd0 m s P G r (f++[t]) v N (λx g=>k.sub x (h0 x g)) (λx g=>?_) (λx g=>?_) λa p j g=>?_;rcases y x g with h|h
     exact h1 x h;exact .inl h;rcases y x g with h|h;exact h2 x h;exact .inr (.inr h);rcases List.mem_append.1 p with h|h;exact h3 a h j g;have:=List.mem_singleton.1 h;subst this;exact D
def jrv (b:C.Nodup) (a:C.Pairwise (· < ·)):∀(n w:Nat) (done vis:List Nat),cnt C w+n=C.length->(∀v∈vis,j6y nx C v\/cnt C v<cnt C w)->Found nx C w done vis (onM nx C most n w done vis)
 |0,w,done,vis,hw,hv=>by rw[onM];split;exact⟨λ_ h=>h,λ_ h=>(by cases h),λl h=>(by cases h)⟩;refine⟨λv h=>List.mem_append.2 (.inl h),λh=>(by cases h),λl h=>?_⟩;cases h;refine⟨rfl,[],by simp,⟨λ_ h=>(by cases h),zU hw,rfl⟩,λd c=>?_⟩;cases d<;>rfl
 |n+1,w,done,vis,hw,hv=>by
  rw[onM];split;exact⟨λ_ h=>h,λ_ h=>(by cases h),λl h=>(by cases h)⟩;refine jd0 b a hw (jrv b a n) C [] (vis++[w]) rfl (λv h=>List.mem_append.2 (.inl h)) (λv h=>?_) (λv h=>?_) λt h=>by cases h
  rcases List.mem_append.1 h with h|h;exact(hv v h).imp id Nat.le_of_lt;rw[List.mem_singleton.1 h];exact .inr (Nat.le_refl _);rcases List.mem_append.1 h with h|h;exact .inl h;exact .inr (.inl (List.mem_singleton.1 h))
def jy1:∀{O C:List Nat},O.Nodup->(∀x∈O,x∈C)->O.length<=C.length
 |[],_,_,_=>Nat.zero_le _
 |x::r,C,hn,hs=>by rw[List.nodup_cons]at hn;have a:=hs x (List.mem_cons_self ..);have:=jy1 (O:=r) (C:=C.erase x) hn.2 λy b=>(List.mem_erase_of_ne λ(e:y=x)=>hn.1 (e▸b)).2 (hs y (List.mem_cons_of_mem _ b));rw[List.length_erase_of_mem a]at this;have c:0<C.length:=List.length_pos_of_mem a;simp only[List.length_cons];omega
end
end Go.Pv.T
