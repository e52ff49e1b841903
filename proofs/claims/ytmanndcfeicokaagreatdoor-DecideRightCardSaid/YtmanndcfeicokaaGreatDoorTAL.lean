/- Part. -/
import Derived.Test.YtmanndcfeicokaaGreatDoorTAK
set_option maxRecDepth 100000
set_option maxHeartbeats 8000000
set_option linter.all false
namespace Go.Pv.T
open Go Go.Pv
end Go.Pv.T
namespace Go.Pv.T
open Go Go.Pv
@[simp] theorem valC_leafs (v:Val'):(J4 v).all V.leaf=true:=rfl
def jih {st:St}{L u n sz:Nat}{cs c:List V}(f:st.ob L=some ⟨u,.cells cs⟩) (e:st.ro<=u) (p:n*sz<=cs.length) (g:cs.take (n*sz)=c) (hp:c.all V.pureLeaf=true):jde st (.osl L u 0 n sz) false n c:=by
 have b:j0 st.ob L u=some cs:=by simp[j0,f]
 have m:∀(k:Nat) (l:List V),l.all V.pureLeaf=true->l.mapM (Ja st (k+1))=some l:=by
  intro k l;induction l with
  |nil=>intro _;rfl
  |cons a l o=>
   intro h;simp only[bH,ab]at h;rw[bP,o h.2];have:Ja st (k+1) a=some a:=by
    have:=YT (st:=st) (keep:=false) (i:=0) h.1;cases a with
    |sl t q n cs=>cases t with
     |none=>rfl
     |some t=>cases h.1
    |osl=>cases h.1
    |_=>simp only[Ja,h.1,zd]
   rw[this];rfl
 have j:Ja st 6 (.osl L u 0 n sz)=some (.sl none false n c):=by show((j0 st.ob L u).bind λcs=>if Nat.ble st.ro u=true/\0+n*sz<=cs.length then (((cs.drop 0).take (n*sz)).mapM (Ja st 5)).map λd=>V.sl none false n d else none)=_;rw[b,ap,zb ⟨bY▸e,zO⟩,dy,g,m 4 c hp];rfl
 intro keep i;refine⟨_,by simp only[jw,j,ap,b,aU];rfl,?_⟩;split;exact .inr ⟨_,rfl⟩;exact .inl rfl
end Go.Pv.T
namespace Go.Pv.T
open Go Go.Pv
end Go.Pv.T
namespace Go.Pv.T
open Go Go.Pv
end Go.Pv.T
namespace Go.Pv.T
open Go Go.Pv
end Go.Pv.T
namespace Go.Pv.T
open Go Go.Pv
end Go.Pv.T
namespace Go.Pv.T
open Go Go.Pv
end Go.Pv.T
namespace Go.Pv.T
open Go Go.Pv
section
end
def jyt {c:Type}(k0:Int) (b:c) (m:List (Int×c)) (k:Int) (a:c):Wi ((k0,b)::m) k a=if k=k0 then (k,a)::m else (k0,b)::Wi m k a:=by unfold Wi;rw[jx];by_cases h:k=k0;simp[h];rw[za h,za h];cases jx m k<;>simp
def W1 {f:Type}(k:Int) (a:f) (c:Int):∀m:List (Int×f),(jx (Wi m k a) c).map (·.2)=if c=k then some a else (jx m c).map (·.2)
 |[]=>by by_cases h:c=k<;>simp[Wi,jx,h]
 |(k0,b)::m=>by rw[jyt];have g:=W1 k a c m;by_cases h:k=k0;subst h;rw[zb rfl,jx,jx];by_cases d:c=k<;>simp[d];rw[za h,jx,jx];by_cases d:c=k0;subst d;simp[show ¬c=k from λe=>h e.symm];rw[za d,za d];simp only[im];have e:((λx:Nat×f=>x.2) ∘ λp:Nat×f=>(p.1+1,p.2))=λx=>x.2:=rfl;rw[e];exact g
def ji7 {a:Type}{k:a->a}{y:a}:∀{l:List a}{i:Nat},y∈l.modify i k->y∈l\/∃x,l[i]? = some x/\y=k x
 |[],i,h=>by simp at h
 |x::l,0,h=>by rw[fP]at h;simp only[zd,bt]at h;rcases h with rfl|h;exact .inr ⟨x,rfl,rfl⟩;exact .inl (aS _ h)
 |x::l,i+1,h=>by rw[fP]at h;simp only[Nat.add_one_ne_zero,zc,fq,bt]at h;rcases h with rfl|h;exact .inl (aK ..);rcases ji7 h with h|⟨z,c,b⟩;exact .inl (aS _ h);exact .inr ⟨z,zU c,b⟩
section
variable {g:Hist'}{cs:List Bool}{lo:List Val'}
def readIn_mem {i:Nat}{p:Int×Int}:∀{n:Nat},p∈J9 g i n ↔ ∃k:Nat,k<n/\p=((i:Int),(k:Int))/\jck g i k=true
 |0=>by simp[J9]
 |n+1=>by simp only[J9,aQ,readIn_mem (n:=n)];constructor;rintro(⟨k,c,b⟩|h);exact⟨k,zO,b⟩;split at h;rename_i a;exact⟨n,zO,zU h,a⟩;simp at h;rintro⟨k,c,b,a⟩;rcases bg.1 c with h|h;exact .inl ⟨k,h,b,a⟩;subst h;right;simp[a,b]
end
section
end
abbrev Cs':=List (Bool×List Int)
def hd1 (c:Bool×List Int):Int:=c.2.headD 0
def Xf:Cs'->List Int->Option (List Int)
 |c::cs,m::ms=>match Xf cs ms with
  |some r=>some (m::r)
  |none=>if yG c.2 m 0+1<c.2.length then some (c.2.getD (yG c.2 m 0+1).toNat 0::cs.map hd1) else none
 |_,_=>none
def ji3:∀(C:Cs') (M:List Int) (i:Nat) (r:List Int),i<=C.length->C.length=M.length->Xf (C.drop i) (M.drop i)=some r->Xf C M=some (M.take i++r)
 |C,M,0,r,_,_,h=>by simpa using h
 |c::cs,m::ms,i+1,r,h1,h2,h=>by have:=ji3 cs ms i r (zU h1) (zU h2) (zU h);simp[Xf,this]
 |[],_,_+1,_,h,_,_=>by simp at h
 |_::_,[],_+1,_,_,h,_=>by simp at h
def jo (C:Cs'):Bool:=C.all λc=>!c.2.isEmpty
def QX (g:Hist'):Int×List Int:=if jX g then (if jo (yv g) then (0,(yv g).map hd1) else (3,[])) else (4,[])
def jv6 (n:Int):Int:=if 1000000<n then 1000000 else n
def Xq:Cs'->Int->Int
 |[],n=>n
 |c::cs,n=>Xq cs (jv6 (n*c.2.length))
def yF:Cs'->List (List Int)
 |[]=>[[]]
 |c::cs=>c.2.flatMap λx=>(yF cs).map (x::·)
def stepA (c:Bool×List Int) (out:List (List Int)):List (List Int):=out.flatMap λo=>c.2.map λx=>o++[x]
def allF:Cs'->Nat->List (List Int)->List (List Int)
 |[],_,out=>out
 |c::cs,most,out=>allF cs most ((stepA c out).take most)
def jta:∀(C:Cs') (n:Nat),allF C n []=[]
 |[],_=>rfl
 |c::cs,n=>by simp[allF,stepA,jta cs n]
def jga:∀C:Cs',(yF C).length=(C.map λc=>c.2.length).foldr (· * ·) 1
 |[]=>rfl
 |c::cs=>by
  have:=jga cs;simp only[yF,bc,List.foldr_cons,<- this];generalize yF cs=L;induction c.2 with
  |nil=>simp
  |cons x l a=>simp only[aZ,aw,bm,a,bh,cJ];omega
def Wc (c:Bool×List Int) (cs:Cs'):(yF (c::cs)).length=c.2.length*(yF cs).length:=by rw[jga,jga];rfl
def jf9:∀{C:Cs'},jo C=true->0<(yF C).length
 |[],_=>by simp[yF]
 |c::cs,h=>by
  simp only[jo,bH,ab]at h;rw[Wc];have a:0<c.2.length:=by
   have:=h.1;cases b:c.2 with
   |nil=>rw[b]at this;simp at this
   |cons=>simp
  exact Nat.mul_pos a (jf9 h.2)
def jwy (c:Bool×List Int) (out:List (List Int)):(stepA c out).length=out.length*c.2.length:=by
 unfold stepA;induction out with
 |nil=>simp
 |cons o out a=>simp only[aZ,aw,bm,a,bh,cJ];omega
def job:∀(C:Cs') (n:Nat) (out:List (List Int)),jo C=true->out.length*(yF C).length<=n->allF C n out=out.flatMap λo=>(yF C).map (o++·)
 |[],n,out,_,hx=>by
  clear hx;simp only[allF,yF,bc,co,aP];induction out with
  |nil=>rfl
  |cons o out f=>rw[aZ,<- f];rfl
 |c::cs,n,out,h,hn=>by
  have g:=jf9 h;have b:=h;simp only[jo,bH,ab]at b;have a:=jf9 (C:=cs) b.2;rw[Wc]at hn;have e:=jwy c out;have d:(stepA c out).length<=n:=by rw[e];refine bL ?_ hn;rw[<- Nat.mul_assoc];exact fL _ a
  rw[allF,aJ d,job cs n _ b.2 (by rw[e,Nat.mul_assoc];exact hn)];simp only[stepA,yF,List.flatMap_assoc,List.map_flatMap,ie,dl];congr 1;funext o;congr 1;funext x;refine dm λr _=>?_;simp
def j1b {C:Cs'}{n:Nat}(h:jo C=true) (a:(yF C).length<=n):allF C n [[]]=yF C:=by rw[job C n [[]] h (zU a)];simp
def jxw {c:Bool×List Int}(h:(!c.2.isEmpty)=true):1<=c.2.length:=by
 cases a:c.2 with
 |nil=>rw[a]at h;simp at h
 |cons=>simp
def jnv:∀{C:Cs'}{n:Int},jo C=true->0<=n->n<=1000000->n<=Xq C n/\Xq C n<=1000000
 |[],n,_,_,h=>⟨dr _,h⟩
 |c::cs,n,h,h0,h1=>by
  simp only[jo,bH,ab]at h;have d:=jxw h.1;have b:n<=n*c.2.length:=by have:n*1<=n*(c.2.length:Int):=ik zO h0;omega
  have a:n<=jv6 (n*c.2.length)/\jv6 (n*c.2.length)<=1000000:=by unfold jv6;split<;>omega
  have:=jnv (C:=cs) h.2 (by omega:0<=jv6 (n*c.2.length)) a.2;simp only[Xq];omega
def jha:∀{C:Cs'}{n:Int},jo C=true->1<=n->n<=1000000->Xq C n<=300->Xq C n=n*(yF C).length
 |[],n,_,_,_,_=>by simp[Xq,yF]
 |c::cs,n,h,h0,h1,h3=>by
  have a:=h;simp only[jo,bH,ab]at a;have e:=jxw a.1;have d:n<=n*c.2.length:=by have:n*1<=n*(c.2.length:Int):=ik zO zO;omega
  by_cases b:1000000<n*c.2.length;exfalso;simp only[Xq,jv6,b,zd]at h3;have:=(jnv (C:=cs) a.2 (n:=1000000) zO zO).1;omega;simp only[Xq,jv6,b,zc]at h3 ⊢;rw[jha a.2 zO zO h3,Wc];push_cast;rw[Int.mul_assoc]
def steps (f:List Int->Option (List Int)):List (List Int)->Prop
 |[]=>True
 |[x]=>f x=none
 |x::y::r=>f x=some y/\steps f (y::r)
def jq3 {f:List Int->Option (List Int)}:∀{L:List (List Int)}{i:Nat},steps f L->(h:i<L.length)->f L[i]=L[i+1]?
 |[x],0,h,_=>h
 |x::y::r,0,h,_=>h.1
 |x::y::r,i+1,h,hi=>by have:=jq3 (L:=y::r) (i:=i) h.2 (zU hi);simpa using this
 |[x],i+1,_,hi=>by simp at hi
 |[],_,_,hi=>by simp at hi
def jsp (k:Int) (b:List Int):∀(a:List Int) (n:Nat),k ∉ a->yG (a++k::b) k n=(n+a.length:Nat)
 |[],n,_=>by simp[yG]
 |x::a,n,h=>by have c:¬k=x:=λe=>h (by simp[e]);have:=jsp k b a (n+1) (λe=>h (aS _ e));simp only[de,yG,zh,c,zc,this,bh];congr 1;omega
def jdo:∀{C:Cs'},jo C=true->∃r,yF C=C.map hd1::r
 |[],_=>⟨[],rfl⟩
 |c::cs,h=>by
  simp only[jo,bH,ab]at h;obtain⟨r,b⟩:=jdo (C:=cs) h.2;cases a:c.2 with
  |nil=>rw[a]at h;simp at h
  |cons x l=>simp only[yF,a,b,aZ,bc,de,hd1,List.headD_cons];exact⟨_,rfl⟩
def jic:∀{C:Cs'},jo C=true->(∀c∈C,c.2.Nodup)->steps (Xf C) (yF C)
 |[],_,_=>rfl
 |c::cs,h,hd=>by
  have n:=h
  simp only[jo,bH,ab]at n
  have v:=jic (C:=cs) n.2 (λx B=>hd x (aS _ B))
  obtain⟨L,u⟩:∃L,yF cs=L:=⟨_,rfl⟩
  obtain⟨G,k⟩:=jdo (C:=cs) n.2
  rw[u]at v k
  -- what is behind one member of the first list
  have j:∀(S:List (List Int)),S≠[]->steps (Xf cs) S->∀(x:Int) (b a:List Int) (R:List (List Int)),c.2=b++x::a->steps (Xf (c::cs)) R->(a=[]->R=[])->(∀y p,a=y::p->∃w,R=(y::cs.map hd1)::w) ->
   steps (Xf (c::cs)) (S.map (x::·)++R):=by
   intro S
   induction S with
   |nil=>intro h;exact zf rfl h
   |cons s S i=>
    intro _ q x b a R f z t r
    have o:x ∉ b:=by
     have:=hd c (aK ..)
     rw[f,cU]at this
     exact λD=>this.2.2 x D x (aK ..) rfl
    have l:yG c.2 x 0=(b.length:Nat):=by rw[f,jsp x a b 0 o];simp
    cases S with
    |nil=>
     have m:Xf cs s=none:=q
     have d:c.2.length=b.length+1+a.length:=by rw[f];simp;omega
     cases a with
     |nil=>
      rw[t rfl]
      show Xf (c::cs) (x::s)=none
      simp only[Xf,m,l]
      rw[za (by simp at d;omega)]
     |cons y p=>
      obtain⟨w,rfl⟩:=r y p rfl
      refine⟨?_,z⟩
      simp only[Xf,m,l]
      rw[zb (by simp at d;omega)]
      have:(((b.length:Nat):Int)+1).toNat=b.length+1:=zO
      rw[this,f]
      simp
    |cons F S=>
     refine⟨?_,i zS q.2 x b a R f z t r⟩
     simp only[Xf,q.1]
  have g:∀(a b:List Int),c.2=b++a->steps (Xf (c::cs)) (a.flatMap λx=>L.map (x::·)):=by
   intro a
   induction a with
   |nil=>intro b _;exact trivial
   |cons x a i=>
    intro b f
    rw[aZ]
    refine j L (by rw[k];simp) v x b a _ f (i (b++[x]) (by rw[f];simp)) (λe=>by rw[e];rfl) (λy p e=>?_)
    rw[e,aZ,k]
    exact⟨_,rfl⟩
  have:=g c.2 [] rfl
  rw[yF,u]
  exact this
def jrn:∀{C:Cs'}{M:List Int},M∈yF C->C.length=M.length/\(idxJ C M).all (λx=>decide (0<=x))=true
 |[],M,h=>by simp only[yF,ag]at h;subst h;exact⟨rfl,rfl⟩
 |c::cs,M,h=>by
  simp only[yF,ci,aE]at h;obtain⟨x,f,m,a,rfl⟩:=h;obtain⟨d,b⟩:=jrn a;refine⟨by simp[d],?_⟩;simp only[idxJ,bH,b,eA,ze];have:=je8 x c.2 0;have e:c.2.contains x=true:=by simpa using f
  rw[e]at this;simpa using this
def jyo (g:Hist') (a b:Int):(ofH g a b).Nodup:=by unfold ofH;split;split;simp;rename_i o _ _;have h:=jh6 g o.key;unfold ofL JK;have d:((yN g o.key).filter λi=>!(i==a)&&Qb o (Xw g o.key i)).Pairwise (· < ·):=h.1.filter _;have c:((yN g o.key).filter λi=>!(i==a)&&Qb o (Xw g o.key i)).Nodup:=d.imp (λh e=>by omega);split;simpa using c;refine cU.2 ⟨zS,c,?_⟩;intro x j y f e;have:=h.2 y (bu.1 f).1;simp at j;omega;simp
def min6 (n:Int):jbx false [.int .i64 n,.int .i64 1000000]=some (.int .i64 (jv6 n)):=by by_cases h:(1000000:Int)<n<;>simp[jbx,QK,jgn,jv6,h]
def cap6_lt {n:Int}(h:0<=n):0<=jv6 n/\jv6 n<=1000000:=by unfold jv6;split<;>omega
def mul_lt {n:Int}{k:Nat}(b:0<=n) (a:n<=1000000) (c:k<=41):0<=n*(k:Int)/\n*(k:Int)<=41000000:=by have e:=Int.mul_nonneg b (show(0:Int)<=k by omega);have d:n*(k:Int)<=1000000*41:=Int.mul_le_mul a zO zO zO;omega
def j0w {g:Hist'}(a:jX g=true):∀x∈choR g,x.2.length<=41:=by
 intro x b;unfold choR at b;obtain⟨p,_,rfl⟩:=aE.1 b;have c:Yr g=true:=by unfold jX at a;simp only[ab]at a;exact a.1
 exact jpi c _ _
def js5 {g:Hist'}(a:Small g):(choR g).length<=1000000:=by unfold choR;rw[bm];exact XZ a
def jjr:∀{C D:Cs'}(n:Int),C.map (·.2)=D.map (·.2)->Xq C n=Xq D n
 |[],[],_,_=>rfl
 |c::C,d::D,n,h=>by simp only[bc,eD]at h;simp only[Xq,h.1];exact jjr _ h.2
 |[],_::_,_,h=>by simp at h
 |_::_,[],_,h=>by simp at h
def jc1 (C:Cs') (i:Nat):List Int:=(C.take i).map hd1
def jte (r:Int×List Int) (v:V):Prop:=jvy [.sl none r.2.isEmpty r.2.length (r.2.flatMap yf),.int .i64 r.1] v
def ev16 (h:Hist') (r:h.ts.length<=1000):Ev E 16 [.agg (ya h)] (.sl (some (0,1)) false (yt X4 h.ts h.ts.length).length ((yt X4 h.ts h.ts.length).flatMap yf)):=by
 refine jQ rfl ?_;conv in(occs:=*)F16=>all_goals cbv
 simp[ya];refine jN (cs:=[]) rfl rfl rfl ?_;simp;refine Yk (n:=h.ts.length) (λk s=>∃i u,k=h.ts.length-i/\i<=h.ts.length/\s.df=[]/\s.fb=0/\s.ro=0/\s.tm 1=.ptr 2 0 0/\s.ob 2=some ⟨0,.cells (ya h)⟩/\s.tm 4=.int .i64 i/\s.tk u=true /\
  s.tm 3=.sl (some (u,1)) false (yt X4 h.ts i).length ((yt X4 h.ts i).flatMap yf))
  ⟨0,128,by simp[yt,ya]⟩ ?_
 rintro k s ⟨i,u,rfl,q,j,b,c,e,g,d,l,m⟩;by_cases a:i<h.ts.length;simp[e,g,d,j0,ya,a,j7 jA,jZ jA,jl];have p:=Jh X4 h.ts i;cases o:h.ts[i].f==1;simp[d];refine⟨h.ts.length-(i+1),zO,i+1,⟨rfl,zO,j,b,c,e,by simpa[ya] using g,by rw[jk zO zO];simp,u,l,?_⟩⟩;rw[m,Jk a,X4,o];simp;simp[m,d];refine jN (cs:=[.int .i64 i]) (by simp[j6]) rfl rfl ?_;simp;refine XQ (u:=u) (nl:=false) (n:=(yt X4 h.ts i).length) (cs:=(yt X4 h.ts i).flatMap yf) (ys:=[.int .i64 i]) zS (by simp[jf,l]) (by simp[jF]) zS (by rw[j4 j8]) zQ rfl zP zP ?_;simp[d,j,b,c,e,g,ya];refine⟨h.ts.length-(i+1),zO,i+1,rfl,zO,by rw[jk zO zO];simp,Or.inl ?_⟩;rw[Jk a,X4,o];simp[yf];have:i=h.ts.length:=zO;subst this;simp[e,g,d,j0,ya];exact jaf (u:=u) (zU j) (by simp[m]) (zU l)
def Qc (f:Nat->Bool):Nat->Bool
 |0=>true
 |k+1=>Qc f k&&f k
def andTo_iff {f:Nat->Bool}:∀{n:Nat},Qc f n=true ↔ ∀k,k<n->f k=true
 |0=>by simp[Qc]
 |n+1=>by rw[Qc,ab,andTo_iff];constructor;rintro⟨h,b⟩ k a;rcases cD k n with h1|h1;exact h k h1;have:k=n:=zO;exact this▸b;exact λh=>⟨λk a=>h k zO,h n zO⟩
def XL {f:Nat->Bool}{k n:Nat}(a:k<n) (h:f k=false):Qc f n=false:=by
 cases e:Qc f n with
 |false=>rfl
 |true=>rw[andTo_iff.1 e k a]at h;cases h
def Ye (f:Nat->Bool):Nat->List Int
 |0=>[]
 |k+1=>Ye f k++(if f k then [(k:Int)] else [])
def jg7 (f:Nat->Bool):∀n,(Ye f n).length<=n
 |0=>dx _
 |n+1=>by have:=jg7 f n;simp only[Ye,aw];split<;>simp<;>omega
def filTo_mem {f:Nat->Bool}{x:Int}:∀{n:Nat},x∈Ye f n ↔ ∃k:Nat,k<n/\x=k/\f k=true
 |0=>by simp[Ye]
 |n+1=>by rw[Ye,aQ,filTo_mem];constructor;rintro(⟨k,d,a,b⟩|h);exact⟨k,zO,a,b⟩;cases c:f n;simp[c]at h;simp[c]at h;exact⟨n,zO,h,c⟩;rintro⟨k,d,a,b⟩;rcases cD k n with h|h;exact .inl ⟨k,h,a,b⟩;have:k=n:=zO;subst this;exact .inr (by simp[b,a])
def jg8 {f a:Nat->Bool}:∀{n:Nat},(∀k,k<n->f k=a k)->Ye f n=Ye a n
 |0,_=>rfl
 |n+1,h=>by rw[Ye,Ye,jg8 λk b=>h k zO,h n zO]
def J8 (g:Hist') (a:Nat):Bool:=match g.ts[a]? with|some t=>X4 t|none=>false
def yD (g:Hist') (a:Nat):Int:=match g.ts[a]? with|some t=>t.s|none=>0
def jq0 (p:Txn'->Bool) (ts:List Txn') (a:Nat):Bool:=match ts[a]? with|some t=>p t|none=>false
def jap (p:Txn'->Bool) (ts:List Txn'):∀n,yt p ts n=Ye (jq0 p ts) n
 |0=>rfl
 |n+1=>by rw[yt,Ye,jap p ts n];congr 1;unfold jq0;cases ts[n]?<;>rfl
def JZ {g:Hist'}{a:Nat}(h:J8 g a=true):a<g.ts.length:=by
 unfold J8 at h;cases b:g.ts[a]? with
 |none=>rw[b]at h;cases h
 |some t=>exact(aj.1 b).1
def ym (g:Hist'):List Int:=yt X4 g.ts g.ts.length
def comL_mem {g:Hist'}{x:Int}:x∈ym g ↔ ∃k:Nat,x=k/\J8 g k=true:=by rw[ym,jap,filTo_mem];exact⟨λ⟨k,_,b,a⟩=>⟨k,b,a⟩,λ⟨k,b,a⟩=>⟨k,JZ a,b,a⟩⟩
def jhe {g:Hist'}(h:jX g=true):comH g=ym g:=by rw[comH,zb h];rfl
def j4t (R:List (Int×Int)) (M:List Int) (a b:Nat):Bool:=(R.zip M).any λx=>x.2==(a:Int)&&x.1.1==(b:Int)
def ja5 (g:Hist') (M:List Int) (a b:Nat):Bool:=J8 g a&&J8 g b&&((decide (a<b)&&yD g a==yD g b)||j4t (yi g) M a b)
def war (r:Nat->Nat->Bool):Nat->Nat->Nat->Bool
 |0,b,a=>r a b
 |k+1,b,a=>war r k b a||(war r k b k&&war r k k a)
def jb6 {r:Nat->Nat->Bool}:∀{K k:Nat},k<K->∀{b a:Nat},war r K b k=true->war r K k a=true->war r K b a=true
 |K+1,k,hk,b,a,c,d=>by simp only[war,bq,ab]at c d ⊢;rcases cD k K with hlt|hge;rcases c with c|⟨c,f⟩<;>rcases d with d|⟨d,e⟩;exact .inl (jb6 hlt c d);exact .inr ⟨jb6 hlt c d,e⟩;exact .inr ⟨c,jb6 hlt f d⟩;exact .inr ⟨c,e⟩;have:k=K:=zO;subst this;rcases c with c|⟨c,f⟩<;>rcases d with d|⟨d,e⟩;exact .inr ⟨c,d⟩;exact .inr ⟨c,e⟩;exact .inr ⟨c,d⟩;exact .inr ⟨c,e⟩
def jop {r:Nat->Nat->Bool}{b a:Nat}(h:r a b=true):∀K,war r K b a=true
 |0=>h
 |K+1=>by simp[war,jop h K]
def jly {r:Nat->Nat->Bool}{p:Nat->Prop}{q:Nat->Prop}(d:∀a b,q b->r a b=true->p a) (c:∀b,p b->q b):∀(K:Nat) {b a:Nat},q b->war r K b a=true->p a
 |0,b,a,hb,h=>d a b hb h
 |K+1,b,a,hb,h=>by simp only[war,bq,ab]at h;rcases h with h|⟨h,e⟩;exact jly d c K hb h;exact jly d c K (c _ (jly d c K hb h)) e
def farB (g:Hist') (M:List Int) (t a:Nat):Bool:=war (ja5 g M) g.ts.length t a
def jfr {g:Hist'}{M:List Int}{a b:Nat}(h:ja5 g M a b=true):J8 g a=true/\J8 g b=true:=by simp only[ja5,ab]at h;exact h.1
def j44 {g:Hist'}{M:List Int}{t a:Nat}(h:farB g M t a=true):J8 g a=true :=
 jly (r:=ja5 g M) (p:=λa=>J8 g a=true) (q:=λ_=>True) (λ_ _ _ h=>(jfr h).1) (λ_ _=>trivial) g.ts.length (b:=t) trivial h
def atO (O:List Int) (t:Int):Int:=yG O t 0
def jg2 (k:Int):∀(l:List Int) (n:Nat),yG l k n = -1\/(n:Int)<=yG l k n
 |[],n=>.inl rfl
 |x::r,n=>by rw[yG];split;exact .inr (dr _);rcases jg2 k r (n+1) with h|h;exact .inl h;exact .inr zO
def atO_ge (O:List Int) (t:Int):-1<=atO O t:=by rcases jg2 t O 0 with h|h<;>unfold atO<;>omega
def atO_neg {O:List Int}{t:Int}:atO O t<0 ↔ t ∉ O:=by
 have h:=je8 t O 0;unfold atO;constructor;intro a b;have:O.contains t=true:=by simpa using b
 rw[this]at h;simp at h;omega;intro a;have:O.contains t=false:=by simpa using a
 rw[this]at h;simpa using h
def jsn {a b:Int}:∀{l:List Int}{n:Nat},0<=yG l a n->yG l a n=yG l b n->a=b
 |[],n,h,_=>by simp[yG]at h
 |x::r,n,h,h'=>by
  rw[yG]at h h';rw[yG]at h';by_cases f:a=x;by_cases c:b=x;rw[f,c];have d:(a==x)=true:=by simpa using f
  have e:(b==x)=false:=by simpa using c
  rw[d,e]at h';simp only[zd,ah,zc]at h';rcases jg2 b r (n+1) with h3|h3<;>omega;have d:(a==x)=false:=by simpa using f
  by_cases c:b=x;have e:(b==x)=true:=by simpa using c
  rw[d,e]at h';simp only[zd,ah,zc]at h';rcases jg2 a r (n+1) with h3|h3<;>omega;have e:(b==x)=false:=by simpa using c
  rw[d]at h;rw[d,e]at h';simp only[ah,zc]at h h';exact jsn h h'
def j06 {O:List Int}{a b:Int}(c:a∈O) (h:atO O a=atO O b):a=b:=by refine jsn (l:=O) (n:=0) ?_ h;rcases iD (yG O a 0) 0 with h1|h1;exact zf c (atO_neg.1 h1);exact h1
def We (g:Hist') (p:Int×Int):Int:=match opAt g p.1 p.2 with|some o=>o.key|none=>0
def X9 (g:Hist') (t key:Int):Bool:=(W4 (Jv g t).2 key).2
def rcB (R:List (Int×Int)) (M:List Int) (p:Int×Int) (t:Int):Bool:=(R.zip M).any λx=>x.1.1==p.1&&(decide (x.1.2<p.2)&&x.2==t)
def Qn (g:Hist') (lvl:Int) (M O:List Int) (p:Int×Int) (t:Nat):Bool :=
 if lvl=1 then rcB (yi g) M p t else if lvl=2 then farB g M p.1.toNat t else if lvl=3 then J8 g t&&decide (atO O t<atO O p.1) else false
def WZ (g:Hist') (lvl:Int) (M O:List Int) (p:Int×Int):List Int:=Ye (Qn g lvl M O p) g.ts.length
def okB (g:Hist') (O:List Int) (p:Int×Int) (m t:Int):Bool:=t==m||(!X9 g t (We g p)||decide (atO O t<atO O m))
def jei (g:Hist') (lvl:Int) (M O:List Int) (i:Nat):Bool:=match (yi g)[i]?,M[i]? with
 |some p,some m=>decide (m<0\/atO O m<atO O p.1)&&(WZ g lvl M O p).all (okB g O p m)
 |_,_=>true
def jdd (g:Hist') (O:List Int) (b a:Nat):Bool:=!(yD g ((ym g).getD a 0).toNat==yD g ((ym g).getD b 0).toNat)||decide (atO O ((ym g).getD a 0)<atO O ((ym g).getD b 0))
def sesB (g:Hist') (O:List Int) (b:Nat):Bool:=(badH g ((ym g).getD b 0)).isEmpty&&Qc (jdd g O b) b
def JX (g:Hist') (lvl:Int) (M O:List Int):Bool:=Qc (sesB g O) (ym g).length&&Qc (jei g lvl M O) (yi g).length
def JC (g:Hist') (O:List Int):Bool:=jX g&&((ym g).length==O.length&&Qc (λi=>(ym g).contains (O.getD i 0) && !(O.take i).contains (O.getD i 0)) O.length)
def com_f {g:Hist'}(c:jX g=true) {a:Nat}{t:Txn'}(b:g.ts[a]? = some t) (i:t.f≠2):J8 g a=true:=by
 unfold jX at c;simp only[ab,dV]at c;obtain⟨d,h,_⟩:=c;have j:t.f≠3:=λe=>by
  have:((a:Nat):Int)∈Y3 g:=by rw[Y3,jap,filTo_mem];exact⟨a,(aj.1 b).1,rfl,by simp[jq0,b,XS,e]⟩
  rw[h]at this;cases this
 unfold Yr at d;simp only[ab,av]at d;have:=d.2.1 t (aH b);simp only[jex,ab,ze]at this;simp only[J8,b,X4,zh];omega
def of_com {g:Hist'}(f:jX g=true) {a b x:Int}(h:x∈ofH g a b):x = -1\/x∈ym g:=by
 unfold ofH at h;split at h;split at h;cases h;rw[ofL,aQ]at h;rcases h with h|h;unfold JK at h;split at h;cases h;exact .inl (zU h);have d:=(bu.1 h).1;rw[yN,jap,filTo_mem]at d;obtain⟨k,d,i,c⟩:=d;refine .inr (comL_mem.2 ⟨k,i,?_⟩);unfold jq0 at c;cases e:g.ts[k]? with
 |none=>rw[e]at c;cases c
 |some t=>rw[e]at c;simp only[wrB,ab,bne_iff_ne,ne_eq]at c;exact com_f f e c.1
 cases h
def jn8:∀{C:List (Bool×List Int)}{M:List Int}{i:Nat}{c:Bool×List Int},jdc C M=true->C[i]? = some c->∃m,M[i]? = some m/\m∈c.2
 |[],_,_,_,_,hc=>by simp at hc
 |_::_,[],_,_,h,_=>by simp[jdc]at h
 |d::C,m::M,0,c,h,hc=>by simp only[jdc,ab]at h;simp at hc;subst hc;exact⟨m,rfl,zU h.1⟩
 |d::C,m::M,i+1,c,h,hc=>by simp only[jdc,ab]at h;simpa using jn8 h.2 (zU hc)
section
variable {g:Hist'}{M O:List Int}
def jr7 (h:Xl g M=true) {i:Nat}{p:Int×Int}(hp:(yi g)[i]? = some p):∃m,M[i]? = some m/\m∈ofH g p.1 p.2:=by unfold Xl at h;simp only[ab]at h;exact jn8 (c:=(false,ofH g p.1 p.2)) h.2.2 (by simp[choR,hp])
def XE (h:Xl g M=true):M.length=(yi g).length:=by unfold Xl at h;simp only[ab,zh]at h;simpa[choR] using h.2.1
def Xa (h:Xl g M=true):jX g=true:=by unfold Xl at h;simp only[ab]at h;exact h.1
def jkx (h:Xl g M=true) {m:Int}(d:m∈M):m = -1\/m∈ym g:=by
 obtain⟨i,c,e⟩:=ba d;have a:i<(yi g).length:=by rw[<- XE h];exact c
 obtain⟨j,b,f⟩:=jr7 h (aa a);rw[aa c]at b;cases b;rw[<- e];exact of_com (Xa h) f
def jf7 {p:Int×Int}:∀{n:Nat},p∈XC g n->∃(i k:Nat) (t:Txn'),p=((i:Int),(k:Int))/\g.ts[i]? = some t/\X4 t=true/\k<t.ops.length/\jck g i k=true
 |0,h=>by simp[XC]at h
 |n+1,h=>by
  rw[XC,aQ]at h;rcases h with h|h;exact jf7 h;cases a:g.ts[n]? with
  |none=>rw[a]at h;cases h
  |some t=>rw[a]at h;simp only at h;split at h;rename_i e;obtain⟨k,c,b,d⟩:=readIn_mem.1 h;exact⟨n,k,t,b,a,e,c,d⟩;cases h
def jkj {p:Int×Int}(h:p∈yi g):p.1∈ym g:=by obtain⟨i,k,t,rfl,a,b,_⟩:=jf7 h;exact comL_mem.2 ⟨i,rfl,by simp[J8,a,b]⟩
/-! Orders -/
def jgh (h:JC g O=true):(ym g).length=O.length:=by unfold JC at h;simp only[ab,zh]at h;exact h.2.1
def jrr (h:JC g O=true) {i:Nat}(hi:i<O.length):O[i]∈ym g/\O[i] ∉ O.take i:=by unfold JC at h;simp only[ab]at h;have:=andTo_iff.1 h.2.2 i hi;simpa[am,aa hi] using this
def jrz:∀{L:List Int},(∀i (hi:i<L.length),L[i] ∉ L.take i)->L.Nodup
 |[],_=>dH
 |x::r,h=>by rw[cX];constructor;intro b;obtain⟨i,hi,e⟩:=ba b;have:=h (i+1) (zU hi);simp[e]at this;refine jrz λi hi a=>?_;have:=h (i+1) (zU hi);simp[a]at this
def QG (h:JC g O=true):O.Nodup:=jrz λ_ a=>(jrr h a).2
def jgg (h:JC g O=true) {x:Int}(b:x∈O):x∈ym g:=by obtain⟨i,a,e⟩:=ba b;exact e▸(jrr h a).1
def jhd (g:Hist'):(ym g).Pairwise (· < ·):=(Qv (p:=X4) (ts:=g.ts) g.ts.length zK).2
def jjt (g:Hist'):(ym g).Nodup:=(jhd g).imp λh=>Int.ne_of_lt h
def QE:∀{O C:List Int},O.Nodup->(∀x∈O,x∈C)->C.length=O.length->O.Perm C
 |[],C,_,_,h=>by have:C=[]:=cz.1 h;rw[this]
 |x::r,C,hn,hs,h=>by rw[cX]at hn;have d:=hs x zS;have c:=List.perm_cons_erase d;refine(List.Perm.cons x (QE hn.2 (λy b=>?_) ?_)).trans c.symm;have a:y≠x:=λe=>hn.1 (e▸b);exact(List.mem_erase_of_ne a).2 (hs y (by simp[b]));have:=c.length_eq;simp at this h;omega
def Y7 (h:JC g O=true):O.Perm (ym g):=QE (QG h) (λ_=>jgg h) (jgh h)
def jcm (b:jX g=true):JC g O=true ↔ O.Perm (ym g):=by
 refine⟨Y7,λh=>?_⟩;have l:O.Nodup:=h.nodup_iff.2 (jjt g);unfold JC;rw[b,bF,ab,andTo_iff];refine⟨by rw[h.length_eq];simp,λi a=>?_⟩;have k:O[i]∈ym g:=h.mem_iff.1 (au a);have f:O[i] ∉ O.take i:=λc=>by obtain⟨j,d,e⟩:=ba c;simp at d;rw[dB]at e;exact cB.1 l j i zO a zO e
 simp[am,aa a,k,f]
/-! Where each stands -/
def jso:∀{l:List Int}{n k:Nat}(h:k<l.length),l.Nodup->yG l l[k] n=(n+k:Nat)
 |x::r,n,0,_,_=>by simp[yG]
 |x::r,n,k+1,h,hn=>by
  rw[cX]at hn;have b:k<r.length:=by simpa using h
  have a:((r[k])==x)=false:=by rw[zk];exact λe=>hn.1 (e▸au b)
  simp only[eM,yG,a,ah,zc];rw[jso b hn.2];omega
def jhp (a:O.Nodup) {k:Nat}(h:k<O.length):atO O O[k]=k:=by rw[atO,jso h a,bK]
def atO_com (h:JC g O=true) {t:Int}(a:t∈ym g):0<=atO O t:=by rcases iD (atO O t) 0 with h1|h1;exact zf ((Y7 h).mem_iff.2 a) (atO_neg.1 h1);exact h1
def atO_one (h:JC g O=true):atO O (-1) = -1:=by
 have a:(-1:Int) ∉ O:=λb=>by obtain⟨k,e,_⟩:=comL_mem.1 (jgg h b);omega
 have c:=atO_neg.2 a;have d:=atO_ge O (-1);omega
/-! Sessions -/
/-! What reads see -/
def j2l (c:Xl g M=true) {lvl:Int}{p:Int×Int}{t:Nat}(h:Qn g lvl M O p t=true):J8 g t=true:=by unfold Qn at h;split at h;unfold rcB at h;obtain⟨x,f,b⟩:=bD.1 h;simp only[ab,zh]at b;have a:=jkx c (List.of_mem_zip f).2;rw[b.2.2]at a;rcases a with h2|h2;omega;obtain⟨k,e,d⟩:=comL_mem.1 h2;have:t=k:=zO;exact this▸d;split at h;exact j44 h;split at h;rw[ab]at h;exact h.1;cases h
/-! Levels -/
def j7q (_:Xl g M=true) (_:JC g O=true) (s:Qc (sesB g O) (ym g).length=true) (q:∀(i:Nat) (p:Int×Int) (m:Int),(yi g)[i]? = some p->M[i]? = some m->m<0\/atO O m<atO O p.1) {a b:Nat}(h:ja5 g M a b=true):atO O a<atO O b:=by
 unfold ja5 at h;simp only[ab,bq,ze,zh]at h;obtain⟨⟨v,n⟩,h⟩:=h;rcases h with⟨r,k⟩|h;obtain⟨i,d,e⟩:=ba (comL_mem.2 ⟨a,rfl,v⟩);obtain⟨j,l,o⟩:=ba (comL_mem.2 ⟨b,rfl,n⟩);have f:i<j:=by rcases cD i j with h|h;exact h;rcases cD j i with h'|h';have:=cB.1 (jhd g) j i l d h';omega;have:i=j:=zO;subst this;omega
 have:=andTo_iff.1 s j l;unfold sesB at this;rw[ab,andTo_iff]at this;have:=this.2 i f;have u:(ym g).getD i 0=a:=by rw[<- e];simp[am,aa d]
 have w:(ym g).getD j 0=b:=by rw[<- o];simp[am,aa l]
 rw[jdd,u,w]at this;simpa[k] using this;unfold j4t at h;obtain⟨x,t,c⟩:=bD.1 h;simp only[ab,zh]at c;obtain⟨i,d,e⟩:=ba t;rw[ic]at e;rw[il]at d;rw[<- e]at c;have:=q i _ _ (aa zO) (aa zO);simp only at c;rw[c.1,c.2]at this;rcases this with h|h;omega;exact h
def j56 {lvl:Int}(h:Qc (jei g lvl M O) (yi g).length=true) {i:Nat}{p:Int×Int}{m:Int}(hp:(yi g)[i]? = some p) (a:M[i]? = some m):(m<0\/atO O m<atO O p.1)/\(WZ g lvl M O p).all (okB g O p m)=true:=by have:=andTo_iff.1 h i (aj.1 hp).1;unfold jei at this;rw[hp,a]at this;simpa only[ab,ze] using this
end
section
end
section
variable {g:Hist'}{M O:List Int}
def SS (g:Hist') (O:List Int):Prop:=∀a b:Nat,J8 g a=true->J8 g b=true->a<b->yD g a=yD g b->atO O a<atO O b
def FF (g:Hist') (M O:List Int):Prop:=∀(i:Nat) (p:Int×Int) (m:Int),(yi g)[i]? = some p->M[i]? = some m->m<0\/atO O m<atO O p.1
variable (hm:Xl g M=true) (ho:JC g O=true)
include ho
def pos_of {x:Int}(b:x∈ym g):∃k,∃h:k<O.length,O[k]=x/\atO O x=k:=by obtain⟨k,a,e⟩:=ba ((Y7 ho).mem_iff.2 b);exact⟨k,a,e,by rw[<- e,jhp (QG ho) a]⟩
def jwt {x:Int}(l:x∈ym g) {k:Nat}(m:k<=O.length):x∈O.take k ↔ atO O x<k:=by
 obtain⟨j,d,e,c⟩:=pos_of ho l;rw[c];constructor;intro h;obtain⟨i,f,b⟩:=ba h;rw[ai]at f;rw[dB]at b;have:=jhp (QG ho) (show i<O.length by omega);rw[b,c]at this;omega;intro h;have a:j<k:=zO;have:(O.take k)[j]? = some x:=by rw[bi a,aa d,e]
 exact aH this
end
end Go.Pv.T
namespace Go.Pv.T
open Go Go.Pv
end Go.Pv.T
namespace Go.Pv.T
open Go Go.Pv
def ev66 {a:Bool}(l:List Int) (r:l.length<=1000000000) (k:Int):Ev E 66 [yl a yf l,.int .i64 k] (.int .i64 (atO l k)):=by
 refine jQ rfl ?_;unfold atO;conv in(occs:=*)F66=>all_goals cbv
 simp;refine j9 [(4,18)] l.length (λi s=>s.tm 5=.int .i64 i/\yG (l.drop i) k i=yG l k 0) rfl rfl ⟨zS,zS⟩ ?_;rintro i s u ⟨m,c⟩ f;have j:s.tm 0=yl a yf l:=by rw[f.t 0 zS];simp
 have o:s.tm 1=.int .i64 k:=by rw[f.t 1 zS];simp
 have n:s.df=[]:=by rw[f.d];simp
 clear f;by_cases b:i<l.length;have q:=jb b zO;have p:=jt l b;rw[aR b,yG]at c;cases h:(l[i]==k);have g:(k==l[i])=false:=by rw[zk]at h ⊢;exact λe=>h e.symm
 rw[g]at c;simp only[ah,zc]at c;simp[m,j,o,b,j7 j8,p,h,q];exact c;have g:(k==l[i])=true:=by rw[zh]at h ⊢;exact h.symm
 rw[g]at c;simp only[zd]at c;simp[m,j,o,b,j7 j8,p,h];exact j5 (by simp[n]) (by rw[<- c];simp) rfl;have:i=l.length:=zO;subst this;rw[dc,yG]at c;simp[m,j];exact j5 (by simp[n]) (by rw[<- c];simp) rfl
def ev68 {g:Hist'}(h:Small g) (i key:Int):Ev E 68 [.agg (ya g),.int .i64 i,.int .i64 key] (.tup [.agg (J4 (W4 (Jv g i).2 key).1),.bool (W4 (Jv g i).2 key).2]):=by
 have a:=ev48 h;refine jQ rfl ?_;cases d:Yr g
 ·rw[Qw d]at a;have b:Jv g i=(true,[]):=by unfold Jv;rw[d];rfl
  rw[b];conv in(occs:=*)F68=>all_goals cbv
  simp[ya,j0];refine jL a zI rfl zI ?_;simp[j0,j6];exact JM zS (l:=[.agg (J4 ⟨0,0⟩),.bool false]) (by simp[jv,j0,J4]) rfl rfl
 ·rw[W2 d]at a;by_cases m:0<=i
  ·by_cases k:i<g.ts.length
   ·obtain⟨n,rfl⟩:∃n:Nat,i=n:=⟨i.toNat,zO⟩;have c:n<g.ts.length:=zO;have b:(Jv g (n:Int)).2=(g.ts[n]).ops:=by unfold Jv;simp[d,c,am]
    rw[b,W4];have j:=h.os _ (au c);have f:=ev107 g.ts[n] zO key;have e:(g.ts.flatMap jl)[n*3+2]? = some (yl (g.ts[n]).nl yQ (g.ts[n]).ops):=by rw[jZ jA g.ts c (by decide:2<3)];rfl
    conv in(occs:=*)F68=>all_goals cbv
    simp[ya,j0];refine jL a zI rfl zI ?_;simp[j0,c,Nat.not_le.2 c,show ¬((n:Int)<0) by omega,j7 jA,jd jA,e];refine Jb f (by simp[jl]) rfl (by simp[jl]) ?_;rw[JW (by simp[V.plain,J4])];generalize (JD key g.ts[n].ops g.ts[n].ops.length).1=rv at *;generalize (JD key g.ts[n].ops g.ts[n].ops.length).2=rb at *;simp[J4,j0,j6];exact JM zS (l:=[.agg [.int .i64 rv.kind,.int .i64 rv.n],.bool rb]) (by simp[jv,j0]) rfl rfl
   ·have b:Jv g i=(true,[]):=by unfold Jv;simp[k]
    rw[b];conv in(occs:=*)F68=>all_goals cbv
    simp[ya,j0];refine jL a zI rfl zI ?_;simp[j0,j6,show ¬i<0 by omega,show(g.ts.length:Int)<=i by omega];exact JM zS (l:=[.agg (J4 ⟨0,0⟩),.bool false]) (by simp[jv,j0,J4]) rfl rfl
  ·have b:Jv g i=(true,[]):=by unfold Jv;simp[m]
   rw[b];conv in(occs:=*)F68=>all_goals cbv
   simp[ya,j0];refine jL a zI rfl zI ?_;simp[j0,j6,show i<0 by omega];exact JM zS (l:=[.agg (J4 ⟨0,0⟩),.bool false]) (by simp[jv,j0,J4]) rfl rfl
def jld {g:Hist'}{a:Nat}(h:a<g.ts.length):J8 g a=((g.ts[a]).f==1):=by simp[J8,X4,h]
def je1 {g:Hist'}{a:Nat}(h:a<g.ts.length):yD g a=(g.ts[a]).s:=by simp[yD,h]
def jxx (l:List (Int×Int)) {i:Nat}(h:i<l.length):(l.flatMap jE)[i*2]? = some (.int .i64 (l[i]).1)/\(l.flatMap jE)[i*2+1]? = some (.int .i64 (l[i]).2):=by have a:=jZ jU l h (by decide:0<2);have b:=jZ jU l h (by decide:1<2);rw[bp]at a;exact⟨a.trans rfl,b.trans rfl⟩
def ev163 {g:Hist'}(N:Small g) {nl:Bool}{M:List Int}(hM:M.length=(yi g).length) {a b:Nat}(o:a<g.ts.length) (q:b<g.ts.length) :
 Ev E 163 [.agg (ya g),yl false jE (yi g),yl nl yf M,.int .i64 (a:Int),.int .i64 (b:Int)] (.bool (ja5 g M a b)):=by
 have S:=XZ N;have Z:=N.ts;refine jQ rfl ?_;unfold ja5;rw[jld o,jld q,je1 o,je1 q];generalize yi g=R at *;have F:(g.ts.flatMap jl)[a*3+1]? = some (.int .i64 (g.ts[a]).f):=by rw[jZ jA g.ts o (by decide:1<3)];rfl
 have O:(g.ts.flatMap jl)[b*3+1]? = some (.int .i64 (g.ts[b]).f):=by rw[jZ jA g.ts q (by decide:1<3)];rfl
 have sa:(g.ts.flatMap jl)[a*3]? = some (.int .i64 (g.ts[a]).s):=by have:=jZ jA g.ts o (by decide:0<3);rw[bp]at this;rw[this];rfl
 have sb:(g.ts.flatMap jl)[b*3]? = some (.int .i64 (g.ts[b]).s):=by have:=jZ jA g.ts q (by decide:0<3);rw[bp]at this;rw[this];rfl
 have y:∀{x:Int}{c:Bool},(x==1)=c->(x != 1) = !c:=λh=>by rw[<- h];rfl
 cases r:((g.ts[a]).f==1)
 ·conv in(occs:=*)F163=>all_goals cbv
  simp[ya,j0,o,j7 jA,F,y r];exact j5 zS zS rfl
 cases v:((g.ts[b]).f==1)
 ·conv in(occs:=*)F163=>all_goals cbv
  simp[ya,j0,o,q,j7 jA,F,O,y r,y v];exact j5 zS zS rfl
 obtain⟨c,I⟩:∃c,j4t R M a b=c:=⟨_,rfl⟩;rw[I];unfold j4t at I;conv in(occs:=*)F163=>all_goals cbv
 simp[ya,j0,o,q,j7 jA,F,O,y r,y v];generalize z:juz E YU _ _=KK;have p:∀n:St,n.tm 1=yl false jE R->n.tm 2=yl nl yf M->n.tm 3=.int .i64 (a:Int)->n.tm 4=.int .i64 (b:Int)->n.df=[]->n.tm 45=.bool (decide (a<b)&&(g.ts[a]).s==(g.ts[b]).s)->KK .nrm n:=by
  intro n X Q T U J w;rw[<- z];clear z;generalize (decide (a<b)&&(g.ts[a]).s==(g.ts[b]).s)=c0 at *;cases c0;simp only[bQ];simp[w];refine j9 [(10,11),(46,66)] R.length (λi s=>s.tm 11=.int .i64 i/\((R.drop i).zip (M.drop i)).any (λx=>x.2==(a:Int)&&x.1.1==(b:Int))=c) rfl rfl ⟨zS,zU I⟩ ?_;rintro i s hi ⟨m,l⟩ f;have B:s.tm 1=yl false jE R:=by rw[f.t 1 zS];simp[X]
  have G:s.tm 2=yl nl yf M:=by rw[f.t 2 zS];simp[Q]
  have H:s.tm 3=.int .i64 (a:Int):=by rw[f.t 3 zS];simp[T]
  have P:s.tm 4=.int .i64 (b:Int):=by rw[f.t 4 zS];simp[U]
  have K:s.df=[]:=by rw[f.d];simp[J]
  clear f;by_cases j:i<R.length;have L:=jb j zO;have e:i<M.length:=zO;have r:=jt M e;have v:=(jxx R j).1;rw[aR j,aR e,gD,bJ]at l;cases u:(M[i]==(a:Int));rw[u,bE,bQ]at l;simp[m,B,G,H,j,e,j7 j8,r,u,L];exact l;cases D:((R[i]).1==(b:Int));rw[u,D,bF,bQ]at l;simp[m,B,G,H,P,j,e,j7 j8,j7 jU,r,v,u,D,L];exact l;rw[u,D,bF,gW]at l;simp[m,B,G,H,P,j,e,j7 j8,j7 jU,r,v,u,D];exact j5 (by simp[K]) (by simp[<- l]) rfl;have:i=R.length:=zO;subst this;rw[dc]at l;simp[m,B];exact j5 (by simp[K]) (by simp[<- l]) rfl;simp[w];exact j5 (by simp[J]) zS rfl
 by_cases k:a<b;simp[k,j0,o,q,j7 jA,sa,sb];exact p _ zS zS zS zS zS (by simp[k]);simp[k];exact p _ zS zS zS zS zS (by simp[k])
def js7 (l:List Bool) {i:Nat}(h:i<l.length):(l.map V.bool)[i]? = some (.bool l[i]):=by simp[h]
def jtw (bs:List Bool) (k:Nat) (b:Bool) (h:k<bs.length):j6 (bs.map V.bool) k [.bool b]=(bs.set k b).map V.bool:=by unfold j6;rw[dv,dK,zb (zU h)];simp
section
variable (g:Hist') (M:List Int) (t:Nat)
def jg6 (bs:List Bool) (a b:Nat):Bool:=!bs.getD a false&&((b==t||bs.getD b false)&&ja5 g M a b)
def FarS (bs:List Bool):Prop:=bs.length=g.ts.length/\∀a,bs.getD a false=true->farB g M t a=true
def FarR (bs0:List Bool) (i j:Nat) (bs:List Bool) (more:Bool):Prop:=FarS g M t bs/\(more=false->bs=bs0/\∀a b,(a<i\/a=i/\b<j)->b<g.ts.length->jg6 g M t bs0 a b=false) /\
 (more=true->bs.count false+1<=bs0.count false)
end
section
variable {g:Hist'}{M:List Int}{t:Nat}
def FarS.fire {bs:List Bool}(h:FarS g M t bs) (j:t<g.ts.length) {a b:Nat}(i:b<g.ts.length) (c:jg6 g M t bs a b=true):FarS g M t (bs.set a true):=by refine⟨by simp[h.1],λx f=>?_⟩;unfold jg6 at c;simp only[ab,bq,zh]at c;by_cases d:x=a;subst d;rcases c.2.1 with rfl|h2;exact jop c.2.2 _;exact jb6 i (h.2 b h2) (jop c.2.2 _);refine h.2 x ?_;rw[am,cP (λe=>d e.symm)]at f;simpa[am] using f
def jvn {bs:List Bool}{a:Nat}(b:a<bs.length) (c:bs.getD a false=false):(bs.set a true).count false+1=bs.count false:=by
 have e:bs[a]=false:=by simpa[am,b] using c
 have d:0<bs.count false:=eF.2 (e▸au b);rw[ft b,e];simp;omega
def FarR.next {e bs:List Bool}{i j:Nat}{m:Bool}(h:FarR g M t e i j bs m) (r:t<g.ts.length) (hi:i<g.ts.length) (s:j<g.ts.length) :
 FarR g M t e i (j+1) (if jg6 g M t bs i j then bs.set i true else bs) (m||jg6 g M t bs i j):=by
 obtain⟨l,n,o⟩:=h;cases d:jg6 g M t bs i j;simp only[bI,ah,zc];refine⟨l,λk=>?_,o⟩;obtain⟨rfl,q⟩:=n k;refine⟨rfl,λa b c p=>?_⟩;rcases c with c|⟨rfl,c⟩;exact q a b (.inl c) p;rcases bg.1 c with h|h;exact q a b (.inr ⟨rfl,h⟩) p;subst h;exact d;simp only[Bool.or_true,zd];have f:bs.getD i false=false:=by unfold jg6 at d;simp only[ab,bG]at d;exact d.1
 have u:=jvn (by rw[l.1];exact hi) f;refine⟨l.fire r s d,λk=>(by cases k),λ_=>?_⟩;cases m;rw[(n rfl).1]at u ⊢;omega;have:=o rfl;omega
def FarR.row {d bs:List Bool}{i:Nat}{m:Bool}(h:FarR g M t d i g.ts.length bs m):FarR g M t d (i+1) 0 bs m:=by refine⟨h.1,λe=>⟨(h.2.1 e).1,λa b c f=>(h.2.1 e).2 a b ?_ f⟩,h.2.2⟩;rcases c with c|⟨_,c⟩;rcases bg.1 c with h1|h1;exact .inl h1;exact .inr ⟨h1,f⟩;omega
def far_all {bs:List Bool}(j:FarS g M t bs) (o:t<g.ts.length) (h:∀a b,a<g.ts.length->b<g.ts.length->jg6 g M t bs a b=false):bs=(List.range g.ts.length).map (farB g M t):=by
 apply fR;simp[j.1];intro a k n;have m:a<g.ts.length:=by rw[<- j.1];exact k
 rw[List.getElem_map,List.getElem_range];have l:bs.getD a false=bs[a]:=by simp[am,k]
 cases f:farB g M t a;cases e:bs[a];rfl;rw[j.2 a (by rw[l,e])]at f;cases f;have:=jly (r:=ja5 g M) (p:=λa=>bs.getD a false=true/\a<g.ts.length) (q:=λb=>b=t\/bs.getD b false=true/\b<g.ts.length) (λa b e d=>by
  have c:=JZ (jfr d).1;have i:=JZ (jfr d).2;have:=h a b c i;unfold jg6 at this;rw[d,eA]at this;rcases e with rfl|⟨e,_⟩;simp at this;exact⟨by simpa[am] using this,c⟩;rw[e]at this;simp at this;exact⟨by simpa[am] using this,c⟩) (λb e=>.inr e) g.ts.length (b:=t) (.inl rfl) f
 rw[l]at this;exact this.1
end
end Go.Pv.T
