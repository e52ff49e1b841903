/- Part. -/
import Derived.Test.YtmanndcfeicokaaGreatDoorPN
set_option maxRecDepth 100000
set_option maxHeartbeats 8000000
set_option linter.all false
namespace Go.Pv.T
open Go Go.Pv
section
variable {g:Hist'}{M:List Int}{mn:Bool}{rt:Option (Nat × Nat)}{rn:Bool}{kX uX:Nat}{ob:ZO}{ub u1 u2 u3 u5 hi:Nat}{R:List P2}
def evo171 (I:PastO kX uX R u1 u3 hi ob) (D:hi<=ub) (s:ob (2*u5+1)=some ⟨u5,.cells [.fn (.func 221) [] [.ptr (2*u1+1) u1 0,.ptr (2*u3+1) u3 0]]⟩) (p:ob (2*u2+1)=some ⟨u2,.cells [.ptr kX uX 0]⟩) (L:u5<ub) (N:u2<ub)
 (q:∃n,ob kX=some ⟨uX,.cells (mkS g (yl mn yf M) (rdV rt rn (yi g)) n)⟩) (o:Off ub kX) (z:g.ts.length<=8) (J:InG g.ts.length R) (B:R.length<=10000) {i:Nat}(hi:i<(yi g).length) (tk:Nat->Bool) (base:Nat) :
 ∃v,EvO E 171 [.int .i64 (i:Int),.ptr (2*u5+1) u5 0,.ptr (2*u2+1) u2 0] ob tk base ub v/\Reach g.ts.length R ((yi g).getD i (0,0)).1.toNat v:=by
 obtain⟨n,c⟩:=id q;have O:=o.ne;have K:∀m,ub<=m->¬u5=m:=λm G=>by omega
 have P:∀m,ub<=m->¬u2=m:=λm G=>by omega
 have d:=JC jR rt rn (yi g) .i64 hi;obtain⟨a,l,_,j⟩:=jif hi;have b:((yi g).flatMap jC)[i*2]? = some (.int .i64 (a:Int)):=by
  have:=jO jR (yi g) hi (by decide:0<2);rw[bl]at this;rw[this];have e:(yi g).getD i (0,0)=(yi g)[i]:=by simp[ay,aa hi]
  rw[e]at l;simp[jC,l]
 rw[l,ba];refine jb3 rfl zQ ?_;conv in(occs:=*)S171=>all_goals cbv
 simp(disch:=try exact zD)[S171,ya,s,p,c,mkS,yb,yl,rdV,d,b];refine jsc (f:=221) (first:=[]) (captured:=[.ptr (2*u1+1) u1 0,.ptr (2*u3+1) u3 0]) (vs:=[.int .i64 a,.ptr (2*u1+1) u1 0,.ptr (2*u3+1) u3 0]) zS zS rfl rfl (evo221 (mv:=yl mn yf M) (rv:=rdV rt rn (yi g)) (I.keep (λu _ _=>by simp) D) ?_ ?_ (o.up ?_) zO z J B j _ _) λv H=>?_
 ·first|omega|(simp;done)|(simp;omega)
 exact⟨n,by simpa using c⟩
 ·first|omega|(simp;done)|(simp;omega)
 obtain⟨w,x,nl,F⟩:=H;refine Jv F λy add=>?_;simp;exact slE (t:=y) (nl:=nl) (k:=(yt (yq w)).length) (cs:=(yt (yq w)).flatMap yf) (λr h=>⟨w,x,nl,h⟩) zS zS
def rcQ (g:Hist') (M:List Int) (i k:Nat):Bool:=((yi g).getD k (0,0)).1==((yi g).getD i (0,0)).1&&(decide (((yi g).getD k (0,0)).2<((yi g).getD i (0,0)).2)&&decide (0<=M.getD k 0))
def rcS (g:Hist') (M:List Int) (i n:Nat):List Int:=((List.range n).filter (rcQ g M i)).map λk=>M.getD k 0
def j2i (g:Hist') (M:List Int) (i n:Nat):rcS g M i (n+1)=rcS g M i n++if rcQ g M i n then [M.getD n 0] else []:=by unfold rcS;rw[cV,bN,bE];congr 1;cases h:rcQ g M i n<;>simp[h]
def jxi (g:Hist') (M:List Int) (i n:Nat):(rcS g M i n).length<=n:=by unfold rcS;rw[bu];exact bI (bO _ _) zS
def evo172 (hm:W7 g M=true) (h2:ob (2*u2+1)=some ⟨u2,.cells [.ptr kX uX 0]⟩) (l2:u2<ub) (hX:∃lv,ob kX=some ⟨uX,.cells (mkS g (yl mn yf M) (rdV rt rn (yi g)) lv)⟩) (o:Off ub kX) (hR:(yi g).length<=1000) {i:Nat}(hi:i<(yi g).length) (tk:Nat->Bool) (base:Nat) :
 EvO E 172 [.int .i64 (i:Int),.ptr (2*u2+1) u2 0] ob tk base ub (jkt (rcS g M i (yi g).length)):=by
 obtain⟨lv,hX⟩:=hX;have c9:=XV hm;have oX:=o.ne;have n2:∀m,ub<=m->¬u2=m:=λm hm=>by omega
 have Z:∀{k:Nat}(h:k<(yi g).length),((yi g).flatMap jC)[k*2]? = some (.int .i64 ((yi g).getD k (0,0)).1)/\((yi g).flatMap jC)[k*2+1]? = some (.int .i64 ((yi g).getD k (0,0)).2):=fun {k} h=>by
  have e:(yi g).getD k (0,0)=(yi g)[k]:=by simp[ay,aa h]
  have a1:=jO jR (yi g) h (by decide:0<2);have a2:=jO jR (yi g) h (by decide:1<2);rw[bl]at a1;rw[a1,a2,e];exact⟨rfl,rfl⟩
 have B:=JC jR rt rn (yi g) .i64 hi;obtain⟨S,f2⟩:=Z hi;refine jq rfl ?_;conv in(occs:=*)S172=>all_goals cbv
 simp(disch:=try exact zD)[S172,ya,h2,hX,mkS,yb,yl,rdV];refine jQ λy c=>?_;have g0:y.tm 0=.int .i64 i:=by rw[c];simp
 have g1:y.tm 1=.ptr (2*u2+1) u2 0:=by rw[c];simp
 have g4:y.tm 4=.sl none true 0 []:=by rw[c];simp
 have c6:y.tm 10=rdV rt rn (yi g):=by rw[c];simp[rdV]
 have b7:y.tm 11=.int .i64 (yi g).length:=by rw[c];simp
 have b5:y.tm 12=.int .i64 0:=by rw[c];simp
 have gd:y.df=[]:=by rw[c];simp
 have gr:y.ro=ub:=by rw[c];simp
 have gn:ub<=y.nx:=by rw[c];first|omega|(simp;done)|(simp;omega)
 have go:∀a,Off ub a->y.ob a=ob a:=λa o=>by rw[c];simp
 clear c;obtain⟨P,N⟩:∃P:Nat->Nat->Prop,P=λhi u=>ub<=u/\u<hi:=⟨_,rfl⟩;obtain⟨J,hJ⟩:∃J:Nat->St->Prop,J=λk s=>s.tm 12=.int .i64 k/\IntsO s.ob (P s.nx) (rcS g M i k) (s.tm 4)/\ub<=s.nx/\∀a,Off ub a->s.ob a=ob a:=⟨_,rfl⟩;refine j5 [(4,6),(12,61)] (yi g).length J rfl rfl (by rw[hJ];exact⟨by simpa using b5,.inl ⟨by simp[rcS],g4⟩,gn,go⟩) ?_;clear b5 g4 gn go;intro k s c7 a0 f;rw[hJ]at a0;obtain⟨w,sI,sn,so⟩:=a0;have s0:=(f.t 0 zS).trans g0;have s1:=(f.t 1 zS).trans g1;have b9:=(f.t 10 zS).trans c6;have U:=(f.t 11 zS).trans b7;have sd:=f.d.trans gd;have sr:=f.r.trans gr;clear f;by_cases j:k<(yi g).length;have D:=jP j zO;have L:k<M.length:=zO;have b8:=JC jR rt rn (yi g) .i64 j;obtain⟨k1,k2⟩:=Z j;have b6:=λob=>Yq (yi g) ob j;have T:=JC j6 none mn M .i64 L;have b0:=jj M L;have b:=j2i g M i k;have c8:=jxi g M i k;have F:s.ob (2*u2+1)=_:=(so _ (Off.new l2)).trans h2;have I:s.ob kX=_:=(so _ o).trans hX;have H:=(o.up sn).ne;have G:∀m,s.nx<=m->¬u2=m:=λm hm=>by omega
 have c5:M.getD k 0=M[k]:=by simp[ay,aa L]
 have c0:(yi g).getD k (0,0)=(yi g)[k]:=by simp[ay,aa j]
 unfold rcQ at b;rw[c5,c0]at b;generalize (yi g).getD i (0,0)=p at *;generalize (yi g)[k]=q at *;obtain⟨pa,pb⟩:=p;obtain⟨qa,qb⟩:=q;simp only at b6 b S f2;simp(disch:=try exact zD)[w,U,b9,s1,j,b8,b6,rdV,ya,j2,yj];refine⟨zO,?_⟩;have skip:rcS g M i (k+1)=rcS g M i k->∀Q:St,Q.tm 12=.int .i64 ((k:Int)+1)->Q.tm 4=s.tm 4->s.nx<=Q.nx->(∀a,Off s.nx a->Q.ob a=s.ob a)->J (k+1) Q:=λe Q h1 h2 h3 h4=>by rw[hJ];refine⟨by simpa using h1,?_,zO,λa o=>(h4 a (o.up sn)).trans (so a o)⟩;rw[e,h2];exact sI.frame (λu n=>by rw[N]at n;exact h4 _ (Off.new n.2)) λu n=>by rw[N]at n ⊢;exact⟨n.1,by have:=n.2;omega⟩
 cases K:(qa==pa);rw[K,bH,za zQ,aL]at b;simp(disch:=try exact zD)[w,s0,ya,F,I,mkS,yb,H,G,rdV,yl,B,S,K,D,j];exact skip b _ zS zS zL λa o=>by simp(disch:=try exact zD)[o.ne]
 by_cases O:qb<pb;by_cases c3:0<=M[k];rw[K,zi O,zi c3,bM,bM,zb rfl]at b;simp(disch:=try exact zD)[s1,s0,ya,yj,F,I,mkS,yb,H,G,rdV,yl,B,S,f2,K,O,c3,T,b0];refine jZ (cs:=[.int .i64 M[k]]) (by simp[j2]) rfl rfl ?_;simp;refine jap (p:=P s.nx) (l:=rcS g M i k) (z:=M[k]) (v:=s.tm 4) (X:=2*(s.nx+3136)+1) (uX:=s.nx+3136) zS (sI.frame (λu n=>?_) λ_ h=>h) (by simp[aA]) (by simp[aA]) (λu n=>by rw[N]at n;simp[sr];exact n.1) zO λkl c4=>?_;rw[N]at n;have:∀m,s.nx<=m->¬u=m:=λm hm=>by omega
 simp(disch:=try exact zD)[yj,this];simp(disch:=try exact zD)[w,D,j];rw[hJ];refine⟨zS,.inr ⟨by rw[b];simp,s.nx+3200,by rw[b];simp[aA],by rw[b];simp[aA,jhj],?_⟩,zL,λa o=>?_⟩;rw[N];simp;omega;have h3:=(o.up sn).ne;have h4:kl.any (Nat.beq a)=false:=by rw[eO];intro x hx hb;obtain⟨u,n,rfl⟩:=c4 x hx;rw[N]at n;exact o u n.1 (bt hb)
 simp(disch:=try exact zD)[jhj,h3,h4];exact so a o;rw[K,zi O,decide_eq_false c3,bM,bM,za zQ,aL]at b;simp(disch:=try exact zD)[w,s1,s0,ya,yj,F,I,mkS,yb,H,G,rdV,yl,B,S,f2,K,O,c3,T,b0,D,j];exact skip b _ zS zS zL λa o=>by simp(disch:=try exact zD)[o.ne]
 rw[K,decide_eq_false O,bH,dw,za zQ,aL]at b;simp(disch:=try exact zD)[w,s1,s0,ya,yj,F,I,mkS,yb,H,G,rdV,yl,B,S,f2,K,O,D,j];exact skip b _ zS zS zL λa o=>by simp(disch:=try exact zD)[o.ne]
 have:k=(yi g).length:=zO;subst this;simp(disch:=try exact zD)[w,U];exact Ww (by simp[sd]) zS (sI.frame (λu n=>by simp) λu n=>n) (λu n=>by rw[N]at n;simp[sr];exact n.1)
end
section
variable {g:Hist'}{M:List Int}{lvl:Int}
def askL (g:Hist') (M:List Int) (S:Nat->List Int) (n:Nat):List P2:=(List.range n).flatMap λi=>askE g M (S i) i
def jee {S a:List Int}(h:∀x,x∈S ↔ x∈a) (i:Nat) (z:P2):z∈askE g M S i ↔ z∈askE g M a i:=by unfold askE;simp only[aI,bL,h]
def sat_of {S:Nat->List Int}(b:∀i,i<(yi g).length->∀x,x∈S i ↔ x∈X9 g lvl M i):jld g lvl M (yF g (ym g).length++srcL g M (yi g).length++askL g M S (yi g).length):=by intro z;simp only[aQ,yF,srcL,askL,cq,aI,bf];constructor;rintro((⟨i,a,h⟩|⟨i,a,rfl⟩)|⟨i,a,h⟩);exact .inl ⟨i,a,h⟩;exact .inr ⟨i,a,.inl rfl⟩;exact .inr ⟨i,a,.inr ((jee (b i a) i z).1 h)⟩;rintro(⟨i,a,h⟩|⟨i,a,h|h⟩);exact .inl (.inl ⟨i,a,h⟩);exact .inl (.inr ⟨i,a,h.symm⟩);exact .inr ⟨i,a,(jee (b i a) i z).2 h⟩
def jfy (g:Hist') (M:List Int) (i:Nat):X9 g 0 M i=[]:=by unfold X9 jdq;rw[List.eq_nil_iff_forall_not_mem];intro x a;obtain⟨k,_,_,h⟩:=filTo_mem.1 a;simp[jdp]at h
def jj2 (g:Hist') (M:List Int):jld g 0 M (yF g (ym g).length++srcL g M (yi g).length):=by
 have:=sat_of (g:=g) (M:=M) (lvl:=0) (S:=λ_=>[]) λi _ x=>by rw[jfy]
 have e:askL g M (λ_=>[]) (yi g).length=[]:=by simp[askL,askE]
 rwa [e,aL]at this
def jxq (r:W7 g M=true) {x y:Nat}(H:x<g.ts.length) (G:y<g.ts.length):(yF g (ym g).length++srcL g M (yi g).length).contains ((x:Int),(y:Int))=je1 g M x y:=by
 have B:=jj2 g M;have D:((x:Int),(y:Int))∈(yF g (ym g).length++srcL g M (yi g).length) ↔ jdr g 0 M x y=true:=by rw[<- (XO _).mem_iff,<- compP_mem,Qh r B,edgesOf_mem];constructor;rintro⟨a,b,_,_,h,e⟩;have f:(x:Int)=a:=zg Prod.fst e;have l:(y:Int)=b:=zg Prod.snd e;rw[show x=a by omega,show y=b by omega];exact h;exact λh=>⟨x,y,zO,zO,h,rfl⟩
 rw[bA,cC,D];have m:(x==g.ts.length)=false:=by simp;omega
 unfold jdr je1;rw[m,bH,bR,bG];constructor;rintro(h|h);simp only[aj]at h ⊢;exact⟨⟨h.1.1.1,h.1.1.2⟩,by simp[h.1.2,h.2]⟩;obtain⟨i,d,h⟩:=bZ.1 h;have d:=bf.1 d;rw[jfy,show askE g M [] i=[] from rfl]at h;simp only[List.contains_nil,bm,zh]at h;obtain⟨b,q,n,_⟩:=jif d;have f:Jf g (M.getD i 0)=(x:Int):=zg Prod.fst h;have l:((yi g).getD i (0,0)).1=(y:Int):=zg Prod.snd h;have w:=XV r;have s:y=b:=by rw[q]at l;omega
 rcases jyw r d with c|⟨a,v,o,_⟩;unfold Jf at f;rw[zb c]at f;omega;have p:x=a:=by unfold Jf at f;rw[za zO]at f;omega
 rw[p,s,o,n,dq,bM,bG];refine .inr (bZ.2 ⟨((yi g)[i],M[i]),?_,?_⟩);rw[dj];exact⟨i,by simp;omega,zS⟩;have t:M.getD i 0=M[i]:=by simp[ay,aa (show i<M.length by omega)]
 have u:(yi g).getD i (0,0)=(yi g)[i]:=by simp[ay,aa d]
 rw[t]at v;rw[u]at q;simp[v,q];intro h;simp only[aj,bG]at h;obtain⟨⟨f,l⟩,c⟩:=h;rcases c with c|c;left;simp only[aj];exact⟨⟨⟨f,l⟩,c.1⟩,c.2⟩;right;obtain⟨z,F,k⟩:=bZ.1 c;obtain⟨i,d,e⟩:=bq F;simp only[List.length_zip]at d;have j:i<(yi g).length:=zO;rw[List.getElem_zip]at e;simp only[aj,zh]at k;rw[<- e]at k;simp only at k;refine bZ.2 ⟨i,bf.2 j,?_⟩;rw[bG];left;have t:M.getD i 0=M[i]:=by simp[ay,aa (show i<M.length by omega)]
 have u:(yi g).getD i (0,0)=(yi g)[i]:=by simp[ay,aa j]
 unfold j08 Jf;rw[t,u,k.1,k.2,za zO];simp
def jb8 {n:Nat}{r c:Nat->Nat->Bool}(h:∀x y,x<n->y<n->r x y=c x y):∀K,K<=n->∀b a,b<n->a<n->war r K b a=war c K b a
 |0,_,b,a,hb,ha=>h a b ha hb
 |K+1,hK,b,a,hb,ha=>by rw[war,war,jb8 h K zO b a hb ha,jb8 h K zO b K hb zO,jb8 h K zO K a zO ha]
def edB_rev {n:Nat}{L:List P2}{x y:Nat}(i:x<n):edB (revE n L) x y=L.contains ((x:Int),(y:Int)):=by rw[bA];unfold edB revE;simp only[cC,aI,bL,ze];constructor;rintro⟨⟨a,b⟩,⟨d,_⟩,e⟩;have c:b=(y:Int):=zg Prod.fst e;have f:a=(x:Int):=zg Prod.snd e;rw[<- c,<- f];exact d;exact λh=>⟨_,⟨h,by simp only;omega⟩,rfl⟩
def jt8 (o:W7 g M=true) (p:g.ts.length<=8) {i w:Nat}(hi:i<(yi g).length) (f:w<2^g.ts.length/\∀a,a<g.ts.length->w.testBit a=war (edB (revE g.ts.length (yF g (ym g).length++srcL g M (yi g).length))) g.ts.length ((yi g).getD i (0,0)).1.toNat a) (x:Int) :
 x∈yt (yq w) ↔ x∈X9 g 2 M i:=by
 obtain⟨b,k,_,l⟩:=jif hi;rw[k,ba]at f;have c:∀a,a<g.ts.length->w.testBit a=farB g M b a:=λa d=>by rw[f.2 a d];exact jb8 (λx y m n=>by rw[edB_rev m];exact jxq o m n) _ zK b a l d
 unfold X9 jdq yt;rw[filTo_mem,aI];constructor;rintro⟨a,d,rfl⟩;obtain⟨_,j⟩:=bitsUp_mem.1 d;have e:a<g.ts.length:=by rcases cJ a g.ts.length with h|h;exact h;rw[dr (aW f.1 (cl zQ h))]at j;cases j
 refine⟨a,e,rfl,?_⟩;unfold jdp;rw[za zQ,zb rfl,k,ba,<- c a e];exact j;rintro⟨a,d,rfl,h⟩;refine⟨a,bitsUp_mem.2 ⟨zO,?_⟩,rfl⟩;unfold jdp at h;rw[za zQ,zb rfl,k,ba,<- c a d]at h;exact h
def j79 (n:W7 g M=true) {i:Nat}(x:Int):x∈rcS g M i (yi g).length ↔ x∈X9 g 1 M i:=by
 have p:=XV n;unfold X9 jdq rcS;rw[filTo_mem,aI];simp only[bL,bf];constructor;rintro⟨k,⟨d,c⟩,rfl⟩;unfold rcQ at c;simp only[aj,zh,ze]at c;rcases jyw n d with r|⟨a,f,o,l⟩;omega;refine⟨a,l,f,?_⟩;unfold jdp rcB;rw[zb rfl,bZ];have j:M.getD k 0=M[k]:=by simp[ay,aa (show k<M.length by omega)]
 have m:(yi g).getD k (0,0)=(yi g)[k]:=by simp[ay,aa d]
 rw[j]at f;rw[m]at c;refine⟨((yi g)[k],M[k]),?_,by
  show((yi g)[k].1==_&&(decide ((yi g)[k].2<_)&&M[k]==(a:Int)))=true;rw[c.1,zi c.2.1,f];simp⟩
 rw[dj];exact⟨k,by simp;omega,zS⟩;rintro⟨a,f,rfl,h⟩;unfold jdp rcB at h;rw[zb rfl,bZ]at h;obtain⟨z,q,b⟩:=h;obtain⟨k,d,e⟩:=bq q;simp only[List.length_zip]at d;rw[List.getElem_zip]at e;simp only[aj,zh,ze]at b;rw[<- e]at b;simp only at b;have j:M.getD k 0=M[k]:=by simp[ay,aa (show k<M.length by omega)]
 have m:(yi g).getD k (0,0)=(yi g)[k]:=by simp[ay,aa (show k<(yi g).length by omega)]
 refine⟨k,⟨zO,?_⟩,by rw[j];exact b.2.2⟩;unfold rcQ;rw[j,m,b.2.2,b.1,zi b.2.1];simp
end
section
variable {g:Hist'}{M:List Int}{lvl:Int}
def j70 {A:List P2}(b:∀z,z∈A ↔ ∃i,i<(yi g).length/\z∈askE g M (X9 g lvl M i) i):jld g lvl M (yF g (ym g).length++srcL g M (yi g).length++A):=by intro z;rw[aQ,b];simp only[aQ,yF,srcL,cq,aI,bf];constructor;rintro((⟨i,a,h⟩|⟨i,a,rfl⟩)|⟨i,a,h⟩);exact .inl ⟨i,a,h⟩;exact .inr ⟨i,a,.inl rfl⟩;exact .inr ⟨i,a,.inr h⟩;rintro(⟨i,a,h⟩|⟨i,a,h|h⟩);exact .inl (.inl ⟨i,a,h⟩);exact .inl (.inr ⟨i,a,h.symm⟩);exact .inr ⟨i,a,h⟩
def rev_in (m:W7 g M=true):InG g.ts.length (revE g.ts.length (yF g (ym g).length++srcL g M (yi g).length)):=by
 intro z k;unfold revE at k;simp only[aI,bL,ze]at k;obtain⟨p,⟨l,d⟩,rfl⟩:=k;obtain⟨a,b,rfl,t,s⟩:=jot m (jj2 g M) p l;simp only at d ⊢;refine⟨b,a,rfl,?_,zO⟩;rcases cJ b g.ts.length with h|h;exact h;have r:b=g.ts.length:=zO;have j:jdr g 0 M a b=true:=by
  have:((a:Int),(b:Int))∈jo (g.ts.length+1) (jdr g 0 M):=by rw[<- Qh m (jj2 g M),compP_mem,(XO _).mem_iff];exact l
  obtain⟨x,y,_,_,h,e⟩:=edgesOf_mem.1 this;have u:(a:Int)=x:=zg Prod.fst e;have o:(b:Int)=y:=zg Prod.snd e;rw[show a=x by omega,show b=y by omega];exact h
 unfold jdr at j;have n:Jt g b=false:=by cases h:Jt g b;rfl;have:=XF h;omega
 rw[n,dw,bR,dw,bH,bH,bR]at j;obtain⟨i,f,h⟩:=bZ.1 j;have f:=bf.1 f;rw[jfy,show askE g M [] i=[] from rfl]at h;simp only[List.contains_nil,bm,zh]at h;obtain⟨c,n,_,q⟩:=jif f;have o:((yi g).getD i (0,0)).1=(b:Int):=zg Prod.snd h;omega
end
structure SeenF (g:Hist') (lvl:Int) (M:List Int) (mv rv:V) (kX uX ub0:Nat) (K:Nat->Prop) (ob0:ZO) (f:FuncId) (cap:List V):Prop where
 sh:E.sh true f=false
 np:(cap.all λv=>v.strip.pureTop)=false
 ev:∀i,i<(yi g).length->∀(ob':ZO) (ub':Nat) (tk:Nat->Bool) (base:Nat),ub0<=ub'->(∃lv,ob' kX=some ⟨uX,.cells (mkS g mv rv lv)⟩)->(∀key,K key->ob' key=ob0 key) ->
  ∃v,EvO E f (.int .i64 (i:Int)::cap) ob' tk base ub' v/\∃l,(∀x,x∈l ↔ x∈X9 g lvl M i)/\l.length<=100/\j1c l v
def jvy (ub kX:Nat) (lv:V) (Z:List P2) (key:Nat):Prop:=Off ub key/\key≠kX/\j5n lv Z key
section
variable {g:Hist'}{M:List Int}{lvl:Int}{mn rn:Bool}{rt:Option (Nat × Nat)}{kX uX lo:Nat}{ob:ZO}{ub:Nat}{lv:V}
def jl1 {Z:List P2}{ob:ZO}(b:EdV ob lo ub lv Z) (c:Off lo kX) (f:lo<=ub) {u nx:Nat}(i:ub<=u) (d:u<nx):jvy nx kX lv Z (2*u+1):=by
 refine⟨Off.new d,λe=>c u zO e.symm,λw a=>?_⟩;rcases b with⟨rfl,_⟩|⟨v,rfl,_,_,h⟩;cases a;have:v=w:=by injection a
 omega
def sv118 {Yf:YF}{tk:Nat->Bool}{ro base:Nat}(hX:ob kX=some ⟨uX,.cells (mkS g (yl mn yf M) (rdV rt rn (yi g)) lv)⟩) (H:EdV ob lo ub lv (yF g (ym g).length++srcL g M (yi g).length)) (b:Off lo kX) (j:lo<=ub) (a0:ro<=lo) (n:W7 g M=true) (T:g.ts.length<=8) (hR:(yi g).length<=100) (P:lvl=1\/lvl=2) :
 ∃r,EvS E Yf.y 118 [.ptr kX uX 0,.int .i64 lvl] ob tk ro base ub r/\ub<=r.2.2.2/\(∀c,Off ub c->r.2.1 c=ob c)/\∃f q,r.1=.fn (.func f) [] q/\SeenF g lvl M (yl mn yf M) (rdV rt rn (yi g)) kX uX r.2.2.2 (jvy r.2.2.2 kX lv (yF g (ym g).length++srcL g M (yi g).length)) r.2.1 f q:=by
 have b6:=Xd g;have hl:(yF g (ym g).length++srcL g M (yi g).length).length<=10000:=by rw[ap,jjv];have:=jah g 8 (ym g).length zO;have:(ym g).length*(8+1)<=8*9:=bh 9 zO;omega
 have o:=rev_in n;have b5:=jra g.ts.length (yF g (ym g).length++srcL g M (yi g).length);have D:=fun {i:Nat}(l:i<(yi g).length) {w:Nat}=>jt8 (w:=w) n T l;generalize yF g (ym g).length++srcL g M (yi g).length=Z at *;have oX:=(b.up j).ne;refine J6 rfl zQ ?_;show wpC E Yf S118.body _ (Jg S118.res _);rcases P with rfl|rfl
 ·conv in(occs:=*)S118=>all_goals cbv
  simp(disch:=try exact zD)[S118,V.cells,V.leaf];refine JL zS ⟨zL,λc b=>?_,172,[.ptr (2*ub+1) ub 0],zS,rfl,rfl,λi l s d tk base K e F=>?_⟩;have:=b.ne;simp(disch:=try exact zD)[this];have p:ub<d:=by first|omega|(simp at K;omega)
  have B:=F (2*ub+1) (jl1 H b j zK zL);exact⟨_,evo172 n (u2:=ub) (by rw[B];simp) p e (b.up zO) zO l _ _,_,λx=>j79 n x,bI (jxi _ _ _ _) hR,numR_intsV _⟩
 ·conv in(occs:=*)S118=>all_goals cbv
  simp(disch:=try exact zD)[S118,V.cells,V.leaf,ya];refine jJ (vs:=[.ptr kX uX 0]) zS rfl (sv170 (g:=g) (lo:=lo) (mv:=yl mn yf M) (rv:=rdV rt rn (yi g)) (L:=Z) ⟨lv,?_,H.frame (λu _ h=>?_) ?_⟩ b ?_ ?_ zO) ?_;simp(disch:=try exact zD)[oX,hX];have:∀m,ub<=m->¬u=m:=λm n=>by omega
  simp(disch:=try exact zD)[yj,this]
  ·first|omega|(simp;done)|(simp;omega)
  ·first|omega|(simp;done)|(simp;omega)
  ·first|omega|(simp;done)|(simp;omega)
  rintro v1 J X a ⟨S,u3,rfl,Q,N,I⟩;simp only at Q N I;have b0:=N.h;have U:ub<S:=by first|omega|(simp at Q;omega)
  have O:J (2*ub+1)=some ⟨ub,.cells [.ptr kX uX 0]⟩:=by rw[I _ (Off.new zL)];simp
  simp(disch:=try exact zD)[V.cells,V.leaf,ya,j2];refine⟨zO,?_⟩;refine JL zS ⟨zL,λc b=>?_,171,[.ptr (2*a+1) a 0,.ptr (2*ub+1) ub 0],zS,rfl,rfl,λi l s d tk base K e F=>?_⟩;have t:=(b.up (show ub<=a by omega)).ne;simp(disch:=try exact zD)[t];rw[I _ (b.up zL)];have:=b.ne;simp(disch:=try exact zD)[this];have p:a<d:=by first|omega|(simp at K;omega)
  have k:=λ(u:Nat) (t:ub<=u) (B:u<=a)=>F (2*u+1) (jl1 H b j t zL);have G:PastO kX uX (revE g.ts.length Z) S u3 a s:=N.keep (λu t B=>by
   rw[k u zO zO];have:∀m,a<=m->¬u=m:=λm n=>by omega
   simp(disch:=try exact zD)[yj,this]) zK
  obtain⟨v,hv,w,z,hn⟩:=evo171 (M:=M) (mn:=mn) (rt:=rt) (rn:=rn) (u5:=a) (u2:=ub) (ub:=d) G zO (by rw[k a zO zO];simp) (by
   rw[k ub zO zO];simp(disch:=try exact zD)[yj,show ¬ub=a by omega,O]) zO zO e (b.up zO) T o zO l tk base
  refine⟨v,hv,_,λx=>D l z x,?_,hn⟩;rw[J0];have:=jax w;omega
end
section
variable {g:Hist'}{M:List Int}{lvl:Int}{mn rn:Bool}{rt:Option (Nat × Nat)}{kX uX lo:Nat}{ob:ZO}{ub:Nat}{lv:V}{Z:List P2}
structure AskJ (g:Hist') (mv rv:V) (kX uX lo ub:Nat) (K:Nat->Prop) (ob0:ZO) (L:List P2) (ob:ZO) (nx:Nat):Prop where
 e:∃lv',ob kX=some ⟨uX,.cells (mkS g mv rv lv')⟩/\EdV ob lo nx lv' L/\∀key,K key->ob key=ob0 key/\j5n lv' L key
 w:∀key,Off lo key->key≠kX->ob key=ob0 key
 h:lo<=ub/\ub<=nx
 x:Off lo kX
 k:∀key,K key->Off ub key/\key≠kX
def AskJ.up {mv rv:V}{K:Nat->Prop}{ob0:ZO}{L:List P2}{nx nx':Nat}{ob':ZO}(h:AskJ g mv rv kX uX lo ub K ob0 L ob nx) (c:∀a,Off nx a->ob' a=ob a) (j:nx<=nx'):AskJ g mv rv kX uX lo ub K ob0 L ob' nx':=by obtain⟨⟨d,l,i,e⟩,w,⟨n,f⟩,x,k⟩:=h;exact⟨⟨d,(c _ (x.up zO)).trans l,i.frame (λu _ h=>c _ (Off.new h)) j,λa b=>⟨(c _ ((k a b).1.up f)).trans (e a b).1,(e a b).2⟩⟩,λa b m=>(c _ (b.up zO)).trans (w a b m),⟨n,zO⟩,x,k⟩
def AskJ.put {Yf:YF}{mv rv:V}{K:Nat->Prop}{ob0:ZO}{L:List P2}{nx:Nat}{tk:Nat->Bool}{ro base:Nat}(h:AskJ g mv rv kX uX lo ub K ob0 L ob nx) (f:ro<=lo) (i:ro<=uX) (G:L.length<=100000) (a b:Int) :
 ∃r,EvS E Yf.y 168 [.ptr kX uX 0,.int .i64 a,.int .i64 b] ob tk ro base nx r/\nx<=r.2.2.2/\AskJ g mv rv kX uX lo ub K ob0 (L++[(Jf g a,Jf g b)]) r.2.1 r.2.2.2:=by
 obtain⟨⟨v,I,l,o⟩,w,⟨D,s⟩,x,k⟩:=h;obtain⟨r,t,H,⟨B,q,u,j,F,J,z⟩,p⟩:=jwp (Yf:=Yf) (tk:=tk) (ro:=ro) (base:=base) I l x zO f i G a b;refine⟨r,t,H,⟨⟨B,q,.inr ⟨u,j,F,zO,z⟩,λc d=>⟨?_,λw m e=>?_⟩⟩,λc d n=>(p c (d.up zO) n (l.off d)).trans (w c d n),⟨D,zO⟩,x,k⟩⟩;exact(p c ((k c d).1.up s) (k c d).2 (o c d).2).trans (o c d).1;rw[j]at m;have:u=w:=by injection m
 exact(k c d).1 w zO e
def askT (g:Hist') (M:List Int) (l:List Int) (i j:Nat):List P2:=askE g M (l.take j) i
def j0z {l:List Int}{j:Nat}(h:j<l.length) (i:Nat):askT g M l i (j+1)=askT g M l i j++if Jo g l[j] (Wu g ((yi g).getD i (0,0)))&&(l[j] != M.getD i 0) then [(l[j],Jf g (M.getD i 0))] else []:=by unfold askT askE;rw[av h,bN,bE];congr 1;cases a:Jo g l[j] (Wu g ((yi g).getD i (0,0)))&&(l[j] != M.getD i 0)<;>simp only[ct,dA,a,zd,ag,zc,aZ,cn]
def js6 (l:List Int) (i j:Nat):(askT g M l i j).length<=l.length:=by unfold askT askE;rw[bu];refine bI (bO _ _) ?_;rw[ai];omega
def AskR (g:Hist') (lvl:Int) (M:List Int) (mv rv:V) (kX uX lo:Nat) (ob:ZO) (ub:Nat) (Z:List P2) (r:V×(ZO)×(Nat->Bool)×Nat):Prop :=
 ub<=r.2.2.2/\(∃A,(∀z,z∈A ↔ ∃i,i<(yi g).length/\z∈askE g M (X9 g lvl M i) i)/\A.length<=10000/\MkR g mv rv kX uX lo r.2.1 r.2.2.2 (Z++A))/\∀key,Off lo key->key≠kX->r.2.1 key=ob key
def sv117 {Yf:YF}{tk:Nat->Bool}{ro base:Nat}{f:FuncId}{cap:List V}(hs:Small g) (hm:W7 g M=true) (hR:(yi g).length<=100) (hS:SeenF g lvl M (yl mn yf M) (rdV rt rn (yi g)) kX uX ub (jvy ub kX lv Z) ob f cap)
 (hX:ob kX=some ⟨uX,.cells (mkS g (yl mn yf M) (rdV rt rn (yi g)) lv)⟩) (hE:EdV ob lo ub lv Z) (F:Off lo kX) (c7:lo<=ub) (g5:ro<=lo) (g9:ro<=uX) (hZ:Z.length<=10000) :
 ∃r,EvS E Yf.y 117 [.ptr kX uX 0,.fn (.func f) [] cap] ob tk ro base ub r/\AskR g lvl M (yl mn yf M) (rdV rt rn (yi g)) kX uX lo ob ub Z r:=by
 have g7:=XV hm;have c0:=Yx (Xv hm);refine J6 rfl zQ ?_;show wpC E Yf S117.body _ (Jg S117.res _);conv in(occs:=*)S117=>all_goals cbv
 simp(disch:=try exact zD)[S117,ya,hX,mkS,yb,rdV];refine jQ λL o=>?_;have g0:L.tm 0=.ptr kX uX 0:=by rw[o];simp
 have g1:L.tm 1=.fn (.func f) [] cap:=by rw[o];simp
 have f7:L.tm 13=rdV rt rn (yi g):=by rw[o];simp[rdV]
 have e4:L.tm 14=.int .i64 (yi g).length:=by rw[o];simp
 have b5:L.tm 15=.int .i64 0:=by rw[o];simp
 have gd:L.df=[]:=by rw[o];simp
 have gr:L.ro=ro:=by rw[o];simp
 have gJ:AskJ g (yl mn yf M) (rdV rt rn (yi g)) kX uX lo ub (jvy ub kX lv Z) ob Z L.ob L.nx:=by
  have e:L.ob=ob:=by rw[o];simp
  have hn:ub<=L.nx:=by rw[o];first|omega|(simp;done)|(simp;omega)
  rw[e];exact⟨⟨lv,hX,hE.frame (λ_ _ _=>rfl) hn,λc h=>⟨rfl,h.2.2⟩⟩,λ_ _ _=>rfl,⟨c7,hn⟩,F,λc h=>⟨h.1,h.2.1⟩⟩
 clear o;obtain⟨J,hJ⟩:∃J:Nat->St->Prop,J=λi s=>s.tm 15=.int .i64 i/\∃A,(∀z,z∈A ↔ ∃k,k<i/\z∈askE g M (X9 g lvl M k) k)/\A.length<=i*100/\AskJ g (yl mn yf M) (rdV rt rn (yi g)) kX uX lo ub (jvy ub kX lv Z) ob (Z++A) s.ob s.nx:=⟨_,rfl⟩;refine j5 [(4,9),(15,75)] (yi g).length J rfl rfl (by rw[hJ];exact⟨by simpa using b5,[],λz=>by simp,zS,by simpa using gJ⟩) ?_;clear gJ b5;intro i s hi b8 fr;rw[hJ]at b8;obtain⟨b0,A,hA,g6,sJ⟩:=b8;have s0:=(fr.t 0 zS).trans g0;have s1:=(fr.t 1 zS).trans g1;have b9:=(fr.t 13 zS).trans f7;have X:=(fr.t 14 zS).trans e4;have sd:=fr.d.trans gd;have sr:=fr.r.trans gr;clear fr;by_cases D:i<(yi g).length
 ·have d9:=jP D zO;have a0:i<M.length:=zO;have d6:=JC jR rt rn (yi g) .i64 D;have d4:=λob=>Yq (yi g) ob D;have c5:=j4 j6 mn M .i64 a0;have c9:=jj M a0;obtain⟨a,b,ha,hb,hp,c4,_⟩:=jf6 c0 D;have f2:(yi g).getD i (0,0)=((a:Int),(b:Int)):=by simp[ay,aa D,hp]
  have e7:M.getD i 0=M[i]:=by simp[ay,aa a0]
  simp only[hp]at d4;obtain⟨O,e1,e2,e3⟩:=sJ.e;have f1:=sJ.h;simp(disch:=try exact zD)[b0,X,b9,D,rdV,d6,d4,ya,j2];refine⟨by first|omega|(simp[sr];omega),?_⟩;simp(disch:=try exact zD)[s1];refine jsc (f:=f) (first:=[]) (captured:=cap) (vs:=.int .i64 (i:Int)::cap) zS zS hS.sh (by simp only[bU,hS.np,dw]) (hS.ev i D _ _ _ _ ?_ ⟨O,?_⟩ λc H=>?_) λv hv=>?_
  ·first|omega|(simp;done)|(simp;omega)
  have:=(F.up (show lo<=s.nx by omega)).ne;simp(disch:=try exact zD)[this,e1];have:=(H.1.up f1.2).ne;simp(disch:=try exact zD)[this];exact(e3 c H).1;obtain⟨l,hl,h5,nl,e5⟩:=hv;refine Jv e5 λc6 f3=>?_;simp;refine jQ λp n=>?_;obtain⟨z,z1,z2,p5,pZ⟩:∃z,s.nx<=z/\z<p.nx/\p.tm 5=.ptr (2*z+1) z 0/\p.ob (2*z+1)=some ⟨z,.cells [.int .i64 (a:Int),.int .i64 (b:Int)]⟩:=by refine⟨s.nx+256,zO,by rw[n];first|omega|(simp;done)|(simp;omega),by rw[n];simp[aA],by rw[n];simp[aA]⟩
  have p0:p.tm 0=.ptr kX uX 0:=by rw[n];simp[s0]
  have p1:p.tm 1=.fn (.func f) [] cap:=by rw[n];simp[s1]
  have p4:p.tm 4=.int .i64 i:=by rw[n];simp
  have g3:p.tm 13=rdV rt rn (yi g):=by rw[n];simp[b9]
  have g4:p.tm 14=.int .i64 (yi g).length:=by rw[n];simp[X]
  have d7:p.tm 15=.int .i64 i:=by rw[n];simp[b0]
  have d8:p.tm 22=.sl c6 nl l.length (l.flatMap yf):=by rw[n];simp
  have f4:p.tm 23=.int .i64 l.length:=by rw[n];simp
  have b6:p.tm 24=.int .i64 0:=by rw[n];simp
  have pd:p.df=[]:=by rw[n];simp[sd]
  have pr:p.ro=ro:=by rw[n];simp[sr]
  have pw:∀c,Off s.nx c->p.ob c=s.ob c:=λc F=>by have:=F.ne;rw[n];simp(disch:=try exact zD)[this]
  clear n;have pJ:=sJ.up (nx':=p.nx) (ob':=p.ob) pw zO;obtain⟨K2,S⟩:∃K2:Nat->Prop,K2=λc=>jvy ub kX lv Z c\/c=2*z+1:=⟨_,rfl⟩;have d3:AskJ g (yl mn yf M) (rdV rt rn (yi g)) kX uX lo p.nx K2 p.ob (Z++A) p.ob p.nx:=by
   refine⟨⟨O,(pw _ (F.up zO)).trans e1,e2.frame (λu _ h=>pw _ (Off.new h)) zO,λc H=>⟨rfl,?_⟩⟩,λ_ _ _=>rfl,⟨zO,zK⟩,F,λc H=>?_⟩;rw[S]at H;rcases H with H|rfl;exact(e3 c H).2;intro w hw;rcases e2 with⟨rfl,_⟩|⟨w',rfl,_,_,h4⟩;cases hw;have:w'=w:=by injection hw
   omega;rw[S]at H;rcases H with H|rfl;exact⟨H.1.up zO,H.2.1⟩;exact⟨Off.new z2,λe=>F z zO e.symm⟩
  have b7:(g.ts.flatMap jf)[a*3+2]? = some (yl (g.ts[a]).nl yS (g.ts[a]).ops):=by rw[jO j7 g.ts ha (by decide:2<3)];rfl
  have e0:((g.ts[a]).ops.flatMap yS)[b*4+1]? = some (.int .i64 ((g.ts[a]).ops[b]).key):=by rw[jO jD (g.ts[a]).ops hb (by decide:1<4)];rfl
  have f5:Wu g ((yi g).getD i (0,0))=((g.ts[a]).ops[b]).key:=by rw[f2,<- hp];exact c4
  have e6:∀t∈l,∃k:Nat,t=k/\k<g.ts.length:=λt ht=>jos ((hl t).1 ht);obtain⟨J2,N⟩:∃J2:Nat->St->Prop,J2=λj q=>q.tm 24=.int .i64 j/\AskJ g (yl mn yf M) (rdV rt rn (yi g)) kX uX lo p.nx K2 p.ob (Z++A++askT g M l i j) q.ob q.nx:=⟨_,rfl⟩;refine j5 [(7,9),(24,74)] l.length J2 rfl rfl (by rw[N];exact⟨by simpa using b6,by simpa[askT,askE] using d3⟩) ?_;clear b6 d3;intro j q hj d0 fr;rw[N]at d0;obtain⟨I,qJ⟩:=d0;have q0:=(fr.t 0 zS).trans p0;have q4:=(fr.t 4 zS).trans p4;have q5:=(fr.t 5 zS).trans p5;have e8:=(fr.t 15 zS).trans d7;have f6:=(fr.t 22 zS).trans d8;have c8:=(fr.t 23 zS).trans f4;have qd:=fr.d.trans pd;have qr:=fr.r.trans pr;clear fr;obtain⟨f0,c1,c2,c3⟩:=qJ.e;have h0:=qJ.h;by_cases B:j<l.length
  ·have K:=jP B zO;have d5:=JC j6 c6 nl l .i64 B;have T:=jj l B;obtain⟨t,et,f9⟩:=e6 _ (au B);have G:=j0z (g:=g) (M:=M) B i;rw[e7,et,f5]at G;rw[et]at T;have el:=ev169 hs (t:Int) ((g.ts[a]).ops[b]).key;have ez:(Ys (Jr g (t:Int)).2 ((g.ts[a]).ops[b]).key).2=Jo g t ((g.ts[a]).ops[b]).key:=rfl;rw[ez]at el;have g2:=js6 (g:=g) (M:=M) l i j;have qZ:q.ob (2*z+1)=_:=(c3 _ (by rw[S];exact .inr rfl)).1.trans pZ;have U:=(F.up (show lo<=q.nx by omega)).ne;have nz:∀m,q.nx<=m->¬z=m:=λm hm=>by omega
   simp(disch:=try exact zD)[I,c8,f6,q0,q5,B,d5,T,c1,qZ,ya,mkS,yb,j4 j7,j4 jD,b7,e0];refine X4 el zI rfl zI ?_;rw[Jb (by simp[V.plain,J7])];generalize (Ys (Jr g (t:Int)).2 ((g.ts[a]).ops[b]).key).1=rv9 at *;generalize Jo g t ((g.ts[a]).ops[b]).key=rb at *;simp(disch:=try exact zD)[J7,j2,ya];have bX:∀m,q.nx<=m->Nat.beq kX (2*m+1)=false:=λm hm=>JG (U m hm);refine⟨by first|omega|(simp[qr];omega),?_,?_⟩;simp(disch:=try exact zD)[JQ,YW,Wk,QP,yz,yB,yR,Delta.wo,Delta.wt,bX];exact JG zO;have keep:askT g M l i (j+1)=askT g M l i j->∀s':St,s'.tm 24=.int .i64 ((j:Int)+1)->q.nx<=s'.nx->(∀c,Off q.nx c->s'.ob c=q.ob c)->J2 (j+1) s':=λe s' Q h2 h3=>by rw[N];refine⟨by simpa using Q,?_⟩;rw[e];exact qJ.up h3 h2
   cases P:((t:Int) != M[i])
   ·rw[P,dw,za zQ,aL]at G;cases rb;all_goals
     simp(disch:=try exact zD)[I,q0,q4,c5,c9,P,ya,c1,U,mkS,yb,K,B]
     exact keep G _ zS zL λc F=>by simp(disch:=try exact zD)[F.ne]
   ·rw[P,ep]at G;cases rb;rw[za zQ,aL]at G;simp(disch:=try exact zD)[I,K,B];exact keep G _ zS zL λc F=>by simp(disch:=try exact zD)[F.ne]
    ·rw[zb rfl]at G;simp(disch:=try exact zD)[q0,q4,c5,c9,P,ya,c1,U,mkS,yb];refine jJ (vs:=[.ptr kX uX 0,.int .i64 (t:Int),.int .i64 M[i]]) zS rfl ((qJ.up (λc F=>?_) ?_).put ?_ ?_ ?_ _ _) ?_;simp(disch:=try exact zD)[F.ne]
     ·first|omega|(simp;done)|(simp;omega)
     first|omega|(simp[qr];omega)
     first|omega|(simp[qr];omega)
     rw[ap,ap];have:i*100<=100*100:=bh 100 zO;omega;rintro v9 h7 f8 h8 ⟨r1,r2⟩;simp only at r1 r2;have e9:Jf g (t:Int)=t:=by unfold Jf;rw[za zO]
     rw[e9,aY,<- G]at r2;simp(disch:=try exact zD)[I,K,B];rw[N];exact⟨zS,r2.up (λc _=>by simp) zL⟩
  have:j=l.length:=zO;subst this;simp(disch:=try exact zD)[I,c8,e8,d9,D];rw[hJ];have h6:=js6 (g:=g) (M:=M) l i l.length;have hT:∀x,x∈askT g M l i l.length ↔ x∈askE g M (X9 g lvl M i) i:=λx=>by unfold askT;rw[bg];exact jee hl i x
  rw[aY]at qJ;refine⟨zS,A++askT g M l i l.length,λx=>?_,?_,?_⟩;rw[aQ,hA,hT];constructor;rintro(⟨k,F,h⟩|h);exact⟨k,zO,h⟩;exact⟨i,zO,h⟩;rintro⟨k,F,h⟩;rcases cJ k i with Q|Q;exact .inl ⟨k,Q,h⟩;rw[show k=i by omega]at h;exact .inr h;rw[ap,dh];omega;have g8:=qJ.h;refine AskJ.up (ob:=q.ob) (nx:=q.nx) ⟨⟨f0,c1,by rw[<- aY];exact c2,λc H=>?_⟩,λc Q h2=>?_,⟨c7,zO⟩,F,λc h=>⟨h.1,h.2.1⟩⟩ (λc _=>by simp) zL;obtain⟨d1,d2⟩:=c3 c (by rw[S];exact .inl H);rw[<- aY];exact⟨d1.trans (pJ.e.choose_spec.2.2 c H).1,d2⟩;exact(qJ.w c Q h2).trans (pJ.w c Q h2)
 have:i=(yi g).length:=zO;subst this;simp(disch:=try exact zD)[b0,X];obtain⟨⟨O,e1,e2,_⟩,w,h,_,_⟩:=sJ;exact jfj (.inl rfl) (by simp[sd]) ⟨zL,⟨A,hA,zO,O,by simpa[rdV] using e1,e2.frame (λ_ _ _=>by simp) zL⟩,λc Q h2=>by simpa using w c Q h2⟩
end
def sv121v {Yf:YF}{l u:Nat}{T:List Val'}(hT:T.length<=100000) {ob:ZO}{tk:Nat->Bool}{ro base ub:Nat}(ho:ob l=some ⟨u,.cells (T.flatMap J7)⟩) (c0:ro<=u) :
 ∃r,EvS E Yf.y 121 [.osl l u 0 T.length 2] ob tk ro base ub r/\CompP l u T.length (Je T T.length) ob tk ub r:=by
 refine J6 rfl zQ ?_;show wpC E Yf S121.body _ (Jg S121.res _);have b7:=j1 jae T;by_cases h2:T.length<2
 ·have hc:Je T T.length=T:=by
   match T,h2 with
   |[],_=>rfl
   |[x],_=>rfl
   |_::_::_,h=>simp at h;omega
  have Z:(T.length:Int)<2:=zO;rw[hc];conv in(occs:=*)S121=>all_goals cbv
  simp[Z];exact JL zS ⟨zS,⟨_,by simpa using ho,b7,zK,aH zO⟩,λa h=>by simp,zS,by simp;omega⟩
 have Z:¬(T.length:Int)<2:=zO;conv in(occs:=*)S121=>all_goals cbv
 simp[Z];refine j5 [(2,5),(10,59)] (T.length-1) (λk s=>s.tm 3=.int .i64 ((1+k:Nat):Int)/\Je T (1+k)=T.take (1+k)/\s.ob=ob/\s.tk=tk/\ub<=s.nx) rfl rfl ⟨zS,?_,zS,zS,by simp;omega⟩ ?_;rw[bl,jg7 (T:=T) (j:=0) zO (λh=>zf h zO),av zO];rfl;rintro k s hk ⟨Q,c,b,J,d4⟩ f;have f0:s.tm 0=.osl l u 0 T.length 2:=by rw[f.t 0 zS];simp
 have fd:s.df=[]:=by rw[f.d];simp
 have fr:s.ro=ro:=by rw[f.r];simp
 clear f;obtain⟨q,hq⟩:∃q,1+k=q:=⟨_,rfl⟩;rw[hq]at Q c;by_cases o:q<T.length;have c4:(q:Int)<T.length:=zO;have hw:=jP o zO;have b8:IntKind.i64.wrap ((q:Int)-1)=((q-1:Nat):Int):=by rw[wrapN zO zO];omega
 have i1:=idx2 (l:=l) (u:=u) (off:=0) (n:=T.length) (kk:=.i64) (X:=(q:Int)) rfl o;have i0:=idx2 (l:=l) (u:=u) (off:=0) (n:=T.length) (kk:=.i64) (X:=((q-1:Nat):Int)) rfl zO;have l1:=ld2 ho o;have l0:=ld2 ho (show q-1<T.length by omega);have b0:T[q]=T[q-1]->Je T (q+1)=Je T q:=jnr zO o;have c9:T[q]≠T[q-1]->Je T (q+1)=Je T q++[T[q]]:=λh=>jg7 o λ_=>h;have d1:T.take (q+1)=T.take q++[T[q]]:=av o;have I:=j5s T[q] (T[q-1]' zO);rw[bJ]at i1 i0;generalize hx:T[q]=x at *;generalize hy:T[q-1]' zO=y at *;generalize e6:((q-1:Nat):Int)=Q1 at *;cases K:(x==y);have c8:x≠y:=by simpa using K
 rw[K]at I;simp[Q,f0,c4,b8,i1,i0,b,l1,l0];simp[J7,<- I,Q,hw];refine⟨zO,zO,?_,b,J,zO⟩;rw[show 1+(k+1)=q+1 by omega,c9 c8,c,d1];have he:x=y:=by simpa using K
 rw[K]at I;simp[Q,f0,c4,b8,i1,i0,b,l1,l0];have d7:=jh6 (L:=l) (u:=u) (n:=T.length) (i:=q) zO;simp[J7,<- I,Q,f0,d7];refine j5 [(3,3),(5,5),(29,53)] (T.length-q-1) (λj s=>s.tm 5=.int .i64 ((1+j:Nat):Int)/\∃w:Nat,s.tm 3=.int .i64 (w:Int)/\w=(Je T (q+1+j)).length /\
  (∃M:List Val',s.ob l=some ⟨u,.cells (M.flatMap J7)⟩/\M.length=T.length/\M.take w=Je T (q+1+j)/\∀m,q+j<=m->M[m]? = T[m]?)/\(∀a,a≠l->s.ob a=ob a)/\s.tk=tk/\ub<=s.nx) rfl rfl
  ⟨zS,q,by simp[Q],?_,⟨T,by simp[b,ho],rfl,?_,λ_ _=>rfl⟩,λa h=>by simp[b],by simp[J],by simp;omega⟩ ?_
 rw[bl,b0 he,c,ai];omega;rw[bl,b0 he,c];clear d4 J b Q;rintro j s1 hj ⟨g5,w,g3,v,⟨M,gM,b5,B,G⟩,D,a0,e5⟩ f;have g0:s1.tm 0=.osl l u 0 T.length 2:=by rw[f.t 0 zS];simp[f0]
 have g4:s1.tm 4=.osl l u (q*2) (T.length-q) 2:=by rw[f.t 4 zS];simp
 have gd:s1.df=[]:=by rw[f.d];simp[fd]
 have gr:s1.ro=ro:=by rw[f.r];simp[fr]
 clear f;obtain⟨p,hp⟩:∃p,1+j=p:=⟨_,rfl⟩;rw[hp]at g5;rw[show q+1+j=q+p by omega]at v B;have d9:=jjh T (q+p) zO;have e0:w<=q+j:=by
  have e1:Je T (q+1)=T.take q:=by rw[b0 he,c]
  have a:∀j,q+1+j<=T.length->(Je T (q+1+j)).length<=q+j:=by
   intro j;induction j with
   |zero=>intro _;rw[bl,e1,ai];omega
   |succ j ih=>intro h;have:=ih zO;rw[<- aA];simp only[Je,ap,aa (show q+1+j<T.length by omega)];split<;>simp<;>omega
  have:=a j zO;rw[show q+1+j=q+p by omega]at this;omega
 by_cases c6:p<T.length-q;have b6:q+p<T.length:=zO;have F:(p:Int)<((T.length-q:Nat):Int):=zO;have c7:=jP (i:=p) (N:=T.length) zO zO;have S:IntKind.i64.wrap ((p:Int)-1)=((p-1:Nat):Int):=by rw[wrapN zO zO];omega
 have d3:=jP (i:=w) (N:=T.length) zO zO;have k1:=idx2 (l:=l) (u:=u) (off:=q*2) (n:=T.length-q) (kk:=.i64) (X:=(p:Int)) rfl c6;have k0:=idx2 (l:=l) (u:=u) (off:=q*2) (n:=T.length-q) (kk:=.i64) (X:=((p-1:Nat):Int)) rfl zO;have kw:=idx2 (l:=l) (u:=u) (off:=0) (n:=T.length) (kk:=.i64) (X:=(w:Int)) rfl zO;rw[show q*2+p*2=(q+p)*2 by omega]at k1;rw[show q*2+(p-1)*2=(q+p-1)*2 by omega]at k0;rw[bJ]at kw;have d0:M[q+p]' zO=T[q+p]:=by have:=G (q+p) zO;rw[aa zO,aa b6]at this;exact cu this
 have d5:M[q+p-1]' zO=T[q+p-1]' zO:=by have:=G (q+p-1) zO;rw[aa zO,aa zO]at this;exact cu this
 have m1:=ld2 gM (show q+p<M.length by omega);have m0:=ld2 gM (show q+p-1<M.length by omega);rw[d0]at m1;rw[d5]at m0;have z:=j1 jae M;have c2:=st2 (M:=M) (x:=w) zO T[q+p];have P:T[q+p]=T[q+p-1]' zO->Je T (q+p+1)=Je T (q+p):=jnr zO b6;have O:T[q+p]≠T[q+p-1]' zO->Je T (q+p+1)=Je T (q+p)++[T[q+p]]:=λh=>jg7 b6 λ_=>h;have e:=j5s T[q+p] (T[q+p-1]' zO);have d8:w*2+2<=T.length*2:=zO;generalize e2:T[q+p]=x2 at *;generalize e4:T[q+p-1]' zO=y2 at *;generalize e3:((p-1:Nat):Int)=Q2 at *;generalize H:((T.length-q:Nat):Int)=Q3 at *;cases g:(x2==y2);have U:x2≠y2:=by simpa using g
 rw[g]at e;simp[g5,g4,H,F,S,k1,k0,m1,m0];simp[J7]at c2;simp[J7,<- e,g5,g4,g3,g0,c7,d3,k1,m1,kw,ya,gM,z,b5,d8,gr,c0,c2];refine⟨zO,zO,w+1,rfl,?_,⟨M.set w x2,rfl,by simp[b5],?_,λm hm=>?_⟩,λa h=>by simp[h,D],by simp[jk,a0],zO⟩;rw[show q+1+(j+1)=q+p+1 by omega,O U,ap,<- v];rfl;rw[show q+1+(j+1)=q+p+1 by omega,O U,<- B];rw[List.take_set,av (show w<M.length by omega),List.set_append_right _ _ (by rw[ai];omega),ai,cE zO,fV];rfl;rw[cU zO];exact G m zO;have c3:x2=y2:=by simpa using g
 rw[g]at e;simp[g5,g4,H,F,S,k1,k0,m1,m0];simp[J7,<- e,g5,c7];exact⟨zO,zO,w,g3,by rw[show q+1+(j+1)=q+p+1 by omega,P c3];exact v,⟨M,gM,b5,by rw[show q+1+(j+1)=q+p+1 by omega,P c3];exact B,λm hm=>G m zO⟩,D,a0,zO⟩;have d2:q+p=T.length:=zO;rw[d2]at v B;have F:¬(p:Int)<((T.length-q:Nat):Int):=zO;generalize H:((T.length-q:Nat):Int)=Q3 at *;have b9:w<=T.length:=zO;have c1:=jh6 (L:=l) (u:=u) b9;have c5:=j17 (L:=l) (u:=u) b9;have z:=j1 jae M;simp[g5,g4,H,F,g0,g3,c1];refine jse (l:=l) (u:=u) (off:=w*2) (n:=T.length-w) (cs:=M.flatMap J7) zS (by simp[gM]) (by simp[gr,c0]) rfl (by rw[z];omega) ?_;simp[g0,g3,c5];refine JL (by simp[gd]) ⟨by simp[v],⟨_,by simp;rfl,?_,zO,?_⟩,λa h=>by simp[h,D],by simp[jk,a0],by simp;omega⟩;unfold j2;have d6:(ja3 (T.length-w) [V.int .i64 0,V.int .i64 0]).length=(T.length-w)*2:=by simp[ja3]
 simp only[ap,ai,bc,z,d6];omega;rw[<- v,<- B];unfold j2;rw[aY,eV (by rw[ai,z];omega),eC,Nat.min_self];exact jcb jae M w;have:q=T.length:=zO;subst this;simp[Q,f0];rw[bg]at c;rw[c];exact JL (by simp[fd]) ⟨zS,⟨_,by simp[b,ho],b7,zK,aH zO⟩,λa h=>by simp[b],by simp[J],by simp;omega⟩
def toV (p:P2):Val':=⟨p.1,p.2⟩
def toV_inj {p q:P2}:toV p=toV q ↔ p=q:=by obtain⟨a,b⟩:=p;obtain⟨c,d⟩:=q;simp[toV]
def j6o (L:List P2):L.flatMap yT=(L.map toV).flatMap J7:=by rw[List.flatMap_map];rfl
def cF:P2->List P2->List P2
 |_,[]=>[]
 |x,y::s=>if x=y then cF y s else y::cF y s
def j0w (z:P2):∀(r:List P2) (x:P2),cF x (r++[z])=cF x r++if (x::r).getLast? = some z then [] else [z]
 |[],x=>by by_cases h:x=z<;>simp[cF,h]
 |y::s,x=>by rw[cY,cF,cF,j0w z s y,show(x::y::s).getLast? = (y::s).getLast? from by simp[List.getLast?_cons_cons]];by_cases h:x=y;rw[zb h,zb h];rw[za h,za h,cY]
def jsz:∀(r:List P2) (x:P2),ja5 (x::r)=x::cF x r
 |[],x=>rfl
 |y::s,x=>by have a:=jsz s y;rw[ja5,a,cF]
def jns (x:P2) (r:List P2):∀j,j<=r.length->Je ((x::r).map toV) (j+1)=(x::cF x (r.take j)).map toV
 |0,_=>by simp[Je,cF]
 |j+1,h=>by
  rw[Je,jns x r j zO,av zO,j0w,<- cY,bE];congr 1;have e:((x::r).map toV)[j+1]? = some (toV r[j]):=by rw[aV,bY,aa zO];rfl
  have f:((x::r).map toV)[j+1-1]? = ((x::r.take j).getLast?).map toV:=by
   rw[ft,aV];congr 1;rw[List.getLast?_eq_getElem?];cases j with
   |zero=>simp
   |succ j=>simp[ai,cE (show j+1<=r.length by omega)]
  rw[e,f];by_cases b:(x::r.take j).getLast? = some r[j];rw[zb b,zb ⟨zO,by rw[b];rfl⟩];rfl;rw[za b,za λd=>b ?_];rfl;obtain⟨_,a⟩:=d;cases c:(x::r.take j).getLast? with
  |none=>rw[c]at a;cases a
  |some w=>rw[c]at a;simp only[aU,ab]at a;rw[toV_inj.1 a]
def j5b (L:List P2):Je (L.map toV) L.length=(ja5 L).map toV:=by
 cases L with
 |nil=>rfl
 |cons x r=>have:=jns x r r.length zK;rw[bg]at this;rw[jsz];exact this
def sv121 {Yf:YF}{l u:Nat}{L:List P2}(i:L.length<=100000) {ob:ZO}{tk:Nat->Bool}{ro base ub:Nat}(g:ob l=some ⟨u,.cells (L.flatMap yT)⟩) (d:ro<=u) :
 ∃r,EvS E Yf.y 121 [.osl l u 0 L.length 2] ob tk ro base ub r/\r.1=.osl l u 0 (ja5 L).length 2/\∃cs,r.2.1 l=some ⟨u,.cells cs⟩/\(ja5 L).length*2<=cs.length/\cs.take ((ja5 L).length*2)=(ja5 L).flatMap yT:=by
 have a:(L.map toV).length=L.length:=bu ..;obtain⟨r,f,b,⟨cs,h,j,e,c⟩,_⟩:=sv121v (Yf:=Yf) (l:=l) (u:=u) (T:=L.map toV) (by rw[a];exact i) (ob:=ob) (tk:=tk) (ro:=ro) (base:=base) (ub:=ub) (by rw[<- j6o];exact g) d;rw[a]at f b j e c;rw[j5b]at b e c;rw[bu]at b e c;refine⟨r,f,b,cs,h,zO,?_⟩;rw[c,j6o]
def j0i:∀L:List P2,(L.flatMap yT).mapM int64? = some (Wh L)
 |[]=>rfl
 |x::L=>by rw[bk];show(V.int .i64 x.1::V.int .i64 x.2::L.flatMap yT).mapM int64? = _;simp only[bQ,j0i L];rfl
def jik:∀L:List P2,pairsI (Wh L)=L
 |[]=>rfl
 |(a,b)::L=>by simp only[Wh,pairsI,jik L]
def jsq:∀L:List P2,(Wh L).map (V.int .i64)=L.flatMap yT
 |[]=>rfl
 |(a,b)::L=>by simp only[Wh,aZ,jsq L,bk,yT];rfl
def jh5:∀{L:List P2},(∀z∈L,Yn z.1=true/\Yn z.2=true)->(Wh L).all Yn=true
 |[],_=>rfl
 |(a,b)::L,h=>by have c:=h (a,b) (aO ..);simp only[Wh,bU,c.1,c.2,jh5 λz d=>h z (aX _ d),dq]
def sv119 {Yf:YF}{l u:Nat}{L:List P2}(i:L.length<=100000) (c:∀z∈L,Yn z.1=true/\Yn z.2=true) {ob:ZO}{tk:Nat->Bool}{ro base ub:Nat}(f:ob l=some ⟨u,.cells (L.flatMap yT)⟩) (d:ro<=u) :
 ∃r,EvS E Yf.y 119 [.osl l u 0 L.length 2,.fn (.func 120) [] []] ob tk ro base ub r/\ub<=r.2.2.2/\∀a,r.2.1 a=if a=l then some ⟨u,.cells ((ja2 L).flatMap yT)⟩ else ob a:=by
 have e:=j1 XC L;refine⟨(.tup [],upd ob l (some ⟨u,.cells ((ja2 L).flatMap yT)⟩),tk,ub),jle (m:=some 120) rfl ?_ rfl,zK,λa=>by simp[yg]⟩;have h:ya ob l u=some (L.flatMap yT):=by simp[ya,f]
 have b:jq4 (some 120) (Wh L)=true:=jh5 c;simp only[jtw,jls,jhp,QY,h,ah,zd];rw[zb ⟨bS▸d,trivial,zO,zO⟩,du,aH zO,j0i,ah,zb b,jik,jsq];have:((ja2 L).flatMap yT).length=(L.flatMap yT).length:=by rw[j1 XC,j1 XC,(XO L).length_eq]
 rw[j2,dP,dz,bC zO,aL]
def sv119n {Yf:YF}{ob:ZO}{tk:Nat->Bool}{ro base ub:Nat}:∃r,EvS E Yf.y 119 [.sl none true 0 [],.fn (.func 120) [] []] ob tk ro base ub r/\r.2.1=ob/\ub<=r.2.2.2 :=
 ⟨(.tup [],ob,tk,ub),jle (m:=some 120) rfl rfl rfl,rfl,zK⟩
def sv121n {Yf:YF}{ob:ZO}{tk:Nat->Bool}{ro base ub:Nat}:∃r,EvS E Yf.y 121 [.sl none true 0 []] ob tk ro base ub r/\r.1=.sl none true 0 []/\ub<=r.2.2.2:=by
 refine J6 rfl zQ ?_;show wpC E Yf S121.body _ (Jg S121.res _);conv in(occs:=*)S121=>all_goals cbv
 simp;exact JL zS ⟨zS,zL⟩
def jog {F:Env}{Yf:YF}{o:AOpr}{st:St}{ub:Nat}{K:St->Nat->Prop}(h:∀s u,s=st->u=ub->j8 F Yf o s u K):j8 F Yf o st ub K:=h st ub rfl rfl
def jt0 (g:Hist') (lvl:Int) (M:List Int):List P2×Int:=if jnp g lvl M=0 then (jo (g.ts.length+1) (jdr g lvl M),0) else ([],jnp g lvl M)
def SatR (r:List P2×Int) (v:V):Prop:=∃nl,(nl=true->r.1=[])/\TupS [.sl none nl r.1.length (r.1.flatMap yT),.int .i64 r.2] v
section
variable {g:Hist'}{M:List Int}
def ev74 (hs:Small g) (h8:g.ts.length<=8) {mn:Bool}(lvl:Int) (hM:M.length<=100):∃v,Ev E 74 [.int .i64 lvl,.agg (yb g),yl mn yf M] v/\SatR (jt0 g lvl M) v:=by
 have c3:=ev30 hs;have S:=ev114 hs (b:=mn) M zO;rw[jzy]at S;have j:∀{k:St}{e:Int},k.df=[]->k.tm 6=.sl none true 0 []->k.tm 7=.int .i64 e->jt0 g lvl M=([],e)->WO [.t 6,.t 7] (SatR (jt0 g lvl M)) .ret k:=fun {k e} hd h6 h7 he=>by rw[he];exact jhx (ns:=[6,7]) (vs:=[.sl none true 0 [],.int .i64 e]) (ls:=[.sl none true 0 [],.int .i64 e]) (λr h=>⟨true,λ_=>rfl,h⟩) hd (by simp[h6,h7]) zS zS ⟨jM rfl,jM rfl,trivial⟩
 refine JW rfl zQ ?_;conv in(occs:=*)F74=>all_goals cbv
 simp[ya,yb,yl,V.cells,V.leaf];refine jH c3 zH rfl zH ?_;cases G:jX g;simp;exact j (e:=4) zS zS zS (by simp[jt0,jnp,G]);by_cases H:lvl<1;simp[H];exact j (e:=2) zS zS zS (by simp[jt0,jnp,G,H]);by_cases L:2<lvl;simp[H,L];exact j (e:=2) zS zS zS (by simp[jt0,jnp,G,H,L]);simp[H,L,ya];refine jH S zH rfl zH ?_;cases y:W7 g M;simp;exact j (e:=2) zS zS zS (by simp[jt0,jnp,G,H,L,y]);have d5:lvl=1\/lvl=2:=zO;have hE:jt0 g lvl M=(jo (g.ts.length+1) (jdr g lvl M),0):=by simp[jt0,jnp,G,H,L,y]
 rw[hE];obtain⟨vr,c5,b0⟩:=ev72 hs;rw[show jbo g=yi g by simp[jbo,G]]at b0;have f2:=XV y;have hR:(yi g).length<=100:=zO;simp[ya,j2];refine X4 c5 zH rfl zH ?_;refine Jv b0 λrt add=>?_;generalize c0:(yi g).isEmpty=rn;clear c0;simp[j2,V.cells,V.leaf];refine jog λk nx i b6=>?_;obtain⟨c,u1,I,gX⟩:∃c,c<nx/\k.tm 8=.ptr (2*c+1) c 0/\k.ob (2*c+1)=some ⟨c,.cells (mkS g (yl mn yf M) (rdV rt rn (yi g)) (.sl none true 0 []))⟩:=by refine⟨1600,by rw[b6];simp,by rw[i];simp,by rw[i];simp[mkS,yb,yl,rdV]⟩
 have g0:k.tm 0=.int .i64 lvl:=by rw[i];simp
 have gd:k.df=[]:=by rw[i];simp
 have n:k.ro=0:=by rw[i];simp
 have c6:k.tm 32=.ptr (2*c+1) c 0:=by rw[<- I,i];simp
 clear i b6;have X:MkR g (yl mn yf M) (rdV rt rn (yi g)) (2*c+1) c (c+1) k.ob nx []:=⟨_,gX,.inl ⟨rfl,rfl⟩⟩;have J:Off (c+1) (2*c+1):=Off.new (cW _);have f5:=Xd g;have d2:=jah g 8 (ym g).length zO;have d6:(yF g (ym g).length).length<=72:=bI d2 (by have:(ym g).length*(8+1)<=8*9:=bh 9 zO;omega);refine jJ (vs:=[.ptr (2*c+1) c 0]) (by simp[c6]) rfl (sv115 hs G h8 (lo:=c+1) X J zO ?_ ?_) ?_;simp[n];simp[n];rintro v1 f1 d9 U ⟨q1,D,T⟩;simp only at q1 D T;have e7:nx<=U:=by first|omega|(simp at q1;omega)
 clear X gX;simp[I];refine jJ (vs:=[.ptr (2*c+1) c 0]) zS rfl (sv116 (rt:=rt) (rn:=rn) (lo:=c+1) (D.keep (λf0 _=>by simp) (J.up ?_) ?_) y J ?_ ?_ ?_ zO zO) ?_;omega
 ·first|omega|(simp;done)|(simp;omega)
 ·first|omega|(simp;done)|(simp;omega)
 simp[n];simp[n];rintro v2 e3 e8 F ⟨q2,a0,O⟩;simp only at q2 a0 O;have f3:U<=F:=by first|omega|(simp at q2;omega)
 clear D;have d7:=jjv g M (yi g).length;obtain⟨lv,l,m⟩:=a0;simp[I,g0];refine jJ (vs:=[.ptr (2*c+1) c 0,.int .i64 lvl]) zS rfl (sv118 (rt:=rt) (rn:=rn) (mn:=mn) (lo:=c+1) (lv:=lv) ?_ (m.frame (λu _ _=>by simp) ?_) J ?_ ?_ y h8 hR d5) ?_;simpa using l
 ·first|omega|(simp;done)|(simp;omega)
 ·first|omega|(simp;done)|(simp;omega)
 simp[n];rintro v3 b7 e5 b9 ⟨q3,p,f,d3,rfl,hS⟩;simp only at q3 p hS;have e0:F<=b9:=by first|omega|(simp at q3;omega)
 have x:b7 (2*c+1)=some ⟨c,.cells (mkS g (yl mn yf M) (rdV rt rn (yi g)) lv)⟩:=by rw[p _ (J.up zL)];simpa using l
 have w:EdV b7 (c+1) F lv (yF g (ym g).length++srcL g M (yi g).length):=m.frame (λu _ h=>by
  rw[p _ (Off.new zL)];simp) zK
 clear l m;simp;refine jJ (vs:=[.ptr (2*c+1) c 0,.fn (.func f) [] d3]) zS rfl (sv117 (lvl:=lvl) (rt:=rt) (rn:=rn) (mn:=mn) (lo:=c+1) (lv:=lv) (Z:=yF g (ym g).length++srcL g M (yi g).length) hs y hR hS (by simpa using x) (w.frame (λu _ _=>by simp) zO) J zO ?_ ?_ (by rw[ap];omega)) ?_;simp[n];simp[n];rintro v4 d8 e4 d4 ⟨q4,⟨A,hA,e9,e6,d,s⟩,N⟩;simp only at q4 d s N;have f4:b9<=d4:=by first|omega|(simp at q4;omega)
 have q:=j70 hA;have P:=jot y q;have Q:(yF g (ym g).length++srcL g M (yi g).length++A).length<=100000:=by rw[ap,ap];omega
 have b5:=Qh y q;have b8:=(XO (yF g (ym g).length++srcL g M (yi g).length++A)).length_eq;generalize yF g (ym g).length++srcL g M (yi g).length++A=Z at *;have c4:∀z∈Z,Yn z.1=true/\Yn z.2=true:=λz hz=>by obtain⟨a,b,rfl,ha,hb⟩:=P z hz;simp only[Yn,aj,ze];omega
 clear x w hS p O T N hA;rcases s with⟨rfl,rfl⟩|⟨u,rfl,c8,e2,e1⟩;simp(disch:=try exact zD)[I,ya,d,mkS,yb];refine jJ (vs:=[.sl none true 0 [],.fn (.func 120) [] []]) zS rfl sv119n ?_;rintro v5 o c2 d0 ⟨K,q5⟩;simp only at K q5;have B:o (2*c+1)=some ⟨c,.cells (mkS g (yl mn yf M) (rdV rt rn (yi g)) (.sl none true 0 []))⟩:=by rw[K];simpa using d
 simp(disch:=try exact zD)[I,ya,B,mkS,yb];refine jJ (vs:=[.sl none true 0 []]) zS rfl sv121n ?_;rintro v6 c1 d1 c7 ⟨rfl,q6⟩;simp;have he:jo (g.ts.length+1) (jdr g lvl M)=[]:=b5.symm;rw[he];refine jhx (ns:=[6,7]) (vs:=[.sl none true 0 [],.int .i64 0]) (ls:=[.sl none true 0 [],.int .i64 0]) (λr h=>⟨true,λ_=>rfl,h⟩) (by simp[gd]) zS zS zS ⟨jM rfl,jM rfl,trivial⟩;simp(disch:=try exact zD)[I,ya,d,mkS,yb];refine jJ (vs:=[.osl (2*u+1) u 0 Z.length 2,.fn (.func 120) [] []]) zS rfl (sv119 Q c4 (by simpa using c8) ?_) ?_;simp[n];rintro v5 o c2 d0 ⟨q5,K⟩;simp only at K q5;have B:o (2*c+1)=some ⟨c,.cells (mkS g (yl mn yf M) (rdV rt rn (yi g)) (.osl (2*u+1) u 0 Z.length 2))⟩:=by rw[K,za zO];simpa using d
 have c9:o (2*u+1)=some ⟨u,.cells ((ja2 Z).flatMap yT)⟩:=by rw[K,zb rfl]
 simp(disch:=try exact zD)[I,ya,B,mkS,yb];refine jJ (vs:=[.osl (2*u+1) u 0 (ja2 Z).length 2]) (by simp[b8]) rfl (sv121 zO (by simpa using c9) ?_) ?_;simp[n];rintro v6 c1 d1 c7 ⟨rfl,cs,h6,l6,t6⟩;simp only at h6;rw[b5]at l6 t6 ⊢;simp;refine jhx (ns:=[6,7]) (vs:=[.osl (2*u+1) u 0 (jo (g.ts.length+1) (jdr g lvl M)).length 2,.int .i64 0]) (ls:=[.sl none false (jo (g.ts.length+1) (jdr g lvl M)).length ((jo (g.ts.length+1) (jdr g lvl M)).flatMap yT),.int .i64 0]) (λr h=>⟨false,λh=>(by cases h),h⟩) (by simp[gd]) zS zS zS ⟨XP rfl (jh7 (cs:=cs) (by simpa using h6) ?_ l6 t6 (j0j _)),jM rfl,trivial⟩;simp[n]
end
end Go.Pv.T
namespace Go.Pv.T
open Go Go.Pv
end Go.Pv.T
namespace Go.Pv.T
open Go Go.Pv
end Go.Pv.T
namespace Go.Pv.T
open Go Go.Pv
def NumE (r:List Int×Int) (v:V):Prop:=∃nl,(nl=true->r.1=[])/\TupS [.sl none nl r.1.length (r.1.flatMap yf),.int .i64 r.2] v
def jkf {st:St}{a b:Nat}{r:List Int×Int}{t:Option (Nat×Nat)}{nl:Bool}(c:st.df=[]) (d:st.tm a=.sl t nl r.1.length (r.1.flatMap yf)) (f:st.tm b=.int .i64 r.2) (e:nl=true->r.1=[]):WO [.t a,.t b] (NumE r) .ret st :=
 jhx (ns:=[a,b]) (vs:=[.sl t nl r.1.length (r.1.flatMap yf),.int .i64 r.2]) (ls:=[.sl none nl r.1.length (r.1.flatMap yf),.int .i64 r.2]) (λ_ h=>⟨nl,e,h⟩) c (by simp[d,f]) zS zS ⟨XP rfl (ja _ t nl _ _),jM rfl,trivial⟩
section
end
def jtc (l:List Int) (g:FuncId) (cap:V) (p:Int->Bool) (ob:ZO):Prop:=∀(Yf:YF) (x:Int),x∈l->∀(tk:Nat->Bool) (ro base ub:Nat),∃r,EvS E Yf.y g [.int .i64 x,cap] ob tk ro base ub r/\(r.1=.bool (p x)/\r.2.1=ob/\r.2.2.1=tk/\ub<=r.2.2.2)
def jeq {Yf:YF}{q x:A}{st:St}{ub:Nat}{K:St->Nat->Prop}{d:Option Nat}{nm:Bool}{l:List Int}{g:FuncId}{cap:V}{p:Int->Bool}{ob0:ZO}{k:Int}(hp:jtc l g cap p ob0) (t:k∈l) (b:st.ob=ob0) (u:ye E st.tm q=.fn (.func g) [] [cap]) (s:ye E st.tm x=.int .i64 k)
 (r:E.sh nm g=true) (h:∀a,ub<=a->K (jt5 st d (.bool (p k)) ob0 st.tk) a):j8 E Yf ⟨d,.callV q [x],none,nm⟩ st ub K:=by
 refine jzg (f:=g) (first:=[]) (captured:=[cap]) (vs:=[.int .i64 k,cap]) u (by simp[s]) r (by rw[b];exact hp Yf k t st.tk st.ro _ ub) ?_;rintro v n o c ⟨m,e,i,j⟩;simp only at m e i j;subst m e i;exact h c j
def evo147b {p:Int->Bool}{l:List Int}{g:FuncId}{cap:V}{ob:ZO}(B:E.sh true g=true) (hp:jtc l g cap p ob) {L u:Nat}{cs:List V}(x:ob L=some ⟨u,.cells cs⟩) (z:cs.take l.length=l.flatMap yf) (F:l.length<=1000000) (tk:Nat->Bool) (base ub:Nat) :
 EvO E 147 [.osl L u 0 l.length 1,.fn (.func g) [] [cap]] ob tk base ub (.int .i64 (WE p l)):=by
 refine jq rfl ?_;conv in(occs:=*)S147=>all_goals cbv
 simp;refine Yo (n:=l.length) (λk s=>∃i,k=l.length-i/\i<=l.length/\s.df=[]/\s.ob=ob/\s.tm 0=.osl L u 0 l.length 1/\s.tm 1=.fn (.func g) [] [cap]/\s.tm 7=.int .i64 l.length/\s.tm 8=.int .i64 i/\∀j (c:j<l.length),j<i->p l[j]=false)
  ⟨0,zS⟩ ?_
 rintro k s ⟨i,rfl,G,e,d,v,w,r,f,o⟩;by_cases a:i<l.length;have m:=j4k (l:=L) (u:=u) (n:=l.length) (kk:=.i64) (X:=(i:Int)) rfl a;have q:=OwnI.at z a;simp[v,w,r,f,a,m,ya,d,x,q];refine jeq hp (au a) (by simpa using d) zS (k:=l[i]) zS B λD y=>?_;cases b:p l[i];simp[v,w,r,f,e];refine⟨l.length-(i+1),zO,i+1,rfl,zO,by rw[jg zO zO];simp,?_⟩;intro j c t;rcases bi.1 t with h|rfl
 exact o j c h;exact b;simp;refine j3 (by simpa using e) ?_ rfl;simp;rw[YY a b o];have:i=l.length:=zO;subst this;simp[r,f];refine j3 (by simpa using e) ?_ rfl;simp[WD (λj c=>o j c c)]
def sv153b {Yf:YF}{g:FuncId}{a b c:Nat}{p:Int->Bool}(hg:E.sh true g=true) {ob:ZO}{tk:Nat->Bool}{ro base ub L u:Nat}{l:List Int}(hl:l.length<=1000000) (ho:ob L=some ⟨u,.cells (l.flatMap yf)⟩) (b0:ro<=u)
 (hp:∀U:ZO,(∀q,q≠L->U q=ob q)->jtc l g (.ptr a b c) p U) :
 ∃r,EvS E Yf.y 153 [.osl L u 0 l.length 1,.fn (.func g) [] [.ptr a b c]] ob tk ro base ub r/\DelP L u (l.filter λx=>!p x) ob tk ub r:=by
 refine J6 rfl zQ ?_;show wpC E Yf S153.body _ (Jg S153.res _);have Q:=λtk base ub=>evo147b (g:=g) (cap:=.ptr a b c) hg (hp ob λ_ _=>rfl) ho (by rw[aH (by rw[j1 j6];omega)]) hl tk base ub;conv in(occs:=*)S153=>all_goals cbv
 simp;refine jN (vs:=[.osl L u 0 l.length 1,.fn (.func g) [] [.ptr a b c]]) zS rfl rfl (by simpa using Q _ _ _) ?_;cases O:l.findIdx? p with
 |none=>
  have J:WE p l = -1:=by unfold WE;rw[O]
  rw[J];simp;refine JL zS ⟨.inr ⟨L,u,l.flatMap yf,by simp[jd7 O],by simpa using ho,?_,?_⟩,λq h=>by simp,zS,by simp;omega,.inr ⟨_,by simp;rfl⟩⟩;rw[jd7 O,j1 j6];omega;rw[jd7 O,aH (by rw[j1 j6];omega)]
 |some v=>
  have J:WE p l=(v:Int):=by unfold WE;rw[O]
  rw[J];obtain⟨Z,c3,b7⟩:=eL.1 O;have c2:((v:Int) == -1)=false:=zS;have c6:=jP Z zO;have b6:jcw p l (v+1)=l.take v:=by rw[ji3 Z,c3];simp only[zd,aL];unfold jcw;rw[fh];intro x hx;obtain⟨j,G,rfl⟩:=dj.1 hx;rw[ai]at G;rw[ew];have:=b7 j zO;simpa using this
  simp[c2,c6];refine j5 [(5,7),(16,35)] (l.length-(v+1)) (λk s=>s.tm 6=.int .i64 ((v+1+k:Nat):Int)/\s.tm 5=.int .i64 ((jcw p l (v+1+k)).length:Int)/\(∃cs,s.ob L=some ⟨u,.cells cs⟩/\cs.length=l.length/\cs.take (jcw p l (v+1+k)).length=(jcw p l (v+1+k)).flatMap yf/\∀j,v+1+k<=j->cs[j]? = (l.flatMap yf)[j]?)/\(∀q,q≠L->s.ob q=ob q)/\s.tk=tk/\ub<=s.nx) rfl rfl ⟨zS,by simp[b6];omega,⟨l.flatMap yf,by simpa using ho,by rw[j1 j6];omega,?_,λ_ _=>rfl⟩,λq h=>by simp,zS,by simp;omega⟩ ?_;rw[bl,b6];rw[ai,cE zO,jhz];rintro k s hk ⟨P,H,⟨cs,F,D,w,o⟩,z,K,d5⟩ f;have f0:s.tm 0=.osl L u 0 l.length 1:=by rw[f.t 0 zS];simp
  have f1:s.tm 1=.fn (.func g) [] [.ptr a b c]:=by rw[f.t 1 zS];simp
  have fd:s.df=[]:=by rw[f.d];simp
  have fr:s.ro=ro:=by rw[f.r];simp
  clear f;have B:=j3m p l (v+1+k);by_cases d4:k<l.length-(v+1);have G:v+1+k<l.length:=zO;obtain⟨j,c9⟩:∃j,v+1+k=j:=⟨_,rfl⟩;rw[c9]at P H w o G B;have S:v+1+(k+1)=j+1:=zO;have a0:=jP (i:=j) (N:=l.length) G zO;have e:=ji3 (p:=p) G;have c4:cs[j]? = some (.int .i64 l[j]):=by rw[o j zK,jj l G]
  have c7:=j4k (l:=L) (u:=u) (n:=l.length) (kk:=.i64) (X:=(j:Int)) rfl G;have c5:(j:Int)<l.length:=zO;simp[P,f0,f1,c5,c7,ya,F,c4];refine jeq (hp s.ob z) (au G) zS zS (k:=l[j]) zS hg λd3 d2=>?_;cases T:p l[j];rw[T]at e;simp only[ag,zc]at e;obtain⟨i,b8⟩:∃i,(jcw p l j).length=i:=⟨_,rfl⟩;rw[b8]at H w B;have M:i<l.length:=zO;have c1:=jP (i:=i) (N:=l.length) M zO;have c0:=j4k (l:=L) (u:=u) (n:=l.length) (kk:=.i64) (X:=(i:Int)) rfl M;have d0:i+1<=l.length:=M;have b5:(jcw p l (j+1)).length=i+1:=by rw[e,ap,b8];rfl
  simp[P,H,f0,c0,ya,F,fr,b0,D,d0,a0,c1];rw[S];refine⟨zO,zO,by rw[b5];omega,⟨?_,?_,λm hm=>?_⟩,λq h=>by simp[h,z],by simp[jk,K],zO⟩;unfold j2;simp only[ap,ai,bc,eu,D];omega;have I:(cs.take i++[V.int .i64 l[j]]).length=i+1:=by rw[ap,ai];simp;omega
  rw[b5,e,bK,<- w];unfold j2;exact ek I;have hs:j2 cs i [.int .i64 l[j]]=cs.set i (.int .i64 l[j]):=by unfold j2;rw[cN,zb zO,aY];rfl
  rw[hs,cU zO];exact o m zO;rw[T]at e;simp only[zd,aL]at e;simp[P,H,a0];rw[S,e];exact⟨zO,zO,rfl,⟨cs,F,D,w,λm hm=>o m zO⟩,z,by simp[K],zO⟩;have c8:v+1+k=l.length:=zO;rw[c8]at P H w o B;have b9:jcw p l l.length=l.filter λx=>!p x:=by unfold jcw;rw[bg]
  rw[b9]at H w B;generalize (l.filter λx=>!p x)=R at *;have d1:(R.length:Int)<=l.length:=zO;simp[P,H,f0,jty B];refine jse (l:=L) (u:=u) (off:=R.length) (n:=l.length-R.length) (cs:=cs) zS (by simpa using F) (by simp[fr,b0]) rfl zO ?_;simp[H,f0,j15 B];have I:(cs.take R.length).length=R.length:=by rw[ai];omega
  refine JL (by simp[fd]) ⟨.inr ⟨L,u,_,zS,by simp;rfl,?_,?_⟩,λq h=>by simp[h,z],?_,?_,.inr ⟨_,by simp;rfl⟩⟩;unfold j2;simp only[ap,ai];omega;unfold j2;rw[aY];rw[ek I];exact w;simp[jk,K];simp;omega
def sv154 {g:Hist'}{u:Nat}{ob:ZO}(e:ob (2*u+1)=some ⟨u,.cells (yb g)⟩) {l:List Int}(n:∀x∈l,0<=x/\x<=g.ts.length):jtc l 154 (.ptr (2*u+1) u 0) (λx=>!(ym g).contains x) ob:=by
 intro r x q z t i w;obtain⟨v,D⟩:=n x q;obtain⟨k,rfl⟩:∃k:Nat,x=k:=⟨x.toNat,zO⟩;have y:k<=g.ts.length:=zO;have s:(ym g).contains (k:Int)=Jt g k:=by rw[bA,cC,comL_mem];constructor;rintro⟨j,B,h⟩;have:j=k:=zO;subst this;exact h;exact λh=>⟨k,rfl,h⟩
 simp only[];rw[s];refine J6 rfl zQ ?_;show wpC E r S154.body _ (Jg S154.res _);by_cases b:k=g.ts.length
 ·have d:Jt g k=false:=by cases h:Jt g k;rfl;exact zf (XF h) zO
  conv in(occs:=*)S154=>all_goals cbv
  simp[ya,e,yb,b];refine JL zS ⟨by rw[<- b,d];simp,by funext key;simp,zS,zL⟩
 ·have a:k<g.ts.length:=zO;have p:=j4 j7 g.tn g.ts .i64 a;have c:Jt g k=(g.ts[k].f==1):=by unfold Jt;rw[aa a];rfl
  have m:=jO (f:=jf) j7 g.ts a (by decide:1<3);have o:((k:Int)==(g.ts.length:Int))=false:=by rw[zk];omega
  conv in(occs:=*)S154=>all_goals cbv
  simp[ya,e,yb,o,p,m,show(jf g.ts[k])[1]? = some (.int .i64 g.ts[k].f) from rfl];refine JL zS ⟨by rw[c];simp[bne],by funext key;simp,zS,zL⟩
def jqt {n:Nat}{p:Nat->Nat->Bool}:∀(k:Nat) (D:List Nat),(∀x∈D,x<n)->∀b,QW n p k D=some b->∀x∈b,x<n
 |0,D,h,b,e=>by
  have:D=b:=by simpa[QW] using e
  subst this;exact h
 |k+1,D,h,b,e=>by
  unfold QW at e;cases d:(List.range n).find? (WB n p D) with
  |none=>rw[d]at e;cases e
  |some a=>rw[d]at e;refine jqt k (D++[a]) (λx c=>?_) b e;rcases aQ.1 c with c|c;exact h x c;have:=bf.1 (im d);rw[ae.1 c];exact this
def jb9 {n:Nat}{p:Nat->Nat->Bool}:∀(k:Nat) (D:List Nat) (b:List Nat),QW n p k D=some b->b.length=D.length+k
 |0,D,b,e=>by
  have:D=b:=by simpa[QW] using e
  subst this;rfl
 |k+1,D,b,e=>by
  unfold QW at e;cases c:(List.range n).find? (WB n p D) with
  |none=>rw[c]at e;cases e
  |some a=>rw[c]at e;rw[jb9 k (D++[a]) b e];simp;omega
def jnq (N:Nat) (p:Nat->Nat->Bool):(jo N p).length<=N*N:=by
 unfold jo;rw[List.length_flatMap];have:∀l:List Nat,(l.map λa=>(((List.range N).filter (p a)).map λb:Nat=>((a:Int),(b:Int))).length).sum<=l.length*N:=by
  intro l;induction l with
  |nil=>simp
  |cons x l c=>have d:((List.range N).filter (p x)).length<=N:=bI (bO _ _) zS;simp only[aZ,List.sum_cons,bu,bj,dh];simp only[bu]at c;omega
 simpa using this (List.range N)
def jsw (N:Nat) (p:Nat->Nat->Bool):InG N (jo N p):=λz f=>by obtain⟨a,b,c,d,_,e⟩:=edgesOf_mem.1 f;exact⟨a,b,e,c,d⟩
def jo4 (g:Hist') (lvl:Int) (M:List Int):List Int×Int :=
 if jnp g lvl M=0 then match jbj (g.ts.length+1) (jo (g.ts.length+1) (jdr g lvl M)) with
  |none=>([],3)
  |some D=>((yt D).filter λx=>(ym g).contains x,0)
 else ([],jnp g lvl M)
section
variable {g:Hist'}{M:List Int}
def ev102 (hs:Small g) (h8:g.ts.length<=8) {mn:Bool}(lvl:Int) (I:M.length<=100) :
 ∃v,Ev E 102 [.int .i64 lvl,.agg (yb g),yl mn yf M] v/\NumE (jo4 g lvl M) v:=by
 obtain⟨N,q,f,hn,hv⟩:=ev74 hs h8 (mn:=mn) lvl I;have hw:=jg (n:=((g.ts.length:Int)+1)) zO zO;refine JW rfl zQ ?_;conv in(occs:=*)F102=>all_goals cbv
 simp[ya,yb,yl,V.cells,V.leaf];refine jH q zH rfl zH ?_;refine jw8 hv λH G=>?_;by_cases m:jnp g lvl M=0;have B:jt0 g lvl M=(jo (g.ts.length+1) (jdr g lvl M),0):=by simp[jt0,m]
 rw[B]at hn ⊢;simp[ya,hw];generalize F:jo (g.ts.length+1) (jdr g lvl M)=L at *;have z:InG (g.ts.length+1) L:=by rw[<- F];exact jsw _ _
 have y:L.length<=10000:=by have X:=jnq (g.ts.length+1) (jdr g lvl M);have:(g.ts.length+1)*(g.ts.length+1)<=9*9:=ig zO zO;rw[F]at X;omega
 have b:jo4 g lvl M=match jbj (g.ts.length+1) L with
  |none=>([],3)
  |some D=>((yt D).filter λx=>(ym g).contains x,0):=by rw[jo4,zb m,F]
 refine jJ (vs:=[.int .i64 ((g.ts.length+1:Nat):Int),.sl H f L.length (L.flatMap yT)]) zS rfl (sv152 zS zO zO (.inl ⟨H,f,rfl⟩) z y) ?_;rintro v1 a0 J b5 ⟨U,i,d⟩;simp only at U i d;cases o:jbj (g.ts.length+1) L with
 |none=>rw[o]at d b;simp only at d;subst d;simp;rw[b];exact jkf (r:=([],3)) (t:=none) (nl:=true) zS zS zS (λ_=>rfl)
 |some D=>
  rw[o]at d b;obtain⟨v,rfl,u,rfl,Z,o2,o3⟩:=d;have s:=jqt _ _ (λx h=>by cases h) D o;have e:∀x∈yt D,0<=x/\x<=g.ts.length:=λx hx=>by obtain⟨a,ha,rfl⟩:=aI.1 hx;have:=s a ha;omega
  simp;refine jJ (vs:=[.osl (2*u+1) u 0 (yt D).length 1,.fn (.func 154) [] [.ptr (2*0+1) 0 0]]) zS rfl (sv153b (l:=yt D) (p:=λx=>!(ym g).contains x) rfl ?_ (by simpa using Z) zS λb0 h=>sv154 (g:=g) ?_ e) ?_;have:=jb9 _ _ D o;simp at this;rw[J0];omega;rw[h _ zO];simp;rw[i 1 (show Off _ (2*0+1) from Off.new zO)];simp[yb,yl];rintro v2 P Q S ⟨c,w,_,q2,_⟩;simp only at c w q2;have k:((yt D).filter λx=>!!(ym g).contains x)=(yt D).filter λx=>(ym g).contains x:=zS;rw[k]at c;have j:jo4 g lvl M=((yt D).filter λx=>(ym g).contains x,0):=b;rw[j];clear b j k;generalize ((yt D).filter λx=>(ym g).contains x)=R at *;rcases c with⟨rfl,rfl⟩|⟨L2,T,cs,rfl,h6,l6,O⟩
  simp;exact jkf (r:=([],0)) (t:=none) (nl:=true) zS zS zS (λ_=>rfl);simp;refine jhx (ns:=[6,7]) (vs:=[.osl L2 T 0 R.length 1,.int .i64 0]) (ls:=[.sl none false R.length (R.flatMap yf),.int .i64 0]) (λr h=>⟨false,λh=>(by cases h),h⟩) zS zS zS zS ⟨XP rfl (jh7 (cs:=cs) (by simpa using h6) ?_ zO (by simpa using O) (ju7 _)),jM rfl,trivial⟩;simp
 have B:jt0 g lvl M=([],jnp g lvl M):=by simp[jt0,m]
 have b:jo4 g lvl M=([],jnp g lvl M):=by simp[jo4,m]
 rw[B,b];have K:(jnp g lvl M != 0)=true:=by simpa using m
 simp[K];exact jkf (r:=([],jnp g lvl M)) (t:=none) (nl:=true) zS zS zS (λ_=>rfl)
end
end Go.Pv.T
