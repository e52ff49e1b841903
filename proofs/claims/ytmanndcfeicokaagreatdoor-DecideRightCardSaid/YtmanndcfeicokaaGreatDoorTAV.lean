/- Part. -/
import Derived.Test.YtmanndcfeicokaaGreatDoorTAU
set_option maxRecDepth 100000
set_option maxHeartbeats 8000000
set_option linter.all false
namespace Go.Pv.T
open Go Go.Pv
section
variable {g:Hist'}{M:List Int}{lvl:Int}
def askL (g:Hist') (M:List Int) (S:Nat->List Int) (n:Nat):List P2:=(List.range n).flatMap λi=>askE g M (S i) i
def jea {S a:List Int}(h:∀x,x∈S ↔ x∈a) (i:Nat) (z:P2):z∈askE g M S i ↔ z∈askE g M a i:=by unfold askE;simp only[aE,bu,h]
def sat_of {S:Nat->List Int}(b:∀i,i<(yi g).length->∀x,x∈S i ↔ x∈WH g lvl M i):jv1 g lvl M (yE g (ym g).length++srcL g M (yi g).length++askL g M S (yi g).length):=by intro z;simp only[aQ,yE,srcL,askL,ci,aE,aM];constructor;rintro((⟨i,a,h⟩|⟨i,a,rfl⟩)|⟨i,a,h⟩);exact .inl ⟨i,a,h⟩;exact .inr ⟨i,a,.inl rfl⟩;exact .inr ⟨i,a,.inr ((jea (b i a) i z).1 h)⟩;rintro(⟨i,a,h⟩|⟨i,a,h|h⟩);exact .inl (.inl ⟨i,a,h⟩);exact .inl (.inr ⟨i,a,h.symm⟩);exact .inr ⟨i,a,(jea (b i a) i z).2 h⟩
def jfy (g:Hist') (M:List Int) (i:Nat):WH g 0 M i=[]:=by unfold WH WZ;rw[List.eq_nil_iff_forall_not_mem];intro x a;obtain⟨k,_,_,h⟩:=filTo_mem.1 a;simp[Qn]at h
def jkf (g:Hist') (M:List Int):jv1 g 0 M (yE g (ym g).length++srcL g M (yi g).length):=by
 have:=sat_of (g:=g) (M:=M) (lvl:=0) (S:=λ_=>[]) λi _ x=>by rw[jfy]
 have e:askL g M (λ_=>[]) (yi g).length=[]:=by simp[askL,askE]
 rwa [e,aP]at this
def jx0 (r:Xl g M=true) {x y:Nat}(H:x<g.ts.length) (G:y<g.ts.length):(yE g (ym g).length++srcL g M (yi g).length).contains ((x:Int),(y:Int))=ja5 g M x y:=by
 have B:=jkf g M;have D:((x:Int),(y:Int))∈(yE g (ym g).length++srcL g M (yi g).length) ↔ Qd g 0 M x y=true:=by rw[<- (XN _).mem_iff,<- compP_mem,Qo r B,edgesOf_mem];constructor;rintro⟨a,b,_,_,h,e⟩;have f:(x:Int)=a:=zg Prod.fst e;have l:(y:Int)=b:=zg Prod.snd e;rw[show x=a by omega,show y=b by omega];exact h;exact λh=>⟨x,y,zO,zO,h,rfl⟩
 rw[bz,bx,D];have m:(x==g.ts.length)=false:=by simp;omega
 unfold Qd ja5;rw[m,bE,bQ,bq];constructor;rintro(h|h);simp only[ab]at h ⊢;exact⟨⟨h.1.1.1,h.1.1.2⟩,by simp[h.1.2,h.2]⟩;obtain⟨i,d,h⟩:=bD.1 h;have d:=aM.1 d;rw[jfy,show askE g M [] i=[] from rfl]at h;simp only[List.contains_nil,bI,zh]at h;obtain⟨b,q,n,_⟩:=jej d;have f:Jl g (M.getD i 0)=(x:Int):=zg Prod.fst h;have l:((yi g).getD i (0,0)).1=(y:Int):=zg Prod.snd h;have w:=XE r;have s:y=b:=by rw[q]at l;omega
 rcases jr8 r d with c|⟨a,v,o,_⟩;unfold Jl at f;rw[zb c]at f;omega;have p:x=a:=by unfold Jl at f;rw[za zO]at f;omega
 rw[p,s,o,n,di,bF,bq];refine .inr (bD.2 ⟨((yi g)[i],M[i]),?_,?_⟩);rw[cw];exact⟨i,by simp;omega,zS⟩;have t:M.getD i 0=M[i]:=by simp[am,aa (show i<M.length by omega)]
 have u:(yi g).getD i (0,0)=(yi g)[i]:=by simp[am,aa d]
 rw[t]at v;rw[u]at q;simp[v,q];intro h;simp only[ab,bq]at h;obtain⟨⟨f,l⟩,c⟩:=h;rcases c with c|c;left;simp only[ab];exact⟨⟨⟨f,l⟩,c.1⟩,c.2⟩;right;obtain⟨z,F,k⟩:=bD.1 c;obtain⟨i,d,e⟩:=ba F;simp only[il]at d;have j:i<(yi g).length:=zO;rw[ic]at e;simp only[ab,zh]at k;rw[<- e]at k;simp only at k;refine bD.2 ⟨i,aM.2 j,?_⟩;rw[bq];left;have t:M.getD i 0=M[i]:=by simp[am,aa (show i<M.length by omega)]
 have u:(yi g).getD i (0,0)=(yi g)[i]:=by simp[am,aa j]
 unfold jov Jl;rw[t,u,k.1,k.2,za zO];simp
def jb7 {n:Nat}{r c:Nat->Nat->Bool}(h:∀x y,x<n->y<n->r x y=c x y):∀K,K<=n->∀b a,b<n->a<n->war r K b a=war c K b a
 |0,_,b,a,hb,ha=>h a b ha hb
 |K+1,hK,b,a,hb,ha=>by rw[war,war,jb7 h K zO b a hb ha,jb7 h K zO b K hb zO,jb7 h K zO K a zO ha]
def edB_rev {n:Nat}{L:List P2}{x y:Nat}(i:x<n):edB (revE n L) x y=L.contains ((x:Int),(y:Int)):=by rw[bz];unfold edB revE;simp only[bx,aE,bu,ze];constructor;rintro⟨⟨a,b⟩,⟨d,_⟩,e⟩;have c:b=(y:Int):=zg Prod.fst e;have f:a=(x:Int):=zg Prod.snd e;rw[<- c,<- f];exact d;exact λh=>⟨_,⟨h,by simp only;omega⟩,rfl⟩
def jt9 (o:Xl g M=true) (p:g.ts.length<=8) {i w:Nat}(hi:i<(yi g).length) (f:w<2^g.ts.length/\∀a,a<g.ts.length->w.testBit a=war (edB (revE g.ts.length (yE g (ym g).length++srcL g M (yi g).length))) g.ts.length ((yi g).getD i (0,0)).1.toNat a) (x:Int) :
 x∈yq (yp w) ↔ x∈WH g 2 M i:=by
 obtain⟨b,k,_,l⟩:=jej hi;rw[k,aX]at f;have c:∀a,a<g.ts.length->w.testBit a=farB g M b a:=λa d=>by rw[f.2 a d];exact jb7 (λx y m n=>by rw[edB_rev m];exact jx0 o m n) _ zK b a l d
 unfold WH WZ yq;rw[filTo_mem,aE];constructor;rintro⟨a,d,rfl⟩;obtain⟨_,j⟩:=bitsUp_mem.1 d;have e:a<g.ts.length:=by rcases cD a g.ts.length with h|h;exact h;rw[dZ (aW f.1 (cu zQ h))]at j;cases j
 refine⟨a,e,rfl,?_⟩;unfold Qn;rw[za zQ,zb rfl,k,aX,<- c a e];exact j;rintro⟨a,d,rfl,h⟩;refine⟨a,bitsUp_mem.2 ⟨zO,?_⟩,rfl⟩;unfold Qn at h;rw[za zQ,zb rfl,k,aX,<- c a d]at h;exact h
def j8j (n:Xl g M=true) {i:Nat}(x:Int):x∈rcS g M i (yi g).length ↔ x∈WH g 1 M i:=by
 have p:=XE n;unfold WH WZ rcS;rw[filTo_mem,aE];simp only[bu,aM];constructor;rintro⟨k,⟨d,c⟩,rfl⟩;unfold rcQ at c;simp only[ab,zh,ze]at c;rcases jr8 n d with r|⟨a,f,o,l⟩;omega;refine⟨a,l,f,?_⟩;unfold Qn rcB;rw[zb rfl,bD];have j:M.getD k 0=M[k]:=by simp[am,aa (show k<M.length by omega)]
 have m:(yi g).getD k (0,0)=(yi g)[k]:=by simp[am,aa d]
 rw[j]at f;rw[m]at c;refine⟨((yi g)[k],M[k]),?_,by
  show((yi g)[k].1==_&&(decide ((yi g)[k].2<_)&&M[k]==(a:Int)))=true;rw[c.1,zi c.2.1,f];simp⟩
 rw[cw];exact⟨k,by simp;omega,zS⟩;rintro⟨a,f,rfl,h⟩;unfold Qn rcB at h;rw[zb rfl,bD]at h;obtain⟨z,q,b⟩:=h;obtain⟨k,d,e⟩:=ba q;simp only[il]at d;rw[ic]at e;simp only[ab,zh,ze]at b;rw[<- e]at b;simp only at b;have j:M.getD k 0=M[k]:=by simp[am,aa (show k<M.length by omega)]
 have m:(yi g).getD k (0,0)=(yi g)[k]:=by simp[am,aa (show k<(yi g).length by omega)]
 refine⟨k,⟨zO,?_⟩,by rw[j];exact b.2.2⟩;unfold rcQ;rw[j,m,b.2.2,b.1,zi b.2.1];simp
end
section
variable {g:Hist'}{M:List Int}{lvl:Int}
def j78 {A:List P2}(b:∀z,z∈A ↔ ∃i,i<(yi g).length/\z∈askE g M (WH g lvl M i) i):jv1 g lvl M (yE g (ym g).length++srcL g M (yi g).length++A):=by intro z;rw[aQ,b];simp only[aQ,yE,srcL,ci,aE,aM];constructor;rintro((⟨i,a,h⟩|⟨i,a,rfl⟩)|⟨i,a,h⟩);exact .inl ⟨i,a,h⟩;exact .inr ⟨i,a,.inl rfl⟩;exact .inr ⟨i,a,.inr h⟩;rintro(⟨i,a,h⟩|⟨i,a,h|h⟩);exact .inl (.inl ⟨i,a,h⟩);exact .inl (.inr ⟨i,a,h.symm⟩);exact .inr ⟨i,a,h⟩
def rev_in (m:Xl g M=true):InG g.ts.length (revE g.ts.length (yE g (ym g).length++srcL g M (yi g).length)):=by
 intro z k;unfold revE at k;simp only[aE,bu,ze]at k;obtain⟨p,⟨l,d⟩,rfl⟩:=k;obtain⟨a,b,rfl,t,s⟩:=jxc m (jkf g M) p l;simp only at d ⊢;refine⟨b,a,rfl,?_,zO⟩;rcases cD b g.ts.length with h|h;exact h;have r:b=g.ts.length:=zO;have j:Qd g 0 M a b=true:=by
  have:((a:Int),(b:Int))∈J0 (g.ts.length+1) (Qd g 0 M):=by rw[<- Qo m (jkf g M),compP_mem,(XN _).mem_iff];exact l
  obtain⟨x,y,_,_,h,e⟩:=edgesOf_mem.1 this;have u:(a:Int)=x:=zg Prod.fst e;have o:(b:Int)=y:=zg Prod.snd e;rw[show a=x by omega,show b=y by omega];exact h
 unfold Qd at j;have n:J8 g b=false:=by cases h:J8 g b;rfl;have:=JZ h;omega
 rw[n,dz,bQ,dz,bE,bE,bQ]at j;obtain⟨i,f,h⟩:=bD.1 j;have f:=aM.1 f;rw[jfy,show askE g M [] i=[] from rfl]at h;simp only[List.contains_nil,bI,zh]at h;obtain⟨c,n,_,q⟩:=jej f;have o:((yi g).getD i (0,0)).1=(b:Int):=zg Prod.snd h;omega
end
structure SeenF (g:Hist') (lvl:Int) (M:List Int) (mv rv:V) (kX uX ub0:Nat) (K:Nat->Prop) (ob0:ZO) (f:FuncId) (cap:List V):Prop where
 sh:E.sh true f=false
 np:(cap.all λv=>v.strip.pureTop)=false
 ev:∀i,i<(yi g).length->∀(ob':ZO) (ub':Nat) (tk:Nat->Bool) (base:Nat),ub0<=ub'->(∃lv,ob' kX=some ⟨uX,.cells (mkS g mv rv lv)⟩)->(∀key,K key->ob' key=ob0 key) ->
  ∃v,EvO E f (.int .i64 (i:Int)::cap) ob' tk base ub' v/\∃l,(∀x,x∈l ↔ x∈WH g lvl M i)/\l.length<=100/\j1l l v
def jv0 (ub kX:Nat) (lv:V) (Z:List P2) (key:Nat):Prop:=Off ub key/\key≠kX/\j5s lv Z key
section
variable {g:Hist'}{M:List Int}{lvl:Int}{mn rn:Bool}{rt:Option (Nat × Nat)}{kX uX lo:Nat}{ob:ZO}{ub:Nat}{lv:V}
def jma {Z:List P2}{ob:ZO}(b:EdV ob lo ub lv Z) (c:Off lo kX) (f:lo<=ub) {u nx:Nat}(i:ub<=u) (d:u<nx):jv0 nx kX lv Z (2*u+1):=by
 refine⟨Off.new d,λe=>c u zO e.symm,λw a=>?_⟩;rcases b with⟨rfl,_⟩|⟨v,rfl,_,_,h⟩;cases a;have:v=w:=by injection a
 omega
def sv118 {Yf:YF}{tk:Nat->Bool}{ro base:Nat}(hX:ob kX=some ⟨uX,.cells (mkS g (yl mn yf M) (rdV rt rn (yi g)) lv)⟩) (H:EdV ob lo ub lv (yE g (ym g).length++srcL g M (yi g).length)) (b:Off lo kX) (j:lo<=ub) (a0:ro<=lo) (n:Xl g M=true) (T:g.ts.length<=8) (hR:(yi g).length<=100) (P:lvl=1\/lvl=2) :
 ∃r,EvS E Yf.y 118 [.ptr kX uX 0,.int .i64 lvl] ob tk ro base ub r/\ub<=r.2.2.2/\(∀c,Off ub c->r.2.1 c=ob c)/\∃f q,r.1=.fn (.func f) [] q/\SeenF g lvl M (yl mn yf M) (rdV rt rn (yi g)) kX uX r.2.2.2 (jv0 r.2.2.2 kX lv (yE g (ym g).length++srcL g M (yi g).length)) r.2.1 f q:=by
 have b6:=YM g;have hl:(yE g (ym g).length++srcL g M (yi g).length).length<=10000:=by rw[aw,jj9];have:=je0 g 8 (ym g).length zO;have:(ym g).length*(8+1)<=8*9:=bf 9 zO;omega
 have o:=rev_in n;have b5:=jra g.ts.length (yE g (ym g).length++srcL g M (yi g).length);have D:=fun {i:Nat}(l:i<(yi g).length) {w:Nat}=>jt9 (w:=w) n T l;generalize yE g (ym g).length++srcL g M (yi g).length=Z at *;have oX:=(b.up j).ne;refine JI rfl zQ ?_;show wpC E Yf S118.body _ (Jw S118.res _);rcases P with rfl|rfl
 ·conv in(occs:=*)S118=>all_goals cbv
  simp(disch:=try exact zD)[S118,V.cells,V.leaf];refine Jj zS ⟨zL,λc b=>?_,172,[.ptr (2*ub+1) ub 0],zS,rfl,rfl,λi l s d tk base K e F=>?_⟩;have:=b.ne;simp(disch:=try exact zD)[this];have p:ub<d:=by first|omega|(simp at K;omega)
  have B:=F (2*ub+1) (jma H b j zK zL);exact⟨_,evo172 n (u2:=ub) (by rw[B];simp) p e (b.up zO) zO l _ _,_,λx=>j8j n x,bL (jxs _ _ _ _) hR,numR_intsV _⟩
 ·conv in(occs:=*)S118=>all_goals cbv
  simp(disch:=try exact zD)[S118,V.cells,V.leaf,j0];refine jP (vs:=[.ptr kX uX 0]) zS rfl (sv170 (g:=g) (lo:=lo) (mv:=yl mn yf M) (rv:=rdV rt rn (yi g)) (L:=Z) ⟨lv,?_,H.frame (λu _ h=>?_) ?_⟩ b ?_ ?_ zO) ?_;simp(disch:=try exact zD)[oX,hX];have:∀m,ub<=m->¬u=m:=λm n=>by omega
  simp(disch:=try exact zD)[yj,this]
  ·first|omega|(simp;done)|(simp;omega)
  ·first|omega|(simp;done)|(simp;omega)
  ·first|omega|(simp;done)|(simp;omega)
  rintro v1 J X a ⟨S,u3,rfl,Q,N,I⟩;simp only at Q N I;have b0:=N.h;have U:ub<S:=by first|omega|(simp at Q;omega)
  have O:J (2*ub+1)=some ⟨ub,.cells [.ptr kX uX 0]⟩:=by rw[I _ (Off.new zL)];simp
  simp(disch:=try exact zD)[V.cells,V.leaf,j0,j6];refine⟨zO,?_⟩;refine Jj zS ⟨zL,λc b=>?_,171,[.ptr (2*a+1) a 0,.ptr (2*ub+1) ub 0],zS,rfl,rfl,λi l s d tk base K e F=>?_⟩;have t:=(b.up (show ub<=a by omega)).ne;simp(disch:=try exact zD)[t];rw[I _ (b.up zL)];have:=b.ne;simp(disch:=try exact zD)[this];have p:a<d:=by first|omega|(simp at K;omega)
  have k:=λ(u:Nat) (t:ub<=u) (B:u<=a)=>F (2*u+1) (jma H b j t zL);have G:PastO kX uX (revE g.ts.length Z) S u3 a s:=N.keep (λu t B=>by
   rw[k u zO zO];have:∀m,a<=m->¬u=m:=λm n=>by omega
   simp(disch:=try exact zD)[yj,this]) zK
  obtain⟨v,hv,w,z,hn⟩:=evo171 (M:=M) (mn:=mn) (rt:=rt) (rn:=rn) (u5:=a) (u2:=ub) (ub:=d) G zO (by rw[k a zO zO];simp) (by
   rw[k ub zO zO];simp(disch:=try exact zD)[yj,show ¬ub=a by omega,O]) zO zO e (b.up zO) T o zO l tk base
  refine⟨v,hv,_,λx=>D l z x,?_,hn⟩;rw[JY];have:=ja1 w;omega
end
section
variable {g:Hist'}{M:List Int}{lvl:Int}{mn rn:Bool}{rt:Option (Nat × Nat)}{kX uX lo:Nat}{ob:ZO}{ub:Nat}{lv:V}{Z:List P2}
structure AskJ (g:Hist') (mv rv:V) (kX uX lo ub:Nat) (K:Nat->Prop) (ob0:ZO) (L:List P2) (ob:ZO) (nx:Nat):Prop where
 e:∃lv',ob kX=some ⟨uX,.cells (mkS g mv rv lv')⟩/\EdV ob lo nx lv' L/\∀key,K key->ob key=ob0 key/\j5s lv' L key
 w:∀key,Off lo key->key≠kX->ob key=ob0 key
 h:lo<=ub/\ub<=nx
 x:Off lo kX
 k:∀key,K key->Off ub key/\key≠kX
def AskJ.up {mv rv:V}{K:Nat->Prop}{ob0:ZO}{L:List P2}{nx nx':Nat}{ob':ZO}(h:AskJ g mv rv kX uX lo ub K ob0 L ob nx) (c:∀a,Off nx a->ob' a=ob a) (j:nx<=nx'):AskJ g mv rv kX uX lo ub K ob0 L ob' nx':=by obtain⟨⟨d,l,i,e⟩,w,⟨n,f⟩,x,k⟩:=h;exact⟨⟨d,(c _ (x.up zO)).trans l,i.frame (λu _ h=>c _ (Off.new h)) j,λa b=>⟨(c _ ((k a b).1.up f)).trans (e a b).1,(e a b).2⟩⟩,λa b m=>(c _ (b.up zO)).trans (w a b m),⟨n,zO⟩,x,k⟩
def AskJ.put {Yf:YF}{mv rv:V}{K:Nat->Prop}{ob0:ZO}{L:List P2}{nx:Nat}{tk:Nat->Bool}{ro base:Nat}(h:AskJ g mv rv kX uX lo ub K ob0 L ob nx) (f:ro<=lo) (i:ro<=uX) (G:L.length<=100000) (a b:Int) :
 ∃r,EvS E Yf.y 168 [.ptr kX uX 0,.int .i64 a,.int .i64 b] ob tk ro base nx r/\nx<=r.2.2.2/\AskJ g mv rv kX uX lo ub K ob0 (L++[(Jl g a,Jl g b)]) r.2.1 r.2.2.2:=by
 obtain⟨⟨v,I,l,o⟩,w,⟨D,s⟩,x,k⟩:=h;obtain⟨r,t,H,⟨B,q,u,j,F,J,z⟩,p⟩:=jwu (Yf:=Yf) (tk:=tk) (ro:=ro) (base:=base) I l x zO f i G a b;refine⟨r,t,H,⟨⟨B,q,.inr ⟨u,j,F,zO,z⟩,λc d=>⟨?_,λw m e=>?_⟩⟩,λc d n=>(p c (d.up zO) n (l.off d)).trans (w c d n),⟨D,zO⟩,x,k⟩⟩;exact(p c ((k c d).1.up s) (k c d).2 (o c d).2).trans (o c d).1;rw[j]at m;have:u=w:=by injection m
 exact(k c d).1 w zO e
def askT (g:Hist') (M:List Int) (l:List Int) (i j:Nat):List P2:=askE g M (l.take j) i
def j07 {l:List Int}{j:Nat}(h:j<l.length) (i:Nat):askT g M l i (j+1)=askT g M l i j++if X9 g l[j] (We g ((yi g).getD i (0,0)))&&(l[j] != M.getD i 0) then [(l[j],Jl g (M.getD i 0))] else []:=by unfold askT askE;rw[ay h,cl,bA];congr 1;cases a:X9 g l[j] (We g ((yi g).getD i (0,0)))&&(l[j] != M.getD i 0)<;>simp only[cE,eV,a,zd,ah,zc,bc,co]
def js8 (l:List Int) (i j:Nat):(askT g M l i j).length<=l.length:=by unfold askT askE;rw[bm];refine bL (cg _ _) ?_;rw[ai];omega
def AskR (g:Hist') (lvl:Int) (M:List Int) (mv rv:V) (kX uX lo:Nat) (ob:ZO) (ub:Nat) (Z:List P2) (r:V×(ZO)×(Nat->Bool)×Nat):Prop :=
 ub<=r.2.2.2/\(∃A,(∀z,z∈A ↔ ∃i,i<(yi g).length/\z∈askE g M (WH g lvl M i) i)/\A.length<=10000/\MkR g mv rv kX uX lo r.2.1 r.2.2.2 (Z++A))/\∀key,Off lo key->key≠kX->r.2.1 key=ob key
def sv117 {Yf:YF}{tk:Nat->Bool}{ro base:Nat}{f:FuncId}{cap:List V}(hs:Small g) (hm:Xl g M=true) (hR:(yi g).length<=100) (hS:SeenF g lvl M (yl mn yf M) (rdV rt rn (yi g)) kX uX ub (jv0 ub kX lv Z) ob f cap)
 (hX:ob kX=some ⟨uX,.cells (mkS g (yl mn yf M) (rdV rt rn (yi g)) lv)⟩) (hE:EdV ob lo ub lv Z) (F:Off lo kX) (c7:lo<=ub) (g5:ro<=lo) (g9:ro<=uX) (hZ:Z.length<=10000) :
 ∃r,EvS E Yf.y 117 [.ptr kX uX 0,.fn (.func f) [] cap] ob tk ro base ub r/\AskR g lvl M (yl mn yf M) (rdV rt rn (yi g)) kX uX lo ob ub Z r:=by
 have g7:=XE hm;have c0:=Wk (Xa hm);refine JI rfl zQ ?_;show wpC E Yf S117.body _ (Jw S117.res _);conv in(occs:=*)S117=>all_goals cbv
 simp(disch:=try exact zD)[S117,j0,hX,mkS,ya,rdV];refine jg λL o=>?_;have g0:L.tm 0=.ptr kX uX 0:=by rw[o];simp
 have g1:L.tm 1=.fn (.func f) [] cap:=by rw[o];simp
 have f7:L.tm 13=rdV rt rn (yi g):=by rw[o];simp[rdV]
 have e4:L.tm 14=.int .i64 (yi g).length:=by rw[o];simp
 have b5:L.tm 15=.int .i64 0:=by rw[o];simp
 have gd:L.df=[]:=by rw[o];simp
 have gr:L.ro=ro:=by rw[o];simp
 have gJ:AskJ g (yl mn yf M) (rdV rt rn (yi g)) kX uX lo ub (jv0 ub kX lv Z) ob Z L.ob L.nx:=by
  have e:L.ob=ob:=by rw[o];simp
  have hn:ub<=L.nx:=by rw[o];first|omega|(simp;done)|(simp;omega)
  rw[e];exact⟨⟨lv,hX,hE.frame (λ_ _ _=>rfl) hn,λc h=>⟨rfl,h.2.2⟩⟩,λ_ _ _=>rfl,⟨c7,hn⟩,F,λc h=>⟨h.1,h.2.1⟩⟩
 clear o;obtain⟨J,hJ⟩:∃J:Nat->St->Prop,J=λi s=>s.tm 15=.int .i64 i/\∃A,(∀z,z∈A ↔ ∃k,k<i/\z∈askE g M (WH g lvl M k) k)/\A.length<=i*100/\AskJ g (yl mn yf M) (rdV rt rn (yi g)) kX uX lo ub (jv0 ub kX lv Z) ob (Z++A) s.ob s.nx:=⟨_,rfl⟩;refine j9 [(4,9),(15,75)] (yi g).length J rfl rfl (by rw[hJ];exact⟨by simpa using b5,[],λz=>by simp,zS,by simpa using gJ⟩) ?_;clear gJ b5;intro i s hi b8 fr;rw[hJ]at b8;obtain⟨b0,A,hA,g6,sJ⟩:=b8;have s0:=(fr.t 0 zS).trans g0;have s1:=(fr.t 1 zS).trans g1;have b9:=(fr.t 13 zS).trans f7;have X:=(fr.t 14 zS).trans e4;have sd:=fr.d.trans gd;have sr:=fr.r.trans gr;clear fr;by_cases D:i<(yi g).length
 ·have d9:=jb D zO;have a0:i<M.length:=zO;have d6:=JS jU rt rn (yi g) .i64 D;have d4:=λob=>WP (yi g) ob D;have c5:=j7 j8 mn M .i64 a0;have c9:=jt M a0;obtain⟨a,b,ha,hb,hp,c4,_⟩:=jki c0 D;have f2:(yi g).getD i (0,0)=((a:Int),(b:Int)):=by simp[am,aa D,hp]
  have e7:M.getD i 0=M[i]:=by simp[am,aa a0]
  simp only[hp]at d4;obtain⟨O,e1,e2,e3⟩:=sJ.e;have f1:=sJ.h;simp(disch:=try exact zD)[b0,X,b9,D,rdV,d6,d4,j0,j6];refine⟨by first|omega|(simp[sr];omega),?_⟩;simp(disch:=try exact zD)[s1];refine jsf (f:=f) (first:=[]) (captured:=cap) (vs:=.int .i64 (i:Int)::cap) zS zS hS.sh (by simp only[bH,hS.np,dz]) (hS.ev i D _ _ _ _ ?_ ⟨O,?_⟩ λc H=>?_) λv hv=>?_
  ·first|omega|(simp;done)|(simp;omega)
  have:=(F.up (show lo<=s.nx by omega)).ne;simp(disch:=try exact zD)[this,e1];have:=(H.1.up f1.2).ne;simp(disch:=try exact zD)[this];exact(e3 c H).1;obtain⟨l,hl,h5,nl,e5⟩:=hv;refine XB e5 λc6 f3=>?_;simp;refine jg λp n=>?_;obtain⟨z,z1,z2,p5,pZ⟩:∃z,s.nx<=z/\z<p.nx/\p.tm 5=.ptr (2*z+1) z 0/\p.ob (2*z+1)=some ⟨z,.cells [.int .i64 (a:Int),.int .i64 (b:Int)]⟩:=by refine⟨s.nx+256,zO,by rw[n];first|omega|(simp;done)|(simp;omega),by rw[n];simp[aI],by rw[n];simp[aI]⟩
  have p0:p.tm 0=.ptr kX uX 0:=by rw[n];simp[s0]
  have p1:p.tm 1=.fn (.func f) [] cap:=by rw[n];simp[s1]
  have p4:p.tm 4=.int .i64 i:=by rw[n];simp
  have g3:p.tm 13=rdV rt rn (yi g):=by rw[n];simp[b9]
  have g4:p.tm 14=.int .i64 (yi g).length:=by rw[n];simp[X]
  have d7:p.tm 15=.int .i64 i:=by rw[n];simp[b0]
  have d8:p.tm 22=.sl c6 nl l.length (l.flatMap yf):=by rw[n];simp
  have f4:p.tm 23=.int .i64 l.length:=by rw[n];simp
  have b6:p.tm 24=.int .i64 0:=by rw[n];simp
  have pd:p.df=[]:=by rw[n];simp[sd]
  have pr:p.ro=ro:=by rw[n];simp[sr]
  have pw:∀c,Off s.nx c->p.ob c=s.ob c:=λc F=>by have:=F.ne;rw[n];simp(disch:=try exact zD)[this]
  clear n;have pJ:=sJ.up (nx':=p.nx) (ob':=p.ob) pw zO;obtain⟨K2,S⟩:∃K2:Nat->Prop,K2=λc=>jv0 ub kX lv Z c\/c=2*z+1:=⟨_,rfl⟩;have d3:AskJ g (yl mn yf M) (rdV rt rn (yi g)) kX uX lo p.nx K2 p.ob (Z++A) p.ob p.nx:=by
   refine⟨⟨O,(pw _ (F.up zO)).trans e1,e2.frame (λu _ h=>pw _ (Off.new h)) zO,λc H=>⟨rfl,?_⟩⟩,λ_ _ _=>rfl,⟨zO,zK⟩,F,λc H=>?_⟩;rw[S]at H;rcases H with H|rfl;exact(e3 c H).2;intro w hw;rcases e2 with⟨rfl,_⟩|⟨w',rfl,_,_,h4⟩;cases hw;have:w'=w:=by injection hw
   omega;rw[S]at H;rcases H with H|rfl;exact⟨H.1.up zO,H.2.1⟩;exact⟨Off.new z2,λe=>F z zO e.symm⟩
  have b7:(g.ts.flatMap jl)[a*3+2]? = some (yl (g.ts[a]).nl yQ (g.ts[a]).ops):=by rw[jZ jA g.ts ha (by decide:2<3)];rfl
  have e0:((g.ts[a]).ops.flatMap yQ)[b*4+1]? = some (.int .i64 ((g.ts[a]).ops[b]).key):=by rw[jZ jH (g.ts[a]).ops hb (by decide:1<4)];rfl
  have f5:We g ((yi g).getD i (0,0))=((g.ts[a]).ops[b]).key:=by rw[f2,<- hp];exact c4
  have e6:∀t∈l,∃k:Nat,t=k/\k<g.ts.length:=λt ht=>jw9 ((hl t).1 ht);obtain⟨J2,N⟩:∃J2:Nat->St->Prop,J2=λj q=>q.tm 24=.int .i64 j/\AskJ g (yl mn yf M) (rdV rt rn (yi g)) kX uX lo p.nx K2 p.ob (Z++A++askT g M l i j) q.ob q.nx:=⟨_,rfl⟩;refine j9 [(7,9),(24,74)] l.length J2 rfl rfl (by rw[N];exact⟨by simpa using b6,by simpa[askT,askE] using d3⟩) ?_;clear b6 d3;intro j q hj d0 fr;rw[N]at d0;obtain⟨I,qJ⟩:=d0;have q0:=(fr.t 0 zS).trans p0;have q4:=(fr.t 4 zS).trans p4;have q5:=(fr.t 5 zS).trans p5;have e8:=(fr.t 15 zS).trans d7;have f6:=(fr.t 22 zS).trans d8;have c8:=(fr.t 23 zS).trans f4;have qd:=fr.d.trans pd;have qr:=fr.r.trans pr;clear fr;obtain⟨f0,c1,c2,c3⟩:=qJ.e;have h0:=qJ.h;by_cases B:j<l.length
  ·have K:=jb B zO;have d5:=JS j8 c6 nl l .i64 B;have T:=jt l B;obtain⟨t,et,f9⟩:=e6 _ (au B);have G:=j07 (g:=g) (M:=M) B i;rw[e7,et,f5]at G;rw[et]at T;have el:=ev169 hs (t:Int) ((g.ts[a]).ops[b]).key;have ez:(W4 (Jv g (t:Int)).2 ((g.ts[a]).ops[b]).key).2=X9 g t ((g.ts[a]).ops[b]).key:=rfl;rw[ez]at el;have g2:=js8 (g:=g) (M:=M) l i j;have qZ:q.ob (2*z+1)=_:=(c3 _ (by rw[S];exact .inr rfl)).1.trans pZ;have U:=(F.up (show lo<=q.nx by omega)).ne;have nz:∀m,q.nx<=m->¬z=m:=λm hm=>by omega
   simp(disch:=try exact zD)[I,c8,f6,q0,q5,B,d5,T,c1,qZ,j0,mkS,ya,j7 jA,j7 jH,b7,e0];refine Jb el zI rfl zI ?_;rw[JW (by simp[V.plain,J4])];generalize (W4 (Jv g (t:Int)).2 ((g.ts[a]).ops[b]).key).1=rv9 at *;generalize X9 g t ((g.ts[a]).ops[b]).key=rb at *;simp(disch:=try exact zD)[J4,j6,j0];have bX:∀m,q.nx<=m->Nat.beq kX (2*m+1)=false:=λm hm=>Ju (U m hm);refine⟨by first|omega|(simp[qr];omega),?_,?_⟩;simp(disch:=try exact zD)[Jc,W6,QR,Qe,yy,yz,yP,Delta.wo,Delta.wt,bX];exact Ju zO;have keep:askT g M l i (j+1)=askT g M l i j->∀s':St,s'.tm 24=.int .i64 ((j:Int)+1)->q.nx<=s'.nx->(∀c,Off q.nx c->s'.ob c=q.ob c)->J2 (j+1) s':=λe s' Q h2 h3=>by rw[N];refine⟨by simpa using Q,?_⟩;rw[e];exact qJ.up h3 h2
   cases P:((t:Int) != M[i])
   ·rw[P,dz,za zQ,aP]at G;cases rb;all_goals
     simp(disch:=try exact zD)[I,q0,q4,c5,c9,P,j0,c1,U,mkS,ya,K,B]
     exact keep G _ zS zL λc F=>by simp(disch:=try exact zD)[F.ne]
   ·rw[P,eA]at G;cases rb;rw[za zQ,aP]at G;simp(disch:=try exact zD)[I,K,B];exact keep G _ zS zL λc F=>by simp(disch:=try exact zD)[F.ne]
    ·rw[zb rfl]at G;simp(disch:=try exact zD)[q0,q4,c5,c9,P,j0,c1,U,mkS,ya];refine jP (vs:=[.ptr kX uX 0,.int .i64 (t:Int),.int .i64 M[i]]) zS rfl ((qJ.up (λc F=>?_) ?_).put ?_ ?_ ?_ _ _) ?_;simp(disch:=try exact zD)[F.ne]
     ·first|omega|(simp;done)|(simp;omega)
     first|omega|(simp[qr];omega)
     first|omega|(simp[qr];omega)
     rw[aw,aw];have:i*100<=100*100:=bf 100 zO;omega;rintro v9 h7 f8 h8 ⟨r1,r2⟩;simp only at r1 r2;have e9:Jl g (t:Int)=t:=by unfold Jl;rw[za zO]
     rw[e9,bj,<- G]at r2;simp(disch:=try exact zD)[I,K,B];rw[N];exact⟨zS,r2.up (λc _=>by simp) zL⟩
  have:j=l.length:=zO;subst this;simp(disch:=try exact zD)[I,c8,e8,d9,D];rw[hJ];have h6:=js8 (g:=g) (M:=M) l i l.length;have hT:∀x,x∈askT g M l i l.length ↔ x∈askE g M (WH g lvl M i) i:=λx=>by unfold askT;rw[bk];exact jea hl i x
  rw[bj]at qJ;refine⟨zS,A++askT g M l i l.length,λx=>?_,?_,?_⟩;rw[aQ,hA,hT];constructor;rintro(⟨k,F,h⟩|h);exact⟨k,zO,h⟩;exact⟨i,zO,h⟩;rintro⟨k,F,h⟩;rcases cD k i with Q|Q;exact .inl ⟨k,Q,h⟩;rw[show k=i by omega]at h;exact .inr h;rw[aw,cJ];omega;have g8:=qJ.h;refine AskJ.up (ob:=q.ob) (nx:=q.nx) ⟨⟨f0,c1,by rw[<- bj];exact c2,λc H=>?_⟩,λc Q h2=>?_,⟨c7,zO⟩,F,λc h=>⟨h.1,h.2.1⟩⟩ (λc _=>by simp) zL;obtain⟨d1,d2⟩:=c3 c (by rw[S];exact .inl H);rw[<- bj];exact⟨d1.trans (pJ.e.choose_spec.2.2 c H).1,d2⟩;exact(qJ.w c Q h2).trans (pJ.w c Q h2)
 have:i=(yi g).length:=zO;subst this;simp(disch:=try exact zD)[b0,X];obtain⟨⟨O,e1,e2,_⟩,w,h,_,_⟩:=sJ;exact jfe (.inl rfl) (by simp[sd]) ⟨zL,⟨A,hA,zO,O,by simpa[rdV] using e1,e2.frame (λ_ _ _=>by simp) zL⟩,λc Q h2=>by simpa using w c Q h2⟩
end
def sv121v {Yf:YF}{l u:Nat}{T:List Val'}(hT:T.length<=100000) {ob:ZO}{tk:Nat->Bool}{ro base ub:Nat}(ho:ob l=some ⟨u,.cells (T.flatMap J4)⟩) (c0:ro<=u) :
 ∃r,EvS E Yf.y 121 [.osl l u 0 T.length 2] ob tk ro base ub r/\CompP l u T.length (Jd T T.length) ob tk ub r:=by
 refine JI rfl zQ ?_;show wpC E Yf S121.body _ (Jw S121.res _);have b7:=j4 jaj T;by_cases h2:T.length<2
 ·have hc:Jd T T.length=T:=by
   match T,h2 with
   |[],_=>rfl
   |[x],_=>rfl
   |_::_::_,h=>simp at h;omega
  have Z:(T.length:Int)<2:=zO;rw[hc];conv in(occs:=*)S121=>all_goals cbv
  simp[Z];exact Jj zS ⟨zS,⟨_,by simpa using ho,b7,zK,aJ zO⟩,λa h=>by simp,zS,by simp;omega⟩
 have Z:¬(T.length:Int)<2:=zO;conv in(occs:=*)S121=>all_goals cbv
 simp[Z];refine j9 [(2,5),(10,59)] (T.length-1) (λk s=>s.tm 3=.int .i64 ((1+k:Nat):Int)/\Jd T (1+k)=T.take (1+k)/\s.ob=ob/\s.tk=tk/\ub<=s.nx) rfl rfl ⟨zS,?_,zS,zS,by simp;omega⟩ ?_;rw[bp,jhb (T:=T) (j:=0) zO (λh=>zf h zO),ay zO];rfl;rintro k s hk ⟨Q,c,b,J,d4⟩ f;have f0:s.tm 0=.osl l u 0 T.length 2:=by rw[f.t 0 zS];simp
 have fd:s.df=[]:=by rw[f.d];simp
 have fr:s.ro=ro:=by rw[f.r];simp
 clear f;obtain⟨q,hq⟩:∃q,1+k=q:=⟨_,rfl⟩;rw[hq]at Q c;by_cases o:q<T.length;have c4:(q:Int)<T.length:=zO;have hw:=jb o zO;have b8:IntKind.i64.wrap ((q:Int)-1)=((q-1:Nat):Int):=by rw[wrapN zO zO];omega
 have i1:=idx2 (l:=l) (u:=u) (off:=0) (n:=T.length) (kk:=.i64) (X:=(q:Int)) rfl o;have i0:=idx2 (l:=l) (u:=u) (off:=0) (n:=T.length) (kk:=.i64) (X:=((q-1:Nat):Int)) rfl zO;have l1:=ld2 ho o;have l0:=ld2 ho (show q-1<T.length by omega);have b0:T[q]=T[q-1]->Jd T (q+1)=Jd T q:=jnw zO o;have c9:T[q]≠T[q-1]->Jd T (q+1)=Jd T q++[T[q]]:=λh=>jhb o λ_=>h;have d1:T.take (q+1)=T.take q++[T[q]]:=ay o;have I:=j5y T[q] (T[q-1]' zO);rw[bK]at i1 i0;generalize hx:T[q]=x at *;generalize hy:T[q-1]' zO=y at *;generalize e6:((q-1:Nat):Int)=Q1 at *;cases K:(x==y);have c8:x≠y:=by simpa using K
 rw[K]at I;simp[Q,f0,c4,b8,i1,i0,b,l1,l0];simp[J4,<- I,Q,hw];refine⟨zO,zO,?_,b,J,zO⟩;rw[show 1+(k+1)=q+1 by omega,c9 c8,c,d1];have he:x=y:=by simpa using K
 rw[K]at I;simp[Q,f0,c4,b8,i1,i0,b,l1,l0];have d7:=jig (L:=l) (u:=u) (n:=T.length) (i:=q) zO;simp[J4,<- I,Q,f0,d7];refine j9 [(3,3),(5,5),(29,53)] (T.length-q-1) (λj s=>s.tm 5=.int .i64 ((1+j:Nat):Int)/\∃w:Nat,s.tm 3=.int .i64 (w:Int)/\w=(Jd T (q+1+j)).length /\
  (∃M:List Val',s.ob l=some ⟨u,.cells (M.flatMap J4)⟩/\M.length=T.length/\M.take w=Jd T (q+1+j)/\∀m,q+j<=m->M[m]? = T[m]?)/\(∀a,a≠l->s.ob a=ob a)/\s.tk=tk/\ub<=s.nx) rfl rfl
  ⟨zS,q,by simp[Q],?_,⟨T,by simp[b,ho],rfl,?_,λ_ _=>rfl⟩,λa h=>by simp[b],by simp[J],by simp;omega⟩ ?_
 rw[bp,b0 he,c,ai];omega;rw[bp,b0 he,c];clear d4 J b Q;rintro j s1 hj ⟨g5,w,g3,v,⟨M,gM,b5,B,G⟩,D,a0,e5⟩ f;have g0:s1.tm 0=.osl l u 0 T.length 2:=by rw[f.t 0 zS];simp[f0]
 have g4:s1.tm 4=.osl l u (q*2) (T.length-q) 2:=by rw[f.t 4 zS];simp
 have gd:s1.df=[]:=by rw[f.d];simp[fd]
 have gr:s1.ro=ro:=by rw[f.r];simp[fr]
 clear f;obtain⟨p,hp⟩:∃p,1+j=p:=⟨_,rfl⟩;rw[hp]at g5;rw[show q+1+j=q+p by omega]at v B;have d9:=jjs T (q+p) zO;have e0:w<=q+j:=by
  have e1:Jd T (q+1)=T.take q:=by rw[b0 he,c]
  have a:∀j,q+1+j<=T.length->(Jd T (q+1+j)).length<=q+j:=by
   intro j;induction j with
   |zero=>intro _;rw[bp,e1,ai];omega
   |succ j ih=>intro h;have:=ih zO;rw[<- aI];simp only[Jd,aw,aa (show q+1+j<T.length by omega)];split<;>simp<;>omega
  have:=a j zO;rw[show q+1+j=q+p by omega]at this;omega
 by_cases c6:p<T.length-q;have b6:q+p<T.length:=zO;have F:(p:Int)<((T.length-q:Nat):Int):=zO;have c7:=jb (i:=p) (N:=T.length) zO zO;have S:IntKind.i64.wrap ((p:Int)-1)=((p-1:Nat):Int):=by rw[wrapN zO zO];omega
 have d3:=jb (i:=w) (N:=T.length) zO zO;have k1:=idx2 (l:=l) (u:=u) (off:=q*2) (n:=T.length-q) (kk:=.i64) (X:=(p:Int)) rfl c6;have k0:=idx2 (l:=l) (u:=u) (off:=q*2) (n:=T.length-q) (kk:=.i64) (X:=((p-1:Nat):Int)) rfl zO;have kw:=idx2 (l:=l) (u:=u) (off:=0) (n:=T.length) (kk:=.i64) (X:=(w:Int)) rfl zO;rw[show q*2+p*2=(q+p)*2 by omega]at k1;rw[show q*2+(p-1)*2=(q+p-1)*2 by omega]at k0;rw[bK]at kw;have d0:M[q+p]' zO=T[q+p]:=by have:=G (q+p) zO;rw[aa zO,aa b6]at this;exact cm this
 have d5:M[q+p-1]' zO=T[q+p-1]' zO:=by have:=G (q+p-1) zO;rw[aa zO,aa zO]at this;exact cm this
 have m1:=ld2 gM (show q+p<M.length by omega);have m0:=ld2 gM (show q+p-1<M.length by omega);rw[d0]at m1;rw[d5]at m0;have z:=j4 jaj M;have c2:=st2 (M:=M) (x:=w) zO T[q+p];have P:T[q+p]=T[q+p-1]' zO->Jd T (q+p+1)=Jd T (q+p):=jnw zO b6;have O:T[q+p]≠T[q+p-1]' zO->Jd T (q+p+1)=Jd T (q+p)++[T[q+p]]:=λh=>jhb b6 λ_=>h;have e:=j5y T[q+p] (T[q+p-1]' zO);have d8:w*2+2<=T.length*2:=zO;generalize e2:T[q+p]=x2 at *;generalize e4:T[q+p-1]' zO=y2 at *;generalize e3:((p-1:Nat):Int)=Q2 at *;generalize H:((T.length-q:Nat):Int)=Q3 at *;cases g:(x2==y2);have U:x2≠y2:=by simpa using g
 rw[g]at e;simp[g5,g4,H,F,S,k1,k0,m1,m0];simp[J4]at c2;simp[J4,<- e,g5,g4,g3,g0,c7,d3,k1,m1,kw,j0,gM,z,b5,d8,gr,c0,c2];refine⟨zO,zO,w+1,rfl,?_,⟨M.set w x2,rfl,by simp[b5],?_,λm hm=>?_⟩,λa h=>by simp[h,D],by simp[jq,a0],zO⟩;rw[show q+1+(j+1)=q+p+1 by omega,O U,aw,<- v];rfl;rw[show q+1+(j+1)=q+p+1 by omega,O U,<- B];rw[List.take_set,ay (show w<M.length by omega),List.set_append_right _ _ (by rw[ai];omega),ai,cC zO,fU];rfl;rw[cP zO];exact G m zO;have c3:x2=y2:=by simpa using g
 rw[g]at e;simp[g5,g4,H,F,S,k1,k0,m1,m0];simp[J4,<- e,g5,c7];exact⟨zO,zO,w,g3,by rw[show q+1+(j+1)=q+p+1 by omega,P c3];exact v,⟨M,gM,b5,by rw[show q+1+(j+1)=q+p+1 by omega,P c3];exact B,λm hm=>G m zO⟩,D,a0,zO⟩;have d2:q+p=T.length:=zO;rw[d2]at v B;have F:¬(p:Int)<((T.length-q:Nat):Int):=zO;generalize H:((T.length-q:Nat):Int)=Q3 at *;have b9:w<=T.length:=zO;have c1:=jig (L:=l) (u:=u) b9;have c5:=j2h (L:=l) (u:=u) b9;have z:=j4 jaj M;simp[g5,g4,H,F,g0,g3,c1];refine jsg (l:=l) (u:=u) (off:=w*2) (n:=T.length-w) (cs:=M.flatMap J4) zS (by simp[gM]) (by simp[gr,c0]) rfl (by rw[z];omega) ?_;simp[g0,g3,c5];refine Jj (by simp[gd]) ⟨by simp[v],⟨_,by simp;rfl,?_,zO,?_⟩,λa h=>by simp[h,D],by simp[jq,a0],by simp;omega⟩;unfold j6;have d6:(ja8 (T.length-w) [V.int .i64 0,V.int .i64 0]).length=(T.length-w)*2:=by simp[ja8]
 simp only[aw,ai,aY,z,d6];omega;rw[<- v,<- B];unfold j6;rw[bj,dX (by rw[ai,z];omega),iq,Nat.min_self];exact jb9 jaj M w;have:q=T.length:=zO;subst this;simp[Q,f0];rw[bk]at c;rw[c];exact Jj (by simp[fd]) ⟨zS,⟨_,by simp[b,ho],b7,zK,aJ zO⟩,λa h=>by simp[b],by simp[J],by simp;omega⟩
def toV (p:P2):Val':=⟨p.1,p.2⟩
def toV_inj {p q:P2}:toV p=toV q ↔ p=q:=by obtain⟨a,b⟩:=p;obtain⟨c,d⟩:=q;simp[toV]
def j6v (L:List P2):L.flatMap yR=(L.map toV).flatMap J4:=by rw[ie];rfl
def cF:P2->List P2->List P2
 |_,[]=>[]
 |x,y::s=>if x=y then cF y s else y::cF y s
def j01 (z:P2):∀(r:List P2) (x:P2),cF x (r++[z])=cF x r++if (x::r).getLast? = some z then [] else [z]
 |[],x=>by by_cases h:x=z<;>simp[cF,h]
 |y::s,x=>by rw[de,cF,cF,j01 z s y,show(x::y::s).getLast? = (y::s).getLast? from by simp[List.getLast?_cons_cons]];by_cases h:x=y;rw[zb h,zb h];rw[za h,za h,de]
def js1:∀(r:List P2) (x:P2),jba (x::r)=x::cF x r
 |[],x=>rfl
 |y::s,x=>by have a:=js1 s y;rw[jba,a,cF]
def jnx (x:P2) (r:List P2):∀j,j<=r.length->Jd ((x::r).map toV) (j+1)=(x::cF x (r.take j)).map toV
 |0,_=>by simp[Jd,cF]
 |j+1,h=>by
  rw[Jd,jnx x r j zO,ay zO,j01,<- de,bA];congr 1;have e:((x::r).map toV)[j+1]? = some (toV r[j]):=by rw[aV,bS,aa zO];rfl
  have f:((x::r).map toV)[j+1-1]? = ((x::r.take j).getLast?).map toV:=by
   rw[fq,aV];congr 1;rw[List.getLast?_eq_getElem?];cases j with
   |zero=>simp
   |succ j=>simp[ai,cC (show j+1<=r.length by omega)]
  rw[e,f];by_cases b:(x::r.take j).getLast? = some r[j];rw[zb b,zb ⟨zO,by rw[b];rfl⟩];rfl;rw[za b,za λd=>b ?_];rfl;obtain⟨_,a⟩:=d;cases c:(x::r.take j).getLast? with
  |none=>rw[c]at a;cases a
  |some w=>rw[c]at a;simp only[aU,ae]at a;rw[toV_inj.1 a]
def j5g (L:List P2):Jd (L.map toV) L.length=(jba L).map toV:=by
 cases L with
 |nil=>rfl
 |cons x r=>have:=jnx x r r.length zK;rw[bk]at this;rw[js1];exact this
def sv121 {Yf:YF}{l u:Nat}{L:List P2}(i:L.length<=100000) {ob:ZO}{tk:Nat->Bool}{ro base ub:Nat}(g:ob l=some ⟨u,.cells (L.flatMap yR)⟩) (d:ro<=u) :
 ∃r,EvS E Yf.y 121 [.osl l u 0 L.length 2] ob tk ro base ub r/\r.1=.osl l u 0 (jba L).length 2/\∃cs,r.2.1 l=some ⟨u,.cells cs⟩/\(jba L).length*2<=cs.length/\cs.take ((jba L).length*2)=(jba L).flatMap yR:=by
 have a:(L.map toV).length=L.length:=bm ..;obtain⟨r,f,b,⟨cs,h,j,e,c⟩,_⟩:=sv121v (Yf:=Yf) (l:=l) (u:=u) (T:=L.map toV) (by rw[a];exact i) (ob:=ob) (tk:=tk) (ro:=ro) (base:=base) (ub:=ub) (by rw[<- j6v];exact g) d;rw[a]at f b j e c;rw[j5g]at b e c;rw[bm]at b e c;refine⟨r,f,b,cs,h,zO,?_⟩;rw[c,j6v]
def j0n:∀L:List P2,(L.flatMap yR).mapM int64? = some (Wg L)
 |[]=>rfl
 |x::L=>by rw[aZ];show(V.int .i64 x.1::V.int .i64 x.2::L.flatMap yR).mapM int64? = _;simp only[bP,j0n L];rfl
def jiv:∀L:List P2,pairsI (Wg L)=L
 |[]=>rfl
 |(a,b)::L=>by simp only[Wg,pairsI,jiv L]
def jsu:∀L:List P2,(Wg L).map (V.int .i64)=L.flatMap yR
 |[]=>rfl
 |(a,b)::L=>by simp only[Wg,bc,jsu L,aZ,yR];rfl
def jif:∀{L:List P2},(∀z∈L,Yj z.1=true/\Yj z.2=true)->(Wg L).all Yj=true
 |[],_=>rfl
 |(a,b)::L,h=>by have c:=h (a,b) (aK ..);simp only[Wg,bH,c.1,c.2,jif λz d=>h z (aS _ d),di]
def sv119 {Yf:YF}{l u:Nat}{L:List P2}(i:L.length<=100000) (c:∀z∈L,Yj z.1=true/\Yj z.2=true) {ob:ZO}{tk:Nat->Bool}{ro base ub:Nat}(f:ob l=some ⟨u,.cells (L.flatMap yR)⟩) (d:ro<=u) :
 ∃r,EvS E Yf.y 119 [.osl l u 0 L.length 2,.fn (.func 120) [] []] ob tk ro base ub r/\ub<=r.2.2.2/\∀a,r.2.1 a=if a=l then some ⟨u,.cells ((ja7 L).flatMap yR)⟩ else ob a:=by
 have e:=j4 QP L;refine⟨(.tup [],upd ob l (some ⟨u,.cells ((ja7 L).flatMap yR)⟩),tk,ub),jlp (m:=some 120) rfl ?_ rfl,zK,λa=>by simp[yg]⟩;have h:j0 ob l u=some (L.flatMap yR):=by simp[j0,f]
 have b:jq6 (some 120) (Wg L)=true:=jif c;simp only[jtx,jl2,jhx,QZ,h,ap,zd];rw[zb ⟨bY▸d,trivial,zO,zO⟩,dy,aJ zO,j0n,ap,zb b,jiv,jsu];have:((ja7 L).flatMap yR).length=(L.flatMap yR).length:=by rw[j4 QP,j4 QP,(XN L).length_eq]
 rw[j6,eK,dq,bM zO,aP]
def sv119n {Yf:YF}{ob:ZO}{tk:Nat->Bool}{ro base ub:Nat}:∃r,EvS E Yf.y 119 [.sl none true 0 [],.fn (.func 120) [] []] ob tk ro base ub r/\r.2.1=ob/\ub<=r.2.2.2 :=
 ⟨(.tup [],ob,tk,ub),jlp (m:=some 120) rfl rfl rfl,rfl,zK⟩
def sv121n {Yf:YF}{ob:ZO}{tk:Nat->Bool}{ro base ub:Nat}:∃r,EvS E Yf.y 121 [.sl none true 0 []] ob tk ro base ub r/\r.1=.sl none true 0 []/\ub<=r.2.2.2:=by
 refine JI rfl zQ ?_;show wpC E Yf S121.body _ (Jw S121.res _);conv in(occs:=*)S121=>all_goals cbv
 simp;exact Jj zS ⟨zS,zL⟩
def jom {F:Env}{Yf:YF}{o:AOpr}{st:St}{ub:Nat}{K:St->Nat->Prop}(h:∀s u,s=st->u=ub->jB F Yf o s u K):jB F Yf o st ub K:=h st ub rfl rfl
def jt1 (g:Hist') (lvl:Int) (M:List Int):List P2×Int:=if jnt g lvl M=0 then (J0 (g.ts.length+1) (Qd g lvl M),0) else ([],jnt g lvl M)
def SatR (r:List P2×Int) (v:V):Prop:=∃nl,(nl=true->r.1=[])/\jvy [.sl none nl r.1.length (r.1.flatMap yR),.int .i64 r.2] v
section
variable {g:Hist'}{M:List Int}
def ev74 (hs:Small g) (h8:g.ts.length<=8) {mn:Bool}(lvl:Int) (hM:M.length<=100):∃v,Ev E 74 [.int .i64 lvl,.agg (ya g),yl mn yf M] v/\SatR (jt1 g lvl M) v:=by
 have c3:=ev30 hs;have S:=ev114 hs (b:=mn) M zO;rw[j4l]at S;have j:∀{k:St}{e:Int},k.df=[]->k.tm 6=.sl none true 0 []->k.tm 7=.int .i64 e->jt1 g lvl M=([],e)->Ws [.t 6,.t 7] (SatR (jt1 g lvl M)) .ret k:=fun {k e} hd h6 h7 he=>by rw[he];exact jor (ns:=[6,7]) (vs:=[.sl none true 0 [],.int .i64 e]) (ls:=[.sl none true 0 [],.int .i64 e]) (λr h=>⟨true,λ_=>rfl,h⟩) hd (by simp[h6,h7]) zS zS ⟨ja rfl,ja rfl,trivial⟩
 refine X6 rfl zQ ?_;conv in(occs:=*)F74=>all_goals cbv
 simp[j0,ya,yl,V.cells,V.leaf];refine jL c3 zH rfl zH ?_;cases G:jX g;simp;exact j (e:=4) zS zS zS (by simp[jt1,jnt,G]);by_cases H:lvl<1;simp[H];exact j (e:=2) zS zS zS (by simp[jt1,jnt,G,H]);by_cases L:2<lvl;simp[H,L];exact j (e:=2) zS zS zS (by simp[jt1,jnt,G,H,L]);simp[H,L,j0];refine jL S zH rfl zH ?_;cases y:Xl g M;simp;exact j (e:=2) zS zS zS (by simp[jt1,jnt,G,H,L,y]);have d5:lvl=1\/lvl=2:=zO;have hE:jt1 g lvl M=(J0 (g.ts.length+1) (Qd g lvl M),0):=by simp[jt1,jnt,G,H,L,y]
 rw[hE];obtain⟨vr,c5,b0⟩:=ev72 hs;rw[show jbt g=yi g by simp[jbt,G]]at b0;have f2:=XE y;have hR:(yi g).length<=100:=zO;simp[j0,j6];refine Jb c5 zH rfl zH ?_;refine XB b0 λrt add=>?_;generalize c0:(yi g).isEmpty=rn;clear c0;simp[j6,V.cells,V.leaf];refine jom λk nx i b6=>?_;obtain⟨c,u1,I,gX⟩:∃c,c<nx/\k.tm 8=.ptr (2*c+1) c 0/\k.ob (2*c+1)=some ⟨c,.cells (mkS g (yl mn yf M) (rdV rt rn (yi g)) (.sl none true 0 []))⟩:=by refine⟨1600,by rw[b6];simp,by rw[i];simp,by rw[i];simp[mkS,ya,yl,rdV]⟩
 have g0:k.tm 0=.int .i64 lvl:=by rw[i];simp
 have gd:k.df=[]:=by rw[i];simp
 have n:k.ro=0:=by rw[i];simp
 have c6:k.tm 32=.ptr (2*c+1) c 0:=by rw[<- I,i];simp
 clear i b6;have X:MkR g (yl mn yf M) (rdV rt rn (yi g)) (2*c+1) c (c+1) k.ob nx []:=⟨_,gX,.inl ⟨rfl,rfl⟩⟩;have J:Off (c+1) (2*c+1):=Off.new (cY _);have f5:=YM g;have d2:=je0 g 8 (ym g).length zO;have d6:(yE g (ym g).length).length<=72:=bL d2 (by have:(ym g).length*(8+1)<=8*9:=bf 9 zO;omega);refine jP (vs:=[.ptr (2*c+1) c 0]) (by simp[c6]) rfl (sv115 hs G h8 (lo:=c+1) X J zO ?_ ?_) ?_;simp[n];simp[n];rintro v1 f1 d9 U ⟨q1,D,T⟩;simp only at q1 D T;have e7:nx<=U:=by first|omega|(simp at q1;omega)
 clear X gX;simp[I];refine jP (vs:=[.ptr (2*c+1) c 0]) zS rfl (sv116 (rt:=rt) (rn:=rn) (lo:=c+1) (D.keep (λf0 _=>by simp) (J.up ?_) ?_) y J ?_ ?_ ?_ zO zO) ?_;omega
 ·first|omega|(simp;done)|(simp;omega)
 ·first|omega|(simp;done)|(simp;omega)
 simp[n];simp[n];rintro v2 e3 e8 F ⟨q2,a0,O⟩;simp only at q2 a0 O;have f3:U<=F:=by first|omega|(simp at q2;omega)
 clear D;have d7:=jj9 g M (yi g).length;obtain⟨lv,l,m⟩:=a0;simp[I,g0];refine jP (vs:=[.ptr (2*c+1) c 0,.int .i64 lvl]) zS rfl (sv118 (rt:=rt) (rn:=rn) (mn:=mn) (lo:=c+1) (lv:=lv) ?_ (m.frame (λu _ _=>by simp) ?_) J ?_ ?_ y h8 hR d5) ?_;simpa using l
 ·first|omega|(simp;done)|(simp;omega)
 ·first|omega|(simp;done)|(simp;omega)
 simp[n];rintro v3 b7 e5 b9 ⟨q3,p,f,d3,rfl,hS⟩;simp only at q3 p hS;have e0:F<=b9:=by first|omega|(simp at q3;omega)
 have x:b7 (2*c+1)=some ⟨c,.cells (mkS g (yl mn yf M) (rdV rt rn (yi g)) lv)⟩:=by rw[p _ (J.up zL)];simpa using l
 have w:EdV b7 (c+1) F lv (yE g (ym g).length++srcL g M (yi g).length):=m.frame (λu _ h=>by
  rw[p _ (Off.new zL)];simp) zK
 clear l m;simp;refine jP (vs:=[.ptr (2*c+1) c 0,.fn (.func f) [] d3]) zS rfl (sv117 (lvl:=lvl) (rt:=rt) (rn:=rn) (mn:=mn) (lo:=c+1) (lv:=lv) (Z:=yE g (ym g).length++srcL g M (yi g).length) hs y hR hS (by simpa using x) (w.frame (λu _ _=>by simp) zO) J zO ?_ ?_ (by rw[aw];omega)) ?_;simp[n];simp[n];rintro v4 d8 e4 d4 ⟨q4,⟨A,hA,e9,e6,d,s⟩,N⟩;simp only at q4 d s N;have f4:b9<=d4:=by first|omega|(simp at q4;omega)
 have q:=j78 hA;have P:=jxc y q;have Q:(yE g (ym g).length++srcL g M (yi g).length++A).length<=100000:=by rw[aw,aw];omega
 have b5:=Qo y q;have b8:=(XN (yE g (ym g).length++srcL g M (yi g).length++A)).length_eq;generalize yE g (ym g).length++srcL g M (yi g).length++A=Z at *;have c4:∀z∈Z,Yj z.1=true/\Yj z.2=true:=λz hz=>by obtain⟨a,b,rfl,ha,hb⟩:=P z hz;simp only[Yj,ab,ze];omega
 clear x w hS p O T N hA;rcases s with⟨rfl,rfl⟩|⟨u,rfl,c8,e2,e1⟩;simp(disch:=try exact zD)[I,j0,d,mkS,ya];refine jP (vs:=[.sl none true 0 [],.fn (.func 120) [] []]) zS rfl sv119n ?_;rintro v5 o c2 d0 ⟨K,q5⟩;simp only at K q5;have B:o (2*c+1)=some ⟨c,.cells (mkS g (yl mn yf M) (rdV rt rn (yi g)) (.sl none true 0 []))⟩:=by rw[K];simpa using d
 simp(disch:=try exact zD)[I,j0,B,mkS,ya];refine jP (vs:=[.sl none true 0 []]) zS rfl sv121n ?_;rintro v6 c1 d1 c7 ⟨rfl,q6⟩;simp;have he:J0 (g.ts.length+1) (Qd g lvl M)=[]:=b5.symm;rw[he];refine jor (ns:=[6,7]) (vs:=[.sl none true 0 [],.int .i64 0]) (ls:=[.sl none true 0 [],.int .i64 0]) (λr h=>⟨true,λ_=>rfl,h⟩) (by simp[gd]) zS zS zS ⟨ja rfl,ja rfl,trivial⟩;simp(disch:=try exact zD)[I,j0,d,mkS,ya];refine jP (vs:=[.osl (2*u+1) u 0 Z.length 2,.fn (.func 120) [] []]) zS rfl (sv119 Q c4 (by simpa using c8) ?_) ?_;simp[n];rintro v5 o c2 d0 ⟨q5,K⟩;simp only at K q5;have B:o (2*c+1)=some ⟨c,.cells (mkS g (yl mn yf M) (rdV rt rn (yi g)) (.osl (2*u+1) u 0 Z.length 2))⟩:=by rw[K,za zO];simpa using d
 have c9:o (2*u+1)=some ⟨u,.cells ((ja7 Z).flatMap yR)⟩:=by rw[K,zb rfl]
 simp(disch:=try exact zD)[I,j0,B,mkS,ya];refine jP (vs:=[.osl (2*u+1) u 0 (ja7 Z).length 2]) (by simp[b8]) rfl (sv121 zO (by simpa using c9) ?_) ?_;simp[n];rintro v6 c1 d1 c7 ⟨rfl,cs,h6,l6,t6⟩;simp only at h6;rw[b5]at l6 t6 ⊢;simp;refine jor (ns:=[6,7]) (vs:=[.osl (2*u+1) u 0 (J0 (g.ts.length+1) (Qd g lvl M)).length 2,.int .i64 0]) (ls:=[.sl none false (J0 (g.ts.length+1) (Qd g lvl M)).length ((J0 (g.ts.length+1) (Qd g lvl M)).flatMap yR),.int .i64 0]) (λr h=>⟨false,λh=>(by cases h),h⟩) (by simp[gd]) zS zS zS ⟨YJ rfl (jih (cs:=cs) (by simpa using h6) ?_ l6 t6 (ed_leaf _)),ja rfl,trivial⟩;simp[n]
end
end Go.Pv.T
namespace Go.Pv.T
open Go Go.Pv
end Go.Pv.T
namespace Go.Pv.T
open Go Go.Pv
end Go.Pv.T
