/- Part. -/
import Derived.Test.YtmanndcfeicokaaGreatDoorTAZ
import Derived.Handed
import Derived.ChangeSame
set_option maxRecDepth 100000
set_option maxHeartbeats 8000000
set_option linter.all false
namespace Go.Pv.T
open Go Go.Pv Go.Proofs Go.ChangeShapes Go.WideShapes Go.ChangeAt Go.RowKit
inductive Ty where
 | bool
 | int (k:IntKind)
 | str
 | unit
 | pair (a b:Ty)
 | slice (t:Ty)
def Ty.cells:Ty->Nat
 | .unit=>0
 | .pair a b=>a.cells+b.cells
 | _=>1
inductive Sh:Ty->List V->Prop where
 | bool (b:Bool):Sh .bool [.bool b]
 | int (k:IntKind) (n:Int):Sh (.int k) [.int k n]
 | str (s:List UInt8):Sh .str [.str s]
 | unit:Sh .unit []
 | pair {a b:Ty}{va vb:List V}(ha:Sh a va) (hb:Sh b vb):Sh (.pair a b) (va++vb)
 | nil {t:Ty}:Sh (.slice t) [.sl none true 0 []]
 | slice {t:Ty}(es:List (List V)) (hn:es.length<=maxLen) (h:∀e∈es,Sh t e):Sh (.slice t) [.sl none false es.length es.flatten]
def QN (P:Program) (g:TypeId->Option Ty):List Field->Nat->Option Ty
 | [],_=>some .unit
 | f::r,off=>if f.offset=off then (g f.type).bind λa=>if P.cellsOf f.type=a.cells then (QN P g r (off+a.cells)).map (.pair a) else none else none
def j7j (P:Program):Nat->TypeId->Option Ty
 | 0,_=>none
 | n+1,t=>match P.underlying t with
  | some .bool=>some .bool
  | some (.int k)=>some (.int k)
  | some .string=>some .str
  | some (.slice e)=>(j7j P n e).bind λty=>if P.cellsOf e=ty.cells then some (.slice ty) else none
  | some (.struct fs)=>(QN P (j7j P n) fs.toList 0).bind λty=>if P.cellsOf t=ty.cells then some ty else none
  | _=>none
def Sh.len {t:Ty}{vs:List V}(h:Sh t vs):vs.length=t.cells:=by
 induction h with
 | pair _ _ a b=>simp[Ty.cells,a,b]
 | _=>rfl
def Sh.pure {t:Ty}{vs:List V}(h:Sh t vs):∀v∈vs,v.pureLeaf=true:=by
 induction h with
 | pair _ _ b c=>intro v a;rcases aQ.1 a with h|h;exact b v h;exact c v h
 | unit=>intro v a;cases a
 | _=>intro v a;rw[ag]at a;subst a;rfl
def Reps (I:IMap) (cs:List Value) (vs:List V):Prop:=cs.length=vs.length/\∀ (j:Nat) (x:Value) (v:V),cs[j]? = some x->vs[j]? = some v->RepP I x v
def Reps.one {I:IMap}{x:Value}{v:V}(h:RepP I x v):Reps I [x] [v] :=
 ⟨rfl,λj y u a b=>by
  match j,a,b with
  | 0,a,b=>cases a;cases b;exact h
  | j+1,a,_=>simp at a⟩
def jla {g:Type}{sz:Nat}(c:0<sz):∀ (es:List (List g)),(∀e∈es,e.length=sz)->∀j,es.flatten[j]? = (es[j / sz]?).bind λe=>e[j % sz]?
 | [],_,j=>by simp
 | e::es,h,j=>by
  have b:=h e (aK ..);rw[List.flatten_cons,gm,b];split;rename_i a;rw[Nat.div_eq_of_lt a,eu a];rfl
  ·rename_i d;have f:j=(j - sz)+sz:=zO;rw[jla c es (λe b=>h e (aS _ b)) (j - sz)];conv=>rhs;rw[f,Nat.add_div_right _ c,Nat.add_mod_right]
   rfl
def jsv {a:Type}{sz:Nat}:∀ (es:List (List a)),(∀e∈es,e.length=sz)->es.flatten.length=es.length*sz
 | [],_=>by simp
 | e::es,h=>by rw[List.flatten_cons,aw,h e (aK ..),jsv es (λe b=>h e (aS _ b)),bh,cJ];omega
section
variable {H:Type}{enc:TypeId × Value->H}{W:World}{P:Program}
def jmn {e:Type}{p:Nat->e->Prop}:∀ (n:Nat),(∀i,i<n->∃a,p i a)->∃l:List e,l.length=n/\∀i a,l[i]? = some a->p i a
 | 0,_=>⟨[],rfl,λi a h=>by simp at h⟩
 | n+1,h=>by
  obtain⟨l,d,j⟩:=jmn n (λi k=>h i zO);obtain⟨a,g⟩:=h n zO;refine⟨l++[a],by simp[d],λi b c=>?_⟩;rw[gm]at c;split at c;exact j i b c;rename_i f;have:i=n:=by have:=(aj.1 c).1;simp at this;omega
  subst this;simp[d]at c;subst c;exact g
def jjo {g:TypeId->Option Ty}{n:Nat}{cs:List Value}(z:∀t ty,g t=some ty->∀cs x,DataW.trod enc P W 0 (λ_=>true) true n t cs=some x->∃e,Sh ty e/\Reps (WE W) cs e) :
 ∀ (fs:List Field) (off:Nat) (ty:Ty),QN P g fs off=some ty->(∀f∈fs,∃x,DataW.trod enc P W 0 (λ_=>true) true n f.type ((cs.drop f.offset).take (P.cellsOf f.type))=some x)->cs.length=off+ty.cells ->
  ∃e,Sh ty e/\Reps (WE W) (cs.drop off) e
 | [],off,ty,h,_,hl=>by simp only[QN,ae]at h;subst h;simp only[Ty.cells,bp]at hl;exact⟨[],.unit,by simp[hl],λj x v _ J=>by simp at J⟩
 | f::r,off,ty,h,hx,hl=>by
  simp only[QN]at h;split at h;rename_i i;cases m:g f.type with
  | none=>rw[m]at h;cases h
  | some a=>
   rw[m,ap]at h;split at h;rename_i K;cases l:QN P g r (off+a.cells) with
   | none=>rw[l]at h;cases h
   | some b=>rw[l]at h;cases h;simp only[Ty.cells]at hl;obtain⟨x,o⟩:=hx f (aK ..);obtain⟨F,p,d⟩:=z f.type a m _ _ o;obtain⟨I,w,s⟩:=jjo z r (off+a.cells) b l (λG D=>hx G (aS _ D)) zO;refine⟨F++I,.pair p w,?_,λj y u q c=>?_⟩;have:=p.len;have:=w.len;simp only[aY,aw];omega;rw[i,K]at d;rw[gm]at c;rw[p.len]at c;rw[bC]at q;split at c;rename_i k;exact d.2 j y u (by rw[cN,zb k,bC];exact q) c;rename_i B;exact s.2 (j - a.cells) y u (by rw[bC,show off+a.cells+(j - a.cells)=off+j from by omega];exact q) c
   cases h
  cases h
def jxn:∀ (n:Nat) (t:TypeId) (ty:Ty),j7j P n t=some ty->∀ (D:Nat) (cs:List Value) (x:DataW H × List MemPlace),DataW.trod enc P W 0 (λ_=>true) true D t cs=some x->∃G,Sh ty G/\Reps (WE W) cs G
 | 0,_,_,h,_,_,_,_=>by cases h
 | n+1,t,ty,h,D,cs,x,K=>by
  simp only[j7j]at h;split at h;rename_i r;cases h;obtain⟨b,rfl,_⟩:=DataW.trod_bool r K;exact⟨_,.bool b,Reps.one (.bool b)⟩;rename_i k r;cases h;obtain⟨b,rfl,_⟩:=DataW.trod_int r K;exact⟨_,.int k b,Reps.one (.int k b)⟩;rename_i r;cases h;obtain⟨s,rfl,_⟩:=DataW.trod_string r K;exact⟨_,.str s.data.toList,Reps.one (.str s)⟩;rename_i e r;cases L:j7j P n e with
  | none=>rw[L]at h;cases h
  | some g=>
   rw[L,ap]at h;split at h;rename_i hc;cases h;rcases DataW.trod_slice r K with⟨rfl,_⟩|⟨a,len,b8,b6,c4,m,_,rfl,_,_,M,hm,c3,I,_,_⟩;exact⟨_,.nil,Reps.one .slnil⟩;have T:∀i,i<len->∃G,Sh g G/\∃c,W.cells? 0 (a.add (i*g.cells)) g.cells=some c/\Reps (WE W) c G:=by intro i Z;have w:=I i Z;rw[aa zO,hc]at w;obtain⟨c,c2,c0⟩:=dU.1 w;obtain⟨G,h3,h4⟩:=jxn n e g L m c _ c0;exact⟨G,h3,c,c2,h4⟩
   obtain⟨p,w,h2⟩:=jmn len T;have a0:∀e∈p,Sh g e:=λe L=>by obtain⟨i,Z⟩:=gj L;exact(h2 i e Z).1
   have S:∀e∈p,e.length=g.cells:=λe L=>(a0 e L).len;have J:∀ (j:Nat) (v:V),p.flatten[j]? = some v->0<g.cells/\j / g.cells<len/\∃y,W.cell? ((a.add (j / g.cells*g.cells)).add (j % g.cells))=some y/\RepP (WE W) y v/\v.pureLeaf=true:=by
    intro j v d;have N:0<g.cells:=by rcases cI g.cells with h|h;have:=jsv p S;rw[h,Nat.mul_zero]at this;rw[cz.1 this]at d;simp at d;exact h
    rw[jla N p S]at d;cases u:p[j / g.cells]? with
    | none=>rw[u]at d;cases d
    | some e=>
     rw[u,ap]at d;have F:j / g.cells<len:=by rw[<- w];exact(aj.1 u).1
     obtain⟨O,c,b7,X⟩:=h2 _ e u;have b9:=ip j N;have q:=(World.cells?_some b7).2.2 _ b9;have c1:c.length=g.cells:=by rw[X.1,O.len]
     rw[aa zO]at q;exact⟨N,F,_,q,X.2 _ _ v (aa zO) d,O.pure v (aH d)⟩
   have B:p.flatten≠[]->a.spot=none:=by
    intro b5;obtain⟨v,hv⟩:∃v,p.flatten[0]? = some v:=by
     cases U:p.flatten with
     | nil=>exact zf U b5
     | cons v l=>exact⟨v,rfl⟩
    obtain⟨N,_,y,z,_⟩:=J 0 v hv;rw[Nat.zero_div,Nat.zero_mod,dE]at z;simpa[Addr.add] using World.cell?_spot z
   have o:∀ (j:Nat) (v:V),p.flatten[j]? = some v->∃y,W.cell? ⟨a.block,a.off+j,none⟩=some y/\RepP (WE W) y v:=by intro j v d;obtain⟨N,_,y,z,hr,_⟩:=J j v d;have hs:=B (λh=>by rw[h]at d;simp at d);obtain⟨b,off,sp⟩:=a;simp only at hs;subst hs;rw[add_plain,add_plain]at z;refine⟨y,?_,hr⟩;rw[<- z,aI,Nat.div_add_mod']
   rw[<- w]at M;refine⟨_,.slice p (bL M hm) a0,Reps.one ?_⟩;rw[w]at M ⊢;refine RepP.sl a len b8 p.flatten (λj=>(W.cell? ⟨a.block,a.off+j,none⟩).getD .nilFunc) B M hm (λj d=>?_) (λj v d=>?_) (λj v d=>?_);obtain⟨y,z,_⟩:=o j _ (aa d);show W.cell? _=some ((W.cell? _).getD _);rw[z];rfl;exact(J j v d).2.2.choose_spec.2.2;obtain⟨y,z,hr⟩:=o j v d;show RepP _ ((W.cell? _).getD _) v;rw[z];exact hr;cases h
  rename_i fs r;cases U:QN P (j7j P n) fs.toList 0 with
  | none=>rw[U]at h;cases h
  | some b=>
   rw[U,ap]at h;split at h;rename_i hc;cases h;obtain⟨xs,m,rfl,_,M,hn,I⟩:=DataW.trod_struct r K;have:=jjo (n:=m) (cs:=cs) (λt ty h cs x K=>jxn n t ty h m cs x K) fs.toList 0 ty U (λf b0=>by
    obtain⟨i,Z⟩:=gj b0;have Q:fs[i]? = some f:=by simpa using Z
    have w:=I i f Q;have F:i<xs.length:=by rw[hn];exact(aO.1 Q).1
    rw[aa F]at w;exact⟨_,w⟩) (by rw[bK,M,hc])
   simpa using this;cases h
  cases h
end
end Go.Pv.T
namespace Go.Pv.T
open Go Go.Pv Go.Proofs Go.ChangeShapes Go.WideShapes Go.ChangeAt Go.RowKit Go.Proofs.YtmanndcfeicokaaGreatDoor
def j5m {W:World}{t e:TypeId}{n fuel:Nat}{cs:List Value}{ds:List (DataW Unit)}{p:List MemPlace}{f0 f1:Field}{k0 k1:IntKind}(ht:Tryz.prog.underlying t=some (.array n e)) (hc:Tryz.prog.cellsOf e=2)
 (he:Tryz.prog.underlying e=some (.struct #[f0,f1])) (o0:f0.offset=0) (o1:f1.offset=1) (c0:Tryz.prog.cellsOf f0.type=1) (c1:Tryz.prog.cellsOf f1.type=1)
 (u0:Tryz.prog.underlying f0.type=some (.int k0)) (u1:Tryz.prog.underlying f1.type=some (.int k1)) (h:DataW.trod (λ_=>()) Tryz.prog W 0 (λ_=>true) false fuel t cs=some (.agg ds,p)) (I:IMap) :
 ∀ (j:Nat) (d:DataW Unit),(ds.map aggOf).flatten[j]? = some d->∃x,cs[j]? = some x/\RepP I x (jok d):=by
 obtain⟨xs,m,rfl,hx,hlen,hn,hel⟩:=DataW.trod_array ht h
 simp only[bZ,DataW.agg.injEq]at hx
 have one:∀ (l:List Value) (j:Nat) c,(l.drop j).take 1=[c]->l[j]? = some c:=by
  intro l j c hcc
  have:=zg List.head? hcc
  simpa[List.head?_take,List.head?_drop] using this
 have each:∀ (j:Nat) (y:DataW Unit × List MemPlace),xs[j]? = some y->∃d0 d1 x0 x1,y.1=.agg [d0,d1]/\cs[j*2]? = some x0/\RepP I x0 (jok d0)/\cs[j*2+1]? = some x1/\RepP I x1 (jok d1):=by
  intro j y hy
  have hj:j<n:=by rw[<- hn];exact(aj.1 hy).1
  have h2:=hel j hj
  rw[hc,hy]at h2
  obtain⟨y0,y1,m',e1,hl2,g0,g1⟩:=trod_struct2 he h2
  rw[o0,c0]at g0
  rw[o1,c1]at g1
  obtain⟨z0,a0,b0,_⟩:=DataW.trod_int u0 g0
  obtain⟨z1,a1,b1,_⟩:=DataW.trod_int u1 g1
  have q0:=one _ _ _ a0
  have q1:=one _ _ _ a1
  rw[cN,zb zO,bC]at q0 q1
  refine⟨y0.1,y1.1,_,_,by rw[e1],by simpa using q0,?_,q1,?_⟩
  ·rw[b0];exact RepP.int k0 z0
  ·rw[b1];exact RepP.int k1 z1
 have hds:ds=xs.map (·.1):=hx.1
 have len2:∀e∈ds.map aggOf,e.length=2:=by
  intro e he
  rw[hds,dl]at he
  obtain⟨y,hy,rfl⟩:=aE.1 he
  obtain⟨j,hj⟩:=gj hy
  obtain⟨d0,d1,x0,x1,e,_⟩:=each j y hj
  simp only[Function.comp,e,aggOf,bh,ct]
 intro k d hd
 rw[jla zQ _ len2]at hd
 rw[hds,dl,aV]at hd
 cases hy:xs[k / 2]? with
 | none=>rw[hy]at hd;cases hd
 | some y=>
  rw[hy]at hd
  obtain⟨d0,d1,x0,x1,e,g0,r0,g1,r1⟩:=each _ y hy
  simp only[aU,ap,Function.comp,e,aggOf]at hd
  rcases io k with hk|hk
  ·rw[hk]at hd
   cases hd
   rw[show k / 2*2=k from by omega]at g0
   exact⟨x0,g0,r0⟩
  ·rw[hk]at hd
   cases hd
   rw[show k / 2*2+1=k from by omega]at g1
   exact⟨x1,g1,r1⟩
def accD:List (DataW Unit):=((aggOf Rows.laid_unicode_utf8_acceptRanges).map aggOf).flatten
def gAcc:Tryz.prog.globalNamed "unicode/utf8.acceptRanges" = some 3:=by kernel_rfl
def acc_eq:accD.map jok=accR:=by kernel_rfl
def acc_agg:Rows.laid_unicode_utf8_acceptRanges=.agg (aggOf Rows.laid_unicode_utf8_acceptRanges):=by kernel_rfl
def j5q:(accD.map jok).all V.pureLeaf=true:=by kernel_rfl
def tAcc:(Tryz.prog.globals[3]?).map (·.type)=some 314:=by kernel_rfl
def glOk {W:World}(h:laidMetH Tryz.prog juy W):GlOk E (WE W):=by
 rw[MakeChecks.laidMetH_plain _ _ _ (by kernel_rfl)]at h
 obtain⟨ps,⟨g3,t3,cs3,f3,p3,q3,hg3,ht3,hv3,hd3,⟨g2,t2,cs2,f2,p2,q2,hg2,ht2,hv2,hd2,⟨g0,t0,cs0,f0,p0,q0,hg0,ht0,hv0,hd0,⟨g1,t1,cs1,f1,p1,q1,hg1,ht1,hv1,hd1,_,_⟩,_⟩,_⟩,_⟩,_,_⟩:=h
 obtain rfl:=cm (gWords.symm.trans hg0)
 obtain rfl:=cm (gFirst.symm.trans hg1)
 obtain rfl:=cm (tWords.symm.trans ht0)
 obtain rfl:=cm (tFirst.symm.trans ht1)
 obtain rfl:=cm (gBruij.symm.trans hg3)
 obtain rfl:=cm (tBruij.symm.trans ht3)
 obtain rfl:=cm (gAcc.symm.trans hg2)
 obtain rfl:=cm (tAcc.symm.trans ht2)
 intro g cs hcs
 simp only[E]at hcs
 split at hcs
 ·cases hcs
  rw[<- j10]
  exact jsq gWords hv0 jtm (jql Tryz.underlying262 (by kernel_rfl) (Or.inl (by kernel_rfl)) hd0 _)
 ·cases hcs
  rw[<- j4x]
  rw[j0d]at hd1
  exact jsq gFirst hv1 jvf (jql Tryz.underlying311 (by kernel_rfl) (Or.inr ⟨.u8,by kernel_rfl⟩) hd1 _)
 ·cases hcs
  rw[<- acc_eq]
  rw[acc_agg]at hd2
  exact jsq gAcc hv2 j5q (j5m (k0:=.u8) (k1:=.u8) Tryz.underlying314 (by kernel_rfl) Tryz.underlying313 rfl rfl (by kernel_rfl) (by kernel_rfl) (by kernel_rfl) (by kernel_rfl) hd2 _)
 ·cases hcs
  rw[<- j5k]
  rw[j03]at hd3
  exact jsq gBruij hv3 jvr (jql Tryz.underlying355 (by kernel_rfl) (Or.inr ⟨.u8,by kernel_rfl⟩) hd3 _)
 ·cases hcs
def jvq {f:FuncId}{W:World}{args:Array Value}{vs:List V}(hL:laidMetH Tryz.prog juy W) (hlen:args.size=vs.length) (hr:∀ (j:Nat) (x:Value) (v:V),args[j]? = some x->vs[j]? = some v->RepP (WE W) x v)
 (he:Ev E f vs (.bool true)):Calls Tryz.prog f args W λe w'=>e=.returned (.bool true)/\W.grownBy w' none:=by
 refine(Ev.sound mixed envOk he W (WE W) args (j0x W) (glOk hL) hlen hr).mono λe W' ⟨x,τ,I',h1,h2,_,_,_,h3,_⟩=>⟨?_,h2⟩
 rw[h1]
 have h4:RepP I' x (.bool true):=h3
 cases h4
 rfl
abbrev valTy:Ty:=.pair (.int .i64) (.pair (.int .i64) .unit)
abbrev opTy:Ty:=.pair .bool (.pair (.int .i64) (.pair valTy .unit))
abbrev txnTy:Ty:=.pair (.int .i64) (.pair (.int .i64) (.pair (.slice opTy) .unit))
abbrev j6k:Ty:=.pair (.slice .str) (.pair (.slice .str) (.pair (.slice txnTy) .unit))
def jez {α:Type}{t:Ty}{f:α->List V}(hf:∀e,Sh t e->∃a,e=f a) {vs:List V}(h:Sh (.slice t) vs):∃nl l,vs=[yl nl f l]:=by
 cases h with
 | nil=>exact⟨true,[],rfl⟩
 | slice es hn h=>
  have all:∀es:List (List V),(∀e∈es,Sh t e)->∃l:List α,es=l.map f:=by
   intro es
   induction es with
   | nil=>intro _;exact⟨[],rfl⟩
   | cons e es ih=>
    intro h
    obtain⟨a,rfl⟩:=hf e (h e (aK ..))
    obtain⟨l,rfl⟩:=ih (λe he=>h e (aS _ he))
    exact⟨a::l,rfl⟩
  obtain⟨l,rfl⟩:=all es h
  exact⟨false,l,by simp[yl,List.flatMap]⟩
def sh_val {vs:List V}(h:Sh valTy vs):∃v:Val',vs=J4 v:=by
 cases h with
 | pair ha hb=>cases ha with
  | int _ k=>cases hb with
   | pair hc hd=>cases hc with
    | int _ n=>cases hd;exact⟨⟨k,n⟩,rfl⟩
def sh_op {vs:List V}(h:Sh opTy vs):∃o:Op',vs=yQ o:=by
 cases h with
 | pair ha hb=>cases ha with
  | bool w=>cases hb with
   | pair hc hd=>cases hc with
    | int _ k=>cases hd with
     | pair he hf=>
      obtain⟨v,rfl⟩:=sh_val he
      cases hf
      exact⟨⟨w,k,v⟩,rfl⟩
def sh_txn {vs:List V}(h:Sh txnTy vs):∃t:Txn',vs=jl t:=by
 cases h with
 | pair ha hb=>cases ha with
  | int _ s=>cases hb with
   | pair hc hd=>cases hc with
    | int _ f=>cases hd with
     | pair he hf=>
      obtain⟨nl,l,rfl⟩:=jez (f:=yQ) (λe=>sh_op) he
      cases hf
      exact⟨⟨s,f,nl,l⟩,rfl⟩
def j54 {vs:List V}(h:Sh .str vs):∃s:List UInt8,vs=Jp s:=by
 cases h with
 | str s=>exact⟨s,rfl⟩
def j7x {vs:List V}(h:Sh j6k vs):∃g:Hist',vs=ya g:=by
 cases h with
 | pair ha hb=>cases hb with
  | pair hc hd=>cases hd with
   | pair he hf=>
    obtain⟨n0,l0,rfl⟩:=jez (f:=Jp) (λe=>j54) ha
    obtain⟨n1,l1,rfl⟩:=jez (f:=Jp) (λe=>j54) hc
    obtain⟨n2,l2,rfl⟩:=jez (f:=jl) (λe=>sh_txn) he
    cases hf
    exact⟨⟨n0,l0,n1,l1,n2,l2⟩,rfl⟩
def jnc {v:V}(h:v.pureLeaf=true):v.leaf=true:=by cases v <;> first|rfl|cases h
section
variable {H:Type}{enc:TypeId × Value->H}{W:World}{v:Value}{d:DataW H}{p:List MemPlace}{base:Nat}
def jtu {t:TypeId}{fs:Array Field}{n:Nat}{ty:Ty}(ht:Tryz.prog.underlying t=some (.struct fs)) (hty:j7j Tryz.prog n t=some ty) (hval:Value.okWide Tryz.prog W .any base t v)
 (h:DataW.Trod enc Tryz.prog W 0 (λ_=>true) true t v d p):∃vs,Sh ty vs/\RepP (WE W) v (.agg vs):=by
 obtain⟨cs,rfl,_⟩:=okWide_struct ht hval
 obtain⟨fuel,hf⟩:=h
 obtain⟨vs,hs,hr⟩:=jxn n t ty hty fuel _ _ hf
 refine⟨vs,hs,RepP.agg cs vs (by simpa[Value.cells] using hr.1) (λj v hj=>jnc (hs.pure v (aH hj))) (λj x v hx hv=>hr.2 j x v (by simpa[Value.cells] using hx) hv)⟩
def j8g (ts:List TypeId) (h:(ts.all λt=>Tryz.prog.readableRec t && decide (t<Tryz.prog.types.size))=true) (t:TypeId) (ht:t∈ts):Tryz.prog.readableRec t=true/\t<Tryz.prog.types.size:=by
 have:=av.1 h t ht
 simpa using this
def j4o (hval:Value.okWide Tryz.prog W .any base 25 v) (h:DataW.Trod enc Tryz.prog W 0 (λ_=>true) true 25 v d p):∃g:Hist',RepP (WE W) v (.agg (ya g)):=by
 obtain⟨vs,hs,hr⟩:=jtu (n:=8) (ty:=j6k) Tryz.underlying25 (by kernel_rfl) hval h
 obtain⟨g,rfl⟩:=j7x hs
 exact⟨g,hr⟩
def okInt {k:IntKind}{t:TypeId}(ht:Tryz.prog.underlying t=some (.int k)) (hval:Value.okWide Tryz.prog W .any base t v):∃n,v=.int k n/\k.has n:=by
 simp only[Value.okWide,ht,Cell.okWide]at hval
 cases v <;> simp_all [Cell.ok]
def j95 (hval:Value.okWide Tryz.prog W .any base 3 v):∃n:Int,(-9223372036854775808<=n/\n<9223372036854775808)/\RepP (WE W) v (.int .i64 n):=by
 obtain⟨n,rfl,h⟩:=okInt Tryz.underlying3 hval
 refine⟨n,?_,RepP.int .i64 n⟩
 simp[IntKind.has,IntKind.min,IntKind.max,IntKind.bits,IntKind.signed]at h
 omega
end
end Go.Pv.T
