/- Part. -/
import Derived.Test.YtmanndcfeicokaaGreatDoorTAA
import Derived.OrdersIn
import Derived.TacticsIn
import Derived.LoopNIn
import Derived.RangeFuncRecord
import Derived.Sort.Grow
import Derived.RangeFuncLeaves
set_option maxRecDepth 100000
set_option maxHeartbeats 8000000
set_option linter.all false
namespace Go.Pv
open Go
section
variable {P:Program}{E:Env}{w0 w:World}{I0:IMap}{nt:Nat}{γ:Nat->Option Place}{I:IMap}{st:St}{a:Act}{o:Oper}{ub:Nat}{δ:Delta}
def jyd (hR:R E w0 I0 nt γ I st a w) (hd:∀d,o.dst=some d->d<nt) {t kt e:TypeId}{m k:Operand}{m' k':A}{q:LK}{i:TypeInfo}{z:Value}{zv:V}(ho:o.op=.mapEntry t m k) (hm:opd m=some m') (p:opd k=some k')
 (L:P.underlying t=some (.map kt e)) (hq:joj P kt=some q) (hi:P.info? e=some i) (hz:i.zero=some z) (c4:Wd z=some zv)
 (B:(if Qz q (ye E st.tm k') then match ye E st.tm m' with
  | .map l u=>if Nat.ble st.ro u&&Nat.blt (jn st.ob l) jpp then (jY st.ob l u).bind λG=>(yM q (ye E st.tm k') G).bind λr=>match r with
   |some (i,v)=>some { v:=.tup [v,.int .i64 i],obs:=[(l,⟨u,.mp (jn st.ob l+1) (G.set i (ye E st.tm k',v))⟩)] }
   |none=>some { v:=.tup [zv,.int .i64 G.length],obs:=[(l,⟨u,.mp (jn st.ob l+1) (G++[(ye E st.tm k',zv)])⟩)] }
   else none
  |_=>none else none)=some δ):XY P E w0 I0 nt γ I st a w o ub δ:=by
 obtain⟨d,J,Q⟩:=je6 hq;have b7:=jD hR hm;have T:=jD hR p;have b6:Rep γ I z zv:=.pure _ _ (jbv c4);have O:∀(x:Value) (v:V) (n:Nat),Rep γ I x v->Rep γ I (.tuple #[x,goInt n]) (.tup [v,.int .i64 n]):=by
  intro x v n h;refine .tup _ _ rfl (λj y u hy L=>?_);match j with
  |0=>simp at hy L;subst hy;subst L;exact h
  |1=>simp at hy L;subst hy;subst L;exact .pure _ _ (.int _ _)
  |j+2=>simp at L
 split at B
 ·rename_i b5;have b8:=jza T b5;split at B
  ·rename_i l u f;rw[f]at b7;obtain⟨b,kb,Z,b9⟩:=QL b7;split at B;case isFalse=>cases B
   rename_i D;rw[ab]at D;obtain⟨D,S⟩:=D;have S:jn st.ob l<jpp:=by simpa using S
   obtain⟨G,c6,B⟩:=yc B;obtain⟨r,hr,B⟩:=yc B;have a0:=XO c6;obtain⟨M,c,h1,h2,h3,c2,X,c5⟩:=jcp hR a0 Z;have hD:=c5 S;have d4:b<w.heap.size:=(aO.1 h1).1;have c7:=W9 Q T M.toList G 0 r (by simpa using h2) (λj e k v f p=>h3 j e k v (by simpa using f) p) hr;rcases c7 with⟨rfl,hf⟩|⟨j,v0,K,rfl,d0,⟨b0,N,c3⟩,hf⟩
   ·refine Wm hR hd a0 D (body':=.mp _ _) (x:=.tuple #[z,goInt c]) (v:=.tup [zv,.int .i64 G.length]) (w':={ w with heap:=w.heap.setIfInBounds b (.map (M.push { key:=a.eval k,val:=z,born:=c }) (c+1)) }) (.inl ?_) ?_ (λv G h=>by cases h;exact⟨_,_,rfl,cY _⟩) ?_ B;simp only[execOp,ho,b9,Instr.mapEntry,aB,run_underlying L,ak,aG,Jg h1,JR J Q,X1 J hf,JO hi hz,Y6 h1];have:c=G.length:=hD.1.trans h2;rw[this];exact O _ _ _ b6
    ·intro b' k0 H F;rw[Z]at H;cases H;refine⟨rfl,rfl,rfl,zS,λk p=>X5 w b k _ p,?_⟩;rw[JP w b _ F];refine⟨_,_,rfl,jb0 (by simp[h2]) (λj K kk vv f p=>?_),?_,λe f=>?_,λ_=>jjq hD⟩;case refine_2=>
      rw[Array.toList_push,bA,bc,co]
      refine cU.2 ⟨c2,zS,λx hx y hy=>?_⟩
      simp only[ag]at hy
      subst hy
      obtain⟨e,f,rfl⟩:=aE.1 hx
      exact eJ (X e (by simpa using f))
     case refine_3=>rcases Array.mem_push.1 f with f|rfl;exact gE (X e f);exact cY _
     rw[gu]at f;split at f;rename_i hj;cases f;subst hj;rw[bw zO,h2]at p;simp at p;obtain⟨rfl,rfl⟩:=p;exact⟨b8,b6⟩;rename_i hj;have d3:j<G.length:=by have:=(aO.1 f).1;omega
     rw[bl d3]at p;exact h3 j K kk vv f p
   ·have g:M[j]? = some K:=by simpa using d0
    have d5:j<M.size:=(aO.1 g).1;have c1:=(h3 j K b0 v0 g N).2;have U:K.born=j:=hD.2 j K g;refine Wm hR hd a0 D (body':=.mp _ _) (x:=.tuple #[K.val,goInt j]) (v:=.tup [v0,.int .i64 j]) (w':={ w with heap:=w.heap.setIfInBounds b (.map (M.modify j λe=>{ e with key:=a.eval k }) c) }) (.inl ?_) (O _ _ _ c1) (λv G h=>by cases h;exact⟨_,_,rfl,cY _⟩) ?_ (by simpa using B);have c9:(Instr.keyThatStays K.key (a.eval k)).run P w=.ok (a.eval k) w:=jsc (γ:=γ) (I:=I) T (.pure _ _ (h3 j K b0 v0 g N).1) c3;simp only[bK]at hf;simp only[execOp,ho,b9,Instr.mapEntry,aB,run_underlying L,ak,aG,Jg h1,JR J Q,X1 J hf,g,aU,cy,c9,Y6 h1,U]
    ·intro b' k0 H F;rw[Z]at H;cases H;refine⟨rfl,rfl,rfl,zS,λk p=>X5 w b k _ p,?_⟩;rw[JP w b _ F];have c0:(M.modify j λe=>{ e with key:=a.eval k }).toList.map (·.born)=M.toList.map (·.born):=by apply dC;intro i;simp only[aV,br,cW];by_cases s:j=i;subst s;simp[g];simp[s]
     refine⟨_,_,rfl,jb0 (by simp[h2]) (λi c8 kk vv f p=>?_),by rw[c0];exact c2,λe f=>?_,λ_=>jah (λ_=>rfl) hD⟩;case refine_2=>
      have:e.born∈(M.modify j λe=>{ e with key:=a.eval k }).toList.map (·.born):=aE.2 ⟨e,dg.2 f,rfl⟩
      rw[c0]at this
      obtain⟨e2,d1,d2⟩:=aE.1 this
      rw[<- d2]
      exact X e2 (by simpa using d1)
     rw[cW]at f;by_cases s:j=i;subst s;simp only[zd,g,aU,ae]at f;subst f;rw[dF zO]at p;cases p;exact⟨b8,c1⟩;rw[za s]at f;rw[cP s]at p;exact h3 i c8 kk vv f p
  cases B
 cases B
def j3b (Q:R E w0 I0 nt γ I st a w) (hd:∀d,o.dst=some d->d<nt) {t:TypeId}{m s x:Operand}{m' s' x':A}(ho:o.op=.entryStore t m s x) (hm:opd m=some m') (hs:opd s=some s') (hx:opd x=some x')
 (r:(match ye E st.tm m',ye E st.tm s' with
  | .map l u,.int .i64 (.ofNat n)=>if Nat.ble st.ro u&&Nat.blt (jn st.ob l) jpp then (jY st.ob l u).bind λT=>match T[n]? with
   |some (k,_)=>some { v:=js,obs:=[(l,⟨u,.mp (jn st.ob l+1) (T.set n (k,(ye E st.tm x').strip))⟩)] }
   |none=>none
   else none
  |_,_=>none)=some δ):XY P E w0 I0 nt γ I st a w o ub δ:=by
 have S:=jD Q hm;have J:=jD Q hs;have b7:=(jD Q hx).strip;split at r
 ·rename_i l u n q B;rw[q]at S;rw[B]at J;obtain⟨b,kb,F,X⟩:=QL S;have Z:=JE J;split at r;case isFalse=>cases r
  rename_i g;rw[ab]at g;obtain⟨g,y⟩:=g;have y:jn st.ob l<jpp:=by simpa using y
  obtain⟨T,B,r⟩:=yc r;have L:=XO B;obtain⟨M,z,h1,h2,h3,b0,U,b5⟩:=jcp Q L F;have hD:=b5 y;split at r;case h_2=>cases r
  rename_i k0 v0 K;have f:n<M.size:=by rw[h2];exact(aj.1 K).1
  have p:M[n]? = some M[n]:=aA f;have b9:M.findIdx? (λe=>(e.born:Int)==(n:Int))=some n:=by rw[Array.findIdx?_eq_some_iff_getElem];refine⟨f,by rw[hD.2 n _ p];simp,λj hj=>?_⟩;have:=hD.2 j _ (aA (Nat.lt_trans hj f));simp only[this,Bool.not_eq_true,zk,ne_eq];omega
  have N:M.findIdx? (λe=>(e.born:Int)==(Int.ofNat n))=some n:=b9;refine Wm Q hd L g (body':=.mp _ _) (x:=undef) (v:=js) (w':={ w with heap:=w.heap.setIfInBounds b (.map (M.modify n λe=>{ e with val:=a.eval x }) z) }) (.inr ⟨?_,rfl⟩) (.tup _ _ rfl zS) (λv T h=>by cases h;exact⟨_,_,rfl,cY _⟩) ?_ r;simp only[execOp,ho,X,Z,Instr.entryStore,asInt,asIntOf,aB,ak,aG,Jg h1,N,Y6 h1]
  ·intro b' k1 O H;rw[F]at O;cases O;refine⟨rfl,rfl,rfl,zS,λk D=>X5 w b k _ D,?_⟩;rw[JP w b _ H];have G:(M.modify n λe=>{ e with val:=a.eval x }).toList.map (·.born)=M.toList.map (·.born):=by apply dC;intro i;simp only[aV,br,cW];by_cases c:n=i;subst c;simp[p];simp[c]
   refine⟨_,_,rfl,jb0 (by simp[h2]) (λi b8 kk vv q D=>?_),by rw[G];exact b0,λe q=>?_,λ_=>jah (λ_=>rfl) hD⟩;case refine_2=>
    have:e.born∈(M.modify n λe=>{ e with val:=a.eval x }).toList.map (·.born):=aE.2 ⟨e,dg.2 q,rfl⟩
    rw[G]at this
    obtain⟨e2,a0,b6⟩:=aE.1 this
    rw[<- b6]
    exact U e2 (by simpa using a0)
   rw[cW]at q;by_cases c:n=i;subst c;simp only[zd,p,aU,ae]at q;subst q;rw[dF zO]at D;cases D;exact⟨(h3 n _ _ _ p K).1,b7⟩;rw[za c]at q;rw[cP c]at D;exact h3 i b8 kk vv q D
 cases r
end
section
variable {P:Program}{E:Env}{w0 w:World}{I0:IMap}{nt:Nat}{γ:Nat->Option Place}{I:IMap}{st:St}{a:Act}{o:Oper}{ub:Nat}{δ:Delta}
def je3 {xs:Array Operand}{y:A}(h:opds xs=some [y]):∃x,xs=#[x]/\opd x=some y:=by
 obtain⟨c,b⟩:=JA h;obtain⟨l⟩:=xs;match l,c,b with
 |[x],_,b=>exact⟨x,rfl,b 0 x y rfl rfl⟩
def jkq {xs:Array Operand}{y z:A}(h:opds xs=some [y,z]):∃x b,xs=#[x,b]/\opd x=some y/\opd b=some z:=by
 obtain⟨d,c⟩:=JA h;obtain⟨l⟩:=xs;match l,d,c with
 |[x,b],_,c=>exact⟨x,b,rfl,c 0 x y rfl rfl,c 1 b z rfl rfl⟩
def jmw (G:R E w0 I0 nt γ I st a w) (q:∀d,o.dst=some d->d<nt) (v:γ ub=none) {t e:TypeId}{s x:Operand}{s' L:A}{i:TypeInfo}{z:Value}{d:Nat}{m:Bool}(y:o.op=.call { callee:=.builtin .append,args:=#[s,x],argTypes:=#[t,t] })
 (D:opd s=some s') (F:opd x=some L) (B:P.underlying t=some (.slice e)) (hi:P.info? e=some i) (r:i.zero=some z) (j:0<i.size) (p:z.cells.size=i.size) {O:FuncId->List V->Option V}
 (h:yS O (ye E st.tm) st.ob st.tk st.ro d ub (.append m i.size i.bytes s' L)=some δ):XY P E w0 I0 nt γ I st a w o ub δ:=by
 simp only[yS]at h;split at h;rename_i N Q n cs c;obtain⟨M,f,g⟩:=yc h;clear h;by_cases b:M=[];rw[zb b]at g;exact jmx G q v y D F B hi r j p (by rw[c];simp only[f,ap];rw[zb b];exact g);rw[za b]at g;by_cases k:(m&&Q)=true;rw[zb k]at g;simp only[ab]at k;obtain⟨rfl,rfl⟩:=k;simp only[aC]at g;obtain⟨K,g⟩:=g;exact ji0 G q v y D F B hi r j p f (.inl ⟨N,n,cs,c,b,K.2.1,K.2.2.1,K.2.2.2,g⟩);rw[za k]at g;exact jmx G q v y D F B hi r j p (by rw[c];simp only[f,ap];rw[za b];exact g);rename_i l u off n H c;obtain⟨M,f,h⟩:=yc h;obtain⟨cs,J,h⟩:=yc h;exact ji0 G q v y D F B hi r j p f (.inr ⟨l,u,off,n,H,cs,c,J,h⟩);cases h
def op_ok {m:Bool}{ao:AOp}{cd:FuncId->List V->Option V}{d:Nat}(u:R E w0 I0 nt γ I st a w) (r:∀d,o.dst=some d->d<nt) (T:γ ub=none) (h:Jy P m o=some ao) (hn:ao.isCall=false)
 (p:yS cd (ye E st.tm) st.ob st.tk st.ro d ub ao=some δ):XY P E w0 I0 nt γ I st a w o ub δ:=by
 unfold Jy at h;split at h;rename_i c S;obtain⟨c4,c1,b8⟩:=c;unfold ja0 at h;split at h;obtain⟨l,v,rfl⟩:=yh h;split at hn;rename_i k L;exact ok_ext u r S (by assumption) v L (by simp only[L]at p;exact p);cases hn;obtain⟨_,_,h⟩:=yc h;obtain⟨_,_,rfl⟩:=yh h;cases hn;cases h;rename_i b Z;simp only at Z;subst Z;have h:=(cH.1 h).1;simp only at h;unfold jhc at h;split at h;obtain⟨l,v,h⟩:=yc h;split at h;rename_i D;cases h;obtain⟨x,rfl,j⟩:=je3 v;obtain⟨t,N,K⟩:=yc D;exact jyg u r S j N K p;rename_i D;cases h;obtain⟨x,rfl,j⟩:=je3 v;obtain⟨t,N,K⟩:=yc D;exact j26 u r S j N K p;rename_i D;cases h;obtain⟨x,rfl,j⟩:=je3 v;obtain⟨t,N,K⟩:=yc D;exact jyh u r S j N K p;cases h;obtain⟨l,v,h⟩:=yc h;split at h;rename_i a0;split at h;rename_i b7;subst b7;split at h;rename_i K;obtain⟨i,M,h⟩:=yc h;obtain⟨z,H,h⟩:=yc h;split at h;rename_i Q;cases h;obtain⟨x,y,rfl,j,G⟩:=jkq v;obtain⟨l2⟩:=b8;simp only at a0;subst a0;exact jmw u r T S j G K M H Q.1 Q.2 p;cases h;cases h;cases h;cases h;obtain⟨l,v,rfl⟩:=yh h;exact jmt (isMax:=false) u r S v p;obtain⟨l,v,rfl⟩:=yh h;exact jmt (isMax:=true) u r S v p;obtain⟨l,v,h⟩:=yc h;split at h;rename_i D;obtain⟨sz,Q,rfl⟩:=yh h;obtain⟨x,y,rfl,j,G⟩:=jkq v;obtain⟨t,N,K⟩:=yc D;exact j8u u r S N j G K Q p;cases h;obtain⟨l,v,h⟩:=yc h;split at h;rename_i D;obtain⟨sz,Q,h⟩:=yc h;obtain⟨z,H,rfl⟩:=yh h;obtain⟨x,rfl,j⟩:=je3 v;obtain⟨t,N,K⟩:=yc D;exact j3c u r S N j K H p;cases h;obtain⟨l,v,h⟩:=yc h;split at h;rename_i D;obtain⟨q,U,rfl⟩:=yh h;obtain⟨x,y,rfl,j,G⟩:=jkq v;obtain⟨t,N,K⟩:=yc D;exact jye u r S N j G K U p;cases h;cases h;obtain⟨F,j,rfl⟩:=yh h;cases p;have h:=(cH.1 h).1;unfold jqf at h;split at h;obtain⟨y,G,rfl⟩:=yh h;exact jyc u r (.inl (by assumption)) G p;obtain⟨y,G,rfl⟩:=yh h;exact jyc u r (.inr (by assumption)) G p;obtain⟨c',h1,h⟩:=yc h;obtain⟨F,h2,h⟩:=yc h;obtain⟨y',h3,rfl⟩:=yh h;exact j8q u r (by assumption) h1 h2 h3 p;obtain⟨z,H,rfl⟩:=yh h;exact j3d u r T (by assumption) H p;obtain⟨n,h1,h⟩:=yc h;obtain⟨F,h2,rfl⟩:=yh h;exact ok_box u r T (by assumption) h2 p;obtain⟨z,H,h⟩:=yc h;split at h;obtain⟨b6,hp,h⟩:=yc h;obtain⟨l,v,rfl⟩:=yh h;exact jrx u r (by assumption) H (.inl ⟨_,_,by assumption,hp,rfl⟩) v p;obtain⟨s,J,h⟩:=yc h;obtain⟨l,v,rfl⟩:=yh h;exact jrx u r (by assumption) H (.inr ⟨_,_,_,by assumption,J,rfl⟩) v p;cases h;split at h;obtain⟨s,J,h⟩:=yc h;obtain⟨z,H,h⟩:=yc h;split at h;rename_i B;obtain⟨l,v,rfl⟩:=yh h;cases m with
 |false=>exact jun u r T (by assumption) (by assumption) J H B.1 B.2.1 B.2.2 v p
 |true=>exact jph u r T (by assumption) (by assumption) J H B.1 B.2.1 B.2.2 v p
 cases h;cases h;obtain⟨g,hg,h⟩:=yc h;obtain⟨F,j,rfl⟩:=yh h;exact j8t u r (by assumption) j hg p;obtain⟨s,J,h⟩:=yc h;obtain⟨F,j,h⟩:=yc h;obtain⟨y',G,rfl⟩:=yh h;exact j21 u r (by assumption) j G J p;obtain⟨F,j,rfl⟩:=yh h;exact jpg u r (by assumption) j p;obtain⟨F,j,h⟩:=yc h;obtain⟨y',G,h⟩:=yc h;split at h;split at h;cases h;exact jym u r (by assumption) j G p;obtain⟨k,L,rfl⟩:=yh h;simp only[yS]at p;split at p;exact jrw u r (neg:=false) (by assumption) j G L (by assumption) (by assumption) p;exact ok_eq u r (neg:=false) (by assumption) j G L p;split at h;cases h;exact jym u r (by assumption) j G p;obtain⟨k,L,rfl⟩:=yh h;simp only[yS]at p;split at p;exact jrw u r (neg:=true) (by assumption) j G L (by assumption) (by assumption) p;exact ok_eq u r (neg:=true) (by assumption) j G L p;cases h;exact jym u r (by assumption) j G p;obtain⟨F,j,rfl⟩:=yh h;exact ok_un u r (by assumption) j p;split at h;obtain⟨F,j,rfl⟩:=yh h;exact j8v u r (by assumption) j (by assumption) (by assumption) p;obtain⟨F,j,rfl⟩:=yh h;exact jyl u r (by assumption) j (by assumption) (by assumption) p;split at h;obtain⟨F,j,rfl⟩:=yh h;exact j24 u r T (by assumption) j (by assumption) (by assumption) (by assumption) p;cases h;cases h;split at h;cases h;rename_i K b5;obtain⟨F,j,rfl⟩:=yh h;exact j27 u r (by assumption) j (by assumption) (λms e=>by subst e;simp_all) p;cases h;obtain⟨xs,j,h⟩:=yc h;obtain⟨ys,G,rfl⟩:=yh h;exact j8s u r (by assumption) j G p;cases h;exact j25 u r T (by assumption) p;split at h;obtain⟨i,M,h⟩:=yc h;obtain⟨z,H,h⟩:=yc h;obtain⟨l',v,h⟩:=yc h;obtain⟨c',b9,rfl⟩:=yh h;exact j8r u r T (by assumption) v b9 (by assumption) M H p;cases h;split at h;cases h;rename_i b5 K;obtain⟨i,M,h⟩:=yc h;obtain⟨z,H,h⟩:=yc h;obtain⟨zv,O,h⟩:=yc h;obtain⟨F,j,rfl⟩:=yh h;exact jyn u r (by assumption) j K (λms e=>b5 ms e) M H O p;cases h;obtain⟨F,j,h⟩:=yc h;obtain⟨c3,v,h⟩:=yc h;obtain⟨c2,hh,h⟩:=yc h;split at h;cases h;exact j22 u r (by assumption) j v hh (by assumption) p;obtain⟨s,J,rfl⟩:=yh h;exact j8p u r (by assumption) j v hh (by assumption) J p;split at h;obtain⟨s,J,rfl⟩:=yh h;exact j23 u r (by assumption) j v hh (by assumption) (by assumption) J p;cases h;cases h;obtain⟨f,b0,h⟩:=yc h;obtain⟨n,c0,h⟩:=yc h;split at h;cases h;obtain⟨F,j,rfl⟩:=yh h;exact jmv u r (by assumption) j b0 c0 (by assumption) p;obtain⟨f,b0,h⟩:=yc h;obtain⟨g,hg,h⟩:=yc h;obtain⟨F,j,rfl⟩:=yh h;exact j29 u r (by assumption) j b0 hg p;obtain⟨F,j,h⟩:=yc h;obtain⟨i',M,h⟩:=yc h;split at h;obtain⟨s,J,h⟩:=yc h;split at h;cases h;cases h;exact j28 u r (by assumption) j M (by assumption) J (by assumption) p;obtain⟨s,J,rfl⟩:=yh h;exact jyk u r (by assumption) j M (by assumption) J p;cases h;obtain⟨F,j,h⟩:=yc h;obtain⟨i',M,h⟩:=yc h;split at h;cases h;exact jyj u r (by assumption) j M (by assumption) p;obtain⟨s,J,h⟩:=yc h;obtain⟨g,hg,rfl⟩:=yh h;exact jyi u r (by assumption) j M (by assumption) J hg p;cases h;split at h;obtain⟨q,U,h⟩:=yc h;obtain⟨i,M,h⟩:=yc h;obtain⟨z,H,h⟩:=yc h;obtain⟨zv,O,h⟩:=yc h;obtain⟨m',X,h⟩:=yc h;obtain⟨k',L,rfl⟩:=yh h;exact jyf u r (by assumption) X L (by assumption) U M H O p;cases h;split at h;obtain⟨q,U,h⟩:=yc h;obtain⟨m',X,h⟩:=yc h;obtain⟨k',L,h⟩:=yc h;obtain⟨v',hv,rfl⟩:=yh h;exact jmu u r (.inl (by assumption)) X L hv (by assumption) U p;cases h;split at h;obtain⟨q,U,h⟩:=yc h;obtain⟨m',X,h⟩:=yc h;obtain⟨k',L,h⟩:=yc h;obtain⟨v',hv,rfl⟩:=yh h;exact jmu u r (.inr (by assumption)) X L hv (by assumption) U p;cases h;split at h;obtain⟨q,U,h⟩:=yc h;obtain⟨i,M,h⟩:=yc h;obtain⟨z,H,h⟩:=yc h;obtain⟨zv,O,h⟩:=yc h;obtain⟨m',X,h⟩:=yc h;obtain⟨k',L,rfl⟩:=yh h;exact jyd u r (by assumption) X L (by assumption) U M H O p;cases h;obtain⟨m',X,h⟩:=yc h;obtain⟨s',J,h⟩:=yc h;obtain⟨F,j,rfl⟩:=yh h;exact j3b u r (by assumption) X J j p;split at h;obtain⟨F,j,rfl⟩:=yh h;exact jpe u r T (by assumption) j (by assumption) p;obtain⟨F,j,rfl⟩:=yh h;exact jpf u r T (by assumption) j (by assumption) p;cases h;obtain⟨F,j,rfl⟩:=yh h;exact juk u r (by assumption) j p;obtain⟨F,j,rfl⟩:=yh h;exact j3a u r (by assumption) j p;obtain⟨F,j,rfl⟩:=yh h;exact jum u r (by assumption) j p;cases h
end
def C.dstOk (n:Nat):C->Bool
 | .region ops|.draw ops _=>ops.all λo=>match o.dst with|some d=>Nat.blt d n|none=>true
 | .pin o fs=>(o::fs).all λo=>match o.dst with|some d=>Nat.blt d n|none=>true
 | .seq a b|.cond _ a b=>a.dstOk n&&b.dstOk n
 | .block _ a|.loop a=>a.dstOk n
 | .rangeFunc _ ps a b=>(ps.all λp=>Nat.blt p n)&&a.dstOk n&&b.dstOk n
 |_=>true
def jO (P:Program) (r:Bool) (f:FuncId) (af:AF):Prop:=∃m fn c,P.funcs[f]? = some fn/\fn.body=some c/\comp P m r c=some af.body/\fn.results.toList.mapM (Yh P)=some af.res /\
 (fn.name == "runtime.NumGoroutine")=false/\af.body.dstOk fn.ntmps=true
def jj8 (m:Option FuncId) (x:Value):Array Value:=match m with
 |none=>#[x]
 |some g=>#[x,.func (.func g) #[] #[]]
def jlm (P:Program) (f:FuncId) (m:Option FuncId):Prop :=
 (∃fn c,P.funcs[f]? = some fn/\fn.body=some c/\(fn.name == "runtime.NumGoroutine")=false) /\
 (∀(p:Option Addr) (cap:Nat) (w:World),Calls P f (jj8 m (.slice p 0 cap)) w λe w'=>e=.returned (.tuple #[])/\w'=w) /\
 ∀(blk off cap n:Nat) (zs:List Int) (w:World),zs.length=n*jhx m->jq6 m zs=true->Go.Sort.Holds (Value.int .i64) w blk off zs.toArray->blk<w.heap.size->n<4611686018427387904 ->
  Calls P f (jj8 m (.slice (some ⟨blk,off,none⟩) n cap)) w λe w'=>e=.returned (.tuple #[])/\∃n os,w'=Go.Sort.grow (Go.Sort.putRow (Value.int .i64) (Go.Sort.ahead w n) blk off (QZ m zs).toArray) os
def MkLaw (P:Program) (f:FuncId) (cs:List V):Prop :=
 (∃fn c,P.funcs[f]? = some fn/\fn.body=some c/\(fn.name == "runtime.NumGoroutine")=false) /\
 ∀(p:Option Addr) (cap:Nat) (w:World),Calls P f #[.slice p 0 cap] w λe w'=>e=.returned (.pointer (some ⟨w.heap.size,0,none⟩))/\∃xs t,w'=w.alloc (.cells xs t)/\xs.size=cs.length/\∀(j:Nat) (x:Value) (v:V),xs[j]? = some x->cs[j]? = some v->v.leaf=true/\∀I,RepP I x v
structure EnvOk (P:Program) (E:Env):Prop where
 fc:∀f af,E.fc f=some af->jO P false f af
 fs:∀f af,E.fs f=some af->jO P true f af
 srt:∀f m,E.srt f=some m->jlm P f m
 nw:∀f cs,E.nw f=some cs->MkLaw P f cs
def jog (I:IMap) (w:World):Prop:=∀b o x,I b o=some x->w.cell? ⟨b,o,none⟩=some x
def GlOk (E:Env) (I:IMap):Prop:=∀g cs,E.gl g=some cs->RepP I (.pointer (some ⟨g,0,none⟩)) (.eptr cs 0)
def joc (B:Nat) (τ:Nat->Option Place) (I:IMap) (w:World) (r:V):Prop :=
 ∀i∈yx r,∃b n cap sz,τ i=some (.tok b n cap sz)/\B<=b/\b<w.heap.size/\TokOk w.heap[b]? n cap sz/\(∀j,n*sz<=j->I b j=none)/\∀i'∈yx r,∀n' c' s',τ i'=some (.tok b n' c' s')->i'=i
def j1e (τ:Nat->Option Place) (I:IMap) (x:Value) (v:V):Prop :=
 match v with
 | .sl (some _) _ _ _=>Rep τ I x v
 |v=>RepP I x v
def jvz (τ:Nat->Option Place) (I:IMap) (x:Value) (v:V):Prop :=
 match v with
 | .agg cs=>∃xs:Array Value,x=.agg xs/\xs.size=cs.length/\(∀(j:Nat) (u:V),cs[j]? = some u->u.leaf=true)/\∀(j:Nat) (y:Value) (u:V),xs[j]? = some y->cs[j]? = some u->j1e τ I y u
 |v=>j1e τ I x v
def j1c (τ:Nat->Option Place) (I:IMap) (x:Value) (r:V):Prop :=
 match r with
 | .tup vs=>∃xs:Array Value,x=.tuple xs/\xs.size=vs.length/\∀(j:Nat) (y:Value) (u:V),xs[j]? = some y->vs[j]? = some u->jvz τ I y u
 |v=>jvz τ I x v
def joe (P:Program) (E:Env) (f:FuncId) (args:List V) (r:V):Prop :=
 ∀(w:World) (I:IMap) (xs:Array Value),jog I w->GlOk E I->xs.size=args.length->(∀(j:Nat) (x:Value) (v:V),xs[j]? = some x->args[j]? = some v->RepP I x v) ->
  Calls P f xs w λe w'=>∃x τ I',e=.returned x/\w.grownBy w' none/\(∀b o x,I b o=some x->I' b o=some x)/\jog I' w'/\(∀b o,b<w.heap.size->I' b o=I b o)/\j1c τ I' x r/\joc w.heap.size τ I' w' r
def SubG (γ γ':Nat->Option Place):Prop:=∀u p,γ u=some p->γ' u=some p
def SubI (I I':IMap):Prop:=∀b o x,I b o=some x->I' b o=some x
def SubG.refl (γ:Nat->Option Place):SubG γ γ:=λ_ _ h=>h
def SubI.refl (I:IMap):SubI I I:=λ_ _ _ h=>h
def SubG.trans {a b c:Nat->Option Place}(h:SubG a b) (k:SubG b c):SubG a c:=λu p x=>k u p (h u p x)
def SubI.trans {a b c:IMap}(h:SubI a b) (k:SubI b c):SubI a c:=λu o p x=>k u o p (h u o p x)
def ObsOk (P:Program) (E:Env) (f:FuncId) (args:List V) (ob:ZO) (ub:Nat) (r:V):Prop :=
 ∀(w0 w:World) (I0 I:IMap) (γ:Nat->Option Place) (xs:Array Value) (st:St),(∀l x,ob l=some x->st.ob l=some x)->Sh E w0 I0 γ I st w->(∀u,ub<=u->γ u=none)->xs.size=args.length ->
  (∀(j:Nat) (x:Value) (v:V),xs[j]? = some x->args[j]? = some v->Rep γ I x v) ->
  Calls P f xs w λe w'=>∃x τ I',e=.returned x/\w.grownBy w' none/\(∀b o x,I b o=some x->I' b o=some x)/\jog I' w'/\(∀b o,b<w.heap.size->I' b o=I b o)/\j1c τ I' x r/\joc w.heap.size τ I' w' r
def Wy (E:Env) (w0:World) (I0:IMap) (γ:Nat->Option Place) (I:IMap) (ro:Nat) (r:V) (ob':ZO) (tk':Nat->Bool) (ub':Nat) (e:Ending) (w':World):Prop :=
 ∃x γ' I',e=.returned x/\(∀st':St,st'.ob=ob'->st'.tk=tk'->st'.ro=ro->Sh E w0 I0 γ' I' st' w')/\Rep γ' I' x r/\SubG γ γ'/\SubI I I'/\(∀u,ub'<=u->γ' u=none)
def jln (P:Program) (E:Env) (γ0:Nat->Option Place) (Iy:IMap) (f:FuncId) (args:List V) (ob:ZO) (tk:Nat->Bool) (ro ub:Nat) (l:List (V×(ZO)×(Nat->Bool)×Nat)):Prop :=
 ∀(w0 w:World) (I0 I:IMap) (γ:Nat->Option Place) (xs:Array Value) (st:St),SubG γ0 γ->SubI Iy I->st.ob=ob->st.tk=tk->st.ro=ro->Sh E w0 I0 γ I st w->(∀u,ub<=u->γ u=none)->xs.size=args.length ->
  (∀(j:Nat) (x:Value) (v:V),xs[j]? = some x->args[j]? = some v->Rep γ I x v) ->
  Calls P f xs w λe w'=>∃r∈l,Wy E w0 I0 γ I ro r.1 r.2.1 r.2.2.1 r.2.2.2 e w'
def FW (r:Option Nat):Fence:={ Fence.wide with round:=r }
def j0z {P:Program}{f:FuncId}{args:Array Value}{w:World}{R:Ending->World->Prop}{r:Option Nat}{n:Nat}(h:Calls P f args w R):CallsIn (FW r) n P f args w R:=callsIn_wide.2 h
def jhi {P:Program}{f:FuncId}{args:Array Value}{w:World}{R:Ending->World->Prop}{n:Nat}(h:CallsIn (FW none) n P f args w R):Calls P f args w R:=callsIn_wide.1 h
def YieldOk (P:Program) (E:Env) (γ0:Nat->Option Place) (Iy:IMap) (u:Nat) (args:List V) (ob:ZO) (tk:Nat->Bool) (ro ub:Nat) (r:V) (ob':ZO) (tk':Nat->Bool) (ub':Nat):Prop :=
 ∀(w0 w:World) (I0 I:IMap) (γ:Nat->Option Place) (xs:Array Value) (st:St) (b:Nat) (k:Kd),SubG γ0 γ->SubI Iy I->st.ob=ob->st.tk=tk->st.ro=ro->Sh E w0 I0 γ I st w->(∀u,ub<=u->γ u=none)->xs.size=args.length ->
  (∀(j:Nat) (x:Value) (v:V),xs[j]? = some x->args[j]? = some v->Rep γ I x v)->γ u=some (.obj b k) ->
  ∃fn tmps asg bd,(Instr.yield b xs).run P w=.ok (.round b fn tmps asg bd) w/\RoundIn (FW none) 0 P b fn tmps asg bd w (Wy E w0 I0 γ I ro r ob' tk' ub')
def YOk (P:Program) (E:Env) (γ0:Nat->Option Place) (Iy:IMap) (y:Y):Prop :=
 ∀l u args ob tk ro ub r ob' tk' ub',y l u args ob tk ro ub=some (r,ob',tk',ub')->YieldOk P E γ0 Iy u args ob tk ro ub r ob' tk' ub'
def FnOk (P:Program) (f:FuncId):Prop:=∃fn c,P.funcs[f]? = some fn/\fn.body=some c/\(fn.name == "runtime.NumGoroutine")=false
structure COk (P:Program) (E:Env) (γ0:Nat->Option Place) (Iy:IMap) (call:Callers):Prop where
 d:∀f args r,call.d f args=some r->FnOk P f/\joe P E f args r
 o:∀f args ob tk base ub r,call.o f args ob tk base ub=some r->FnOk P f/\ObsOk P E f args ob ub r
 s:∀f args ob tk ro base ub l,call.s f args ob tk ro base ub=some l->FnOk P f/\jln P E γ0 Iy f args ob tk ro ub l
 y:YOk P E γ0 Iy call.y
 k:∀f cs,E.nw f=some cs->MkLaw P f cs
def joh (P:Program) (E:Env) (call:Y->Callers):Prop:=∀γ0 Iy y,YOk P E γ0 Iy y->COk P E γ0 Iy (call y)
def YOk.mono {P:Program}{E:Env}{γ γ':Nat->Option Place}{I g:IMap}{y:Y}(h:YOk P E γ I y) (m:SubG γ γ') (q:SubI I g):YOk P E γ' g y :=
 λl u c ob n j ub r f d e s w0 w I0 J δ t st b k p i=>h l u c ob n j ub r f d e s w0 w I0 J δ t st b k (m.trans p) (q.trans i)
def jm0 {P:Program}{E:Env}{γ:Nat->Option Place}{I:IMap}:YOk P E γ I noY:=λ_ _ _ _ _ _ _ _ _ _ _ h=>by cases h
section
variable {P:Program}{E:Env}{w0 w:World}{I0:IMap}{nt:Nat}{γ:Nat->Option Place}{I:IMap}{st:St}{a:Act}{o:Oper}{ub:Nat}{δ:Delta}
def jeg {f:FuncId} {fn:Func} {c:Code} (hf:P.funcs[f]? = some fn) (hb:fn.body=some c) (hn:(fn.name == "runtime.NumGoroutine")=false) (args:Array Value):(callFunc f args).run P w=.ok (.enter f args) w:=by unfold callFunc;simp only[aB,run_program,ak,hf,hn,ah,zc,hb,Option.isNone_some];rfl
def jia {x:Value}{v:V}(h:Rep γ I x v) (hp:v.strip.pureTop=true):RepP I x v.strip:=by
 have d:∀(g:Array Value) (cs:List V),g.size=cs.length->(∀(j:Nat) (v:V),cs[j]? = some v->v.leaf=true)->(∀(j:Nat) (y:Value) (v:V),g[j]? = some y->cs[j]? = some v->Rep γ I y v)->(cs.map V.strip1).all V.pureLeaf=true ->
  RepP I (.agg g) (.agg (cs.map V.strip1)):=by
  intro g cs m i k q
  refine .agg _ _ (by simpa using m) (λj v b=>?_) (λj x v p b=>?_)
  ·simp only[aV,bn]at b;obtain⟨u,e,rfl⟩:=b;rw[jfp];exact i j u e
  ·simp only[aV,bn]at b;obtain⟨u,e,rfl⟩:=b;exact Wb (k j x u p e) (av.1 q _ (aE.2 ⟨u,aH e,rfl⟩))
 cases v with
 |sl t r n cs=>exact Wb h (by simp[V.strip1,V.pureLeaf])
 |agg cs=>obtain⟨g,rfl,m,i,k⟩:=Yd h;exact d g cs m i k hp
 |fn f s B=>
  obtain⟨g,D,rfl,m,i,k,q⟩:=jeo h;simp only[V.strip,V.pureTop,av,aQ]at hp;have one:∀(x:Value) (v:V),Rep γ I x v->(match (match v with|.agg cs=>V.agg (cs.map V.strip1)|c=>c.strip1) with|.agg cs=>cs.all V.pureLeaf|c=>c.pureLeaf)=true->RepP I x (match v with|.agg cs=>V.agg (cs.map V.strip1)|c=>c.strip1):=by
   intro x v h hp;cases v with
   |agg cs=>obtain⟨g,rfl,m,i,k⟩:=Yd h;exact d g cs m i k hp
   |sl t r n cs=>exact Wb h (by simp[V.strip1,V.pureLeaf])
   |_=>exact Wb h hp
  refine .fn _ _ _ _ _ (by simpa using m) (by simpa using i) (λj x v p b=>?_) (λj x v p b=>?_);simp only[aV,bn]at b;obtain⟨u,e,rfl⟩:=b;exact one x u (k j x u p e) (hp _ (.inl (aE.2 ⟨u,aH e,rfl⟩)));simp only[aV,bn]at b;obtain⟨u,e,rfl⟩:=b;exact one x u (q j x u p e) (hp _ (.inr (aE.2 ⟨u,aH e,rfl⟩)))
 |undef=>simp[V.strip,V.pureTop,V.pureLeaf]at hp
 |tup F=>simp[V.strip,V.pureTop,V.pureLeaf]at hp
 |ptr l u off=>simp[V.strip,V.pureTop,V.pureLeaf]at hp
 |osl l u off n z=>simp[V.strip,V.pureTop,V.pureLeaf]at hp
 |map l u=>simp[V.strip,V.pureTop,V.pureLeaf]at hp
 |iter l u=>simp[V.strip,V.pureTop,V.pureLeaf]at hp
 |yld l u=>simp[V.strip,V.pureTop,V.pureLeaf]at hp
 |_=>exact Wb h hp
def j5n {xs:Array Value}{vs:List V}(d:xs.size=vs.length) (h:∀(j:Nat) (x:Value) (v:V),xs[j]? = some x->vs[j]? = some v->Rep γ I x v) (hp:(vs.map V.strip).all V.pureTop=true) :
 xs.size=(vs.map V.strip).length/\∀(j:Nat) (x:Value) (v:V),xs[j]? = some x->(vs.map V.strip)[j]? = some v->RepP I x v:=by
 refine⟨by simpa using d,λj x v e b=>?_⟩;simp only[aV,bn]at b;obtain⟨u,c,rfl⟩:=b;exact jia (h j x u e c) (av.1 hp _ (aE.2 ⟨u,aH c,rfl⟩))
def ja3 {xs ys:Array Value}{us vs:List V}(d:xs.size=us.length) (f:ys.size=vs.length) (h:∀(j:Nat) (x:Value) (v:V),xs[j]? = some x->us[j]? = some v->Rep γ I x v)
 (g:∀(j:Nat) (x:Value) (v:V),ys[j]? = some x->vs[j]? = some v->Rep γ I x v) :
 (xs++ys).size=(us++vs).length/\∀(j:Nat) (x:Value) (v:V),(xs++ys)[j]? = some x->(us++vs)[j]? = some v->Rep γ I x v:=by
 refine⟨by simp[d,f],λj x v c b=>?_⟩;by_cases e:j<xs.size;rw[cq e]at c;rw[bl zO]at b;exact h j x v c b;rw[ek zO]at c;rw[bw zO,<- d]at b;exact g _ x v c b
def jjk {m:Bool}{ao:AOp}(b:Jy P m o=some ao) (d:ao.isCall=true):∃c,o.op=.call c/\ja0 P m c=some ao:=by unfold Jy at b;split at b;exact⟨_,by assumption,b⟩;obtain⟨_,_,rfl⟩:=yh b;cases d;have:=(cH.1 b).2;rw[d]at this;cases this
def WR {m:Bool}{ao:AOp}(b:Jy P m o=some ao):∀c,o.op≠.defer c:=by intro c h;unfold Jy at b;rw[h]at b;simp[jqf]at b
def jeq {m:Bool}{d:Call}{ao:AOp}(c:ja0 P m d=some ao) (h:ao.isCall=true) :
 (∃f b,d.callee=.value (.func f)/\opds d.args=some b/\ao=.call f b)\/∃x q b,d.callee=.value x/\(∀f,x≠.func f)/\opd x=some q/\opds d.args=some b/\ao=.callV q b:=by
 unfold ja0 at c;split at c;obtain⟨b,g,rfl⟩:=yh c;split at h;cases h;rename_i l;exact .inl ⟨_,b,by assumption,g,by simp only⟩;rename_i x i j;obtain⟨q,k,c⟩:=yc c;obtain⟨b,g,rfl⟩:=yh c;exact .inr ⟨_,q,b,by assumption,λf e=>by subst e;exact i f rfl,k,g,rfl⟩;cases c;have:=(cH.1 c).2;rw[h]at this;cases this
def ju8 {m:Bool}{d:A}(b:Jy P m o=some (.nextMap d)):∃x,o.op=.next x false/\opd x=some d:=by unfold Jy at b;split at b;unfold ja0 at b;split at b;obtain⟨_,_,c⟩:=yh b;split at c<;>cases c;obtain⟨_,_,b⟩:=yc b;obtain⟨_,_,c⟩:=yh b;cases c;cases b;have:=(cH.1 b).2;cases this;obtain⟨_,e,c⟩:=yh b;cases c;exact⟨_,by assumption,e⟩;have:=(cH.1 b).2;cases this
def jc6 (D:R E w0 I0 nt γ I st a w) {m:Bool}{ao:AOp}(hc:Jy P m o=some ao) {f:FuncId}{vs:List V}
 (t:(∃h,ao=.call f h/\vs=h.map (ye E st.tm))\/∃q h first b,ao=.callV q h/\ye E st.tm q=.fn (.func f) first b/\vs=first++h.map (ye E st.tm)++b)
 (B:FnOk P f) :
 ∃d:Array Value,(execOp a.eval o).run P w=.ok (.enter f d) w/\d.size=vs.length/\∀(j:Nat) (x:Value) (v:V),d[j]? = some x->vs[j]? = some v->Rep γ I x v:=by
 obtain⟨fn,c,T,L,h3⟩:=B;have G:ao.isCall=true:=by rcases t with⟨_,rfl,_⟩|⟨_,_,_,_,rfl,_⟩<;>rfl
 obtain⟨H,F,r⟩:=jjk hc G;have l:=jeg (P:=P) (w:=w) T L h3;rcases jeq r G with⟨g,h,e,y,rfl⟩|⟨x,q,h,e,N,S,y,rfl⟩;rcases t with⟨ys,i,rfl⟩|⟨_,_,_,_,i,_⟩;cases i;obtain⟨n,z⟩:=QH D y;refine⟨H.args.map a.eval,?_,n,z⟩;simp only[execOp,F,resolve,e,Act.eval,Deferred.ofValue,aB,aG,ak,invoke,fB,fC];exact l _;cases i;rcases t with⟨_,i,_⟩|⟨q',ys,first,b,i,p,rfl⟩;cases i;cases i;obtain⟨n,z⟩:=QH D y;have k:=jD D S;rw[p]at k;obtain⟨s,M,u,Z,O,s3,K⟩:=jeo k;obtain⟨X,J⟩:=ja3 Z n s3 z;obtain⟨U,Q⟩:=ja3 X O J K;refine⟨s++H.args.map a.eval++M,?_,U,Q⟩;simp only[execOp,F,resolve,e,u,Deferred.ofValue,aB,aG,ak,invoke];exact l _
def jv7 (s:R E w0 I0 nt γ I st a w) {m:Bool}{ao:AOp}(H:Jy P m o=some ao) {l u:Nat}{vs:List V}(d:jj (ye E st.tm) ao=some (l,u,vs)) :
 ∃(b:Nat) (k:Kd) (args:Array Value),γ u=some (.obj b k)/\(execOp a.eval o).run P w=(Instr.yield b args).run P w/\args.size=vs.length/\∀(j:Nat) (x:Value) (v:V),args[j]? = some x->vs[j]? = some v->Rep γ I x v:=by
 unfold jj at d;split at d;case h_2=>cases d
 rename_i q J;split at d;case h_2=>cases d
 rename_i L K i;cases d;obtain⟨F,t,n⟩:=jjk H rfl;rcases jeq n rfl with⟨g,h,c,r,p⟩|⟨x,M,h,c,B,G,r,p⟩;cases p;cases p;obtain⟨y,D⟩:=QH s r;have e:=jD s G;rw[i]at e;obtain⟨b,k,z,f⟩:=jz4 e;refine⟨b,k,F.args.map a.eval,z,?_,y,D⟩;simp only[execOp,t,resolve,c,f,Deferred.ofValue,aB,aG,ak,invoke,fB]
end
section
variable {P:Program}{E:Env}{w0 w:World}{I0:IMap}{nt:Nat}{γ:Nat->Option Place}{I:IMap}{st:St}{a:Act}{o:Oper}{ub:Nat}{δ:Delta}
def jp3 (v:V):(Y4 ub v).leaf=v.leaf:=by unfold Y4;split<;>rfl
def jy3 {τ γ':Nat->Option Place}{x:Value}{v:V}(h:j1e τ I x v) (k:∀i∈v.tok,γ' (ub+i)=τ i):Rep γ' I x (Y4 ub v):=by
 cases v with
 |sl t s n cs=>
  cases t with
  |none=>exact .pure _ _ h
  |some p=>
   obtain⟨i,z⟩:=p;cases h with
   |tsl u b n d r cs g j c q m l e f=>exact .tsl _ b _ d _ _ g (by rw[k i (by simp[V.tok])];exact j) c q m l e f
   |pure _ _ h=>cases h
 |_=>exact .pure _ _ h
def jwo {τ:Nat->Option Place}{x:Value}{v:V}(b:∀cs,v≠.agg cs) (h:jvz τ I x v):j1e τ I x v/\Qa ub v=Y4 ub v/\v.toks=v.tok:=by cases v<;>first|exact zf rfl (b _)|exact⟨h,rfl,rfl⟩
def j2p {τ:Nat->Option Place}{x:Value}{v:V}(b:∀cs,v≠.tup cs) (h:j1c τ I x v):jvz τ I x v/\ja9 ub v=Qa ub v/\yx v=v.toks:=by cases v<;>first|exact zf rfl (b _)|exact⟨h,rfl,rfl⟩
def jwp {τ γ':Nat->Option Place}{x:Value}{v:V}(h:jvz τ I x v) (g:∀i∈v.toks,γ' (ub+i)=τ i):Rep γ' I x (Qa ub v):=by by_cases l:∃cs,v=.agg cs;obtain⟨cs,rfl⟩:=l;obtain⟨p,rfl,k,d,f⟩:=h;refine .agg _ _ (by simpa using k) (λj u b=>?_) (λj y u m b=>?_);simp only[aV,bn]at b;obtain⟨q,c,rfl⟩:=b;rw[jp3];exact d j q c;simp only[aV,bn]at b;obtain⟨q,c,rfl⟩:=b;exact jy3 (f j y q m c) (λi n=>g i (ci.2 ⟨q,aH c,n⟩));obtain⟨k,d,f⟩:=jwo (ub:=ub) (λcs e=>l ⟨cs,e⟩) h;rw[d];rw[f]at g;exact jy3 k g
def j79 {τ γ':Nat->Option Place}{x:Value}{v:V}(h:j1c τ I x v) (c:∀i∈yx v,γ' (ub+i)=τ i):Rep γ' I x (ja9 ub v):=by by_cases k:∃cs,v=.tup cs;obtain⟨r,rfl⟩:=k;obtain⟨p,rfl,d,b⟩:=h;refine .tup _ _ (by simpa using d) (λj y u m f=>?_);simp only[aV,bn]at f;obtain⟨q,g,rfl⟩:=f;exact jwp (b j y q m g) (λi n=>c i (ci.2 ⟨q,aH g,n⟩));obtain⟨d,l,b⟩:=j2p (ub:=ub) (λcs e=>k ⟨cs,e⟩) h;rw[l];rw[b]at c;exact jwp d c
def jmj (G:R E w0 I0 nt γ I st a w) {dst:Option Tmp}(hd:∀d,dst=some d->d<nt) (hf:∀u,ub<=u->u<ub+64->γ u=none) {x:Value}{τ:Nat->Option Place}{I':IMap}{w':World}{r:V}
 (hg:w.grownBy w' none) (hI:∀b o x,I b o=some x->I' b o=some x) (b9:jog I' w') (F:∀b o,b<w.heap.size->I' b o=I b o) (hx:j1c τ I' x r) (ht:joc w.heap.size τ I' w' r) (c3:(yx r).all (λi=>Nat.blt i 64)=true) :
 ∃f,R E w0 I0 nt f I' (st.app dst { v:=ja9 ub r,add:=(yx r).map (ub + ·) }) (a.put dst x) w'/\(∀u,¬(ub<=u/\u<ub+64)->f u=γ u)/\(∀u p,γ u=some p->f u=some p):=by
 have a0:∀i∈yx r,i<64:=λi y=>by have:=av.1 c3 i y;simpa[dk] using this
 let f:Nat->Option Place:=λu=>if ub<=u/\u<ub+64 then τ (u-ub) else γ u
 have D:∀u p,γ u=some p->f u=some p:=by
  intro u p J;have:¬(ub<=u/\u<ub+64):=λh=>by rw[hf u h.1 h.2]at J;cases J
  simp only[f,this,zc,J]
 have N:∀i∈yx r,f (ub+i)=τ i:=by intro i y;have:=a0 i y;have h2:ub<=ub+i/\ub+i<ub+64:=⟨zO,zO⟩;simp only[f,h2,and_self,zd,fM]
 obtain⟨Ω,ho⟩:=G.own;have q:∀b,b<w.heap.size->w'.heap[b]? = w.heap[b]?:=λb L=>hg.block b L zS;classical
 let Q:Nat->Nat->Prop:=λb i=>i∈yx r/\∃n c s,τ i=some (.tok b n c s);let B:Nat->Option Owner:=λb=>if h:∃i,Q b i then some (.tk (ub+h.choose)) else Ω b
 have K:∀b i,Q b i->w.heap.size<=b/\b<w'.heap.size:=by intro b i U;obtain⟨y,n,c,s,S⟩:=U;obtain⟨b',n',c',s',M,h2,h3,_⟩:=ht i y;rw[S]at M;cases M;exact⟨h2,h3⟩
 have z:∀b,b<w.heap.size->B b=Ω b:=by
  intro b L;have:¬ ∃i,Q b i:=λ⟨i,y⟩=>by have:=(K b i y).1;omega
  simp only[B,this,dif_neg,not_false_eq_true]
 have H:∀b i,Q b i->B b=some (.tk (ub+i)):=by
  intro b i U;have Z:∃i,Q b i:=⟨i,U⟩;have c1:=Z.choose_spec;have:Z.choose=i:=by obtain⟨y,n,c,s,S⟩:=U;obtain⟨b',n',c',s',M,_,_,_,_,O⟩:=ht i y;rw[S]at M;cases M;obtain⟨c0,n2,c2,s2,b5⟩:=c1;exact O _ c0 _ _ _ b5
  simp only[B,Z,dif_pos,this]
 refine⟨f,⟨(WO _ _ _).trans G.sz,jep G D _ _,?_,⟨b9,λg cs h=>(G.gl g cs h).mono hI,⟨B,⟨?_,?_,?_⟩⟩,?_,?_⟩⟩,?_,D⟩;exact Qq (by rw[G.sz];exact hd) (λt=>(G.tm t).mono D hI) (j79 hx N);intro l ob hl;have b0:(st.app dst { v:=ja9 ub r,add:=(yx r).map (ub + ·) }).ob=st.ob:=by simp[St.app,Ji]
 rw[b0]at hl ⊢;obtain⟨b,k,k1,k2,k3,k4,k5⟩:=ho.ob l ob hl;have e:=ho.lt _ _ k2;have X:YO γ st.ob st.ob w.heap w'.heap:=λl2 u2 c4 c5 mb mk _ b8=>.inl ⟨b8,λm c b6=>by
  rw[q mb (aO.1 b6).1];exact b6⟩
 exact⟨b,k,D _ _ k1,by rw[z b e];exact k2,k3,by rw[q b e];exact(k4.keep X).mono D hI,λj=>by rw[F b j e];exact k5 j⟩;intro u J;simp only[St.app,jbq,Option.toList_none,cZ,zc]at J;split at J;rename_i b7;obtain⟨i,y,rfl⟩:=aE.1 b7;obtain⟨b,n,c,s,M,h2,h3,h4,h5,_⟩:=ht i y;exact⟨b,n,c,s,by rw[N i y];exact M,H b i ⟨y,n,c,s,M⟩,bL G.fr.size h2,h4,h5⟩;obtain⟨b,n,c,s,k1,k2,k3,k4,k5⟩:=ho.tk u J;have e:=ho.lt _ _ k2;exact⟨b,n,c,s,D _ _ k1,by rw[z b e];exact k2,k3,by rw[q b e];exact k4,λj hj=>by rw[F b j e];exact k5 j hj⟩;intro b ow L;by_cases e:b<w.heap.size;exact aW e hg.size;by_cases U:∃i,Q b i;obtain⟨i,y⟩:=U;exact(K b i y).2;simp only[B,U,dif_neg,not_false_eq_true]at L;exact zf (ho.lt _ _ L) e;exact Grow.frame G.fr (T:=λ_=>False) ⟨hg.os,hg.tape,hg.output,hg.size,λk hk _=>q k hk,λk hk=>hk.elim⟩;intro b j L;rw[F b j (aW L G.fr.size)];exact G.old b j L;intro u J;simp only[f,J,zc]
end
section
variable {P:Program}{E:Env}{w0 w:World}{I0:IMap}{nt:Nat}{γ τ:Nat->Option Place}{I I' I1:IMap}{st:St}{a:Act}{B:Nat}{Ω:Nat->Option Owner}
def jeu (γ:Nat->Option Place) (B:Nat) (st:St) (w:World) (I I':IMap):Prop :=
 (∀b o x,I b o=some x->I' b o=some x)/\(∀b k o x l u cs,B<=b->st.ob l=some ⟨u,.cells cs⟩->γ u=some (.obj b k)->o<cs.length->w.cell? ⟨b,o,none⟩=some x->I' b o=some x)
def jis {v:V}(h:v.pureLeaf=true):v.strip1=v:=YI h
def j2v {x:Value}{v:V}(h:Rep γ I x v) (hp:v.pureLeaf=true):RepP I x v:=by have:=Wb h (by rw[jis hp];exact hp);rwa [jis hp]at this
def jcc (S:Own γ I B st w Ω) (F:jeu γ B st w I I'):∀(k:Nat) (x:Value) (v m:V),Rep γ I x v->Ja st k v=some m->RepP I' x m/\m.pureLeaf=true
 |0,_,_,_,_,h=>by cases h
 |k+1,x,v,m,hx,c=>by
  have d:(if v.pureLeaf then some v else none)=some m->RepP I' x m/\m.pureLeaf=true:=by intro h;simp only[aC,ae]at h;obtain⟨Q,rfl⟩:=h;exact⟨(j2v hx Q).mono F.1,Q⟩
  cases v with
  |sl t nl n cs=>
   cases t with
   |none=>exact d c
   |some q=>simp only[Ja,ae]at c;subst c;exact⟨(Wb hx (by simp[V.strip1,V.pureLeaf])).mono F.1,rfl⟩
  |osl l u off n f=>
   simp only[Ja]at c;obtain⟨cs,p,c⟩:=yc c;simp only[aC]at c;obtain⟨⟨H,b5⟩,c⟩:=c;obtain⟨y,D,rfl⟩:=yh c;refine⟨?_,rfl⟩;obtain⟨b,kb,ad,J,T,rfl,U,hc,hm⟩:=YC hx;have s:=ji p;obtain⟨b',b0,L,k2,k3,⟨arr,e,m1,m2,m4,X⟩,k5⟩:=S.ob l _ s;rw[T]at L;cases L;have hB:B<=b:=k3 (by simpa[bY] using H);obtain⟨K,o⟩:=JA D;have O:((cs.drop off).take (n*f)).length=n*f:=by simp only[ai,aY];omega
   have i:∀j,j<cs.length->arr[j]? = some (arr.getD j undef):=by intro j G;have:j<arr.size:=zO;simp[this]
   have r:0<n*f->0<n:=λh=>Nat.pos_of_ne_zero λZ=>by subst Z;simp at h
   have g:∀(j:Nat) (q:V),y[j]? = some q->j<n*f/\RepP I' (arr.getD (off+j) undef) q/\q.pureLeaf=true:=by
    intro j q M;have G:j<n*f:=by have:=(aj.1 M).1;omega
    have c:((cs.drop off).take (n*f))[j]? = some (((cs.drop off).take (n*f))[j]' zO):=aa _;have z:=o j _ _ c M;rw[bi G,bC]at c;obtain⟨q1,q2⟩:=X _ _ _ (i (off+j) (aj.1 c).1) c;exact⟨G,jcc S F k _ _ _ q2 z⟩
   refine .sl ad n J _ (λj=>arr.getD (off+j) undef) (λp=>?_) hc hm (λj G=>?_) (λj v c=>(g j v c).2.2) (λj v c=>(g j v c).2.1);have N:0<y.length:=dT.2 p;rw[(U (by have:=r zO;omega)).1];have a0:j<n*f:=zO;rw[(U (by have:=r zO;omega)).1];refine F.2 b kb (off+j) _ l u cs hB s T zO ?_;simp only[World.cell?,m1,cM,ah,zc];exact i (off+j) zO
  |_=>exact d c
def jcf {x:Value}{v:V}(h:RepP I x v) (b:v.scal=true):RepP I' x v:=by cases h<;>first|(simp[V.scal]at b;done)|constructor
def j99 {γ:Nat->Option Place}{w:World}{Ω:Nat->Option Owner}{ob:ZO}(l:Own γ I 0 (XA [] ob (λ_=>false) 0 0 0) w Ω) (p:jeu γ 0 (XA [] ob (λ_=>false) 0 0 0) w I I')
 {x:Value}{v m:V}(n:Rep γ I x v) (e:Wu ob v=some m):RepP I' x m:=by
 cases v with
 |agg cs=>
  obtain⟨h,rfl,F,z,q⟩:=Yd n;simp only[Wu]at e;obtain⟨d,i,rfl⟩:=yh e;obtain⟨t,r⟩:=JA i;have c:∀(j:Nat) (y:Value) (u:V),h[j]? = some y->d[j]? = some u->RepP I' y u/\u.pureLeaf=true:=by
   intro j y u g b;have k:j<cs.length:=by have:=(aj.1 b).1;omega
   have o:cs[j]? = some (cs[j]):=aa k;exact jcc l p 6 _ _ _ (q j y _ g o) (r j _ _ o b)
  refine .agg h d zO (λj u b=>?_) (λj y u g b=>(c j y u g b).1);have k:j<h.size:=by have:=(aj.1 b).1;omega
  exact jci (c j _ u (aA k) b).2
 |fn f s D=>cases e
 |_=>exact(jcc l p 6 _ _ _ n e).1
def jsr {γ:Nat->Option Place}{st:St}{w w0:World}{I0:IMap}{ob:ZO}{args d:List V}{xs:Array Value}(f:∀l x,ob l=some x->st.ob l=some x) (e:Sh E w0 I0 γ I st w) (O:args.mapM (Wu ob)=some d)
 (i:∀(j:Nat) (x:Value) (v:V),xs[j]? = some x->args[j]? = some v->Rep γ I x v):d.length=args.length/\∀(j:Nat) (x:Value) (v:V),xs[j]? = some x->d[j]? = some v->RepP (λb o=>w.cell? ⟨b,o,none⟩) x v:=by
 obtain⟨Ω,t⟩:=e.own;have r:Own γ I 0 (XA [] ob (λ_=>false) 0 0 0) w Ω:=by refine⟨λl o K=>?_,λu h=>(by cases h),t.lt⟩;obtain⟨b,k,F,z,T,D,G⟩:=t.ob l o (f l o K);exact⟨b,k,F,z,λ_=>ch _,D.keep (λU S s H Q mk _ q=>.inl ⟨f _ _ q,λm c M=>M⟩),G⟩
 have J:jeu γ 0 (XA [] ob (λ_=>false) 0 0 0) w I (λb o=>w.cell? ⟨b,o,none⟩):=⟨e.imm,λb k o x l u cs _ _ _ _ p=>p⟩;obtain⟨g,n⟩:=JA O;refine⟨g,λj x v L y=>?_⟩;have N:j<args.length:=by have:=(aj.1 y).1;omega
 have p:args[j]? = some (args[j]):=aa N;exact j99 r J (i j x _ L p) (n j _ _ p y)
def jqy {f:FuncId}{args M:List V}{ob0:ZO}{d ub:Nat}{v:V}{δ:Delta}(c1:∀l x,ob0 l=some x->st.ob l=some x) (hp:joe P E f M v) (ha:args.mapM (Wu ob0)=some M) (H:ja4 d ub v=some δ)
 {xs:Array Value}(D:Sh E w0 I0 γ I st w) (c6:γ ub=none) (c7:xs.size=args.length) (c4:∀(j:Nat) (x:Value) (v:V),xs[j]? = some x->args[j]? = some v->Rep γ I x v) :
 Calls P f xs w λe w'=>∃x G,e=.returned x/\(∀r:St,r.ob=Ji st.ob δ.obs->r.tk=st.tk->r.ro=st.ro->Sh E w0 I0 G I r w')/\Rep G I x δ.v/\SubG γ G/\(∀u,u≠ub->G u=γ u):=by
 obtain⟨c0,c3⟩:=jsr c1 D ha c4;refine(hp w (λb o=>w.cell? ⟨b,o,none⟩) xs (λ_ _ _ h=>h) (λg cs X=>(D.gl g cs X).mono D.imm) (c7.trans c0.symm) c3).mono λe w' he=>?_;obtain⟨x,τ,I1,rfl,X,hI,b9,d6,hx,ht⟩:=he;have p:∀b,b<w.heap.size->w'.heap[b]? = w.heap[b]?:=λb hb=>X.block b hb zS;have b0:∀b o y,I b o=some y->w'.cell? ⟨b,o,none⟩=some y:=λb o y hy=>b9 b o y (hI b o y (D.imm b o y hy));have b5:w0.grownBy w' none:=Grow.frame D.fr (T:=λ_=>False) ⟨X.os,X.tape,X.output,X.size,λk hk _=>p k hk,λk hk=>hk.elim⟩;obtain⟨Ω,Q⟩:=D.own;have plain:v.scal=true->ja4 d ub v=some { v:=v }->∃x' G,Ending.returned x=.returned x'/\(∀r:St,r.ob=Ji st.ob δ.obs->r.tk=st.tk->r.ro=st.ro->Sh E w0 I0 G I r w')/\Rep G I x' δ.v/\SubG γ G/\(∀u,u≠ub->G u=γ u):=by
  intro hs he;rw[he]at H;cases H;refine⟨x,γ,rfl,λr Z h2 h3=>?_,.pure _ _ ?_,λ_ _ h=>h,λ_ _=>rfl⟩;replace Z:r.ob=st.ob:=Z;refine⟨b0,D.gl,⟨Ω,⟨λl o S=>?_,λu U=>?_,λb o hb=>aW (Q.lt b o hb) X.size⟩⟩,b5,D.old⟩;rw[Z]at S;obtain⟨b,k,k1,k2,k3,k4,k5⟩:=Q.ob l o S;have N:=Q.lt _ _ k2;have K:YO γ st.ob r.ob w.heap w'.heap:=λl2 u2 b8 d1 mb mk _ L=>.inl ⟨by rw[<- Z];exact L,λm c O=>by
   rw[p mb (aO.1 O).1];exact O⟩
  exact⟨b,k,k1,k2,by rw[h3];exact k3,by rw[p b N];exact k4.keep K,k5⟩;rw[h2]at U;obtain⟨b,n,c,s,k1,k2,k3,k4,k5⟩:=Q.tk u U;exact⟨b,n,c,s,k1,k2,k3,by rw[p b (Q.lt _ _ k2)];exact k4,k5⟩;have:RepP I1 x v:=by
   cases v with
   |tup|agg=>cases hs
   |sl t nl n cs=>cases t with
    |none=>exact hx
    |some q=>cases hs
   |_=>exact hx
  exact jcf this hs
 cases v with
 |sl t nl n cs=>
  cases t with
  |none=>
   cases hs:(V.sl none nl n cs).scal with
   |true=>exact plain hs (by cases nl<;>simp[ja4,hs])
   |false=>cases nl<;>simp[ja4,hs]at H
  |some q=>
   obtain⟨i,z⟩:=q;cases nl with
   |true=>simp[ja4,V.scal]at H
   |false=>
    simp only[ja4,aC,ae]at H;obtain⟨c9,rfl⟩:=H;have c5:Rep τ I1 x (.sl (some (i,z)) false n cs):=hx;cases c5 with
    |pure _ _ h=>cases h
    |tsl _ b _ d0 _ _ d7 U b7 hc hm hi S d2=>
     obtain⟨b',n',d5,d9,k1,k2,k3,k4,k5,k6⟩:=ht i (by simp[yx,V.toks,V.tok]);rw[U]at k1;cases k1;obtain⟨arr,e,m1,m2,m3,m4⟩:=k4;have F:=Q7 (f:=γ) (k:=ub) (v:=Place.obj b (.n arr.size)) c6;have d3:∀j,I b j=none:=by
      intro j;cases hj:I b j with
      |none=>rfl
      |some y=>exact zf (bT _ _ (D.imm _ _ _ hj)) (by simpa using k2)
     have d4:cs.length<=arr.size:=by rw[b7];exact bL (bf _ hc) m2
     refine⟨_,upd γ ub (some (.obj b (.n arr.size))),rfl,λr Z h2 h3=>?_,?_,F,λu U=>JQ _ _ U⟩;replace Z:r.ob=upd st.ob d (some ⟨ub,.cells cs⟩):=Z;refine⟨b0,D.gl,⟨upd Ω b (some (.ob d)),⟨λl o S=>?_,λu U=>?_,λc o b6=>?_⟩⟩,b5,D.old⟩;have K:YO γ st.ob r.ob w.heap w'.heap:=by intro l2 u2 b8 d1 mb mk d8 L;rw[Z,yg]at L;split at L;simp at L;exact .inl ⟨L,λm c O=>by rw[p mb (aO.1 O).1];exact O⟩
     rw[Z,yg]at S;split at S;rename_i c8;subst c8;cases S;refine⟨b,.n arr.size,zS,zS,λ_=>bL D.fr.size k2,⟨arr,e,m1,rfl,d4,λj y u hy a0=>?_⟩,d3⟩;have hj:=(aj.1 a0).1;have J:=b9 b j _ (hi j hj);simp only[World.cell?,m1,cM,ah,zc]at J;rw[hy]at J;cases J;exact⟨jci (S j u a0),.pure _ _ (jcf (d2 j u a0) (av.1 c9 u (aH a0)))⟩;obtain⟨b2,k,q1,q2,q3,q4,q5⟩:=Q.ob l o S;have N:=Q.lt _ _ q2;exact⟨b2,k,F _ _ q1,by rw[JQ _ _ zO];exact q2,by rw[h3];exact q3,by rw[p b2 N];exact(q4.keep K).mono F (λ_ _ _ h=>h),q5⟩;rw[h2]at U;obtain⟨b2,n2,c2,s2,q1,q2,q3,q4,q5⟩:=Q.tk u U;have N:=Q.lt _ _ q2;exact⟨b2,n2,c2,s2,F _ _ q1,by rw[JQ _ _ zO];exact q2,q3,by rw[p b2 N];exact q4,q5⟩;rw[yg]at b6;split at b6;rename_i e';omega;exact aW (Q.lt c o b6) X.size;refine Rep.osl _ ub 0 n z d0 b (.n arr.size) ⟨b,0,none⟩ zS (λ_=>⟨rfl,?_⟩) hc hm;simpa[Kd.size] using m2
 |agg|tup|undef|eptr|ptr|osl|map|iter|fn|iface|yld=>simp[ja4,V.scal]at H
 |_=>exact plain rfl rfl
def j7m {ob ob':ZO}{tk b:Nat->Bool}{ub c:Nat}{v r:V}(h:j14 ob tk ub v=some (r,ob',b,c)):∃d,ja4 (2*ub+1) ub v=some d/\r=d.v/\ob'=Ji ob d.obs/\b=tk/\c=ub+64:=by unfold j14 at h;unfold ja4;split at h;rename_i n cs z;simp only[aC,ae,bZ]at h;obtain⟨e,rfl,rfl,rfl,rfl⟩:=h;exact⟨_,zb e,rfl,rfl,rfl,rfl⟩;rename_i f;simp only[aC,ae,bZ]at h;obtain⟨e,rfl,rfl,rfl,rfl⟩:=h;exact⟨{ v:=v },zb e,rfl,rfl,rfl,rfl⟩
def jqz {d ub:Nat}{v:V}{δ:Delta}(h:ja4 d ub v=some δ):δ.wt=[]/\δ.kill=[]:=by unfold ja4 at h;split at h;simp only[aC,ae]at h;obtain⟨_,rfl⟩:=h;exact⟨rfl,rfl⟩;simp only[aC,ae]at h;obtain⟨_,rfl⟩:=h;exact⟨rfl,rfl⟩
def j7l {γ0:Nat->Option Place}{Iy:IMap}{f:FuncId}{args b:List V}{ob ob':ZO}{tk d:Nat->Bool}{ro ub g:Nat}{v r:V}(hp:joe P E f b v) (H:args.mapM (Wu ob)=some b) (D:j14 ob tk ub v=some (r,ob',d,g)) :
 jln P E γ0 Iy f args ob tk ro ub [(r,ob',d,g)]:=by
 intro w0 w I0 I γ L st G z m j k l c o i;subst m j k;obtain⟨M,n,rfl,rfl,rfl,rfl⟩:=j7m D;refine(jqy (λ_ _ h=>h) hp H n l (c ub zK) o i).mono λe K J=>?_;obtain⟨x,p,rfl,y,s,F,t⟩:=J;exact⟨_,ag.2 rfl,x,p,I,rfl,y,s,F,λ_ _ _ h=>h,λu q=>by have q:ub+64<=u:=q;rw[t u zO];exact c u zO⟩
end
section
variable {P:Program}{E:Env}{w0 w:World}{I0:IMap}{nt:Nat}{γ:Nat->Option Place}{I:IMap}{st:St}{a:Act}{o:Oper}{ub:Nat}{δ:Delta}
def Nice (E:Env) (w0:World) (I0:IMap) (nt:Nat) (γ:Nat->Option Place) (I:IMap) (st:St) (ub:Nat) (K:Act->World->Prop):Prop :=
 ∀γ' I' a' w',R E w0 I0 nt γ' I' st a' w'->(∀u,ub<=u->γ' u=none)->(∀u p,γ u=some p->γ' u=some p)->(∀b o x,I b o=some x->I' b o=some x)->K a' w'
def jmd {γ:Nat->Option Place}{I:IMap}:Rep γ I undef js:=.tup _ _ rfl zS
def jxt (c:R E w0 I0 nt γ I st a w) {dst:Option Tmp}(b:∀d,dst=some d->d<nt):R E w0 I0 nt γ I { st with tm:=put st.tm dst js } (a.put dst undef) w:=c.put b jmd
def Xh {m:Bool}{ops:Array Oper}{ao:AOpr}(b:Jf P m ops o=some ao):ao.dst=o.dst/\(Jy P m o=some ao.op\/ao.op=.stuck):=by
 have c:Jy P m o=some ((Jy P m o).getD .stuck)\/(Jy P m o).getD .stuck=.stuck:=by
  cases Jy P m o with
  |none=>exact .inr rfl
  |some x=>exact .inl rfl
 unfold Jf at b;split at b;cases b;exact⟨rfl,c⟩;obtain⟨t,d,rfl⟩:=yh b;exact⟨rfl,c⟩
def YP (u:R E w0 I0 nt γ I st a w) {m:Bool}{ops:Array Oper}{ao:AOpr}{b:Bool}(l:Jf P m ops o=some ao) (d:yJ ao st.tm=some b):Region.wanted o (yielded ops a.tmps)=b:=by
 unfold Jf at l;unfold Region.wanted;cases q:o.guard with
 |none=>simp only[q,ae]at l;subst l;simp only[yJ,ae]at d;exact d
 |some g=>
  obtain⟨j,i⟩:=g;simp only[q]at l;obtain⟨t,s,rfl⟩:=yh l;simp only[yJ]at d;have c:=u.tm t;have r:yielded ops a.tmps j=match a.tmps[t]? with|some (.bool b)=>some b|_=>none:=by unfold yielded;rw[s];rfl
  simp only[r];split at d;rename_i p k;cases d;rw[k]at c;have n:a.tmps.getD t undef=.bool p:=by
   generalize a.tmps.getD t undef=x at c;cases c with
   |pure _ _ h=>cases h;rfl
  have f:t<a.tmps.size:=by rcases cD t a.tmps.size with h|h;exact h;simp[iF h,undef]at n
  have:a.tmps[t]? = some (.bool p):=by rw[aA f];simpa[f] using n
  simp only[this];cases p<;>cases i<;>rfl;rename_i k;cases d;rw[k]at c;have n:∀b,a.tmps.getD t undef≠.bool b:=by
   intro b e;rw[e]at c;cases c with
   |pure _ _ h=>cases h
  have:∀b,a.tmps[t]?≠some (.bool b):=by intro b e;exact n b (by simp[e])
  split;rename_i b k;exact zf k (this b);rfl;cases d
def Qg {r:Option Nat}{K:Act->World->Prop}{Q:Exit->Act->World->Prop}(b:∀c,o.op≠.defer c) (h:o.uponIn (FW r) 0 P a K Q ((execOp a.eval o).run P w)):o.wpIn (FW r) 0 P a w K Q :=
 ⟨λ_ _=>trivial,by rw[Oper.semAt_eq _ _ _ b];exact h⟩
def Wl {r:Option Nat}{K:Act->World->Prop}{Q:Exit->Act->World->Prop}{f:FuncId}{args:Array Value}{R':Ending->World->Prop}(h:Calls P f args w R') (g:∀e b,R' e b->∃v,e=.returned v/\K (a.put o.dst v) b) :
 o.uponIn (FW r) 0 P a K Q (.ok (.enter f args) w):=by
 rw[Oper.uponIn_enter];refine⟨(λh=>by cases h),j0z (Calls.mono h λe b d=>?_)⟩;obtain⟨v,rfl,c⟩:=g e b d;exact c
def jtp {r:Option Nat}{K:Act->World->Prop}{Q:Exit->Act->World->Prop}{l:Nat}{f:FuncId}{tmps:Array Value}{asg bd:Code}{R':Ending->World->Prop}(h:RoundIn (FW none) 0 P l f tmps asg bd w R') (g:∀e b,R' e b->∃v,e=.returned v/\K (a.put o.dst v) b) :
 o.uponIn (FW r) 0 P a K Q (.ok (.round l f tmps asg bd) w):=by
 rw[Oper.uponIn_round];refine⟨(λh=>by cases h),?_⟩;have:=RoundIn.mono h (R':=fun
  | .returned v,w''=>K (a.put o.dst v) w''
  | .panicked chain,w''=>Q (.panic chain) a w''
  | .outgrown,_=>LetsOut Q) (λe b d=>by
  obtain⟨v,rfl,c⟩:=g e b d
  exact c)
 exact this
variable {γ0:Nat->Option Place}{Iy:IMap}
def jlj {m:Bool}{cd:Callers}{r:Option Nat}{ao:AOp}{K:Act->World->Prop}{Q:Exit->Act->World->Prop}(X:COk P E γ0 Iy cd)
 (M:R E w0 I0 nt γ I st a w) (hf:∀u,ub<=u->u<ub+64->γ u=none) (l:Jy P m o=some ao) (hd:∀d,o.dst=some d->d<nt) {d:Nat}
 (k:yS cd.d (ye E st.tm) st.ob st.tk st.ro d ub ao=some δ)
 (Z:∀j v a' N,R E w0 I0 nt j v (st.app o.dst δ) a' N->(∀u,¬(ub<=u/\u<ub+64)->j u=γ u)->(∀u p,γ u=some p->j u=some p)->(∀b o x,I b o=some x->v b o=some x)->K a' N) :
 o.wpIn (FW r) 0 P a w K Q:=by
 by_cases hn:ao.isCall=false;obtain⟨x,N,j,v,h,n,B,i,J⟩:=op_ok M hd (hf ub zK zO) l hn k;refine Qg (WR l) ?_;rcases h with h|⟨h,rfl⟩;rw[h];exact Z j v _ _ n B i J;rw[h];exact Z j v _ _ n B i J
 ·have c:∃f O,((∃s,ao=.call f s/\O=s.map (ye E st.tm))\/∃q s first g,ao=.callV q s/\ye E st.tm q=.fn (.func f) first g/\O=first++s.map (ye E st.tm)++g) /\
   jd9 cd.d ub f (O.map V.strip)=some δ:=by
   cases ao<;>simp only[AOp.isCall,not_true_eq_false,eG,not_false_eq_true]at hn
   case call f s=>exact⟨f,_,.inl ⟨s,rfl,rfl⟩,by rw[dl];exact k⟩
   case callV q s=>
    simp only[yS]at k;split at k;rename_i f first g T
    exact⟨f,_,.inr ⟨q,s,first,g,rfl,T,rfl⟩,k⟩;cases k
  obtain⟨f,O,G,c⟩:=c;unfold jd9 at c;split at c;case isFalse=>cases c
  rename_i z;obtain⟨r,hr,c⟩:=yc c;unfold Xt at c;split at c;case isFalse=>cases c
  rename_i b5;cases c;obtain⟨b0,L⟩:=X.d _ _ _ hr;obtain⟨D,h,a0,y⟩:=jc6 M l G b0;obtain⟨F,t⟩:=j5n a0 y z;have:=L w I D M.imm M.gl F t;refine Qg (WR l) ?_;rw[h];refine Wl this λe N he=>?_;obtain⟨x,τ,v,rfl,hg,J,U,H,hx,ht⟩:=he;obtain⟨j,n,S,i⟩:=jmj M hd hf hg J U H hx ht b5;exact⟨x,rfl,Z j v _ _ n S i J⟩
def X7 {ao:AOp}{nm:Bool}{d:A->V}{f:FuncId}{vs:List V}(h:jC E nm d ao=some (f,vs)):(∃c,ao=.call f c/\vs=c.map d)\/∃q c first b,ao=.callV q c/\d q=.fn (.func f) first b/\vs=first++c.map d++b:=by
 unfold jC at h;split at h;rename_i g c;split at h;cases h;cases h;exact .inl ⟨c,rfl,rfl⟩;rename_i q c;split at h;rename_i g first b e
 split at h;cases h;cases h;exact .inr ⟨q,c,first,b,rfl,e,rfl⟩;cases h;cases h
def j6b {m nm:Bool}{U:Callers}{r:Option Nat}{ao:AOp}{K:Act->World->Prop}{Q:Exit->Act->World->Prop}(B:COk P E γ0 Iy U)
 (N:R E w0 I0 nt γ I st a w) (hf:∀u,ub<=u->u<ub+64->γ u=none) (n:Jy P m o=some ao) (X:∀d,o.dst=some d->d<nt) {f:FuncId}{vs:List V}{ob:ZO}{tk:Nat->Bool}{base uo:Nat}
 (L:jC E nm (ye E st.tm) ao=some (f,vs)) (D:∀l x,ob l=some x->st.ob l=some x) (F:∀u,uo<=u->γ u=none) (G:(U.o f vs ob tk base uo).bind (Xt ub)=some δ)
 (hK:∀g t S y,R E w0 I0 nt g t (st.app o.dst δ) S y->(∀u,¬(ub<=u/\u<ub+64)->g u=γ u)->(∀u p,γ u=some p->g u=some p)->(∀b o x,I b o=some x->t b o=some x)->K S y) :
 o.wpIn (FW r) 0 P a w K Q:=by
 obtain⟨rv,hr,c⟩:=yc G;unfold Xt at c;split at c;case isFalse=>cases c
 rename_i O;cases c;obtain⟨M,k⟩:=B.o _ _ _ _ _ _ _ hr;obtain⟨j,s,J,h⟩:=jc6 N n (X7 L) M;have:=k w0 w I0 I γ j st D N.sh F J h;refine Qg (WR n) ?_;rw[s];refine Wl this λe y he=>?_;obtain⟨x,τ,t,rfl,hg,T,z,q,hx,Z⟩:=he;obtain⟨g,H,v,i⟩:=jmj N X hf hg T z q hx Z O;exact⟨x,rfl,hK g t _ _ H v i T⟩
def own_ok {m nm:Bool}{cd:Callers}{r:Option Nat}{ao:AOp}{K:Act->World->Prop}{Q:Exit->Act->World->Prop}(M:COk P E γ0 Iy cd)
 (k:R E w0 I0 nt γ I st a w) (hf:∀u,ub<=u->u<ub+64->γ u=none) (n:Jy P m o=some ao) (hd:∀d,o.dst=some d->d<nt) {f:FuncId}{vs D:List V}{v:V}{ob:ZO}{dn:Nat}
 (S:jC E nm (ye E st.tm) ao=some (f,vs)) (N:∀l x,ob l=some x->st.ob l=some x) (ha:vs.mapM (Wu ob)=some D) (hv:cd.d f D=some v) (s:ja4 dn ub v=some δ)
 (hK:∀c Z X J,R E w0 I0 nt c Z (st.app o.dst δ) X J->(∀u,¬(ub<=u/\u<ub+64)->c u=γ u)->(∀u p,γ u=some p->c u=some p)->(∀b o x,I b o=some x->Z b o=some x)->K X J) :
 o.wpIn (FW r) 0 P a w K Q:=by
 obtain⟨T,j⟩:=M.d _ _ _ hv;obtain⟨U,B,O,g⟩:=jc6 k n (X7 S) T;refine Qg (WR n) ?_;rw[B];refine Wl (jqy N j ha s k.sh (hf ub zK zO) O g) λe J he=>?_;obtain⟨x,c,rfl,y,F,L,G⟩:=he;obtain⟨i,H⟩:=jqz s;unfold Delta.wt at i;have q:δ.del.toList=[]:=(fY.1 i).1;have z:δ.add=[]:=(fY.1 i).2;refine⟨x,rfl,hK c I _ _ ⟨(WO _ _ _).trans k.sz,jep k L _ _,?_,y _ (by simp[St.app,H]) (by simp[St.app,q,z,Xs]) rfl⟩ (λu hu=>G u (λe=>hu ⟨zO,zO⟩)) L (λ_ _ _ h=>h)⟩;exact Qq (by rw[k.sz];exact hd) (λt=>(k.tm t).mono L (λ_ _ _ h=>h)) F
def mk_ok {m nm:Bool}{cd:Callers}{r:Option Nat}{ao:AOp}{K:Act->World->Prop}{Q:Exit->Act->World->Prop}(J:COk P E γ0 Iy cd)
 (X:R E w0 I0 nt γ I st a w) (hf:∀u,ub<=u->u<ub+64->γ u=none) (z:Jy P m o=some ao) (hd:∀d,o.dst=some d->d<nt) {f:FuncId}{vs:List V}{L:Nat}
 (M:jC E nm (ye E st.tm) ao=some (f,vs)) (g:mkD E f vs L ub=some δ)
 (hK:∀c G O H,R E w0 I0 nt c G (st.app o.dst δ) O H->(∀u,¬(ub<=u/\u<ub+64)->c u=γ u)->(∀u p,γ u=some p->c u=some p)->(∀b o x,I b o=some x->G b o=some x)->K O H) :
 o.wpIn (FW r) 0 P a w K Q:=by
 unfold mkD at g;split at g;case h_2=>cases g
 rename_i cs hn;obtain⟨N,y⟩:=J.k _ _ hn;obtain⟨l,D,B,s⟩:=jc6 X z (X7 M) N;obtain⟨x,rfl⟩:∃x,l=#[x]:=⟨l[0]'(by simp at B;omega),by
  apply ii;simpa using B;intro i S F;have:i=0:=by simp at F;omega
  subst this;rfl⟩
 obtain⟨p,q,rfl⟩:∃p q,x=.slice p 0 q:=by
  cases s 0 x _ rfl rfl with
  |pure _ _ h=>cases h<;>exact⟨_,_,rfl⟩
 refine Qg (WR z) ?_;rw[D];refine Wl (y p q w) λe H he=>?_;obtain⟨rfl,T,t,rfl,S,F⟩:=he;obtain⟨c,G,h3,h4,h5,h6⟩:=j1a (body:=.cells cs) (v:=.ptr L ub 0) (d:=L) (k:=.n T.size) X hd (hf ub zK zO) rfl (x:=.pointer (some ⟨w.heap.size,0,none⟩)) (λc h=>.ptr _ _ _ _ _ h)
  ⟨T,t,rfl,rfl,fh S.symm,λj x v U Z=>⟨(F j x v U Z).1,.pure _ _ ((F j x v U Z).2 _)⟩⟩ g
 exact⟨_,rfl,hK c G _ _ h3 h4 h5 h6⟩
def jj7 {m:Bool}{ops:Array Oper}{X:Callers}{rn:Option Nat}{ao:AOpr}{l:List (St×Nat)}{K:Act->World->Prop}{Q:Exit->Act->World->Prop}(J:COk P E γ0 Iy X) (Z:SubG γ0 γ) (b5:SubI Iy I)
 (B:R E w0 I0 nt γ I st a w) (O:∀u,ub<=u->γ u=none) (hc:Jf P m ops o=some ao) (hd:∀d,o.dst=some d->d<nt)
 (n:jec E X ao st ub=some l) (hK:∀x∈l,Nice E w0 I0 nt γ I x.1 x.2 K) :
 if Region.wanted o (yielded ops a.tmps) then o.wpIn (FW rn) 0 P a w K Q else (∀f,o.about P w a.eval=some f->(FW rn).fn f)/\K (a.put o.dst undef) w:=by
 obtain⟨j,i⟩:=Xh hc
 unfold jec at n
 cases hw:yJ ao st.tm with
 |none=>simp[hw]at n
 |some b=>
  rw[YP B hc hw]
  cases b with
  |false=>
   simp only[hw,ae]at n
   subst n
   simp only[ah,zc]
   refine⟨λ_ _=>trivial,?_⟩
   have:=hK _ (ag.2 rfl)
   rw[j]at this
   exact this γ I _ _ (jxt B hd) O (λ_ _ h=>h) (λ_ _ _ h=>h)
  |true=>
   simp only[hw]at n
   simp only[zd]
   have i:Jy P m o=some ao.op:=i.resolve_right λh=>by simp[h,jC,jj,yS,AOp.next?]at n
   -- behind what shares
   have b8:∀{r:V}{ob:ZO}{tk:Nat->Bool}{L:Nat},({ st with tm:=put st.tm ao.dst r,ob:=ob,tk:=tk },L)∈l->∀e N,Wy E w0 I0 γ I st.ro r ob tk L e N->∃v,e=.returned v/\K (a.put o.dst v) N:=by
    intro r ob tk L hl e N he
    obtain⟨x,z,I',rfl,b6,b9,hg,hI,c3⟩:=he
    refine⟨x,rfl,?_⟩
    have:=hK _ hl
    refine this z I' _ _ ⟨(WO _ _ _).trans B.sz,jep B hg _ _,?_,b6 _ rfl rfl rfl⟩ c3 hg hI
    rw[j]
    exact Qq (by rw[B.sz];exact hd) (λt=>(B.tm t).mono hg hI) b9
   cases b0:jj (ye E st.tm) ao.op with
   |some c6=>
    obtain⟨lb,u,vs⟩:=c6
    simp only[b0]at n
    obtain⟨⟨r,ob,tk,L⟩,p,he⟩:=yh n
    obtain⟨b,k,H,hu,c,a0,q⟩:=jv7 B i b0
    obtain⟨fn,tmps,c7,bd,hy,M⟩:=J.y _ _ _ _ _ _ _ _ _ _ _ p w0 w I0 I γ H st b k Z b5 rfl rfl rfl B.sh O a0 q hu
    refine Qg (WR i) ?_
    rw[c,hy]
    exact jtp M (b8 (he▸ag.2 rfl))
   |none=>
   simp only[b0]at n
   cases T:jC E ao.nm (ye E st.tm) ao.op with
   |some fx=>
    obtain⟨f,vs⟩:=fx
    simp only[T]at n
    split at n
    ·obtain⟨ls,p,he⟩:=yh n
     obtain⟨c1,b7⟩:=J.s _ _ _ _ _ _ _ _ p
     obtain⟨H,c,a0,q⟩:=jc6 B i (X7 T) c1
     have:=b7 w0 w I0 I γ H st Z b5 rfl rfl rfl B.sh O a0 q
     refine Qg (WR i) ?_
     rw[c]
     exact Wl this λe N ⟨r,hr,h⟩=>b8 (he▸List.mem_map_of_mem (f:=λx=>({ st with tm:=put st.tm ao.dst x.1,ob:=x.2.1,tk:=x.2.2.1 },x.2.2.2)) hr) e N h
    ·obtain⟨δ,D,rfl⟩:=yh n
     refine j6b J B (λu h _=>O u h) i hd T (λ_ _ h=>h) O D (λz I' a' N F G g hI=>?_)
     have:=hK _ (ag.2 rfl)
     rw[j]at this
     refine this z I' _ _ F (λu hu=>?_) g hI
     simp only at hu
     rw[G u zO]
     exact O u zO
   |none=>
    simp only[T]at n
    split at n
    ·rename_i x S
     obtain⟨ls,c2,rfl⟩:=yh n
     have c4:ao.op=.nextMap x:=by
      unfold AOp.next? at S
      split at S
      ·cases S;assumption
      ·cases S
     rw[c4]at i
     obtain⟨xo,ho,c5⟩:=ju8 i
     obtain⟨δ,D,c0⟩:=jul (P:=P) (ub:=ub) B hd ho c5 c2
     obtain⟨x,N,z,I',c,F,G,g,hI⟩:=c0
     have U:K (a.put o.dst x) N:=by
      have:=hK _ (aE.2 ⟨δ,D,rfl⟩)
      rw[j]at this
      refine this z I' _ _ F (λu hu=>?_) g hI
      simp only at hu
      rw[G u zO]
      exact O u zO
     refine Qg (WR i) ?_
     rcases c with c|⟨c,rfl⟩
     ·rw[c];exact U
     ·rw[c];exact U
    ·obtain⟨δ,D,rfl⟩:=yh n
     refine jlj J B (λu h _=>O u h) i hd D (λz I' a' N F G g hI=>?_)
     have:=hK _ (ag.2 rfl)
     rw[j]at this
     refine this z I' _ _ F (λu hu=>?_) g hI
     simp only at hu
     rw[G u zO]
     exact O u zO
def jhm {g e:Type}{f:g->Option (List e)}:∀{l:List g}{r:List e},jbm f l=some r->∀x∈l,∃d,f x=some d/\∀y∈d,y∈r
 |[],r,_,x,hx=>by cases hx
 |[x'],r,h,x,hx=>by simp only[ag]at hx;subst hx;exact⟨r,h,λy c=>c⟩
 |x'::y'::l,r,h,x,hx=>by simp only[jbm]at h;obtain⟨a,i,h⟩:=yc h;obtain⟨b,m,rfl⟩:=yh h;rcases bt.1 hx with rfl|hx;exact⟨a,i,λy c=>cG _ c⟩;obtain⟨d,k,j⟩:=jhm m x hx;exact⟨d,k,λy c=>bU _ (j y c)⟩
def Jt {c b:Type}{m:Option (List c)}{f:c->Option (List b)}{r:List b}(h:bindL m f=some r):∃l,m=some l/\∀x∈l,∃d,f x=some d/\∀y∈d,y∈r:=by obtain⟨l,e,h⟩:=yc h;exact⟨l,e,jhm h⟩
def R.congr {st st':St}(h:R E w0 I0 nt γ I st a w) (b:st'.tm=st.tm) (e:st'.ob=st.ob) (d:st'.tk=st.tk) (f:st'.ro=st.ro) (c:st'.df=st.df):R E w0 I0 nt γ I st' a w :=
 ⟨h.sz,by rw[c];exact h.df,by rw[b];exact h.tm,⟨h.imm,h.gl,(let ⟨Ω,ho⟩:=h.own;⟨Ω,⟨by rw[e,f];exact ho.ob,by rw[d];exact ho.tk,ho.lt⟩⟩),h.fr,h.old⟩⟩
def Nice.weaken {γ γ':Nat->Option Place}{I f:IMap}{st:St}{ub:Nat}{K:Act->World->Prop}(h:Nice E w0 I0 nt γ I st ub K) (j:∀u p,γ u=some p->γ' u=some p)
 (i:∀b o x,I b o=some x->f b o=some x):Nice E w0 I0 nt γ' f st ub K :=
 λc m a2 l k g e d=>h c m a2 l k g (λu p h=>e u p (j u p h)) (λb o x h=>d b o x (i b o x h))
def jx5 {m:Bool}{ops:Array Oper}{f:Callers}{rn:Option Nat}{Q:Exit->Act->World->Prop}(i:COk P E γ0 Iy f) :
 ∀(l:List Oper) (b:List AOpr),l.mapM (Jf P m ops)=some b->(∀p∈b,∀d,p.dst=some d->d<nt)->∀(γ:Nat->Option Place) (I:IMap) (st:St) (a:Act) (w:World) (ub:Nat) (e:List St),
  SubG γ0 γ->SubI Iy I->R E w0 I0 nt γ I st a w->(∀u,ub<=u->γ u=none)->jkp E f b st ub=some e->(∀c∈e,Nice E w0 I0 nt γ I c c.nx (λa w=>Q .normal a w))->wpListIn (FW rn) 0 P ops Q l a w
 |[],b,hm,hd,γ,I,st,a,w,ub,e,hγ0,hIy,hR,hf,hs,hK=>by simp at hm;subst hm;simp only[jkp,ae]at hs;subst hs;exact hK _ (ag.2 rfl) γ I a w (hR.congr rfl rfl rfl rfl rfl) hf (λ_ _ h=>h) (λ_ _ _ h=>h)
 |o::l,b,hm,hd,γ,I,st,a,w,ub,e,hγ0,hIy,hR,hf,hs,hK=>by
  simp only[bP]at hm;cases j:Jf P m ops o with
  |none=>simp[j]at hm
  |some p=>
   cases t:l.mapM (Jf P m ops) with
   |none=>simp[j,t]at hm
   |some g=>
    simp[j,t]at hm;subst hm;simp only[jkp]at hs;obtain⟨ls,H,D⟩:=Jt hs;have q:∀d,o.dst=some d->d<nt:=by have k:p.dst=o.dst:=(Xh j).1;rw[<- k];exact hd p (aK ..)
    have:=jj7 (rn:=rn) (K:=wpListIn (FW rn) 0 P ops Q l) (Q:=Q) i hγ0 hIy hR hf j q H (λx k v J G B s r y z=>by
     obtain⟨M,L,F⟩:=D x k;exact jx5 i l g t (λx k=>hd x (aS _ k)) v J x.1 G B x.2 M (hγ0.trans y) (hIy.trans z) s r L
      (λc n=>(hK c (F c n)).weaken y z))
    unfold wpListIn;exact this
end
def jvh {E:Env}{tm a:Nat->V}{x:A}(h:∀t∈x.tmps,tm t=a t):ye E tm x=ye E a x:=by
 cases x with
 |t n=>exact h n (by simp[A.tmps])
 |c v=>rfl
 |g n=>rfl
def jbf {ob ob':ZO}{l u:Nat}(h:ob l=ob' l):j0 ob l u=j0 ob' l u:=by unfold j0;rw[h]
def jmz {ob ob':ZO}{l u:Nat}(h:ob l=ob' l):jY ob l u=jY ob' l u:=by unfold jY;rw[h]
def jmy {ob ob':ZO}{l:Nat}(h:ob l=ob' l):jn ob l=jn ob' l:=by unfold jn;rw[h]
def QA {ob ob':ZO}{sz:Nat}{v:V}(h:∀l∈yP v,ob l=ob' l):jF ob sz v=jF ob' sz v:=by
 cases v<;>try rfl
 simp only[jF];rw[jbf (h _ (by simp[yP]))]
def XP {a b:Type}{f g:a->b}{l:List a}(h:∀x∈l,f x=g x):l.map f=l.map g:=dm h
def jac {ρ a:A->V}{ps:List (Nat×Nat×A)}(h:∀x∈ps.map (·.2.2),ρ x=a x):JB ρ ps=JB a ps:=by unfold JB;refine dm λp b=>?_;obtain⟨o,s,x⟩:=p;simp only[h x (aE.2 ⟨_,b,rfl⟩)]
def Xk {ρ a:A->V}{x:Option A}(h:∀y∈x.toList,ρ y=a y):x.map ρ=x.map a:=by
 cases x with
 |none=>rfl
 |some y=>simp[h y zS]
def jhr {cd:FuncId->List V->Option V}{ρ B:A->V}{ob ob':ZO}{tk D:Nat->Bool}{ro d ub:Nat}(o:AOp) (r:o.far=false)
 (c:∀x∈o.opds,ρ x=B x) (w:∀l∈yy ρ o,ob l=ob' l) (K:∀u∈yz ρ o,tk u=D u):yS cd ρ ob tk ro d ub o=yS cd B ob' D ro d ub o:=by
 have j:∀l u,l∈yy ρ o->j0 ob l u=j0 ob' l u:=λl u h=>jbf (w l h);have ov:∀l,l∈yy ρ o->jn ob l=jn ob' l:=λl h=>jmy (w l h);have om:∀l u,l∈yy ρ o->jY ob l u=jY ob' l u:=λl u h=>jmz (w l h);cases o<;>simp only[AOp.opds,bt,cZ,or_false,forall_eq_or_imp,forall_eq]at c;case alloc=>rfl
 case mkMap=>rfl
 case stuck=>rfl
 case build z ps=>simp only[yS,jac c]
 case buildSl o s z ps n=>simp only[yS,jac c]
 case entry x=>cases r
 case nextMap x=>cases r
 case slStr x l h=>simp only[yS];rw[c.1,Xk (λy i=>c.2 y (cG _ i)),Xk (λy i=>c.2 y (bU _ i))]
 case slSl s x l h=>simp only[yS];rw[c.1,Xk (λy i=>c.2 y (cG _ i)),Xk (λy i=>c.2 y (bU _ i))]
 case slArr n s x l h=>simp only[yS];rw[<- c.1,Xk (λy i=>c.2 y (cG _ i)),Xk (λy i=>c.2 y (bU _ i))];split;rename_i a u off e;rw[j a u (by simp[yy,e,yP])];rfl
 case ext k xs=>simp only[yS,XP c]
 case eq neg k x y=>simp only[yS];rw[<- c.1,<- c.2];split;rename_i l u off L J H e i;rw[j l u (by simp[yy,e,yP]),j L J (by simp[yy,i,yP])];rfl
 case copy sz x y=>simp only[yS];rw[<- c.1,<- c.2,QA (λl F=>w l (by simp only[yy];exact bU _ F))];congr 1;funext ys;split;rename_i l u off n G e;rw[j l u (by simp[yy,e,yP])];rfl;rfl
 case clear sz z x=>simp only[yS];rw[<- c];split;rename_i l u off n G e;rw[j l u (by simp[yy,e,yP])];rfl;rfl
 case mkFn f a b=>simp only[yS];rw[XP (λy i=>c y (cG _ i)),XP (λy i=>c y (bU _ i))]
 case minmax b xs=>simp only[yS,XP c]
 case call f xs=>simp only[yS];rw[XP (f:=λx=>(ρ x).strip) (g:=λx=>(B x).strip) (λy i=>by rw[c y i])]
 case callV f xs=>simp only[yS];rw[c.1,XP (λy i=>c.2 y i)]
 case load g x=>simp only[yS];rw[<- c];split;rfl;rename_i l u off e;rw[j l u (by simp[yy,e,yP])];rfl
 case store s x y=>simp only[yS];rw[<- c.1,<- c.2];split;rename_i l u off e;rw[j l u (by simp[yy,e,yP])];rfl
 case lenMap x=>simp only[yS];rw[<- c];split;rfl;rename_i l u e;rw[om l u (by simp[yy,e,yP])];rfl
 case lookup q z ok m k=>simp only[yS];rw[<- c.1,<- c.2];split;split;rfl;rename_i l u e;rw[om l u (by simp[yy,e,yP])];rfl;rfl
 case mapSet q m k v=>simp only[yS];rw[<- c.1,<- c.2.1,<- c.2.2];split;split;rename_i l u e;rw[om l u (by simp[yy,e,yP]),ov l (by simp[yy,e,yP])];rfl;rfl
 case mapDel q m k=>simp only[yS];rw[<- c.1,<- c.2];split;split;rfl;rename_i l u e;rw[om l u (by simp[yy,e,yP]),ov l (by simp[yy,e,yP])];rfl;rfl
 case mapEnt q z m k=>simp only[yS];rw[<- c.1,<- c.2];split;split;rename_i l u e;rw[om l u (by simp[yy,e,yP]),ov l (by simp[yy,e,yP])];rfl;rfl
 case entSt m s x=>simp only[yS];rw[<- c.1,<- c.2.1,<- c.2.2];split;rename_i l u n e _;rw[om l u (by simp[yy,e,yP]),ov l (by simp[yy,e,yP])];rfl
 case nextStr x=>simp only[yS];rw[<- c];split;rename_i l u e;rw[w l (by simp[yy,e,yP])];rfl
 case append o s b x y=>
  simp only[yS];rw[<- c.1,<- c.2];split;rename_i t M n cs e;rw[QA (λl F=>w l (by simp only[yy];exact bU _ F))];cases t with
  |none=>rfl
  |some p=>obtain⟨u,z⟩:=p;have I:=K u (by simp[yz,e,uOf]);simp only[I]
  rename_i l u off n G e;rw[QA (λl F=>w l (by simp only[yy];exact bU _ F)),j l u (by simp[yy,e,yP])];rfl
 case range b x=>cases b;simp only[yS];rw[<- c];split;rfl;rename_i l u e;rw[om l u (by simp[yy,e,yP]),ov l (by simp[yy,e,yP])];rfl;simp only[yS,c]
 all_goals simp only[yS,c]
def rd_eq {ρ a:A->V}(o:AOp) (b:∀x∈o.opds,ρ x=a x):yy ρ o=yy a o/\yz ρ o=yz a o:=by cases o<;>simp only[AOp.opds,bt,cZ,or_false,forall_eq_or_imp,forall_eq]at b<;>simp only[yy,yz,b,and_self]
def WM {E:Env}{nm:Bool}{ρ a:A->V}(o:AOp) (b:∀x∈o.opds,ρ x=a x):jC E nm ρ o=jC E nm a o:=by
 cases o<;>try rfl
 case call f xs=>
  have:xs.map ρ=xs.map a:=XP (λy c=>b y c);have e:(xs.all λx=>(ρ x).strip.pureTop)=xs.all λx=>(a x).strip.pureTop:=by
   have:∀r:A->V,(xs.all λx=>(r x).strip.pureTop)=(xs.map r).all λv=>v.strip.pureTop:=λr=>by rw[dG];rfl
   rw[this,this];congr 1
  simp only[jC,this,e]
 case callV f xs=>simp only[AOp.opds,bt,forall_eq_or_imp]at b;simp only[jC];rw[b.1,XP (λy c=>b.2 y c)]
section
variable {cd:FuncId->List V->Option V}{ρ:A->V}{ob:ZO}{tk:Nat->Bool}{ro d ub:Nat}{δ:Delta}
def rO_nil {o:AOp}(h:o.rO=false):yy ρ o=[]:=by cases o<;>first|rfl|cases h
def rT_nil {o:AOp}(h:o.rT=false):yz ρ o=[]:=by cases o<;>first|rfl|cases h
def PlO (r:Option Delta):Prop:=∀δ,r=some δ->δ.wo=[]
def PlT (r:Option Delta):Prop:=∀δ,r=some δ->δ.wt=[]
def jcj:PlO none:=λ_ h=>by cases h
def plT_none:PlT none:=λ_ h=>by cases h
def jo8 (v:V):PlO (one v):=λ_ h=>by cases h;rfl
def jo7 (v:V):PlT (one v):=λ_ h=>by cases h;rfl
def jro {δ:Delta}(h:δ.wo=[]):PlO (some δ):=λ_ a=>by cases a;exact h
def j2x {δ:Delta}(h:δ.wt=[]):PlT (some δ):=λ_ a=>by cases a;exact h
def plT_mk {d ub:Nat}{b:OBody}{v:V}:PlT (Jo d ub b v):=λ_ h=>by cases h;rfl
def plO_bind {c:Type}{x:Option c}{f:c->Option Delta}(h:∀a,PlO (f a)):PlO (x.bind f):=λδ b=>by obtain⟨a,_,b⟩:=yc b;exact h a δ b
def plT_bind {c:Type}{x:Option c}{f:c->Option Delta}(h:∀a,PlT (f a)):PlT (x.bind f):=λδ b=>by obtain⟨a,_,b⟩:=yc b;exact h a δ b
def jxz {ub:Nat}{r:V}:PlO (Xt ub r):=by unfold Xt;split;exact jro rfl;exact jcj
def js6 {f:FuncId}{xs:List V}:PlO (jd9 cd ub f xs):=by unfold jd9;split;exact plO_bind λr=>jxz;exact jcj
def j8m (k:ExtK) (vs:List V):PlO (extV k vs):=by unfold extV;split;exact jo8 _;exact jo8 _;exact jcj
def j8l (k:ExtK) (vs:List V):PlT (extV k vs):=by unfold extV;split;exact jo7 _;exact jo7 _;exact plT_none
def j5x (o:AOp) (h:o.wO=false):PlO (yS cd ρ ob tk ro d ub o):=by
 cases o<;>simp only[AOp.wO,eG]at h<;>simp only[yS];case call f xs=>exact js6
 case callV f xs=>split;exact js6;exact jcj
 case ext k xs=>exact j8m _ _
 all_goals repeat' first
  |with_reducible exact jo8 _
  |with_reducible exact jcj
  |with_reducible exact jro rfl
  |(with_reducible refine plO_bind λ_=>?_)
  |split
def j5w (o:AOp) (h:o.wT=false):PlT (yS cd ρ ob tk ro d ub o):=by
 cases o<;>simp only[AOp.wT,eG]at h;case range b x=>cases b<;>simp only[yS]<;>repeat' first|exact plT_none|exact plT_mk|(with_reducible refine plT_bind λ_=>?_)|split
 case ext k xs=>simp only[yS];exact j8l _ _
 all_goals simp only[yS]
 all_goals repeat' first
  |with_reducible exact jo7 _
  |with_reducible exact plT_none
  |with_reducible exact plT_mk
  |with_reducible exact j2x rfl
  |(with_reducible refine plT_bind λ_=>?_)
  |split
end
abbrev Eff:=Option Nat×Delta
def jS:(Nat->Bool)->List Eff->St->St
 |_,[],st=>st
 |D,e::es,st=>jS (λi=>D (i+1)) es (if D 0 then st.app e.1 e.2 else st)
def JG:∀(es:List Eff) (D:Nat->Bool) (st:St),(jS D es st).nx=st.nx/\(jS D es st).fb=st.fb/\(jS D es st).ro=st.ro/\(jS D es st).df=st.df
 |[],_,_=>⟨rfl,rfl,rfl,rfl⟩
 |e::es,D,st=>by simp only[jS];obtain⟨a,c,b,d⟩:=JG es (λi=>D (i+1)) (if D 0 then st.app e.1 e.2 else st);rw[a,c,b,d];split<;>exact⟨rfl,rfl,rfl,rfl⟩
section
variable {β:Type}{π:St->β}{wr:Eff->Bool}{g:Eff->β}(hπ:∀ (s:St) (e:Eff),π (s.app e.1 e.2)=if wr e then g e else π s)
include hπ
def XV:∀(es:List Eff) (D c:Nat->Bool) (s s':St),(∀i e,es[i]? = some e->wr e=true->D i=c i)->π s=π s'->π (jS D es s)=π (jS c es s')
 |[],_,_,_,_,_,h=>h
 |e::es,D,c,s,s',h,hs=>by
  simp only[jS];refine XV es _ _ _ _ (λi f d a=>h (i+1) f (by simpa using d) a) ?_;cases a:wr e with
  |true=>rw[h 0 e rfl a];split;rw[hπ,hπ,a];rfl;exact hs
  |false=>
   have:∀(b:Bool) (s:St),π (if b then s.app e.1 e.2 else s)=π s:=λb s=>by cases b;rfl;simp only[zd];rw[hπ,a];rfl
   rw[this,this,hs]
def jno:∀(es:List Eff) (D:Nat->Bool) (s:St),(∀i e,es[i]? = some e->D i=true->wr e=false)->π (jS D es s)=π s
 |[],_,_,_=>rfl
 |e::es,D,s,h=>by simp only[jS];rw[jno es _ _ (λi d b a=>h (i+1) d (by simpa using b) a)];split;rename_i c;rw[hπ,h 0 e rfl c];rfl;rfl
def jfa:∀(es:List Eff) (D a:Nat->Bool) (s:St) (j:Nat) (e:Eff),es[j]? = some e->D j=false->a j=true->(∀i,i≠j->a i=D i) ->
 (∀i c,j<i->es[i]? = some c->D i=true->wr e=true->wr c=false)->π (jS a es s)=if wr e then g e else π (jS D es s)
 |[],_,_,_,_,_,h,_,_,_,_=>by simp at h
 |e0::es,D,a,s,0,e,b,h0,h1,hsame,hno=>by
  simp only[aD,ae]at b;subst b;have m:(λi=>a (i+1))=λi=>D (i+1):=funext λi=>hsame (i+1) zO;simp only[jS,h0,h1,zd,m,ah,zc];cases d:wr e0 with
  |true=>rw[jno hπ es _ _ (λi c b f=>hno (i+1) c zO (by simpa using b) f d),hπ,d];rfl
  |false=>simp only[ah,zc];refine XV hπ es _ _ _ _ (λ_ _ _ _=>rfl) ?_;rw[hπ,d];rfl
 |e0::es,D,a,s,j+1,e,b,h0,h1,hsame,hno=>by simp only[jS];rw[hsame 0 zO];exact jfa es _ _ _ j e (by simpa using b) h0 h1 (λi l=>hsame (i+1) zO) (λi c l k f d=>hno (i+1) c zO (by simpa using k) f d)
end
def wrT (t:Nat) (e:Eff):Bool:=decide (e.1=some t)
def wrO (l:Nat) (e:Eff):Bool:=e.2.wo.contains l
def wrK (u:Nat) (e:Eff):Bool:=e.2.wt.contains u
def jb8 (t:Nat) (s:St) (e:Eff):(s.app e.1 e.2).tm t=if wrT t e then e.2.v else s.tm t:=by
 obtain⟨d,a⟩:=e;cases d with
 |none=>simp[wrT,St.app,put]
 |some d=>simp only[wrT,St.app,put,yg,ae,ze];by_cases h:t=d;subst h;simp;rw[za h,za (λe=>h e.symm)]
def Qm (ob:ZO):∀(l:List (Nat×Obj')) (k:Nat),Ji ob l k=if (l.map (·.1)).contains k then Ji (λ_=>none) l k else ob k
 |[],k=>by simp[Ji]
 |(l,o)::r,k=>by
  simp only[Ji,yg,bc,ec];by_cases h:k=l;subst h;simp;rw[za h,za h,Qm ob r k];have:(k==l)=false:=by simpa using h
  simp only[this,bQ]
def jel (l:Nat) (s:St) (e:Eff):(s.app e.1 e.2).ob l=if wrO l e then Ji (λ_=>none) e.2.obs l else s.ob l:=by
 have a:∀(q:List Nat),q.any (Nat.beq l)=q.contains l:=λq=>by rw[bz,any_beq];simp
 simp only[St.app,wrO,Delta.wo,List.contains_append];rw[Qm];cases h:(e.2.obs.map (·.1)).contains l with
 |true=>simp
 |false=>
  simp only[bI,ah,zc,a];cases b:e.2.kill.contains l with
  |true=>simp only[zd];rw[Qm,h];rfl
  |false=>simp
def jcd (tk:Nat->Bool) (b:Bool):∀(l:List Nat) (k:Nat),Xs tk b l k=if l.contains k then b else tk k
 |[],k=>by simp[Xs]
 |u::r,k=>by
  simp only[Xs,yg,ec];by_cases h:k=u;subst h;simp;rw[za h,jcd tk b r k];have:(k==u)=false:=by simpa using h
  simp only[this,bQ]
def jh8 (u:Nat) (s:St) (e:Eff):(s.app e.1 e.2).tk u=if wrK u e then e.2.add.contains u else s.tk u:=by simp only[St.app,wrK,Delta.wt,jcd,List.contains_append];cases e.2.add.contains u<;>cases e.2.del.toList.contains u<;>rfl
def jj4 (b:List Nat) (i:Nat):∀(es:List Edge) (m:Nat),(es.foldl (λm e=>if Region.binds .any e then m|||(1<<<e.on|||b.getD e.on 0) else m) m).testBit i=true ->
 m.testBit i=true\/∃e∈es,Region.binds .any e=true/\(i=e.on\/(b.getD e.on 0).testBit i=true)
 |[],m,h=>.inl h
 |e::es,m,h=>by
  simp only[eU]at h;rcases jj4 b i es _ h with h|⟨f,c,j⟩;split at h;rename_i a;rw[eI,eI]at h;simp only[bq]at h;rcases h with h|h|h;exact .inl h;refine .inr ⟨e,aK ..,a,.inl ?_⟩;rw[Nat.testBit_shiftLeft]at h;simp only[ge_iff_le,ab,ze]at h;have:i-e.on=0:=by rcases cI (i-e.on) with h0|h0;exact h0;have d:=h.2;have:Nat.testBit 1 (i-e.on)=false:=dZ (Nat.one_lt_two_pow zO);rw[this]at d;cases d
  omega;exact .inr ⟨e,aK ..,a,.inr h⟩;exact .inl h;exact .inr ⟨f,aS _ c,j⟩
def jht:∀(l:List Oper) (a:List Nat),a <+: JH l a/\∀k o,l[k]? = some o->∃b,b <+: JH l a/\(JH l a).getD (a.length+k) 0=ahead o b
 |[],a=>⟨List.prefix_refl _,λk o h=>by simp at h⟩
 |o::r,a=>by
  simp only[JH];obtain⟨d,i⟩:=jht r (a++[ahead o a]);refine⟨(List.prefix_append ..).trans d,λk n c=>?_⟩;cases k with
  |zero=>simp only[aD,ae]at c;subst c;refine⟨a,(List.prefix_append ..).trans d,?_⟩;obtain⟨t,m⟩:=d;rw[<- m];simp
  |succ k=>obtain⟨b,f,j⟩:=i k n (by simpa using c);refine⟨b,f,?_⟩;rw[<- j];simp[aI,fl 1 k]
def jp9 {a b:List Nat}(h:a <+: b) {k i:Nat}(c:(a.getD k 0).testBit i=true):(b.getD k 0).testBit i=true:=by obtain⟨t,rfl⟩:=h;rcases cD k a.length with hk|hk;simpa[List.getD,bl hk] using c;simp[List.getD,dJ hk]at c
def jpn {ops:Array Oper}{j i:Nat}{o:Oper}(f:ops[j]? = some o) (c:((JH ops.toList []).getD j 0).testBit i=true) :
 ∃e∈o.after,Region.binds .any e=true/\(i=e.on\/((JH ops.toList []).getD e.on 0).testBit i=true):=by
 obtain⟨_,h⟩:=jht ops.toList [];obtain⟨a,d,b⟩:=h j o (by rw[br];exact f);simp only[ct,bK]at b;rw[b,ahead]at c;rcases jj4 a i o.after.toList 0 c with m|⟨e,l,k,n⟩;simp at m;exact⟨e,by simpa using l,k,n.imp id (jp9 d)⟩
structure TrAt (E:Env) (call:Callers) (fb ub ue:Nat) (s:St) (ao:AOpr) (δ:Delta) (fp:FP):Prop where
 wo:fp.wo=δ.wo
 wt:fp.wt=δ.wt
 run:(yJ ao s.tm=some true/\jC E ao.nm (ye E s.tm) ao.op=none/\ao.op.far=false/\yS call.d (ye E s.tm) s.ob s.tk s.ro (ao.name fb ub) ub ao.op=some δ /\
  fp.ro=yy (ye E s.tm) ao.op/\fp.rt=yz (ye E s.tm) ao.op/\fp.all=false)\/(yJ ao s.tm=some false/\δ={ v:=js }/\fp={}) \/
  (yJ ao s.tm=some true/\∃f xs base,jC E ao.nm (ye E s.tm) ao.op=some (f,xs)/\(call.o f xs s.ob s.tk base ue).bind (Xt ub)=some δ/\fp={ wt:=δ.wt,all:=true,seen:=λl=>(s.ob l).isSome }) \/
  (yJ ao s.tm=some true/\∃f xs a' rv,jC E ao.nm (ye E s.tm) ao.op=some (f,xs)/\xs.mapM (Wu s.ob)=some a'/\call.d f a'=some rv/\ja4 (ao.name fb ub) ub rv=some δ/\fp={ wo:=δ.wo,all:=true,seen:=λl=>(s.ob l).isSome,nw:=true }) \/
  (yJ ao s.tm=some true/\∃f xs,jC E ao.nm (ye E s.tm) ao.op=some (f,xs)/\mkD E f xs (ao.name fb ub) ub=some δ/\fp={ wo:=δ.wo,nw:=true })
def mkD_wt {E:Env}{f:FuncId}{xs:List V}{d ub:Nat}{δ:Delta}(h:mkD E f xs d ub=some δ):δ.wt=[]:=by unfold mkD at h;split at h;cases h;rfl;cases h
structure Trace (E:Env) (call:Callers) (st:St) (ub:Nat) (als:List AOpr) (effs:List Eff) (fps:List FP):Prop where
 len:effs.length=als.length
 at':∀i ao,als[i]? = some ao->∃δ fp,effs[i]? = some (ao.dst,δ)/\fps[i]? = some fp/\TrAt E call st.fb (ub+64*i) (ub+64*als.length) (jS (λk=>decide (k<i)) effs st) ao δ fp
def jqc (i:Nat) (e:Eff) (es:List Eff) (st:St):jS (λk=>decide (k<i+1)) (e::es) st=jS (λk=>decide (k<i)) es (st.app e.1 e.2):=by simp only[jS,Nat.zero_lt_succ,decide_true,zd,Nat.add_lt_add_iff_right]
def Xg {E:Env}{c:Callers}:∀(q:List AOpr) (st:St) (ub:Nat) (n:List FP) (st':St),Yg E c q st ub=some (n,st') ->
 ∃a,Trace E c st ub q a n/\st'={ jS (λ_=>true) a st with nx:=ub+64*q.length }
 |[],st,ub,n,st',h=>by simp only[Yg,ae,bZ]at h;obtain⟨rfl,rfl⟩:=h;exact⟨[],⟨rfl,λi J h=>by simp at h⟩,rfl⟩
 |o::r,st,ub,n,st',h=>by
  have j:∀(d:Delta) (y:FP) (fs:List FP),Yg E c r (st.app o.dst d) (ub+64)=some (fs,st')->TrAt E c st.fb ub (ub+64*(o::r).length) st o d y ->
   ∃a,Trace E c st ub (o::r) a (y::fs)/\st'={ jS (λ_=>true) a st with nx:=ub+64*(o::r).length }:=by
   intro d y fs m L
   obtain⟨a,z,B⟩:=Xg r _ _ _ _ m
   refine⟨(o.dst,d)::a,⟨by simp[z.len],λi J G=>?_⟩,?_⟩
   ·cases i with
    |zero=>
     simp only[aD,ae]at G;subst G;refine⟨d,y,rfl,rfl,?_⟩;have:jS (λk=>decide (k<0)) ((o.dst,d)::a) st=st:=by
      simp only[Nat.not_lt_zero,decide_false];have:∀(l:List Eff) (s:St),jS (λ_=>false) l s=s:=by
       intro l;induction l with
       |nil=>intro s;rfl
       |cons e l Q=>intro s;simp only[jS,ah,zc];exact Q s
      exact this _ _
     rw[this];exact L
    |succ i=>
     obtain⟨D,H,O,N,P⟩:=z.at' i J (by simpa using G);refine⟨D,H,by simpa using O,by simpa using N,?_⟩;rw[jqc];have z:ub+64*(i+1)=ub+64+64*i:=zO;have B:ub+64*(o::r).length=ub+64+64*r.length:=by simp only[bh];omega
     rw[z,B];exact P
   ·rw[B];simp only[jS,zd,bh];congr 1;omega
  unfold Yg at h;split at h;rename_i t;split at h;rename_i f F x;split at h;split at h;obtain⟨d,b,h⟩:=yc h;obtain⟨⟨fs,s⟩,m,g⟩:=yh h;simp only[bZ]at g;obtain⟨rfl,rfl⟩:=g;obtain⟨K,p,v⟩:=yc b;obtain⟨M,I,p⟩:=yc p;exact j d _ fs m ⟨rfl,(jqz v).1.symm,.inr (.inr (.inr (.inl ⟨t,f,F,M,K,x,I,p,v,rfl⟩)))⟩;obtain⟨d,b,h⟩:=yc h;obtain⟨⟨fs,s⟩,m,g⟩:=yh h;simp only[bZ]at g;obtain⟨rfl,rfl⟩:=g;exact j d _ fs m ⟨rfl,(mkD_wt b).symm,.inr (.inr (.inr (.inr ⟨t,f,F,x,b,rfl⟩)))⟩;obtain⟨d,b,h⟩:=yc h;obtain⟨⟨fs,s⟩,m,g⟩:=yh h;simp only[bZ]at g;obtain⟨rfl,rfl⟩:=g;obtain⟨K,_,u⟩:=yc b;exact j d _ fs m ⟨(jxz d u).symm,rfl,.inr (.inr (.inl ⟨t,f,F,_,x,b,rfl⟩))⟩;rename_i x;split at h;cases h;rename_i w;obtain⟨d,b,h⟩:=yc h;obtain⟨⟨fs,s⟩,m,g⟩:=yh h;simp only[bZ]at g;obtain⟨rfl,rfl⟩:=g;exact j d _ fs m ⟨rfl,rfl,.inl ⟨t,x,by simpa using w,b,rfl,rfl,rfl⟩⟩;rename_i t;obtain⟨⟨fs,s⟩,m,g⟩:=yh h;simp only[bZ]at g;obtain⟨rfl,rfl⟩:=g;exact j _ _ fs m ⟨rfl,rfl,.inr (.inl ⟨t,rfl,rfl⟩)⟩;cases h
structure Ind (f g:FP):Prop where
 oa:∀a∈f.wo,a ∉ g.ro
 ob:∀a∈f.wo,a ∉ g.wo
 oc:∀a∈f.ro,a ∉ g.wo
 ta:∀a∈f.wt,a ∉ g.rt
 tb:∀a∈f.wt,a ∉ g.wt
 tc:∀a∈f.rt,a ∉ g.wt
 al:f.all=true->∀l∈g.wo,f.seen l=false
 ar:g.all=true->f.wo=[]
def Yb {x y:List Nat}(h:QR x y=true):∀a∈x,a ∉ y:=by intro a c d;have:(x.any λa=>y.any λb=>Nat.beq a b)=true:=bD.2 ⟨a,c,bD.2 ⟨a,d,cL a⟩⟩;simp only[QR,this,bN,ah]at h
def jva {f g:FP}(h:W6 f g=true):Ind f g:=by simp only[W6,ab]at h;obtain⟨⟨⟨⟨⟨⟨⟨i,d⟩,l⟩,e⟩,k⟩,b⟩,j⟩,c⟩:=h;refine⟨Yb i,Yb d,Yb l,Yb e,Yb k,Yb b,λa=>?_,λa=>?_⟩;simpa[a] using j;simpa[a] using c
structure Cls (x:AOp) (f:FP):Prop where
 wo:x.wO=false->f.wo=[]\/f.nw=true
 ro:x.rO=false->f.ro=[]
 wt:x.wT=false->f.wt=[]
 rt:x.rT=false->f.rt=[]
 all:x.rA=false->f.all=false
def TrAt.cls {E:Env}{i:Callers}{fb ub ue:Nat}{s:St}{ao:AOpr}{δ:Delta}{m:FP}(h:TrAt E i fb ub ue s ao δ m):Cls ao.op m:=by
 rcases h.run with⟨_,_,_,d,j,n,p⟩|⟨_,_,rfl⟩|⟨_,f,l,o,d,j,rfl⟩|⟨_,f,l,r,t,d,j,n,p,rfl⟩|⟨_,f,l,d,j,rfl⟩;exact⟨λe=>.inl (by rw[h.wo];exact j5x _ e δ d),λc=>by rw[j];exact rO_nil c,λe=>by rw[h.wt];exact j5w _ e δ d,λc=>by rw[n];exact rT_nil c,λ_=>p⟩;exact⟨λ_=>.inl rfl,λ_=>rfl,λ_=>rfl,λ_=>rfl,λ_=>rfl⟩;have k:(∃g a,ao.op=.call g a)\/∃q a,ao.op=.callV q a:=by rcases X7 d with⟨a,b,_⟩|⟨q,a,_,_,b,_⟩;exact .inl ⟨f,a,b⟩;exact .inr ⟨q,a,b⟩
 refine⟨λ_=>.inl rfl,λ_=>rfl,λe=>?_,λ_=>rfl,λc=>?_⟩;rcases k with⟨g,a,b⟩|⟨q,a,b⟩<;>rw[b]at e<;>cases e;rcases k with⟨g,a,b⟩|⟨q,a,b⟩<;>rw[b]at c<;>cases c;have k:(∃g a,ao.op=.call g a)\/∃q a,ao.op=.callV q a:=by rcases X7 d with⟨a,b,_⟩|⟨q,a,_,_,b,_⟩;exact .inl ⟨f,a,b⟩;exact .inr ⟨q,a,b⟩
 refine⟨λ_=>.inr rfl,λ_=>rfl,λ_=>rfl,λ_=>rfl,λc=>?_⟩;rcases k with⟨g,a,b⟩|⟨q,a,b⟩<;>rw[b]at c<;>cases c;exact⟨λ_=>.inr rfl,λ_=>rfl,λ_=>rfl,λ_=>rfl,λ_=>rfl⟩
def NewOf (f g:FP):Prop:=(∀a∈f.wo,a ∉ g.ro)/\(∀a∈f.wo,a ∉ g.wo)/\g.all=false
def ji5 {fs:List FP}(h:jbw fs=true) {i j:Nat}{f g:FP}(hi:fs[i]? = some f) (k:fs[j]? = some g) (d:i≠j) (m:f.nw=true):NewOf f g:=by
 unfold jbw at h;rw[bq]at h;rcases h with h|h;have:=av.1 h f (aH hi);rw[m]at this;cases this;have e:=(aj.1 hi).1;have c:=(aj.1 k).1;have l:=av.1 h i (aM.2 e);simp only[List.getD,hi,cy,m,bN,bQ]at l;have a:=av.1 l j (aM.2 c);have b:Nat.beq i j=false:=by
  cases n:Nat.beq i j with
  |false=>rfl
  |true=>exact zf (bo n) d
 simp only[k,cy,b,bQ,QI,ab,bG]at a;exact⟨Yb a.1.1,Yb a.1.2,a.2⟩
def jxu {x y:AOp}{f g:FP}(i:x.quiet y=true) (t:Cls x f) (w:Cls y g) (k:f.nw=true->NewOf f g) (m:g.nw=true->NewOf g f):Ind f g:=by unfold AOp.quiet at i;simp only[ab,bG,cV,gq]at i;obtain⟨⟨⟨⟨⟨q,u⟩,o⟩,G⟩,I⟩,B⟩:=i;obtain⟨j,z,p,F,v⟩:=t;obtain⟨e,D,r,s,H⟩:=w;refine⟨λa b c=>?_,λa b c=>?_,λa b c=>?_,λa b c=>?_,λa b c=>?_,λa b c=>?_,λb=>?_,λb=>?_⟩;rcases q with h|⟨h,_⟩;rcases j h with d|d;rw[d]at b;cases b;exact(k d).1 a b c;rw[D h]at c;cases c;rcases q with h|⟨_,h⟩;rcases j h with d|d;rw[d]at b;cases b;exact(k d).2.1 a b c;rcases e h with d|d;rw[d]at c;cases c;exact(m d).2.1 a c b;rcases u with h|h;rcases e h with d|d;rw[d]at c;cases c;exact(m d).1 a c b;rw[z h]at b;cases b;rcases o with h|⟨h,_⟩;rw[p h]at b;cases b;rw[s h]at c;cases c;rcases o with h|⟨_,h⟩;rw[p h]at b;cases b;rw[r h]at c;cases c;rcases G with h|h;rw[r h]at c;cases c;rw[F h]at b;cases b;rcases I with h|⟨h,d⟩;rw[v h]at b;cases b;intro l n;rcases e h with h''|h'';rw[h'']at n;cases n;rw[(m h'').2.2]at b;cases b;rcases B with h|⟨h,d⟩;rw[H h]at b;cases b;rcases j h with h''|h'';exact h'';rw[(k h'').2.2]at b;cases b
structure Apart (x y:AOpr):Prop where
 a:∀d,x.dst=some d->d ∉ y.looks
 b:∀d,x.dst=some d->y.dst≠some d
 c:∀d,y.dst=some d->d ∉ x.looks
def jqk {l:List Nat}{d:Nat}(h:(l.any λt=>Nat.beq t d)=false):d ∉ l:=by intro a;have:(l.any λt=>Nat.beq t d)=true:=bD.2 ⟨d,a,cL d⟩;rw[h]at this;cases this
def jvw {x y:AOpr}(h:x.apart y=true):Apart x y:=by unfold AOpr.apart at h;simp only[ab]at h;obtain⟨b,c⟩:=h;refine⟨λd a=>?_,λd a e=>?_,λd a=>?_⟩;simp only[a,ab,bG]at b;exact jqk b.1;simp only[a,e,ab,bG]at b;rw[cL]at b;cases b.2;simp only[a,bG]at c;exact jqk c
def YL {ops:Array Oper}{a:List AOpr}{free:List (Nat×Nat)}(h:Ya ops a=some free) (c:a.length=ops.size) :
 (∀j o,ops[j]? = some o->∀e∈o.after,Region.binds .any e=true->e.on<j) /\
 (∀i j x y,i<j->a[i]? = some x->a[j]? = some y->((JH ops.toList []).getD j 0).testBit i=false->Apart x y/\(x.op.quiet y.op=true\/(i,j)∈free)):=by
 unfold Ya at h;simp only[aC,ab,ae]at h;obtain⟨⟨t,n⟩,rfl⟩:=h;refine⟨λj o k e s q=>?_,λi j x y f l d p=>?_⟩;have g:j<a.length:=by rw[c];exact(aO.1 k).1
 have:=av.1 t j (aM.2 g);simp only[k,gZ]at this;have:=this e s;simp only[q,bN,bQ]at this;simpa[dk] using this;have g:j<a.length:=(aj.1 d).1;have b:(i,j)∈(List.range a.length).flatMap λj=>((List.range j).filter λi=>!((JH ops.toList []).getD j 0).testBit i).map λi=>(i,j) :=
  ci.2 ⟨j,aM.2 g,aE.2 ⟨i,bu.2 ⟨aM.2 f,by rw[p];rfl⟩,rfl⟩⟩
 have m:=av.1 n _ b;simp only[l,d]at m;refine⟨jvw m,?_⟩;cases r:x.op.quiet y.op with
 |true=>exact .inl rfl
 |false=>exact .inr (bu.2 ⟨b,by simp only[l,d,r,cp]⟩)
section
variable {P:Program}{E:Env}{w0 w:World}{I0:IMap}{nt:Nat}{γ:Nat->Option Place}{I:IMap}{st:St}{a:Act}{ub:Nat}{call:Callers}{ops:Array Oper}{als:List AOpr}
 {effs:List Eff}{fps:List FP}{free:List (Nat×Nat)}
def R.drawn (h:R E w0 I0 nt γ I st a w) (n:Nat):R E w0 I0 nt γ I st a { w with drawn:=n } :=
 ⟨h.sz,h.df,h.tm,⟨h.imm,h.gl,(let ⟨Ω,ho⟩:=h.own;⟨Ω,⟨ho.ob,ho.tk,ho.lt⟩⟩),⟨h.fr.os,h.fr.tape,h.fr.output,h.fr.size,h.fr.block⟩,h.old⟩⟩
def jev (ops:Array Oper) (D:Nat->Bool):Prop:=∀j o,ops[j]? = some o->D j=true->∀e∈o.after,Region.binds .any e=true->D e.on=true
def jju {D:Nat->Bool}(b:∀j o,ops[j]? = some o->∀e∈o.after,Region.binds .any e=true->e.on<j) (s:jev ops D) :
 ∀(n j i:Nat),j<=n->j<ops.size->((JH ops.toList []).getD j 0).testBit i=true->D j=true->D i=true:=by
 intro n;induction n with
 |zero=>intro j i q d l m;have f:=aA d;obtain⟨e,k,c,_⟩:=jpn f l;have:=b j _ f e k c;omega
 |succ n r=>intro j i q d l m;have f:=aA d;obtain⟨e,k,c,h⟩:=jpn f l;have p:=b j _ f e k c;have g:=s j _ f m e k c;rcases h with rfl|h;exact g;exact r e.on i zO zO h g
def Yx {D:Nat->Bool}(b:∀j o,ops[j]? = some o->∀e∈o.after,Region.binds .any e=true->e.on<j) (n:jev ops D) {j i:Nat}{o:Oper}(d:ops[j]? = some o)
 (g:∀e∈o.after,Region.binds .any e=true->D e.on=true) (m:((JH ops.toList []).getD j 0).testBit i=true):D i=true:=by
 obtain⟨e,f,c,h⟩:=jpn d m;have l:=(aO.1 d).1;have k:=b j _ d e f c;rcases h with rfl|h;exact g e f c;exact jju b n e.on e.on i zK zO h (g e f c)
def Y8 {s s':St}{ao:AOpr}(h:∀t∈ao.looks,s.tm t=s'.tm t):∀x∈ao.op.opds,ye E s.tm x=ye E s'.tm x :=
 λx c=>jvh λt b=>h t (cG _ (ci.2 ⟨x,c,b⟩))
def XF {s s':St}{ao:AOpr}(h:∀t∈ao.looks,s.tm t=s'.tm t):yJ ao s.tm=yJ ao s'.tm:=by
 unfold yJ;cases c:ao.guard with
 |none=>rfl
 |some g=>obtain⟨t,b⟩:=g;simp only[];rw[h t (bU _ (by simp[c]))]
def juq (x:AOpr):Apart jgk x:=⟨λ_ h=>(by cases h),λ_ h=>(by cases h),λ_ _ h=>by simp[jgk,AOpr.looks,AOp.opds,A.tmps]at h⟩
def Ind.nil (f:FP):Ind {} f:=⟨λ_ h=>(by cases h),λ_ h=>(by cases h),λ_ h=>(by cases h),λ_ h=>(by cases h),λ_ h=>(by cases h),λ_ h=>(by cases h),λh=>(by cases h),λ_=>rfl⟩
def jhs {al':List AOpr}{sp:Nat->Bool}{bb:Bool}{m:Bool}{rn:Option Nat}{γ0:Nat->Option Place}{Iy:IMap}{Q:Exit->Act->World->Prop}{kk:Nat}(k0:kk<=als.length)
 (h5:al'.length=kk) (i1:∀i D,i<kk->sp i=false->als[i]? = some D->al'[i]? = some D) (g8:∀i,i<kk->sp i=true->effs[i]? = some (none,{ v:=js }))
 (f2:∀j,kk<=j->j<ops.size->∀i,i<kk->((JH ops.toList []).getD j 0).testBit i=true)
 (d4:COk P E γ0 Iy call) (g1:ops.toList.mapM (Jf P m ops)=some als) (e2:Ya ops als=some free)
 (e0:Trace E call st ub al' effs fps) (h8:Jc free fps=true) (f4:jbw fps=true) (f1:∀D∈als,∀d,D.dst=some d->d<nt)
 (g9:∀i (q:Nat) (n:Array Bool) (B:Nat->Option Place) (I1:IMap) (a:Act) (w:World),sp i=true->i<kk->n.size=ops.size->jev ops (λi=>n.getD i false)->(∀j,kk<=j->n.getD j false=false)->(∀j,sp j=true->n.getD j false=bb) ->
  n.toList.count false<=q+1->R E w0 I0 nt B I1 (jS (λi=>n.getD i false) effs st) a w->(∀u,ub+64*kk<=u->B u=none) ->
  (∀u p,γ u=some p->B u=some p)->(∀b o x,I b o=some x->I1 b o=some x)->i∈Region.ready .any ops n ->
  wpOpIn (FW rn) 0 P ops Q i (wpAnyIn (FW rn) 0 P .any ops Q q (n.setIfInBounds i true)) a w)
 (hK:∀G I' a' w' (q:Nat) (n:Array Bool),n.size=ops.size->(∀i,n.getD i false=decide (i<kk))->(∀j,sp j=true->n.getD j false=bb)->n.toList.count false<=q ->
  R E w0 I0 nt G I' (jS (λ_=>true) effs st) a' w'->(∀u,ub+64*kk<=u->G u=none)->(∀u p,γ u=some p->G u=some p) ->
  (∀b o x,I b o=some x->I' b o=some x)->wpAnyIn (FW rn) 0 P .any ops Q q n a' w') :
 ∀(q:Nat) (n:Array Bool) (B:Nat->Option Place) (I1:IMap) (a:Act) (w:World),n.size=ops.size->jev ops (λi=>n.getD i false)->(∀j,kk<=j->n.getD j false=false)->(∀j,sp j=true->n.getD j false=bb)->n.toList.count false<=q ->
  R E w0 I0 nt B I1 (jS (λi=>n.getD i false) effs st) a w->(∀u,ub+64*kk<=u->B u=none) ->
  (∀j,n.getD j true=false->∀u,ub+64*j<=u->u<ub+64*j+64->B u=none)->(∀u p,γ u=some p->B u=some p)->(∀b o x,I b o=some x->I1 b o=some x) ->
  wpAnyIn (FW rn) 0 P .any ops Q q n a w:=by
 obtain⟨d2,f7⟩:=JA g1
 have d2:als.length=ops.size:=by rw[d2,aL]
 obtain⟨b9,c0⟩:=YL e2 d2
 have g2:effs.length=kk:=by rw[e0.len,h5]
 have j1:kk<=ops.size:=zO
 have g6:∀{i D},i<kk->sp i=false->als[i]? = some D->al'[i]? = some D:=λhi hs h=>i1 _ _ hi hs h
 -- two that no edge orders touch nothing of each other
 have d8:∀i j x y f9 fi f6 fj,i<j->als[i]? = some x->als[j]? = some y->((JH ops.toList []).getD j 0).testBit i=false ->
  fps[i]? = some fi->fps[j]? = some fj->(∃s u v,TrAt E call st.fb u v s x f9 fi)->(∃s u v,TrAt E call st.fb u v s y f6 fj)->Ind fi fj:=by
  intro i j x y f9 fi f6 fj i4 hx hy ht e7 e4 ⟨s1,u1,v1,t1⟩ ⟨s2,u2,v2,t2⟩
  rcases(c0 i j x y i4 hx hy ht).2 with hq|hm
  ·exact jxu hq t1.cls t2.cls (λh=>ji5 f4 e7 e4 zO h) (λh=>ji5 f4 e4 e7 zO h)
  ·have:=av.1 h8 _ hm
   simp only[List.getD,e7,e4,cy]at this
   exact jva this
 have c1:∀(n:Array Bool) (i:Nat),i<n.size->n.getD i true=n.getD i false:=by
  intro n i hi
  simp[hi]
 have Z:∀n:Array Bool,n.size=ops.size->(∀i,i<kk->i ∉ Region.ready .any ops n)->∀j,j<kk->n.getD j false=true:=by
  intro n U hr j
  induction j using Nat.strongRecOn with
  |_ j ih=>
   intro hj
   cases hd:n.getD j false with
   |true=>rfl
   |false=>
    have:j∈Region.ready .any ops n:=mem_ready.2 ⟨by rw[c1 n j zO];exact hd,ops[j],aA zO,λe he hb=>by
     have:=b9 j _ (aA zO) e he hb
     exact ih e.on this zO⟩
    exact zf this (hr j hj)
 have done:∀(q:Nat) (n:Array Bool) (B:Nat->Option Place) (I1:IMap) (a:Act) (w:World),n.size=ops.size->(∀j,kk<=j->n.getD j false=false)->(∀j,sp j=true->n.getD j false=bb)->n.toList.count false<=q->(∀j,j<kk->n.getD j false=true) ->
  R E w0 I0 nt B I1 (jS (λi=>n.getD i false) effs st) a w->(∀u,ub+64*kk<=u->B u=none)->(∀u p,γ u=some p->B u=some p)->(∀b o x,I b o=some x->I1 b o=some x)->wpAnyIn (FW rn) 0 P .any ops Q q n a w:=by
  intro q n B I1 a w U K b0 b5 F hR c3 hg hI
  have same:∀{β:Type}{π:St->β}{wr:Eff->Bool}{g:Eff->β},(∀(s:St) (e:Eff),π (s.app e.1 e.2)=if wr e then g e else π s) ->
   π (jS (λ_=>true) effs st)=π (jS (λi=>n.getD i false) effs st):=λd5=>
   XV d5 effs _ _ _ _ (λi e he _=>(F i (by rw[<- g2];exact(aj.1 he).1)).symm) rfl
  refine hK B I1 a w q n U (λi=>?_) b0 b5 (hR.congr (funext λt=>same (π:=λs=>s.tm t) (wr:=wrT t) (g:=λe=>e.2.v) (jb8 t)) (funext λl=>same (π:=λs=>s.ob l) (wr:=wrO l) (g:=λe=>Ji (λ_=>none) e.2.obs l) (jel l)) (funext λu=>same (π:=λs=>s.tk u) (wr:=wrK u) (g:=λe=>e.2.add.contains u) (jh8 u)) ((JG effs _ st).2.2.1.trans (JG effs _ st).2.2.1.symm) ((JG effs _ st).2.2.2.trans (JG effs _ st).2.2.2.symm)) c3 hg hI
  by_cases hi:i<kk
  ·rw[F i hi,zi hi]
  ·rw[K i zO,decide_eq_false hi]
 intro q
 induction q with
 |zero=>
  intro n B I1 a w U c9 c2 b0 b5 hR c3 b7 hg hI
  refine done 0 n B I1 a w U c2 b0 b5 (Z n U λi _ hi=>?_) hR c3 hg hI
  obtain⟨h0,o,ho,_⟩:=mem_ready.1 hi
  have c7:i<n.size:=by rw[U];exact(aO.1 ho).1
  have f8:false∈n.toList:=by
   have:n[i]? = some false:=by
    simp only[dh,aA c7,cy]at h0
    rw[aA c7,h0]
   exact dg.2 (eQ this)
  have:=eF.2 f8
  omega
 |succ q ih=>
  intro n B I1 a w U c9 c2 b0 b5 hR c3 b7 hg hI
  by_cases F:∀j,j<kk->n.getD j false=true
  ·exact done (q+1) n B I1 a w U c2 b0 b5 F hR c3 hg hI
  refine⟨λhr=>zf (Z n U λi _ hi=>by rw[hr]at hi;cases hi) F,λi hi=>?_⟩
  obtain⟨h0,o,ho,e6⟩:=mem_ready.1 hi
  have i2:i<ops.size:=(aO.1 ho).1
  have h4:i<kk:=by
   rcases cD i kk with h|h
   ·exact h
   ·exact zf (λj hj=>Yx b9 c9 ho e6 (f2 i h i2 j hj)) F
  cases d9:sp i with
  |true=>exact g9 i q n B I1 a w d9 h4 U c9 c2 b0 b5 hR c3 hg hI hi
  |false=>
  have c8:i<n.size:=zO
  have b8:n.getD i false=false:=by rw[<- c1 n i c8];exact h0
  have i0:i<als.length:=zO
  have c4:=aa i0
  generalize als[i]=D at c4
  have N:Jf P m ops o=some D:=f7 i o D (by rw[br];exact ho) c4
  obtain⟨δ,fp,he,g0,ht⟩:=e0.at' i D (g6 h4 d9 c4)
  obtain⟨hd1,S⟩:=Xh N
  -- what no edge orders with it
  have H:∀k e,effs[k]? = some e->k≠i->(n.getD k false=decide (k<i))\/(∃y fk,e.1=y.dst/\fk.wo=e.2.wo/\fk.wt=e.2.wt/\((Apart y D/\Ind fk fp)\/(Apart D y/\Ind fp fk))):=by
   intro k e T h6
   have f0:k<kk:=by rw[<- g2];exact(aj.1 T).1
   have h7:k<als.length:=zO
   have hy:=aa h7
   generalize als[k]=y at hy
   cases e8:sp k with
   |true=>
    have:=g8 k f0 e8
    rw[T]at this
    cases this
    exact .inr ⟨jgk,{},rfl,rfl,rfl,.inl ⟨juq _,Ind.nil _⟩⟩
   |false=>
   obtain⟨f5,fk,O,g3,b6⟩:=e0.at' k y (g6 f0 e8 hy)
   rw[T]at O
   cases O
   rcases Nat.lt_or_gt_of_ne h6 with c7|hgt
   ·cases c5:((JH ops.toList []).getD i 0).testBit k with
    |true=>
     refine .inl ?_
     rw[zi c7]
     exact Yx b9 c9 ho e6 c5
    |false=>exact .inr ⟨y,fk,rfl,b6.wo,b6.wt,.inl ⟨(c0 k i y D c7 hy c4 c5).1,d8 k i y D f5 fk δ fp c7 hy c4 c5 g3 g0 ⟨_,_,_,b6⟩ ⟨_,_,_,ht⟩⟩⟩
   ·cases c5:((JH ops.toList []).getD k 0).testBit i with
    |true=>
     refine .inl ?_
     rw[decide_eq_false zO]
     cases X:n.getD k false with
     |false=>rfl
     |true=>
      have:=jju b9 c9 k k i zK zO c5 X
      rw[b8]at this
      cases this
    |false=>exact .inr ⟨y,fk,rfl,b6.wo,b6.wt,.inr ⟨(c0 i k D y hgt c4 hy c5).1,d8 i k D y δ fp f5 fk hgt c4 hy c5 g0 g3 ⟨_,_,_,ht⟩ ⟨_,_,_,b6⟩⟩⟩
  have r:∀t∈D.looks,(jS (λi=>n.getD i false) effs st).tm t=(jS (λk=>decide (k<i)) effs st).tm t:=by
   intro t g7
   refine XV (π:=λs=>s.tm t) (wr:=wrT t) (g:=λe=>e.2.v) (jb8 t) effs _ _ _ _ (λk e T z=>?_) rfl
   by_cases L:k=i
   ·subst L;rw[b8];simp
   ·rcases H k e T L with h|⟨y,fk,h1,_,_,h|h⟩
    ·exact h
    ·simp only[wrT,ze]at z
     exact zf g7 (h.1.a t (h1▸z))
    ·simp only[wrT,ze]at z
     exact zf g7 (h.1.c t (h1▸z))
  have i5:∀l∈fp.ro,(jS (λi=>n.getD i false) effs st).ob l=(jS (λk=>decide (k<i)) effs st).ob l:=by
   intro l hl
   refine XV (π:=λs=>s.ob l) (wr:=wrO l) (g:=λe=>Ji (λ_=>none) e.2.obs l) (jel l) effs _ _ _ _ (λk e T z=>?_) rfl
   by_cases L:k=i
   ·subst L;rw[b8];simp
   ·simp only[wrO,bx]at z
    rcases H k e T L with h|⟨y,fk,_,J,_,h|h⟩
    ·exact h
    ·exact zf hl (h.2.oa l (J▸z))
    ·exact zf (J▸z) (h.2.oc l hl)
  have h9:∀u∈fp.rt,(jS (λi=>n.getD i false) effs st).tk u=(jS (λk=>decide (k<i)) effs st).tk u:=by
   intro u hu
   refine XV (π:=λs=>s.tk u) (wr:=wrK u) (g:=λe=>e.2.add.contains u) (jh8 u) effs _ _ _ _ (λk e T z=>?_) rfl
   by_cases L:k=i
   ·subst L;rw[b8];simp
   ·simp only[wrK,bx]at z
    rcases H k e T L with h|⟨y,fk,_,_,J,h|h⟩
    ·exact h
    ·exact zf hu (h.2.ta u (J▸z))
    ·exact zf (J▸z) (h.2.tc u hu)
  -- what is there when it has come about too
  have c6:∀k,k≠i->(n.setIfInBounds i true).getD k false=n.getD k false:=λk T=>getD_set_ne false (dA T)
  have e5:(n.setIfInBounds i true).getD i false=true:=by simp[c8]
  have K:∀k e,i<k->effs[k]? = some e->n.getD k false=true->∃y fk,e.1=y.dst/\fk.wo=e.2.wo/\fk.wt=e.2.wt/\((Apart y D/\Ind fk fp)\/(Apart D y/\Ind fp fk)):=by
   intro k e T O X
   rcases H k e O zO with h|h
   ·rw[X,decide_eq_false zO]at h;cases h
   ·exact h
  have d3:∀{β:Type}{π:St->β}{wr:Eff->Bool}{g:Eff->β},(∀(s:St) (e:Eff),π (s.app e.1 e.2)=if wr e then g e else π s) ->
   (∀k e,i<k->effs[k]? = some e->n.getD k false=true->wr (D.dst,δ)=true->wr e=false) ->
   π (jS (λk=>(n.setIfInBounds i true).getD k false) effs st)=π ((jS (λi=>n.getD i false) effs st).app D.dst δ):=by
   intro β π wr g d5 i3
   rw[jfa d5 effs (λi=>n.getD i false) _ st i (D.dst,δ) he b8 e5 c6 (λk e' T O X z=>i3 k e' T O X z)]
   exact(d5 _ (D.dst,δ)).symm
  have a0:∀G I' a' w',R E w0 I0 nt G I' ((jS (λi=>n.getD i false) effs st).app D.dst δ) a' w'->(∀u,¬(ub+64*i<=u/\u<ub+64*i+64)->G u=B u) ->
   (∀u p,B u=some p->G u=some p)->(∀b o x,I1 b o=some x->I' b o=some x)->wpAnyIn (FW rn) 0 P .any ops Q q (n.setIfInBounds i true) a' w':=by
   intro G I' a' w' M d7 hm i8
   refine ih (n.setIfInBounds i true) G I' a' w' (by simpa using U) ?_ (λj hj=>by rw[c6 j zO];exact c2 j hj) (λj hj=>by rw[c6 j (λe=>by subst e;rw[d9]at hj;cases hj)];exact b0 j hj) ?_ (M.congr (funext λt=>d3 (π:=λs=>s.tm t) (wr:=wrT t) (g:=λe=>e.2.v) (jb8 t) ?_) (funext λl=>d3 (π:=λs=>s.ob l) (wr:=wrO l) (g:=λe=>Ji (λ_=>none) e.2.obs l) (jel l) ?_) (funext λu=>d3 (π:=λs=>s.tk u) (wr:=wrK u) (g:=λe=>e.2.add.contains u) (jh8 u) ?_) ((JG effs _ st).2.2.1.trans (JG effs _ st).2.2.1.symm) ((JG effs _ st).2.2.2.trans (JG effs _ st).2.2.2.symm)) ?_ ?_
    (λu p h=>hm u p (hg u p h)) (λb o x h=>i8 b o x (hI b o x h))
   ·intro j oj e3 g4 e' f3 hb
    by_cases d6:j=i
    ·subst d6
     rw[ho]at e3
     cases e3
     exact getD_set_true (e6 e' f3 hb)
    ·simp only[c6 j d6]at g4
     exact getD_set_true (c9 j oj e3 g4 e' f3 hb)
   ·have hg:n.toList[i]? = some false:=by
     rw[br,aA c8]
     simp only[dh,aA c8,cy]at b8
     rw[b8]
    have g5:i<n.toList.length:=by simpa using c8
    rw[ep,ft g5]
    rw[aa g5]at hg
    simp only[ae]at hg
    rw[hg]
    simp only[beq_self_eq_true,zd]
    have:(true==false)=false:=rfl
    rw[this]
    simp only[ah,zc]
    omega
   ·intro k e T O X z
    obtain⟨y,fk,h1,_,_,h|h⟩:=K k e T O X
    ·simp only[wrT,ze]at z
     simp only[wrT,decide_eq_false_iff_not]
     intro e1
     exact h.1.b t (h1▸e1) z
    ·simp only[wrT,ze]at z
     simp only[wrT,decide_eq_false_iff_not]
     intro e1
     exact h.1.b t z (h1▸e1)
   ·intro k e T O X z
    obtain⟨y,fk,_,J,_,h⟩:=K k e T O X
    simp only[wrO,bx]at z
    have:l ∉ e.2.wo:=by
     rw[<- J]
     rcases h with h|h
     ·exact λhm=>h.2.ob l hm (by rw[ht.wo];exact z)
     ·exact h.2.ob l (by rw[ht.wo];exact z)
    simp only[wrO]
    simpa using this
   ·intro k e T O X z
    obtain⟨y,fk,_,_,J,h⟩:=K k e T O X
    simp only[wrK,bx]at z
    have:u ∉ e.2.wt:=by
     rw[<- J]
     rcases h with h|h
     ·exact λhm=>h.2.tb u hm (by rw[ht.wt];exact z)
     ·exact h.2.tb u (by rw[ht.wt];exact z)
    simp only[wrK]
    simpa using this
   ·intro u hu
    rw[d7 u zO]
    exact c3 u hu
   ·intro j hj u h1 J
    have d6:j≠i:=by
     intro e
     subst e
     simp[c8]at hj
    rw[getD_set_ne true (dA d6)]at hj
    rw[d7 u zO]
    exact b7 j hj u h1 J
  have d0:∀d,o.dst=some d->d<nt:=by rw[<- hd1];exact f1 D (aH c4)
  have i6:=JG effs (λi=>n.getD i false) st
  have e9:=JG effs (λk=>decide (k<i)) st
  unfold wpOpIn
  simp only[ho]
  rcases ht.run with⟨r1,r2,i9,r3,r4,r5,r6⟩|⟨r1,r2,r3⟩|⟨r1,f,xs,j2,r2,r3,r4⟩|⟨r1,f,xs,a1,rv,r2,r3,r5,r6,r4⟩|⟨r1,f,xs,r2,r3,r4⟩
  ·have z:yJ D (jS (λi=>n.getD i false) effs st).tm=some true:=by rw[XF r];exact r1
   rw[zb (YP hR N z)]
   have S:Jy P m o=some D.op:=S.resolve_right λh=>by
    rw[h]at r3
    cases r3
   have hr:=rd_eq D.op (Y8 (E:=E) r)
   have i7:yS call.d (ye E (jS (λi=>n.getD i false) effs st).tm) (jS (λi=>n.getD i false) effs st).ob (jS (λi=>n.getD i false) effs st).tk (jS (λi=>n.getD i false) effs st).ro (D.name st.fb (ub+64*i)) (ub+64*i) D.op=some δ:=by
    rw[jhr D.op i9 (Y8 (E:=E) r) (λl hl=>i5 l (by rw[r4,<- hr.1];exact hl)) (λu hu=>h9 u (by rw[r5,<- hr.2];exact hu)),i6.2.2.1,<- e9.2.2.1]
    exact r3
   refine jlj d4 hR (λu h1 J=>b7 i h0 u h1 J) S d0 i7 (λG I' a' w' M h1 J h3=>?_)
   rw[<- hd1]at M
   exact a0 G I' a' w' M h1 J h3
  ·have z:yJ D (jS (λi=>n.getD i false) effs st).tm=some false:=by rw[XF r];exact r1
   rw[za (by rw[YP hR N z];exact Bool.false_ne_true)]
   refine⟨λ_ _=>trivial,?_⟩
   have:=jxt hR d0
   rw[<- hd1]
   refine a0 B I1 _ _ ?_ (λ_ _=>rfl) (λ_ _ h=>h) (λ_ _ _ h=>h)
   rw[r2]
   rw[<- hd1]at this
   exact this
  ·have z:yJ D (jS (λi=>n.getD i false) effs st).tm=some true:=by rw[XF r];exact r1
   rw[zb (YP hR N z)]
   have S:Jy P m o=some D.op:=S.resolve_right λh=>by
    rw[h]at r2
    cases r2
   have F:fp.all=true:=by rw[r4]
   have d1:∀l x,(jS (λk=>decide (k<i)) effs st).ob l=some x->(jS (λi=>n.getD i false) effs st).ob l=some x:=by
    intro l x hl
    rw[<- hl]
    refine(XV (π:=λs=>s.ob l) (wr:=wrO l) (g:=λe=>Ji (λ_=>none) e.2.obs l) (jel l) effs _ _ _ _ (λk e T z=>?_) rfl)
    by_cases L:k=i
    ·subst L;rw[b8];simp
    ·simp only[wrO,bx]at z
     rcases H k e T L with h|⟨y,fk,_,J,_,h|h⟩
     ·exact h
     ·rw[<- J,h.2.ar F]at z;cases z
     ·have:=h.2.al F l (by rw[J];exact z)
      rw[r4]at this
      simp only[hl,Option.isSome_some,eG]at this
   refine j6b d4 hR (ub:=ub+64*i) (uo:=ub+64*al'.length) (λu h1 J=>b7 i h0 u h1 J) S d0 (by rw[WM D.op (Y8 (E:=E) r)];exact r2) d1 (by rw[h5];exact c3) r3 (λG I' a' w' M h1 J h3=>?_)
   rw[<- hd1]at M
   exact a0 G I' a' w' M h1 J h3
  ·have z:yJ D (jS (λi=>n.getD i false) effs st).tm=some true:=by rw[XF r];exact r1
   rw[zb (YP hR N z)]
   have S:Jy P m o=some D.op:=S.resolve_right λh=>by
    rw[h]at r2
    cases r2
   have F:fp.all=true:=by rw[r4]
   have d1:∀l x,(jS (λk=>decide (k<i)) effs st).ob l=some x->(jS (λi=>n.getD i false) effs st).ob l=some x:=by
    intro l x hl
    rw[<- hl]
    refine(XV (π:=λs=>s.ob l) (wr:=wrO l) (g:=λe=>Ji (λ_=>none) e.2.obs l) (jel l) effs _ _ _ _ (λk e T z=>?_) rfl)
    by_cases L:k=i
    ·subst L;rw[b8];simp
    ·simp only[wrO,bx]at z
     rcases H k e T L with h|⟨y,fk,_,J,_,h|h⟩
     ·exact h
     ·rw[<- J,h.2.ar F]at z;cases z
     ·have:=h.2.al F l (by rw[J];exact z)
      rw[r4]at this
      simp only[hl,Option.isSome_some,eG]at this
   refine own_ok d4 hR (ub:=ub+64*i) (λu h1 J=>b7 i h0 u h1 J) S d0 (by rw[WM D.op (Y8 (E:=E) r)];exact r2) d1 r3 r5 r6 (λG I' a' w' M h1 J h3=>?_)
   rw[<- hd1]at M
   exact a0 G I' a' w' M h1 J h3
  ·have z:yJ D (jS (λi=>n.getD i false) effs st).tm=some true:=by rw[XF r];exact r1
   rw[zb (YP hR N z)]
   have S:Jy P m o=some D.op:=S.resolve_right λh=>by
    rw[h]at r2
    cases r2
   refine mk_ok d4 hR (ub:=ub+64*i) (λu h1 J=>b7 i h0 u h1 J) S d0 (by rw[WM D.op (Y8 (E:=E) r)];exact r2) r3 (λG I' a' w' M h1 J h3=>?_)
   rw[<- hd1]at M
   exact a0 G I' a' w' M h1 J h3
def any_ok {m:Bool}{rn:Option Nat}{γ0:Nat->Option Place}{Iy:IMap}{Q:Exit->Act->World->Prop}(L:COk P E γ0 Iy call) (n:ops.toList.mapM (Jf P m ops)=some als) (s:Ya ops als=some free)
 (S:Trace E call st ub als effs fps) (U:Jc free fps=true) (O:jbw fps=true) (v:∀ao∈als,∀d,ao.dst=some d->d<nt)
 (hK:∀k G F B,R E w0 I0 nt k G (jS (λ_=>true) effs st) F B->(∀u,ub+64*als.length<=u->k u=none)->(∀u p,γ u=some p->k u=some p) ->
  (∀b o x,I b o=some x->G b o=some x)->Q .normal F B) :
 ∀(e:Nat) (c:Array Bool) (f:Nat->Option Place) (D:IMap) (a:Act) (w:World),c.size=ops.size->jev ops (λi=>c.getD i false)->c.toList.count false<=e ->
  R E w0 I0 nt f D (jS (λi=>c.getD i false) effs st) a w->(∀u,ub+64*als.length<=u->f u=none) ->
  (∀j,c.getD j true=false->∀u,ub+64*j<=u->u<ub+64*j+64->f u=none)->(∀u p,γ u=some p->f u=some p)->(∀b o x,I b o=some x->D b o=some x) ->
  wpAnyIn (FW rn) 0 P .any ops Q e c a w:=by
 obtain⟨q,a0⟩:=JA n;have q:als.length=ops.size:=by rw[q,aL]
 have g:∀(c:Array Bool) (i:Nat),i<c.size->c.getD i true=c.getD i false:=by intro c i t;simp[t]
 intro e c f D a w z X l hR J y hg hI;refine jhs (bb:=false) (kk:=als.length) (al':=als) (sp:=λ_=>false) zK rfl (λ_ _ _ _ h=>h) (λ_ _ h=>by cases h) (λj h1 h2=>by omega) L n s S U O v (λ_ _ _ _ _ _ _ h=>by cases h) (λk G F B e c z hm _ l N M K T=>?_) e c f D a w z X
  (λj hj=>by simp[show ¬j<c.size by omega]) (λ_ h=>by cases h) l hR J y hg hI
 have H:Region.ready .any ops c=[]:=by
  cases H:Region.ready .any ops c with
  |nil=>rfl
  |cons i r=>
   have t:i∈Region.ready .any ops c:=by rw[H];exact aK ..
   obtain⟨Z,o,ho,_⟩:=mem_ready.1 t;have b0:i<ops.size:=(aO.1 ho).1;rw[g c i zO,hm i,zi zO]at Z;cases Z
 have hQ:=hK k G F B N M K T;cases e with
 |zero=>exact⟨H,hQ⟩
 |succ e=>exact⟨λ_=>hQ,λi t=>by rw[H]at t;cases t⟩
def jl9 {m:Bool}{rn:Option Nat}{γ0:Nat->Option Place}{Iy:IMap}{Q:Exit->Act->World->Prop}{kk:Nat}
 (X:∀j,kk<=j->j<ops.size->∀i,i<j->((JH ops.toList []).getD j 0).testBit i=true)
 (c6:COk P E γ0 Iy call) (S:ops.toList.mapM (Jf P m ops)=some als) (K:Ya ops als=some free) (T:∀U∈als,∀d,U.dst=some d->d<nt) :
 ∀(n j:Nat),kk<=j->j+n=ops.size->∀(c:Nat) (b:Array Bool) (γ:Nat->Option Place) (I:IMap) (st:St) (a:Act) (w:World) (ub:Nat) (B:List St),b.size=ops.size->(∀i,b.getD i false=decide (i<j)) ->
  b.toList.count false<=c->SubG γ0 γ->SubI Iy I->R E w0 I0 nt γ I st a w->(∀u,ub<=u->γ u=none)->jkp E call (als.drop j) st ub=some B ->
  (∀v∈B,Nice E w0 I0 nt γ I v v.nx (λa w=>Q .normal a w))->wpAnyIn (FW rn) 0 P .any ops Q c b a w:=by
 obtain⟨s,c3⟩:=JA S;have s:als.length=ops.size:=by rw[s,aL]
 obtain⟨g,c5⟩:=YL K s;have f:∀(b:Array Bool) (i:Nat),i<b.size->b.getD i true=b.getD i false:=by intro b i z;simp[z]
 intro n;induction n with
 |zero=>
  intro j hj c9 c b γ I st a w ub B Z F O J L hR hf G hK;have k:als.drop j=[]:=bM zO;rw[k]at G;simp only[jkp,ae]at G;subst G;have N:Region.ready .any ops b=[]:=by
   cases N:Region.ready .any ops b with
   |nil=>rfl
   |cons i r=>
    have z:i∈Region.ready .any ops b:=by rw[N];exact aK ..
    obtain⟨h0,o,y,_⟩:=mem_ready.1 z;have b7:i<ops.size:=(aO.1 y).1;rw[f b i zO,F i,zi zO]at h0;cases h0
  have hQ:Q .normal a w:=hK _ (ag.2 rfl) γ I a w (hR.congr rfl rfl rfl rfl rfl) hf (λ_ _ h=>h) (λ_ _ _ h=>h);cases c with
  |zero=>exact⟨N,hQ⟩
  |succ c=>exact⟨λ_=>hQ,λi z=>by rw[N]at z;cases z⟩
 |succ n ih=>
  intro j hj c9 c b γ I st a w ub B Z F O J L hR hf G hK;have M:j<ops.size:=zO;have H:j<als.length:=zO;have q:j<b.size:=zO;have d3:jev ops (λi=>b.getD i false):=by intro i o y hd e he hb;simp only[F,ze]at hd ⊢;have:=g i o y e he hb;omega
  have a0:∀i,i∈Region.ready .any ops b->i=j:=by
   intro i z;obtain⟨h0,o,y,d1⟩:=mem_ready.1 z;have b7:i<ops.size:=(aO.1 y).1;rw[f b i zO,F i]at h0;have h1:j<=i:=by simpa using h0
   rcases gC h1 with h|h;have:=Yx (D:=λi=>b.getD i false) g d3 y d1 (X i zO b7 j h);simp only[F,ze]at this;omega;exact h.symm
  have d2:j∈Region.ready .any ops b:=mem_ready.2 ⟨by rw[f b j q,F j];simp,ops[j],aA M,λe he hb=>by
   have:=g j _ (aA M) e he hb;rw[F e.on];exact zi this⟩
  have k:als.drop j=als[j]::als.drop (j+1):=aR H;have c1:=aa H;have p:=au H;rw[k]at G;generalize als[j]=U at G c1 p;have y:=aA M;generalize ops[j]=o at y;have t:Jf P m ops o=some U:=c3 j o U (by rw[br];exact y) c1;have c4:b[j]? = some false:=by have h1:=F j;rw[aA q];simp only[dh,aA q,cy]at h1;rw[h1];simp
  cases c with
  |zero=>have p:false∈b.toList:=dg.2 (eQ c4);have:=eF.2 p;omega
  |succ c=>
  refine⟨(λN=>zf (N▸d2) cZ),λi z=>?_⟩;rw[a0 i z];unfold wpOpIn;simp only[y];simp only[jkp]at G;obtain⟨l,hl,c2⟩:=Jt G;refine jj7 c6 J L hR hf t (by rw[<- (Xh t).1];exact T U p) hl (λx hx=>?_);obtain⟨rx,d0,b6⟩:=c2 x hx;intro d4 I' a' w' c8 c7 c0 b0;refine ih (j+1) zO zO c (b.setIfInBounds j true) d4 I' x.1 a' w' x.2 rx (by simpa using Z) (λi=>?_) ?_ (J.trans c0) (L.trans b0) c8 c7 d0 (λv b5=>(hK v (b6 v b5)).weaken c0 b0);by_cases b9:i=j;subst b9;simp[q];rw[getD_set_ne false (dA b9),F i];exact decide_eq_decide.2 ⟨λh=>by omega,λh=>by omega⟩;have hg:b.toList[j]? = some false:=by rw[br];exact c4
  have b8:j<b.toList.length:=by simpa using q
  rw[ep,ft b8];rw[aa b8]at hg;simp only[ae]at hg;rw[hg];simp only[beq_self_eq_true,zd];have:(true==false)=false:=rfl;rw[this];simp only[ah,zc];omega
end
def le {α:Type}(x y:Option α):Prop:=∀a,x=some a->y=some a
def le.bind {e i:Type}{x y:Option e}{f g:e->Option i}(h:le x y) (j:∀a,le (f a) (g a)):le (x.bind f) (y.bind g):=by
 intro b c;cases d:x with
 |none=>simp[d]at c
 |some a=>rw[h a d];rw[d]at c;exact j a b c
def le.map {e g:Type}{x y:Option e}{f:e->g}(h:le x y):le (x.map f) (y.map f):=by
 intro b c;cases d:x with
 |none=>simp[d]at c
 |some a=>rw[h a d];rw[d]at c;exact c
def le.rfl' {a:Type}(x:Option a):le x x:=λ_ h=>h
def jjx {c b:FuncId->List V->Option V}(h:∀f a,le (c f a) (b f a)) (ub f xs):le (jd9 c ub f xs) (jd9 b ub f xs):=by unfold jd9;split;exact(h f xs).bind λ_=>le.rfl' _;exact le.rfl' _
def jdb {call c:FuncId->List V->Option V}(h:∀f a,le (call f a) (c f a)) (ρ ob tk ro d ub) (o:AOp):le (yS call ρ ob tk ro d ub o) (yS c ρ ob tk ro d ub o):=by
 cases o<;>try exact le.rfl' _
 case call f xs=>exact jjx h _ _ _
 case callV f xs=>simp only[yS];split;exact jjx h _ _ _;exact le.rfl' _
 case range b x=>cases b<;>exact le.rfl' _
def YLe (y y':Y):Prop:=∀l u a ob tk ro ub,le (y l u a ob tk ro ub) (y' l u a ob tk ro ub)
structure CLe (c c':Callers):Prop where
 d:∀f a,le (c.d f a) (c'.d f a)
 o:∀f a ob tk b u,le (c.o f a ob tk b u) (c'.o f a ob tk b u)
 s:∀f a ob tk ro b u,le (c.s f a ob tk ro b u) (c'.s f a ob tk ro b u)
 y:YLe c.y c'.y
def FLe (c c':Y->Callers):Prop:=∀y y',YLe y y'->CLe (c y) (c' y')
def jcb {E:Env}{b a:Callers}(h:CLe b a) (o st ub):le (jec E b o st ub) (jec E a o st ub):=by unfold jec;split;split;exact(h.y _ _ _ _ _ _ _).map;split;split;exact(h.s _ _ _ _ _ _ _).map;exact((h.o _ _ _ _ _ _).bind λ_=>le.rfl' _).map;split;exact le.rfl' _;exact(jdb h.d _ _ _ _ _ _ _).map;exact le.rfl' _;exact le.rfl' _
def jb2 {c b:Type}{f g:c->Option (List b)}(h:∀a,le (f a) (g a)):∀l,le (jbm f l) (jbm g l)
 |[]=>le.rfl' _
 |[x]=>h x
 |x::y::r=>(h x).bind λ_=>(jb2 h (y::r)).map
def ja2 {b c:Type}{x y:Option (List b)}{f g:b->Option (List c)}(d:le x y) (h:∀a,le (f a) (g a)):le (bindL x f) (bindL y g) :=
 d.bind λl=>jb2 h l
def jgj {E:Env}{b a:Callers}(h:CLe b a):∀c e d,le (jkp E b c e d) (jkp E a c e d)
 |[],_,_=>le.rfl' _
 |o::rest,e,d=>ja2 (jcb h o e d) λx=>jgj h rest x.1 x.2
def Jr {E:Env}{b a:Callers}(h:CLe b a):∀c g f,le (Yg E b c g f) (Yg E a c g f)
 |[],_,_=>le.rfl' _
 |o::rest,g,f=>by unfold Yg;split;split;split;split;exact(((le.rfl' _).bind λi=>h.d _ i).bind λ_=>le.rfl' _).bind λe=>(Jr h rest _ _).map;exact(le.rfl' _).bind λe=>(Jr h rest _ _).map;exact((h.o _ _ _ _ _ _).bind λ_=>le.rfl' _).bind λe=>(Jr h rest _ _).map;split;exact le.rfl' _;exact(jdb h.d _ _ _ _ _ _ _).bind λe=>(Jr h rest _ _).map;exact(Jr h rest _ _).map;exact le.rfl' _
def jas {b d:St->Outs}(h:∀a,le (b a) (d a)):∀n m,n<=m->∀a,le (jcs b n a) (jcs d m a)
 |0,_,_,_=>λ_ h=>by simp[jcs]at h
 |n+1,0,hm,_=>by omega
 |n+1,m+1,hm,a=>by simp only[jcs];refine ja2 (h a) λx=>?_;obtain⟨e,c⟩:=x;cases e;exact jas h n m zO c;exact le.rfl' _;exact le.rfl' _
def jf5 {h fb c b:St->Outs}(m:∀st,le (h st) (c st)) (j:∀st,le (fb st) (b st)) (st:St) (ps:List Nat) (l u:Nat):YLe (jbe h fb st ps l u) (jbe c b st ps l u):=by
 intro y x g ob w s v r a;unfold jbe at a ⊢;split at a;case isFalse=>cases a
 rename_i o;rw[zb o];split at a;case h_2=>cases a
 rename_i F q;split at a;case isFalse=>cases a
 rename_i i;simp only[i,zd];split at a;case h_2=>cases a
 rename_i t n;have d:=m _ _ n;simp only[d];split at a;case h_2=>cases a
 rename_i z D;split at a;case isFalse=>cases a
 rename_i k;simp only[k,zd];split at a;case h_2=>cases a
 rename_i e B p;have f:=j _ _ p;simp only[f];exact a
def jx7 {b:Type}{x y:Option (List b)}(h:le x y):le (only x) (only y):=by
 intro r a;cases x with
 |none=>cases a
 |some l=>rw[h l rfl];exact a
def jp {E:Env}{k i:Y->Callers}{n m:Nat}(h:FLe k i) (j:n<=m):∀c y d,YLe y d->∀g,le (jh E k y n c g) (jh E i d m c g)
 | .skip,_,_,_,_=>le.rfl' _
 | .region ops,y,d,hy,g=>by simp only[jh];exact(jgj (h y d hy) ops g g.nx).map
 | .draw ops _,y,d,hy,g=>by simp only[jh];exact(Jr (h y d hy) ops g g.nx).bind λ_=>le.rfl' _
 | .pin o fs,y,d,hy,g=>by simp only[jh];exact ja2 (jcb (h y d hy) o g g.nx) λx=>(Jr (h y d hy) fs x.1 x.2).bind λ_=>le.rfl' _
 | .seq a b,y,d,hy,g=>by simp only[jh];refine ja2 (jp h j a y d hy g) λx=>?_;obtain⟨e,l⟩:=x;cases e;exact jp h j b y d hy l;exact le.rfl' _;exact le.rfl' _
 | .cond c a b,y,d,hy,g=>by simp only[jh];split;exact jp h j a y d hy g;exact jp h j b y d hy g;exact le.rfl' _
 | .block id a,y,d,hy,g=>by simp only[jh];exact(jp h j a y d hy g).map
 | .loop a,y,d,hy,g=>by simp only[jh];exact jas (jp h j a y d hy) n m j g
 | .rangeFunc f ps a b,y,d,hy,g=>by simp only[jh];split;exact(jx7 ((h _ _ (jf5 (jp h j a y d hy) (jp h j b y d hy) _ _ _ _)).s _ _ _ _ _ _ _)).bind λ_=>le.rfl' _;exact le.rfl' _
 | .exit _,_,_,_,_=>le.rfl' _
 | .stuck,_,_,_,_=>le.rfl' _
 | .ret,_,_,_,_=>le.rfl' _
def jms {f:Ex×St->Option V}{x y:Option (List (Ex×St))}(h:le x y):le (j6a f x) (j6a f y):=by
 intro r a;cases x with
 |none=>cases a
 |some l=>rw[h l rfl];exact a
def YLe.refl (y:Y):YLe y y:=λ_ _ _ _ _ _ _=>le.rfl' _
def Jz {E:Env}:∀n m,n<=m->FLe (yK E n) (yK E m)
 |0,0,_=>λy k c=>⟨λ_ _ _ h=>(by cases h),λ_ _ _ _ _ _ _ h=>(by cases h),λ_ _ _ _ _ _ _ _ h=>(by cases h),c⟩
 |0,_+1,_=>λy k c=>⟨λ_ _ _ h=>(by cases h),λ_ _ _ _ _ _ _ h=>(by cases h),λ_ _ _ _ _ _ _ _ h=>(by cases h),c⟩
 |n+1,0,h=>by omega
 |n+1,m+1,h=>by
  intro y k c;have i:=jp (E:=E) (Jz (E:=E) n m zO) (show n<=m by omega);refine⟨λf a=>?_,λf a ob o b u=>?_,λf a ob o p b u=>?_,c⟩;simp only[yK];exact(le.rfl' (E.fc f)).bind λj=>jms (i _ _ _ (YLe.refl _) _);simp only[yK];by_cases e:E.fz f;simp only[e,zd];refine(le.rfl' _).bind λg=>?_;exact((Jz (E:=E) n m zO _ _ (YLe.refl _)).d f g).bind λr=>le.rfl' _;simp only[e,ah,zc];exact(le.rfl' (E.fs f)).bind λj=>jms (i _ _ _ (YLe.refl _) _);simp only[yK];by_cases e:E.tw f;simp only[e,zd];refine(le.rfl' _).bind λg=>?_;exact((Jz (E:=E) n m zO _ _ (YLe.refl _)).d f g).bind λr=>le.rfl' _;simp only[e,ah,zc];cases q:E.srt f with
  |some m=>exact le.rfl' _
  |none=>
  exact(le.rfl' (E.fs f)).bind λj=>(i _ _ _ c _).bind λl=>le.rfl' _
mutual
def jae:∀a b:V,V.eqb a b=true->a=b:=by
 intro a b h;cases a<;>cases b<;>simp only[V.eqb,ab,ze,zh,ah]at h;case sl.sl t nl n cs t' nl' n' cs'=>obtain⟨⟨⟨rfl,rfl⟩,rfl⟩,h⟩:=h;rw[YE cs cs' h]
 case agg.agg cs cs'=>rw[YE cs cs' h]
 case tup.tup cs cs'=>rw[YE cs cs' h]
 case eptr.eptr cs o cs' o'=>obtain⟨h,rfl⟩:=h;rw[YE cs cs' h]
 case fn.fn f a b f' a' b'=>obtain⟨⟨rfl,h⟩,c⟩:=h;rw[YE a a' h,YE b b' c]
 case iface.iface t v t' v'=>obtain⟨rfl,h⟩:=h;rw[jae v v' h]
 all_goals simp_all
def YE:∀a b:List V,V.eqbs a b=true->a=b:=by intro a b h;cases a<;>cases b<;>simp only[V.eqbs,ab,ah]at h;rfl;case cons.cons x l y m=>rw[jae x y h.1,YE l m h.2]
end
mutual
def jfd:∀a:V,V.eqb a a=true:=by
 intro a;cases a<;>simp only[V.eqb,ab,decide_true,beq_self_eq_true,and_self,true_and,and_true];case sl t nl n cs=>exact WA cs
 case agg cs=>exact WA cs
 case tup cs=>exact WA cs
 case eptr cs o=>exact WA cs
 case fn f a b=>exact⟨WA a,WA b⟩
 case iface t v=>exact jfd v
def WA:∀a:List V,V.eqbs a a=true:=by intro a;cases a<;>simp only[V.eqbs,ab];case cons x l=>exact⟨jfd x,WA l⟩
end
def jmr {f:Ex×St->Option V}{x:Option (List (Ex×St))}{r:V}(h:j6a f x=some r):∃l,x=some l/\∀y∈l,f y=some r:=by
 cases x with
 |none=>cases h
 |some l=>
  cases l with
  |nil=>cases h
  |cons y i=>refine⟨_,rfl,?_⟩;simp only[j6a,dU,aC,ae]at h;obtain⟨g,d,c,rfl⟩:=h;intro z b;rcases bt.1 b with rfl|b;exact d;have:=av.1 c z b;split at this;rename_i e a;rw[a,jae _ _ this];cases this
def jkr {f:Ex×St->Option V}{l:List (Ex×St)}{r:V}(a:l≠[]) (h:∀y∈l,f y=some r):j6a f (some l)=some r:=by
 cases l with
 |nil=>exact zf rfl a
 |cons y c=>simp only[j6a,h y (aK ..),ap,aC,av,and_true];intro z b;rw[h z (aS _ b)];exact jfd r
def Ev (E:Env) (f:FuncId) (args:List V) (r:V):Prop:=∃n,(yK E n noY).d f args=some r
def W (E:Env) (c:C) (st:St) (Q:Ex->St->Prop):Prop:=∃n l,jh E (yK E n) noY n c st=some l/\l≠[]/\∀x∈l,Q x.1 x.2
def Ev_of {E:Env}{f:FuncId}{af:AF}{args:List V}{r:V}(a:E.fc f=some af) (h:W E af.body (ja6 args) λe s=>jc2 af.res (e,s)=some r):Ev E f args r:=by obtain⟨n,l,c,b,d⟩:=h;exact⟨n+1,by simp only[yK,a,ap,c,jkr b d]⟩
def jl1 {o:AOp}(h:o.still=true):o.wO=false/\o.wT=false/\o.isCall=false/\o.far=false:=by cases o<;>first|(cases h;done)|exact⟨rfl,rfl,rfl,rfl⟩
def Ql {E:Env}{nm:Bool}{b:A->V}{o:AOp}(h:o.still=true):jC E nm b o=none:=by cases o<;>first|(cases h;done)|rfl
def jca {E:Env}{call:Callers}{fb ub ue:Nat}{s:St}{ao:AOpr}{δ:Delta}{k:FP}(h:TrAt E call fb ub ue s ao δ k) (e:ao.op.still=true) :
 (yJ ao s.tm=some true/\yS call.d (ye E s.tm) s.ob s.tk s.ro (ao.name fb ub) ub ao.op=some δ\/yJ ao s.tm=some false/\δ={ v:=js })/\δ.wo=[]/\δ.wt=[]:=by
 obtain⟨l,j,_,_⟩:=jl1 e;rcases h.run with⟨c,_,_,g,_⟩|⟨c,rfl,_⟩|⟨_,f,i,b,c,_⟩|⟨_,f,i,m,n,c,_⟩|⟨_,f,i,c,_⟩;exact⟨.inl ⟨c,g⟩,j5x _ l δ g,j5w _ j δ g⟩;exact⟨.inr ⟨c,rfl⟩,rfl,rfl⟩;rw[Ql e]at c;cases c;rw[Ql e]at c;cases c;rw[Ql e]at c;cases c
def bare_of {s:St}{d:Option Nat}{δ:Delta}(b:δ.wo=[]) (e:δ.wt=[]):(s.app d δ).ob=s.ob/\(s.app d δ).tk=s.tk:=by
 obtain⟨v,f,c,add,i⟩:=δ;unfold Delta.wo at b;unfold Delta.wt at e;rw[fY]at b e;have k:f=[]:=gt.1 b.2;obtain⟨h,-⟩:=b;obtain⟨j,g⟩:=e;simp only at h g;subst k h g;cases c with
 |none=>exact⟨rfl,rfl⟩
 |some x=>cases j
def YK:∀(l:List Eff) (s:St),jS (λ_=>false) l s=s
 |[],_=>rfl
 |_::l,s=>by simp only[jS,ah,zc];exact YK l s
def jst {b:List Eff}{st:St}{i d:Nat}{e:Eff}(h:b[i]? = some e) (m:e.1=some d) (c:∀k f,b[k]? = some f->k≠i->f.1≠some d):(jS (λ_=>true) b st).tm d=e.2.v:=by
 rw[jfa (π:=λs=>s.tm d) (wr:=wrT d) (g:=λe=>e.2.v) (jb8 d) b (λk=>decide (k≠i)) (λ_=>true) st i e h zS rfl (λk l=>by simp[l])
  (λk f l j _ _=>by simp only[wrT,decide_eq_false_iff_not];exact c k f j zO)]
 simp[wrT,m]
def jn4 {ops:Array Oper}{kk:Nat}(p:kk<=ops.size) (c:∀j o,ops[j]? = some o->∀e∈o.after,Region.binds .any e=true->e.on<j) {b:Array Bool}(n:b.size=ops.size)
 (l:∀i,i<kk->i ∉ Region.ready .any ops b):∀j,j<kk->b.getD j false=true:=by
 intro j;induction j using Nat.strongRecOn with
 |_ j k=>
  intro g;cases f:b.getD j false with
  |true=>rfl
  |false=>
   have d:j<b.size:=zO;have:j∈Region.ready .any ops b:=mem_ready.2 ⟨by simpa[d] using f,ops[j],aA zO,λe h m=>by
    have:=c j _ (aA zO) e h m;exact k e.on this zO⟩
   exact zf this (l j g)
def Xu {tm:Nat->V}{d:Option Nat}{v:V}{t:Nat}(h:d≠some t):put tm d v t=tm t:=by
 cases d with
 |none=>rfl
 |some d=>exact JQ _ _ (λe=>h (by rw[e]))
def QD {tm:Nat->V}{v:V}{t:Nat}:put tm (some t) v t=v:=WL _ _ _
def count_set {b:Array Bool}{i:Nat}(hi:i<b.size) (h:b.getD i false=false):(b.setIfInBounds i true).toList.count false=b.toList.count false-1/\0<b.toList.count false:=by
 have e:b.toList[i]? = some false:=by rw[br,aA hi];simp only[dh,aA hi,cy]at h;rw[h]
 have d:i<b.toList.length:=by simpa using hi
 have c:=aH e;refine⟨?_,eF.2 c⟩;rw[ep,ft d];rw[aa d]at e;simp only[ae]at e;rw[e];simp
def jwx {E:Env}{call:Callers}{s s':St}{ao:AOpr}{ub:Nat}{l:List (St×Nat)}(m:ao.op.isCall=true) (k:∀t∈ao.looks,s'.tm t=s.tm t) (g:s'.ob=s.ob) (o:s'.tk=s.tk) (u:s'.ro=s.ro) (n:s'.fb=s.fb)
 (h:jec E call ao s ub=some l) :
 ∃D,jec E call ao s' ub=some D/\∀B∈D,∃x∈l,∃v ob tk,B.2=x.2/\x.1={ s with tm:=put s.tm ao.dst v,ob:=ob,tk:=tk }/\B.1={ s' with tm:=put s'.tm ao.dst v,ob:=ob,tk:=tk }:=by
 have c:=Y8 (E:=E) k;have G:=XF k;have H:ao.op.next? = none:=by cases g:ao.op<;>rw[g]at m<;>first|rfl|cases m
 have j:ao.op.far=false:=by cases g:ao.op<;>rw[g]at m<;>first|rfl|cases m
 have p:jj (ye E s'.tm) ao.op=jj (ye E s.tm) ao.op:=by
  cases g:ao.op<;>try rfl
  rename_i f K;rw[g]at c;simp only[AOp.opds,bt,forall_eq_or_imp]at c;simp only[jj];rw[c.1,XP (λy p=>c.2 y p)]
 have J:∀d ub,yS call.d (ye E s'.tm) s.ob s.tk s.ro d ub ao.op=yS call.d (ye E s.tm) s.ob s.tk s.ro d ub ao.op:=λd ub=>jhr ao.op j c (λ_ _=>rfl) (λ_ _=>rfl);unfold jec at h ⊢;rw[G,p,WM ao.op c,g,o,u,n];simp only[H,J]at h ⊢;split at h;split at h;obtain⟨r,b,rfl⟩:=yh h;rw[b];exact⟨_,rfl,λx e=>by rw[ag]at e;subst e;exact⟨_,ag.2 rfl,r.1,r.2.1,r.2.2.1,rfl,rfl,rfl⟩⟩;split at h;split at h;rename_i i;obtain⟨r,b,rfl⟩:=yh h;rw[zb i,b];refine⟨_,rfl,λx e=>?_⟩;obtain⟨q,F,rfl⟩:=aE.1 e;exact⟨_,aE.2 ⟨q,F,rfl⟩,q.1,q.2.1,q.2.2.1,rfl,rfl,rfl⟩;rename_i i;obtain⟨z,b,rfl⟩:=yh h;rw[za i,b];refine⟨_,rfl,λx e=>?_⟩;rw[ag]at e;subst e;refine⟨_,ag.2 rfl,z.v,_,_,rfl,rfl,?_⟩;simp only[St.app,g,o,u,n];obtain⟨z,b,rfl⟩:=yh h;rw[b];refine⟨_,rfl,λx e=>?_⟩;rw[ag]at e;subst e;refine⟨_,ag.2 rfl,z.v,_,_,rfl,rfl,?_⟩;simp only[St.app,g,o,u,n];cases h;exact⟨_,rfl,λx e=>by rw[ag]at e;subst e;exact⟨_,ag.2 rfl,js,s.ob,s.tk,rfl,rfl,rfl⟩⟩;cases h
section
variable {P:Program}{E:Env}{w0 w:World}{I0:IMap}{nt:Nat}{γ:Nat->Option Place}{I:IMap}{st:St}{a:Act}{ub:Nat}{call:Callers}{ops:Array Oper}{als:List AOpr}{fps:List FP}{free:List (Nat × Nat)}
def pin_ok {m:Bool}{rn:Option Nat}{γ0:Nat->Option Place}{Iy:IMap}{Q:Exit->Act->World->Prop}{kk c:Nat}{Z:AOpr}{S:St}{l:List (St×Nat)}(p2:kk<=als.length)
 (e8:∀j,kk<=j->j<ops.size->∀i,i<j->((JH ops.toList []).getD j 0).testBit i=true) (f8:j2y ops als kk c=true) (i0:als[c]? = some Z)
 (g4:COk P E γ0 Iy call) (l3:SubG γ0 γ) (l7:SubI Iy I) (f7:ops.toList.mapM (Jf P m ops)=some als) (c5:Ya ops als=some free) (c9:∀ao∈als,∀d,ao.dst=some d->d<nt)
 (hd:Yg E call ((als.take kk).set c jgk) st ub=some (fps,S)) (n3:Jc free fps=true) (n1:jbw fps=true) (hl:jec E call Z S S.nx=some l)
 (hx:∀x∈l,∃p g8,Yg E call ((als.take kk).drop (c+1)) x.1 x.2=some p/\WI ((als.take kk).drop (c+1)) S p.2=true/\jkp E call (als.drop kk) p.2 p.2.nx=some g8/\∀h6∈g8,Nice E w0 I0 nt γ I h6 h6.nx (λa w=>Q .normal a w))
 (hR:R E w0 I0 nt γ I st a w) (hf:∀u,ub<=u->γ u=none):wpAnyIn (FW rn) 0 P .any ops Q ops.size (Array.replicate ops.size false) a w:=by
 obtain⟨e9,i4⟩:=JA f7
 have e9:als.length=ops.size:=by rw[e9,aL]
 obtain⟨X,d3⟩:=YL c5 e9
 unfold j2y at f8
 simp only[ab,dk,i0]at f8
 obtain⟨⟨⟨q2,j1⟩,f5⟩,K⟩:=f8
 have f5:∀i,i<c->((JH ops.toList []).getD c 0).testBit i=true:=λi hi=>av.1 f5 i (aM.2 hi)
 have hF:∀j o,c<j->j<kk->als[j]? = some o->o.op.still=true/\((JH ops.toList []).getD j 0).testBit c=false/\∀d,o.dst=some d->∀i x,i<kk->als[i]? = some x->(i≠j->x.dst≠some d)/\(i<=j->d ∉ x.looks):=by
  intro j o y z ho
  have:=av.1 K j (aM.2 z)
  have l9:Nat.ble j c=false:=by
   cases h:Nat.ble j c with
   |false=>rfl
   |true=>have:=ga h;omega
  simp only[l9,bQ,ho,ab,bG]at this
  obtain⟨⟨B,J⟩,h5⟩:=this
  refine⟨B,J,λd hd i x hi o2=>?_⟩
  simp only[hd]at h5
  have:=av.1 h5 i (aM.2 hi)
  simp only[o2,ab,bq,bG]at this
  refine⟨λc4 he=>?_,λq5=>?_⟩
  ·rcases this.1 with h|h
   ·exact c4 (bo h)
   ·simp only[he,bG]at h
    rw[cL]at h
    cases h
  ·rcases this.2 with h|h
   ·rw[dk]at h
    omega
   ·exact jqk h
 obtain⟨q,d6,rfl⟩:=Xg _ _ _ _ _ hd
 have k5:((als.take kk).set c jgk).length=kk:=by rw[dO,ai];omega
 have m2:q.length=kk:=d6.len.trans k5
 have g7:∀i ao,i<kk->i≠c->als[i]? = some ao->((als.take kk).set c jgk)[i]? = some ao:=λi ao y z B=>by
  rw[cP (dA z),cN,zb y];exact B
 have d8:q[c]? = some (none,{ v:=js }):=by
  obtain⟨δ,fp,y,z,B⟩:=d6.at' c jgk (by rw[dF (by rw[ai];omega)])
  have:δ={ v:=js }:=by
   obtain⟨J,_⟩:=jca B rfl
   rcases J with⟨_,J⟩|⟨J,h5⟩
   ·cases J;rfl
   ·exact h5
  rw[y,this];rfl
 have g9:∀j e,c<j->q[j]? = some e->∃o,als[j]? = some o/\j<kk/\e.1=o.dst/\e.2.wo=[]/\e.2.wt=[]:=by
  intro j e hj he
  have j2:j<kk:=m2▸(aj.1 he).1
  have ho:=aa (show j<als.length by omega)
  obtain⟨δ,fp,y,z,B⟩:=d6.at' j _ (g7 j _ j2 zO ho)
  rw[he]at y;cases y
  obtain⟨_,J,h5⟩:=jca B (hF j _ hj j2 ho).1
  exact⟨_,ho,j2,rfl,J,h5⟩
 generalize hT:jS (λ_=>true) q st=T at *
 have d1:∀i d,(Array.replicate ops.size false).getD i d=if i<ops.size then false else d:=by
  intro i d
  by_cases hi:i<ops.size<;>simp[hi]
 have k9:jS (λi=>(Array.replicate ops.size false).getD i false) q st=st:=by
  have:(λi=>(Array.replicate ops.size false).getD i false)=λ_=>false:=funext λi=>by rw[d1];split<;>rfl
  rw[this]
  exact YK _ _
 refine jhs (bb:=false) (w0:=w0) (I0:=I0) (kk:=kk) (al':=(als.take kk).set c jgk) (sp:=λi=>Nat.beq i c) p2 k5 (λi ao y z B=>g7 i ao y (λe=>by subst e;rw[cL]at z;cases z) B)
  (λi _ h=>by rw[bo h];exact d8) (λj y z i B=>e8 j y z i zO) g4 f7 c5 d6 n3 n1 c9 (γ:=γ) (I:=I) ?_ (λc3 I' a' w' F f b9 hm p0=>?_) ops.size (Array.replicate ops.size false) γ I a w zS
  (λj o ho hj=>?_) (λj hj=>by rw[d1];split<;>rfl) (λj hj=>by rw[d1];split<;>rfl) zS (by rw[k9];exact hR) (λu hu=>hf u zO) (λj hj u y z=>hf u zO) (λ_ _ h=>h) (λ_ _ _ h=>h)
 rotate_left
 ·have:=p0 c (cL c)
  rw[hm c,zi zO]at this
  cases this
 ·simp only[d1]at hj
  split at hj<;>cases hj
 intro i F f b0 I1 a1 w1 l1 b5 b9 e7 d0 m7 c8 p8 h9 hg hI hi
 have e:c=i:=(bo l1).symm
 subst e
 obtain⟨h0,oc,g2,e5⟩:=mem_ready.1 hi
 have q4:c<ops.size:=(aO.1 g2).1
 have N:Jf P m ops oc=some Z:=i4 c oc Z (by rw[br];exact g2) i0
 have L:∀j,j<c->f.getD j false=true:=λj hj=>Yx X e7 g2 e5 (f5 j hj)
 have o1:f.getD c false=false:=m7 c l1
 -- a state in which all ahead of the call have p9 about: asg the whole one,but for what is still
 have i1:∀D:Nat->Bool,(∀j,j<c->D j=true)->(jS D q st).ob=T.ob:=λD hD=>by
  rw[<- hT]
  refine funext λl=>XV (π:=λs=>s.ob l) (wr:=wrO l) (g:=λe=>Ji (λ_=>none) e.2.obs l) (jel l) q _ _ _ _ (λk e G M=>?_) rfl
  rcases dQ k c with h|h|h
  ·exact hD k h
  ·subst h;rw[d8]at G;cases G;cases M
  ·obtain⟨o,_,_,_,y,_⟩:=g9 k e h G
   simp[wrO,y]at M
 have h8:∀D:Nat->Bool,(∀j,j<c->D j=true)->(jS D q st).tk=T.tk:=λD hD=>by
  rw[<- hT]
  refine funext λu=>XV (π:=λs=>s.tk u) (wr:=wrK u) (g:=λe=>e.2.add.contains u) (jh8 u) q _ _ _ _ (λk e G M=>?_) rfl
  rcases dQ k c with h|h|h
  ·exact hD k h
  ·subst h;rw[d8]at G;cases G;cases M
  ·obtain⟨o,_,_,_,_,y⟩:=g9 k e h G
   simp[wrK,y]at M
 have b7:∀(D:Nat->Bool) (t:Nat),(∀j,j<c->D j=true)->(∀k o,c<k->k<kk->als[k]? = some o->o.dst=some t->D k=true)->(jS D q st).tm t=T.tm t:=λD t hD n0=>by
  rw[<- hT]
  refine XV (π:=λs=>s.tm t) (wr:=wrT t) (g:=λe=>e.2.v) (jb8 t) q _ _ _ _ (λk e G M=>?_) rfl
  simp only[wrT,ze]at M
  rcases dQ k c with h|h|h
  ·exact hD k h
  ·subst h;rw[d8]at G;cases G;cases M
  ·obtain⟨o,ho,g3,y,_⟩:=g9 k e h G
   exact n0 k o h g3 ho (y▸M)
 have b6:∀k o,c<k->k<kk->als[k]? = some o->Apart Z o:=λk o y z B=>(d3 c k Z o y i0 B (hF k o y z B).2.1).1
 have a0:=JG q (λi=>f.getD i false) st
 have b8:T.nx=st.nx/\T.fb=st.fb/\T.ro=st.ro/\T.df=st.df:=hT▸JG q (λ_=>true) st
 obtain⟨l',o6,o0⟩:=jwx (s:={ T with nx:=ub+64*((als.take kk).set c jgk).length }) (s':=jS (λi=>f.getD i false) q st) j1
  (λt ht=>b7 _ t L λk o y z B J=>zf ht ((b6 k o y z B).c t J)) (i1 _ L) (h8 _ L) (a0.2.2.1.trans b8.2.2.1.symm) (a0.2.1.trans b8.2.1.symm) hl
 unfold wpOpIn
 simp only[g2]
 refine jj7 g4 (l3.trans hg) (l7.trans hI) p8 (λu hu=>h9 u (by rw[<- k5];exact hu)) N (by rw[<- (Xh N).1];exact c9 Z (aH i0)) o6 (λx' o3=>?_)
 obtain⟨x,n5,v,e4,e0,e1,e2,e3⟩:=o0 x' o3
 obtain⟨p,g8,hp,i9,l0,i8⟩:=hx x n5
 obtain⟨r,f2,d9⟩:=Xg _ _ _ p.1 p.2 hp
 intro o4 I2 a2 w2 m0 k0 p4 o7
 rw[e1]at k0
 rw[e3]at m0
 have m6:((als.take kk).drop (c+1)).length=kk-(c+1):=by rw[aY,ai];omega
 have f4:∀j o,c<j->j<kk->als[j]? = some o->((als.take kk).drop (c+1))[j-(c+1)]? = some o:=λj o y z B=>by
  rw[bC,cN,zb zO,show c+1+(j-(c+1))=j by omega];exact B
 have d5:∀n e,r[n]? = some e->∃o,als[c+1+n]? = some o/\c+1+n<kk/\e.1=o.dst/\e.2.wo=[]/\e.2.wt=[]:=by
  intro n e he
  have hn:n<kk-(c+1):=by
   have:=(aj.1 he).1
   rw[f2.len,m6]at this
   exact this
  have ho:=aa (show c+1+n<als.length by omega)
  obtain⟨δ,fp,y,z,B⟩:=f2.at' n _ (by have:=f4 (c+1+n) _ zO zO ho;rwa [show c+1+n-(c+1)=n by omega]at this)
  rw[he]at y;cases y
  obtain⟨_,J,h5⟩:=jca B (hF _ _ zO zO ho).1
  exact⟨_,ho,zO,rfl,J,h5⟩
 have d2:∀j o d,c<j->j<kk->als[j]? = some o->o.dst=some d->T.tm d=p.2.tm d:=by
  intro j o d y z B J
  have:=av.1 i9 o (aH (f4 j o y z B))
  simp only[J]at this
  exact jae _ _ this
 have k8:∀D:Nat->Bool,(jS D r x.1).ob=e4:=λD=>by
  have:(jS D r x.1).ob=(jS (λ_=>false) r x.1).ob:=funext λl=>XV (π:=λs=>s.ob l) (wr:=wrO l) (g:=λe=>Ji (λ_=>none) e.2.obs l) (jel l) r _ _ _ _ (λk e G M=>by
   obtain⟨o,_,_,_,y,_⟩:=d5 k e G
   simp[wrO,y]at M) rfl
  rw[this,YK,e2]
 have m9:∀D:Nat->Bool,(jS D r x.1).tk=e0:=λD=>by
  have:(jS D r x.1).tk=(jS (λ_=>false) r x.1).tk:=funext λu=>XV (π:=λs=>s.tk u) (wr:=wrK u) (g:=λe=>e.2.add.contains u) (jh8 u) r _ _ _ _ (λk e G M=>by
   obtain⟨o,_,_,_,_,y⟩:=d5 k e G
   simp[wrK,y]at M) rfl
  rw[this,YK,e2]
 have i3:∀t,p.2.tm t=(jS (λ_=>true) r x.1).tm t:=λt=>by rw[d9]
 have k2:∀n t,(∀k o,n<=k->als[c+1+k]? = some o->c+1+k<kk->o.dst≠some t)->(jS (λk=>decide (k<n)) r x.1).tm t=p.2.tm t:=λn t h=>by
  rw[i3]
  refine XV (π:=λs=>s.tm t) (wr:=wrT t) (g:=λe=>e.2.v) (jb8 t) r _ _ _ _ (λk e G M=>?_) rfl
  simp only[wrT,ze]at M
  obtain⟨o,y,z,B,_⟩:=d5 k e G
  refine zi ?_
  rcases cD k n with J|J
  ·exact J
  ·exact zf (B▸M) (h k o J y z)
 have m3:∀t,Z.dst≠some t->p.2.tm t=T.tm t:=λt ht=>by
  by_cases M:∃k o,c<k/\k<kk/\als[k]? = some o/\o.dst=some t
  ·obtain⟨k,o,y,z,B,J⟩:=M
   exact(d2 k o t y z B J).symm
  ·rw[<- k2 0 t (λk o _ y z B=>M ⟨c+1+k,o,zO,z,y,B⟩)]
   have:(λk=>decide (k<0))=λ_:Nat=>false:=funext λk=>by simp
   rw[this,YK,e2]
   exact Xu ht
 have i7:∀k o t,c<k->k<kk->als[k]? = some o->o.dst=some t->Z.dst≠some t:=λk o t y z B J h5=>(b6 k o y z B).b t h5 J
 have m1:x.1.ro=st.ro:=by rw[e2];exact b8.2.2.1
 have p7:x.1.df=st.df:=by rw[e2];exact b8.2.2.2
 have q1:x.1.fb=st.fb:=by rw[e2];exact b8.2.1
 have g6:∀(F:Nat) (f:Array Bool) (b0:Nat->Option Place) (I1:IMap) (a:Act) (w:World),f.size=ops.size->jev ops (λi=>f.getD i false)->(∀j,kk<=j->f.getD j false=false)->(∀j,j<=c->f.getD j false=true)->f.toList.count false<=F ->
  R E w0 I0 nt b0 I1 { jS (λi=>f.getD i false) q st with tm:=put (jS (λi=>f.getD i false) q st).tm Z.dst v,ob:=e4,tk:=e0 } a w ->
  (∀u,x.2+64*(kk-(c+1))<=u->b0 u=none)->(∀j,c<j->j<kk->f.getD j false=false->∀u,x.2+64*(j-(c+1))<=u->u<x.2+64*(j-(c+1))+64->b0 u=none)->SubG γ b0->SubI I I1 ->
  wpAnyIn (FW rn) 0 P .any ops Q F f a w:=by
  intro F
  induction F with
  |zero=>?_
  |succ F ih=>?_
  all_goals
   intro f b0 I1 a w b9 e7 d0 L c8 hR h9 i6 hg hI
   have a0:=JG q (λi=>f.getD i false) st
   have n8:∀F,f.toList.count false<=F->(∀j,j<kk->f.getD j false=true)->wpAnyIn (FW rn) 0 P .any ops Q F f a w:=λF c8 K=>by
    refine jl9 e8 g4 f7 c5 c9 (ops.size-kk) kk zK zO F f b0 I1 p.2 a w p.2.nx g8 b9 (λi=>?_) c8 (l3.trans hg) (l7.trans hI) (hR.congr (funext λt=>?_) ?_ ?_ ?_ ?_) (λu hu=>h9 u (by rw[d9]at hu;simpa[m6] using hu)) l0 (λh6 h=>(i8 h6 h).weaken hg hI)
    ·by_cases h:i<kk
     ·rw[K i h,zi h]
     ·rw[d0 i zO,decide_eq_false h]
    ·by_cases h:Z.dst=some t
     ·simp only[h,QD]
      rw[<- k2 0 t (λk o _ y z B=>i7 (c+1+k) o t zO z y B h)]
      have:(λk=>decide (k<0))=λ_:Nat=>false:=funext λk=>by simp
      rw[this,YK,e2]
      simp only[h,QD]
     ·simp only[Xu h]
      rw[m3 t h,b7 _ t (λj hj=>L j zO) (λk o y z _ _=>K k z)]
    ·rw[d9];exact k8 _
    ·rw[d9];exact m9 _
    ·exact(zg St.ro d9).trans ((JG r _ x.1).2.2.1.trans (m1.trans a0.2.2.1.symm))
    ·exact(zg St.df d9).trans ((JG r _ x.1).2.2.2.trans (p7.trans a0.2.2.2.symm))
   by_cases K:∀j,j<kk->f.getD j false=true
   ·exact n8 _ c8 K
  ·refine zf (jn4 zO X b9 λi hi n9=>?_) K
   obtain⟨h0,o,ho,_⟩:=mem_ready.1 n9
   have e6:i<f.size:=by rw[b9];exact(aO.1 ho).1
   have:=(count_set e6 (by simpa[e6] using h0)).2
   omega
  ·refine⟨λhr=>zf (jn4 zO X b9 (λi _ hi=>by rw[hr]at hi;cases hi)) K,λi hi=>?_⟩
   obtain⟨h0,o,ho,e5⟩:=mem_ready.1 hi
   have n4:i<ops.size:=(aO.1 ho).1
   have b5:i<kk:=by
    rcases cD i kk with h|h
    ·exact h
    ·exact zf (λj hj=>Yx X e7 ho e5 (e8 i h n4 j zO)) K
   have e6:i<f.size:=zO
   have f1:f.getD i false=false:=by simpa[e6] using h0
   have d7:c<i:=by
    rcases cD c i with h|h
    ·exact h
    ·rw[L i h]at f1;cases f1
   have O:=aa (show i<als.length by omega)
   generalize als[i]=ao at O
   have N:Jf P m ops o=some ao:=i4 i o ao (by rw[br];exact ho) O
   obtain⟨hd1,k4⟩:=Xh N
   obtain⟨U,l9,g0⟩:=hF i ao d7 b5 O
   have k4:Jy P m o=some ao.op:=k4.resolve_right λh=>by rw[h]at U;cases U
   obtain⟨f3,q0,l2,_,q7⟩:=d6.at' i ao (g7 i ao b5 zO O)
   obtain⟨h7,q6,p6,_,o8⟩:=f2.at' (i-(c+1)) ao (f4 i ao d7 b5 O)
   obtain⟨m5,p1,p5⟩:=jca o8 U
   have d4:∀t∈ao.looks,put (jS (λi=>f.getD i false) q st).tm Z.dst v t=(jS (λk=>decide (k<i-(c+1))) r x.1).tm t:=by
    intro t ht
    have c4:Z.dst≠some t:=λh=>(b6 i ao d7 b5 O).a t h ht
    rw[Xu c4,k2 _ t (λk o G y z B=>((hF _ o zO z y).2.2 t B i ao b5 O).2 zO ht),m3 t c4]
    refine b7 _ t (λj hj=>L j zO) λk ok y z B J=>?_
    have n7:k<i:=by
     rcases cD k i with h|h
     ·exact h
     ·exact zf ht (((hF k ok y z B).2.2 t J i ao b5 O).2 h)
    cases l4:((JH ops.toList []).getD i 0).testBit k with
    |true=>exact Yx X e7 ho e5 l4
    |false=>exact zf ht ((d3 k i ok ao n7 B O l4).1.a t J)
   have hv:∀d,ao.dst=some d->f3.v=h7.v:=λd hd=>by
    have y:T.tm d=f3.v:=by
     rw[<- hT]
     refine jst l2 hd λk e' G c4 h=>?_
     by_cases l6:k=c
     ·subst l6;rw[d8]at G;cases G;cases h
     ·have g3:k<kk:=m2▸(aj.1 G).1
      have m8:=aa (show k<als.length by omega)
      obtain⟨q3,fk,l5,_⟩:=d6.at' k _ (g7 k _ g3 l6 m8)
      rw[G]at l5;cases l5
      exact(g0 d hd k _ g3 m8).1 c4 h
    have z:p.2.tm d=h7.v:=by
     rw[i3]
     refine jst p6 hd λk e' G c4 h=>?_
     obtain⟨ok,B,J,h5,_⟩:=d5 k e' G
     exact(g0 d hd _ ok J B).1 zO (h5▸h)
    rw[<- y,<- z]
    exact d2 i ao d d7 b5 O hd
   have H:∀k,k≠i->(f.setIfInBounds i true).getD k false=f.getD k false:=λk G=>getD_set_ne false (dA G)
   have f6:∀c3 I' a' w',R E w0 I0 nt c3 I' (St.app { jS (λi=>f.getD i false) q st with tm:=put (jS (λi=>f.getD i false) q st).tm Z.dst v,ob:=e4,tk:=e0 } ao.dst h7) a' w'->(∀u,¬(x.2+64*(i-(c+1))<=u/\u<x.2+64*(i-(c+1))+64)->c3 u=b0 u) ->
    (∀u p,b0 u=some p->c3 u=some p)->(∀b o x,I1 b o=some x->I' b o=some x)->wpAnyIn (FW rn) 0 P .any ops Q F (f.setIfInBounds i true) a' w':=by
    intro c3 I' a' w' g5 i5 n6 o9
    have f9:(f.setIfInBounds i true).getD i false=true:=by simp[e6]
    have c0:=JG q (λk=>(f.setIfInBounds i true).getD k false) st
    obtain⟨c1,c2⟩:=count_set e6 f1
    obtain⟨b1,b2⟩:=bare_of (s:={ jS (λi=>f.getD i false) q st with tm:=put (jS (λi=>f.getD i false) q st).tm Z.dst v,ob:=e4,tk:=e0 }) (d:=ao.dst) p1 p5
    refine ih (f.setIfInBounds i true) c3 I' a' w' (by simpa using b9) (λj oj c6 g1 e' f0 hb=>?_) (λj hj=>by rw[H j zO];exact d0 j hj) (λj hj=>by rw[H j zO];exact L j hj) zO (g5.congr (funext λt=>?_) b1.symm b2.symm (c0.2.2.1.trans a0.2.2.1.symm) (c0.2.2.2.trans a0.2.2.2.symm))
     (λu hu=>by rw[i5 u zO];exact h9 u hu) (λj y z B u J h5=>?_) (hg.trans n6) (hI.trans o9)
    ·by_cases c7:j=i
     ·subst c7
      rw[ho]at c6
      cases c6
      exact getD_set_true (e5 e' f0 hb)
     ·simp only[H j c7]at g1
      exact getD_set_true (e7 j oj c6 g1 e' f0 hb)
    ·have m4:(jS (λk=>(f.setIfInBounds i true).getD k false) q st).tm t=if wrT t (ao.dst,f3) then f3.v else (jS (λi=>f.getD i false) q st).tm t :=
      jfa (π:=λs=>s.tm t) (wr:=wrT t) (g:=λe=>e.2.v) (jb8 t) q (λi=>f.getD i false) _ st i (ao.dst,f3) l2 f1 f9 H (λk e' G o5 _ M=>by
       simp only[wrT,ze]at M
       simp only[wrT,decide_eq_false_iff_not]
       intro h
       obtain⟨ok,B,J,h5,_⟩:=g9 k e' zO o5
       exact(g0 t M k ok J B).1 zO (h5▸h))
     show put (jS (λk=>(f.setIfInBounds i true).getD k false) q st).tm Z.dst v t=put (put (jS (λi=>f.getD i false) q st).tm Z.dst v) ao.dst h7.v t
     by_cases y:Z.dst=some t
     ·rw[Xu (d:=ao.dst) (λh=>i7 i ao t d7 b5 O h y),y,QD,QD]
     ·rw[Xu y,m4]
      by_cases z:ao.dst=some t
      ·rw[zb (by simpa[wrT] using z),z,QD]
       exact hv t z
      ·rw[za (by simpa[wrT] using z),Xu z,Xu y]
    ·have c7:j≠i:=λe=>by subst e;rw[f9]at B;cases B
     rw[H j c7]at B
     rw[i5 u zO]
     exact i6 j y z B u J h5
   have k7:∀d,o.dst=some d->d<nt:=by rw[<- hd1];exact c9 ao (aH O)
   unfold wpOpIn
   simp only[ho]
   have M:=XF (s:={ jS (λi=>f.getD i false) q st with tm:=put (jS (λi=>f.getD i false) q st).tm Z.dst v,ob:=e4,tk:=e0 }) (ao:=ao) d4
   have p3:=Y8 (E:=E) (s:={ jS (λi=>f.getD i false) q st with tm:=put (jS (λi=>f.getD i false) q st).tm Z.dst v,ob:=e4,tk:=e0 }) (ao:=ao) d4
   rcases m5 with⟨r1,r2⟩|⟨r1,r2⟩
   ·rw[zb (YP hR N (M.trans r1))]
    have k6:=JG r (λk=>decide (k<i-(c+1))) x.1
    rw[k8,m9,k6.2.2.1,m1]at r2
    have k1:=r2
    rw[<- jhr ao.op (jl1 U).2.2.2 p3 (λ_ _=>rfl) (λ_ _=>rfl)]at k1
    rw[<- a0.2.2.1]at k1
    refine jlj g4 hR (λu y z=>i6 i d7 b5 f1 u y z) k4 k7 k1 (λc3 I' a' w' g5 y z B=>?_)
    rw[<- hd1]at g5
    exact f6 c3 I' a' w' g5 y z B
   ·rw[za (by rw[YP hR N (M.trans r1)];exact Bool.false_ne_true)]
    refine⟨λ_ _=>trivial,?_⟩
    have:=jxt hR k7
    rw[<- hd1]at this ⊢
    refine f6 b0 I1 _ _ ?_ (λ_ _=>rfl) (λ_ _ h=>h) (λ_ _ _ h=>h)
    rw[r2]
    exact this
 have H:∀k,k≠c->(f.setIfInBounds c true).getD k false=f.getD k false:=λk G=>getD_set_ne false (dA G)
 have i2:c<f.size:=zO
 have k3:∀{β:Type}{π:St->β}{wr:Eff->Bool}{g:Eff->β},(∀(s:St) (e:Eff),π (s.app e.1 e.2)=if wr e then g e else π s)->wr (none,{ v:=js })=false->π (jS (λk=>(f.setIfInBounds c true).getD k false) q st)=π (jS (λi=>f.getD i false) q st):=λn2 hn=>
  XV n2 q _ _ _ _ (λk e G M=>H k (λh=>by subst h;rw[d8]at G;cases G;rw[hn]at M;cases M)) rfl
 obtain⟨c1,c2⟩:=count_set i2 o1
 have c0:=JG q (λk=>(f.setIfInBounds c true).getD k false) st
 refine g6 F (f.setIfInBounds c true) o4 I2 a2 w2 (by simpa using b9) (λj oj c6 g1 e' f0 hb=>?_) (λj hj=>by rw[H j zO];exact d0 j hj) (λj hj=>?_) zO
  (m0.congr (funext λt=>?_) rfl rfl (c0.2.2.1.trans a0.2.2.1.symm) (c0.2.2.2.trans a0.2.2.2.symm)) (λu hu=>k0 u zO) (λj _ _ _ u y _=>k0 u zO) (SubG.trans hg p4) (SubI.trans hI o7)
 ·by_cases c7:j=c
  ·subst c7
   rw[g2]at c6
   cases c6
   exact getD_set_true (e5 e' f0 hb)
  ·simp only[H j c7]at g1
   exact getD_set_true (e7 j oj c6 g1 e' f0 hb)
 ·by_cases l8:j=c
  ·subst l8;simp[i2]
  ·rw[H j l8];exact L j zO
 ·show put (jS (λk=>(f.setIfInBounds c true).getD k false) q st).tm Z.dst v t=put (jS (λi=>f.getD i false) q st).tm Z.dst v t
  by_cases y:Z.dst=some t
  ·rw[y,QD,QD]
  ·rw[Xu y,Xu y]
   exact k3 (π:=λs=>s.tm t) (wr:=wrT t) (g:=λe=>e.2.v) (jb8 t) rfl
end
section
variable {P:Program}{E:Env}{w0 w:World}{I0:IMap}{nt:Nat}{γ:Nat->Option Place}{I:IMap}{st:St}{a:Act}
def Sh.congr {st st':St}(h:Sh E w0 I0 γ I st w) (c:st'.ob=st.ob) (b:st'.tk=st.tk) (d:st'.ro=st.ro):Sh E w0 I0 γ I st' w :=
 ⟨h.imm,h.gl,(let ⟨Ω,ho⟩:=h.own;⟨Ω,⟨by rw[c,d];exact ho.ob,by rw[b];exact ho.tk,ho.lt⟩⟩),h.fr,h.old⟩
def Sh.alloc (h:Sh E w0 I0 γ I st w) {ub d:Nat}(F:γ ub=none) {obj:Obj}{body:OBody}{k:Kd}(G:ObjOk γ I st.ob w.heap k (some obj) body) :
 Sh E w0 I0 (upd γ ub (some (.obj w.heap.size k))) I { st with ob:=upd st.ob d (some ⟨ub,body⟩) } (w.alloc obj):=by
 have r:=Q7 (f:=γ) (k:=ub) (v:=Place.obj w.heap.size k) F;obtain⟨M,o⟩:=h.own;have i:=jjh (w:=w) (ob:=st.ob) (obj:=obj) (d:=d) (body:=body) F;refine⟨λb S O c=>?_,h.gl,⟨upd M w.heap.size (some (.ob d)),⟨λl ob p=>?_,λu L=>?_,λb Q c=>?_⟩⟩,?_,h.old⟩;rw[World.cell?_alloc_lt];exact h.imm _ _ _ c;exact bT _ _ (h.imm _ _ _ c);have K:∀j,I w.heap.size j=none:=by
  intro j;cases N:I w.heap.size j with
  |none=>rfl
  |some y=>exact zf (bT _ _ (h.imm _ _ _ N)) (ey _)
 simp only[yg]at p;split at p;rename_i q;subst q;simp only[ae]at p;subst p;refine⟨w.heap.size,k,zS,zS,λ_=>h.fr.size,?_,K⟩;rw[heap_alloc_new];exact(G.keep i).mono r (λ_ _ _ h=>h);rename_i q;obtain⟨b,H,x,m,D,t,B⟩:=o.ob l ob p;have g:=o.lt b _ m;refine⟨b,H,r _ _ x,?_,D,?_,B⟩;rw[JQ _ _ (eJ g)];exact m;rw[heap_alloc_old _ _ _ g];exact(t.keep i).mono r (λ_ _ _ h=>h);obtain⟨b,n,z,J,x,m,D,t,B⟩:=o.tk u L;have g:=o.lt b _ m;refine⟨b,n,z,J,r _ _ x,?_,D,?_,B⟩;rw[JQ _ _ (eJ g)];exact m;rw[heap_alloc_old _ _ _ g];exact t;rw[yg]at c;simp only[World.size_alloc];split at c;rename_i e;omega;have:=o.lt b _ c;omega;exact Grow.frame h.fr ⟨rfl,rfl,rfl,zS,λk s _=>heap_alloc_old _ _ _ s,λk s=>s.elim⟩ (T:=λ_=>False)
def Sh.turn (h:Sh E w0 I0 γ I st w) {l u b:Nat}{k:Kd}{body:OBody}(hl:st.ob l=some ⟨u,body⟩) (hu:γ u=some (.obj b k)) (F:Nat.ble st.ro u=true) {ob':ZO}{o':Obj}
 (B:∀j x,ob' j=some x->(j≠l/\st.ob j=some x)\/(j=l/\x.uid=u/\ObjOk γ I st.ob w.heap k (some o') x.body/\∀v es,x.body≠.mp v es)) :
 Sh E w0 I0 γ I { st with ob:=ob' } (w.putObj b o'):=by
 obtain⟨Ω,s⟩:=h.own;obtain⟨b',k',U,y,h3,_,X⟩:=s.ob l _ hl;rw[hu]at U;cases U;have D:=s.lt _ _ y;have g:YO γ st.ob ob' w.heap (w.putObj b o').heap:=by
  intro j S Q a0 mb mk o d;rcases B _ _ d with⟨f,d⟩|⟨_,_,_,O⟩;refine .inl ⟨d,λm c hm=>?_⟩;obtain⟨b2,k2,r,i,_⟩:=s.ob j _ d;rw[o]at r;cases r;rw[World.putObj_heap_other (λe=>by
   subst e;rw[y]at i;cases i;exact f rfl)]
  exact hm;exact zf rfl (O _ _)
 refine⟨λb2 o2 x N=>?_,h.gl,⟨Ω,⟨λj x d=>?_,λS o=>?_,λb2 ow M=>?_⟩⟩,?_,h.old⟩;have f:b2≠b:=λe=>by rw[e,X]at N;cases N
 rw[ew (w:=w) (w':=w.putObj b o') (a:=⟨b2,o2,none⟩) (World.putObj_heap_other f)];exact h.imm _ _ _ N;rcases B _ _ d with⟨f,z⟩|⟨rfl,t,q,_⟩;obtain⟨b2,k2,r,i,J,L,K⟩:=s.ob j x z;have p:b2≠b:=λe=>by subst e;rw[y]at i;cases i;exact f rfl
 exact⟨b2,k2,r,i,J,by rw[World.putObj_heap_other p];exact L.keep g,K⟩;refine⟨b,k,by rw[t];exact hu,y,λZ=>h3 (by rw[t]at Z;exact Z),?_,X⟩;rw[World.putObj_heap_same D];exact q.keep g;obtain⟨b2,n,H,sz,r,i,J,L,K⟩:=s.tk S o;have p:b2≠b:=λe=>by subst e;rw[y]at i;cases i
 exact⟨b2,n,H,sz,r,i,J,by rw[World.putObj_heap_other p];exact L,K⟩;rw[World.putObj_size];exact s.lt _ _ M;exact Grow.frame h.fr (T:=λk=>k=b) ⟨rfl,rfl,rfl,zS,λk _ G=>World.putObj_heap_other G,λk G=>G▸h3 (by simpa[bY] using F)⟩
def ji1 (h:Sh E w0 I0 γ I st w) {l u b:Nat}{k:Kd}{body:OBody}(e:st.ob l=some ⟨u,body⟩) (g:γ u=some (.obj b k)):ObjOk γ I st.ob w.heap k w.heap[b]? body:=by obtain⟨i,d⟩:=h.own;obtain⟨n,p,c,j,o,f,m⟩:=d.ob l _ e;rw[g]at c;cases c;exact f
def jl7:∀(ps:List Nat) (vs:List V) (xs:List Value) (T:Array Value) (tm:Nat->V),xs.length=vs.length->vs.length=ps.length->(∀p∈ps,p<T.size)->(∀t,Rep γ I (T.getD t undef) (tm t)) ->
 (∀(j:Nat) (x:Value) (v:V),xs[j]? = some x->vs[j]? = some v->Rep γ I x v) ->
 ((ps.zip xs).foldl (λtmps (t,a)=>tmps.setIfInBounds t a) T).size=T.size/\∀t,Rep γ I (((ps.zip xs).foldl (λtmps (t,a)=>tmps.setIfInBounds t a) T).getD t undef) (jfw tm ps vs t)
 |[],[],[],T,tm,_,_,_,hT,_=>⟨rfl,hT⟩
 |p::ps,v::vs,x::xs,T,tm,h1,h2,hp,hT,hx=>by
  simp only[gD,eU,jfw];have b:=hp p (aK ..);have:=jl7 ps vs xs (T.setIfInBounds p x) (upd tm p v) (by simpa using h1) (by simpa using h2) (λq g=>by rw[fJ];exact hp q (aS _ g)) (λt=>?_) (λj y u d f=>hx (j+1) y u (by simpa using d) (by simpa using f));rw[fJ]at this;exact this;by_cases c:t=p;subst c;simp only[WL];have:(T.setIfInBounds t x).getD t undef=x:=by simp[b]
  rw[this];exact hx 0 x v rfl rfl;rw[JQ _ _ c];have:(T.setIfInBounds p x).getD t undef=T.getD t undef:=by simp[dS (λe=>c e.symm)]
  rw[this];exact hT t
 |[],_::_,_,_,_,_,h,_,_,_=>by simp at h
 |_::_,[],_,_,_,_,h,_,_,_=>by simp at h
 |[],[],_::_,_,_,h,_,_,_,_=>by simp at h
 |_::_,_::_,[],_,_,h,_,_,_,_=>by simp at h
end
def jj0 {e d:Type}{f:e->Option (List d)}:∀{l:List e}{r:List d},jbm f l=some r->∀y∈r,∃x∈l,∃c,f x=some c/\y∈c
 |[],r,h,y,hy=>by cases h;cases hy
 |[x'],r,h,y,hy=>⟨x',ag.2 rfl,r,h,hy⟩
 |x'::y'::l,r,h,y,hy=>by simp only[jbm]at h;obtain⟨a,g,h⟩:=yc h;obtain⟨b,k,rfl⟩:=yh h;rcases aQ.1 hy with hy|hy;exact⟨x',aK ..,a,g,hy⟩;obtain⟨x,m,c,j,i⟩:=jj0 k y hy;exact⟨x,aS _ m,c,j,i⟩
def jc8 {b a:Type}{m:Option (List b)}{f:b->Option (List a)}{r:List a}(h:bindL m f=some r):∃l,m=some l/\∀y∈r,∃x∈l,∃c,f x=some c/\y∈c:=by obtain⟨l,d,h⟩:=yc h;exact⟨l,d,jj0 h⟩
section
variable {E:Env}
def jwv {b:Callers}{o:AOpr}{st:St}{ub:Nat}{l:List (St×Nat)}(h:jec E b o st ub=some l):∀x∈l,x.1.ro=st.ro:=by intro x a;unfold jec at h;split at h;split at h;obtain⟨_,_,rfl⟩:=yh h;rw[ag]at a;subst a;rfl;split at h;split at h;obtain⟨_,_,rfl⟩:=yh h;obtain⟨_,_,rfl⟩:=aE.1 a;rfl;obtain⟨_,_,rfl⟩:=yh h;rw[ag]at a;subst a;rfl;split at h;obtain⟨_,_,rfl⟩:=yh h;obtain⟨_,_,rfl⟩:=aE.1 a;rfl;obtain⟨_,_,rfl⟩:=yh h;rw[ag]at a;subst a;rfl;cases h;rw[ag]at a;subst a;rfl;cases h
def jx4 {a:Callers}:∀{ops:List AOpr}{st:St}{ub:Nat}{l:List St},jkp E a ops st ub=some l->∀x∈l,x.ro=st.ro
 |[],st,ub,l,h,x,hx=>by cases h;rw[ag]at hx;subst hx;rfl
 |o::r,st,ub,l,h,x,hx=>by simp only[jkp]at h;obtain⟨g,e,c⟩:=jc8 h;obtain⟨p,b,i,f,d⟩:=c x hx;rw[jx4 f x d,jwv e p b]
def QQ {b:Callers}:∀{ops:List AOpr}{st:St}{ub:Nat}{p:List FP×St},Yg E b ops st ub=some p->p.2.ro=st.ro
 |[],st,ub,p,h=>by cases h;rfl
 |o::r,st,ub,p,h=>by unfold Yg at h;split at h;split at h;split at h;split at h;obtain⟨c,_,h⟩:=yc h;obtain⟨q,a,rfl⟩:=yh h;have:=QQ a;exact this;obtain⟨c,_,h⟩:=yc h;obtain⟨q,a,rfl⟩:=yh h;have:=QQ a;exact this;obtain⟨c,_,h⟩:=yc h;obtain⟨q,a,rfl⟩:=yh h;have:=QQ a;exact this;split at h;cases h;obtain⟨c,_,h⟩:=yc h;obtain⟨q,a,rfl⟩:=yh h;have:=QQ a;exact this;obtain⟨q,a,rfl⟩:=yh h;have:=QQ a;exact this;cases h
def jle {u:Y->Callers}{y:Y}{N:Nat}:∀(c:C) {st:St}{l:List (Ex×St)},jh E u y N c st=some l->∀x∈l,x.2.ro=st.ro:=by
 intro c;induction c with
 |skip=>intro st l h x d;cases h;rw[ag]at d;subst d;rfl
 |ret=>intro st l h x d;cases h;rw[ag]at d;subst d;rfl
 |exit id=>intro st l h x d;cases h;rw[ag]at d;subst d;rfl
 |stuck=>intro st l h;cases h
 |region G=>intro st l h x d;simp only[jh]at h;obtain⟨B,j,rfl⟩:=yh h;obtain⟨s,m,rfl⟩:=aE.1 d;exact jx4 j s m
 |pin o fs=>intro st l h x d;simp only[jh]at h;obtain⟨B,j,t⟩:=jc8 h;obtain⟨p,w,H,k,g⟩:=t x d;obtain⟨q,K,J⟩:=yc k;simp only[aC,ae]at J;obtain⟨_,rfl⟩:=J;rw[ag]at g;subst g;exact(QQ K).trans (jwv j p w)
 |draw G free=>intro st l h x d;simp only[jh]at h;obtain⟨p,j,t⟩:=yc h;simp only[aC,ae]at t;obtain⟨_,rfl⟩:=t;rw[ag]at d;subst d;exact QQ j
 |seq a b v z=>
  intro st l h x d;simp only[jh]at h;obtain⟨B,j,t⟩:=jc8 h;obtain⟨p,w,H,k,g⟩:=t x d;obtain⟨e,s⟩:=p;have m:=v j _ w;cases e with
  |nrm=>exact(z k x g).trans m
  |exit i=>cases k;rw[ag]at g;subst g;exact m
  |ret=>cases k;rw[ag]at g;subst g;exact m
 |cond q a b v z=>intro st l h x d;simp only[jh]at h;split at h;exact v h x d;exact z h x d;cases h
 |block id a I=>
  intro st l h x d;simp only[jh]at h;obtain⟨B,j,rfl⟩:=yh h;obtain⟨p,w,rfl⟩:=aE.1 d;have:=I j p w;obtain⟨e,s⟩:=p;cases e with
  |nrm=>exact this
  |ret=>exact this
  |exit i=>simp only;split<;>exact this
 |loop a I=>
  intro st l h x d;simp only[jh]at h;have F:∀(n:Nat) (st:St) (l:List (Ex×St)),jcs (jh E u y N a) n st=some l->∀x∈l,x.2.ro=st.ro:=by
   intro n;induction n with
   |zero=>intro st l h;cases h
   |succ n D=>
    intro st l h x d;simp only[jcs]at h;obtain⟨B,j,t⟩:=jc8 h;obtain⟨p,w,H,k,g⟩:=t x d;obtain⟨e,s⟩:=p;have m:=I j _ w;cases e with
    |nrm=>exact(D s H k x g).trans m
    |exit i=>cases k;rw[ag]at g;subst g;exact m
    |ret=>cases k;rw[ag]at g;subst g;exact m
  exact F N st l h x d
 |rangeFunc f L a b=>
  intro st l h x d;simp only[jh]at h;split at h;case h_2=>cases h
  obtain⟨p,_,h⟩:=yc h;obtain⟨r,ob,M,O⟩:=p;simp only at h;split at h;case h_2=>cases h
  simp only[aC,ae]at h;obtain⟨_,rfl⟩:=h;rw[ag]at d;subst d;rfl
end
section
variable {P:Program}{E:Env}{nt:Nat}{γ:Nat->Option Place}{I:IMap}{w0:World}{I0:IMap}{call:Callers}{st:St}{ub:Nat}{a:Act}{w:World}{ops:Array Oper}{als:List AOpr}{free:List (Nat × Nat)}{fps:List FP}
def mid_ok {m:Bool}{rn:Option Nat}{γ0:Nat->Option Place}{Iy:IMap}{Q:Exit->Act->World->Prop}{c:Nat}{ac:AOpr}{S:St}{c7:List St}(M:jyw ops als c=true) (b5:als[c]? = some ac)
 (c0:COk P E γ0 Iy call) (f7:SubG γ0 γ) (g6:SubI Iy I) (X:ops.toList.mapM (Jf P m ops)=some als) (B:Ya ops als=some free) (G:∀ao∈als,∀d,ao.dst=some d->d<nt)
 (hd:Yg E call (als.take c) st ub=some (fps,S)) (f8:Jc free fps=true) (f4:jbw fps=true) (hl:jkp E call [ac] S S.nx=some c7)
 (hx:∀s1∈c7,∃p,Yg E call (List.replicate (c+1) jgk++als.drop (c+1)) s1 s1.nx=some p/\Jc free p.1=true/\jbw p.1=true/\Nice E w0 I0 nt γ I p.2 p.2.nx (λa w=>Q .normal a w))
 (hR:R E w0 I0 nt γ I st a w) (hf:∀u,ub<=u->γ u=none):wpAnyIn (FW rn) 0 P .any ops Q ops.size (Array.replicate ops.size false) a w:=by
 obtain⟨J,d5⟩:=JA X
 have J:als.length=ops.size:=by rw[J,aL]
 obtain⟨y,e8⟩:=YL B J
 have i5:c<als.length:=(aj.1 b5).1
 unfold jyw at M
 simp only[ab,b5]at M
 obtain⟨⟨⟨_,O⟩,d3⟩,_⟩:=M
 have O:∀i,i<c->((JH ops.toList []).getD c 0).testBit i=true:=λi z=>av.1 O i (aM.2 z)
 have b7:∀j,c<j->j<ops.size->∀i,i<=c->((JH ops.toList []).getD j 0).testBit i=true:=by
  intro j F h2 i z
  have:=av.1 d3 j (aM.2 zO)
  have g8:Nat.ble j c=false:=by
   cases h:Nat.ble j c with
   |false=>rfl
   |true=>have:=ga h;omega
  rw[g8,bQ,ab]at this
  exact av.1 this.1 i (aM.2 zO)
 have T:∀i d,(Array.replicate ops.size false).getD i d=if i<ops.size then false else d:=by
  intro i d
  by_cases z:i<ops.size<;>simp[z]
 have k:∀(f:Array Bool) (i:Nat),i<f.size->f.getD i true=f.getD i false:=by
  intro f i z
  simp[z]
 obtain⟨b8,f6,rfl⟩:=Xg _ _ _ _ _ hd
 have c5:jS (λi=>(Array.replicate ops.size false).getD i false) b8 st=st:=by
  have:(λi=>(Array.replicate ops.size false).getD i false)=λ_=>false:=funext λi=>by rw[T];split<;>rfl
  rw[this]
  exact YK _ _
 have e5:(als.take c).length=c:=by rw[ai];omega
 refine jhs (bb:=false) (w0:=w0) (I0:=I0) (kk:=c) (al':=als.take c) (sp:=λ_=>false) zO e5 (λi ao z _ h=>by rw[cN,zb z];exact h) (λ_ _ h=>by cases h)
  (λj F h2 i h3=>?_) c0 X B f6 f8 f4 G (γ:=γ) (I:=I) (λ_ _ _ _ _ _ _ h=>by cases h) (λi6 I' a' w' n f f2 hm _ i3 f1 f0 d0 e1=>?_) ops.size (Array.replicate ops.size false) γ I a w zS
  (λj o K L=>?_) (λj L=>by rw[T];split<;>rfl) (λ_ h=>by cases h) zS (by rw[c5];exact hR) (λu hu=>hf u zO) (λj L u F h2=>hf u zO) (λ_ _ h=>h) (λ_ _ _ h=>h)
 ·rcases gC F with h|h
  ·exact b7 j h h2 i zO
  ·subst h
   exact O i h3
 rotate_left
 ·simp only[T]at L
  split at L<;>cases L
 -- the call
 have c2:c<ops.size:=zO
 have H:c<f.size:=zO
 have i2:jev ops (λi=>f.getD i false):=by
  intro i o K hd e he hb
  simp only[hm,ze]at hd ⊢
  have:=y i o K e he hb
  omega
 have c6:∀i,i∈Region.ready .any ops f->i=c:=by
  intro i z
  obtain⟨h0,o,K,h7⟩:=mem_ready.1 z
  have g0:i<ops.size:=(aO.1 K).1
  rw[k f i zO,hm i]at h0
  have F:c<=i:=by simpa using h0
  rcases gC F with h|h
  ·have:=Yx (D:=λi=>f.getD i false) y i2 K h7 (b7 i h zO c zK)
   simp only[hm,ze]at this
   omega
  ·exact h.symm
 have g1:c∈Region.ready .any ops f:=mem_ready.2 ⟨by rw[k f c H,hm c];simp,ops[c],aA c2,λe he hb=>by
  have:=y c _ (aA c2) e he hb
  rw[hm e.on]
  exact zi this⟩
 have U:=aH b5
 have K:=aA c2
 generalize ops[c]=o at K
 have Z:Jf P m ops o=some ac:=d5 c o ac (by rw[br];exact K) b5
 have d7:f[c]? = some false:=by
  have F:=hm c
  rw[aA H]
  simp only[dh,aA H,cy]at F
  rw[F]
  simp
 cases n with
 |zero=>
  have U:false∈f.toList:=dg.2 (eQ d7)
  have:=eF.2 U
  omega
 |succ n=>
 refine⟨(λhr=>zf (hr▸g1) cZ),λi z=>?_⟩
 rw[c6 i z]
 unfold wpOpIn
 simp only[K]
 simp only[jkp]at hl
 obtain⟨l,hl,f9⟩:=Jt hl
 refine jj7 c0 (f7.trans d0) (g6.trans e1) (f1.congr (st':={ jS (λ_=>true) b8 st with nx:=ub+64*(als.take c).length }) rfl rfl rfl rfl rfl) (λu hu=>f0 u (by rw[e5]at hu;exact hu)) Z (by rw[<- (Xh Z).1];exact G ac U) hl (λx g2=>?_)
 obtain⟨rx,e3,e2⟩:=f9 x g2
 simp only[ae]at e3
 subst e3
 obtain⟨p,hp,e6,e7,d1⟩:=hx _ (e2 _ (ag.2 rfl))
 intro d9 I2 a2 w2 g9 d6 i0 h6
 simp only at hp
 obtain⟨i4,S2⟩:=p
 obtain⟨q,N,rfl⟩:=Xg _ _ _ _ _ hp
 simp only at e6 e7 d1
 have c1:(f.setIfInBounds c true).toList.count false<=n:=by
  have hg:f.toList[c]? = some false:=by rw[br];exact d7
  have e4:c<f.toList.length:=by simpa using H
  rw[ep,ft e4]
  rw[aa e4]at hg
  simp only[ae]at hg
  rw[hg]
  simp only[beq_self_eq_true,zd]
  have:(true==false)=false:=rfl
  rw[this]
  simp only[ah,zc]
  omega
 have b0:∀i,(f.setIfInBounds c true).getD i false=decide (i<=c):=by
  intro i
  by_cases c9:i=c
  ·subst c9
   simp[H]
  ·rw[getD_set_ne false (dA c9),hm i]
   exact decide_eq_decide.2 ⟨λh=>by omega,λh=>by omega⟩
 have d4:(f.setIfInBounds c true).size=ops.size:=by simpa using f2
 generalize f.setIfInBounds c true=listed2 at *
 -- what is behind it
 have c3:(List.replicate (c+1) jgk++als.drop (c+1)).length=als.length:=by simp;omega
 have i7:q.length=als.length:=N.len.trans c3
 have d8:∀i,i<=c->q[i]? = some (none,{ v:=js }):=by
  intro i z
  obtain⟨δ,fp,F,h2,h3⟩:=N.at' i jgk (by rw[bl (by simp;omega),iy,zb zO])
  have:δ={ v:=js }:=by
   obtain⟨h4,_⟩:=jca h3 rfl
   rcases h4 with⟨_,h4⟩|⟨h4,h5⟩
   ·cases h4;rfl
   ·exact h5
  rw[F,this];rfl
 have a0:∀{β:Type}{π:St->β}{wr:Eff->Bool}{g:Eff->β}(s0:St),(∀(s:St) (e:Eff),π (s.app e.1 e.2)=if wr e then g e else π s)->wr (none,{ v:=js })=false ->
  π (jS (λi=>listed2.getD i false) q s0)=π s0:=by
  intro β π wr g s0 f5 hw
  have:=XV f5 q (λi=>listed2.getD i false) (λ_=>false) s0 s0 (λi e he c8=>?_) rfl
  ·rw[this,YK]
  ·rw[b0]
   by_cases d2:i<=c
   ·rw[d8 i d2]at he
    cases he
    rw[hw]at c8
    cases c8
   ·exact decide_eq_false d2
 have b6:=JG q (λi=>listed2.getD i false) { x.1 with nx:=x.2 }
 refine jhs (bb:=true) (w0:=w0) (I0:=I0) (kk:=als.length) (al':=List.replicate (c+1) jgk++als.drop (c+1)) (sp:=λi=>decide (i<=c)) zK c3 (λi ao z hs h=>?_) (λi _ h=>d8 i (of_decide_eq_true h))
  (λj F h2 i h3=>by omega) c0 X B N e6 e7 G (γ:=d9) (I:=I2) (λi n f c4 I3 a3 w3 f3 _ b9 _ _ e0 _ _ _ _ _ i1=>?_) (λc4 I3 a3 w3 n f b9 h9 _ _ e9 g3 g5 g7=>?_) n listed2 d9 I2 a2 w2 d4
  (λj oj g4 L e he hb=>?_) (λj L=>?_) (λj L=>?_) c1 ?_ (λu hu=>d6 u zO) (λj L u F h2=>d6 u zO) (λ_ _ h=>h) (λ_ _ _ h=>h)
 ·have F:¬i<=c:=of_decide_eq_false hs
  rw[bw (by simp;omega),List.length_replicate,bC,show c+1+(i-(c+1))=i by omega]
  exact h
 ·obtain⟨h0,o3,h8,_⟩:=mem_ready.1 i1
  have:i<f.size:=by rw[b9];exact(aO.1 h8).1
  rw[k f i this,e0 i f3]at h0
  cases h0
 ·have hr:Region.ready .any ops f=[]:=by
   cases hr:Region.ready .any ops f with
   |nil=>rfl
   |cons i r=>
    have z:i∈Region.ready .any ops f:=by rw[hr];exact aK ..
    obtain⟨h0,o,K,_⟩:=mem_ready.1 z
    have g0:i<ops.size:=(aO.1 K).1
    rw[k f i zO,h9 i,zi zO]at h0
    cases h0
  have hQ:=d1 c4 I3 a3 w3 (e9.congr rfl rfl rfl rfl rfl) (λu hu=>g3 u (by simp only[c3]at hu;exact hu)) (λu p h=>g5 u p (i0 u p (d0 u p h))) (λb o x h=>g7 b o x (h6 b o x (e1 b o x h)))
  cases n with
  |zero=>exact⟨hr,hQ⟩
  |succ n=>exact⟨λ_=>hQ,λi z=>by rw[hr]at z;cases z⟩
 ·simp only[b0,ze]at L ⊢
  have:=y j oj g4 e he hb
  omega
 ·rw[b0]
  exact decide_eq_false zO
 ·rw[b0]
  exact L
 ·refine g9.congr (funext λt=>?_) (funext λl=>?_) (funext λu=>?_) ?_ ?_
  ·exact a0 (π:=λs=>s.tm t) (wr:=wrT t) (g:=λe=>e.2.v) _ (jb8 t) rfl
  ·exact a0 (π:=λs=>s.ob l) (wr:=wrO l) (g:=λe=>Ji (λ_=>none) e.2.obs l) _ (jel l) rfl
  ·exact a0 (π:=λs=>s.tk u) (wr:=wrK u) (g:=λe=>e.2.add.contains u) _ (jh8 u) rfl
  ·exact b6.2.2.1
  ·exact b6.2.2.2
end
def exOf:Ex->Exit
 | .nrm=>.normal
 | .exit id=>.exit id
 | .ret=>.ret
section
variable {P:Program}{E:Env}{nt:Nat}{call:Y->Callers}
def j1g (P:Program) (E:Env) (nt:Nat) (call:Y->Callers) (y:Y) (N:Nat) (γ0:Nat->Option Place) (Iy:IMap) (c:Code) (ac:C) (rn:Option Nat):Prop :=
 ∀(w0:World) (I0:IMap) (Q:Exit->Act->World->Prop) (st:St) (l:List (Ex×St)) (γ:Nat->Option Place) (I:IMap) (a:Act) (w:World),SubG γ0 γ->SubI Iy I ->
  jh E call y N ac st=some l->R E w0 I0 nt γ I st a w->(∀u,st.nx<=u->γ u=none)->(∀x∈l,Nice E w0 I0 nt γ I x.2 x.2.nx (λa w=>Q (exOf x.1) a w))->c.wpIn (FW rn) 0 P Q a w
def jxh {y:Y}{N:Nat}{γ0 o:Nat->Option Place}{Iy I1:IMap}{asg bd:C}{ca cb:Code}{st:St}{L lb ub:Nat}{rec:Loop}{ps:Array Nat}
 (ha:j1g P E nt call y N γ0 Iy ca asg (some L)) (hb:j1g P E nt call y N γ0 Iy cb bd (some L)) (hg:SubG γ0 o) (hI:SubI Iy I1) (hu:o ub=some (.obj L (.lp rec)))
 (d9:∀t,Rep o I1 (rec.tmps.getD t undef) (st.tm t)) (b6:rec.tmps.size=nt) (d1:rec.params=ps) (d4:∀p∈ps.toList,p<nt) (d5:rec.assign=ca) (e0:rec.body=cb) :
 YOk P E o I1 (jbe (jh E call y N asg) (jh E call y N bd) st ps.toList lb ub):=by
 intro l' u' args f6 f7 f5 e6 r ob' b8 d0 d
 unfold jbe at d
 simp only[aC]at d
 obtain⟨⟨f4,e5,D,c5⟩,d⟩:=d
 subst l'
 subst u'
 split at d
 case h_2=>cases d
 rename_i u1 b0
 simp only[aC]at d
 obtain⟨e5,d⟩:=d
 subst u1
 split at d
 case h_2=>cases d
 rename_i s1 b7
 split at d
 case h_2=>cases d
 rename_i u2 F
 simp only[aC]at d
 obtain⟨f2,d⟩:=d
 subst u2
 split at d
 case h_2=>cases d
 rename_i e s2 c0
 split at d
 case h_2=>cases d
 rename_i u3 B
 simp only[aC]at d
 obtain⟨f3,d⟩:=d
 subst u3
 intro w0 w I0 I γ xs Z b k m O b9 c2 d2 c6 e4 c4 X c8
 rw[m _ _ hu]at c8
 cases c8
 subst b9
 subst c2
 subst d2
 have K:=m _ _ hu
 obtain⟨r0,i,S⟩:=ji1 c6 b0 K
 cases i
 have e7:=run_yield (P:=P) (args:=xs) S (by show xs.size=rec.params.size;rw[d1,c4,D];simp)
 refine⟨_,_,_,_,e7,?_⟩
 simp only[d5,e0]
 have c9:∀p∈ps.toList,p<rec.tmps.size:=by rw[b6];exact d4
 have J:=jl7 (γ:=γ) (I:=I) ps.toList args xs.toList rec.tmps st.tm (by simpa using c4) D c9 (λt=>(d9 t).mono m O) (λj x v f hv=>X j x v (by simpa using f) hv)
 have Q:(rec.params.zip xs).foldl (λtmps (t,a)=>tmps.setIfInBounds t a) rec.tmps=(ps.toList.zip xs.toList).foldl (λtmps (t,a)=>tmps.setIfInBounds t a) rec.tmps:=by
  rw[d1,<- Array.foldl_toList,Array.toList_zip]
 refine roundIn_of_wpIn trivial ?_
 show Code.wpIn (FW (some L)) 0 P _ _ _ _
 have e8:R E w0 I0 nt γ I { tm:=jfw st.tm ps.toList args,ob:=Z.ob,tk:=Z.tk,ro:=Z.ro,nx:=e6,fb:=st.fb,df:=[] } { tmps:=(rec.params.zip xs).foldl (λtmps (t,a)=>tmps.setIfInBounds t a) rec.tmps,defers:=[] } w:=by
  rw[Q]
  exact⟨J.1.trans b6,trivial,J.2,c6.congr rfl rfl rfl⟩
 refine ha w0 I0 _ _ _ γ I _ w (hg.trans m) (hI.trans O) b7 e8 e4 (λx f=>?_)
 rw[ag]at f
 subst f
 intro a0 I2 a2 w2 n f1 U b5
 -- the round begins
 have g:=U _ _ K
 obtain⟨r0,i,u⟩:=ji1 n.sh F g
 cases i
 have e9:=run_beginRound (P:=P) u rfl
 refine⟨_,e9,?_⟩
 show Code.wpIn (FW (some L)) 0 P _ _ _ _
 have z:s1.ro=Z.ro:=jle _ b7 _ (ag.2 rfl)
 have c1:=n.sh.turn (ob':=upd s1.ob lb (some ⟨ub,.loop .busy none⟩)) (o':=.loop { rec with state:=.busy,pending:=none }) F g (by rw[z];exact c5) (λl2 x f=>by
  rw[yg]at f
  split at f
  ·rename_i M;subst M;cases f;exact .inr ⟨rfl,rfl,⟨rec,rfl,rfl⟩,λ_ _ h=>by cases h⟩
  ·rename_i M;exact .inl ⟨M,f⟩)
 have d7:R E w0 I0 nt a0 I2 { s1 with ob:=upd s1.ob lb (some ⟨ub,.loop .busy none⟩) } a2 (w2.putObj L (.loop { rec with state:=.busy,pending:=none })):=⟨n.sz,n.df,n.tm,c1⟩
 refine hb w0 I0 _ _ _ a0 I2 _ _ ((hg.trans m).trans U) ((hI.trans O).trans b5) c0 d7 f1 (λx f=>?_)
 rw[ag]at f
 subst f
 intro d3 I3 a3 w3 c7 f0 c3 d8
 have l:=c3 _ _ g
 obtain⟨r0,i,q⟩:=ji1 c7.sh B l
 cases i
 have G:s2.ro=Z.ro:=(jle _ c0 _ (ag.2 rfl)).trans z
 -- the round ends
 have T:∀(c:Option Ex) (s:LS),lsOf s=(if (c.map jbj).isNone then .ready else .done)->some (V.bool (c.map jbj).isNone,upd s2.ob lb (some ⟨ub,.loop s c⟩),s2.tk,s2.nx)=some (r,ob',b8,d0) ->
  ∃v w',(Instr.endRound L (c.map jbj)).run P w3=.ok v w'/\Wy E w0 I0 γ I Z.ro r ob' b8 d0 (.returned v) w':=by
  intro c s hs he
  cases he
  have d6:=run_endRound (P:=P) (c.map jbj) q
  refine⟨_,_,d6,.bool (c.map jbj).isNone,d3,I3,rfl,λf8 e1 e2 e3=>?_,.pure _ _ (.bool _),SubG.trans U c3,SubI.trans b5 d8,f0⟩
  have H:=c7.sh.turn (ob':=upd s2.ob lb (some ⟨ub,.loop s c⟩)) (o':=.loop { rec with state:=lsOf s,pending:=c.map jbj }) B l (by rw[G];exact c5) (λl2 x f=>by
   rw[yg]at f
   split at f
   ·rename_i M;subst M;cases f;exact .inr ⟨rfl,rfl,⟨rec,rfl,rfl⟩,λ_ _ h=>by cases h⟩
   ·rename_i M;exact .inl ⟨M,f⟩)
  rw[hs]at H
  exact H.congr e1 e2 (e3.trans G.symm)
 cases e with
 |nrm=>exact T none .ready rfl d
 |ret=>exact T (some .ret) .done rfl d
 |exit id=>exact T (some (.exit id)) .done rfl d
def jbl {l:List AOpr}{n:Nat}(h:(l.all λo=>match o.dst with|some d=>Nat.blt d n|none=>true)=true):∀b∈l,∀d,b.dst=some d->d<n:=by intro b c d a;have:=av.1 h b c;simp only[a]at this;simpa[dk] using this
def WX (ops:Array Oper):∀n,J6 ops n<=n/\∀j,J6 ops n<=j->j<n->∀i,i<j->((JH ops.toList []).getD j 0).testBit i=true
 |0=>⟨zK,λj _ h=>by omega⟩
 |n+1=>by
  obtain⟨g,f⟩:=WX ops n;have e:J6 ops (n+1)=if (List.range n).all λi=>((JH ops.toList []).getD n 0).testBit i then J6 ops n else n+1:=by unfold J6;rw[dN,gP];rfl
  rw[e];split;rename_i a;refine⟨zO,λj c b i d=>?_⟩;rcases bg.1 b with h|rfl;exact f j c h i d;exact av.1 a i (aM.2 d);exact⟨zK,λj c b=>by omega⟩
def jke (ops:Array Oper) (n:Nat):J6 ops n<=n:=(WX ops n).1
def jfx (ops:Array Oper) (n:Nat):∀j,J6 ops n<=j->j<n->∀i,i<j->((JH ops.toList []).getD j 0).testBit i=true:=(WX ops n).2
def jx6 {b:Type}{x:Option (List b)}{a:b}(h:only x=some a):x=some [a]:=by unfold only at h;split at h;cases h;rfl;cases h
def jqg (hm:P.follows .mixedOrders=true) (c6:joh P E call) (N:Nat) {y:Y}{γ0:Nat->Option Place}{Iy:IMap}(hy:YOk P E γ0 Iy y) :
 ∀(c:Code) (ac:C) (m r:Bool) (rn:Option Nat),(r=true\/rn=none)->comp P m r c=some ac->ac.dstOk nt=true->j1g P E nt call y N γ0 Iy c ac rn:=by
 intro c
 induction c with
 |skip=>
  intro ac m r rn K F T w0 I0 Q b l γ I a w G H D O X Z
  cases F
  cases D
  exact wpIn_skip (Z _ (ag.2 rfl) γ I a w O X (λ_ _ h=>h) (λ_ _ _ h=>h))
 |ret=>
  intro ac m r rn K F T w0 I0 Q b l γ I a w G H D O X Z
  cases F
  cases D
  exact wpIn_ret (Z _ (ag.2 rfl) γ I a w O X (λ_ _ h=>h) (λ_ _ _ h=>h))
 |exit id=>
  intro ac m r rn K F T w0 I0 Q b l γ I a w G H D O X Z
  cases F
  cases D
  exact wpIn_exit (Z _ (ag.2 rfl) γ I a w O X (λ_ _ h=>h) (λ_ _ _ h=>h))
 |region id J drawn=>
  intro ac m r rn K F T w0 I0 Q b l γ I a w G H D O X Z
  cases drawn with
  |false=>
   simp only[comp]at F
   obtain⟨B,a0,rfl⟩:=yh F
   simp only[jh]at D
   obtain⟨d9,c1,rfl⟩:=yh D
   exact wpIn_region_list (jx5 (c6 _ _ _ hy) _ B a0 (jbl T) γ I b a w b.nx d9 G H O X c1 (λc2 c5=>Z _ (aE.2 ⟨c2,c5,rfl⟩)))
  |true=>
   simp only[comp]at F
   obtain⟨B,a0,F⟩:=yh F
   split at F
   case h_2=>subst F;cases D
   rename_i free b6
   obtain⟨f6,_⟩:=JA a0
   have f6:B.length=J.size:=by rw[f6,aL]
   have U:∀i d,(Array.replicate J.size false).getD i d=if i<J.size then false else d:=by
    intro i d
    by_cases hi:i<J.size<;>simp[hi]
   split at F
   ·generalize hk:J6 J B.length=k at F
    have k4:k<=B.length:=hk▸jke J B.length
    have e5:∀j,k<=j->j<J.size->∀i,i<j->((JH J.toList []).getD j 0).testBit i=true:=λj h1 h2=>jfx J B.length j (by rw[hk];exact h1) zO
    split at F
    ·rename_i c b9
     obtain⟨_,b9⟩:=cH.1 b9
     have n9:c+1<k:=by
      unfold j2y at b9
      simp only[ab,dk]at b9
      exact b9.1.1.1
     have b8:=aa (show c<B.length by omega)
     have g2:B.getD c jgk=B[c]' zO:=by rw[am,b8];rfl
     subst F
     rw[g2]at D T
     generalize B[c]' zO=d7 at *
     simp only[jh]at D
     obtain⟨l1,h1,h2⟩:=Jt D
     obtain⟨⟨e4,S⟩,c1,h1⟩:=yc h1
     simp only[aC,ae]at h1
     obtain⟨M,rfl⟩:=h1
     rw[ab]at M
     obtain⟨rx,h3,h4⟩:=h2 _ (ag.2 rfl)
     simp only at h3
     obtain⟨l2,h5,h6⟩:=Jt h3
     obtain⟨l3,h7,h8⟩:=Jt h5
     have d8:∀ao∈B,∀d,ao.dst=some d->d<nt:=by
      simp only[C.dstOk,ab]at T
      obtain⟨d1,d2,d3⟩:=T
      intro ao e0
      obtain⟨i,hi,rfl⟩:=ba e0
      by_cases n2:i<k
      ·by_cases d0:i=c
       ·subst d0
        have:B[i]=d7:=by rw[aa hi]at b8;simpa using b8
        rw[this]
        exact jbl d2 d7 (aK ..)
       ·refine jbl d1 _ (aH (i:=i) ?_)
        rw[cP (dA d0),cN,zb n2,aa hi]
      ·refine jbl d3 _ (aH (i:=i-k) ?_)
       rw[bC,show k+(i-k)=i by omega,aa hi]
     refine wpIn_region_any hm (pin_ok (w0:=w0) (I0:=I0) k4 e5 b9 b8 (c6 _ _ _ hy) G H a0 b6 d8 c1 M.1 M.2 h7 (λx hx=>?_) (O.drawn _) X)
     obtain⟨o0,h9,m2⟩:=h8 x hx
     obtain⟨p,hp,k7⟩:=yc h9
     simp only[aC,ae]at k7
     obtain⟨g7,rfl⟩:=k7
     obtain⟨l5,e9,g3⟩:=h6 _ (m2 _ (ag.2 rfl))
     simp only at e9
     obtain⟨d9,c4,rfl⟩:=yh e9
     exact⟨p,d9,hp,g7,c4,λc2 c5=>Z _ (h4 _ (g3 _ (aE.2 ⟨c2,c5,rfl⟩)))⟩
    subst F
    simp only[jh]at D
    obtain⟨l1,h1,h2⟩:=Jt D
    obtain⟨⟨e4,c2⟩,c1,h1⟩:=yc h1
    simp only[aC,ae]at h1
    obtain⟨M,rfl⟩:=h1
    rw[ab]at M
    obtain⟨M,g5⟩:=M
    obtain⟨rx,h3,h4⟩:=h2 _ (ag.2 rfl)
    simp only at h3
    obtain⟨d9,c4,rfl⟩:=yh h3
    obtain⟨d5,g6,rfl⟩:=Xg (B.take k) b b.nx e4 c2 c1
    have d8:∀ao∈B,∀d,ao.dst=some d->d<nt:=by
     simp only[C.dstOk,ab]at T
     intro ao e0
     rw[<- du k B]at e0
     rcases aQ.1 e0 with h|h
     ·exact jbl T.1 ao h
     ·exact jbl T.2 ao h
    have e6:jS (λi=>(Array.replicate J.size false).getD i false) d5 b=b:=by
     have:(λi=>(Array.replicate J.size false).getD i false)=λ_=>false:=funext λi=>by rw[U];split<;>rfl
     rw[this]
     exact YK _ _
    have k5:(B.take k).length=k:=by rw[ai];omega
    refine wpIn_region_any hm (jhs (bb:=false) (w0:=w0) (I0:=I0) (kk:=k) (al':=B.take k) (sp:=λ_=>false) k4 k5 (λi ao hi _ h=>by rw[cN,zb hi];exact h) (λ_ _ h=>by cases h) (λj h1 h2 i h3=>e5 j h1 h2 i zO) (c6 _ _ _ hy) a0 b6 g6 M g5 d8 (γ:=γ) (I:=I) (λ_ _ _ _ _ _ _ h=>by cases h) (λc3 I' a' w' i8 f3 l4 i0 _ i3 c8 c7 hg hI=>?_) J.size (Array.replicate J.size false) γ I a _ zS ?_ ?_ (λ_ h=>by cases h) ?_ ?_ ?_ ?_ (λ_ _ h=>h) (λ_ _ _ h=>h))
    ·exact jl9 e5 (c6 _ _ _ hy) a0 b6 d8 (J.size-k) k zK zO i8 f3 c3 I' { jS (λ_=>true) d5 b with nx:=b.nx+64*(B.take k).length } a' w' (b.nx+64*(B.take k).length) d9 l4 i0 i3 (G.trans hg) (H.trans hI) (c8.congr rfl rfl rfl rfl rfl) (λu hu=>c7 u (by rw[k5]at hu;exact hu)) c4
      (λc2 c5=>(Z _ (h4 _ (aE.2 ⟨c2,c5,rfl⟩))).weaken hg hI)
    ·intro j o ho hj
     simp only[U]at hj
     split at hj<;>cases hj
    ·intro j hj
     rw[U];split<;>rfl
    ·simp
    ·rw[e6]
     exact O.drawn _
    ·intro u hu
     exact X u zO
    ·intro j hj u h1 h2
     exact X u zO
   split at F
   ·rename_i c b5
    have b5:jyw J B c=true:=by
     cases m with
     |false=>cases b5
     |true=>
      obtain⟨_,b5⟩:=cH.1 b5
      exact b5
    have i9:∃ac,B[c]? = some ac:=by
     have h:=b5
     unfold jyw at h
     cases h0:B[c]? with
     |none=>simp[h0]at h
     |some ac=>exact⟨ac,rfl⟩
    obtain⟨d7,b8⟩:=i9
    have n8:c<B.length:=(aj.1 b8).1
    have g2:B.getD c jgk=d7:=by rw[am,b8];rfl
    subst F
    rw[g2]at D T
    simp only[jh]at D
    obtain⟨l1,h1,h2⟩:=Jt D
    obtain⟨⟨e4,S⟩,c1,h1⟩:=yc h1
    simp only[aC,ae]at h1
    obtain⟨M,rfl⟩:=h1
    rw[ab]at M
    obtain⟨rx,h3,h4⟩:=h2 _ (ag.2 rfl)
    simp only at h3
    obtain⟨l2,h5,h6⟩:=Jt h3
    obtain⟨d9,c4,rfl⟩:=yh h5
    have d8:∀ao∈B,∀d,ao.dst=some d->d<nt:=by
     simp only[C.dstOk,ab]at T
     obtain⟨d1,d2,d3⟩:=T
     intro ao e0
     obtain⟨i,hi,rfl⟩:=ba e0
     rcases dQ i c with d0|d0|d0
     ·refine jbl d1 _ (aH (i:=i) ?_)
      rw[cN,zb d0,aa hi]
     ·subst d0
      have:B[i]=d7:=by rw[aa hi]at b8;simpa using b8
      rw[this]
      exact jbl d2 d7 (aK ..)
     ·refine jbl d3 _ (bU _ (aH (i:=i-(c+1)) ?_))
      rw[bC,show c+1+(i-(c+1))=i by omega,aa hi]
    refine wpIn_region_any hm (mid_ok (w0:=w0) (I0:=I0) b5 b8 (c6 _ _ _ hy) G H a0 b6 d8 c1 M.1 M.2 c4 (λs1 m7=>?_) (O.drawn _) X)
    obtain⟨l5,e9,g3⟩:=h6 _ (aE.2 ⟨s1,m7,rfl⟩)
    simp only at e9
    obtain⟨⟨k8,S2⟩,k9,i4⟩:=yc e9
    simp only[aC,ae]at i4
    obtain⟨e7,rfl⟩:=i4
    rw[ab]at e7
    exact⟨(k8,S2),k9,e7.1,e7.2,Z _ (h4 _ (g3 _ (ag.2 rfl)))⟩
   subst F
   simp only[jh]at D
   obtain⟨⟨e4,c2⟩,c1,D⟩:=yc D
   simp only[aC,ae]at D
   obtain⟨M,rfl⟩:=D
   rw[ab]at M
   obtain⟨M,g5⟩:=M
   obtain⟨d5,g6,rfl⟩:=Xg B b b.nx e4 c2 c1
   have e6:jS (λi=>(Array.replicate J.size false).getD i false) d5 b=b:=by
    have:(λi=>(Array.replicate J.size false).getD i false)=λ_=>false:=funext λi=>by rw[U];split<;>rfl
    rw[this]
    exact YK _ _
   refine wpIn_region_any hm (any_ok (w0:=w0) (I0:=I0) (c6 _ _ _ hy) a0 b6 g6 M g5 (jbl T) (γ:=γ) (I:=I) (λc3 I' a' w' c8 c7 hg hI=>?_) J.size (Array.replicate J.size false) γ I a _ zS ?_ ?_ ?_ ?_ ?_ (λ_ _ h=>h) (λ_ _ _ h=>h))
   ·exact Z _ (ag.2 rfl) c3 I' a' w' (c8.congr rfl rfl rfl rfl rfl) c7 hg hI
   ·intro j o ho hj
    simp only[U]at hj
    split at hj<;>cases hj
   ·simp
   ·rw[e6]
    exact O.drawn _
   ·intro u hu
    exact X u zO
   ·intro j hj u h1 h2
    exact X u zO
 |seq x z g9 g4=>
  intro ac m r rn K F T w0 I0 Q b l γ I a w G H D O X Z
  simp only[comp]at F
  obtain⟨ax,hx,F⟩:=yc F
  obtain⟨az,hz,rfl⟩:=yh F
  simp only[C.dstOk,ab]at T
  simp only[jh]at D
  obtain⟨l1,h1,h2⟩:=Jt D
  refine wpIn_seq (g9 ax m r rn K hx T.1 w0 I0 _ b l1 γ I a w G H h1 O X (λp hp=>?_))
  obtain⟨e,s⟩:=p
  obtain⟨rx,h3,h4⟩:=h2 _ hp
  cases e with
  |nrm=>
   intro c3 I' a' w' c8 c7 hg hI
   exact g4 az m r rn K hz T.2 w0 I0 Q s rx c3 I' a' w' (G.trans hg) (H.trans hI) h3 c8 c7 (λp hp=>(Z p (h4 p hp)).weaken hg hI)
  |exit i=>
   simp only[ae]at h3
   subst h3
   exact Z _ (h4 _ (ag.2 rfl))
  |ret=>
   simp only[ae]at h3
   subst h3
   exact Z _ (h4 _ (ag.2 rfl))
 |cond q x z g9 g4=>
  intro ac m r rn K F T w0 I0 Q b l γ I a w G H D O X Z
  simp only[comp]at F
  obtain⟨aq,hq,F⟩:=yc F
  obtain⟨ax,hx,F⟩:=yc F
  obtain⟨az,hz,rfl⟩:=yh F
  simp only[C.dstOk,ab]at T
  have U:=jD O hq
  have hv:∀t,ye E b.tm aq=.bool t->a.eval q=.bool t:=by
   intro t ht
   rw[ht]at U
   exact Xd U
  simp only[jh]at D
  split at D
  ·rename_i hb
   exact wpIn_cond_true (hv _ hb) (g9 ax m r rn K hx T.1 w0 I0 Q b l γ I a w G H D O X Z)
  ·rename_i hb
   exact wpIn_cond_false (hv _ hb) (g4 az m r rn K hz T.2 w0 I0 Q b l γ I a w G H D O X Z)
  ·cases D
 |block id x ih=>
  intro ac m r rn K F T w0 I0 Q b l γ I a w G H D O X Z
  simp only[comp]at F
  obtain⟨ax,hx,rfl⟩:=yh F
  simp only[jh]at D
  obtain⟨l1,h1,rfl⟩:=yh D
  refine wpIn_block (ih ax m r rn K hx T w0 I0 _ b l1 γ I a w G H h1 O X (λp hp=>?_))
  have:=Z _ (aE.2 ⟨p,hp,rfl⟩)
  obtain⟨e,s⟩:=p
  cases e with
  |nrm=>exact this
  |ret=>exact this
  |exit i=>
   simp only[exOf,Exit.inBlock]
   by_cases hi:i=id
   ·simp only[hi,zd]at this ⊢
    exact this
   ·simp only[hi,zc]at this ⊢
    exact this
 |loop x ih=>
  intro ac m r rn K F T w0 I0 Q b l γ I a w G H D O X Z
  simp only[comp]at F
  obtain⟨ax,hx,rfl⟩:=yh F
  simp only[jh]at D
  have n3:∀(n:Nat) (b:St) (l:List (Ex×St)) (γ:Nat->Option Place) (I:IMap) (a:Act) (w:World),SubG γ0 γ->SubI Iy I->jcs (jh E call y N ax) n b=some l->R E w0 I0 nt γ I b a w->(∀u,b.nx<=u->γ u=none) ->
   (∀x∈l,Nice E w0 I0 nt γ I x.2 x.2.nx (λa w=>Q (exOf x.1) a w))->Code.roundsIn (FW rn) 0 P x Q n a w:=by
   intro n
   induction n with
   |zero=>intro b l γ I a w _ _ D;cases D
   |succ n l0=>
    intro b l γ I a w G H D O X Z
    simp only[jcs]at D
    obtain⟨l1,h1,h2⟩:=Jt D
    rw[roundsIn_succ]
    refine ih ax m r rn K hx T w0 I0 _ b l1 γ I a w G H h1 O X (λp hp=>?_)
    obtain⟨e,s⟩:=p
    obtain⟨rx,h3,h4⟩:=h2 _ hp
    cases e with
    |nrm=>
     intro c3 I' a' w' c8 c7 hg hI
     exact l0 s rx c3 I' a' w' (G.trans hg) (H.trans hI) h3 c8 c7 (λp hp=>(Z p (h4 p hp)).weaken hg hI)
    |exit i=>
     simp only[ae]at h3
     subst h3
     exact Z _ (h4 _ (ag.2 rfl))
    |ret=>
     simp only[ae]at h3
     subst h3
     exact Z _ (h4 _ (ag.2 rfl))
  exact wpIn_loop_rounds N (n3 N b l γ I a w G H D O X Z)
 |rangeFunc f ps ca cb m5 l6=>
  intro ac m r rn K F T w0 I0 Q b l γ I a w G H D O X Z
  cases r with
  |true=>cases F;cases D
  |false=>
  have K:rn=none:=K.resolve_left zS
  subst K
  simp only[comp,cond_false]at F
  obtain⟨af,m3,F⟩:=yc F
  obtain⟨j1,n7,F⟩:=yc F
  obtain⟨bd,l8,rfl⟩:=yh F
  simp only[C.dstOk,ab]at T
  obtain⟨⟨m0,n5⟩,l9⟩:=T
  simp only[jh]at D
  split at D
  case h_2=>cases D
  rename_i g first i2 n0
  obtain⟨⟨rv,ob,tk,ub⟩,c9,D⟩:=yc D
  have c9:=jx6 c9
  have k2:=jD O m3
  rw[n0]at k2
  obtain⟨fx,cx,n1,s1,s2,s3,s4⟩:=jeo k2
  -- the two blocks
  refine wpIn_rangeFunc (λfn _=>?_)
  have f8:γ (b.nx+1)=none:=X _ zO
  have k1:=O.sh.alloc (d:=2*b.nx+3) f8 (obj:=.deferred (some [])) (body:=.dfr) (k:=.n 0) rfl
  have f1:(upd γ (b.nx+1) (some (.obj w.heap.size (.n 0)))) b.nx=none:=by
   rw[JQ _ _ zO]
   exact X _ zK
  generalize b0:({ state:=.ready,pending:=none,fn,tmps:=a.tmps,params:=ps,assign:=ca,body:=cb,defers:=w.heap.size }:Loop)=rec
  have g1:=k1.alloc (d:=2*b.nx+1) f1 (obj:=.loop rec) (body:=.loop .ready none) (k:=.lp rec) ⟨rec,rfl,by rw[<- b0];rfl⟩
  generalize d6:upd (upd γ (b.nx+1) (some (.obj w.heap.size (.n 0)))) b.nx (some (.obj (w.alloc (.deferred (some []))).heap.size (.lp rec)))=γ1 at g1
  have b7:SubG γ γ1:=by
   rw[<- d6]
   exact SubG.trans (Q7 f8) (Q7 f1)
  have f0:γ1 b.nx=some (.obj (w.heap.size+1) (.lp rec)):=by rw[<- d6];simp
  have i5:γ1 (b.nx+1)=some (.obj w.heap.size (.n 0)):=by rw[<- d6,JQ _ _ zO];simp
  have m4:∀p∈ps.toList,p<nt:=λp hp=>by
   have:=av.1 m0 p hp
   simpa[dk] using this
  have m8:YOk P E γ1 I (jbe (jh E call y N j1) (jh E call y N bd) b ps.toList (2*b.nx+1) b.nx) :=
   jxh (L:=w.heap.size+1) (rec:=rec) (ca:=ca) (cb:=cb) (ps:=ps) (m5 j1 m true (some (w.heap.size+1)) (.inl rfl) n7 n5) (l6 bd m true (some (w.heap.size+1)) (.inl rfl) l8 l9) (G.trans b7) H f0
    (λt=>by rw[<- b0];exact(O.tm t).mono b7 (λ_ _ _ h=>h)) (by rw[<- b0];exact O.sz) (by rw[<- b0]) m4 (by rw[<- b0]) (by rw[<- b0])
  obtain⟨m9,i6⟩:=(c6 γ1 I _ m8).s _ _ _ _ _ _ _ _ c9
  obtain⟨o2,cc,e1,e2,e3⟩:=m9
  have l7:=jeg (P:=P) (w:=(w.alloc (.deferred (some []))).alloc (.loop rec)) e1 e2 e3
  have i1:Rep γ1 I (.func (.yield (w.heap.size+1)) #[] #[]) (.yld (2*b.nx+1) b.nx):=.yld _ _ _ _ f0
  obtain⟨t1,t2⟩:=ja3 (γ:=γ1) (I:=I) (xs:=fx) (ys:=#[.func (.yield (w.heap.size+1)) #[] #[]]) (us:=first) (vs:=[.yld (2*b.nx+1) b.nx]) s1 rfl (λj x v hx hv=>(s3 j x v hx hv).mono b7 (λ_ _ _ h=>h)) (λj x v hx hv=>by
   match j with
   |0=>simp at hx hv;subst hx;subst hv;exact i1
   |j+1=>simp at hv)
  obtain⟨u1,u2⟩:=ja3 (γ:=γ1) (I:=I) t1 s2 t2 (λj x v hx hv=>(s4 j x v hx hv).mono b7 (λ_ _ _ h=>h))
  have k6:∀u,b.nx+64<=u->γ1 u=none:=by
   intro u hu
   rw[<- d6,JQ _ _ zO,JQ _ _ zO]
   exact X _ zO
  have f4:=i6 w0 _ I0 I γ1 _ { b with ob:=upd (upd b.ob (2*b.nx+3) (some ⟨b.nx+1,.dfr⟩)) (2*b.nx+1) (some ⟨b.nx,.loop .ready none⟩) } (SubG.refl _) (SubI.refl _) rfl rfl rfl g1 k6 u1 u2
  have f9:=run_enterLoop_outer (P:=P) (w:=w) fn a.tmps ps ca cb
  rw[b0]at f9
  refine⟨_,_,_,{ target:=.fn (.func g) cx,args:=fx++#[.func (.yield (w.heap.size+1)) #[] #[]] },(w.alloc (.deferred (some []))).alloc (.loop rec),g,fx++#[.func (.yield (w.heap.size+1)) #[] #[]]++cx,(w.alloc (.deferred (some []))).alloc (.loop rec),f9,?_,λ_ _=>trivial,?_,(λh=>by cases h),?_⟩
  ·have f5:Array.map a.eval #[Operand.const (.func (.yield (w.heap.size+1)) #[] #[])]=#[.func (.yield (w.heap.size+1)) #[] #[]]:=by simp[Act.eval]
   simp only[resolve,n1,Deferred.ofValue,aG,f5]
  ·simp only[invoke]
   exact l7 _
  ·refine j0z (Calls.mono f4 λe w3 he=>?_)
   obtain⟨_,f5,he⟩:=he
   rw[ag]at f5
   subst f5
   obtain⟨x,c3,I',rfl,n6,U,e8,i7,k3⟩:=he
   simp only at D
   split at D
   case h_2=>cases D
   rename_i u s d4 f7
   simp only[aC,ae]at D
   obtain⟨⟨rfl,o1,m1⟩,rfl⟩:=D
   have f2:=e8 _ _ f0
   have g0:=n6 { b with ob:=ob,tk:=tk } rfl rfl rfl
   obtain⟨r0,m6,g8⟩:=ji1 g0 f7 f2
   cases m6
   have n4:lsOf s≠.busy:=by cases s<;>simp_all [lsOf]
   have k0:=run_endLoop (P:=P) g8 n4
   have j2:=g0.turn (ob':=λk=>if Nat.beq (2*b.nx+1) k then none else ob k) (o':=.loop { rec with state:=.exhausted,pending:=d4.map jbj }) f7 f2 m1 (λl2 x hx=>by
    split at hx
    ·cases hx
    ·rename_i h2;exact .inl ⟨λe=>h2 (by rw[e];exact cL _),hx⟩)
   refine⟨d4.map jbj,_,k0,?_⟩
   have c0:=Z _ (ag.2 rfl) c3 I' { tmps:=a.tmps,defers:=[{ target:=.collected w.heap.size,args:=#[] }]++a.defers } (w3.putObj (w.heap.size+1) (.loop { rec with state:=.exhausted,pending:=d4.map jbj }))
    ⟨O.sz,⟨⟨w.heap.size,.n 0,rfl,e8 _ _ i5⟩,(O.df.mono b7).mono e8⟩,λt=>(O.tm t).mono (b7.trans e8) i7,j2.congr rfl rfl rfl⟩ k3 (b7.trans e8) i7
   cases d4 with
   |none=>exact c0
   |some e=>
    cases e with
    |nrm=>exact wpIn_skip c0
    |ret=>exact wpIn_ret c0
    |exit i=>exact wpIn_exit c0
 |_=>
  intro ac m r rn K F T w0 I0 Q b l γ I a w G H D
  cases F
  cases D
end
def jwk (γ:Nat->Option Place) (x:Value):V->Option Place
 | .sl (some (u,_)) _ _ _=>γ u
 | .osl _ u _ n sz=>match γ u,x with
  |some (.obj b _),.slice _ _ cap=>some (.tok b n cap sz)
  |_,_=>none
 |_=>none
def jem (st:St) (keep:Bool) (l u off n sz:Nat):Bool :=
 match j0 st.ob l u with
 |some cs0=>keep&&Nat.beq off 0&&Nat.blt 0 n&&Nat.beq (n*sz) cs0.length
 |none=>false
def plLeaf (γ:Nat->Option Place) (st:St) (keep:Bool) (i:Nat) (x:Value):V->List (Nat×Nat×Option Place)
 | .sl (some (u,z)) nl n cs=>if keep&&st.tk u then [(i,u,jwk γ x (.sl (some (u,z)) nl n cs))] else []
 | .osl l u off n sz=>if jem st keep l u off n sz then [(i,u,jwk γ x (.osl l u off n sz))] else []
 |_=>[]
def plList (γ:Nat->Option Place) (st:St) (keep:Bool):Nat->List Value->List V->List (Nat×Nat×Option Place)
 |i,x::xs,v::vs=>plLeaf γ st keep i x v++plList γ st keep (i+1) xs vs
 |_,_,_=>[]
def aggL:Value->List Value
 | .agg xs=>xs.toList
 |_=>[]
def plTop (γ:Nat->Option Place) (st:St) (keep:Bool) (i:Nat) (x:Value):V->List (Nat×Nat×Option Place)
 | .agg cs=>plList γ st keep i (aggL x) cs
 |v=>plLeaf γ st keep i x v
def plTops (γ:Nat->Option Place) (st:St) (keep:Bool):Nat->List Value->List V->List (Nat×Nat×Option Place)
 |i,x::xs,v::vs=>plTop γ st keep i x v++plTops γ st keep (i+16) xs vs
 |_,_,_=>[]
def jaq:∀{l:List Nat},yH l=true->l.Nodup
 |[],_=>dH
 |a::l,h=>by simp only[yH,ab,bG]at h;refine cX.2 ⟨λc=>?_,jaq h.2⟩;have:(l.any λb=>Nat.beq a b)=true:=bD.2 ⟨a,c,cL a⟩;rw[h.1]at this;cases this
section
variable {P:Program}{E:Env}{w0 w:World}{I0:IMap}{nt:Nat}{γ τ:Nat->Option Place}{I I':IMap}{st:St}{a:Act}{B:Nat}{Ω:Nat->Option Owner}{keep:Bool}
def PlOk (γ:Nat->Option Place) (_:IMap) (st:St) (keep:Bool) (p:Nat×Nat×Option Place):Prop :=
 keep=true/\((st.tk p.2.1=true/\p.2.2=γ p.2.1) \/
  ∃l cs b k n cap sz,st.ob l=some ⟨p.2.1,.cells cs⟩/\γ p.2.1=some (.obj b k)/\p.2.2=some (.tok b n cap sz)/\0<n/\n*sz=cs.length/\n<=cap/\cap<=maxLen/\cap*sz<=k.size/\Nat.ble st.ro p.2.1=true)
def jgd (i:Nat) {x:Value}{v z:V}(D:Rep γ I x v) (t:jw st keep i v=some z):((plLeaf γ st keep i x v).map (·.2.1)).Sublist v.tok/\∀p∈plLeaf γ st keep i x v,PlOk γ I st keep p:=by
 unfold plLeaf;split;split;rename_i h;simp only[ab]at h;exact⟨fG _,λp c=>by rw[ag.1 c];exact⟨h.1,.inl ⟨h.2,rfl⟩⟩⟩;exact⟨fO _,λp c=>by cases c⟩
 ·rename_i l u off n y;split
  ·rename_i h;refine⟨fG _,λp c=>?_⟩;rw[ag.1 c];unfold jem at h;split at h;case h_2=>cases h
   rename_i e d;simp only[ab]at h;obtain⟨⟨⟨H,f⟩,g⟩,m⟩:=h;have f:=bo f;have g:0<n:=by simpa[dk] using g
   have m:=bo m;subst f;obtain⟨b,k,K,o,r,rfl,G,J,F⟩:=YC D;have j:Nat.ble st.ro u=true:=by simp only[jw]at t;obtain⟨q,s,_⟩:=yc t;simp only[Ja,d,ap,aC]at s;exact s.1.1
   refine⟨H,.inr ⟨l,e,b,k,n,o,y,ji d,r,by simp only[jwk,r],g,m,J,F,?_,j⟩⟩;have:=(G zO).2;omega
  exact⟨fO _,λp c=>by cases c⟩
 exact⟨fO _,λp c=>by cases c⟩
def jgc:∀(i:Nat) (xs:List Value) (vs b:List V),xs.length=vs.length->(∀(j:Nat) (x:Value) (v:V),xs[j]? = some x->vs[j]? = some v->Rep γ I x v)->Xv st keep i vs=some b ->
 ((plList γ st keep i xs vs).map (·.2.1)).Sublist (vs.flatMap V.tok)/\∀p∈plList γ st keep i xs vs,PlOk γ I st keep p
 |_,[],[],_,_,_,_=>⟨fG _,λp d=>by cases d⟩
 |i,x::xs,v::vs,b,hl,hr,c=>by simp only[Xv]at c;obtain⟨q,l,c⟩:=yc c;obtain⟨r,e,rfl⟩:=yh c;obtain⟨o,f⟩:=jgd i (hr 0 x v rfl rfl) l;obtain⟨g,n⟩:=jgc (i+1) xs vs r (by simpa using hl) (λj x v k m=>hr (j+1) x v (by simpa using k) (by simpa using m)) e;simp only[plList,bA,aZ];exact⟨o.append g,λp d=>(aQ.1 d).elim (f p) (n p)⟩
 |_,[],_::_,_,h,_,_=>by simp at h
 |_,_::_,[],_,h,_,_=>by simp at h
def jua (i:Nat) {x:Value}{v e:V}(c:Rep γ I x v) (b:XD st keep i v=some e):((plTop γ st keep i x v).map (·.2.1)).Sublist v.toks/\∀p∈plTop γ st keep i x v,PlOk γ I st keep p:=by
 cases v with
 |agg cs=>obtain⟨h,rfl,m,n,k⟩:=Yd c;simp only[XD]at b;obtain⟨r,g,rfl⟩:=yh b;exact jgc i h.toList cs r (by simpa using m) (λj x v c b=>k j x v (by simpa using c) b) g
 |fn f l o=>exact⟨fO _,λp d=>by cases d⟩
 |_=>exact jgd i c b
def jgb:∀(i:Nat) (xs:List Value) (vs b:List V),xs.length=vs.length->(∀(j:Nat) (x:Value) (v:V),xs[j]? = some x->vs[j]? = some v->Rep γ I x v)->Je st keep i vs=some b ->
 ((plTops γ st keep i xs vs).map (·.2.1)).Sublist (vs.flatMap V.toks)/\∀p∈plTops γ st keep i xs vs,PlOk γ I st keep p
 |_,[],[],_,_,_,_=>⟨fG _,λp d=>by cases d⟩
 |i,x::xs,v::vs,b,hl,hr,c=>by simp only[Je]at c;obtain⟨q,l,c⟩:=yc c;obtain⟨r,e,rfl⟩:=yh c;obtain⟨o,f⟩:=jua i (hr 0 x v rfl rfl) l;obtain⟨g,n⟩:=jgb (i+16) xs vs r (by simpa using hl) (λj x v k m=>hr (j+1) x v (by simpa using k) (by simpa using m)) e;simp only[plTops,bA,aZ];exact⟨o.append g,λp d=>(aQ.1 d).elim (f p) (n p)⟩
 |_,[],_::_,_,h,_,_=>by simp at h
 |_,_::_,[],_,h,_,_=>by simp at h
def QF {i:Nat}{x:Value}{v d:V}(b:jw st keep i v=some d):d.leaf=true/\d.tok=(plLeaf γ st keep i x v).map (·.1):=by
 have c:∀k,Ja st (k+1) v=(if v.pureLeaf then some v else none)->jw st keep i v=Ja st (k+1) v->v.tok=[]->plLeaf γ st keep i x v=[]->d.leaf=true/\d.tok=(plLeaf γ st keep i x v).map (·.1):=by intro k y o p s;rw[o,y]at b;simp only[aC,ae]at b;obtain⟨m,rfl⟩:=b;exact⟨jci m,by rw[s,p];rfl⟩
 cases v with
 |sl t r n cs=>
  cases t with
  |none=>exact c 5 rfl rfl rfl rfl
  |some q=>obtain⟨u,z⟩:=q;simp only[jw,ae]at b;subst b;refine⟨rfl,?_⟩;cases j:(keep&&st.tk u)<;>simp[V.tok,plLeaf,j]
 |osl l u off n f=>
  simp only[jw]at b;obtain⟨q,F,b⟩:=yc b;split at b;case h_2=>cases b
  rename_i t r D cs;obtain⟨e,g,rfl⟩:=yh b;refine⟨rfl,?_⟩;have j:jem st keep l u off n f=(keep&&Nat.beq off 0&&Nat.blt 0 n&&Nat.beq (n*f) e.length):=by simp only[jem,g]
  rw[<- j];cases h:jem st keep l u off n f<;>simp[V.tok,plLeaf,h]
 |agg|tup|undef=>simp only[jw,Ja,V.pureLeaf,ah,zc,reduceCtorEq]at b
 |_=>exact c 5 rfl rfl rfl rfl
def jiy (ho:Own γ I B st w Ω) (M:jeu γ B st w I I') {x:Value}{v o:V}{i:Nat}(G:Rep γ I x v) (f:jw st keep i v=some o) (L:∀p∈plLeaf γ st keep i x v,τ p.1=p.2.2) :
 j1e τ I' x o:=by
 have c:jw st keep i v=Ja st 6 v->j1e τ I' x o:=by
  intro h
  rw[h]at f
  obtain⟨Q,r⟩:=jcc ho M 6 x v o G f
  cases o with
  |sl t nl n cs=>
   cases t with
   |none=>exact Q
   |some q=>simp[V.pureLeaf]at r
  |_=>exact Q
 cases v with
 |sl t nl n cs=>
  cases t with
  |none=>exact c rfl
  |some q=>
   obtain⟨u,z⟩:=q
   simp only[jw,ae]at f
   subst f
   cases g:(keep&&st.tk u) with
   |true=>
    have hm:(i,u,γ u)∈plLeaf γ st keep i x (.sl (some (u,z)) nl n cs):=by simp[plLeaf,g,jwk]
    have N:=L _ hm
    simp only[zd]
    have:=G.mono (γ':=γ) (λ_ _ h=>h) M.1
    cases this with
    |tsl _ b _ d _ _ X Z e hc m hi T U=>exact Rep.tsl i b n d z cs X (N.trans Z) e hc m hi T U
    |pure _ _ h=>cases h
   |false=>
    simp only[ah,zc]
    exact(Wb G (by simp[V.strip1,V.pureLeaf])).mono M.1
 |osl l u off n k=>
  simp only[jw]at f
  obtain⟨q,y,f⟩:=yc f
  obtain⟨j,a0⟩:=jcc ho M 6 x _ q G y
  split at f
  case h_2=>cases f
  rename_i t nl n' cs
  have O:t=none:=by cases t<;>simp_all [V.pureLeaf]
  subst O
  obtain⟨S,F,rfl⟩:=yh f
  have g:jem st keep l u off n k=(keep&&Nat.beq off 0&&Nat.blt 0 n&&Nat.beq (n*k) S.length):=by simp only[jem,F]
  rw[<- g]
  cases s:jem st keep l u off n k with
  |false=>exact j
  |true=>
   simp only[zd]
   rw[s]at g
   have g:=g.symm
   simp only[ab]at g
   obtain⟨⟨⟨Q,r⟩,h3⟩,h4⟩:=g
   have r:=bo r
   have h3:0<n:=by simpa[dk] using h3
   have h4:=bo h4
   subst r
   obtain⟨b,kb,ad,d,Z,rfl,ha,hc,hm⟩:=YC G
   have J:(i,u,some (Place.tok b n d k))∈plLeaf γ st keep i (.slice (some ad) n d) (.osl l u 0 n k):=by simp[plLeaf,s,jwk,Z]
   have N:=L _ J
   have H:=(ha zO).1
   subst H
   -- the form of what is Ja
   simp only[Ja,F,ap,aC]at y
   obtain⟨_,y⟩:=y
   obtain⟨D,K,he⟩:=yh y
   simp only[V.sl.injEq,true_and]at he
   obtain⟨rfl,rfl,rfl⟩:=he
   have e:D.length=n*k:=by
    have:=(JA K).1
    rw[this]
    simp only[ai,aY];omega
   cases j with
   |sl _ _ _ _ X hs b0 m hi T U=>exact Rep.tsl i b n d k D X N e hc hm (by simpa using hi) T U
 |agg|tup|undef=>
  simp only[jw,Ja,V.pureLeaf,ah,zc,reduceCtorEq]at f
 |_=>exact c rfl
def jix (m:Own γ I B st w Ω) (o:jeu γ B st w I I'):∀(xs:List Value) (vs b:List V) (i:Nat),xs.length=vs.length->(∀(j:Nat) (x:Value) (v:V),xs[j]? = some x->vs[j]? = some v->Rep γ I x v) ->
 Xv st keep i vs=some b->(∀p∈plList γ st keep i xs vs,τ p.1=p.2.2) ->
 b.length=vs.length/\(∀(j:Nat) (x:Value) (f:V),xs[j]? = some x->b[j]? = some f->f.leaf=true/\j1e τ I' x f)
 |[],[],b,i,_,_,h,_=>by simp only[Xv,ae]at h;subst h;exact⟨rfl,λj x f h=>by simp at h⟩
 |x::xs,v::vs,b,i,hl,hr,h,hτ=>by
  simp only[Xv]at h;obtain⟨q,n,h⟩:=yc h;obtain⟨r,l,rfl⟩:=yh h;simp only[plList]at hτ;obtain⟨z,s⟩:=jix m o xs vs r (i+1) (by simpa using hl) (λj x v t u=>hr (j+1) x v (by simpa using t) (by simpa using u)) l (λp g=>hτ p (bU _ g));have d:=jiy m o (hr 0 x v rfl rfl) n (λp g=>hτ p (cG _ g));have e:=QF (γ:=γ) (x:=x) n;refine⟨by simp[z],λj y D k c=>?_⟩;cases j with
  |zero=>simp only[aD,ae]at k c;subst k;subst c;exact⟨e.1,d⟩
  |succ j=>exact s j y D (by simpa using k) (by simpa using c)
 |[],_::_,_,_,h,_,_,_=>by simp at h
 |_::_,[],_,_,h,_,_,_=>by simp at h
def jy2 {x:Value}{v:V}(h:j1e τ I x v) (c:v.leaf=true):jvz τ I x v/\(∀b,v≠.tup b):=by
 cases v with
 |agg|tup|undef=>cases c
 |_=>exact⟨h,λ_ h=>by cases h⟩
def jx1 (q:Own γ I B st w Ω) (o:jeu γ B st w I I') {x:Value}{v e:V}{i:Nat}(g:Rep γ I x v) (c:XD st keep i v=some e) (d:∀p∈plTop γ st keep i x v,τ p.1=p.2.2) :
 jvz τ I' x e/\(∀k,e≠.tup k):=by
 have b:jw st keep i v=some e->plTop γ st keep i x v=plLeaf γ st keep i x v->jvz τ I' x e/\(∀k,e≠.tup k):=by intro l s;rw[s]at d;exact jy2 (jiy q o g l d) (QF (γ:=γ) (x:=x) l).1
 cases v with
 |agg cs=>
  simp only[XD]at c;obtain⟨r,G,rfl⟩:=yh c;obtain⟨m,rfl,l,s,H⟩:=Yd g;obtain⟨z,t⟩:=jix q o m.toList cs r i (by simpa using l) (λj x v g c=>H j x v (by simpa using g) c) G d;refine⟨⟨m,rfl,l.trans z.symm,λj u n=>?_,λj y u F n=>(t j y u (by simpa using F) n).2⟩,(λk h=>by cases h)⟩;have J:j<m.size:=by have:=(aj.1 n).1;omega
  exact(t j m[j] u (by rw[br];exact aA J) n).1
 |fn f K L=>simp only[XD,aC,ae]at c;obtain⟨D,rfl⟩:=c;exact⟨(jia g D).mono o.1,(λk h=>by simp[V.strip]at h)⟩
 |_=>exact b c rfl
def Wp (l:Own γ I B st w Ω) (m:jeu γ B st w I I'):∀(xs:List Value) (vs b:List V) (i:Nat),xs.length=vs.length->(∀(j:Nat) (x:Value) (v:V),xs[j]? = some x->vs[j]? = some v->Rep γ I x v) ->
 Je st keep i vs=some b->(∀p∈plTops γ st keep i xs vs,τ p.1=p.2.2) ->
 b.length=vs.length/\(∀(j:Nat) (x:Value) (e:V),xs[j]? = some x->b[j]? = some e->jvz τ I' x e/\∀vs,e≠.tup vs)
 |[],[],b,i,_,_,h,_=>by simp only[Je,ae]at h;subst h;exact⟨rfl,λj x e h=>by simp at h⟩
 |x::xs,v::vs,b,i,hl,hr,h,hτ=>by
  simp only[Je]at h;obtain⟨q,s,h⟩:=yc h;obtain⟨r,k,rfl⟩:=yh h;simp only[plTops]at hτ;obtain⟨u,n⟩:=Wp l m xs vs r (i+16) (by simpa using hl) (λj x v o t=>hr (j+1) x v (by simpa using o) (by simpa using t)) k (λp f=>hτ p (bU _ f));have d:=jx1 l m (hr 0 x v rfl rfl) s (λp f=>hτ p (cG _ f));refine⟨by simp[u],λj y z g c=>?_⟩;cases j with
  |zero=>simp only[aD,ae]at g c;subst g;subst c;exact d
  |succ j=>exact n j y z (by simpa using g) (by simpa using c)
 |[],_::_,_,_,h,_,_,_=>by simp at h
 |_::_,[],_,_,h,_,_,_=>by simp at h
def jy7 {v:V}(h:v.leaf=true):v.toks=v.tok:=by
 cases v with
 |agg|tup|undef=>cases h
 |_=>rfl
def jgf:∀(xs:List Value) (vs b:List V) (i:Nat),xs.length=vs.length->Xv st keep i vs=some b->b.flatMap V.tok=(plList γ st keep i xs vs).map (·.1)
 |[],[],b,i,_,h=>by simp only[Xv,ae]at h;subst h;rfl
 |x::xs,v::vs,b,i,hl,h=>by simp only[Xv]at h;obtain⟨q,c,h⟩:=yc h;obtain⟨r,d,rfl⟩:=yh h;simp only[plList,bA,aZ,(QF (γ:=γ) (x:=x) c).2,jgf xs vs r (i+1) (by simpa using hl) d]
 |[],_::_,_,_,h,_=>by simp at h
 |_::_,[],_,_,h,_=>by simp at h
def jue {x:Value}{v d:V}{i:Nat}(l:Rep γ I x v) (c:XD st keep i v=some d):d.toks=(plTop γ st keep i x v).map (·.1):=by
 have b:jw st keep i v=some d->plTop γ st keep i x v=plLeaf γ st keep i x v->d.toks=(plTop γ st keep i x v).map (·.1):=λe g=>by obtain⟨h,n⟩:=QF (γ:=γ) (x:=x) e;rw[g,jy7 h,n]
 cases v with
 |agg cs=>simp only[XD]at c;obtain⟨r,j,rfl⟩:=yh c;obtain⟨k,rfl,e,g,h⟩:=Yd l;exact jgf k.toList cs r i (by simpa using e) j
 |fn f m p=>simp only[XD,aC,ae]at c;obtain⟨o,rfl⟩:=c;rfl
 |_=>exact b c rfl
def jge:∀(xs:List Value) (vs b:List V) (i:Nat),xs.length=vs.length->(∀(j:Nat) (x:Value) (v:V),xs[j]? = some x->vs[j]? = some v->Rep γ I x v)->Je st keep i vs=some b ->
 b.flatMap V.toks=(plTops γ st keep i xs vs).map (·.1)
 |[],[],b,i,_,_,h=>by simp only[Je,ae]at h;subst h;rfl
 |x::xs,v::vs,b,i,hl,hr,h=>by simp only[Je]at h;obtain⟨q,d,h⟩:=yc h;obtain⟨r,c,rfl⟩:=yh h;simp only[plTops,bA,aZ,jue (hr 0 x v rfl rfl) d,jge xs vs r (i+16) (by simpa using hl) (λj x v f e=>hr (j+1) x v (by simpa using f) (by simpa using e)) c]
 |[],_::_,_,_,h,_,_=>by simp at h
 |_::_,[],_,_,h,_,_=>by simp at h
def jre (xs:List Value):Value :=
 match xs with
 |[x]=>x
 |xs=>.tuple xs.toArray
end
section
variable {P:Program}{E:Env}{w0 w:World}{I0:IMap}{nt:Nat}{γ τ:Nat->Option Place}{I I':IMap}{st:St}{a:Act}{B:Nat}{Ω:Nat->Option Owner}
def jrf (tmps:Array Value):ResultVar->Sem Value
 | .tmp t=>pure (tmps.getD t undef)
 | .cell a t=>do loadVar t (<- asAddr (tmps.getD a undef))
def jxm (p:R E w0 I0 nt γ I st a w) {rv:ResultVar}{r:ARes}{v:V}(h:Yh P rv=some r) (d:jv st r=some v):∃x,(jrf a.tmps rv).run P w=.ok x w/\Rep γ I x v:=by
 cases rv with
 |tmp t=>simp only[Yh,ae]at h;subst h;simp only[jv,ae]at d;subst d;exact⟨_,rfl,p.tm t⟩
 |cell n t=>
  simp only[Yh]at h;obtain⟨g,z,rfl⟩:=yh h;simp only[jv]at d;split at d;rename_i l u off D;have q:=p.tm n;rw[D]at q;obtain⟨b,K,f,i⟩:=W5 q;obtain⟨cs,m,k⟩:=yc d;obtain⟨arr,e,y,H,J,s⟩:=Qu p (ji m) f;have c:∀j,off+j<cs.length->arr[off+j]? = some (arr.getD (off+j) undef):=by intro j o;have:off+j<arr.size:=zO;simp[this]
  obtain⟨F,G⟩:=jky (γ:=γ) (I:=I) k (λj=>arr.getD (off+j) undef) (λj u o f=>s _ _ _ (c j (aj.1 f).1) f);refine⟨_,?_,G⟩;simp only[jrf,i,asAddr,aB,aG,ak];exact jbs z (λj=>arr.getD (off+j) undef) _ rfl (λj o=>by
   simp only[World.cell?,y,cM,ah,zc];exact c j (F j o))
  cases d
def jim (n:R E w0 I0 nt γ I st a w):∀(b:List ResultVar) (rs:List ARes) (vs:List V),b.mapM (Yh P)=some rs->rs.mapM (jv st)=some vs ->
 ∃e:List Value,e.length=vs.length/\(b.mapM (jrf a.tmps)).run P w=.ok e w/\∀(j:Nat) (x:Value) (v:V),e[j]? = some x->vs[j]? = some v->Rep γ I x v
 |[],rs,vs,h1,h2=>by simp at h1;subst h1;simp at h2;subst h2;exact⟨[],rfl,rfl,λj x v h=>by simp at h⟩
 |rv::b,rs,vs,h1,h2=>by
  simp only[bP]at h1;cases f:Yh P rv with
  |none=>simp[f]at h1
  |some r=>
   cases i:b.mapM (Yh P) with
   |none=>simp[f,i]at h1
   |some d=>
    simp[f,i]at h1;subst h1;simp only[bP]at h2;cases g:jv st r with
    |none=>simp[g]at h2
    |some v=>
     cases c:d.mapM (jv st) with
     |none=>simp[g,c]at h2
     |some m=>
      simp[g,c]at h2;subst h2;obtain⟨x,o,p⟩:=jxm n f g;obtain⟨e,q,t,s⟩:=jim n b d m i c;refine⟨x::e,by simp[q],?_,λj y u k l=>?_⟩;simp only[bP,aB,o,ak,t,aG];cases j with
      |zero=>simp only[aD,ae]at k l;subst k;subst l;exact p
      |succ j=>exact s j y u (by simpa using k) (by simpa using l)
def jil (k:R E w0 I0 nt γ I st a w) {c:Func}{rs:List ARes}{vs:List V}(l:c.results.toList.mapM (Yh P)=some rs) (i:rs.mapM (jv st)=some vs) :
 ∃b:List Value,b.length=vs.length/\(results c a.tmps).run P w=.ok (jre b) w/\∀(j:Nat) (x:Value) (v:V),b[j]? = some x->vs[j]? = some v->Rep γ I x v:=by
 obtain⟨b,d,e,f⟩:=jim k _ _ _ l i;refine⟨b,d,?_,f⟩;have g:(results c a.tmps)=(c.results.mapM (jrf a.tmps) >>= λvs=>pure (if h:vs.size=1 then vs[0] else .tuple vs)):=by unfold results;congr 1
 rw[g,Array.mapM_eq_mapM_toList];simp only[map_eq_pure_bind,aB,e,ak,aG];congr 1;match b with
 |[]=>rfl
 |[x]=>rfl
 |x::y::r=>simp[jre]
def jvv {f:Type}{l:List (Nat×f)}(d:(l.map (·.1)).Nodup) {i:Nat}{u:f}(b:(i,u)∈l):(l.find? λp=>Nat.beq p.1 i)=some (i,u):=by
 induction l with
 |nil=>cases b
 |cons p l g=>
  obtain⟨j,v⟩:=p;simp only[bc,cX]at d;rcases bt.1 b with he|b;cases he;simp[List.find?,cL];have c:¬j=i:=λe=>d.1 (aE.2 ⟨_,b,e.symm⟩)
  have:Nat.beq j i=false:=by
   cases h:Nat.beq j i with
   |false=>rfl
   |true=>exact zf (bo h) c
  simp only[List.find?,this];exact g d.2 b
def out_ok (hR:R E w0 I0 nt γ I st a w) {xs:List Value}{vs:List V}{r:V}(d:xs.length=vs.length) (hr:∀(j:Nat) (x:Value) (v:V),xs[j]? = some x->vs[j]? = some v->Rep γ I x v)
 (ho:WQ st vs=some r) :
 ∃τ I',(∀b o x,I b o=some x->I' b o=some x)/\jog I' w/\(∀b o,b<w0.heap.size->I' b o=I b o)/\j1c τ I' (jre xs) r/\joc w0.heap.size τ I' w r:=by
 classical
 obtain⟨Ω,c⟩:=hR.own
 let C:Nat->Nat->Prop:=λb o=>w0.heap.size<=b/\∃l u cs k,st.ob l=some ⟨u,.cells cs⟩/\γ u=some (.obj b k)/\o<cs.length
 let I':IMap:=λb o=>match I b o with
  |some x=>some x
  |none=>if C b o then w.cell? ⟨b,o,none⟩ else none
 have q:∀b o x,I b o=some x->I' b o=some x:=by
  intro b o x h
  simp only[I',h]
 have hz:jeu γ w0.heap.size st w I I':=⟨q,λb k o x l u cs hb M O c7 hc=>by
  obtain⟨b',X,k1,_,_,_,k5⟩:=c.ob l _ M
  rw[O]at k1
  cases k1
  simp only[I',k5]
  rw[zb ⟨hb,l,u,cs,k,M,O,c7⟩]
  exact hc⟩
 have a0:jog I' w:=by
  intro b o x h
  simp only[I']at h
  split at h
  ·rename_i y z
   cases h
   exact hR.imm _ _ _ z
  ·split at h
   ·exact h
   ·cases h
 have b9:∀b o,b<w0.heap.size->I' b o=I b o:=by
  intro b o hb
  simp only[I']
  split
  ·rename_i y z;exact z.symm
  ·rename_i z
   rw[za (λh=>Nat.not_lt_of_le h.1 hb)]
   exact z.symm
 unfold WQ at ho
 obtain⟨l,M,ho⟩:=yc ho
 simp only[aC]at ho
 obtain⟨d1,c3⟩:=ho
 generalize U:yH (vs.flatMap V.toks)=keep at M
 let N:=plTops γ st keep 0 xs vs
 let τ:Nat->Option Place:=λi=>(N.find? λp=>Nat.beq p.1 i).bind λp=>p.2.2
 obtain⟨b7,c1⟩:=jgb (γ:=γ) (I:=I) 0 xs vs l d hr M
 have J:=jge (γ:=γ) (I:=I) xs vs l 0 d hr M
 have c0:(N.map (·.1)).Nodup:=by
  rw[<- J]
  exact jaq d1
 have Q:∀p∈N,τ p.1=p.2.2:=by
  intro p K
  obtain⟨i,u⟩:=p
  simp only[τ,jvv c0 K,ap]
 obtain⟨h1,D⟩:=Wp (τ:=τ) c hz xs vs l 0 d hr M Q
 have m:yx r=N.map (·.1):=by
  rw[<- J]
  match l,D,c3 with
  |[],_,rfl=>rfl
  |[v],D,rfl=>
   match xs,d,h1 with
   |[x],_,_=>
    have:=(D 0 x v rfl rfl).2
    simp only[aZ,List.flatMap_nil,aP]
    cases v<;>first|rfl|exact zf rfl (this _)
   |[],e1,e2=>simp at e1 e2;omega
   |_::_::_,e1,e2=>simp at e1 e2;omega
  |v::v'::Z,_,rfl=>rfl
 have c2:j1c τ I' (jre xs) r:=by
  have c8:xs.length=l.length:=d.trans h1.symm
  match l,xs,c8,D,c3 with
  |[],[],_,_,rfl=>exact⟨#[],rfl,rfl,λj y u z=>by simp at z⟩
  |[v],[x],_,D,rfl=>
   obtain⟨k1,k2⟩:=D 0 x v rfl rfl
   cases v<;>first|exact k1|exact zf rfl (k2 _)
  |v::v'::Z,x::x'::xs',e,D,rfl=>exact⟨(x::x'::xs').toArray,rfl,by simpa using e,λj y u z O=>(D j y u (by simpa using z) O).1⟩
 refine⟨τ,I',q,a0,b9,c2,?_⟩
 have b5:keep=true->(N.map (·.2.1)).Nodup:=λhk=>b7.nodup (jaq (by rw[U,hk]))
 -- whose block it is
 have F:∀p∈N,∃b n f t,p.2.2=some (.tok b n f t)/\w0.heap.size<=b/\b<w.heap.size/\TokOk w.heap[b]? n f t/\(∀j,n*t<=j->I' b j=none) /\
  (Ω b=some (.tk p.2.1)\/∃l cs k,Ω b=some (.ob l)/\st.ob l=some ⟨p.2.1,.cells cs⟩/\γ p.2.1=some (.obj b k)):=by
  intro p K
  obtain⟨hk,O|⟨l,cs,b,k,n,f,t,S,G,q3,q4,q5,s,q7,q8,q9⟩⟩:=c1 p K
  ·obtain⟨b,n,f,t,S,G,q3,q4,q5⟩:=c.tk p.2.1 O.1
   refine⟨b,n,f,t,O.2.trans S,q3,c.lt _ _ G,q4,λj hj=>?_,.inl G⟩
   have hn:=q5 j hj
   simp only[I',hn]
   rw[za]
   rintro⟨_,Z,u',b6,X,H,r2,_⟩
   obtain⟨b',c5,t1,t2,_⟩:=c.ob Z _ H
   rw[r2]at t1
   cases t1
   rw[G]at t2
   cases t2
  ·obtain⟨b',X,t1,t2,t3,⟨arr,e,g1,g2,g3,g4⟩,t5⟩:=c.ob l _ S
   rw[G]at t1
   cases t1
   refine⟨b,n,f,t,q3,t3 (by simpa[bY] using q9),c.lt _ _ t2,⟨arr,e,g1,by rw[g2];exact q8,s,q7⟩,λj hj=>?_,.inr ⟨l,cs,k,t2,S,G⟩⟩
   simp only[I',t5]
   rw[za]
   rintro⟨_,Z,u',b6,X,H,r2,r3⟩
   obtain⟨b',c5,s1,s2,_⟩:=c.ob Z _ H
   rw[r2]at s1
   cases s1
   rw[t2]at s2
   cases s2
   rw[S]at H
   cases H
   omega
 intro i hi
 rw[m]at hi
 obtain⟨⟨i',u,pp⟩,K,rfl⟩:=aE.1 hi
 obtain⟨b,n,f,t,S,G,q3,q4,q5,s⟩:=F _ K
 refine⟨b,n,f,t,(Q _ K).trans S,G,q3,q4,q5,λi2 b0 n' c' s' he=>?_⟩
 rw[m]at b0
 obtain⟨⟨i3,u3,d4⟩,L,rfl⟩:=aE.1 b0
 obtain⟨b3,n3,d2,d3,H,r2,r3,r4,r5,g⟩:=F _ L
 have e3:=(Q _ L).symm.trans he
 simp only at e3
 simp only at H
 rw[H]at e3
 cases e3
 have hk:=(c1 _ K).1
 have d0:u3=u:=by
  simp only at s g
  rcases s with s|⟨l,cs,k,s,q7,q8⟩<;>rcases g with g|⟨Z,b6,X,g,r7,r8⟩
  ·rw[s]at g;cases g;rfl
  ·rw[s]at g;cases g
  ·rw[s]at g;cases g
  ·rw[s]at g;cases g
   rw[q7]at r7;cases r7;rfl
 subst d0
 have:=b5 hk
 obtain⟨k,c9,b8⟩:=ba K
 obtain⟨X,c6,T⟩:=ba L
 have c4:X=k:=by
  refine(List.getElem_inj (xs:=N.map (·.2.1)) (h₀:=by simpa using c6) (h₁:=by simpa using c9) this).1 ?_
  simp[b8,T]
 subst c4
 rw[b8]at T
 cases T
 rfl
end
section
variable {P:Program}{E:Env}{τ:Nat->Option Place}{I I' I1:IMap}{B:Nat}
def jnm (e:∀b o,B<=b->I' b o=I1 b o) {x:Value}{v:V}(h:j1e τ I1 x v) (d:v.freeL=true) (r:∀i∈v.tok,∃b n a k,τ i=some (.tok b n a k)/\B<=b):j1e τ I' x v:=by
 cases v with
 |sl t H n cs=>
  cases t with
  |none=>exact jcf (show RepP I1 x _ from h) d
  |some q=>
   obtain⟨u,z⟩:=q;have s:Rep τ I1 x (.sl (some (u,z)) H n cs):=h;cases s with
   |pure _ _ h=>cases h
   |tsl _ b _ a _ _ F m c M K G w y=>obtain⟨O,N,g,D,f,J⟩:=r u (by simp[V.tok]);rw[m]at f;cases f;refine Rep.tsl u b n a z cs F m c M K (λj L=>(e _ _ J).trans (G j L)) w (λj v p=>jcf (y j v p) ?_);exact av.1 (show cs.all V.scal=true from d) v (aH p)
 |osl l u off n k=>cases d
 |_=>first|(cases d;done)|exact jcf (show RepP I1 x _ from h) d
def j13 {x:Value}{v:V}(h:∀cs,v≠.agg cs):jvz τ I x v=j1e τ I x v:=by cases v<;>first|rfl|exact zf rfl (h _)
def j2q {x:Value}{v:V}(h:∀cs,v≠.tup cs):j1c τ I x v=jvz τ I x v:=by cases v<;>first|rfl|exact zf rfl (h _)
def jss (a:∀b o,B<=b->I' b o=I1 b o) {x:Value}{v:V}(h:jvz τ I1 x v) (d:v.freeT=true) (f:∀i∈v.toks,∃b n c k,τ i=some (.tok b n c k)/\B<=b):jvz τ I' x v:=by
 cases v with
 |agg cs=>obtain⟨p,rfl,s,l,q⟩:=h;refine⟨p,rfl,s,l,λj y u m e=>?_⟩;have g:=aH e;exact jnm a (q j y u m e) (av.1 (show cs.all V.freeL=true from d) u g) (λi r=>f i (ci.2 ⟨u,g,r⟩))
 |_=>rw[j13 (λ_ h=>by cases h)]at h ⊢;exact jnm a h d f
def j4u (a:∀b o,B<=b->I' b o=I1 b o) {x:Value}{v:V}(h:j1c τ I1 x v) (d:v.freeR=true) (f:∀i∈yx v,∃b n c k,τ i=some (.tok b n c k)/\B<=b):j1c τ I' x v:=by
 cases v with
 |tup r=>obtain⟨p,rfl,s,l⟩:=h;refine⟨p,rfl,s,λj y u m e=>?_⟩;have g:=aH e;exact jss a (l j y u m e) (av.1 (show r.all V.freeT=true from d) u g) (λi q=>f i (ci.2 ⟨u,g,q⟩))
 |_=>rw[j2q (λ_ h=>by cases h)]at h ⊢;exact jss a h d f
def frz_ok {f:FuncId}{args c:List V}{ob:ZO}{ub:Nat}{r:V}(hp:joe P E f c r) (Z:args.mapM (Wu ob)=some c) (T:r.freeR=true):ObsOk P E f args ob ub r:=by
 intro w0 w I0 I γ X st F a N G q;obtain⟨p,s⟩:=jsr F a Z q;have v:∀b o x,I b o=some x->b<w.heap.size:=by intro b o x K;have:=a.imm b o x K;apply dt;intro hn;have z:w.heap[b]? = none:=iF zO;simp[World.cell?,z]at this
 refine(hp w (λb o=>w.cell? ⟨b,o,none⟩) X (λ_ _ _ h=>h) (λg cs D=>(a.gl g cs D).mono a.imm) (G.trans p.symm) s).mono λe w' he=>?_;obtain⟨x,τ,I1,rfl,D,S,m,M,K,L⟩:=he;have l:∀b o,w.heap.size<=b->(λb o=>if b<w.heap.size then I b o else I1 b o) b o=I1 b o:=λb o h=>za zO;refine⟨x,τ,λb o=>if b<w.heap.size then I b o else I1 b o,rfl,D,λb o y k=>?_,λb o y k=>?_,λb o z=>zb z,j4u l K T (λi J=>?_),λi J=>?_⟩;simp only[v b o y k,zd];exact k;simp only at k;split at k;exact m b o y (S b o y (a.imm b o y k));exact m b o y k;obtain⟨b,n,d,H,u,t,_⟩:=L i J;exact⟨b,n,d,H,u,t⟩;obtain⟨b,n,d,H,u,t,O,k4,Q,U⟩:=L i J;exact⟨b,n,d,H,u,t,O,k4,λj hj=>(l b j t).trans (Q j hj),U⟩
end
end Go.Pv
namespace Go.Pv
open Go Go.Sort
def jgz (x:Int):∀l:List Int,(j96 x l).Perm (x::l)
 |[]=>dW _
 |y::r=>by unfold j96;split;exact dW _;exact((jgz x r).cons y).trans (List.Perm.swap x y r)
def jak:∀l:List Int,(jox l).Perm l
 |[]=>dW _
 |x::r=>(jgz x (jox r)).trans ((jak r).cons x)
def jz7 (x:Int):∀{l:List Int},l.Pairwise (·<=·)->(j96 x l).Pairwise (·<=·)
 |[],_=>by simp[j96]
 |y::r,h=>by
  unfold j96;rw[bW]at h;split;rename_i b;exact bW.2 ⟨λz a=>by
   rcases bt.1 a with rfl|a;exact b;exact Int.le_trans b (h.1 z a),bW.2 h⟩
  refine bW.2 ⟨λz a=>?_,jz7 x h.2⟩;rcases bt.1 ((jgz x r).mem_iff.1 a) with rfl|a;omega;exact h.1 z a
def jkb:∀l:List Int,(jox l).Pairwise (·<=·)
 |[]=>List.Pairwise.nil
 |x::r=>jz7 x (jkb r)
def jkm:∀{S C:List Int},S.Perm C->S.Pairwise (·<=·)->C.Pairwise (·<=·)->S=C
 |[],C,h,_,_=>(List.nil_perm.1 h).symm
 |x::r,C,h,hs,hc=>by
  cases C with
  |nil=>exact zf h.length_eq zS
  |cons y q=>
   rw[bW]at hs hc;have e:x=y:=by rcases bt.1 (h.mem_iff.1 (aK ..)) with h1|h1;exact h1;rcases bt.1 (h.mem_iff.2 (aK (l:=q))) with h2|h2;exact h2.symm;have:=hs.1 y h2;have:=hc.1 x h1;omega
   subst e;rw[jkm ((List.perm_cons x).1 h) hs.2 hc.2]
def jsk (x:Int×Int):∀l,(j6i x l).length=l.length+1
 |[]=>rfl
 |y::r=>by unfold j6i;split;rfl;simp[jsk x r]
def jl4:∀l,(ja7 l).length=l.length
 |[]=>rfl
 |x::r=>by rw[ja7,jsk,jl4 r];rfl
def jnp:∀l,(Wg l).length=l.length*2
 |[]=>rfl
 |p::r=>by simp[Wg,jnp r];omega
def jiw:∀(n:Nat) (l:List Int),l.length=n*2->(pairsI l).length=n
 |0,l,h=>by have:l=[]:=cz.1 zO;subst this;rfl
 |n+1,a::b::r,h=>by rw[pairsI,bh,jiw n r (by simp at h;omega)]
 |n+1,[],h=>by simp at h
 |n+1,[a],h=>by simp at h;omega
def jw0 {m:Option FuncId}{n:Nat}{zs:List Int}(h:zs.length=n*jhx m):(QZ m zs).length=zs.length:=by
 cases m with
 |none=>exact(jak zs).length_eq
 |some g=>have h:zs.length=n*2:=h;show(Wg (ja7 (pairsI zs))).length=_;rw[jnp,jl4,jiw n zs h,h]
def jow (l:List Int):l.mergeSort (λx y=>decide (x<=y))=jox l:=by refine jkm ((List.mergeSort_perm l _).trans (jak l).symm) ?_ (jkb l);have:=iw (le:=λx y:Int=>decide (x<=y)) (λa b c e d=>by simp at *;omega) (λa b=>by simp;omega) l;exact this.imp λh=>by simpa using h
section
variable {P:Program}{E:Env}{w0 w:World}{I0:IMap}{γ:Nat->Option Place}{I:IMap}{st:St}
def Sh.turnG (h:Sh E w0 I0 γ I st w) {l u b:Nat}{k:Kd}{body:OBody}(hl:st.ob l=some ⟨u,body⟩) (Z:γ u=some (.obj b k)) (F:Nat.ble st.ro u=true) {o':Obj}{w':World}{body':OBody}
 (s:w'.os=w.os/\w'.tape=w.tape/\w'.output=w.output) (B:w.heap.size<=w'.heap.size) (z:∀j,j<w.heap.size->j≠b->w'.heap[j]? = w.heap[j]?) (hb:w'.heap[b]? = some o')
 (t:ObjOk γ I st.ob w.heap k (some o') body') (O:∀v es,body'≠.mp v es) :
 Sh E w0 I0 γ I { st with ob:=upd st.ob l (some ⟨u,body'⟩) } w':=by
 obtain⟨Ω,o⟩:=h.own;obtain⟨b',k',U,D,h3,_,X⟩:=o.ob l _ hl;rw[Z]at U;cases U;have i:YO γ st.ob (upd st.ob l (some ⟨u,body'⟩)) w.heap w'.heap:=by
  intro N S Q a0 mb mk p d;rw[yg]at d;split at d;simp only[ae,Obj'.mk.injEq]at d;exact zf d.2 (O _ _);rename_i f;refine .inl ⟨d,λm c hm=>?_⟩;obtain⟨b2,k2,y,g,_⟩:=o.ob N _ d;rw[p]at y;cases y;rw[z _ (o.lt _ _ g) (λe=>by
   subst e;rw[D]at g;cases g;exact f rfl)]
  exact hm
 refine⟨λb2 o2 x M=>?_,h.gl,⟨Ω,⟨λN x d=>?_,λS p=>?_,λb2 ow L=>?_⟩⟩,?_,h.old⟩;have f:b2≠b:=λe=>by rw[e,X]at M;cases M
 have hc:=h.imm _ _ _ M;rw[ew (w:=w) (w':=w') (a:=⟨b2,o2,none⟩) (z b2 (bT _ _ hc) f)];exact hc;simp only at d;rw[yg]at d;split at d;rename_i e;subst e;cases d;refine⟨b,k,Z,D,h3,?_,X⟩;rw[hb];exact t.keep i;rename_i f;obtain⟨b2,k2,y,g,H,K,J⟩:=o.ob N x d;have r:b2≠b:=λe=>by subst e;rw[D]at g;cases g;exact f rfl
 exact⟨b2,k2,y,g,H,by rw[z _ (o.lt _ _ g) r];exact K.keep i,J⟩;obtain⟨b2,n,G,sz,y,g,H,K,J⟩:=o.tk S p;have r:b2≠b:=λe=>by subst e;rw[D]at g;cases g
 exact⟨b2,n,G,sz,y,g,H,by rw[z _ (o.lt _ _ g) r];exact K,J⟩;exact aW (o.lt _ _ L) B;exact Grow.frame h.fr (T:=λk=>k=b) ⟨s.1,s.2.1,s.2.2,B,λk q f=>z k q f,λk q=>q▸h3 (by simpa[bY] using F)⟩
def j4m {l:List V}{zs:List Int}(h:l.mapM int64? = some zs):l=zs.map (.int .i64):=by obtain⟨c,b⟩:=JA h;apply dC;intro j;rcases cD j l.length with hj|hj;have a:j<zs.length:=zO;have:=b j _ _ (aa hj) (aa a);rw[aV,aa a,aa hj];unfold int64? at this;split at this;rename_i n e;cases this;rw[e];rfl;cases this;rw[dJ hj,dJ (by simp;omega)]
def j7r {γ0:Nat->Option Place}{Iy:IMap}{f:FuncId}{args:List V}{ob ob':ZO}{tk b7:Nat->Bool}{ro ub c2:Nat}{r:V}{m:Option FuncId}(hl:jlm P f m) (h:jtx m ob tk ro ub args=some (r,ob',b7,c2)) :
 jln P E γ0 Iy f args ob tk ro ub [(r,ob',b7,c2)]:=by
 intro w0 w I0 I γ G st d8 e2 D c8 c9 Z b8 b5 H;subst D c8 c9;have c:∀{p g},G=jj8 m (.slice p 0 g)->Calls P f G w λe w'=>∃r∈[(V.tup [],st.ob,st.tk,ub)],Wy E w0 I0 γ I st.ro r.1 r.2.1 r.2.2.1 r.2.2.2 e w':=by rintro p g rfl;refine(hl.2.1 p g w).mono ?_;rintro e w' ⟨rfl,rfl⟩;exact⟨_,ag.2 rfl,_,γ,I,rfl,λd4 J t h3=>Z.congr J t h3,.tup _ _ rfl (λj x v hx=>by simp at hx),SubG.refl _,SubI.refl _,b8⟩
 have N:∀v,jl2 m args=some v->∃x,G=jj8 m x/\Rep γ I x v:=by
  intro v s;unfold jl2 at s;split at s;cases s;have a0:G.size=1:=b5;obtain⟨x,rfl⟩:∃x,G=#[x]:=⟨G[0],by
   apply ii;simp[a0];intro i J t;have:i=0:=by simp at t;omega
   subst this;rfl⟩
  exact⟨x,rfl,H 0 x _ rfl rfl⟩;split at s;rename_i hg;cases s;subst hg;have a0:G.size=2:=b5;obtain⟨x,y,rfl⟩:∃x y,G=#[x,y]:=⟨G[0],G[1],by
   apply ii;simp[a0];intro i J t;have:i=0\/i=1:=by simp at t;omega
   rcases this with rfl|rfl<;>rfl⟩
  have hy:=H 1 y _ rfl rfl;obtain⟨d2,bs,rfl,J,t,_,_⟩:=jeo hy;obtain rfl:d2=#[]:=ij J;obtain rfl:bs=#[]:=ij t;exact⟨x,rfl,H 0 x _ rfl rfl⟩;cases s;cases s
 unfold jtx at h;split at h;rename_i l u off n sz ha;obtain⟨x,rfl,L⟩:=N _ ha;obtain⟨cs,d5,hq⟩:=yc h;simp only[aC]at hq;obtain⟨⟨hr,d3,e3,d6⟩,hq⟩:=hq;obtain⟨d,c5,he⟩:=yc hq;simp only[aC,ae,bZ]at he;clear h hq;obtain⟨c3,rfl,rfl,rfl,rfl⟩:=he;subst d3;have D:=ji d5;have e0:0<jhx m:=by cases m<;>exact ga rfl
 have F:=j4m c5;have o:d.length=n*jhx m:=by have:=zg List.length F;rw[ai,aY,bm]at this;omega
 rcases cI n with h0|h0;subst h0;have c7:d=[]:=cz.1 (by rw[o,dE]);subst c7;have b6:QZ m []=[]:=by cases m<;>rfl
 have U:upd st.ob l (some ⟨u,.cells (j6 cs off ((QZ m []).map (.int .i64)))⟩)=st.ob:=by funext k;rw[yg];split;rename_i e;subst e;rw[D];simp[j6,b6];rfl
 rw[U];cases L with
 |pure _ _ h=>cases h
 |osl l u off n sz g b k a hu ha hc hm=>exact c rfl
 cases L with
 |pure _ _ h=>cases h
 |osl l u off n sz g b k a hu ha hc hm=>
  obtain⟨rfl,d9⟩:=ha zO;obtain⟨arr,e,hw,S,e4,M⟩:=ji1 Z D hu;have O:b<w.heap.size:=(aO.1 hw).1;have b0:∀j (z:j<d.length),arr[off+j]? = some (.int .i64 d[j]):=λj z=>by
   have J:off+j<arr.size:=zO;have t:cs[off+j]? = some (.int .i64 d[j]):=by have:=zg (λl=>l[j]?) F;simp only[aV,aa z,aU]at this;rw[bi zO,bC]at this;exact this
   have h3:=(M (off+j) _ _ (aA J) t).2;rw[aA J];generalize arr[off+j]=y at h3;cases h3 with
   |pure _ _ h=>cases h;rfl
  have hH:Holds (Value.int .i64) w b off d.toArray:=λj z=>by
   have c1:j<d.length:=by simpa using z
   refine⟨?_,by simp[World.frozen?,hw]⟩;simp only[World.cell?,hw];simp only[cM,ah,zc];rw[b0 j c1];simp[c1]
  have X:=hl.2.2 b off g n d w o c3 hH O zO;refine X.mono ?_;rintro e' w' ⟨rfl,q,os,rfl⟩;have d1:(QZ m d).length=d.length:=jw0 o;refine⟨_,ag.2 rfl,_,γ,I,rfl,λd4 J t h3=>?_,.tup _ _ rfl (λj x v hx=>by simp at hx),SubG.refl _,SubI.refl _,b8⟩;have B:∀j,j<w.heap.size->(grow (putRow (Value.int .i64) (Go.Sort.ahead w q) b off (QZ m d).toArray) os).heap[j]? = if j=b then some (.cells (putCells (Value.int .i64) off (QZ m d).toArray arr) e (0,0)) else w.heap[j]?:=λj z=>by simp only[grow,putRow,mapBlock,Go.Sort.ahead];rw[cq (by simpa using z),cW];by_cases T:b=j;subst T;simp[hw,onCells];have:¬j=b:=λe=>T e.symm;simp[T,this]
  refine Sh.congr (st:={ st with ob:=upd st.ob l (some ⟨u,.cells (j6 cs off ((QZ m d).map (.int .i64)))⟩) }) (Z.turnG D hu hr (o':=.cells (putCells (Value.int .i64) off (QZ m d).toArray arr) e (0,0)) ⟨rfl,rfl,rfl⟩ (by simp[Go.Sort.ahead]) (λj z c4=>by rw[B j z,za c4]) (by rw[B b O,zb rfl]) ?_ (λv es h=>by cases h)) J t h3;have d7:(j6 cs off ((QZ m d).map (.int .i64))).length=cs.length:=by simp[j6];omega
  refine⟨_,e,rfl,by simpa[putCells] using S,zO,λj y v hy s=>?_⟩;simp only[putCells,Array.getElem?_mapIdx]at hy;have Q:(QZ m d).toArray.size=d.length:=by simpa using d1
  obtain⟨y0,c6,K⟩:=yh hy;by_cases c0:off<=j/\j<off+d.length;rw[zb (by rw[Q];exact c0)]at K;have b9:j-off<(QZ m d).length:=zO;have d0:v=.int .i64 (QZ m d)[j-off]:=by rw[j6,bj,bw (by simp;omega),bl (by simp;omega)]at s;simp only[ai,aV]at s;rw[show j-min off cs.length=j-off by omega,aa b9]at s;simpa using s.symm
  subst d0 K;refine⟨rfl,?_⟩;have:(QZ m d).toArray[j-off]! = (QZ m d)[j-off]:=by simp[b9]
  rw[this];exact .pure _ _ (.int _ _);rw[za (by rw[Q];exact c0)]at K;subst K;refine M j y0 v c6 ?_;rw[<- s,j6];rcases cD j off with z|z;rw[bj,bl (by simp;omega),bi z];rw[bw (by simp;omega),bC];congr 1;simp;omega
 rename_i e1 nl ha;obtain⟨x,rfl,L⟩:=N _ ha;cases h;cases L with
 |pure _ _ h=>cases h<;>exact c rfl
 |tsl u b n g sz cs G hu o hc hm hi hl hr=>exact c rfl
 cases h
end
end Go.Pv
namespace Go.Pv
open Go
def jd6 {n m:Nat}(h:n<=m):∀c:C,c.dstOk n=true->c.dstOk m=true:=by
 have one:∀e:List AOpr,(e.all λo=>match o.dst with|some d=>Nat.blt d n|none=>true)=true->(e.all λo=>match o.dst with|some d=>Nat.blt d m|none=>true)=true:=by intro e t;refine av.2 λo v=>?_;have:=av.1 t o v;split;rename_i d r;simp only[r,dk]at this;simp only[dk];omega;rfl
 intro c;induction c with
 |region e=>exact one e
 |draw e f=>exact one e
 |pin o fs=>exact one (o::fs)
 |seq a b j g=>simp only[C.dstOk,ab];exact λ⟨l,k⟩=>⟨j l,g k⟩
 |cond q a b j g=>simp only[C.dstOk,ab];exact λ⟨l,k⟩=>⟨j l,g k⟩
 |block i a s=>exact s
 |loop a s=>exact s
 |rangeFunc f x a b j g=>simp only[C.dstOk,ab];rintro⟨⟨l,k⟩,w⟩;refine⟨⟨av.2 λp u=>?_,j k⟩,g w⟩;have:=av.1 l p u;simp only[dk]at this ⊢;omega
 |_=>exact λ_=>rfl
section
variable {P:Program}{E:Env}
def jp2 {γ:Nat->Option Place}{I:IMap}{xs:Array Value}{args:List V}{k:Nat}(e:xs.size=args.length) (h:∀(j:Nat) (x:Value) (v:V),xs[j]? = some x->args[j]? = some v->Rep γ I x v) (t:Nat) :
 Rep γ I ((xs++Array.replicate k undef).getD t undef) (args.getD t js):=by
 by_cases c:t<xs.size;have b:(xs++Array.replicate k undef).getD t undef=xs[t]:=by simp[c,cq]
 have a:args.getD t js=args[t]' zO:=by have:t<args.length:=zO;simp[this]
 rw[b,a];exact h t _ _ (aA c) (aa zO);have b:(xs++Array.replicate k undef).getD t undef=undef:=by simp only[dh];rw[ek zO];by_cases d:t-xs.size<k<;>simp[d]
 have a:args.getD t js=js:=by have:args.length<=t:=zO;simp[this]
 rw[b,a];exact jmd
def jnb {w0:World}{I0 I:IMap}{γ:Nat->Option Place}{r:Func}{tmps:Array Value}{t:Ending->World->Prop}{st:St}:∀(df:List (Nat×Nat)) (l:List Deferred) (ob:ZO) (w:World),
 Sh E w0 I0 γ I { st with ob:=ob } w->DfOk γ df l->(∀x∈df,ob x.1=some ⟨x.2,.dfr⟩/\Nat.ble st.ro x.2=true)->(df.map (·.1)).Nodup ->
 (∀j,Sh E w0 I0 γ I { st with ob:=λk=>if df.any (λx=>Nat.beq x.1 k) then none else ob k } j->LeavesIn (FW none) 0 P r tmps t [] .returning j)->LeavesInM (FW none) 0 P r tmps t l .returning w
 |[],[],ob,w,hSh,_,_,_,hK=>hK w (hSh.congr (funext λk=>by simp) rfl rfl)
 |x::df,d::l,ob,w,hSh,hdf,hob,hnd,hK=>by
  obtain⟨⟨b,k,rfl,s⟩,i⟩:=hdf;obtain⟨o,u⟩:=hob x (aK ..);have g:w.heap[b]? = some (.deferred (some [])):=ji1 hSh o s;have m:=run_takeDeferred (P:=P) g;simp only[bc,cX]at hnd;have f:=hSh.turn (ob':=λk=>if Nat.beq x.1 k then none else ob k) (o':=.deferred none) o s u (λB y c=>by
   split at c;cases c;rename_i a;exact .inl ⟨λe=>a (by rw[e];exact cL _),c⟩)
  refine⟨(λh=>by cases h),.inl ⟨b,_,rfl,m,?_⟩⟩;refine jnb df l (λk=>if Nat.beq x.1 k then none else ob k) _ (f.congr rfl rfl rfl) i (λy c=>?_) hnd.2 (λj h=>?_);obtain⟨v,z⟩:=hob y (aS _ c);refine⟨?_,z⟩;have a:¬Nat.beq x.1 y.1=true:=λe=>hnd.1 (by rw[bo e];exact aE.2 ⟨y,c,rfl⟩);simp only[a,ah,zc];exact v;refine hK j (h.congr (funext λk=>?_) rfl rfl);simp only[bJ,bq];have n:∀p q:Bool,(if p=true\/q=true then none else ob k)=if q=true then none else if p=true then none else ob k:=by intro p q;cases p<;>cases q<;>rfl
  exact n _ _
 |[],_::_,_,_,_,h,_,_,_=>h.elim
 |_::_,[],_,_,_,h,_,_,_=>h.elim
def j3p {w0 w:World}{I0 I:IMap}{γ:Nat->Option Place}{i:Nat}{g:Func}{st:St}{a:Act}{j:Ending->World->Prop}(f:R E w0 I0 i γ I st a w) (d:j6w st=true)
 (n:∀b,R E w0 I0 i γ I st.noDf { tmps:=a.tmps,defers:=[] } b->∃v,(results g a.tmps).run P b=.ok v b/\j (.returned v) b):LeavesInM (FW none) 0 P g a.tmps j a.defers .returning w:=by
 unfold j6w at d;simp only[ab]at d;refine jnb (st:=st) st.df a.defers st.ob w (f.sh.congr rfl rfl rfl) f.df (λx m=>?_) (jaq d.2) (λb h=>?_);have:=av.1 d.1 x m;split at this;rename_i u l;simp only[ab]at this;have e:=bo this.1;subst e;exact⟨l,this.2⟩;cases this;have c:st.noDf.tm=st.tm/\st.noDf.tk=st.tk/\st.noDf.ro=st.ro/\st.noDf.df=[]/\st.noDf.ob=λk=>if st.df.any (λx=>Nat.beq x.1 k) then none else st.ob k:=by unfold St.noDf;split;rename_i e;exact⟨rfl,rfl,rfl,e,by rw[e];funext k;simp⟩;exact⟨rfl,rfl,rfl,rfl,rfl⟩
 exact n b ⟨f.sz,by rw[c.2.2.2.1];trivial,by rw[c.1];exact f.tm,h.congr c.2.2.2.2 c.2.1 c.2.2.1⟩
def jes {c:Func}{b:Ending->World->Prop}{e:Ex}{a:Act}{w:World}(h:e=.nrm\/e=.ret) (d:LeavesInM (FW none) 0 P c a.tmps b a.defers .returning w):bodyPostM (FW none) 0 P c b (exOf e) a w:=by rcases h with rfl|rfl<;>exact d
def j3m {b c:Type}{f:b->Option c}{l:List b}{L:List c}(h:l.mapM f=some L) {z:b}(g:z∈l):∃r∈L,f z=some r:=by obtain⟨j,d⟩:=JA h;obtain⟨i,e,rfl⟩:=ba g;have a:i<L.length:=zO;exact⟨L[i],au a,d i _ _ (aa e) (aa a)⟩
def jjw (hm:P.follows .mixedOrders=true) (hE:EnvOk P E):∀n,joh P E (yK E n)
 |0=>λγ0 Iy y hy=>⟨λf g r h=>(by cases h),λf g ob tk b u r h=>(by cases h),λf g ob tk ro Q ub l h=>(by cases h),hy,hE.nw⟩
 |n+1=>by
  have ih:=jjw hm hE n
  intro γ0 Iy y hy
  -- the results of a function that shares nothing,and of one that only looks
  have b5:∀{D:Func}{M:AF}{r:V}{w0 w:World}{I0 I:IMap}{γ:Nat->Option Place}{nt:Nat}{st:St}{a:Act}{e:Ex}{Rp:Ending->World->Prop},D.results.toList.mapM (Yh P)=some M.res->R E w0 I0 nt γ I st a w->jc2 M.res (e,st)=some r ->
   (∀x τ I' w',w0.grownBy w' none->(∀b o x,I b o=some x->I' b o=some x)->jog I' w'->(∀b o,b<w0.heap.size->I' b o=I0 b o)->j1c τ I' x r->joc w0.heap.size τ I' w' r->Rp (.returned x) w') ->
   bodyPostM (FW none) 0 P D Rp (exOf e) a w:=by
   intro D M r w0 w I0 I γ nt st a e Rp p hR he hK
   have S:e=.nrm\/e=.ret:=by cases e<;>first|exact .inl rfl|exact .inr rfl|cases he
   have b6:(if j6w st then (M.res.mapM (jv st.noDf)).bind (WQ st.noDf) else none)=some r:=by rcases S with rfl|rfl<;>exact he
   simp only[aC]at b6
   obtain⟨hd,b6⟩:=b6
   refine jes S (j3p hR hd λw' i=>?_)
   obtain⟨vs,c2,c7⟩:=yc b6
   obtain⟨ys,k1,k2,k3⟩:=jil i p c2
   obtain⟨τ,I2,q1,q2,q3,q4,q5⟩:=out_ok i k1 k3 c7
   exact⟨_,k2,hK _ τ I2 _ i.fr q1 q2 (λb o T=>(q3 b o T).trans (i.old b o T)) q4 q5⟩
  refine⟨λf g r h=>?_,λf g ob tk Q ub r h=>?_,λf g ob tk ro Q ub L h=>?_,hy,hE.nw⟩
  ·simp only[yK]at h
   obtain⟨M,Z,h⟩:=yc h
   obtain⟨m,D,c,J,T,q,p,B,H⟩:=hE.fc f M Z
   refine⟨⟨D,c,J,T,B⟩,λw I G c5 d7 X K=>?_⟩
   obtain⟨l,hx,b0⟩:=jmr h
   refine jhi (callsIn_of_wp_marks (F:=FW none) (n:=0) J T trivial ?_)
   have U:D.ntmps<=(G++Array.replicate (D.ntmps-G.size) undef).size:=by simp;omega
   have hR:R E w I (G++Array.replicate (D.ntmps-G.size) undef).size (λ_=>none) I (ja6 g) { tmps:=G++Array.replicate (D.ntmps-G.size) undef,defers:=[] } w :=
    ⟨rfl,trivial,λt=>jp2 X (λj x v hx hv=>.pure _ _ (K j x v hx hv)) t,⟨c5,d7,⟨λ_=>none,⟨λl o h=>(by cases h),λu h=>(by cases h),λb o h=>(by cases h)⟩⟩,⟨rfl,rfl,rfl,zK,λ_ _ _=>rfl⟩,λ_ _ _=>rfl⟩⟩
   refine jqg hm ih n (y:=noY) (γ0:=λ_=>none) (Iy:=I) jm0 c M.body m false none (.inr rfl) q (jd6 U _ H) w I _ _ l _ _ _ _ (SubG.refl _) (SubI.refl _) hx hR (λ_ _=>rfl) (λy hy=>?_)
   obtain⟨e,s⟩:=y
   intro c4 I' a' w' i c1 hg hI
   refine b5 p i (b0 _ hy) (λx τ I2 w2 O h3 h4 h5 h6 h7=>?_)
   exact⟨x,τ,I2,rfl,O,λb o x h=>h3 b o x (hI b o x h),h4,h5,h6,h7⟩
  ·simp only[yK]at h
   by_cases c6:E.fz f
   ·simp only[c6,zd]at h
    obtain⟨N,ha,h⟩:=yc h
    obtain⟨r',h1,O⟩:=yc h
    simp only[aC,ae]at O
    obtain⟨O,rfl⟩:=O
    have hd:=(ih γ0 Iy noY jm0).d f N r' h1
    exact⟨hd.1,frz_ok hd.2 ha O⟩
   simp only[c6,ah,zc]at h
   obtain⟨M,Z,h⟩:=yc h
   obtain⟨m,D,c,J,T,q,p,B,H⟩:=hE.fs f M Z
   refine⟨⟨D,c,J,T,B⟩,λw0 w I0 I γ G st b9 a0 b7 X K=>?_⟩
   obtain⟨l,hx,b0⟩:=jmr h
   refine jhi (callsIn_of_wp_marks (F:=FW none) (n:=0) J T trivial ?_)
   have U:D.ntmps<=(G++Array.replicate (D.ntmps-G.size) undef).size:=by simp;omega
   have hR:R E w I (G++Array.replicate (D.ntmps-G.size) undef).size γ I (XA g ob (λ_=>false) ub Q ub) { tmps:=G++Array.replicate (D.ntmps-G.size) undef,defers:=[] } w:=by
    obtain⟨Ω,ho⟩:=a0.own
    refine⟨rfl,trivial,λt=>jp2 X K t,⟨a0.imm,a0.gl,⟨Ω,⟨λl o hl=>?_,λu h=>(by cases h),ho.lt⟩⟩,⟨rfl,rfl,rfl,zK,λ_ _ _=>rfl⟩,λ_ _ _=>rfl⟩⟩
    have e0:st.ob l=some o:=b9 l o hl
    obtain⟨b,k,h1,O,h3,h4,h5⟩:=ho.ob l o e0
    refine⟨b,k,h1,O,λc3=>?_,h4.keep (λl2 u2 e2 e3 mb mk _ d2=>.inl ⟨b9 _ _ d2,λm c hm=>hm⟩),h5⟩
    rw[b7 _ c3]at h1
    cases h1
   refine jqg hm ih n (y:=noY) (γ0:=γ) (Iy:=I) jm0 c M.body m true none (.inr rfl) q (jd6 U _ H) w I _ _ l _ _ _ _ (SubG.refl _) (SubI.refl _) hx hR b7 (λy hy=>?_)
   obtain⟨e,s⟩:=y
   intro c4 I' a' w' i c1 hg hI
   refine b5 p i (b0 _ hy) (λx τ I2 w2 O h3 h4 h5 h6 h7=>?_)
   exact⟨x,τ,I2,rfl,O,λb o x h=>h3 b o x (hI b o x h),h4,h5,h6,h7⟩
  ·simp only[yK]at h
   by_cases c8:E.tw f
   ·simp only[c8,zd]at h
    obtain⟨N,ha,h⟩:=yc h
    obtain⟨r',h1,O⟩:=yc h
    have hd:=(ih γ0 Iy noY jm0).d f N r' h1
    obtain⟨⟨_,_,_,_⟩,h3,rfl⟩:=yh O
    exact⟨hd.1,j7l hd.2 ha h3⟩
   simp only[c8,ah,zc]at h
   cases b8:E.srt f with
   |some m=>
    simp only[b8]at h
    obtain⟨⟨_,_,_,_⟩,h3,rfl⟩:=yh h
    exact⟨(hE.srt f m b8).1,j7r (hE.srt f m b8) h3⟩
   |none=>
   simp only[b8]at h
   obtain⟨M,Z,h⟩:=yc h
   obtain⟨m,D,c,J,T,q,p,B,H⟩:=hE.fs f M Z
   refine⟨⟨D,c,J,T,B⟩,λw0 w I0 I γ G st d5 d9 b9 d8 c3 a0 b7 X K=>?_⟩
   obtain⟨l0,hx,h⟩:=yc h
   have h:l0.mapM (endS M.res)=some L:=by
    split at h
    ·exact h
    ·split at h
     ·obtain⟨r,h1,rfl⟩:=yh h
      simp only[bP,h1,gx]
      rfl
     ·cases h
   refine jhi (callsIn_of_wp_marks (F:=FW none) (n:=0) J T trivial ?_)
   have U:D.ntmps<=(G++Array.replicate (D.ntmps-G.size) undef).size:=by simp;omega
   have hR:R E w0 I0 (G++Array.replicate (D.ntmps-G.size) undef).size γ I (XA g ob tk ro Q ub) { tmps:=G++Array.replicate (D.ntmps-G.size) undef,defers:=[] } w :=
    ⟨rfl,trivial,λt=>jp2 X K t,a0.congr b9.symm d8.symm c3.symm⟩
   refine jqg hm ih n (y:=y) hy c M.body m true none (.inr rfl) q (jd6 U _ H) w0 I0 _ _ l0 _ _ _ _ d5 d9 hx hR b7 (λz hz=>?_)
   have c9:=jle _ hx _ hz
   obtain⟨⟨r,d6,d3,e1⟩,d0,h⟩:=j3m h hz
   obtain⟨e,s⟩:=z
   intro c4 I' a' w' i c1 hg hI
   have S:e=.nrm\/e=.ret:=by cases e<;>first|exact .inl rfl|exact .inr rfl|cases h
   have h':(if s.df.isEmpty then (M.res.mapM (jv s)).map λl=>(match l with |[v]=>v|l=>.tup l,s.ob,s.tk,s.nx) else none)=some (r,d6,d3,e1):=by rcases S with rfl|rfl<;>exact h
   simp only[aC]at h'
   obtain⟨c0,h'⟩:=h'
   have c0:s.df=[]:=dV.1 c0
   have d4:a'.defers=[]:=by
    have:=i.df
    simp only[c0]at this
    cases d1:a'.defers with
    |nil=>rfl
    |cons d ds=>rw[d1]at this;exact this.elim
   refine jes S ?_
   rw[d4]
   obtain⟨vs,c2,he⟩:=yh h'
   obtain⟨ys,k1,k2,k3⟩:=jil i p c2
   simp only[bZ]at he
   obtain⟨he,rfl,rfl,rfl⟩:=he
   refine⟨_,k2,_,d0,_,c4,I',rfl,λe4 h1 O h3=>i.sh.congr h1 O (h3.trans c9.symm),?_,hg,hI,c1⟩
   match ys,vs,k1,k3,he with
   |[],[],_,_,rfl=>exact .tup _ _ rfl (λj y u hy=>by simp at hy)
   |[y],[v],_,k3,rfl=>exact k3 0 y v rfl rfl
   |y::y'::ys,v::v'::vs,e,k3,rfl=>exact .tup _ _ (by simpa using e) (λj z u hz hu=>k3 j z u (by simpa using hz) hu)
def Ev.sound (b:P.follows .mixedOrders=true) (a:EnvOk P E) {f:FuncId}{args:List V}{r:V}(h:Ev E f args r):joe P E f args r:=by obtain⟨n,h⟩:=h;exact((jjw b a n (λ_=>none) (λ_ _=>none) noY jm0).d f args r h).2
end
def EvO (E:Env) (f:FuncId) (args:List V) (ob:ZO) (tk:Nat->Bool) (base ub:Nat) (r:V):Prop:=∃n,(yK E n noY).o f args ob tk base ub=some r
def EvS (E:Env) (y:Nat->Y) (f:FuncId) (args:List V) (ob:ZO) (tk:Nat->Bool) (ro base ub:Nat) (r:V×(ZO)×(Nat->Bool)×Nat):Prop:=∃n,(yK E n (y n)).s f args ob tk ro base ub=some [r]
def EvSL (E:Env) (y:Nat->Y) (f:FuncId) (args:List V) (ob:ZO) (tk:Nat->Bool) (ro base ub:Nat) (Q:V×(ZO)×(Nat->Bool)×Nat->Prop):Prop:=∃n l,(yK E n (y n)).s f args ob tk ro base ub=some l/\l≠[]/\∀r∈l,Q r
def EvS.list {E:Env}{y:Nat->Y}{f:FuncId}{args:List V}{ob:ZO}{tk:Nat->Bool}{ro base ub:Nat}{Q:V×(ZO)×(Nat->Bool)×Nat->Prop}(h:∃r,EvS E y f args ob tk ro base ub r/\Q r):EvSL E y f args ob tk ro base ub Q:=by obtain⟨r,⟨n,c⟩,b⟩:=h;exact⟨n,[r],c,zS,λx a=>by rw[ag]at a;exact a▸b⟩
structure YF where
 y:Nat->Y
 mono:∀{n m:Nat},n<=m->YLe (y n) (y m)
def YU:YF:=⟨λ_=>noY,λ_=>YLe.refl _⟩
def EvY (Yf:YF) (l u:Nat) (xs:List V) (ob:ZO) (tk:Nat->Bool) (ro ub:Nat) (r:V×(ZO)×(Nat->Bool)×Nat):Prop:=∃n,Yf.y n l u xs ob tk ro ub=some r
def WY (E:Env) (Yf:YF) (c:C) (st:St) (Q:Ex->St->Prop):Prop:=∃n l,jh E (yK E n) (Yf.y n) n c st=some l/\l≠[]/\∀x∈l,Q x.1 x.2
def jbd (E:Env) (f:FuncId) (xs:List V) (st:St) (dst:Option Nat) (ub:Nat) (K:St->Nat->Prop):Prop :=
 xs.all V.pureTop=true/\∃v,Ev E f xs v/\∃δ,Xt ub v=some δ/\K (st.app dst δ) (ub+64)
def jB (E:Env) (Yf:YF) (o:AOpr) (st:St) (ub:Nat) (K:St->Nat->Prop):Prop :=
 match yJ o st.tm with
 |none=>False
 |some false=>K { st with tm:=put st.tm o.dst js } ub
 |some true=>match jj (ye E st.tm) o.op with
  |some (l,u,xs)=>∃r,EvY Yf l u xs st.ob st.tk st.ro ub r/\K { st with tm:=put st.tm o.dst r.1,ob:=r.2.1,tk:=r.2.2.1 } r.2.2.2
  |none=>match jC E o.nm (ye E st.tm) o.op with
   |some (f,xs)=>(E.sh o.nm f=true/\EvSL E Yf.y f xs st.ob st.tk st.ro ((st.fb+o.dst.getD 0+1)*1024) ub λr=>K { st with tm:=put st.tm o.dst r.1,ob:=r.2.1,tk:=r.2.2.1 } r.2.2.2) \/
    (E.sh o.nm f=false/\∃v,EvO E f xs st.ob st.tk ((st.fb+o.dst.getD 0+1)*1024) ub v/\∃δ,Xt ub v=some δ/\K (st.app o.dst δ) (ub+64))
   |none=>match o.op with
    | .call f xs=>jbd E f (xs.map λx=>(ye E st.tm x).strip) st o.dst ub K
    | .callV q xs=>∃f first captured,ye E st.tm q=.fn (.func f) first captured/\jbd E f ((first++xs.map (ye E st.tm)++captured).map V.strip) st o.dst ub K
    | .nextMap x=>∃l,Xf st.ob st.ro (ye E st.tm x)=some l/\∀δ∈l,K (st.app o.dst δ) (ub+64)
    |op=>∃δ,yS (λ_ _=>none) (ye E st.tm) st.ob st.tk st.ro (o.name st.fb ub) ub op=some δ/\K (st.app o.dst δ) (ub+64)
def QT (E:Env) (Yf:YF):List AOpr->St->Nat->(St->Prop)->Prop
 |[],st,ub,K=>K { st with nx:=ub }
 |o::r,st,ub,K=>jB E Yf o st ub λst ub=>QT E Yf r st ub K
def jG (E:Env):List AOpr->St->Nat->(List FP->St->Prop)->Prop
 |[],st,ub,K=>K [] { st with nx:=ub }
 |o::r,st,ub,K=>
  match yJ o st.tm with
  |none=>False
  |some false=>jG E r (st.app o.dst { v:=js }) (ub+64) λfs s=>K ({}::fs) s
  |some true=>match jC E o.nm (ye E st.tm) o.op with
   |some (f,xs)=>(E.sh o.nm f=false/\∃v,EvO E f xs st.ob st.tk ((st.fb+o.dst.getD 0+1)*1024) (ub+64*(r.length+1)) v/\∃δ,Xt ub v=some δ /\
    jG E r (st.app o.dst δ) (ub+64) λfs s=>K ({ wt:=δ.wt,all:=true,seen:=λl=>(st.ob l).isSome }::fs) s) \/
    (E.sh o.nm f=true/\E.tw f=true/\∃a' v,xs.mapM (Wu st.ob)=some a'/\Ev E f a' v/\∃δ,ja4 (o.name st.fb ub) ub v=some δ /\
    jG E r (st.app o.dst δ) (ub+64) λfs s=>K ({ wo:=δ.wo,all:=true,seen:=λl=>(st.ob l).isSome,nw:=true }::fs) s) \/
    (E.sh o.nm f=true/\E.tw f=false/\∃δ,mkD E f xs (o.name st.fb ub) ub=some δ/\jG E r (st.app o.dst δ) (ub+64) λfs s=>K ({ wo:=δ.wo,nw:=true }::fs) s)
   |none=>o.op.far=false/\match o.op with
    | .call f xs=>(xs.all λx=>(ye E st.tm x).strip.pureTop)=true/\∃v,Ev E f (xs.map λx=>(ye E st.tm x).strip) v/\∃δ,Xt ub v=some δ/\jG E r (st.app o.dst δ) (ub+64) λfs s=>K (Qe (ye E st.tm) o.op δ::fs) s
    | .callV q xs=>∃f first captured,ye E st.tm q=.fn (.func f) first captured/\((first++xs.map (ye E st.tm)++captured).map V.strip).all V.pureTop=true/\∃v,Ev E f ((first++xs.map (ye E st.tm)++captured).map V.strip) v/\∃δ,Xt ub v=some δ /\
     jG E r (st.app o.dst δ) (ub+64) λfs s=>K (Qe (ye E st.tm) o.op δ::fs) s
    |op=>∃δ,yS (λ_ _=>none) (ye E st.tm) st.ob st.tk st.ro (o.name st.fb ub) ub op=some δ/\jG E r (st.app o.dst δ) (ub+64) λfs s=>K (Qe (ye E st.tm) o.op δ::fs) s
def Ys (W:St->(Ex->St->Prop)->Prop):Nat->St->(Ex->St->Prop)->Prop
 |0,_,_=>False
 |n+1,st,Q=>W st λe s=>match e with
  | .nrm=>Ys W n s Q
  |e=>Q e s
def wpC (E:Env) (Yf:YF):C->St->(Ex->St->Prop)->Prop
 | .skip,st,Q=>Q .nrm st
 | .region ops,st,Q=>QT E Yf ops st st.nx λs=>Q .nrm s
 | .draw ops free,st,Q=>jG E ops st st.nx λfs s=>Jc free fs=true/\jbw fs=true/\Q .nrm s
 | .pin o fs,st,Q=>jB E Yf o st st.nx λs ub=>jG E fs s ub λ_ s'=>WI fs st s'=true/\Q .nrm s'
 | .seq a b,st,Q=>wpC E Yf a st λe s=>match e with
  | .nrm=>wpC E Yf b s Q
  |e=>Q e s
 | .cond c a b,st,Q=>∃t,ye E st.tm c=.bool t/\(t=true->wpC E Yf a st Q)/\(t=false->wpC E Yf b st Q)
 | .block id a,st,Q=>wpC E Yf a st λe s=>match e with
  | .exit i=>if i=id then Q .nrm s else Q (.exit i) s
  |e=>Q e s
 | .loop a,st,Q=>∃N,Ys (wpC E Yf a) N st Q
 | .exit id,st,Q=>Q (.exit id) st
 | .ret,st,Q=>Q .ret st
 | .rangeFunc f ps asg bd,st,Q=>WY E Yf (.rangeFunc f ps asg bd) st Q
 | .stuck,_,_=>False
def jc5 (E:Env) (n:Nat) (y:Y):(yK E n y).d=(yK E n noY).d:=by cases n<;>rfl
def jn0 (E:Env) (n:Nat) (y:Y):(yK E n y).o=(yK E n noY).o:=by cases n<;>rfl
def j00 (E:Env) (n:Nat) (y:Y):(yK E n y).y=y:=by cases n<;>rfl
section
variable {E:Env}{Yf:YF}
def jh0 {a:Type}{p:a->Prop}{l m:List a}(c:∀x∈l,p x) (b:∀x∈m,p x):∀x∈l++m,p x:=λx d=>(aQ.1 d).elim (c x) (b x)
def jai {j k:Type}{f:Nat->j->Option (List k)}(b:∀n m,n<=m->∀a,le (f n a) (f m a)) {Q:k->Prop}:∀(l:List j),l≠[]->(∀a∈l,∃n r,f n a=some r/\r≠[]/\∀x∈r,Q x) ->
 ∃n r,(∀m,n<=m->jbm (f m) l=some r)/\r≠[]/\∀x∈r,Q x
 |[],h,_=>zf rfl h
 |[x],_,h=>by obtain⟨n,r,i,c,d⟩:=h x (ag.2 rfl);exact⟨n,r,λm o=>b n m o x r i,c,d⟩
 |x::y::l,_,h=>by obtain⟨n,r,i,c,d⟩:=h x (aK ..);obtain⟨p,s,e,q,g⟩:=jai b (y::l) zS (λa t=>h a (aS _ t));refine⟨max n p,r++s,λm o=>?_,by simp[c],jh0 d g⟩;simp only[jbm];rw[b n m zO x r i,e m zO];rfl
abbrev cs (E:Env) (n:Nat):Y->Callers:=yK E n
def XW (n m:Nat) (h:n<=m):FLe (cs E n) (cs E m):=Jz n m h
def jww {o:AOpr}{st:St}{ub:Nat}{K:St->Nat->Prop}(h:jB E Yf o st ub K):∃n l,jec E (cs E n (Yf.y n)) o st ub=some l/\l≠[]/\∀x∈l,K x.1 x.2:=by
 have one:∀{s:St}{u:Nat},K s u->∀x∈[(s,u)],K x.1 x.2:=λh x F=>by rw[ag]at F;subst F;exact h
 unfold jB at h;unfold jec;cases J:yJ o st.tm with
 |none=>simp only[J]at h
 |some b=>
  cases b with
  |false=>simp only[J]at h;exact⟨0,_,rfl,cQ _ _,one h⟩
  |true=>
   simp only[J]at h;cases D:jj (ye E st.tm) o.op with
   |some x=>obtain⟨l,u,p⟩:=x;simp only[D]at h;obtain⟨r,⟨n,L⟩,g⟩:=h;exact⟨n,[({ st with tm:=put st.tm o.dst r.1,ob:=r.2.1,tk:=r.2.2.1 },r.2.2.2)],by simp only[cs,j00,L,aU],cQ _ _,one g⟩
   |none=>
   simp only[D]at h ⊢;cases z:jC E o.nm (ye E st.tm) o.op with
   |some P=>obtain⟨f,p⟩:=P;simp only[z]at h;rcases h with⟨B,n,l,L,k,g⟩|⟨B,v,⟨n,M⟩,c,i,g⟩;refine⟨n,l.map λx=>({ st with tm:=put st.tm o.dst x.1,ob:=x.2.1,tk:=x.2.2.1 },x.2.2.2),?_,by simpa using k,λx F=>?_⟩;simp only[B,zd,cs,L,aU];obtain⟨r,H,rfl⟩:=aE.1 F;exact g r H;refine⟨n,[(st.app o.dst c,ub+64)],?_,cQ _ _,one g⟩;simp only[B,ah,zc,cs,jn0,M,ap,i,aU]
   |none=>
    simp only[z]at h;have j:∀{f:FuncId}{p:List V},jbd E f p st o.dst ub K->∃n c,jd9 (cs E n (Yf.y n)).d ub f p=some c/\K (st.app o.dst c) (ub+64):=by rintro f p ⟨O,v,⟨n,M⟩,c,i,g⟩;exact⟨n,c,by simp only[jd9,O,zd,cs,jc5,M,ap,i],g⟩
    split at h;rename_i f p m;obtain⟨n,c,N,g⟩:=j h;refine⟨n,[(st.app o.dst c,ub+64)],?_,cQ _ _,one g⟩;simp only[m,AOp.next?,yS,N,aU];rename_i q p m;obtain⟨f,first,t,I,h⟩:=h;obtain⟨n,c,N,g⟩:=j h;refine⟨n,[(st.app o.dst c,ub+64)],?_,cQ _ _,one g⟩;simp only[m,AOp.next?,yS,I,N,aU];rename_i x m;obtain⟨l,a,g⟩:=h;refine⟨0,l.map λc=>(st.app o.dst c,ub+64),?_,?_,λy D=>?_⟩;simp only[m,AOp.next?,a,aU];intro e;have G:l=[]:=gt.1 e;subst G;unfold Xf at a;split at a;split at a;split at a;split at a;cases a;rename_i U k;simp only[ae]at a;unfold jmm at a;split at a;exact k rfl;cases a;cases a;split at a;cases a;cases a;cases a;cases a;obtain⟨c,i,rfl⟩:=aE.1 D;exact g c i;rename_i X B T Q;obtain⟨c,i,g⟩:=h;refine⟨0,[(st.app o.dst c,ub+64)],?_,cQ _ _,one g⟩;have S:o.op.next? = none:=by
     cases m:o.op with
     |nextMap x=>exact zf m (Q x)
     |_=>rfl
    have w:yS (cs E 0 (Yf.y 0)).d (ye E st.tm) st.ob st.tk st.ro (o.name st.fb ub) ub o.op=some c:=jdb (λ_ _ _ h=>by cases h) _ _ _ _ _ _ _ _ i;simp only[S,w,aU]
def j59:∀{ops:List AOpr}{st:St}{ub:Nat}{K:St->Prop},QT E Yf ops st ub K->∃n l,jkp E (cs E n (Yf.y n)) ops st ub=some l/\l≠[]/\∀x∈l,K x
 |[],st,ub,K,h=>⟨0,_,rfl,cQ _ _,λx a=>by rw[ag]at a;subst a;exact h⟩
 |o::r,st,ub,K,h=>by obtain⟨n,l,p,i,j⟩:=jww h;obtain⟨e,k,c,b,d⟩:=jai (f:=λn (x:St×Nat)=>jkp E (cs E n (Yf.y n)) r x.1 x.2) (λn m g x=>jgj (XW n m g _ _ (Yf.mono g)) r x.1 x.2) l i (λx a=>j59 (j x a));refine⟨max n e,k,?_,b,d⟩;simp only[jkp,bindL];rw[jcb (XW n (max n e) zO _ _ (Yf.mono zO)) o st ub l p];exact c _ zO
def jb1:∀{ops:List AOpr}{st:St}{ub:Nat}{K:List FP->St->Prop},jG E ops st ub K->∃n p,Yg E (cs E n (Yf.y n)) ops st ub=some p/\K p.1 p.2
 |[],st,ub,K,h=>⟨0,_,rfl,h⟩
 |o::r,st,ub,K,h=>by
  unfold jG at h;unfold Yg;cases H:yJ o st.tm with
  |none=>simp only[H]at h
  |some b=>
   cases b with
   |false=>simp only[H]at h;obtain⟨n,p,g,e⟩:=jb1 h;exact⟨n,({}::p.1,p.2),by simp only[g,aU],e⟩
   |true=>
    simp only[H]at h;simp only;cases z:jC E o.nm (ye E st.tm) o.op with
    |some M=>
     obtain⟨f,B⟩:=M;simp only[z]at h;rcases h with h|⟨u,i,L,v,J,⟨n,m⟩,δ,a,h⟩|⟨u,i,δ,a,h⟩;case inr.inr=>obtain⟨c,p,g,e⟩:=jb1 h;refine⟨c,({ wo:=δ.wo,nw:=true }::p.1,p.2),?_,e⟩;simp only[u,i,zd,ah,zc,a,ap,g,aU]
     case inr.inl=>
      obtain⟨c,p,g,e⟩:=jb1 h;refine⟨max n c,({ wo:=δ.wo,all:=true,seen:=λl=>(st.ob l).isSome,nw:=true }::p.1,p.2),?_,e⟩;have k:(cs E n (Yf.y n)).d f L=some v:=by rw[cs,jc5];exact m
      simp only[u,i,zd,J,ap];rw[(XW n (max n c) zO _ _ (Yf.mono zO)).d _ _ _ k];simp only[ap,a];rw[Jr (XW c (max n c) zO _ _ (Yf.mono zO)) _ _ _ _ g];rfl
     obtain⟨u,v,⟨n,m⟩,δ,a,h⟩:=h;obtain⟨c,p,g,e⟩:=jb1 h;refine⟨max n c,({ wt:=δ.wt,all:=true,seen:=λl=>(st.ob l).isSome }::p.1,p.2),?_,e⟩;simp only[u,ah,zc];have k:(cs E n (Yf.y n)).o f B st.ob st.tk ((st.fb+o.dst.getD 0+1)*1024) (ub+64*(r.length+1))=some v:=by rw[cs,jn0];exact m
     rw[(XW n (max n c) zO _ _ (Yf.mono zO)).o _ _ _ _ _ _ _ k];simp only[ap,a];rw[Jr (XW c (max n c) zO _ _ (Yf.mono zO)) _ _ _ _ g];rfl
    |none=>
     simp only[z]at h;obtain⟨w,h⟩:=h;simp only[w,ah,zc];have j:∀{n:Nat}{δ:Delta},yS (cs E n (Yf.y n)).d (ye E st.tm) st.ob st.tk st.ro (o.name st.fb ub) ub o.op=some δ->jG E r (st.app o.dst δ) (ub+64) (λfs s=>K (Qe (ye E st.tm) o.op δ::fs) s) ->
      ∃n p,((yS (cs E n (Yf.y n)).d (ye E st.tm) st.ob st.tk st.ro (o.name st.fb ub) ub o.op).bind λδ=>(Yg E (cs E n (Yf.y n)) r (st.app o.dst δ) (ub+64)).map λx=>(Qe (ye E st.tm) o.op δ::x.1,x.2))=some p/\K p.1 p.2:=by
      intro n δ a h
      obtain⟨c,p,g,e⟩:=jb1 h
      refine⟨max n c,(Qe (ye E st.tm) o.op δ::p.1,p.2),?_,e⟩
      rw[jdb (XW n (max n c) zO _ _ (Yf.mono zO)).d _ _ _ _ _ _ _ _ a,ap,Jr (XW c (max n c) zO _ _ (Yf.mono zO)) _ _ _ _ g]
      rfl
     split at h;rename_i f B I;obtain⟨G,v,⟨n,m⟩,δ,a,h⟩:=h;refine j (n:=n) (δ:=δ) ?_ h;have F:(B.map λx=>(ye E st.tm x).strip).all V.pureTop=true:=by rw[dG];exact G
     simp only[I,yS,jd9,F,zd,cs,jc5,m,ap,a];rename_i q B I;obtain⟨f,first,t,D,G,v,⟨n,m⟩,δ,a,h⟩:=h;refine j (n:=n) (δ:=δ) ?_ h;simp only[I,yS,D,jd9,G,zd,cs,jc5,m,ap,a];obtain⟨δ,a,h⟩:=h;exact j (n:=0) (jdb (λ_ _ _ h=>by cases h) _ _ _ _ _ _ _ _ a) h
def j65:∀{c:C}{st:St}{Q:Ex->St->Prop},wpC E Yf c st Q->WY E Yf c st Q:=by
 intro c;induction c with
 |skip=>intro st Q h;exact⟨0,_,rfl,zS,λx d=>by rw[ag]at d;subst d;exact h⟩
 |ret=>intro st Q h;exact⟨0,_,rfl,zS,λx d=>by rw[ag]at d;subst d;exact h⟩
 |exit id=>intro st Q h;exact⟨0,_,rfl,zS,λx d=>by rw[ag]at d;subst d;exact h⟩
 |stuck=>intro st Q h;exact h.elim
 |rangeFunc f ps a b=>intro st Q h;exact h
 |region M=>intro st Q h;obtain⟨n,l,j,g,v⟩:=j59 h;refine⟨n,l.map λs=>(.nrm,s),by simp only[jh];rw[j];rfl,by simpa using g,λx d=>?_⟩;obtain⟨s,O,rfl⟩:=aE.1 d;exact v s O
 |pin o fs=>
  intro st Q h;obtain⟨n,l,j,g,v⟩:=jww h;obtain⟨D,H,z,u,B⟩:=jai (f:=λn (x:St×Nat)=>(Yg E (cs E n (Yf.y n)) fs x.1 x.2).bind λp=>if WI fs st p.2 then some [(Ex.nrm,p.2)] else none) (Q:=λx=>Q x.1 x.2) (λn m w x=>(Jr (XW n m w _ _ (Yf.mono w)) fs x.1 x.2).bind λ_=>le.rfl' _) l g (λx d=>by
   obtain⟨k,p,L,O,hQ⟩:=jb1 (v x d);exact⟨k,[(.nrm,p.2)],by rw[L,ap,zb O],cQ _ _,λy Z=>by rw[ag]at Z;subst Z;exact hQ⟩)
  refine⟨max n D,H,?_,u,B⟩;simp only[jh,bindL];rw[jcb (XW n (max n D) zO _ _ (Yf.mono zO)) o st st.nx l j];exact z _ zO
 |draw M free=>intro st Q h;obtain⟨n,p,j,g,u,v⟩:=jb1 h;refine⟨n,[(.nrm,p.2)],?_,zS,λx d=>by rw[ag]at d;subst d;exact v⟩;simp only[jh];rw[j];simp only[ap,g,u,di,zd]
 |seq a b F G=>
  intro st Q h;obtain⟨n,l,j,g,v⟩:=F h;obtain⟨D,H,z,u,B⟩:=jai (f:=λn (x:Ex×St)=>match x with
   |(.nrm,st')=>jh E (cs E n) (Yf.y n) n b st'
   |(e,st')=>some [(e,st')]) (Q:=λx=>Q x.1 x.2) (λn m w x=>by
    obtain⟨e,s⟩:=x;cases e;exact jp (XW n m w) w b _ _ (Yf.mono w) s;exact le.rfl' _;exact le.rfl' _) l g (λx d=>by
    obtain⟨e,s⟩:=x;have:=v _ d;cases e with
    |nrm=>exact G this
    |exit i=>exact⟨0,_,rfl,zS,λx d=>by rw[ag]at d;subst d;exact this⟩
    |ret=>exact⟨0,_,rfl,zS,λx d=>by rw[ag]at d;subst d;exact this⟩)
  refine⟨max n D,H,?_,u,B⟩;simp only[jh,bindL];rw[jp (XW n (max n D) zO) zO a _ _ (Yf.mono zO) st l j];exact z _ zO
 |cond q a b F G=>
  intro st Q h;obtain⟨t,X,j,g⟩:=h;cases t with
  |true=>obtain⟨n,l,I,T,J⟩:=F (j rfl);exact⟨n,l,by simp only[jh,X];exact I,T,J⟩
  |false=>obtain⟨n,l,I,T,J⟩:=G (g rfl);exact⟨n,l,by simp only[jh,X];exact I,T,J⟩
 |block id a U=>
  intro st Q h;obtain⟨n,l,j,g,v⟩:=U h;refine⟨n,_,by simp only[jh];rw[j];rfl,by simpa using g,λx d=>?_⟩;obtain⟨p,L,rfl⟩:=aE.1 d;have:=v p L;obtain⟨e,s⟩:=p;cases e with
  |nrm=>exact this
  |ret=>exact this
  |exit i=>simp only at this ⊢;split at this;rename_i S;simp only[S,zd];exact this;rename_i S;simp only[S,zc];exact this
 |loop a U=>
  intro st Q h;obtain⟨N,h⟩:=h;have K:∀(N:Nat) (st:St),Ys (wpC E Yf a) N st Q->∃n l,(∀m k,n<=m->n<=k->jcs (jh E (cs E m) (Yf.y m) m a) k st=some l)/\l≠[]/\∀x∈l,Q x.1 x.2:=by
   intro N;induction N with
   |zero=>intro st h;exact h.elim
   |succ N P=>
    intro st h;obtain⟨n,l,j,g,v⟩:=U h;obtain⟨D,H,z,u,B⟩:=jai (f:=λn (x:Ex×St)=>match x with
     |(.nrm,st')=>jcs (jh E (cs E n) (Yf.y n) n a) n st'
     |(e,st')=>some [(e,st')]) (Q:=λx=>Q x.1 x.2) (λn m w x=>by
      obtain⟨e,s⟩:=x;cases e;exact jas (λs=>jp (XW n m w) w a _ _ (Yf.mono w) s) n m w s;exact le.rfl' _;exact le.rfl' _) l g (λx d=>by
      obtain⟨e,s⟩:=x;have:=v _ d;cases e with
      |nrm=>obtain⟨k,r,q1,q2,q3⟩:=P s this;exact⟨k,r,q1 k k zK zK,q2,q3⟩
      |exit i=>exact⟨0,_,rfl,zS,λx d=>by rw[ag]at d;subst d;exact this⟩
      |ret=>exact⟨0,_,rfl,zS,λx d=>by rw[ag]at d;subst d;exact this⟩)
    refine⟨max n D+1,H,λm k w hk=>?_,u,B⟩;obtain⟨k,rfl⟩:∃k',k=k'+1:=⟨k-1,zO⟩;simp only[jcs,bindL];rw[jp (XW n m zO) zO a _ _ (Yf.mono zO) st l j];have e1:=z (max n D) zO;refine jb2 (λx=>?_) l H e1;obtain⟨e,s⟩:=x;cases e;exact jas (λs=>jp (XW _ m zO) zO a _ _ (Yf.mono zO) s) _ k zO s;exact le.rfl' _;exact le.rfl' _
  obtain⟨n,l,j,g,v⟩:=K N st h;exact⟨n,l,j n n zK zK,g,v⟩
def Ev_wp {f:FuncId}{af:AF}{args:List V}{r:V}(a:E.fc f=some af) (h:wpC E YU af.body (ja6 args) λe s=>jc2 af.res (e,s)=some r):Ev E f args r:=Ev_of a (j65 h)
def Q4 {o:AOpr}{st:St}{ub:Nat}{K z:St->Nat->Prop}(h:∀s u,K s u->z s u) (a:jB E Yf o st ub K):jB E Yf o st ub z:=by
 have call:∀{f:FuncId}{i:List V},jbd E f i st o.dst ub K->jbd E f i st o.dst ub z:=by rintro f i ⟨D,v,y,g,c,e⟩;exact⟨D,v,y,g,c,h _ _ e⟩
 unfold jB at a ⊢;cases t:yJ o st.tm with
 |none=>simp only[t]at a
 |some b=>
  cases b with
  |false=>simp only[t]at a ⊢;exact h _ _ a
  |true=>
   simp only[t]at a ⊢;cases B:jj (ye E st.tm) o.op with
   |some x=>obtain⟨l,u,i⟩:=x;simp only[B]at a ⊢;obtain⟨r,w,e⟩:=a;exact⟨r,w,h _ _ e⟩
   |none=>
   simp only[B]at a ⊢;cases j:jC E o.nm (ye E st.tm) o.op with
   |some I=>simp only[j]at a ⊢;rcases a with⟨p,n,l,w,k,e⟩|⟨p,v,y,g,c,e⟩;exact .inl ⟨p,n,l,w,k,λr H=>h _ _ (e r H)⟩;exact .inr ⟨p,v,y,g,c,h _ _ e⟩
   |none=>
    simp only[j]at a ⊢;cases F:o.op<;>simp only[F]at a ⊢;case call f i=>exact call a
    case callV q i=>obtain⟨f,first,d,m,a⟩:=a;exact⟨f,first,d,m,call a⟩
    case nextMap x=>obtain⟨l,G,e⟩:=a;exact⟨l,G,λg c=>h _ _ (e g c)⟩
    all_goals
     obtain⟨g,c,e⟩:=a
     exact⟨g,c,h _ _ e⟩
def jdg:∀{ops:List AOpr}{st:St}{ub:Nat}{K a:St->Prop},(∀s,K s->a s)->QT E Yf ops st ub K->QT E Yf ops st ub a
 |[],_,_,_,_,h,hk=>h _ hk
 |_::_,_,_,_,_,h,hk=>Q4 (λ_ _=>jdg h) hk
def JJ:∀{ops:List AOpr}{st:St}{ub:Nat}{K p:List FP->St->Prop},(∀f s,K f s->p f s)->jG E ops st ub K->jG E ops st ub p
 |[],_,_,_,_,h,c=>h _ _ c
 |o::r,st,ub,K,p,h,c=>by
  unfold jG at c ⊢;cases l:yJ o st.tm with
  |none=>simp only[l]at c
  |some b=>
   cases b with
   |false=>simp only[l]at c ⊢;exact JJ (λ_ _=>h _ _) c
   |true=>
    simp only[l]at c ⊢;cases k:jC E o.nm (ye E st.tm) o.op with
    |some x=>simp only[k]at c ⊢;rcases c with⟨i,v,j,e,a,g⟩|⟨i,m,w,v,u,j,e,a,g⟩|⟨i,m,e,a,g⟩;exact .inl ⟨i,v,j,e,a,JJ (λ_ _=>h _ _) g⟩;exact .inr (.inl ⟨i,m,w,v,u,j,e,a,JJ (λ_ _=>h _ _) g⟩);exact .inr (.inr ⟨i,m,e,a,JJ (λ_ _=>h _ _) g⟩)
    |none=>
     simp only[k]at c ⊢;refine⟨c.1,?_⟩;have c:=c.2;cases t:o.op<;>simp only[t]at c ⊢;case call f xs=>obtain⟨i,v,j,e,a,g⟩:=c;exact⟨i,v,j,e,a,JJ (λ_ _=>h _ _) g⟩
     case callV q xs=>obtain⟨f,first,d,n,i,v,j,e,a,g⟩:=c;exact⟨f,first,d,n,i,v,j,e,a,JJ (λ_ _=>h _ _) g⟩
     all_goals
      obtain⟨e,a,g⟩:=c
      exact⟨e,a,JJ (λ_ _=>h _ _) g⟩
def jbo {W:St->(Ex->St->Prop)->Prop}(c:∀(st:St) (Q a:Ex->St->Prop),(∀e s,Q e s->a e s)->W st Q->W st a):∀{n:Nat}{st:St}{Q a:Ex->St->Prop},(∀e s,Q e s->a e s)->Ys W n st Q->Ys W n st a
 |0,_,_,_,_,h=>h
 |n+1,st,Q,a,h,hk=>c st _ _ (λe s b=>by
  cases e;exact jbo (W:=W) c h b;exact h _ _ b;exact h _ _ b) hk
def XM:∀{c:C}{st:St}{Q g:Ex->St->Prop},(∀e s,Q e s->g e s)->wpC E Yf c st Q->wpC E Yf c st g:=by
 intro c;induction c with
 |skip=>intro st Q g h d;exact h _ _ d
 |ret=>intro st Q g h d;exact h _ _ d
 |exit id=>intro st Q g h d;exact h _ _ d
 |stuck=>intro st Q g h d;exact d
 |rangeFunc f F a b=>intro st Q g h d;obtain⟨n,l,r,p,B⟩:=d;exact⟨n,l,r,p,λx D=>h _ _ (B x D)⟩
 |region v=>intro st Q g h d;exact jdg (λs=>h _ s) d
 |draw v free=>intro st Q g h d;exact JJ (λf s j=>⟨j.1,j.2.1,h _ _ j.2.2⟩) d
 |pin o fs=>intro st Q g h d;exact Q4 (λs u j=>JJ (λf s j=>⟨j.1,h _ _ j.2⟩) j) d
 |seq a b k m=>intro st Q g h d;refine k (λe s i=>?_) d;cases e;exact m h i;exact h _ _ i;exact h _ _ i
 |cond q a b k m=>intro st Q g h d;obtain⟨t,z,r,p⟩:=d;exact⟨t,z,λe=>k h (r e),λe=>m h (p e)⟩
 |block id a y=>intro st Q g h d;refine y (λe s i=>?_) d;cases e;exact h _ _ i;simp only at i ⊢;split at i;rename_i w;simp only[w,zd];exact h _ _ i;rename_i w;simp only[w,zc];exact h _ _ i;exact h _ _ i
 |loop a y=>intro st Q g h d;obtain⟨N,d⟩:=d;exact⟨N,jbo (W:=wpC E Yf a) (λ_ _ _ h d=>y h d) h d⟩
def j66 {a:C}{Q:Ex->St->Prop}(I:Nat->St->Prop) {n:Nat}{st:St}(l:I n st)
 (h:∀k s,I k s->wpC E Yf a s λe g=>match e with|.nrm=>∃j,j<k/\I j g|e=>Q e g):wpC E Yf (.loop a) st Q:=by
 refine⟨n+1,?_⟩;have c:∀n st j,j<=n->I j st->Ys (wpC E Yf a) (n+1) st Q:=by
  intro n;induction n with
  |zero=>intro st j o d;refine XM (λe s b=>?_) (h j st d);cases e;obtain⟨i,m,_⟩:=b;omega;exact b;exact b
  |succ n p=>intro st j o d;refine XM (λe s b=>?_) (h j st d);cases e;obtain⟨i,m,f⟩:=b;exact p s i zO f;exact b;exact b
 exact c n st n zK l
end
end Go.Pv
